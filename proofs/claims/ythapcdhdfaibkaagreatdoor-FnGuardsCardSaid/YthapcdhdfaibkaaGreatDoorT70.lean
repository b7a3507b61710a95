import Derived.Test.YthapcdhdfaibkaaGreatDoorT17
import Derived.Test.YthapcdhdfaibkaaGreatDoorT121
namespace Go.Proofs.YthapcdhdfaibkaaGreatDoor
open Go.RowKit
set_option linter.all false
set_option maxHeartbeats 2000000
attribute [local irreducible] Nop Yd Yp Ent Has Tr FnP FnP2 Src M5 U1 V6 W3 G3
variable {l0 G9 E5 G6 E6 : Int} {l : List (Int × List Int × Int × Int × Int)} {d9 : List IL} {f6 J2 t6 : List Int} {b_a B5 w5 b_bound m_bound c_bound I0 F2 m_l c_l b_is m_atoms c_atoms : Nat} {w6 a_bound F3 a_l a_atoms : Option Addr}
theorem a8A {i : Int} : TB Tryz.prog 307 [.int .i64 i, .pointer (some ⟨b_a, 0, none⟩), .pointer (some ⟨b_bound, 0, none⟩)] (fun w L => (I64 i) ∧ RoPt w L b_a [.int .i64 l0, .slice w6 B5 w5] ∧ I64 l0 ∧ Ro w L eIs [.slice w6 B5 w5] f6 ∧ RoPt w L b_bound [.slice a_bound m_bound c_bound] ∧ Ro w L eIs [.slice a_bound m_bound c_bound] J2) (a0V (l0, f6) J2 i) := by
 refine Ti3 Tryz.func307 30 rfl fun w L hR => ?_
 obtain ⟨i6i, hb_a, J4, y6, hb_bound, hbound⟩ := hR
 obtain ⟨rfl, Q5⟩ := y6.slen
 obtain ⟨rfl, lbound⟩ := hbound.slen
 refine Ew Z1<|Ei rfl<|Eu<|Eq_<|D.region (fun j => true) mixed<|Dm 0 rfl<|Df 1 2 fo_Atom_1 ty_Is rfl (Hs (hb_a.has) 1 rfl)<|Dyp 3 rfl (Y.len us_Is rfl)<|Dyp 4 rfl (Y.sub rfl rfl om om)<|D0 5 rfl O9 rfl (fun _ => trivial)<|Ent.b (fun q10 => ?_)<|fun q10 => ?_
 ·have jz : 0 ≤ i ∧ i ≤ (f6.length : Int) - 1 := of_decide_eq_true q10
  refine Dyp 6 rfl (Y.not (b := true) rfl)<|Dm 7 rfl<|Df 8 9 fo_Atom_1 ty_Is rfl (Hs (hb_a.has) 1 rfl)<|Dm 10 rfl ?_
  obtain ⟨eb16, eo16, ea16, ei16, eh16⟩ := y6.elemI i.toNat om
  refine Dyp 11 rfl (z8 us_Is i7 rfl ea16 rfl i.toNat om om)<|Dy 12 rfl (B4 i7 rfl (eh16 _) rfl)<|D0 13 rfl a0Q rfl (fun _ => trivial)<|Ent.b (fun q18 => ?_)<|fun q18 => ?_
  ·refine Dm 14 rfl<|Dy 15 rfl (B4 ty_Is rfl (hb_bound.has) rfl)<|Df 16 17 fo_Atom_1 ty_Is rfl (Hs (hb_a.has) 1 rfl)<|Dm 18 rfl<|Dyp 19 rfl (z8 us_Is i7 rfl ea16 rfl i.toNat om om)<|Dy 20 rfl (B4 i7 rfl (eh16 _) rfl)<|D0 21 rfl a0C rfl (fun hA => hA.ro hbound)<|Dyp 22 rfl (Y.not rfl)<|Dyp 23 rfl (K7 rfl rfl)<|Dyp 24 rfl (L8 rfl rfl)<|Dyp 25 rfl (G7 rfl)<|n9 kr<|Et<|E.ret<|Fb rfl rfl (by grind [a0V, H0, d1, d2, t1, t2])
  ·refine Dm 14 rfl<|Dsk 15 rfl<|Dsk 16 rfl<|Dsk 17 rfl<|Dsk 18 rfl<|Dsk 19 rfl<|Dsk 20 rfl<|Dsk 21 rfl<|Dsk 22 rfl<|Dyp 23 rfl (L8 rfl rfl)<|Dyp 24 rfl (L8 rfl rfl)<|Dyp 25 rfl (G7 rfl)<|n9 kr<|Et<|E.ret<|Fb rfl rfl (by grind [a0V, H0, d1, d2, t1, t2])
 ·refine Dyp 6 rfl (Y.not (b := false) rfl)<|Dm 7 rfl<|Dsk 8 rfl<|Dsk 9 rfl<|Dsk 10 rfl<|Dsk 11 rfl<|Dsk 12 rfl<|Dsk 13 rfl<|b1S 14 rfl rfl dc kr<|Dsk 15 rfl<|Dsk 16 rfl<|Dsk 17 rfl<|Dsk 18 rfl<|Dsk 19 rfl<|Dsk 20 rfl<|Dsk 21 rfl<|Dsk 22 rfl<|Dsk 23 rfl<|Dyp 24 rfl (K7 rfl rfl)<|Dyp 25 rfl (G7 rfl)<|n9 kr<|Et<|E.ret<|Fb rfl rfl (by grind [a0V, H0, d1, d2, t1, t2])
theorem a5F : TB Tryz.prog 220 [.agg #[.int .i64 G9, .slice F3 I0 F2, .int .i64 E5, .int .i64 G6, .int .i64 E6], .agg #[.int .i64 l0, .slice w6 B5 w5], .slice a_bound m_bound c_bound] (fun w L => I64 G9 ∧ Ro w L eIs [.slice F3 I0 F2] t6 ∧ I64 E5 ∧ I64 G6 ∧ I64 E6 ∧ I64 l0 ∧ Ro w L eIs [.slice w6 B5 w5] f6 ∧ Ro w L eIs [.slice a_bound m_bound c_bound] J2) (O4 (G9, t6, E5, G6, E6) (l0, f6) J2) := by
 refine Ti3 Tryz.func220 19 rfl fun w L hR => ?_
 obtain ⟨X1, F4, S5, V1, S6, J4, y6, hbound⟩ := hR
 obtain ⟨rfl, a0j⟩ := F4.slen
 obtain ⟨rfl, Q5⟩ := y6.slen
 obtain ⟨rfl, lbound⟩ := hbound.slen
 refine Ew Z4<|Est rfl (N.box (cs := [_, _, _, _, _]) rfl dc rfl)<|fun b3 _ => Est rfl (N.box (cs := [_, _]) rfl dc rfl)<|fun b4 _ => Est rfl (N.box (cs := [_]) rfl dc rfl)<|fun b5 _ => Ei rfl<|Ev Z13<|Lz fo_Method_0 i7 rfl (mS<|mS m0) rfl<|Lz fo_Atom_0 i7 rfl (mS m0) rfl<|Yeq rfl<|l3 (fun q11 => ?_)<|fun q11 => ?_
 ·refine Em rfl<|Lz fo_Method_1 ty_Is rfl (mS<|mS m0) rfl<|Ey rfl ((Y.fn (vs := [_, _]) rfl).yd)<|E0 rfl (X8 (f := (fun i => a0V (l0, f6) J2 i)) (D_f := (fun _ => True)) (by intros; exact trivial)) rfl (fun hA => ⟨hA.ro F4, a2q (D := (fun _ => True)) (fun hd => a8A)<|fun w' hk => ⟨(hA.pt<|mS m0).keep hk, J4, (hA.ro y6).keep hk, (hA.pt m0).keep hk, (hA.ro hbound).keep hk⟩⟩)<|Ey rfl ((Y.not rfl).yd)<|Ypt rfl<|Ei rfl<|Eu<|E.ret<|Fb rfl rfl (by grind [O4, d1, d2, t1, t2])
 ·refine Em rfl<|Es rfl<|Es rfl<|Es rfl<|Es rfl<|Es rfl<|Ypf rfl<|Ei rfl<|Eu<|E.ret<|Fb rfl rfl (by grind [O4, d1, d2, t1, t2])
theorem a5A : TB Tryz.prog 222 [.agg #[.int .i64 G9, .slice F3 I0 F2, .int .i64 E5, .int .i64 G6, .int .i64 E6], .agg #[.int .i64 l0, .slice w6 B5 w5], .slice a_bound m_bound c_bound] (fun w L => I64 G9 ∧ Ro w L eIs [.slice F3 I0 F2] t6 ∧ I64 E5 ∧ I64 G6 ∧ I64 E6 ∧ I64 l0 ∧ Ro w L eIs [.slice w6 B5 w5] f6 ∧ Ro w L eIs [.slice a_bound m_bound c_bound] J2) (O4 (G9, t6, E5, G6, E6) (l0, f6) J2) := by
 refine Ti3 Tryz.func222 49 rfl fun w L hR => ?_
 obtain ⟨X1, F4, S5, V1, S6, J4, y6, hbound⟩ := hR
 obtain ⟨rfl, a0j⟩ := F4.slen
 obtain ⟨rfl, Q5⟩ := y6.slen
 obtain ⟨rfl, lbound⟩ := hbound.slen
 refine Ew Z3<|Est rfl (N.box (cs := [_, _, _, _, _]) rfl dc rfl)<|fun b3 _ => Est rfl (N.box (cs := [_, _]) rfl dc rfl)<|fun b4 _ => Ei rfl<|Eu<|Eq_<|Ew Z5<|Lz fo_Method_0 i7 rfl (mS m0) rfl<|Lz fo_Atom_0 i7 rfl m0 rfl<|Ey rfl ((Y.neq rfl rfl).yd)<|l3 (fun q13 => ?_)<|fun q13 => ?_
 ·refine Eu<|r6 rfl<|Ew Z1<|Ei rfl<|Eu<|E.ret<|i9<|Fb rfl rfl (by grind [O4, a0V, H0, d1, d2, t1, t2])
 ·refine Eu<|Cf<|Eq_<|Ew Z1<|Ei rfl<|Eu<|E.block<|Lo (κ := Nat) (fun g => g ≤ t6.length ∧ t6.any (a0V (l0, f6) J2) = (t6.drop g).any (a0V (l0, f6) J2)) (fun g => [(2, .slice a_bound J2.length c_bound), (3, .pointer<|some ⟨b3, 0, none⟩), (4, .pointer<|some ⟨b4, 0, none⟩), (7, .int .i64 (g : Int))]) (fun g => [pt b4 111 [.int .i64 l0, .slice w6 f6.length w5], pt b3 125 [.int .i64 G9, .slice F3 t6.length F2, .int .i64 E5, .int .i64 G6, .int .i64 E6]]) (fun g => t6.length - g) 0 ⟨Nat.zero_le _, by simp⟩<|fun g pg => ?_
  obtain ⟨pk, pa⟩ := pg
  refine Eq_<|Ew Z5<|Em rfl<|Lz fo_Method_1 ty_Is rfl (mS m0) rfl<|Yln us_Is rfl<|Ylt rfl<|l3 (fun q18 => ?_)<|fun q18 => ?_
  ·refine Eu<|Ct<|Eq_<|E.block<|Eq_<|Eq_<|D.region (fun j => true) mixed<|Df 0 1 fo_Method_1 ty_Is rfl (Hz (mS m0) 1 rfl)<|Dm 2 rfl ?_
   obtain ⟨eb24, eo24, ea24, ei24, eh24⟩ := F4.elemI g om
   refine Dyp 3 rfl (z8 us_Is i7 rfl ea24 rfl g rfl om)<|Dy 4 rfl (B4 i7 rfl (eh24 _) rfl)<|Df 5 6 fo_Atom_1 ty_Is rfl (Hz m0 1 rfl)<|Dyp 7 rfl (Y.len us_Is rfl)<|Dyp 8 rfl (Y.sub rfl rfl om om)<|D0 9 rfl K4 rfl (fun _ => trivial)<|Ent.b (fun q30 => ?_)<|fun q30 => ?_
   ·have jz : 0 ≤ t6[g] ∧ t6[g] ≤ (f6.length : Int) - 1 := of_decide_eq_true q30
    refine Dyp 10 rfl (Y.not (b := true) rfl)<|n9 kr<|Et<|Cf<|Eq_<|D.region (fun j => true) mixed<|Df 0 1 fo_Atom_1 ty_Is rfl (Hz m0 1 rfl)<|Df 2 3 fo_Method_1 ty_Is rfl (Hz (mS m0) 1 rfl)<|Dm 4 rfl<|Dyp 5 rfl (z8 us_Is i7 rfl ea24 rfl g rfl om)<|Dy 6 rfl (B4 i7 rfl (eh24 _) rfl) ?_
    obtain ⟨eb39, eo39, ea39, ei39, eh39⟩ := y6.elemI t6[g].toNat om
    refine Dyp 7 rfl (z8 us_Is i7 rfl ea39 rfl t6[g].toNat om om)<|Dy 8 rfl (B4 i7 rfl (eh39 _) rfl)<|Dyp 9 rfl (G7 rfl)<|n9 kr<|Et<|Ew Z8<|Em rfl<|E0 rfl Z0 rfl (fun _ => trivial)<|Ent.b (fun q42 => ?_)<|fun q42 => ?_
    ·refine Em rfl<|Em rfl<|Em rfl<|E0 rfl a0s rfl (fun hA => hA.ro hbound)<|Ent.b (fun q46 => ?_)<|fun q46 => ?_
     ·refine Yno true rfl<|Ypt rfl<|Eu<|r7 rfl<|v8<|o6<|Et<|Ez Z3<|Em rfl<|Yad rfl om om<|Ei rfl<|Eu<|f5<|f5 ?_
      exact t7 br (g + 1) rs (.refl _) ⟨by omega, by grind [a0V, H0, d1, d2, t1, t2]⟩ om
     ·refine Yno false rfl<|Ypt rfl<|Eu<|r6 rfl<|Ew Z1<|Ei rfl<|Eu<|E.ret<|u6<|i9<|i9<|u6<|i9<|Fb rfl rfl (by grind [O4, a0V, H0, d1, d2, t1, t2])
    ·refine Em rfl<|Es rfl<|Es rfl<|Es rfl<|Es rfl<|Ypf rfl<|Eu<|r7 rfl<|v8<|o6<|Et<|Ez Z3<|Em rfl<|Yad rfl om om<|Ei rfl<|Eu<|f5<|f5 ?_
     exact t7 br (g + 1) rs (.refl _) ⟨by omega, by grind [a0V, H0, d1, d2, t1, t2]⟩ om
   ·refine Dyp 10 rfl (Y.not (b := false) rfl)<|n9 kr<|Et<|r6 rfl<|Ew Z1<|Ei rfl<|Eu<|E.ret<|i9<|u6<|i9<|i9<|u6<|i9<|Fb rfl rfl (by grind [O4, a0V, H0, d1, d2, t1, t2])
  ·refine Eu<|r7 rfl<|E.exit<|l4<|l4<|w8<|Et<|Ew Z1<|Ei rfl<|Eu<|E.ret<|Fb rfl rfl (by grind [O4, a0V, H0, d1, d2, t1, t2])
theorem a8O {a_s : Option Addr} {m_s c_s : Nat} {s : List (Int × (SL) × Int × Int × Int)} (hz : s.length ≤ 1048576) : TL Tryz.prog 215 [.slice a_s m_s c_s] (fun w L => Ro w L S4 [.slice a_s m_s c_s] s) S4 s := by
 refine Ti1 Tryz.func215 8 rfl fun w L hR => ?_
 have hs := hR
 obtain ⟨rfl, ls⟩ := hs.slen
 refine Ew Z1<|Ei rfl<|Eu<|Eq_<|Ew Z2<|Em rfl<|Ey rfl ((b6p us_Methods rfl rfl).yd)<|Ent.b (fun q4 => ?_)<|fun q4 => ?_
 ·refine Eu<|r6 rfl<|Ew Z1<|Ei rfl<|Eu<|E.ret<|i9<|l6 (A := []) (Own.nil (E := Y9) (e := a8Y) (a := none)) rfl<|g9 (congrArg (ow S4 [_]) (show _ = s by (cases a_s with | none => exact hs.none_nil.symm | some x => cases q4)))<|Fg rfl rfl (none, 0, 0) rfl rfl
 ·refine Eu<|Cf<|Ew Z4<|Est rfl (Nb [] [] us_Methods ty_Method rfl rfl)<|fun b5 _ => Ent.drop<|Em rfl<|Est rfl (R1 (E := Y9) b2g us_Methods ty_Method rfl rfl rfl hs bn bn dc)<|fun p7 _ => Ei rfl<|Eu<|E.ret<|Fg rfl rfl (_, _, _) rfl rfl
theorem b3t {l : List (Int × (SL) × Int × Int × Int)} (hz : l.length ≤ 5) : TL Tryz.prog 105 [.slice a_l m_l c_l] (fun w L => Ro w L S4 [.slice a_l m_l c_l] l) S4 (exB l) := by
 refine Ti1 Tryz.func105 24 rfl fun w L hR => ?_
 have hl := hR
 obtain ⟨rfl, ll⟩ := hl.slen
 refine Ew Z1<|Ei rfl<|Ev Z3<|Em rfl<|El rfl (a8O fc) rfl (fun hA => hA.ro hl)<|fun a7 c7 l7 => Ei rfl<|Eu<|Eq_<|Ew Z3<|Em rfl<|Yln us_Methods rfl<|Em rfl<|Eu<|E.block<|Lo (κ := Nat) (fun g => g ≤ l.length) (fun g => [(3, .slice a7 (l).length c7), (8, .slice a7 (l).length c7), (9, .int .i64 (↑((l).length) : Int)), (10, .int .i64 (g : Int))]) (fun g => [ow S4 [.slice a7 (l).length c7]<|(l.take g).map X5 ++ l.drop g]) (fun g => l.length - g) 0 (Nat.zero_le _)<|fun g pg => ?_
 have jx := b8R (l := l) (g := g)
 refine Ew Z1<|Ylt rfl<|l3 (fun q11 => ?_)<|fun q11 => ?_
 ·refine Eu<|Eq_<|Ct<|Eq_<|E.block<|Ew Z6<|Em rfl<|Y6 m0 om fun ab13 ae13 => a4E (x := l[g]) g (b9F (show g < l.length by omega)) fun ce13 => f5<|b3s fun oe13 oi13_0 oi13_2 oi13_3 oi13_4 => ?_
  subst oe13
  refine Ix us_Methods ty_Method rfl ae13 g rfl om<|Ey rfl (k7 (cs := [_, _, _, _, _]) ty_Method rfl (Has.hole ae13 m0) rfl)<|Est rfl (N.alloc ty_Method dc)<|fun b5 _ => Ei rfl<|Est rfl (Ns [_, _, _, _, _] ty_Method rfl)<|fun _ _ => Ev Z3<|Lz fo_Method_2 i7 rfl m0 rfl<|Ey rfl ((Y.neq rfl rfl).yd)<|l3 (fun q17 => ?_)<|fun q17 => ?_
  ·refine Eu<|r6 rfl<|Ez Z5<|Em rfl<|Em rfl<|Ix us_Methods ty_Method rfl ae13 g rfl om<|Ey rfl ((C2 fo_Method_0 i7 dc rfl).yd)<|f5<|Est rfl (c1m (f := 0) (kk := 5) (vs := [_]) (ce' := [_, _, _, _, _]) i7 rfl rfl rfl rfl rfl ae13 rfl rfl bl rfl rfl)<|fun _ _ => En<|o6<|Et<|Ez Z2<|Yad rfl om om<|Em rfl<|Eu<|a3D (a2F (x := (-1, l[g].2.1, l[g].2.2.1, l[g].2.2.2.1, l[g].2.2.2.2)) i6 oi13_2 oi13_3 oi13_4) rfl<|f5<|Ent.drop ?_
   exact t7 br (g + 1) rs (b6h<|b8j om q17) om om
  ·refine Eu<|r7 rfl<|v8<|o6<|Et<|Ez Z2<|Yad rfl om om<|Em rfl<|Eu<|f5<|a3D (a2F (x := l[g]) oi13_0 oi13_2 oi13_3 oi13_4) rfl<|f5<|Ent.drop ?_
   exact t7 br (g + 1) rs (b6h<|b9a om q17) om om
 ·refine Eu<|Eq_<|r7 rfl<|E.exit<|l4<|l4<|w8<|Et<|Ew Z2<|Em rfl<|Ei rfl<|Eu<|E.ret<|g9 (congrArg (ow S4 [_]) (show _ = exB l by exact b8P om))<|Fg rfl rfl (_, _, _) rfl rfl
theorem a9w {l : List (Int × (SL) × Int × Int × Int)} (hz : l.length ≤ 5) : TL Tryz.prog 110 [.slice a_l m_l c_l] (fun w L => Ro w L S4 [.slice a_l m_l c_l] l) S4 (exB l) := by
 refine Ti1 Tryz.func110 26 rfl fun w L hR => ?_
 have hl := hR
 obtain ⟨rfl, ll⟩ := hl.slen
 refine Ew Z1<|Ei rfl<|Ev Z2<|Est rfl (Nb [] [] us_Methods ty_Method rfl rfl)<|fun b6 _ => Ent.drop<|Ei rfl<|Eu<|Eq_<|Ew Z1<|Ei rfl<|Eu<|E.block<|l6 (A := []) (Own.nil (E := Y9) (e := a8Y) (a := (some ⟨b6, 0, none⟩))) rfl<|g9 (congrArg (ow S4 [_]) (show _ = (l.take 0).map X5 from by first | rfl | (simp; done) | grind [d1, d2, t1, t2]))<|Lo (κ := Nat × SL) (fun g => g.1 ≤ l.length ∧ True) (fun g => [(0, .slice a_l l.length c_l), (3, .slice g.2.1 g.2.2.1 g.2.2.2), (4, .int .i64 (↑g.1 : Int))]) (fun g => [ow S4 [.slice g.2.1 g.2.2.1 g.2.2.2]<|(l.take g.1).map X5]) (fun g => l.length - g.1) (0, (some ⟨b6, 0, none⟩), 0, 0) ⟨Nat.zero_le _, by simp⟩<|fun g pg => ?_
 obtain ⟨g, aA0_0, mA0_0, cA0_0⟩ := g
 try dsimp only at pg
 try dsimp only
 obtain ⟨pk, pa⟩ := pg
 refine r8 m0 ?_
 rintro rfl laA0_0
 refine Eq_<|Ew Z4<|Em rfl<|Em rfl<|Yln us_Methods rfl<|Ylt rfl<|l3 (fun q10 => ?_)<|fun q10 => ?_
 ·refine Eu<|Ct<|Eq_<|E.block<|Ew Z6<|Em rfl<|Em rfl ?_
  obtain ⟨eb15, eo15, ec15, ea15, er15, el15, eh15⟩ := hl.elem g om
  obtain ⟨rfl, ei15_0, ei15_2, ei15_3, ei15_4⟩ := b3y er15
  refine Ix us_Methods ty_Method rfl ea15 g rfl om<|Ey rfl (k7 (cs := [_, _, _, _, _]) ty_Method rfl (eh15 _) rfl)<|Est rfl (N.alloc ty_Method dc)<|fun b5 _ => Est rfl (Ns [_, _, _, _, _] ty_Method rfl)<|fun _ _ => Eu<|Eq_<|Ew Z3<|Lz fo_Method_2 i7 rfl m0 rfl<|Ey rfl ((Y.neq rfl rfl).yd)<|l3 (fun q19 => ?_)<|fun q19 => ?_
  ·refine Eu<|r6 rfl<|Ez Z2<|Ey rfl ((C2 fo_Method_0 i7 dc rfl).yd)<|Est rfl (Ns [_, _, _, _, _] i7 rfl)<|fun _ _ => Eu<|Ez Z5<|Em rfl<|Ey rfl (k7 (cs := [_, _, _, _, _]) ty_Method rfl (Has.pt m0) rfl)<|Est rfl (Nb [_] [_, _, _, _, _] us_Methods ty_Method rfl rfl)<|fun b23 _ => i8<|Est rfl (B0 (E := Y9) (ex := (-1, l[g].2.1, l[g].2.2.1, l[g].2.2.2.1, l[g].2.2.2.2)) us_Methods ty_Method rfl rfl rfl (a2F (x := (-1, l[g].2.1, l[g].2.2.1, l[g].2.2.2.1, l[g].2.2.2.2)) i6 ei15_2 ei15_3 ei15_4) rfl bn bn dc)<|fun p24 _ => Ei rfl<|En<|o6<|Et<|Ez Z3<|Em rfl<|Yad rfl om om<|Ei rfl<|Eu<|f5<|Ent.drop<|g9 (congrArg (ow S4 [_]) (show _ = (l.take<|g + 1).map X5 from by first | exact b2i om q19 | exact b2n om q19)) ?_
   exact Ea (g + 1, p24.1, (((l.take g).map X5).length + 1), p24.2) ⟨oz, trivial⟩
  ·refine Eu<|Cf<|Ez Z5<|Em rfl<|Ey rfl (k7 (cs := [_, _, _, _, _]) ty_Method rfl (Has.pt m0) rfl)<|Est rfl (Nb [_] [_, _, _, _, _] us_Methods ty_Method rfl rfl)<|fun b23 _ => i8<|Est rfl (B0 (E := Y9) (ex := l[g]) us_Methods ty_Method rfl rfl rfl (a2F (x := l[g]) ei15_0 ei15_2 ei15_3 ei15_4) rfl bn bn dc)<|fun p24 _ => Ei rfl<|En<|o6<|Et<|Ez Z3<|Em rfl<|Yad rfl om om<|Ei rfl<|Eu<|f5<|Ent.drop<|g9 (congrArg (ow S4 [_]) (show _ = (l.take<|g + 1).map X5 from by first | exact b2i om q19 | exact b2n om q19)) ?_
   exact Ea (g + 1, p24.1, (((l.take g).map X5).length + 1), p24.2) ⟨oz, trivial⟩
 ·refine Eu<|r7 rfl<|E.exit<|l4<|l4<|w8<|Et<|Ew Z2<|Em rfl<|Ei rfl<|Eu<|E.ret<|g9 (congrArg (ow S4 [_]) (show _ = exB l by exact b9Z om))<|Fg rfl rfl (_, _, _) rfl rfl
theorem a9L : TB Tryz.prog 217 [.agg #[.int .i64 G9, .slice F3 I0 F2, .int .i64 E5, .int .i64 G6, .int .i64 E6], .agg #[.int .i64 l0, .slice w6 B5 w5]] (fun w L => I64 G9 ∧ Ro w L eIs [.slice F3 I0 F2] t6 ∧ I64 E5 ∧ I64 G6 ∧ I64 E6 ∧ I64 l0 ∧ Ro w L eIs [.slice w6 B5 w5] f6) (true) := by
 refine Ti2 Tryz.func217 5 rfl fun w L hR => ?_
 obtain ⟨X1, F4, S5, V1, S6, J4, y6⟩ := hR
 obtain ⟨rfl, a0j⟩ := F4.slen
 obtain ⟨rfl, Q5⟩ := y6.slen
 refine Ew Z3<|Est rfl (N.box (cs := [_, _, _, _, _]) rfl dc rfl)<|fun b2 _ => Est rfl (N.box (cs := [_, _]) rfl dc rfl)<|fun b3 _ => Ei rfl<|Ev Z1<|Ei rfl<|Eu<|E.ret<|Fg rfl rfl () rfl rfl
theorem a5m : TB Tryz.prog 306 [.agg #[.int .i64 G9, .slice F3 I0 F2, .int .i64 E5, .int .i64 G6, .int .i64 E6], .pointer (some ⟨b_a, 0, none⟩), .pointer (some ⟨b_bound, 0, none⟩), .pointer (some ⟨b_is, 0, none⟩)] (fun w L => (I64 G9 ∧ Ro w L eIs [.slice F3 I0 F2] t6 ∧ I64 E5 ∧ I64 G6 ∧ I64 E6) ∧ RoPt w L b_a [.int .i64 l0, .slice w6 B5 w5] ∧ I64 l0 ∧ Ro w L eIs [.slice w6 B5 w5] f6 ∧ RoPt w L b_bound [.slice a_bound m_bound c_bound] ∧ Ro w L eIs [.slice a_bound m_bound c_bound] J2 ∧ RoPt w L b_is [.func (.func 217) #[] #[]]) (O4 (G9, t6, E5, G6, E6) (l0, f6) J2) := by
 refine Ti4 Tryz.func306 16 rfl fun w L hR => ?_
 obtain ⟨⟨X1, F4, S5, V1, S6⟩, hb_a, J4, y6, hb_bound, hbound, hb_is⟩ := hR
 obtain ⟨rfl, a0j⟩ := F4.slen
 obtain ⟨rfl, Q5⟩ := y6.slen
 obtain ⟨rfl, lbound⟩ := hbound.slen
 refine Ew Z2<|Est rfl (N.box (cs := [_, _, _, _, _]) rfl dc rfl)<|fun b4 _ => Ei rfl<|Ev Z11<|Ey rfl (k7 (cs := [_, _, _, _, _]) ty_Method rfl (Has.pt m0) rfl)<|Ey rfl (k7 (cs := [_, _]) ty_Atom rfl (hb_a.has) rfl)<|Ey rfl (B4 ty_Is rfl (hb_bound.has) rfl)<|E0 rfl a5F rfl (fun hA => ⟨X1, hA.ro F4, S5, V1, S6, J4, hA.ro y6, hA.ro hbound⟩)<|Ent.b (fun q9 => ?_)<|fun q9 => ?_
 ·refine Em rfl<|Ey rfl (B4 ty_Fma rfl (hb_is.has) rfl)<|Ey rfl (k7 (cs := [_, _, _, _, _]) ty_Method rfl (Has.pt m0) rfl)<|Ey rfl (k7 (cs := [_, _]) ty_Atom rfl (hb_a.has) rfl)<|E0 rfl a9L rfl (fun hA => ⟨X1, hA.ro F4, S5, V1, S6, J4, hA.ro y6⟩)<|Ypt rfl<|Ei rfl<|Eu<|E.ret<|Fb rfl rfl (by grind [d1, d2, t1, t2])
 ·refine Em rfl<|Es rfl<|Es rfl<|Es rfl<|Es rfl<|Ypf rfl<|Ei rfl<|Eu<|E.ret<|Fb rfl rfl (by grind [d1, d2, t1, t2])
theorem a3o {b_atoms : Nat} {b_l : Nat} {b_done : Nat} {a_done : Option Addr} {m_done c_done : Nat} {done : List Bool} : Tr Tryz.prog 305 [.pointer (some ⟨b_atoms, 0, none⟩), .pointer (some ⟨b_l, 0, none⟩), .pointer (some ⟨b_bound, 0, none⟩), .pointer (some ⟨b_is, 0, none⟩), .pointer (some ⟨b_done, 0, none⟩)] (fun w L => (True) ∧ RoPt w L b_atoms [.slice a_atoms m_atoms c_atoms] ∧ Ro w L B1 [.slice a_atoms m_atoms c_atoms] d9 ∧ RoPt w L b_l [.slice a_l m_l c_l] ∧ Ro w L G0 [.slice a_l m_l c_l] l ∧ RoPt w L b_bound [.slice a_bound m_bound c_bound] ∧ Ro w L eIs [.slice a_bound m_bound c_bound] J2 ∧ RoPt w L b_is [.func (.func 217) #[] #[]] ∧ RoPt w L b_done [.slice a_done m_done c_done] ∧ Ro w L eBs [.slice a_done m_done c_done] done ∧ done.length = d9.length) [] (κ := Unit) (fun k => True) (fun k => .tuple #[.agg #[.int .i64 ((I7 l J2 d9 done 0).1), .int .i64 ((I7 l J2 d9 done 0).2.1)], .bool ((I7 l J2 d9 done 0).2.2)]) (fun k => []) := by
 refine Ti5 Tryz.func305 34 rfl fun w L hR => ?_
 obtain ⟨_, hb_atoms, hatoms, hb_l, hl, hb_bound, hbound, hb_is, hb_done, hdone, as0⟩ := hR
 obtain ⟨rfl, latoms⟩ := hatoms.slen
 obtain ⟨rfl, ll⟩ := hl.slen
 obtain ⟨rfl, lbound⟩ := hbound.slen
 obtain ⟨rfl, ldone⟩ := hdone.slen
 refine Ew Z2<|Est rfl (N.alloc ty_Step dc)<|fun b5 _ => Ei rfl<|Eu<|Eq_<|Ew Z3<|Ey rfl (B4 ty_Atoms rfl (hb_atoms.has) rfl)<|Yln us_Atoms rfl<|Em rfl<|Eu<|E.block<|Lo (κ := Nat) (fun g => g ≤ d9.length ∧ I7 l J2 d9 done 0 = I7 l J2 (d9.drop g) (done.drop g) g) (fun g => [(1, .pointer<|some ⟨b_l, 0, none⟩), (2, .pointer<|some ⟨b_bound, 0, none⟩), (3, .pointer<|some ⟨b_is, 0, none⟩), (4, .pointer<|some ⟨b_done, 0, none⟩), (5, .pointer<|some ⟨b5, 0, none⟩), (10, .slice a_atoms d9.length c_atoms), (11, .int .i64 (↑d9.length : Int)), (12, .int .i64 (g : Int))]) (fun g => [pt b5 148 [.int .i64 0, .int .i64 0]]) (fun g => d9.length - g) 0 ⟨Nat.zero_le _, by simp⟩<|fun g pg => ?_
 obtain ⟨pk, pa⟩ := pg
 refine Ew Z1<|Ylt rfl<|l3 (fun q13 => ?_)<|fun q13 => ?_
 ·refine Eu<|Eq_<|Ct<|Eq_<|E.block<|Ew Z6<|Em rfl ?_
  obtain ⟨eb15, eo15, ec15, ea15, er15, el15, eh15⟩ := hatoms.elem g om
  obtain ⟨xa15_0, xc15_0, rfl, ei15_0, xh15_0⟩ := L5 er15
  have := xh15_0.slen.2
  refine Ix us_Atoms ty_Atom rfl ea15 g rfl om<|Ey rfl (k7 (cs := [_, _]) ty_Atom rfl (eh15 _) rfl)<|Est rfl (N.alloc ty_Atom dc)<|fun b8 _ => Ei rfl<|Est rfl (Ns [_, _] ty_Atom rfl)<|fun _ _ => Ev Z4<|Ey rfl (B4 ty_Methods rfl (hb_l.has) rfl)<|Ey rfl ((Y.fn (vs := [_, _, _]) rfl).yd)<|Est rfl (b0F (a2f (f := (fun z => O4 z d9[g] J2)) (D_f := (fun _ => True)) (by intros; exact trivial)) rfl rfl rfl dc<|fun w Lp hA => ⟨hA.ro hl, a4F (RR := fun w L => RoPt w L b8 [.int .i64 d9[g].1, .slice xa15_0 d9[g].2.length xc15_0] ∧ I64 d9[g].1 ∧ Ro w L eIs [.slice xa15_0 d9[g].2.length xc15_0] d9[g].2 ∧ RoPt w L b_bound [.slice a_bound J2.length c_bound] ∧ Ro w L eIs [.slice a_bound J2.length c_bound] J2 ∧ RoPt w L b_is [.func (.func 217) #[] #[]]) (D := (fun _ => True)) (fun hd => a5m)<|fun w' hk => ⟨(hA.pt m0).keep hk, ei15_0, (hA.ro xh15_0).keep hk, (hA.rop hb_bound).keep hk, (hA.ro hbound).keep hk, (hA.rop hb_is).keep hk⟩⟩)<|fun _ _ => Ei rfl<|Ev Z9<|Ey rfl (B4 ty_Bs rfl (hb_done.has) rfl)<|Em rfl ?_
  obtain ⟨eb22, eo22, ea22, eh22⟩ := hdone.elemB g om
  refine Il us_Bs ty_B rfl ea22 g rfl om rfl (eh22 _)<|Ent.b (fun q23 => ?_)<|fun q23 => ?_
  ·refine Yno true rfl<|Em rfl<|Es rfl<|Es rfl<|Ypf rfl<|Eu<|r7 rfl<|v8<|o6<|Et<|Ez Z2<|Yad rfl om om<|Em rfl<|Eu<|Ent.drop ?_
   exact t7 br (g + 1) rs (.refl _) ⟨by omega, by exact pa.trans (a6v om om (by first | (rw [q23]; simp; done) | (unfold G5; simp [q27])))⟩ om
  ·refine Yno false rfl<|Em rfl<|Em rfl<|Ey rfl ((Y.geq rfl rfl).yd)<|l3 (fun q27 => ?_)<|fun q27 => ?_
   ·refine Ypt rfl<|Eu<|r6 rfl<|Ew Z5<|Em rfl<|Em rfl<|Ey rfl ((M4 (pvs := [_, _]) (cs := [_, _]) ty_Step pl_Step rfl rfl).yd)<|f5<|Est rfl (Ns [_, _] ty_Step rfl)<|fun _ _ => Ei rfl ?_
    exact Eu<|E.ret<|u6<|i9<|i9<|u6<|i9<|a2P br rfl rfl rfl m0 ty_Step rfl () trivial (by rw [show ((I7 l J2 d9 done 0).1) = ((g : Int)) from (by rw [pa, a5Z om om (by rw [q23]; exact decide_eq_true q27)]; try rfl)]; rw [show ((I7 l J2 d9 done 0).2.1) = (J0 (fun z => O4 z d9[g] J2) l) from (by rw [pa, a5Z om om (by rw [q23]; exact decide_eq_true q27)]; try rfl)]; rw [show ((I7 l J2 d9 done 0).2.2) = (true) from (by rw [pa, a5Z om om (by rw [q23]; exact decide_eq_true q27)]; try rfl)]; try rfl) (J := _) (.refl _)<|.inl rfl
   ·refine Ypt rfl<|Eu<|r7 rfl<|v8<|o6<|Et<|Ez Z2<|Yad rfl om om<|Em rfl<|Eu<|Ent.drop ?_
    exact t7 br (g + 1) rs (.refl _) ⟨by omega, by exact pa.trans (a6v om om (by first | (rw [q23]; simp; done) | (unfold G5; simp [q27])))⟩ om
 ·refine Eu<|Eq_<|r7 rfl<|E.exit<|l4<|l4<|w8<|Et<|Ew Z3<|Ey rfl ((M4 (pvs := []) (cs := [_, _]) ty_Step pl_Step rfl rfl).yd)<|Est rfl (Ns [_, _] ty_Step rfl)<|fun _ _ => Ei rfl ?_
  exact Eu<|E.ret<|a2P br rfl rfl rfl m0 ty_Step rfl () trivial (by rw [show ((I7 l J2 d9 done 0).1) = (0) from (by rw [pa, a6a om])]; rw [show ((I7 l J2 d9 done 0).2.1) = (0) from (by rw [pa, a6a om])]; rw [show ((I7 l J2 d9 done 0).2.2) = (false) from (by rw [pa, a6a om])]; try rfl) (J := _) (.refl _)<|.inl rfl
theorem a7l (hl : l.length ≤ 1000) (ha : d9.length ≤ 1000) (ht : ∀ a ∈ d9, a.2.length ≤ 3) : Tr Tryz.prog 216 [.slice a_l m_l c_l, .slice a_atoms m_atoms c_atoms, .func (.func 217) #[] #[]] (fun w L => Ro w L G0 [.slice a_l m_l c_l] l ∧ Ro w L B1 [.slice a_atoms m_atoms c_atoms] d9) [] (κ := (SL) × (SL)) (fun k => True) (fun k => .tuple #[.slice k.1.1 k.1.2.1 k.1.2.2, .slice k.2.1 k.2.2.1 k.2.2.2]) (fun k => [ow M7 [.slice k.1.1 k.1.2.1 k.1.2.2] ((grF l d9).1), ow eBs [.slice k.2.1 k.2.2.1 k.2.2.2] ((grF l d9).2.1)]) := by
 refine Ti3 Tryz.func216 50 rfl fun w L hR => ?_
 obtain ⟨hl, hatoms⟩ := hR
 obtain ⟨rfl, ll⟩ := hl.slen
 obtain ⟨rfl, latoms⟩ := hatoms.slen
 refine Ew Z5<|Est rfl (N.box (cs := [_]) rfl dc rfl)<|fun b3 _ => Est rfl (N.box (cs := [_]) rfl dc rfl)<|fun b4 _ => Est rfl (N.box (cs := [_]) rfl dc rfl)<|fun b5 _ => Ei rfl<|Ei rfl<|Ev Z2<|Est rfl (Nb [] [] us_Steps ty_Step rfl rfl)<|fun b14 _ => Ent.drop<|Ei rfl<|Ev Z5<|Ey rfl (B4 ty_Atoms rfl (Has.pt<|mS m0) rfl)<|Yln us_Atoms rfl<|Est rfl (c0k (m := d9.length) us_Bs ty_B rfl rfl rfl mx om dc)<|fun b17 _ => l6 (A := [_]) (b7u (E := Enc.bool) (e := tB) (zx := false) Own.bool mx) rfl<|Est rfl (N.alloc ty_Bs dc)<|fun b9 _ => Est rfl (Ns [_] ty_Bs rfl)<|fun _ _ => Ev Z3<|Est rfl (Nb [] [] us_Is i7 rfl rfl)<|fun b18 _ => Ent.drop<|Est rfl (N.alloc ty_Is dc)<|fun b10 _ => Est rfl (Ns [_] ty_Is rfl)<|fun _ _ => Ev Z2<|Ey rfl ((Y.fn (vs := [_, _, _, _, _]) rfl).yd)<|Ei rfl<|Eu<|Eq_<|Ew Z8<|Em rfl<|E0 rfl a3o rfl (fun hA => ⟨trivial, ⟨(hA.pt<|mS<|mS<|mS<|mS m0), (hA.ro hatoms), (hA.pt<|mS<|mS<|mS<|mS<|mS m0), (hA.ro hl), (hA.pt m0), (b6v), (hA.pt<|mS<|mS<|mS m0), (hA.pt<|mS m0), (hA.ow<|mS<|mS m0), (by first | exact List.length_replicate .. | exact a3P)⟩⟩)<|Em rfl<|Ey rfl ((Y.ext rfl rfl).yd)<|Ey rfl ((Y.ext rfl rfl).yd)<|Est rfl (N.alloc ty_Step dc)<|fun b12 _ => Est rfl (Ns [_, _] ty_Step rfl)<|fun _ _ => Ei rfl<|Eu<|E.block<|l6 (A := []) (Own.nil (E := a1m) (e := tStep) (a := (some ⟨b14, 0, none⟩))) rfl<|g9 (congrArg (ow M7 [_]) (show _ = (grI l d9 0).1 from by first | rfl | simp))<|f5<|g9 (congrArg (fun z => pt b12 148 [.int .i64 z, .int .i64<|(I7 l ([]) d9 (List.replicate d9.length false) 0).2.1]) (show (I7 l ([]) d9 (List.replicate d9.length false) 0).1 = (I7 l (grI l d9 0).2.2 d9 (grI l d9 0).2.1 0).1 from by first | rfl | simp))<|g9 (congrArg (fun z => pt b12 148 [.int .i64<|(I7 l (grI l d9 0).2.2 d9 (grI l d9 0).2.1 0).1, .int .i64 z]) (show (I7 l ([]) d9 (List.replicate d9.length false) 0).2.1 = (I7 l (grI l d9 0).2.2 d9 (grI l d9 0).2.1 0).2.1 from by first | rfl | simp))<|l6 (A := []) (Own.nil (E := Enc.int) (e := tI) (a := (some ⟨b18, 0, none⟩))) rfl<|g9 (congrArg (ow eIs [_]) (show _ = (grI l d9 0).2.2 from by first | rfl | simp))<|y7<|g9 (congrArg (ow eBs [_]) (show _ = (grI l d9 0).2.1 from by first | rfl | simp))<|E.loop (κ := Nat × Option Addr × Nat × Nat × Nat × Option Addr × Nat × Nat × SL) (fun g => g.1 ≤ d9.length ∧ grP l d9 g.1) (fun g => [(4, .pointer<|some ⟨b4, 0, none⟩), (8, .slice g.2.1 g.2.2.1 g.2.2.2.1), (9, .pointer<|some ⟨b9, 0, none⟩), (10, .pointer<|some ⟨b10, 0, none⟩), (11, .func (.func 305) #[] #[.pointer<|some ⟨b4, 0, none⟩, .pointer<|some ⟨b3, 0, none⟩, .pointer<|some ⟨b10, 0, none⟩, .pointer<|some ⟨b5, 0, none⟩, .pointer<|some ⟨b9, 0, none⟩]), (12, .pointer<|some ⟨g.2.2.2.2.1, 0, none⟩), (13, .bool<|(I7 l (grI l d9 g.1).2.2 d9 (grI l d9 g.1).2.1 0).2.2)]) (fun g => [ow eBs [.slice g.2.2.2.2.2.2.2.2.1 g.2.2.2.2.2.2.2.2.2.1 g.2.2.2.2.2.2.2.2.2.2]<|(grI l d9 g.1).2.1, ow eIs [.slice g.2.2.2.2.2.1 g.2.2.2.2.2.2.1 g.2.2.2.2.2.2.2.1]<|(grI l d9 g.1).2.2, pt g.2.2.2.2.1 148 [.int .i64<|(I7 l (grI l d9 g.1).2.2 d9 (grI l d9 g.1).2.1 0).1, .int .i64<|(I7 l (grI l d9 g.1).2.2 d9 (grI l d9 g.1).2.1 0).2.1], ow M7 [.slice g.2.1 g.2.2.1 g.2.2.2.1]<|(grI l d9 g.1).1, pt b10 24 [.slice g.2.2.2.2.2.1 g.2.2.2.2.2.2.1 g.2.2.2.2.2.2.2.1], pt b9 140 [.slice g.2.2.2.2.2.2.2.2.1 g.2.2.2.2.2.2.2.2.2.1 g.2.2.2.2.2.2.2.2.2.2], pt b5 228 [.func (.func 217) #[] #[]], pt b4 26 [.slice a_atoms d9.length c_atoms], pt b3 25 [.slice a_l l.length c_l]]) (fun g => d9.length - g.1) (0, (some ⟨b14, 0, none⟩), 0, 0, b12, (some ⟨b18, 0, none⟩), 0, 0, (some ⟨b17, 0, none⟩), d9.length, d9.length) ⟨Nat.zero_le _, b8O⟩ ⟨rfl, rfl, rfl, rfl, rfl, rfl, frB (by first | rfl | simp), trivial⟩ (.refl _)<|fun g pg => ?_
 obtain ⟨g, aA0_0, mA0_0, cA0_0, bA0_1, aA0_3, mA0_3, cA0_3, aA0_4, mA0_4, cA0_4⟩ := g
 try dsimp only at pg
 try dsimp only
 obtain ⟨pk, pa⟩ := pg
 have jb := b8t (l := l) (d9 := d9) (n := g) ht
 have jd := a3P (l := l) (d9 := d9) (n := g)
 have js := b1R (l := l) (d9 := d9) (n := g)
 refine r8 (mS<|mS<|mS m0) ?_
 rintro rfl laA0_0
 refine r8 (mS m0) ?_
 rintro rfl laA0_3
 refine r8 m0 ?_
 rintro rfl laA0_4
 refine Eq_<|Ew Z1<|Em rfl<|Ent.b (fun q25 => ?_)<|fun q25 => ?_
 ·have jl := c0G pa q25
  obtain ⟨jn1, jn2, jn3, jn4⟩ := c1V (l := l) (d9 := d9) (n := g) q25
  refine Eu<|Ct<|Eq_<|E.block<|Ew Z5<|Ey rfl (B4 ty_Bs rfl (Has.pt<|mS<|mS<|mS<|mS<|mS m0) rfl)<|Lz fo_Step_0 i7 rfl (mS<|mS m0) rfl<|Y6 m0 om fun ab34 ae34 => Ix us_Bs ty_B rfl ae34 (((I7 l (grI l d9 g).2.2 d9 (grI l d9 g).2.1 0).1).toNat) om om<|Est rfl (N.set (E := Enc.bool) (j := ((I7 l (grI l d9 g).2.2 d9 (grI l d9 g).2.1 0).1).toNat) (ex := true) (ce := [_]) ty_B rfl rfl rfl rfl Own.bool ae34 (Nat.zero_add _) rfl om)<|fun _ _ => Eu<|Eq_<|D.region (fun j => !(Nat.beq j 7) && !(Nat.beq j 8)) mixed<|Dy 0 rfl (B4 ty_Is rfl (Has.pt<|mS<|mS<|mS<|mS m0) rfl)<|Dy 1 rfl (B4 ty_Atoms rfl (Has.pt<|mS<|mS<|mS<|mS<|mS<|mS<|mS m0) rfl)<|Df 2 3 fo_Step_0 i7 rfl (Hz (mS<|mS m0) 0 rfl) ?_
  obtain ⟨eb39, eo39, ec39, ea39, er39, el39, eh39⟩ := hatoms.elem (((I7 l (grI l d9 g).2.2 d9 (grI l d9 g).2.1 0).1).toNat) om
  obtain ⟨xa39_0, xc39_0, rfl, ei39_0, xh39_0⟩ := L5 er39
  have := xh39_0.slen.2
  refine Dyp 4 rfl (z8 us_Atoms ty_Atom rfl ea39 rfl (((I7 l (grI l d9 g).2.2 d9 (grI l d9 g).2.1 0).1).toNat) om om)<|Dyp 5 rfl (C2 fo_Atom_1 ty_Is dc rfl) ?_
  have jt := ht _ (List.getElem_mem (show ((I7 l (grI l d9 g).2.2 d9 (grI l d9 g).2.1 0).1).toNat < d9.length by omega))
  refine Dy 6 rfl (B4 ty_Is rfl ((eh39 _).sub (cs' := [_]) 1 rfl) rfl)<|f5<|E7 7 rfl rfl kr (fun h => by cases h) (b9h (E := Enc.int) Plain.int us_Is i7 rfl rfl rfl xh39_0 rfl bn bn dc)<|fun p42 _ => s4<|E7 8 rfl rfl kr (fun h => by cases h) (Ns [_] ty_Is rfl)<|fun _ _ => n9 kr<|Et<|Ez Z5<|Em rfl<|Ey rfl (k7 (cs := [_, _]) ty_Step rfl (Has.pt<|mS<|mS<|mS m0) rfl)<|Est rfl (Nb [_] [_, _] us_Steps ty_Step rfl rfl)<|fun b45 _ => y7<|Est rfl (B0 (E := a1m) (ex := ((I7 l (grI l d9 g).2.2 d9 (grI l d9 g).2.1 0).1, (I7 l (grI l d9 g).2.2 d9 (grI l d9 g).2.1 0).2.1)) us_Steps ty_Step rfl rfl rfl (a9S (x := ((I7 l (grI l d9 g).2.2 d9 (grI l d9 g).2.1 0).1, (I7 l (grI l d9 g).2.2 d9 (grI l d9 g).2.1 0).2.1)) i6 i6) rfl bn bn dc)<|fun p46 _ => Ei rfl<|En<|o6<|Et<|Eq_<|Ew Z1<|Ey rfl (k7 (cs := [_, _]) ty_Step rfl (Has.pt<|mS<|mS<|mS<|mS m0) rfl)<|Eu<|Ez Z2<|Est rfl (N.alloc ty_Step dc)<|fun b12 _ => Est rfl (Ns [_, _] ty_Step rfl)<|fun _ _ => Eu<|Ez Z7<|s4<|g9 (congrArg (ow eBs [_]) (show _ = (grI l d9<|g + 1).2.1 from by exact c1a q25))<|s4<|g9 (congrArg (ow eIs [_]) (show _ = (grI l d9<|g + 1).2.2 from by exact c0P q25 om))<|Em rfl<|E0 rfl a3o rfl (fun hA => ⟨trivial, ⟨(hA.pt<|mS<|mS<|mS<|mS<|mS<|mS<|mS<|mS m0), (hA.ro hatoms), (hA.pt<|mS<|mS<|mS<|mS<|mS<|mS<|mS<|mS<|mS m0), (hA.ro hl), (hA.pt<|mS<|mS<|mS<|mS m0), (hA.ow m0), (hA.pt<|mS<|mS<|mS<|mS<|mS<|mS<|mS m0), (hA.pt<|mS<|mS<|mS<|mS<|mS<|mS m0), (hA.ow<|mS m0), (by first | exact List.length_replicate .. | exact a3P)⟩⟩)<|Em rfl<|Ey rfl ((Y.ext rfl rfl).yd)<|Ey rfl ((Y.ext rfl rfl).yd)<|i8<|Est rfl (Ns [_, _] ty_Step rfl)<|fun _ _ => Ei rfl<|Eu<|g9 (congrArg (fun z => pt b12 148 [.int .i64 z, .int .i64<|(I7 l ((grI l d9<|g + 1).2.2) d9 ((grI l d9<|g + 1).2.1) 0).2.1]) (show (I7 l ((grI l d9<|g + 1).2.2) d9 ((grI l d9<|g + 1).2.1) 0).1 = (I7 l (grI l d9<|g + 1).2.2 d9 (grI l d9<|g + 1).2.1 0).1 from by first | exact b1Q q25 | rfl))<|g9 (congrArg (fun z => pt b12 148 [.int .i64<|(I7 l (grI l d9<|g + 1).2.2 d9 (grI l d9<|g + 1).2.1 0).1, .int .i64 z]) (show (I7 l ((grI l d9<|g + 1).2.2) d9 ((grI l d9<|g + 1).2.1) 0).2.1 = (I7 l (grI l d9<|g + 1).2.2 d9 (grI l d9<|g + 1).2.1 0).2.1 from by first | exact b1Q q25 | rfl))<|y7<|Ent.drop<|a4G<|g9 (congrArg (ow M7 [_]) (show _ = (grI l d9<|g + 1).1 from by first | exact b1Q q25 | rfl))<|L4<|L4<|L4<|L4<|L4<|y7<|w7<|H4<|L4 ?_
  exact t7 br (g + 1, p46.1, (((grI l d9 g).1).length + 1), p46.2, b12, p42.1, (((grI l d9 g).2.2).length + d9[((I7 l (grI l d9 g).2.2 d9 (grI l d9 g).2.1 0).1).toNat].2.length), p42.2, aA0_4, _, cA0_4) ⟨rfl, rfl, rfl, rfl, rfl, rfl, frB (by first | exact b1Q q25 | rfl), trivial⟩ (.refl _) ⟨oz, (show grP l d9 (g + 1) from by exact b8x pa q25)⟩ oz
 ·have jf := b9D pa q25
  refine Eu<|r7 rfl<|E.exit<|l4<|l4<|w8<|Et<|Eq_<|D.region (fun j => true) mixed<|Dm 0 rfl<|Dy 1 rfl (B4 ty_Bs rfl (Has.pt<|mS<|mS<|mS<|mS<|mS m0) rfl)<|Dyp 2 rfl (G7 rfl)<|Dyp 3 rfl (G7 rfl)<|n9 kr<|Et<|E.ret<|g9 (congrArg (ow eBs [_]) (show _ = (grF l d9).2.1 by rw [jf]))<|a4G<|g9 (congrArg (ow M7 [_]) (show _ = (grF l d9).1 by rw [jf]))<|f5<|f5<|c0i br rfl rfl rfl ((_, _, _), (_, _, _)) trivial rfl (J := _) (.refl _)<|.inl rfl
theorem b1I (hl : l.length ≤ 1000) (ha : d9.length ≤ 1000) (ht : ∀ a ∈ d9, a.2.length ≤ 3) : Tr Tryz.prog 106 [.slice a_l m_l c_l, .slice a_atoms m_atoms c_atoms] (fun w L => Ro w L G0 [.slice a_l m_l c_l] l ∧ Ro w L B1 [.slice a_atoms m_atoms c_atoms] d9) [] (κ := (SL) × (SL)) (fun k => True) (fun k => .tuple #[.slice k.1.1 k.1.2.1 k.1.2.2, .slice k.2.1 k.2.2.1 k.2.2.2]) (fun k => [ow M7 [.slice k.1.1 k.1.2.1 k.1.2.2] ((grF l d9).1), ow eBs [.slice k.2.1 k.2.2.1 k.2.2.2] ((grF l d9).2.1)]) := by
 refine Ti2 Tryz.func106 11 rfl fun w L hR => ?_
 obtain ⟨hl, hatoms⟩ := hR
 obtain ⟨rfl, ll⟩ := hl.slen
 obtain ⟨rfl, latoms⟩ := hatoms.slen
 refine Ew Z2<|Ei rfl<|Ei rfl<|Ev Z7<|Em rfl<|Em rfl<|Est rfl (N.call (a7l fc fc fc) rfl rfl rfl dc rfl<|fun w Lp hA => ⟨hA.ro hl, hA.ro hatoms⟩)<|fun k8 _ => ?_
 obtain ⟨⟨a8_0, m8_0, c8_0⟩, ⟨a8_1, m8_1, c8_1⟩⟩ := k8
 refine r8 m0 ?_
 rintro rfl l8_0
 refine r8 (mS m0) ?_
 rintro rfl l8_1
 refine Ey rfl ((Y.ext rfl rfl).yd)<|Ey rfl ((Y.ext rfl rfl).yd)<|Ei rfl<|Ei rfl<|Eu<|E.ret<|f5<|f5<|f5<|f5<|c0i br rfl rfl rfl ((_, _, _), (_, _, _)) trivial rfl (J := _) (.refl _)<|.inl rfl
theorem a5P : Tr Tryz.prog 111 [.slice a_l m_l c_l, .agg #[.int .i64 l0, .slice w6 B5 w5], .slice a_bound m_bound c_bound] (fun w L => Ro w L G0 [.slice a_l m_l c_l] l ∧ I64 l0 ∧ Ro w L eIs [.slice w6 B5 w5] f6 ∧ Ro w L eIs [.slice a_bound m_bound c_bound] J2) [] (κ := Unit) (fun k => True) (fun k => .int .i64 (G5 l (l0, f6) J2)) (fun k => []) := by
 refine Ti3 Tryz.func111 22 rfl fun w L hR => ?_
 obtain ⟨hl, J4, y6, hbound⟩ := hR
 obtain ⟨rfl, ll⟩ := hl.slen
 obtain ⟨rfl, Q5⟩ := y6.slen
 obtain ⟨rfl, lbound⟩ := hbound.slen
 refine Ew Z2<|Est rfl (N.box (cs := [_, _]) rfl dc rfl)<|fun b4 _ => Ei rfl<|Eu<|Eq_<|Ew Z1<|Ei rfl<|Eu<|E.block<|Lo (κ := Nat) (fun g => g ≤ l.length ∧ ∀ x ∈ l.take g, O4 x (l0, f6) J2 = false) (fun g => [(0, .slice a_l l.length c_l), (2, .slice a_bound J2.length c_bound), (4, .pointer<|some ⟨b4, 0, none⟩), (7, .int .i64 (g : Int))]) (fun g => [pt b4 111 [.int .i64 l0, .slice w6 f6.length w5]]) (fun g => l.length - g) 0 ⟨Nat.zero_le _, by simp⟩<|fun g pg => ?_
 obtain ⟨pk, pa⟩ := pg
 refine Eq_<|Ew Z4<|Em rfl<|Em rfl<|Yln us_Methods rfl<|Ylt rfl<|l3 (fun q11 => ?_)<|fun q11 => ?_
 ·refine Eu<|Ct<|Eq_<|E.block<|Eq_<|D.region (fun j => true) mixed<|Dm 0 rfl<|Dm 1 rfl ?_
  obtain ⟨eb16, eo16, ec16, ea16, er16, el16, eh16⟩ := hl.elem g om
  obtain ⟨xa16_0, xc16_0, rfl, ei16_0, xh16_0, ei16_2, ei16_3, ei16_4⟩ := P5 er16
  have := xh16_0.slen.2
  refine Dyp 2 rfl (z8 us_Methods ty_Method rfl ea16 rfl g rfl om)<|Dy 3 rfl (k7 (cs := [_, _, _, _, _]) ty_Method rfl (eh16 _) rfl)<|Dy 4 rfl (k7 (cs := [_, _]) ty_Atom rfl (Has.pt m0) rfl)<|Dm 5 rfl<|D0 6 rfl a5A rfl (fun hA => ⟨ei16_0, hA.ro xh16_0, ei16_2, ei16_3, ei16_4, J4, hA.ro y6, hA.ro hbound⟩)<|Ent.b (fun q20 => ?_)<|fun q20 => ?_
  ·refine n9 kr<|Et<|r6 rfl<|Ew Z2<|Em rfl<|Ei rfl<|Eu<|E.ret<|u6<|i9<|i9<|u6<|i9<|Fg rfl rfl () (congrArg (Value.int .i64) (by first | exact Q4 (p := fun m => O4 m (l0, f6) J2) om pa q20 | exact P1 (p := fun m => O4 m (l0, f6) J2) om pa)) rfl
  ·refine n9 kr<|Et<|r7 rfl<|v8<|o6<|Et<|Ez Z3<|Em rfl<|Yad rfl om om<|Ei rfl ?_
   exact Eu<|t7 br (g + 1) rs (.refl _) ⟨by omega, by exact U7 (p := fun m => O4 m (l0, f6) J2) om pa q20⟩ om
 ·refine Eu<|r7 rfl<|E.exit<|l4<|l4<|w8<|Et<|Ew Z1<|Ei rfl<|Eu<|E.ret<|Fg rfl rfl () (congrArg (Value.int .i64) (by first | exact Q4 (p := fun m => O4 m (l0, f6) J2) om pa q20 | exact P1 (p := fun m => O4 m (l0, f6) J2) om pa)) rfl
theorem a6D (hz : J2.length ≤ 1000) (ht : f6.length ≤ 3) : TL Tryz.prog 221 [.slice a_bound m_bound c_bound, .agg #[.int .i64 l0, .slice w6 B5 w5]] (fun w L => Ro w L eIs [.slice a_bound m_bound c_bound] J2 ∧ I64 l0 ∧ Ro w L eIs [.slice w6 B5 w5] f6) eIs (a2M J2 (l0, f6)) := by
 refine Ti2 Tryz.func221 31 rfl fun w L hR => ?_
 obtain ⟨hbound, J4, y6⟩ := hR
 obtain ⟨rfl, lbound⟩ := hbound.slen
 obtain ⟨rfl, Q5⟩ := y6.slen
 refine Ew Z2<|Est rfl (N.box (cs := [_, _]) rfl dc rfl)<|fun b3 _ => Ei rfl<|Ev Z4<|Est rfl (Nb [] [] us_Is i7 rfl rfl)<|fun b7 _ => Ent.drop<|Em rfl<|Est rfl (R1 (E := Enc.int) Plain.int us_Is i7 rfl rfl rfl hbound bn bn dc)<|fun p9 _ => Ei rfl<|Eu<|Eq_<|Ew Z1<|Ei rfl<|Eu<|E.block<|g9 (congrArg (ow eIs [_]) (show _ = ((f6.take 0).filter fun t => inR t 10 17).foldl R5 J2 from by first | rfl | (simp; done) | grind [d1, d2, t1, t2]))<|Lo (κ := Nat × SL) (fun g => g.1 ≤ f6.length ∧ True) (fun g => [(3, .pointer<|some ⟨b3, 0, none⟩), (5, .slice g.2.1 g.2.2.1 g.2.2.2), (6, .int .i64 (↑g.1 : Int))]) (fun g => [ow eIs [.slice g.2.1 g.2.2.1 g.2.2.2]<|((f6.take g.1).filter fun t => inR t 10 17).foldl R5 J2, pt b3 111 [.int .i64 l0, .slice w6 f6.length w5]]) (fun g => f6.length - g.1) (0, p9.1, J2.length, p9.2) ⟨Nat.zero_le _, by simp⟩<|fun g pg => ?_
 obtain ⟨g, aA0_0, mA0_0, cA0_0⟩ := g
 try dsimp only at pg
 try dsimp only
 obtain ⟨pk, pa⟩ := pg
 have jf := a4o (b := J2) (t := (f6.take g).filter fun t => inR t 10 17)
 have jg := List.length_filter_le (fun t => inR t 10 17) (f6.take g)
 have jh := List.length_take_le g f6
 refine r8 m0 ?_
 rintro rfl laA0_0
 refine Eq_<|Ew Z5<|Em rfl<|Lz fo_Atom_1 ty_Is rfl (mS m0) rfl<|Yln us_Is rfl<|Ylt rfl<|l3 (fun q14 => ?_)<|fun q14 => ?_
 ·refine Eu<|Ct<|Eq_<|E.block<|Ew Z6<|Lz fo_Atom_1 ty_Is rfl (mS m0) rfl<|Em rfl ?_
  obtain ⟨eb20, eo20, ea20, ei20, eh20⟩ := y6.elemI g om
  refine Il us_Is i7 rfl ea20 g rfl om rfl (eh20 _)<|E0 rfl Z0 rfl (fun _ => trivial)<|Ent.b (fun q22 => ?_)<|fun q22 => ?_
  ·refine Eu<|r6 rfl<|Ez Z8<|Em rfl<|Lz fo_Atom_1 ty_Is rfl (mS m0) rfl<|Em rfl<|Il us_Is i7 rfl ea20 g rfl om rfl (eh20 _)<|Est rfl (N.call (pre := [_]) (a7t fc) rfl rfl rfl dc rfl<|fun w Lp hA => ei20)<|fun k29 _ => ?_
   obtain ⟨a29, m29, c29⟩ := k29
   refine r8 m0 ?_
   rintro rfl l29
   refine Ei rfl<|En<|o6<|Et<|Ez Z3<|Em rfl<|Yad rfl om om<|Ei rfl<|Eu<|g9 (congrArg (ow eIs [_]) (show _ = ((f6.take<|g + 1).filter fun t => inR t 10 17).foldl R5 J2 from by first | exact b6g om q22 | exact b5L om q22))<|f5<|f5 ?_
   exact Ea (g + 1, a29, _, c29) ⟨oz, trivial⟩
  ·refine Eu<|r7 rfl<|v8<|o6<|Et<|Ez Z3<|Em rfl<|Yad rfl om om<|Ei rfl<|Eu<|g9 (congrArg (ow eIs [_]) (show _ = ((f6.take<|g + 1).filter fun t => inR t 10 17).foldl R5 J2 from by first | exact b6g om q22 | exact b5L om q22))<|f5<|f5 ?_
   exact Ea (g + 1, aA0_0, _, cA0_0) ⟨oz, trivial⟩
 ·refine Eu<|r7 rfl<|E.exit<|l4<|l4<|w8<|Et<|Ew Z2<|Em rfl<|Ei rfl<|Eu<|E.ret<|g9 (congrArg (ow eIs [_]) (show _ = a2M J2 (l0, f6) by rw [List.take_of_length_le om]; rfl))<|Fg rfl rfl (_, _, _) rfl rfl
theorem a9y {y9 : Option Addr} {D9 y8 : Nat} {j8 : List Int} {v7 : Option Addr} {C6 v6 : Nat} {d4 : List IL} (hl : l.length ≤ 1000) (ha : d4.length ≤ 100) (ht : ∀ a ∈ d4, a.2.length ≤ 3) : TL Tryz.prog 109 [.slice a_l m_l c_l, .agg #[.slice y9 D9 y8, .slice v7 C6 v6]] (fun w L => Ro w L G0 [.slice a_l m_l c_l] l ∧ Ro w L eIs [.slice y9 D9 y8] j8 ∧ Ro w L B1 [.slice v7 C6 v6] d4) M7 ((grF l d4).1) := by
 refine Ti2 Tryz.func109 62 rfl fun w L hR => ?_
 obtain ⟨hl, C0, z7⟩ := hR
 obtain ⟨rfl, ll⟩ := hl.slen
 obtain ⟨rfl, W8⟩ := C0.slen
 obtain ⟨rfl, U3⟩ := z7.slen
 refine Ew Z2<|Est rfl (N.box (cs := [_, _]) rfl dc rfl)<|fun b3 _ => Ei rfl<|Ev Z2<|Est rfl (Nb [] [] us_Steps ty_Step rfl rfl)<|fun b11 _ => Ent.drop<|Ei rfl<|Ev Z2<|Est rfl (Nb [] [] us_Is i7 rfl rfl)<|fun b12 _ => Ent.drop<|Ei rfl<|Ev Z2<|Est rfl (Nb [] [] us_Is i7 rfl rfl)<|fun b13 _ => Ent.drop<|Ei rfl<|Eu<|Eq_<|Ew Z1<|Ei rfl<|Eu<|E.block<|l6 (A := []) (Own.nil (E := a1m) (e := tStep) (a := (some ⟨b11, 0, none⟩))) rfl<|g9 (congrArg (ow M7 [_]) (show _ = (grI l d4 0).1 from by rfl))<|l6 (A := []) (Own.nil (E := Enc.int) (e := tI) (a := (some ⟨b12, 0, none⟩))) rfl<|g9 (congrArg (ow eIs [_]) (show _ = grV l d4 0 from by rfl))<|l6 (A := []) (Own.nil (E := Enc.int) (e := tI) (a := (some ⟨b13, 0, none⟩))) rfl<|g9 (congrArg (ow eIs [_]) (show _ = ((grI l d4 0).1).map (fun x => x.1) from by rfl))<|Lo (κ := Nat × Option Addr × Nat × Nat × Option Addr × Nat × Nat × SL) (fun r => r.1 ≤ d4.length ∧ True) (fun r => [(0, .slice a_l l.length c_l), (3, .pointer<|some ⟨b3, 0, none⟩), (5, .slice r.2.1 r.2.2.1 r.2.2.2.1), (6, .slice r.2.2.2.2.1 r.2.2.2.2.2.1 r.2.2.2.2.2.2.1), (7, .slice r.2.2.2.2.2.2.2.1 r.2.2.2.2.2.2.2.2.1 r.2.2.2.2.2.2.2.2.2), (8, .int .i64 (↑r.1 : Int))]) (fun r => [ow eIs [.slice r.2.2.2.2.2.2.2.1 r.2.2.2.2.2.2.2.2.1 r.2.2.2.2.2.2.2.2.2]<|((grI l d4 r.1).1).map (fun x => x.1), ow eIs [.slice r.2.2.2.2.1 r.2.2.2.2.2.1 r.2.2.2.2.2.2.1]<|grV l d4 r.1, ow M7 [.slice r.2.1 r.2.2.1 r.2.2.2.1]<|(grI l d4 r.1).1, pt b3 28 [.slice y9 j8.length y8, .slice v7 d4.length v6]]) (fun r => d4.length - r.1) (0, (some ⟨b11, 0, none⟩), 0, 0, (some ⟨b12, 0, none⟩), 0, 0, (some ⟨b13, 0, none⟩), 0, 0) ⟨Nat.zero_le _, by simp⟩<|fun r pr => ?_
 obtain ⟨r, aA0_0, mA0_0, cA0_0, aA0_1, mA0_1, cA0_1, aA0_2, mA0_2, cA0_2⟩ := r
 try dsimp only at pr
 try dsimp only
 obtain ⟨pk, pa⟩ := pr
 have jb := b8p (l := l) (d9 := d4) (n := r) ht
 have js := b1R (l := l) (d9 := d4) (n := r)
 have ju : (((grI l d4 r).1).map fun x => x.1).length = ((grI l d4 r).1).length := List.length_map ..
 refine r8 (mS<|mS m0) ?_
 rintro rfl laA0_0
 refine r8 (mS m0) ?_
 rintro rfl laA0_1
 refine r8 m0 ?_
 rintro rfl laA0_2
 refine Eq_<|Ew Z5<|Em rfl<|Lz fo_Query_1 ty_Atoms rfl (mS<|mS<|mS m0) rfl<|Yln us_Atoms rfl<|Ylt rfl<|l3 (fun q18 => ?_)<|fun q18 => ?_
 ·refine Eu<|Ct<|Eq_<|E.block<|Ew Z1<|Ei rfl<|Eu<|E.block<|Lo (κ := Nat × Option Addr × Nat × Nat × Option Addr × Nat × Nat × SL) (fun g => g.1 ≤ d4.length ∧ sgI l d4 r g.1) (fun g => [(0, .slice a_l l.length c_l), (3, .pointer<|some ⟨b3, 0, none⟩), (5, .slice g.2.1 g.2.2.1 g.2.2.2.1), (6, .slice g.2.2.2.2.1 g.2.2.2.2.2.1 g.2.2.2.2.2.2.1), (7, .slice g.2.2.2.2.2.2.2.1 g.2.2.2.2.2.2.2.2.1 g.2.2.2.2.2.2.2.2.2), (8, .int .i64 (r : Int)), (9, .int .i64 (↑g.1 : Int))]) (fun g => [ow eIs [.slice g.2.2.2.2.2.2.2.1 g.2.2.2.2.2.2.2.2.1 g.2.2.2.2.2.2.2.2.2]<|((grI l d4 r).1).map (fun x => x.1), ow eIs [.slice g.2.2.2.2.1 g.2.2.2.2.2.1 g.2.2.2.2.2.2.1]<|grV l d4 r, ow M7 [.slice g.2.1 g.2.2.1 g.2.2.2.1]<|(grI l d4 r).1, pt b3 28 [.slice y9 j8.length y8, .slice v7 d4.length v6]]) (fun g => d4.length - g.1) (0, aA0_0, ((grI l d4 r).1).length, cA0_0, aA0_1, (grV l d4 r).length, cA0_1, aA0_2, (((grI l d4 r).1).map (fun x => x.1)).length, cA0_2) ⟨Nat.zero_le _, b8B⟩<|fun g pg => ?_
  obtain ⟨g, aA1_0, mA1_0, cA1_0, aA1_1, mA1_1, cA1_1, aA1_2, mA1_2, cA1_2⟩ := g
  try dsimp only at pg
  try dsimp only
  obtain ⟨pk, pa⟩ := pg
  refine r8 (mS<|mS m0) ?_
  rintro rfl laA1_0
  refine r8 (mS m0) ?_
  rintro rfl laA1_1
  refine r8 m0 ?_
  rintro rfl laA1_2
  refine Eq_<|Ew Z5<|Em rfl<|Lz fo_Query_1 ty_Atoms rfl (mS<|mS<|mS m0) rfl<|Yln us_Atoms rfl<|Ylt rfl<|l3 (fun q25 => ?_)<|fun q25 => ?_
  ·refine Eu<|Ct<|Eq_<|E.block<|Ew Z9<|Em rfl<|Lz fo_Query_1 ty_Atoms rfl (mS<|mS<|mS m0) rfl<|Em rfl ?_
   obtain ⟨eb32, eo32, ec32, ea32, er32, el32, eh32⟩ := z7.elem g om
   obtain ⟨xa32_0, xc32_0, rfl, ei32_0, xh32_0⟩ := L5 er32
   have := xh32_0.slen.2
   refine Ix us_Atoms ty_Atom rfl ea32 g rfl om<|Ey rfl (k7 (cs := [_, _]) ty_Atom rfl (eh32 _) rfl)<|Em rfl<|E0 rfl a5P rfl (fun hA => ⟨hA.ro hl, ei32_0, hA.ro xh32_0, hA.ow<|mS m0⟩)<|Ei rfl<|Ev Z8<|Em rfl<|Ey rfl ((Y.geq rfl rfl).yd)<|l3 (fun q37 => ?_)<|fun q37 => ?_
   ·have jm := a9e (l := l) (a := d4[g]) (b := grV l d4 r)
    refine Em rfl<|Em rfl<|Em rfl<|E0 rfl a0s rfl (fun hA => hA.ow m0)<|Ent.b (fun q41 => ?_)<|fun q41 => ?_
    ·refine Yno true rfl<|Ypt rfl<|Eu<|r7 rfl<|v8<|o6<|Et<|Ez Z3<|Em rfl<|Yad rfl om om<|Ei rfl<|Eu<|a4G<|a4G<|a4G<|a4G ?_
     exact Ea (g + 1, aA1_0, _, cA1_0, aA1_1, _, cA1_1, aA1_2, _, cA1_2) ⟨oz, (show sgI l d4 r (g + 1) from by first | exact b4k pa om q37 | exact b4f pa om q41)⟩
    ·refine Yno false rfl<|Ypt rfl<|Eu<|r6 rfl<|Ew Z7<|Em rfl<|Em rfl<|Em rfl<|Ey rfl ((M4 (pvs := [_, _]) (cs := [_, _]) ty_Step pl_Step rfl rfl).yd)<|Est rfl (Nb [_] [_, _] us_Steps ty_Step rfl rfl)<|fun b48 _ => a4G<|Est rfl (B0 (E := a1m) (ex := ((g : Int), G5 l d4[g]<|grV l d4 r)) us_Steps ty_Step rfl rfl rfl (a9S (x := ((g : Int), G5 l d4[g]<|grV l d4 r)) i6 i6) rfl bn bn dc)<|fun p49 _ => Ei rfl<|Ev Z5<|Em rfl<|Em rfl<|Est rfl (Nb [_] [_] us_Is i7 rfl rfl)<|fun b52 _ => i8<|Est rfl (B0 (E := Enc.int) (ex := (g : Int)) us_Is i7 rfl rfl rfl (Own.int i6) rfl bn bn dc)<|fun p53 _ => Ei rfl<|Ev Z8<|Em rfl<|Lz fo_Query_1 ty_Atoms rfl (mS<|mS<|mS m0) rfl<|Em rfl<|Ix us_Atoms ty_Atom rfl ea32 g rfl om<|Ey rfl (k7 (cs := [_, _]) ty_Atom rfl (eh32 _) rfl)<|El rfl (a6D fo<|ht _<|List.getElem_mem om) rfl (fun hA => ⟨hA.ow<|mS<|mS m0, ei32_0, hA.ro xh32_0⟩)<|fun a60 c60 l60 => ?_
     refine Ei rfl<|Eu<|E.exit<|c1r rfl<|l4<|l4<|w8<|o6<|Et<|Ez Z3<|Em rfl<|Yad rfl om om<|Ei rfl<|Eu<|a4G<|Ent.drop<|i8<|g9 (congrArg (ow M7 [_]) (show _ = (grI l d4<|r + 1).1 from by first | exact sg1 pa om q37 q41 | exact sg2 pa om q37 q41 | exact sg3 pa om q37 q41 | exact congrArg (fun z => z.1) (se1 pa om) | exact se2 pa om | exact congrArg (fun z => z.1.map fun x => x.1) (se1 pa om)))<|f5<|g9 (congrArg (ow eIs [_]) (show _ = grV l d4 (r + 1) from by first | exact sg1 pa om q37 q41 | exact sg2 pa om q37 q41 | exact sg3 pa om q37 q41 | exact congrArg (fun z => z.1) (se1 pa om) | exact se2 pa om | exact congrArg (fun z => z.1.map fun x => x.1) (se1 pa om)))<|i8<|g9 (congrArg (ow eIs [_]) (show _ = ((grI l d4<|r + 1).1).map (fun x => x.1) from by first | exact sg1 pa om q37 q41 | exact sg2 pa om q37 q41 | exact sg3 pa om q37 q41 | exact congrArg (fun z => z.1) (se1 pa om) | exact se2 pa om | exact congrArg (fun z => z.1.map fun x => x.1) (se1 pa om)))<|a4G<|a4G<|a4G<|a4G ?_
     exact Ea (r + 1, p49.1, (((grI l d4 r).1).length + 1), p49.2, a60, _, c60, p53.1, ((((grI l d4 r).1).map (fun x => x.1)).length + 1), p53.2) ⟨oz, trivial⟩
   ·refine Em rfl<|Es rfl<|Es rfl<|Es rfl<|Es rfl<|Ypf rfl<|Eu<|r7 rfl<|v8<|o6<|Et<|Ez Z3<|Em rfl<|Yad rfl om om<|Ei rfl<|Eu<|a4G<|a4G<|a4G<|a4G ?_
    exact Ea (g + 1, aA1_0, _, cA1_0, aA1_1, _, cA1_1, aA1_2, _, cA1_2) ⟨oz, (show sgI l d4 r (g + 1) from by first | exact b4k pa om q37 | exact b4f pa om q41)⟩
  ·refine Eu<|r7 rfl<|E.exit<|l4<|l4<|w8<|o6<|Et<|Ez Z3<|Em rfl<|Yad rfl om om<|Ei rfl<|Eu<|i8<|g9 (congrArg (ow M7 [_]) (show _ = (grI l d4<|r + 1).1 from by first | exact sg1 pa om q37 q41 | exact sg2 pa om q37 q41 | exact sg3 pa om q37 q41 | exact congrArg (fun z => z.1) (se1 pa om) | exact se2 pa om | exact congrArg (fun z => z.1.map fun x => x.1) (se1 pa om)))<|i8<|g9 (congrArg (ow eIs [_]) (show _ = grV l d4 (r + 1) from by first | exact sg1 pa om q37 q41 | exact sg2 pa om q37 q41 | exact sg3 pa om q37 q41 | exact congrArg (fun z => z.1) (se1 pa om) | exact se2 pa om | exact congrArg (fun z => z.1.map fun x => x.1) (se1 pa om)))<|i8<|g9 (congrArg (ow eIs [_]) (show _ = ((grI l d4<|r + 1).1).map (fun x => x.1) from by first | exact sg1 pa om q37 q41 | exact sg2 pa om q37 q41 | exact sg3 pa om q37 q41 | exact congrArg (fun z => z.1) (se1 pa om) | exact se2 pa om | exact congrArg (fun z => z.1.map fun x => x.1) (se1 pa om)))<|a4G<|a4G<|a4G<|a4G ?_
   exact Ea (r + 1, aA1_0, _, cA1_0, aA1_1, _, cA1_1, aA1_2, _, cA1_2) ⟨oz, trivial⟩
 ·refine Eu<|r7 rfl<|E.exit<|l4<|l4<|w8<|Et<|Ew Z2<|Em rfl<|Ei rfl<|Eu<|E.ret<|i8<|g9 (congrArg (ow M7 [_]) (show _ = (grF l d4).1 by rw [show r = d4.length from by omega]; rfl))<|Fg rfl rfl (_, _, _) rfl rfl
end Go.Proofs.YthapcdhdfaibkaaGreatDoor
