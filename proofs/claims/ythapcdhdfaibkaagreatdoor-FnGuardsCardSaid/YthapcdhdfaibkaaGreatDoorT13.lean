import Derived.Test.YthapcdhdfaibkaaGreatDoorT20
import Derived.Test.YthapcdhdfaibkaaGreatDoorT9
namespace Go.Proofs.YthapcdhdfaibkaaGreatDoor
open Go.RowKit
set_option linter.all false
set_option maxHeartbeats 2000000
attribute [local irreducible] Nop Yd Yp Ent Has Tr FnP FnP2 Src M5 U1 V6 W3 G3
variable {n8 : Int} {l : List IL} {f9 s : List Int} {I1 E1 m_l c_l m_s c_s : Nat} {E3 a_l a_s : Option Addr}
theorem a3g (hyf : f9.length ≤ 1048576) : Tr Tryz.prog 165 [.agg #[.int .i64 n8, .slice E3 I1 E1]] (fun w L => I64 n8 ∧ Ro w L eIs [.slice E3 I1 E1] f9) [] (κ := SL) (fun k => True) (fun k => .agg #[.int .i64 n8, .slice k.1 k.2.1 k.2.2]) (fun k => [ow eIs [.slice k.1 k.2.1 k.2.2] f9]) := by
 refine Ti1 Tryz.func165 9 rfl fun w L hR => ?_
 obtain ⟨M3, C3⟩ := hR
 obtain ⟨rfl, a0l⟩ := C3.slen
 refine Ew Z2<|Est rfl (N.box (cs := [_, _]) rfl dc rfl)<|fun b1 _ => Est rfl (N.alloc ty_Fact dc)<|fun b2 _ => Eu<|Eq_<|D.region (fun j => !(Nat.beq j 6)) mixed<|Df 0 1 fo_Fact_0 i7 rfl (Hz (mS m0) 0 rfl)<|Df 2 3 fo_Fact_1 ty_Is rfl (Hz (mS m0) 1 rfl)<|Dl 4 rfl (a3q fc) rfl (fun hA => hA.ro C3)<|fun a7 c7 l7 => Dyp 5 rfl (M4 (pvs := [_, _]) (cs := [_, _]) ty_Fact a4h rfl rfl)<|f5<|E7 6 rfl rfl kr (fun h => by cases h) (Ns [_, _] ty_Fact rfl)<|fun _ _ => n9 kr<|Et<|E.ret<|f5<|S0 br rfl rfl (mS m0) ty_Fact rfl (_, _, _) trivial rfl (J := _) (.refl _)<|.inl rfl
theorem W0 {rel : Int} {a_values : Option Addr} {m_values c_values : Nat} {N8 : List Int} (hz : N8.length ≤ 1048576) : Tr Tryz.prog 209 [.int .i64 rel, .slice a_values m_values c_values] (fun w L => I64 rel ∧ Ro w L eIs [.slice a_values m_values c_values] N8) [] (κ := SL) (fun k => True) (fun k => .agg #[.int .i64 rel, .slice k.1 k.2.1 k.2.2]) (fun k => [ow eIs [.slice k.1 k.2.1 k.2.2] N8]) := by
 refine Ti2 Tryz.func209 10 rfl fun w L hR => ?_
 obtain ⟨i6rel, hvalues⟩ := hR
 obtain ⟨rfl, lvalues⟩ := hvalues.slen
 refine Ew Z1<|Est rfl (N.alloc ty_Fact dc)<|fun b4 _ => Ev Z6<|Em rfl<|Est rfl (Nb [] [] us_Is i7 rfl rfl)<|fun b6 _ => Ent.drop<|Em rfl<|Est rfl (R1 (E := Enc.int) Plain.int us_Is i7 rfl rfl rfl hvalues bn bn dc)<|fun p8 _ => Ey rfl ((M4 (pvs := [_, _]) (cs := [_, _]) ty_Fact a4h rfl rfl).yd)<|f5<|Est rfl (Ns [_, _] ty_Fact rfl)<|fun _ _ => Eu<|E.ret<|f5<|S0 br rfl rfl (mS m0) ty_Fact rfl (_, _, _) trivial rfl (J := _) (.refl _)<|.inl rfl
theorem a8V (hz : l.length ≤ 1073741824) (hyl : ∀ x ∈ l, x.2.length ≤ 1048576) : TL Tryz.prog 156 [.slice a_l m_l c_l] (fun w L => Ro w L s5 [.slice a_l m_l c_l] l) s5 l := by
 refine Ti1 Tryz.func156 20 rfl fun w L hR => ?_
 have hl := hR
 obtain ⟨rfl, ll⟩ := hl.slen
 refine Ew Z1<|Ei rfl<|Ev Z2<|Est rfl (Nb [] [] us_Facts ty_Fact rfl rfl)<|fun b6 _ => Ent.drop<|Ei rfl<|Eu<|Eq_<|Ew Z3<|Em rfl<|Yln us_Facts rfl<|Em rfl<|Eu<|E.block<|l6 (A := []) (Own.nil (E := J8) (e := tFact) (a := (some ⟨b6, 0, none⟩))) rfl<|g9 (congrArg (ow s5 [_]) (show _ = l.take 0 from by first | rfl | (simp; done) | grind [d1, d2, t1, t2]))<|Lo (κ := Nat × SL) (fun g => g.1 ≤ l.length ∧ True) (fun g => [(3, .slice g.2.1 g.2.2.1 g.2.2.2), (7, .slice a_l l.length c_l), (8, .int .i64 (↑l.length : Int)), (9, .int .i64 (↑g.1 : Int))]) (fun g => [ow s5 [.slice g.2.1 g.2.2.1 g.2.2.2]<|l.take g.1]) (fun g => l.length - g.1) (0, (some ⟨b6, 0, none⟩), 0, 0) ⟨Nat.zero_le _, by simp⟩<|fun g pg => ?_
 obtain ⟨g, aA0_0, mA0_0, cA0_0⟩ := g
 try dsimp only at pg
 try dsimp only
 obtain ⟨pk, pa⟩ := pg
 have jp := List.length_take_le g l
 refine r8 m0 ?_
 rintro rfl laA0_0
 refine Ew Z1<|Ylt rfl<|l3 (fun q10 => ?_)<|fun q10 => ?_
 ·obtain ⟨eb11, eo11, ec11, ea11, er11, el11, eh11⟩ := hl.elem g om
  obtain ⟨xa11_0, xc11_0, rfl, ei11_0, xh11_0⟩ := W4 er11
  have := xh11_0.slen.2
  refine Eu<|Eq_<|Ct<|Eq_<|E.block<|Ew Z4<|Ix us_Facts ty_Fact rfl ea11 g rfl om<|Ey rfl (k7 (cs := [_, _]) ty_Fact rfl (eh11 _) rfl)<|Est rfl (N.alloc ty_Fact dc)<|fun b5 _ => Est rfl (Ns [_, _] ty_Fact rfl)<|fun _ _ => Eu<|Ez Z6<|Em rfl<|Ey rfl (k7 (cs := [_, _]) ty_Fact rfl (Has.pt m0) rfl)<|Est rfl (N.call (a3g<|hyl _<|List.getElem_mem om) rfl rfl rfl dc rfl<|fun w Lp hA => ⟨ei11_0, hA.ro xh11_0⟩)<|fun k15 _ => ?_
  obtain ⟨a15, m15, c15⟩ := k15
  refine r8 m0 ?_
  rintro rfl l15
  refine Est rfl (Nb [_] [_, _] us_Facts ty_Fact rfl rfl)<|fun b16 _ => f5<|f5<|a4G<|Est rfl (B0 (E := J8) (ex := l[g]) us_Facts ty_Fact rfl rfl rfl (P4 (x := l[g]) ei11_0 Own.ow) rfl bn bn dc)<|fun p17 _ => Ei rfl<|En<|o6<|Et<|Ez Z2<|Yad rfl om om<|Em rfl<|Eu<|f5<|Ent.drop<|g9 (congrArg (ow s5 [_]) (show _ = l.take (g + 1) from by grind [d1, d2, t1, t2])) ?_
  exact Ea (g + 1, p17.1, ((l.take g).length + 1), p17.2) ⟨oz, trivial⟩
 ·refine Eu<|Eq_<|r7 rfl<|E.exit<|l4<|l4<|w8<|Et<|Ew Z2<|Em rfl<|Ei rfl<|Eu<|E.ret<|g9 (congrArg (ow s5 [_]) (show _ = l by grind [d1, d2, t1, t2]))<|Fg rfl rfl (_, _, _) rfl rfl
theorem a9X {a6x : Int} {a1g : Option Addr} {a1h a1i : Nat} {a2g : List Int} {b_f : Nat} : TB Tryz.prog 293 [.agg #[.int .i64 a6x, .slice a1g a1h a1i], .pointer (some ⟨b_f, 0, none⟩)] (fun w L => (I64 a6x ∧ Ro w L eIs [.slice a1g a1h a1i] a2g) ∧ RoPt w L b_f [.int .i64 n8, .slice E3 I1 E1] ∧ I64 n8 ∧ Ro w L eIs [.slice E3 I1 E1] f9) (decide (0 < T7 (a6x, a2g) (n8, f9))) := by
 refine Ti2 Tryz.func293 8 rfl fun w L hR => ?_
 obtain ⟨⟨b0E, a1y⟩, hb_f, M3, C3⟩ := hR
 obtain ⟨rfl, b1r⟩ := a1y.slen
 obtain ⟨rfl, a0l⟩ := C3.slen
 refine Ew Z2<|Est rfl (N.box (cs := [_, _]) rfl dc rfl)<|fun b2 _ => Ei rfl<|Ev Z5<|Ey rfl (k7 (cs := [_, _]) ty_Fact rfl (Has.pt m0) rfl)<|Ey rfl (k7 (cs := [_, _]) ty_Fact rfl (hb_f.has) rfl)<|E0 rfl a1Q rfl (fun hA => ⟨b0E, hA.ro a1y, M3, hA.ro C3⟩)<|Ey rfl ((Y.gtr rfl rfl).yd)<|Ei rfl<|Eu<|E.ret<|Fg rfl rfl () rfl rfl
theorem b2M (hz : l.length ≤ 1000000000) (hyf : f9.length ≤ 1048576) : Tr Tryz.prog 189 [.slice a_l m_l c_l, .agg #[.int .i64 n8, .slice E3 I1 E1]] (fun w L => I64 n8 ∧ Ro w L eIs [.slice E3 I1 E1] f9) [ow s5 [.slice a_l m_l c_l] l] (κ := SL) (fun k => True) (fun k => .slice k.1 k.2.1 k.2.2) (fun k => [ow s5 [.slice k.1 k.2.1 k.2.2] (G8 l (n8, f9))]) := by
 refine Ti2 Tryz.func189 23 rfl fun w L hR => ?_
 obtain ⟨M3, C3⟩ := hR
 obtain ⟨rfl, a0l⟩ := C3.slen
 refine r8 m0 ?_
 rintro rfl ll
 refine Ew Z2<|Est rfl (N.box (cs := [_, _]) rfl dc rfl)<|fun b3 _ => Ei rfl<|Eu<|Eq_<|Ew Z3<|Em rfl<|Ey rfl (k7 (cs := [_, _]) ty_Fact rfl (Has.pt m0) rfl)<|E0 rfl a2k rfl (fun hA => ⟨hA.ow<|mS m0, M3, hA.ro C3⟩)<|Ent.b (fun q8 => ?_)<|fun q8 => ?_
 ·refine Eu<|r6 rfl<|Ew Z2<|Em rfl<|Ei rfl<|Eu<|E.ret<|i9<|f5<|g9 (congrArg (ow s5 [_]) (show _ = G8 l (n8, f9) by grind [a4x, a6p]))<|Fg rfl rfl (_, _, _) rfl rfl
 ·refine Eu<|Cf<|Ew Z4<|Em rfl<|Ey rfl ((Y.fn (vs := [_]) rfl).yd)<|E0 rfl (a2O (f := (fun z => decide (0 < T7 z (n8, f9)))) (D_f := (fun _ => True)) (by intros; exact trivial)) rfl (fun hA => ⟨hA.ow<|mS m0, a6y (D := (fun _ => True)) (fun hd => a9X)<|fun w' hk => ⟨(hA.pt m0).keep hk, M3, (hA.ro C3).keep hk⟩⟩)<|Ei rfl<|Eu<|Eq_<|Ew Z2<|Em rfl<|Ylt rfl<|l3 (fun q14 => ?_)<|fun q14 => ?_
  ·refine Eu<|r6 rfl<|Ez Z3<|Em rfl<|Yln us_Facts rfl<|Ei rfl<|Ev Z7<|Em rfl<|Em rfl<|Ey rfl (k7 (cs := [_, _]) ty_Fact rfl (Has.pt m0) rfl)<|Est rfl (N.call (a3g fc) rfl rfl rfl dc rfl<|fun w Lp hA => ⟨M3, hA.ro C3⟩)<|fun k20 _ => ?_
   obtain ⟨a20, m20, c20⟩ := k20
   refine r8 m0 ?_
   rintro rfl l20
   refine Est rfl (Nb [_] [_, _] us_Facts ty_Fact rfl rfl)<|fun b21 _ => f5<|f5<|l6 (A := _ :: _) (U5 (E := J8) (e := tFact)<|P4 (x := (n8, f9)) M3 Own.ow) rfl ?_
   have ji := a0G (p := fun z => decide (0 < T7 z (n8, f9))) (s := l)
   refine i8<|Est rfl (N.call (pre := [_, _]) (a6N om (by simp) (by simp; omega)) rfl rfl rfl dc rfl tv)<|fun k22 _ => ?_
   obtain ⟨a22, m22, c22⟩ := k22
   refine r8 m0 ?_
   rintro rfl l22
   refine Ei rfl<|Eu<|E.ret<|g9 (congrArg (ow s5 [_]) (show _ = G8 l (n8, f9) by grind [a4x, a6p]))<|Fg rfl rfl (_, _, _) rfl rfl
  ·refine Eu<|Cf<|Ew Z7<|Em rfl<|Em rfl<|Ey rfl (k7 (cs := [_, _]) ty_Fact rfl (Has.pt m0) rfl)<|Est rfl (N.call (a3g fc) rfl rfl rfl dc rfl<|fun w Lp hA => ⟨M3, hA.ro C3⟩)<|fun k20 _ => ?_
   obtain ⟨a20, m20, c20⟩ := k20
   refine r8 m0 ?_
   rintro rfl l20
   refine Est rfl (Nb [_] [_, _] us_Facts ty_Fact rfl rfl)<|fun b21 _ => f5<|f5<|l6 (A := _ :: _) (U5 (E := J8) (e := tFact)<|P4 (x := (n8, f9)) M3 Own.ow) rfl ?_
   have ji := a0G (p := fun z => decide (0 < T7 z (n8, f9))) (s := l)
   refine i8<|Est rfl (N.call (pre := [_, _]) (a6N om (by simp) (by simp; omega)) rfl rfl rfl dc rfl tv)<|fun k22 _ => ?_
   obtain ⟨a22, m22, c22⟩ := k22
   refine r8 m0 ?_
   rintro rfl l22
   refine Ei rfl<|Eu<|E.ret<|g9 (congrArg (ow s5 [_]) (show _ = G8 l (n8, f9) by grind [a4x, a6p]))<|Fg rfl rfl (_, _, _) rfl rfl
theorem a3w (hz : l.length ≤ 1000000000) (hyl : ∀ x ∈ l, x.2.length ≤ 1048576) (hyf : f9.length ≤ 1048576) : TL Tryz.prog 160 [.slice a_l m_l c_l, .agg #[.int .i64 n8, .slice E3 I1 E1]] (fun w L => Ro w L s5 [.slice a_l m_l c_l] l ∧ I64 n8 ∧ Ro w L eIs [.slice E3 I1 E1] f9) s5 (G8 l (n8, f9)) := by
 refine Ti2 Tryz.func160 62 rfl fun w L hR => ?_
 obtain ⟨hl, M3, C3⟩ := hR
 obtain ⟨rfl, ll⟩ := hl.slen
 obtain ⟨rfl, a0l⟩ := C3.slen
 refine Ew Z2<|Est rfl (N.box (cs := [_, _]) rfl dc rfl)<|fun b3 _ => Ei rfl<|Ev Z2<|Est rfl (Nb [] [] us_Facts ty_Fact rfl rfl)<|fun b8 _ => Ent.drop<|Ei rfl<|Ev Z4<|Em rfl<|Ey rfl (k7 (cs := [_, _]) ty_Fact rfl (Has.pt m0) rfl)<|E0 rfl a2j rfl (fun hA => ⟨hA.ro hl, M3, hA.ro C3⟩)<|Ei rfl<|Ent.b (fun q6 => ?_)<|fun q6 => ?_
 ·refine Eu<|Eq_<|Ew Z1<|Ei rfl<|Eu<|E.block<|l6 (A := []) (Own.nil (E := J8) (e := tFact) (a := (some ⟨b8, 0, none⟩))) rfl<|g9 (congrArg (ow s5 [_]) (show _ = addS (N9 l (n8, f9)) (ltF (n8, f9)) (n8, f9) (l.take 0) from by first | rfl | (simp; done) | grind [G8, H9, H8, J1, E4, Y5, d1, d2, t1, t2]))<|E.loop (κ := Nat × SL) (fun g => g.1 ≤ l.length ∧ True) (fun g => [(0, .slice a_l l.length c_l), (3, .pointer<|some ⟨b3, 0, none⟩), (5, .slice g.2.1 g.2.2.1 g.2.2.2), (6, .bool<|N9 l (n8, f9) || (l.take g.1).any (ltF (n8, f9))), (7, .int .i64 (↑g.1 : Int))]) (fun g => [ow s5 [.slice g.2.1 g.2.2.1 g.2.2.2]<|addS (N9 l (n8, f9)) (ltF (n8, f9)) (n8, f9)<|l.take g.1, pt b3 85 [.int .i64 n8, .slice E3 f9.length E1]]) (fun g => l.length - g.1) (0, (some ⟨b8, 0, none⟩), 0, 0) ⟨Nat.zero_le _, by simp⟩ ⟨rfl, rfl, rfl, frB (by first | rfl | (simp; done) | grind [G8, H9, H8, J1, E4, Y5, d1, d2, t1, t2]), rfl, trivial⟩ (.refl _)<|fun g pg => ?_
  obtain ⟨g, aA0_0, mA0_0, cA0_0⟩ := g
  try dsimp only at pg
  try dsimp only
  obtain ⟨pk, pa⟩ := pg
  have jp := List.length_take_le g l
  have ji := a8E (h := N9 l (n8, f9)) (p := (ltF (n8, f9))) (f := (n8, f9)) (l := l.take g)
  refine r8 m0 ?_
  rintro rfl laA0_0
  refine Eq_<|Ew Z4<|Em rfl<|Em rfl<|Yln us_Facts rfl<|Ylt rfl<|l3 (fun q15 => ?_)<|fun q15 => ?_
  ·refine Eu<|Ct<|Eq_<|E.block<|Eq_<|Eq_<|D.region (fun j => true) mixed<|Dm 0 rfl<|Ent.b (fun q18 => ?_)<|fun q18 => ?_
   ·refine Dyp 1 rfl (Y.not (b := true) rfl)<|Dm 2 rfl<|Dsk 3 rfl<|Dsk 4 rfl<|Dsk 5 rfl<|Dsk 6 rfl<|Dsk 7 rfl<|Dsk 8 rfl<|Dsk 9 rfl<|Dyp 10 rfl (L8 rfl rfl)<|n9 kr<|Et<|Cf<|D.region (fun j => !(Nat.beq j 13)) mixed<|Dm 0 rfl<|Dm 1 rfl<|Dm 2 rfl ?_
    obtain ⟨eb40, eo40, ec40, ea40, er40, el40, eh40⟩ := hl.elem g om
    obtain ⟨xa40_0, xc40_0, rfl, ei40_0, xh40_0⟩ := W4 er40
    have := xh40_0.slen.2
    refine Dyp 3 rfl (z8 us_Facts ty_Fact rfl ea40 rfl g rfl om)<|Df 4 5 fo_Fact_0 i7 rfl (Hs (eh40 _) 0 rfl)<|Dm 6 rfl<|Dm 7 rfl<|Dyp 8 rfl (z8 us_Facts ty_Fact rfl ea40 rfl g rfl om)<|Df 9 10 fo_Fact_1 ty_Is rfl (Hs (eh40 _) 1 rfl)<|E7 11 rfl rfl kr (fun _ => rfl) (N.call (W0<|hyl _<|List.getElem_mem om) rfl rfl rfl dc rfl<|fun w Lp hA => ⟨ei40_0, hA.ro xh40_0⟩)<|fun k48 _ => ?_
    obtain ⟨a48, m48, c48⟩ := k48
    refine r8 m0 ?_
    rintro rfl l48
    refine E7 12 rfl rfl kr (fun _ => rfl) (Nb [_] [_, _] us_Facts ty_Fact rfl rfl)<|fun b49 _ => f5<|f5<|i8<|E7 13 rfl rfl kr (fun h => by cases h) (B0 (E := J8) (ex := l[g]) us_Facts ty_Fact rfl rfl rfl (P4 (x := l[g]) ei40_0 Own.ow) rfl bn bn dc)<|fun p50 _ => Dyp 14 rfl (G7 rfl)<|n9 kr<|o6<|Et<|Ez Z3<|Em rfl<|Yad rfl om om<|Ei rfl<|Eu<|g9 (congrArg (ow s5 [_]) (show _ = addS (N9 l (n8, f9)) (ltF (n8, f9)) (n8, f9) (l.take<|g + 1) from by grind [G8, H9, H8, J1, E4, Y5, d1, d2, t1, t2]))<|f5<|f5 ?_
    exact t7 br (g + 1, p50.1, ((addS (N9 l (n8, f9)) (ltF (n8, f9)) (n8, f9)<|l.take g).length + 1), p50.2) ⟨rfl, rfl, rfl, frB (by grind [G8, H9, H8, J1, E4, Y5, d1, d2, t1, t2]), rfl, trivial⟩ (.refl _) ⟨oz, trivial⟩ oz
   ·refine Dyp 1 rfl (Y.not (b := false) rfl)<|Dm 2 rfl<|Dy 3 rfl (k7 (cs := [_, _]) ty_Fact rfl (Has.pt<|mS m0) rfl)<|Dm 4 rfl<|Dm 5 rfl ?_
    obtain ⟨eb24, eo24, ec24, ea24, er24, el24, eh24⟩ := hl.elem g om
    obtain ⟨xa24_0, xc24_0, rfl, ei24_0, xh24_0⟩ := W4 er24
    have := xh24_0.slen.2
    refine Dyp 6 rfl (z8 us_Facts ty_Fact rfl ea24 rfl g rfl om)<|Dy 7 rfl (k7 (cs := [_, _]) ty_Fact rfl (eh24 _) rfl)<|D0 8 rfl a0S rfl (fun hA => ⟨M3, hA.ro C3, ei24_0, hA.ro xh24_0⟩)<|Dyp 9 rfl (Y.lss rfl rfl)<|l3 (fun q27 => ?_)<|fun q27 => ?_
    ·refine Dyp 10 rfl (K7 rfl rfl)<|n9 kr<|Et<|r6 rfl<|Ew Z9<|Em rfl<|Lz fo_Fact_0 i7 rfl (mS m0) rfl<|Lz fo_Fact_1 ty_Is rfl (mS m0) rfl<|Est rfl (N.call (W0 fc) rfl rfl rfl dc rfl<|fun w Lp hA => ⟨M3, hA.ro C3⟩)<|fun k34 _ => ?_
     obtain ⟨a34, m34, c34⟩ := k34
     refine r8 m0 ?_
     rintro rfl l34
     refine Est rfl (Nb [_] [_, _] us_Facts ty_Fact rfl rfl)<|fun b35 _ => f5<|f5<|i8<|Est rfl (B0 (E := J8) (ex := (n8, f9)) us_Facts ty_Fact rfl rfl rfl (P4 (x := (n8, f9)) M3 Own.ow) rfl bn bn dc)<|fun p36 _ => Ei rfl<|Eu<|Ez Z1<|Ei rfl<|Eu<|D.region (fun j => !(Nat.beq j 13)) mixed<|Dm 0 rfl<|Dm 1 rfl<|Dm 2 rfl<|Dyp 3 rfl (z8 us_Facts ty_Fact rfl ea24 rfl g rfl om)<|Df 4 5 fo_Fact_0 i7 rfl (Hs (eh24 _) 0 rfl)<|Dm 6 rfl<|Dm 7 rfl<|Dyp 8 rfl (z8 us_Facts ty_Fact rfl ea24 rfl g rfl om)<|Df 9 10 fo_Fact_1 ty_Is rfl (Hs (eh24 _) 1 rfl)<|E7 11 rfl rfl kr (fun _ => rfl) (N.call (W0<|hyl _<|List.getElem_mem om) rfl rfl rfl dc rfl<|fun w Lp hA => ⟨ei24_0, hA.ro xh24_0⟩)<|fun k48 _ => ?_
     obtain ⟨a48, m48, c48⟩ := k48
     refine r8 m0 ?_
     rintro rfl l48
     refine E7 12 rfl rfl kr (fun _ => rfl) (Nb [_] [_, _] us_Facts ty_Fact rfl rfl)<|fun b49 _ => f5<|f5<|i8<|E7 13 rfl rfl kr (fun h => by cases h) (B0 (E := J8) (ex := l[g]) us_Facts ty_Fact rfl rfl rfl (P4 (x := l[g]) ei24_0 Own.ow) rfl bn bn dc)<|fun p50 _ => Dyp 14 rfl (G7 rfl)<|n9 kr<|o6<|Et<|Ez Z3<|Em rfl<|Yad rfl om om<|Ei rfl<|Eu<|g9 (congrArg (ow s5 [_]) (show _ = addS (N9 l (n8, f9)) (ltF (n8, f9)) (n8, f9) (l.take<|g + 1) from by grind [G8, H9, H8, J1, E4, Y5, d1, d2, t1, t2]))<|f5<|f5 ?_
     exact t7 br (g + 1, p50.1, (((addS (N9 l (n8, f9)) (ltF (n8, f9)) (n8, f9)<|l.take g).length + 1) + 1), p50.2) ⟨rfl, rfl, rfl, frB (by grind [G8, H9, H8, J1, E4, Y5, d1, d2, t1, t2]), rfl, trivial⟩ (.refl _) ⟨oz, trivial⟩ oz
    ·refine Dyp 10 rfl (K7 rfl rfl)<|n9 kr<|Et<|Cf<|D.region (fun j => !(Nat.beq j 13)) mixed<|Dm 0 rfl<|Dm 1 rfl<|Dm 2 rfl<|Dyp 3 rfl (z8 us_Facts ty_Fact rfl ea24 rfl g rfl om)<|Df 4 5 fo_Fact_0 i7 rfl (Hs (eh24 _) 0 rfl)<|Dm 6 rfl<|Dm 7 rfl<|Dyp 8 rfl (z8 us_Facts ty_Fact rfl ea24 rfl g rfl om)<|Df 9 10 fo_Fact_1 ty_Is rfl (Hs (eh24 _) 1 rfl)<|E7 11 rfl rfl kr (fun _ => rfl) (N.call (W0<|hyl _<|List.getElem_mem om) rfl rfl rfl dc rfl<|fun w Lp hA => ⟨ei24_0, hA.ro xh24_0⟩)<|fun k48 _ => ?_
     obtain ⟨a48, m48, c48⟩ := k48
     refine r8 m0 ?_
     rintro rfl l48
     refine E7 12 rfl rfl kr (fun _ => rfl) (Nb [_] [_, _] us_Facts ty_Fact rfl rfl)<|fun b49 _ => f5<|f5<|i8<|E7 13 rfl rfl kr (fun h => by cases h) (B0 (E := J8) (ex := l[g]) us_Facts ty_Fact rfl rfl rfl (P4 (x := l[g]) ei24_0 Own.ow) rfl bn bn dc)<|fun p50 _ => Dyp 14 rfl (G7 rfl)<|n9 kr<|o6<|Et<|Ez Z3<|Em rfl<|Yad rfl om om<|Ei rfl<|Eu<|g9 (congrArg (ow s5 [_]) (show _ = addS (N9 l (n8, f9)) (ltF (n8, f9)) (n8, f9) (l.take<|g + 1) from by grind [G8, H9, H8, J1, E4, Y5, d1, d2, t1, t2]))<|f5<|f5 ?_
     exact t7 br (g + 1, p50.1, ((addS (N9 l (n8, f9)) (ltF (n8, f9)) (n8, f9)<|l.take g).length + 1), p50.2) ⟨rfl, rfl, rfl, frB (by grind [G8, H9, H8, J1, E4, Y5, d1, d2, t1, t2]), rfl, trivial⟩ (.refl _) ⟨oz, trivial⟩ oz
  ·refine Eu<|r7 rfl<|E.exit<|l4<|l4<|w8<|Et<|Eq_<|Ew Z2<|Em rfl<|Ent.b (fun q51 => ?_)<|fun q51 => ?_
   ·refine Yno true rfl<|Eu<|Cf<|Ew Z2<|Em rfl<|Ei rfl<|Eu<|E.ret<|g9 (congrArg (ow s5 [_]) (show _ = G8 l (n8, f9) by grind [G8, H9, H8, J1, E4, Y5, d1, d2, t1, t2]))<|Fg rfl rfl (_, _, _) rfl rfl
   ·refine Yno false rfl<|Eu<|r6 rfl<|Ez Z9<|Em rfl<|Lz fo_Fact_0 i7 rfl (mS m0) rfl<|Lz fo_Fact_1 ty_Is rfl (mS m0) rfl<|Est rfl (N.call (W0 fc) rfl rfl rfl dc rfl<|fun w Lp hA => ⟨M3, hA.ro C3⟩)<|fun k58 _ => ?_
    obtain ⟨a58, m58, c58⟩ := k58
    refine r8 m0 ?_
    rintro rfl l58
    refine Est rfl (Nb [_] [_, _] us_Facts ty_Fact rfl rfl)<|fun b59 _ => f5<|f5<|i8<|Est rfl (B0 (E := J8) (ex := (n8, f9)) us_Facts ty_Fact rfl rfl rfl (P4 (x := (n8, f9)) M3 Own.ow) rfl bn bn dc)<|fun p60 _ => Ei rfl<|Ev Z2<|Em rfl<|Ei rfl<|Eu<|E.ret<|g9 (congrArg (ow s5 [_]) (show _ = G8 l (n8, f9) by grind [G8, H9, H8, J1, E4, Y5, d1, d2, t1, t2]))<|Fg rfl rfl (_, _, _) rfl rfl
 ·refine Eu<|Eq_<|Ew Z1<|Ei rfl<|Eu<|E.block<|l6 (A := []) (Own.nil (E := J8) (e := tFact) (a := (some ⟨b8, 0, none⟩))) rfl<|g9 (congrArg (ow s5 [_]) (show _ = addS (N9 l (n8, f9)) (ltF (n8, f9)) (n8, f9) (l.take 0) from by first | rfl | (simp; done) | grind [G8, H9, H8, J1, E4, Y5, d1, d2, t1, t2]))<|E.loop (κ := Nat × SL) (fun g => g.1 ≤ l.length ∧ True) (fun g => [(0, .slice a_l l.length c_l), (3, .pointer<|some ⟨b3, 0, none⟩), (5, .slice g.2.1 g.2.2.1 g.2.2.2), (6, .bool<|N9 l (n8, f9) || (l.take g.1).any (ltF (n8, f9))), (7, .int .i64 (↑g.1 : Int))]) (fun g => [ow s5 [.slice g.2.1 g.2.2.1 g.2.2.2]<|addS (N9 l (n8, f9)) (ltF (n8, f9)) (n8, f9)<|l.take g.1, pt b3 85 [.int .i64 n8, .slice E3 f9.length E1]]) (fun g => l.length - g.1) (0, (some ⟨b8, 0, none⟩), 0, 0) ⟨Nat.zero_le _, by simp⟩ ⟨rfl, rfl, rfl, frB (by first | rfl | (simp; done) | grind [G8, H9, H8, J1, E4, Y5, d1, d2, t1, t2]), rfl, trivial⟩ (.refl _)<|fun g pg => ?_
  obtain ⟨g, aA0_0, mA0_0, cA0_0⟩ := g
  try dsimp only at pg
  try dsimp only
  obtain ⟨pk, pa⟩ := pg
  have jp := List.length_take_le g l
  have ji := a8E (h := N9 l (n8, f9)) (p := (ltF (n8, f9))) (f := (n8, f9)) (l := l.take g)
  refine r8 m0 ?_
  rintro rfl laA0_0
  refine Eq_<|Ew Z4<|Em rfl<|Em rfl<|Yln us_Facts rfl<|Ylt rfl<|l3 (fun q15 => ?_)<|fun q15 => ?_
  ·refine Eu<|Ct<|Eq_<|E.block<|Eq_<|Eq_<|D.region (fun j => true) mixed<|Dm 0 rfl<|Ent.b (fun q18 => ?_)<|fun q18 => ?_
   ·refine Dyp 1 rfl (Y.not (b := true) rfl)<|Dm 2 rfl<|Dsk 3 rfl<|Dsk 4 rfl<|Dsk 5 rfl<|Dsk 6 rfl<|Dsk 7 rfl<|Dsk 8 rfl<|Dsk 9 rfl<|Dyp 10 rfl (L8 rfl rfl)<|n9 kr<|Et<|Cf<|D.region (fun j => !(Nat.beq j 13)) mixed<|Dm 0 rfl<|Dm 1 rfl<|Dm 2 rfl ?_
    obtain ⟨eb40, eo40, ec40, ea40, er40, el40, eh40⟩ := hl.elem g om
    obtain ⟨xa40_0, xc40_0, rfl, ei40_0, xh40_0⟩ := W4 er40
    have := xh40_0.slen.2
    refine Dyp 3 rfl (z8 us_Facts ty_Fact rfl ea40 rfl g rfl om)<|Df 4 5 fo_Fact_0 i7 rfl (Hs (eh40 _) 0 rfl)<|Dm 6 rfl<|Dm 7 rfl<|Dyp 8 rfl (z8 us_Facts ty_Fact rfl ea40 rfl g rfl om)<|Df 9 10 fo_Fact_1 ty_Is rfl (Hs (eh40 _) 1 rfl)<|E7 11 rfl rfl kr (fun _ => rfl) (N.call (W0<|hyl _<|List.getElem_mem om) rfl rfl rfl dc rfl<|fun w Lp hA => ⟨ei40_0, hA.ro xh40_0⟩)<|fun k48 _ => ?_
    obtain ⟨a48, m48, c48⟩ := k48
    refine r8 m0 ?_
    rintro rfl l48
    refine E7 12 rfl rfl kr (fun _ => rfl) (Nb [_] [_, _] us_Facts ty_Fact rfl rfl)<|fun b49 _ => f5<|f5<|i8<|E7 13 rfl rfl kr (fun h => by cases h) (B0 (E := J8) (ex := l[g]) us_Facts ty_Fact rfl rfl rfl (P4 (x := l[g]) ei40_0 Own.ow) rfl bn bn dc)<|fun p50 _ => Dyp 14 rfl (G7 rfl)<|n9 kr<|o6<|Et<|Ez Z3<|Em rfl<|Yad rfl om om<|Ei rfl<|Eu<|g9 (congrArg (ow s5 [_]) (show _ = addS (N9 l (n8, f9)) (ltF (n8, f9)) (n8, f9) (l.take<|g + 1) from by grind [G8, H9, H8, J1, E4, Y5, d1, d2, t1, t2]))<|f5<|f5 ?_
    exact t7 br (g + 1, p50.1, ((addS (N9 l (n8, f9)) (ltF (n8, f9)) (n8, f9)<|l.take g).length + 1), p50.2) ⟨rfl, rfl, rfl, frB (by grind [G8, H9, H8, J1, E4, Y5, d1, d2, t1, t2]), rfl, trivial⟩ (.refl _) ⟨oz, trivial⟩ oz
   ·refine Dyp 1 rfl (Y.not (b := false) rfl)<|Dm 2 rfl<|Dy 3 rfl (k7 (cs := [_, _]) ty_Fact rfl (Has.pt<|mS m0) rfl)<|Dm 4 rfl<|Dm 5 rfl ?_
    obtain ⟨eb24, eo24, ec24, ea24, er24, el24, eh24⟩ := hl.elem g om
    obtain ⟨xa24_0, xc24_0, rfl, ei24_0, xh24_0⟩ := W4 er24
    have := xh24_0.slen.2
    refine Dyp 6 rfl (z8 us_Facts ty_Fact rfl ea24 rfl g rfl om)<|Dy 7 rfl (k7 (cs := [_, _]) ty_Fact rfl (eh24 _) rfl)<|D0 8 rfl a0S rfl (fun hA => ⟨M3, hA.ro C3, ei24_0, hA.ro xh24_0⟩)<|Dyp 9 rfl (Y.lss rfl rfl)<|l3 (fun q27 => ?_)<|fun q27 => ?_
    ·refine Dyp 10 rfl (K7 rfl rfl)<|n9 kr<|Et<|r6 rfl<|Ew Z9<|Em rfl<|Lz fo_Fact_0 i7 rfl (mS m0) rfl<|Lz fo_Fact_1 ty_Is rfl (mS m0) rfl<|Est rfl (N.call (W0 fc) rfl rfl rfl dc rfl<|fun w Lp hA => ⟨M3, hA.ro C3⟩)<|fun k34 _ => ?_
     obtain ⟨a34, m34, c34⟩ := k34
     refine r8 m0 ?_
     rintro rfl l34
     refine Est rfl (Nb [_] [_, _] us_Facts ty_Fact rfl rfl)<|fun b35 _ => f5<|f5<|i8<|Est rfl (B0 (E := J8) (ex := (n8, f9)) us_Facts ty_Fact rfl rfl rfl (P4 (x := (n8, f9)) M3 Own.ow) rfl bn bn dc)<|fun p36 _ => Ei rfl<|Eu<|Ez Z1<|Ei rfl<|Eu<|D.region (fun j => !(Nat.beq j 13)) mixed<|Dm 0 rfl<|Dm 1 rfl<|Dm 2 rfl<|Dyp 3 rfl (z8 us_Facts ty_Fact rfl ea24 rfl g rfl om)<|Df 4 5 fo_Fact_0 i7 rfl (Hs (eh24 _) 0 rfl)<|Dm 6 rfl<|Dm 7 rfl<|Dyp 8 rfl (z8 us_Facts ty_Fact rfl ea24 rfl g rfl om)<|Df 9 10 fo_Fact_1 ty_Is rfl (Hs (eh24 _) 1 rfl)<|E7 11 rfl rfl kr (fun _ => rfl) (N.call (W0<|hyl _<|List.getElem_mem om) rfl rfl rfl dc rfl<|fun w Lp hA => ⟨ei24_0, hA.ro xh24_0⟩)<|fun k48 _ => ?_
     obtain ⟨a48, m48, c48⟩ := k48
     refine r8 m0 ?_
     rintro rfl l48
     refine E7 12 rfl rfl kr (fun _ => rfl) (Nb [_] [_, _] us_Facts ty_Fact rfl rfl)<|fun b49 _ => f5<|f5<|i8<|E7 13 rfl rfl kr (fun h => by cases h) (B0 (E := J8) (ex := l[g]) us_Facts ty_Fact rfl rfl rfl (P4 (x := l[g]) ei24_0 Own.ow) rfl bn bn dc)<|fun p50 _ => Dyp 14 rfl (G7 rfl)<|n9 kr<|o6<|Et<|Ez Z3<|Em rfl<|Yad rfl om om<|Ei rfl<|Eu<|g9 (congrArg (ow s5 [_]) (show _ = addS (N9 l (n8, f9)) (ltF (n8, f9)) (n8, f9) (l.take<|g + 1) from by grind [G8, H9, H8, J1, E4, Y5, d1, d2, t1, t2]))<|f5<|f5 ?_
     exact t7 br (g + 1, p50.1, (((addS (N9 l (n8, f9)) (ltF (n8, f9)) (n8, f9)<|l.take g).length + 1) + 1), p50.2) ⟨rfl, rfl, rfl, frB (by grind [G8, H9, H8, J1, E4, Y5, d1, d2, t1, t2]), rfl, trivial⟩ (.refl _) ⟨oz, trivial⟩ oz
    ·refine Dyp 10 rfl (K7 rfl rfl)<|n9 kr<|Et<|Cf<|D.region (fun j => !(Nat.beq j 13)) mixed<|Dm 0 rfl<|Dm 1 rfl<|Dm 2 rfl<|Dyp 3 rfl (z8 us_Facts ty_Fact rfl ea24 rfl g rfl om)<|Df 4 5 fo_Fact_0 i7 rfl (Hs (eh24 _) 0 rfl)<|Dm 6 rfl<|Dm 7 rfl<|Dyp 8 rfl (z8 us_Facts ty_Fact rfl ea24 rfl g rfl om)<|Df 9 10 fo_Fact_1 ty_Is rfl (Hs (eh24 _) 1 rfl)<|E7 11 rfl rfl kr (fun _ => rfl) (N.call (W0<|hyl _<|List.getElem_mem om) rfl rfl rfl dc rfl<|fun w Lp hA => ⟨ei24_0, hA.ro xh24_0⟩)<|fun k48 _ => ?_
     obtain ⟨a48, m48, c48⟩ := k48
     refine r8 m0 ?_
     rintro rfl l48
     refine E7 12 rfl rfl kr (fun _ => rfl) (Nb [_] [_, _] us_Facts ty_Fact rfl rfl)<|fun b49 _ => f5<|f5<|i8<|E7 13 rfl rfl kr (fun h => by cases h) (B0 (E := J8) (ex := l[g]) us_Facts ty_Fact rfl rfl rfl (P4 (x := l[g]) ei24_0 Own.ow) rfl bn bn dc)<|fun p50 _ => Dyp 14 rfl (G7 rfl)<|n9 kr<|o6<|Et<|Ez Z3<|Em rfl<|Yad rfl om om<|Ei rfl<|Eu<|g9 (congrArg (ow s5 [_]) (show _ = addS (N9 l (n8, f9)) (ltF (n8, f9)) (n8, f9) (l.take<|g + 1) from by grind [G8, H9, H8, J1, E4, Y5, d1, d2, t1, t2]))<|f5<|f5 ?_
     exact t7 br (g + 1, p50.1, ((addS (N9 l (n8, f9)) (ltF (n8, f9)) (n8, f9)<|l.take g).length + 1), p50.2) ⟨rfl, rfl, rfl, frB (by grind [G8, H9, H8, J1, E4, Y5, d1, d2, t1, t2]), rfl, trivial⟩ (.refl _) ⟨oz, trivial⟩ oz
  ·refine Eu<|r7 rfl<|E.exit<|l4<|l4<|w8<|Et<|Eq_<|Ew Z2<|Em rfl<|Ent.b (fun q51 => ?_)<|fun q51 => ?_
   ·refine Yno true rfl<|Eu<|Cf<|Ew Z2<|Em rfl<|Ei rfl<|Eu<|E.ret<|g9 (congrArg (ow s5 [_]) (show _ = G8 l (n8, f9) by grind [G8, H9, H8, J1, E4, Y5, d1, d2, t1, t2]))<|Fg rfl rfl (_, _, _) rfl rfl
   ·refine Yno false rfl<|Eu<|r6 rfl<|Ez Z9<|Em rfl<|Lz fo_Fact_0 i7 rfl (mS m0) rfl<|Lz fo_Fact_1 ty_Is rfl (mS m0) rfl<|Est rfl (N.call (W0 fc) rfl rfl rfl dc rfl<|fun w Lp hA => ⟨M3, hA.ro C3⟩)<|fun k58 _ => ?_
    obtain ⟨a58, m58, c58⟩ := k58
    refine r8 m0 ?_
    rintro rfl l58
    refine Est rfl (Nb [_] [_, _] us_Facts ty_Fact rfl rfl)<|fun b59 _ => f5<|f5<|i8<|Est rfl (B0 (E := J8) (ex := (n8, f9)) us_Facts ty_Fact rfl rfl rfl (P4 (x := (n8, f9)) M3 Own.ow) rfl bn bn dc)<|fun p60 _ => Ei rfl<|Ev Z2<|Em rfl<|Ei rfl<|Eu<|E.ret<|g9 (congrArg (ow s5 [_]) (show _ = G8 l (n8, f9) by grind [G8, H9, H8, J1, E4, Y5, d1, d2, t1, t2]))<|Fg rfl rfl (_, _, _) rfl rfl
theorem a3c : TB Tryz.prog 69 [.slice a_s m_s c_s, .slice a_l m_l c_l] (fun w L => Ro w L eIs [.slice a_s m_s c_s] s ∧ Ro w L s5 [.slice a_l m_l c_l] l) (F1 s l) := by
 refine Ti2 Tryz.func69 40 rfl fun w L hR => ?_
 obtain ⟨hs, hl⟩ := hR
 obtain ⟨rfl, ls⟩ := hs.slen
 obtain ⟨rfl, ll⟩ := hl.slen
 refine Ew Z1<|Ei rfl<|Eu<|Eq_<|Ew Z3<|Em rfl<|Yln us_Facts rfl<|Em rfl<|Eu<|E.block<|Lo (κ := Nat) (fun g => g ≤ l.length ∧ a1F s l 0 = a1F s l g) (fun g => [(0, .slice a_s s.length c_s), (1, .slice a_l l.length c_l), (7, .slice a_l l.length c_l), (8, .int .i64 (↑l.length : Int)), (9, .int .i64 (g : Int))]) (fun g => []) (fun g => l.length - g) 0 ⟨Nat.zero_le _, by simp⟩<|fun g pg => ?_
 obtain ⟨pk, pa⟩ := pg
 refine Ew Z1<|Ylt rfl<|l3 (fun q10 => ?_)<|fun q10 => ?_
 ·refine Eu<|Eq_<|Ct<|Eq_<|E.block<|Ew Z6<|Em rfl ?_
  obtain ⟨eb12, eo12, ec12, ea12, er12, el12, eh12⟩ := hl.elem g om
  obtain ⟨xa12_0, xc12_0, rfl, ei12_0, xh12_0⟩ := W4 er12
  have := xh12_0.slen.2
  refine Ix us_Facts ty_Fact rfl ea12 g rfl om<|Ey rfl (k7 (cs := [_, _]) ty_Fact rfl (eh12 _) rfl)<|Est rfl (N.alloc ty_Fact dc)<|fun b6 _ => Ei rfl<|Est rfl (Ns [_, _] ty_Fact rfl)<|fun _ _ => Eu<|Eq_<|D.region (fun j => true) mixed<|Dm 0 rfl<|Dy 1 rfl (k7 (cs := [_, _]) ty_Fact rfl (Has.pt m0) rfl)<|D0 2 rfl b1x rfl (fun hA => ⟨hA.ro hs, ei12_0, hA.ro xh12_0⟩)<|Ent.b (fun q16 => ?_)<|fun q16 => ?_
  ·refine Dyp 3 rfl (Y.not (b := true) rfl)<|Dm 4 rfl<|Dm 5 rfl<|Dyp 6 rfl (Y.gtr rfl rfl)<|l3 (fun q20 => ?_)<|fun q20 => ?_
   ·refine Dm 7 rfl<|Dm 8 rfl<|Dm 9 rfl<|Dyp 10 rfl (Y.sub rfl rfl om om) ?_
    obtain ⟨eb25, eo25, ec25, ea25, er25, el25, eh25⟩ := hl.elem (g - 1) om
    obtain ⟨xa25_0, xc25_0, rfl, ei25_0, xh25_0⟩ := W4 er25
    have := xh25_0.slen.2
    refine Dyp 11 rfl (z8 us_Facts ty_Fact rfl ea25 rfl (g - 1) om om)<|Dy 12 rfl (k7 (cs := [_, _]) ty_Fact rfl (eh25 _) rfl)<|Dy 13 rfl (k7 (cs := [_, _]) ty_Fact rfl (Has.pt m0) rfl)<|D0 14 rfl a1Q rfl (fun hA => ⟨ei25_0, hA.ro xh25_0, ei12_0, hA.ro xh12_0⟩)<|Dyp 15 rfl (Y.geq rfl rfl)<|l3 (fun q29 => ?_)<|fun q29 => ?_
    ·refine Dyp 16 rfl (K7 rfl rfl)<|Dyp 17 rfl (L8 rfl rfl)<|n9 kr<|Et<|r6 rfl<|Ew Z1<|Ei rfl<|Eu<|E.ret<|u6<|i9<|i9<|u6<|i9<|Fb rfl rfl (by grind [F1, a1F, K0, J9, L9, ltF, d1, d2, t1, t2])
    ·refine Dyp 16 rfl (K7 rfl rfl)<|Dyp 17 rfl (L8 rfl rfl)<|n9 kr<|Et<|r7 rfl<|v8<|o6<|Et<|Ez Z2<|Yad rfl om om<|Em rfl<|Eu<|Ent.drop ?_
     exact t7 br (g + 1) rs (.refl _) ⟨by omega, by grind [a1F, K0, J9, L9, ltF, Bool.and_assoc, d1, d2, t1, t2]⟩ om
   ·refine Dm 7 rfl<|Dsk 8 rfl<|Dsk 9 rfl<|Dsk 10 rfl<|Dsk 11 rfl<|Dsk 12 rfl<|Dsk 13 rfl<|Dsk 14 rfl<|Dsk 15 rfl<|Dyp 16 rfl (L8 rfl rfl)<|Dyp 17 rfl (L8 rfl rfl)<|n9 kr<|Et<|r7 rfl<|v8<|o6<|Et<|Ez Z2<|Yad rfl om om<|Em rfl<|Eu<|Ent.drop ?_
    exact t7 br (g + 1) rs (.refl _) ⟨by omega, by grind [a1F, K0, J9, L9, ltF, Bool.and_assoc, d1, d2, t1, t2]⟩ om
  ·refine Dyp 3 rfl (Y.not (b := false) rfl)<|Dm 4 rfl<|Dsk 5 rfl<|Dsk 6 rfl<|b1S 7 rfl rfl dc kr<|Dsk 8 rfl<|Dsk 9 rfl<|Dsk 10 rfl<|Dsk 11 rfl<|Dsk 12 rfl<|Dsk 13 rfl<|Dsk 14 rfl<|Dsk 15 rfl<|Dsk 16 rfl<|Dyp 17 rfl (K7 rfl rfl)<|n9 kr<|Et<|r6 rfl<|Ew Z1<|Ei rfl<|Eu<|E.ret<|u6<|i9<|i9<|u6<|i9<|Fb rfl rfl (by grind [F1, a1F, K0, J9, L9, ltF, d1, d2, t1, t2])
 ·refine Eu<|Eq_<|r7 rfl<|E.exit<|l4<|l4<|w8<|Et<|Ew Z8<|Em rfl<|E0 rfl a1W rfl (fun hA => hA.ro hs)<|Ent.b (fun q34 => ?_)<|fun q34 => ?_
  ·refine Em rfl<|Em rfl<|Yln us_Facts rfl<|Ey rfl ((Y.leq rfl rfl).yd)<|Ypt rfl<|Ei rfl<|Eu<|E.ret<|Fb rfl rfl (by grind [F1, a1F, K0, J9, L9, ltF, d1, d2, t1, t2])
  ·refine Em rfl<|Es rfl<|Es rfl<|Es rfl<|Ypf rfl<|Ei rfl<|Eu<|E.ret<|Fb rfl rfl (by grind [F1, a1F, K0, J9, L9, ltF, d1, d2, t1, t2])
theorem a0v : TB Tryz.prog 16 [.slice a_s m_s c_s, .slice a_l m_l c_l] (fun w L => Ro w L eIs [.slice a_s m_s c_s] s ∧ Ro w L s5 [.slice a_l m_l c_l] l) (F1 s l) := by
 refine Ti2 Tryz.func16 43 rfl fun w L hR => ?_
 obtain ⟨hs, hl⟩ := hR
 obtain ⟨rfl, ls⟩ := hs.slen
 obtain ⟨rfl, ll⟩ := hl.slen
 refine Ew Z1<|Ei rfl<|Eu<|Eq_<|Ew Z1<|Ei rfl<|Eu<|E.block<|Lo (κ := Nat) (fun g => g ≤ l.length ∧ a1F s l 0 = a1F s l g) (fun g => [(0, .slice a_s s.length c_s), (1, .slice a_l l.length c_l), (5, .int .i64 (g : Int))]) (fun g => []) (fun g => l.length - g) 0 ⟨Nat.zero_le _, by simp⟩<|fun g pg => ?_
 obtain ⟨pk, pa⟩ := pg
 refine Eq_<|Ew Z4<|Em rfl<|Em rfl<|Yln us_Facts rfl<|Ylt rfl<|l3 (fun q9 => ?_)<|fun q9 => ?_
 ·refine Eu<|Ct<|Eq_<|E.block<|Eq_<|D.region (fun j => true) mixed<|Dm 0 rfl<|Dm 1 rfl<|Dm 2 rfl ?_
  obtain ⟨eb15, eo15, ec15, ea15, er15, el15, eh15⟩ := hl.elem g om
  obtain ⟨xa15_0, xc15_0, rfl, ei15_0, xh15_0⟩ := W4 er15
  have := xh15_0.slen.2
  refine Dyp 3 rfl (z8 us_Facts ty_Fact rfl ea15 rfl g rfl om)<|Dy 4 rfl (k7 (cs := [_, _]) ty_Fact rfl (eh15 _) rfl)<|D0 5 rfl b1J rfl (fun hA => ⟨hA.ro hs, ei15_0, hA.ro xh15_0⟩)<|Ent.b (fun q17 => ?_)<|fun q17 => ?_
  ·refine Dyp 6 rfl (Y.not (b := true) rfl)<|Dm 7 rfl<|Dm 8 rfl<|Dyp 9 rfl (Y.gtr rfl rfl)<|l3 (fun q21 => ?_)<|fun q21 => ?_
   ·refine Dm 10 rfl<|Dm 11 rfl<|Dm 12 rfl<|Dyp 13 rfl (Y.sub rfl rfl om om) ?_
    obtain ⟨eb26, eo26, ec26, ea26, er26, el26, eh26⟩ := hl.elem (g - 1) om
    obtain ⟨xa26_0, xc26_0, rfl, ei26_0, xh26_0⟩ := W4 er26
    have := xh26_0.slen.2
    refine Dyp 14 rfl (z8 us_Facts ty_Fact rfl ea26 rfl (g - 1) om om)<|Dy 15 rfl (k7 (cs := [_, _]) ty_Fact rfl (eh26 _) rfl)<|Dm 16 rfl<|Dm 17 rfl<|Dyp 18 rfl (z8 us_Facts ty_Fact rfl ea15 rfl g rfl om)<|Dy 19 rfl (k7 (cs := [_, _]) ty_Fact rfl (eh15 _) rfl)<|D0 20 rfl a0S rfl (fun hA => ⟨ei26_0, hA.ro xh26_0, ei15_0, hA.ro xh15_0⟩)<|Dyp 21 rfl (Y.geq rfl rfl)<|l3 (fun q33 => ?_)<|fun q33 => ?_
    ·refine Dyp 22 rfl (K7 rfl rfl)<|Dyp 23 rfl (L8 rfl rfl)<|n9 kr<|Et<|r6 rfl<|Ew Z1<|Ei rfl<|Eu<|E.ret<|u6<|i9<|i9<|u6<|i9<|Fb rfl rfl (by grind [F1, a1F, K0, J9, L9, ltF, d1, d2, t1, t2])
    ·refine Dyp 22 rfl (K7 rfl rfl)<|Dyp 23 rfl (L8 rfl rfl)<|n9 kr<|Et<|r7 rfl<|v8<|o6<|Et<|Ez Z3<|Em rfl<|Yad rfl om om<|Ei rfl ?_
     exact Eu<|t7 br (g + 1) rs (.refl _) ⟨by omega, by grind [a1F, K0, J9, L9, ltF, Bool.and_assoc, d1, d2, t1, t2]⟩ om
   ·refine Dm 10 rfl<|Dsk 11 rfl<|Dsk 12 rfl<|Dsk 13 rfl<|Dsk 14 rfl<|Dsk 15 rfl<|Dsk 16 rfl<|Dsk 17 rfl<|Dsk 18 rfl<|Dsk 19 rfl<|Dsk 20 rfl<|Dsk 21 rfl<|Dyp 22 rfl (L8 rfl rfl)<|Dyp 23 rfl (L8 rfl rfl)<|n9 kr<|Et<|r7 rfl<|v8<|o6<|Et<|Ez Z3<|Em rfl<|Yad rfl om om<|Ei rfl ?_
    exact Eu<|t7 br (g + 1) rs (.refl _) ⟨by omega, by grind [a1F, K0, J9, L9, ltF, Bool.and_assoc, d1, d2, t1, t2]⟩ om
  ·refine Dyp 6 rfl (Y.not (b := false) rfl)<|Dm 7 rfl<|Dsk 8 rfl<|Dsk 9 rfl<|b1S 10 rfl rfl dc kr<|Dsk 11 rfl<|Dsk 12 rfl<|Dsk 13 rfl<|Dsk 14 rfl<|Dsk 15 rfl<|Dsk 16 rfl<|Dsk 17 rfl<|Dsk 18 rfl<|Dsk 19 rfl<|Dsk 20 rfl<|Dsk 21 rfl<|Dsk 22 rfl<|Dyp 23 rfl (K7 rfl rfl)<|n9 kr<|Et<|r6 rfl<|Ew Z1<|Ei rfl<|Eu<|E.ret<|u6<|i9<|i9<|u6<|i9<|Fb rfl rfl (by grind [F1, a1F, K0, J9, L9, ltF, d1, d2, t1, t2])
 ·refine Eu<|r7 rfl<|E.exit<|l4<|l4<|w8<|Et<|Ew Z8<|Em rfl<|E0 rfl R6 rfl (fun hA => hA.ro hs)<|Ent.b (fun q37 => ?_)<|fun q37 => ?_
  ·refine Em rfl<|Em rfl<|Yln us_Facts rfl<|Ey rfl ((Y.leq rfl rfl).yd)<|Ypt rfl<|Ei rfl<|Eu<|E.ret<|Fb rfl rfl (by grind [F1, a1F, K0, J9, L9, ltF, d1, d2, t1, t2])
  ·refine Em rfl<|Es rfl<|Es rfl<|Es rfl<|Ypf rfl<|Ei rfl<|Eu<|E.ret<|Fb rfl rfl (by grind [F1, a1F, K0, J9, L9, ltF, d1, d2, t1, t2])
end Go.Proofs.YthapcdhdfaibkaaGreatDoor
