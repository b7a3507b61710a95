import Derived.Test.YthapcdhdfaibkaaGreatDoorT13
import Derived.Test.YthapcdhdfaibkaaGreatDoorT10
import Derived.Test.YthapcdhdfaibkaaGreatDoorGu
namespace Go.Proofs.YthapcdhdfaibkaaGreatDoor
open Go.RowKit
set_option linter.all false
set_option maxHeartbeats 2000000
attribute [local irreducible] Nop Yd Yp Ent Has Tr FnP FnP2 Src M5 U1 V6 W3 G3
variable {G9 E5 G6 E6 n8 : Int} {t6 N8 f9 : List Int} {I0 F2 m_values c_values I1 E1 : Nat} {F3 a_values E3 : Option Addr}
theorem b1C (hv : t6.length ≤ N8.length) (hi : n8 = G9 → ∀ i ∈ t6, 0 ≤ i ∧ i < f9.length) : TB Tryz.prog 208 [.agg #[.int .i64 G9, .slice F3 I0 F2, .int .i64 E5, .int .i64 G6, .int .i64 E6], .slice a_values m_values c_values, .agg #[.int .i64 n8, .slice E3 I1 E1]] (fun w L => I64 G9 ∧ Ro w L eIs [.slice F3 I0 F2] t6 ∧ I64 E5 ∧ I64 G6 ∧ I64 E6 ∧ Ro w L eIs [.slice a_values m_values c_values] N8 ∧ I64 n8 ∧ Ro w L eIs [.slice E3 I1 E1] f9) (W5 (G9, t6, E5, G6, E6) N8 (n8, f9)) := by
 refine Ti3 Tryz.func208 34 rfl fun w L hR => ?_
 obtain ⟨X1, F4, S5, V1, S6, hvalues, M3, C3⟩ := hR
 obtain ⟨rfl, a0j⟩ := F4.slen
 obtain ⟨rfl, lvalues⟩ := hvalues.slen
 obtain ⟨rfl, a0l⟩ := C3.slen
 refine Ew Z3<|Est rfl (N.box (cs := [_, _, _, _, _]) rfl dc rfl)<|fun b3 _ => Est rfl (N.box (cs := [_, _]) rfl dc rfl)<|fun b5 _ => Ei rfl<|Eu<|Eq_<|Ew Z5<|Lz fo_Fact_0 i7 rfl m0 rfl<|Lz fo_Method_0 i7 rfl (mS m0) rfl<|Ey rfl ((Y.neq rfl rfl).yd)<|l3 (fun q12 => ?_)<|fun q12 => ?_
 ·refine Eu<|r6 rfl<|Ew Z1<|Ei rfl<|Eu<|E.ret<|i9<|Fb rfl rfl (by grind [W5, a1w, a3A, a3h, H0, d1, d2, t1, t2])
 ·refine Eu<|Cf<|Eq_<|Ew Z1<|Ei rfl<|Eu<|E.block<|Lo (κ := Nat) (fun g => g ≤ t6.length ∧ (t6.zip N8).all (a3h f9) = ((t6.zip N8).drop g).all (a3h f9)) (fun g => [(1, .slice a_values N8.length c_values), (3, .pointer<|some ⟨b3, 0, none⟩), (5, .pointer<|some ⟨b5, 0, none⟩), (7, .int .i64 (g : Int))]) (fun g => [pt b5 85 [.int .i64 n8, .slice E3 f9.length E1], pt b3 125 [.int .i64 G9, .slice F3 t6.length F2, .int .i64 E5, .int .i64 G6, .int .i64 E6]]) (fun g => t6.length - g) 0 ⟨Nat.zero_le _, by simp⟩<|fun g pg => ?_
  obtain ⟨pk, pa⟩ := pg
  refine Eq_<|Ew Z5<|Em rfl<|Lz fo_Method_1 ty_Is rfl (mS m0) rfl<|Yln us_Is rfl<|Ylt rfl<|l3 (fun q17 => ?_)<|fun q17 => ?_
  ·have hi1 := hi om t6[g] (List.getElem_mem om)
   refine Eu<|Ct<|Eq_<|E.block<|Eq_<|D.region (fun j => true) mixed<|Df 0 1 fo_Fact_1 ty_Is rfl (Hz m0 1 rfl)<|Df 2 3 fo_Method_1 ty_Is rfl (Hz (mS m0) 1 rfl)<|Dm 4 rfl ?_
   obtain ⟨eb25, eo25, ea25, ei25, eh25⟩ := F4.elemI g om
   refine Dyp 5 rfl (z8 us_Is i7 rfl ea25 rfl g rfl om)<|Dy 6 rfl (B4 i7 rfl (eh25 _) rfl) ?_
   obtain ⟨eb27, eo27, ea27, ei27, eh27⟩ := C3.elemI t6[g].toNat om
   refine Dyp 7 rfl (z8 us_Is i7 rfl ea27 rfl t6[g].toNat om om)<|Dy 8 rfl (B4 i7 rfl (eh27 _) rfl)<|Dm 9 rfl<|Dm 10 rfl ?_
   obtain ⟨eb31, eo31, ea31, ei31, eh31⟩ := hvalues.elemI g om
   refine Dyp 11 rfl (z8 us_Is i7 rfl ea31 rfl g rfl om)<|Dy 12 rfl (B4 i7 rfl (eh31 _) rfl)<|Dyp 13 rfl (Y.neq rfl rfl)<|l3 (fun q33 => ?_)<|fun q33 => ?_
   ·refine n9 kr<|Et<|r6 rfl<|Ew Z1<|Ei rfl<|Eu<|E.ret<|u6<|i9<|i9<|u6<|i9<|Fb rfl rfl (by grind [W5, a1w, a3A, a3h, H0, d1, d2, t1, t2])
   ·refine n9 kr<|Et<|r7 rfl<|v8<|o6<|Et<|Ez Z3<|Em rfl<|Yad rfl om om<|Ei rfl<|Eu<|f5<|f5 ?_
    exact t7 br (g + 1) rs (.refl _) ⟨by omega, by grind [a1w, a3h, H0, d1, d2, t1, t2]⟩ om
  ·refine Eu<|r7 rfl<|E.exit<|l4<|l4<|w8<|Et<|Ew Z1<|Ei rfl<|Eu<|E.ret<|Fb rfl rfl (by grind [W5, a1w, a3A, a3h, H0, d1, d2, t1, t2])
theorem a8P {b_m : Nat} {b_a : Nat} {q3 : Int} {E9 : Option Addr} {H5 E8 : Nat} {s6 : List Int} (hv : t6.length ≤ s6.length) (hi : n8 = G9 → ∀ i ∈ t6, 0 ≤ i ∧ i < f9.length) : TB Tryz.prog 193 [.agg #[.int .i64 n8, .slice E3 I1 E1], .pointer (some ⟨b_m, 0, none⟩), .pointer (some ⟨b_a, 0, none⟩)] (fun w L => (I64 n8 ∧ Ro w L eIs [.slice E3 I1 E1] f9) ∧ RoPt w L b_m [.int .i64 G9, .slice F3 I0 F2, .int .i64 E5, .int .i64 G6, .int .i64 E6] ∧ I64 G9 ∧ Ro w L eIs [.slice F3 I0 F2] t6 ∧ I64 E5 ∧ I64 G6 ∧ I64 E6 ∧ RoPt w L b_a [.int .i64 q3, .slice E9 H5 E8] ∧ I64 q3 ∧ Ro w L eIs [.slice E9 H5 E8] s6) (!W5 (G9, t6, E5, G6, E6) s6 (n8, f9)) := by
 refine Ti3 Tryz.func193 32 rfl fun w L hR => ?_
 obtain ⟨⟨M3, C3⟩, hb_m, X1, F4, S5, V1, S6, hb_a, R8, G1⟩ := hR
 obtain ⟨rfl, a0l⟩ := C3.slen
 obtain ⟨rfl, a0j⟩ := F4.slen
 obtain ⟨rfl, a0k⟩ := G1.slen
 refine Ew Z2<|Est rfl (N.box (cs := [_, _]) rfl dc rfl)<|fun b3 _ => Ei rfl<|Eu<|Eq_<|Ew Z5<|Lz fo_Fact_0 i7 rfl m0 rfl<|Lf fo_Method_0 i7 rfl (Hs (hb_m.has) 0 rfl)<|Ey rfl ((Y.neq rfl rfl).yd)<|l3 (fun q11 => ?_)<|fun q11 => ?_
 ·refine Eu<|r6 rfl<|Ew Z1<|Ei rfl<|Eu<|E.ret<|i9<|Fb rfl rfl (by grind [W5, a1w, a3A, a3h, H0, d1, d2, t1, t2])
 ·refine Eu<|Cf<|Eq_<|Ew Z4<|Lf fo_Method_1 ty_Is rfl (Hs (hb_m.has) 1 rfl)<|Yln us_Is rfl<|Em rfl<|Eu<|E.block<|Lo (κ := Nat) (fun g => g ≤ t6.length ∧ (t6.zip s6).all (a3h f9) = ((t6.zip s6).drop g).all (a3h f9)) (fun g => [(2, .pointer<|some ⟨b_a, 0, none⟩), (3, .pointer<|some ⟨b3, 0, none⟩), (13, .slice F3 t6.length F2), (14, .int .i64 (↑t6.length : Int)), (15, .int .i64 (g : Int))]) (fun g => [pt b3 85 [.int .i64 n8, .slice E3 f9.length E1]]) (fun g => t6.length - g) 0 ⟨Nat.zero_le _, by simp⟩<|fun g pg => ?_
  obtain ⟨pk, pa⟩ := pg
  refine Ew Z1<|Ylt rfl<|l3 (fun q16 => ?_)<|fun q16 => ?_
  ·have hi1 := hi om t6[g] (List.getElem_mem om)
   refine Eu<|Eq_<|Ct<|Eq_<|E.block<|Ew Z5<|Em rfl ?_
   obtain ⟨eb18, eo18, ea18, ei18, eh18⟩ := F4.elemI g om
   refine Il us_Is i7 rfl ea18 g rfl om rfl (eh18 _)<|Ei rfl<|Ei rfl<|Eu<|Eq_<|D.region (fun j => true) mixed<|Df 0 1 fo_Fact_1 ty_Is rfl (Hz m0 1 rfl)<|Dm 2 rfl ?_
   obtain ⟨eb23, eo23, ea23, ei23, eh23⟩ := C3.elemI t6[g].toNat om
   refine Dyp 3 rfl (z8 us_Is i7 rfl ea23 rfl t6[g].toNat om om)<|Dy 4 rfl (B4 i7 rfl (eh23 _) rfl)<|Df 5 6 fo_Access_1 ty_Is rfl (Hs (hb_a.has) 1 rfl)<|Dm 7 rfl ?_
   obtain ⟨eb28, eo28, ea28, ei28, eh28⟩ := G1.elemI g om
   refine Dyp 8 rfl (z8 us_Is i7 rfl ea28 rfl g rfl om)<|Dy 9 rfl (B4 i7 rfl (eh28 _) rfl)<|Dyp 10 rfl (Y.neq rfl rfl)<|l3 (fun q30 => ?_)<|fun q30 => ?_
   ·refine n9 kr<|Et<|r6 rfl<|Ew Z1<|Ei rfl<|Eu<|E.ret<|u6<|i9<|i9<|u6<|i9<|Fb rfl rfl (by grind [W5, a1w, a3A, a3h, H0, d1, d2, t1, t2])
   ·refine n9 kr<|Et<|r7 rfl<|v8<|o6<|Et<|Ez Z2<|Yad rfl om om<|Em rfl ?_
    exact Eu<|t7 br (g + 1) rs (.refl _) ⟨by omega, by grind [a1w, a3h, H0, d1, d2, t1, t2]⟩ om
  ·refine Eu<|Eq_<|r7 rfl<|E.exit<|l4<|l4<|w8<|Et<|Ew Z1<|Ei rfl<|Eu<|E.ret<|Fb rfl rfl (by grind [W5, a1w, a3A, a3h, H0, d1, d2, t1, t2])
theorem a2H {a_facts : Option Addr} {m_facts c_facts : Nat} {d6 : List IL} (hv : t6.length ≤ N8.length) (hif : ∀ f ∈ d6, f.1 = G9 → ∀ i ∈ t6, 0 ≤ i ∧ i < f.2.length) (hfl : d6.length ≤ 1048576) (hfe : ∀ f ∈ d6, f.2.length ≤ 1048576) : TL Tryz.prog 87 [.agg #[.int .i64 G9, .slice F3 I0 F2, .int .i64 E5, .int .i64 G6, .int .i64 E6], .slice a_values m_values c_values, .slice a_facts m_facts c_facts] (fun w L => I64 G9 ∧ Ro w L eIs [.slice F3 I0 F2] t6 ∧ I64 E5 ∧ I64 G6 ∧ I64 E6 ∧ Ro w L eIs [.slice a_values m_values c_values] N8 ∧ Ro w L s5 [.slice a_facts m_facts c_facts] d6) s5 (d6.filter (W5 (G9, t6, E5, G6, E6) N8)) := by
 refine Ti3 Tryz.func87 38 rfl fun w L hR => ?_
 obtain ⟨X1, F4, S5, V1, S6, hvalues, hfacts⟩ := hR
 obtain ⟨rfl, a0j⟩ := F4.slen
 obtain ⟨rfl, lvalues⟩ := hvalues.slen
 obtain ⟨rfl, lfacts⟩ := hfacts.slen
 refine Ew Z2<|Est rfl (N.box (cs := [_, _, _, _, _]) rfl dc rfl)<|fun b3 _ => Ei rfl<|Ev Z2<|Est rfl (Nb [] [] us_Facts ty_Fact rfl rfl)<|fun b9 _ => Ent.drop<|Ei rfl<|Eu<|Eq_<|Ew Z1<|Ei rfl<|Eu<|E.block<|l6 (A := []) (Own.nil (E := J8) (e := tFact) (a := (some ⟨b9, 0, none⟩))) rfl<|g9 (congrArg (ow s5 [_]) (show _ = (d6.take 0).filter (W5 (G9, t6, E5, G6, E6) N8) from by first | rfl | (simp; done) | grind [d1, d2, t1, t2]))<|Lo (κ := Nat × SL) (fun g => g.1 ≤ d6.length ∧ True) (fun g => [(1, .slice a_values N8.length c_values), (2, .slice a_facts d6.length c_facts), (3, .pointer<|some ⟨b3, 0, none⟩), (7, .slice g.2.1 g.2.2.1 g.2.2.2), (8, .int .i64 (↑g.1 : Int))]) (fun g => [ow s5 [.slice g.2.1 g.2.2.1 g.2.2.2]<|(d6.take g.1).filter (W5 (G9, t6, E5, G6, E6) N8), pt b3 125 [.int .i64 G9, .slice F3 t6.length F2, .int .i64 E5, .int .i64 G6, .int .i64 E6]]) (fun g => d6.length - g.1) (0, (some ⟨b9, 0, none⟩), 0, 0) ⟨Nat.zero_le _, by simp⟩<|fun g pg => ?_
 obtain ⟨g, aA0_0, mA0_0, cA0_0⟩ := g
 try dsimp only at pg
 try dsimp only
 obtain ⟨pk, pa⟩ := pg
 have jf := List.length_filter_le (W5 (G9, t6, E5, G6, E6) N8) (d6.take g)
 have jt := List.length_take_le g d6
 refine r8 m0 ?_
 rintro rfl laA0_0
 refine Eq_<|Ew Z4<|Em rfl<|Em rfl<|Yln us_Facts rfl<|Ylt rfl<|l3 (fun q13 => ?_)<|fun q13 => ?_
 ·refine Eu<|Ct<|Eq_<|E.block<|Eq_<|D.region (fun j => true) mixed<|Dy 0 rfl (k7 (cs := [_, _, _, _, _]) ty_Method rfl (Has.pt<|mS m0) rfl)<|Dm 1 rfl<|Dm 2 rfl<|Dm 3 rfl ?_
  obtain ⟨eb20, eo20, ec20, ea20, er20, el20, eh20⟩ := hfacts.elem g om
  obtain ⟨xa20_0, xc20_0, rfl, ei20_0, xh20_0⟩ := W4 er20
  have := xh20_0.slen.2
  refine Dyp 4 rfl (z8 us_Facts ty_Fact rfl ea20 rfl g rfl om)<|Dy 5 rfl (k7 (cs := [_, _]) ty_Fact rfl (eh20 _) rfl)<|D0 6 rfl (b1C hv<|hif _<|List.getElem_mem om) rfl (fun hA => ⟨X1, hA.ro F4, S5, V1, S6, hA.ro hvalues, ei20_0, hA.ro xh20_0⟩)<|Ent.b (fun q22 => ?_)<|fun q22 => ?_
  ·refine n9 kr<|Et<|r6 rfl<|D.region (fun j => !(Nat.beq j 13)) mixed<|Dm 0 rfl<|Dm 1 rfl<|Dm 2 rfl<|Dyp 3 rfl (z8 us_Facts ty_Fact rfl ea20 rfl g rfl om)<|Df 4 5 fo_Fact_0 i7 rfl (Hs (eh20 _) 0 rfl)<|Dm 6 rfl<|Dm 7 rfl<|Dyp 8 rfl (z8 us_Facts ty_Fact rfl ea20 rfl g rfl om)<|Df 9 10 fo_Fact_1 ty_Is rfl (Hs (eh20 _) 1 rfl)<|E7 11 rfl rfl kr (fun _ => rfl) (N.call (W0<|hfe _<|List.getElem_mem om) rfl rfl rfl dc rfl<|fun w Lp hA => ⟨ei20_0, hA.ro xh20_0⟩)<|fun k34 _ => ?_
   obtain ⟨a34, m34, c34⟩ := k34
   refine r8 m0 ?_
   rintro rfl l34
   refine E7 12 rfl rfl kr (fun _ => rfl) (Nb [_] [_, _] us_Facts ty_Fact rfl rfl)<|fun b35 _ => f5<|f5<|i8<|E7 13 rfl rfl kr (fun h => by cases h) (B0 (E := J8) (ex := d6[g]) us_Facts ty_Fact rfl rfl rfl (P4 (x := d6[g]) ei20_0 Own.ow) rfl bn bn dc)<|fun p36 _ => Dyp 14 rfl (G7 rfl)<|n9 kr<|o6<|Et<|Ez Z3<|Em rfl<|Yad rfl om om<|Ei rfl<|Eu<|g9 (congrArg (ow s5 [_]) (show _ = (d6.take<|g + 1).filter (W5 (G9, t6, E5, G6, E6) N8) from by grind [d1, d2, t1, t2]))<|f5<|f5 ?_
   exact Ea (g + 1, p36.1, (((d6.take g).filter (W5 (G9, t6, E5, G6, E6) N8)).length + 1), p36.2) ⟨oz, trivial⟩
  ·refine n9 kr<|Et<|r7 rfl<|v8<|o6<|Et<|Ez Z3<|Em rfl<|Yad rfl om om<|Ei rfl<|Eu<|g9 (congrArg (ow s5 [_]) (show _ = (d6.take<|g + 1).filter (W5 (G9, t6, E5, G6, E6) N8) from by grind [d1, d2, t1, t2]))<|f5<|f5 ?_
   exact Ea (g + 1, aA0_0, _, cA0_0) ⟨oz, trivial⟩
 ·refine Eu<|r7 rfl<|E.exit<|l4<|l4<|w8<|Et<|Ew Z2<|Em rfl<|Ei rfl<|Eu<|E.ret<|g9 (congrArg (ow s5 [_]) (show _ = d6.filter (W5 (G9, t6, E5, G6, E6) N8) by grind [d1, d2, t1, t2]))<|Fg rfl rfl (_, _, _) rfl rfl
end Go.Proofs.YthapcdhdfaibkaaGreatDoor
