import Derived.Test.YtdopeopehgdccaaGreatT13
import Derived.Test.YtdopeopehgdccaaGreatT10
import Derived.Test.YtdopeopehgdccaaGreatDy
namespace Go.Proofs.YtdopeopehgdccaaGreat
open Go.RowKit
set_option linter.all false
set_option maxHeartbeats 2000000
attribute [local irreducible] Nop Yd Yp Ent Has Tr FnP FnP2 Src R6 a0d a0I a1c H6
variable {D7 z6 C9 z7 o5 : Int} {t6 J4 f9 : List Int} {C8 B1 m_values c_values D3 y8 : Nat} {B2 a_values y9 : Option Addr}
theorem b1I (hv : t6.length ≤ J4.length) (hi : o5 = D7 → ∀ i ∈ t6, 0 ≤ i ∧ i < f9.length) : Tr Tryz.prog 201 [.agg #[.int .i64 D7, .slice B2 C8 B1, .int .i64 z6, .int .i64 C9, .int .i64 z7], .slice a_values m_values c_values, .agg #[.int .i64 o5, .slice y9 D3 y8]] (fun w L => I64 D7 ∧ Ro w L eIs [.slice B2 C8 B1] t6 ∧ I64 z6 ∧ I64 C9 ∧ I64 z7 ∧ Ro w L eIs [.slice a_values m_values c_values] J4 ∧ I64 o5 ∧ Ro w L eIs [.slice y9 D3 y8] f9) [] (κ := Unit) (fun k => True) (fun k => .bool (T0 (D7, t6, z6, C9, z7) J4 (o5, f9))) (fun k => []) := by
 refine n9 Tryz.func201 rfl (n := 34) rfl (by decide +kernel) bl (fr := [(0, .agg #[.int .i64 D7, .slice B2 C8 B1, .int .i64 z6, .int .i64 C9, .int .i64 z7]), (1, .slice a_values m_values c_values), (2, .agg #[.int .i64 o5, .slice y9 D3 y8])]) rfl fun w L hR => ?_
 obtain ⟨V0, E8, P8, S2, P9, hvalues, J6, B4⟩ := hR
 obtain ⟨rfl, Y7⟩ := E8.slen
 obtain ⟨rfl, lvalues⟩ := hvalues.slen
 obtain ⟨rfl, Y9⟩ := B4.slen
 refine Ew Z3 (Est rfl (N.box (cs := [_, _, _, _, _]) rfl dc rfl) (fun b3 _ => (Est rfl (N.box (cs := [_, _]) rfl dc rfl) (fun b5 _ => (Ei rfl (Eu (Eq_ (Ew Z5 (Ey rfl ((j7 fo_Fact_0 i8 dc rfl).yd) (Ey rfl (g9 i8 rfl (Hz m0 0 rfl) rfl) (Ey rfl ((j7 fo_Method_0 i8 dc rfl).yd) (Ey rfl (g9 i8 rfl (Hz (mS m0) 0 rfl) rfl) (Ey rfl ((Y.neq rfl rfl).yd) (o6 (fun q12 => ?_) (fun q12 => ?_)))))))))))))))
 ·refine Eu (o2 rfl (Ew Z1 (Ei rfl ?_)))
  exact Eu (E.ret (l4 (Fb rfl rfl (by grind [T0, a1R, a3R, a3S, G0, d1, d2, t1, t2]))))
 ·refine Eu (o3 rfl (j5 (Et (Eq_ (Ew Z1 (Ei rfl (Eu (E.block (E.loop (κ := Nat) (fun g => g ≤ t6.length ∧ (t6.zip J4).all (a3S f9) = ((t6.zip J4).drop g).all (a3S f9)) (fun g => [(1, .slice a_values J4.length c_values), (3, .pointer (some ⟨b3, 0, none⟩)), (5, .pointer (some ⟨b5, 0, none⟩)), (7, .int .i64 (g : Int))]) (fun g => [pt b5 115 [.int .i64 o5, .slice y9 f9.length y8], pt b3 113 [.int .i64 D7, .slice B2 t6.length B1, .int .i64 z6, .int .i64 C9, .int .i64 z7]]) (fun g => t6.length - g) 0 ⟨Nat.zero_le _, by simp⟩ ⟨rfl, rfl, rfl, rfl, trivial⟩ (.refl _) (fun g pg => ?_))))))))))
  obtain ⟨pk, pa⟩ := pg
  refine Eq_ (Ew Z5 (Em rfl (Ey rfl ((j7 fo_Method_1 ty_Is dc rfl).yd) (Ey rfl (g9 ty_Is rfl (Hz (mS m0) 1 rfl) rfl) (Ey rfl ((Y.len us_Is rfl).yd) (Ey rfl ((Y.lss rfl rfl).yd) (o6 (fun q17 => ?_) (fun q17 => ?_))))))))
  ·have hi1 := hi om t6[g] (List.getElem_mem om)
   refine Eu (o2 rfl (j5 (Et (Eq_ (E.block (Eq_ (D.region (fun j => true) mixed (Dyp 0 rfl (j7 fo_Fact_1 ty_Is dc rfl) (Dy 1 rfl (g9 ty_Is rfl (Hz m0 1 rfl) rfl) (Dyp 2 rfl (j7 fo_Method_1 ty_Is dc rfl) (Dy 3 rfl (g9 ty_Is rfl (Hz (mS m0) 1 rfl) rfl) (Dyp 4 rfl (l3 rfl) ?_))))))))))))
   obtain ⟨eb25, eo25, ea25, ei25, eh25⟩ := E8.elemI g om
   refine Dyp 5 rfl (r7 us_Is i8 rfl ea25 rfl g rfl om) (Dy 6 rfl (g9 i8 rfl (eh25 _) rfl) ?_)
   obtain ⟨eb27, eo27, ea27, ei27, eh27⟩ := B4.elemI t6[g].toNat om
   refine Dyp 7 rfl (r7 us_Is i8 rfl ea27 rfl t6[g].toNat om om) (Dy 8 rfl (g9 i8 rfl (eh27 _) rfl) (Dyp 9 rfl (l3 rfl) (Dyp 10 rfl (l3 rfl) ?_)))
   obtain ⟨eb31, eo31, ea31, ei31, eh31⟩ := hvalues.elemI g om
   refine Dyp 11 rfl (r7 us_Is i8 rfl ea31 rfl g rfl om) (Dy 12 rfl (g9 i8 rfl (eh31 _) rfl) (Dyp 13 rfl (Y.neq rfl rfl) (o6 (fun q33 => ?_) (fun q33 => ?_))))
   ·refine r8 kr (Et (o2 rfl (Ew Z1 (Ei rfl ?_))))
    exact Eu (E.ret (w5 (l4 (l4 (w5 (l4 (Fb rfl rfl (by grind [T0, a1R, a3R, a3S, G0, d1, d2, t1, t2]))))))))
   ·refine r8 kr (Et (o3 rfl (j5 (t7 (Et (Ez Z3 (Em rfl (Ey rfl ((Y.add rfl rfl om om).yd) (Ei rfl (Eu (i7 (i7 ?_))))))))))))
    exact v8 br (g + 1) rs (.refl _) ⟨by omega, by grind [a1R, a3S, G0, d1, d2, t1, t2]⟩ om
  ·refine Eu (o3 rfl (E.exit (o8 (o8 (x9 (Et (Ew Z1 (Ei rfl ?_))))))))
   exact Eu (E.ret (Fb rfl rfl (by grind [T0, a1R, a3R, a3S, G0, d1, d2, t1, t2])))
theorem a8D {b_m : Nat} {b_a : Nat} {o4 : Int} {w9 : Option Addr} {y4 w8 : Nat} {r6 : List Int} (hv : t6.length ≤ r6.length) (hi : o5 = D7 → ∀ i ∈ t6, 0 ≤ i ∧ i < f9.length) : Tr Tryz.prog 207 [.agg #[.int .i64 o5, .slice y9 D3 y8], .pointer (some ⟨b_m, 0, none⟩), .pointer (some ⟨b_a, 0, none⟩)] (fun w L => (I64 o5 ∧ Ro w L eIs [.slice y9 D3 y8] f9) ∧ RoPt w L b_m [.int .i64 D7, .slice B2 C8 B1, .int .i64 z6, .int .i64 C9, .int .i64 z7] ∧ I64 D7 ∧ Ro w L eIs [.slice B2 C8 B1] t6 ∧ I64 z6 ∧ I64 C9 ∧ I64 z7 ∧ RoPt w L b_a [.int .i64 o4, .slice w9 y4 w8] ∧ I64 o4 ∧ Ro w L eIs [.slice w9 y4 w8] r6) [] (κ := Unit) (fun k => True) (fun k => .bool (!T0 (D7, t6, z6, C9, z7) r6 (o5, f9))) (fun k => []) := by
 refine n9 Tryz.func207 rfl (n := 32) rfl (by decide +kernel) bl (fr := [(0, .agg #[.int .i64 o5, .slice y9 D3 y8]), (1, .pointer (some ⟨b_m, 0, none⟩)), (2, .pointer (some ⟨b_a, 0, none⟩))]) rfl fun w L hR => ?_
 obtain ⟨⟨J6, B4⟩, hb_m, V0, E8, P8, S2, P9, hb_a, O0, B6⟩ := hR
 obtain ⟨rfl, Y9⟩ := B4.slen
 obtain ⟨rfl, Y7⟩ := E8.slen
 obtain ⟨rfl, R9⟩ := B6.slen
 refine Ew Z2 (Est rfl (N.box (cs := [_, _]) rfl dc rfl) (fun b3 _ => (Ei rfl (Eu (Eq_ (Ew Z5 (Ey rfl ((j7 fo_Fact_0 i8 dc rfl).yd) (Ey rfl (g9 i8 rfl (Hz m0 0 rfl) rfl) (Ey rfl ((j7 fo_Method_0 i8 dc rfl).yd) (Ey rfl (g9 i8 rfl ((hb_m.has).sub (cs' := [_]) 0 rfl) rfl) (Ey rfl ((Y.neq rfl rfl).yd) (o6 (fun q11 => ?_) (fun q11 => ?_)))))))))))))
 ·refine Eu (o2 rfl (Ew Z1 (Ei rfl ?_)))
  exact Eu (E.ret (l4 (Fb rfl rfl (by grind [T0, a1R, a3R, a3S, G0, d1, d2, t1, t2]))))
 ·refine Eu (o3 rfl (j5 (Et (Eq_ (Ew Z4 (Ey rfl ((j7 fo_Method_1 ty_Is dc rfl).yd) (Ey rfl (g9 ty_Is rfl ((hb_m.has).sub (cs' := [_]) 1 rfl) rfl) (Ey rfl ((Y.len us_Is rfl).yd) (Em rfl (Eu (E.block (E.loop (κ := Nat) (fun g => g ≤ t6.length ∧ (t6.zip r6).all (a3S f9) = ((t6.zip r6).drop g).all (a3S f9)) (fun g => [(2, .pointer (some ⟨b_a, 0, none⟩)), (3, .pointer (some ⟨b3, 0, none⟩)), (13, .slice B2 t6.length B1), (14, .int .i64 (↑t6.length : Int)), (15, .int .i64 (g : Int))]) (fun g => [pt b3 115 [.int .i64 o5, .slice y9 f9.length y8]]) (fun g => t6.length - g) 0 ⟨Nat.zero_le _, by simp⟩ ⟨rfl, rfl, rfl, rfl, rfl, trivial⟩ (.refl _) (fun g pg => ?_)))))))))))))
  obtain ⟨pk, pa⟩ := pg
  refine Ew Z1 (Ey rfl ((Y.lss rfl rfl).yd) (o6 (fun q16 => ?_) (fun q16 => ?_)))
  ·have hi1 := hi om t6[g] (List.getElem_mem om)
   refine Eu (Eq_ (o2 rfl (j5 (Et (Eq_ (E.block (Ew Z5 (Em rfl ?_))))))))
   obtain ⟨eb18, eo18, ea18, ei18, eh18⟩ := E8.elemI g om
   refine Ey rfl ((r7 us_Is i8 rfl ea18 rfl g rfl om).yd) (Ey rfl (g9 i8 rfl (eh18 _) rfl) (Ei rfl (Ei rfl (Eu (Eq_ (D.region (fun j => true) mixed (Dyp 0 rfl (j7 fo_Fact_1 ty_Is dc rfl) (Dy 1 rfl (g9 ty_Is rfl (Hz m0 1 rfl) rfl) (Dyp 2 rfl (l3 rfl) ?_)))))))))
   obtain ⟨eb23, eo23, ea23, ei23, eh23⟩ := B4.elemI t6[g].toNat om
   refine Dyp 3 rfl (r7 us_Is i8 rfl ea23 rfl t6[g].toNat om om) (Dy 4 rfl (g9 i8 rfl (eh23 _) rfl) (Dyp 5 rfl (j7 fo_Access_1 ty_Is dc rfl) (Dy 6 rfl (g9 ty_Is rfl ((hb_a.has).sub (cs' := [_]) 1 rfl) rfl) (Dyp 7 rfl (l3 rfl) ?_))))
   obtain ⟨eb28, eo28, ea28, ei28, eh28⟩ := B6.elemI g om
   refine Dyp 8 rfl (r7 us_Is i8 rfl ea28 rfl g rfl om) (Dy 9 rfl (g9 i8 rfl (eh28 _) rfl) (Dyp 10 rfl (Y.neq rfl rfl) (o6 (fun q30 => ?_) (fun q30 => ?_))))
   ·refine r8 kr (Et (o2 rfl (Ew Z1 (Ei rfl ?_))))
    exact Eu (E.ret (w5 (l4 (l4 (w5 (l4 (Fb rfl rfl (by grind [T0, a1R, a3R, a3S, G0, d1, d2, t1, t2]))))))))
   ·refine r8 kr (Et (o3 rfl (j5 (t7 (Et (Ez Z2 (Ey rfl ((Y.add rfl rfl om om).yd) (Em rfl ?_))))))))
    exact Eu (v8 br (g + 1) rs (.refl _) ⟨by omega, by grind [a1R, a3S, G0, d1, d2, t1, t2]⟩ om)
  ·refine Eu (Eq_ (o3 rfl (E.exit (o8 (o8 (x9 (Et (Ew Z1 (Ei rfl ?_)))))))))
   exact Eu (E.ret (Fb rfl rfl (by grind [T0, a1R, a3R, a3S, G0, d1, d2, t1, t2])))
theorem a2T {a_facts : Option Addr} {m_facts c_facts : Nat} {d8 : List (Int × List Int)} (hv : t6.length ≤ J4.length) (hif : ∀ f ∈ d8, f.1 = D7 → ∀ i ∈ t6, 0 ≤ i ∧ i < f.2.length) (hfl : d8.length ≤ 1048576) (hfe : ∀ f ∈ d8, f.2.length ≤ 1048576) : Tr Tryz.prog 116 [.agg #[.int .i64 D7, .slice B2 C8 B1, .int .i64 z6, .int .i64 C9, .int .i64 z7], .slice a_values m_values c_values, .slice a_facts m_facts c_facts] (fun w L => I64 D7 ∧ Ro w L eIs [.slice B2 C8 B1] t6 ∧ I64 z6 ∧ I64 C9 ∧ I64 z7 ∧ Ro w L eIs [.slice a_values m_values c_values] J4 ∧ Ro w L s8 [.slice a_facts m_facts c_facts] d8) [] (κ := Option Addr × Nat × Nat) (fun k => True) (fun k => .slice k.1 k.2.1 k.2.2) (fun k => [ow s8 [.slice k.1 k.2.1 k.2.2] (d8.filter (T0 (D7, t6, z6, C9, z7) J4))]) := by
 refine n9 Tryz.func116 rfl (n := 38) rfl (by decide +kernel) bl (fr := [(0, .agg #[.int .i64 D7, .slice B2 C8 B1, .int .i64 z6, .int .i64 C9, .int .i64 z7]), (1, .slice a_values m_values c_values), (2, .slice a_facts m_facts c_facts)]) rfl fun w L hR => ?_
 obtain ⟨V0, E8, P8, S2, P9, hvalues, hfacts⟩ := hR
 obtain ⟨rfl, Y7⟩ := E8.slen
 obtain ⟨rfl, lvalues⟩ := hvalues.slen
 obtain ⟨rfl, lfacts⟩ := hfacts.slen
 refine Ew Z2 (Est rfl (N.box (cs := [_, _, _, _, _]) rfl dc rfl) (fun b3 _ => (Ei rfl (Ev Z2 (Est rfl (Nb [] [] us_Facts ty_Fact rfl rfl) (fun b9 _ => (Ent.drop (Ei rfl (Eu (Eq_ (Ew Z1 (Ei rfl (Eu (E.block (s3 (A := []) (Own.nil (E := H7) (e := tFact) (a := (some ⟨b9, 0, none⟩))) rfl (j6 (congrArg (ow s8 [_]) (show [] = (d8.take 0).filter (T0 (D7, t6, z6, C9, z7) J4) from by first | rfl | (simp; done) | grind [d1, d2, t1, t2])) (E.loop (κ := Nat × Option Addr × Nat × Nat) (fun g => g.1 ≤ d8.length ∧ True) (fun g => [(1, .slice a_values J4.length c_values), (2, .slice a_facts d8.length c_facts), (3, .pointer (some ⟨b3, 0, none⟩)), (7, .slice g.2.1 g.2.2.1 g.2.2.2), (8, .int .i64 (↑g.1 : Int))]) (fun g => [ow s8 [.slice g.2.1 g.2.2.1 g.2.2.2] ((d8.take g.1).filter (T0 (D7, t6, z6, C9, z7) J4)), pt b3 113 [.int .i64 D7, .slice B2 t6.length B1, .int .i64 z6, .int .i64 C9, .int .i64 z7]]) (fun g => d8.length - g.1) (0, (some ⟨b9, 0, none⟩), 0, 0) ⟨Nat.zero_le _, by simp⟩ ⟨rfl, rfl, rfl, rfl, rfl, trivial⟩ (.refl _) (fun g pg => ?_))))))))))))))))))
 obtain ⟨g, aA0_0, mA0_0, cA0_0⟩ := g
 try dsimp only at pg
 try dsimp only
 obtain ⟨pk, pa⟩ := pg
 have jf := List.length_filter_le (T0 (D7, t6, z6, C9, z7) J4) (d8.take g)
 have jt := List.length_take_le g d8
 refine i9 m0 fun eaA0_0 laA0_0 => ?_
 subst eaA0_0
 refine Eq_ (Ew Z4 (Em rfl (Em rfl (Ey rfl ((Y.len us_Facts rfl).yd) (Ey rfl ((Y.lss rfl rfl).yd) (o6 (fun q13 => ?_) (fun q13 => ?_)))))))
 ·refine Eu (o2 rfl (j5 (Et (Eq_ (E.block (Eq_ (D.region (fun j => true) mixed (Dy 0 rfl (o9 (cs := [_, _, _, _, _]) ty_Method rfl (Has.pt (mS m0)) rfl) (Dyp 1 rfl (l3 rfl) (Dyp 2 rfl (l3 rfl) (Dyp 3 rfl (l3 rfl) ?_)))))))))))
  obtain ⟨eb20, eo20, ec20, ea20, er20, el20, eh20⟩ := hfacts.elem g om
  obtain ⟨xa20_0, xc20_0, rfl, ei20_0, xh20_0⟩ := P2 er20
  have := xh20_0.slen.2
  refine Dyp 4 rfl (r7 us_Facts ty_Fact rfl ea20 rfl g rfl om) (Dy 5 rfl (o9 (cs := [_, _]) ty_Fact rfl (eh20 _) rfl) (t8 6 rfl rfl kr (fun _ => rfl) (n0 (b1I hv (hif _ (List.getElem_mem om))) rfl rfl rfl dc (fun w Lp hA => ⟨V0, hA.ro E8, P8, S2, P9, hA.ro hvalues, ei20_0, hA.ro xh20_0⟩)) (fun _ _ => (Ent.b (fun q22 => ?_) (fun q22 => ?_)))))
  ·refine r8 kr (Et (o2 rfl (D.region (fun j => !(Nat.beq j 13)) mixed (Dyp 0 rfl (l3 rfl) (Dyp 1 rfl (l3 rfl) (Dyp 2 rfl (l3 rfl) (Dyp 3 rfl (r7 us_Facts ty_Fact rfl ea20 rfl g rfl om) (Dyp 4 rfl (j7 fo_Fact_0 i8 dc rfl) (Dy 5 rfl (g9 i8 rfl ((eh20 _).sub (cs' := [_]) 0 rfl) rfl) (Dyp 6 rfl (l3 rfl) (Dyp 7 rfl (l3 rfl) (Dyp 8 rfl (r7 us_Facts ty_Fact rfl ea20 rfl g rfl om) (Dyp 9 rfl (j7 fo_Fact_1 ty_Is dc rfl) (Dy 10 rfl (g9 ty_Is rfl ((eh20 _).sub (cs' := [_]) 1 rfl) rfl) (t8 11 rfl rfl kr (fun _ => rfl) (N.call (T4 (hfe _ (List.getElem_mem om))) rfl rfl rfl dc rfl (fun w Lp hA => ⟨ei20_0, hA.ro xh20_0⟩)) (fun k34 _ => ?_))))))))))))))))
   obtain ⟨a34, m34, c34⟩ := k34
   refine i9 m0 fun e34 l34 => ?_
   subst e34
   refine t8 12 rfl rfl kr (fun _ => rfl) (Nb [_] [_, _] us_Facts ty_Fact rfl rfl) (fun b35 _ => (i7 (i7 (r5 (t8 13 rfl rfl kr (fun h => by cases h) (D6 (E := H7) (ex := d8[g]) us_Facts ty_Fact rfl rfl rfl (N0 (x := d8[g]) ei20_0 Own.ow) rfl bn bn dc) (fun p36 _ => (Dyp 14 rfl (F7 rfl) (r8 kr (t7 (Et (Ez Z3 (Em rfl (Ey rfl ((Y.add rfl rfl om om).yd) (Ei rfl (Eu (j6 (congrArg (ow s8 [_]) (show ((d8.take g).filter (T0 (D7, t6, z6, C9, z7) J4)) ++ [d8[g]] = (d8.take (g + 1)).filter (T0 (D7, t6, z6, C9, z7) J4) from by grind [d1, d2, t1, t2])) (i7 (i7 ?_))))))))))))))))))
   exact Ea (g + 1, p36.1, (((d8.take g).filter (T0 (D7, t6, z6, C9, z7) J4)).length + 1), p36.2) ⟨oz, trivial⟩
  ·refine r8 kr (Et (o3 rfl (j5 (t7 (Et (Ez Z3 (Em rfl (Ey rfl ((Y.add rfl rfl om om).yd) (Ei rfl (Eu (j6 (congrArg (ow s8 [_]) (show (d8.take g).filter (T0 (D7, t6, z6, C9, z7) J4) = (d8.take (g + 1)).filter (T0 (D7, t6, z6, C9, z7) J4) from by grind [d1, d2, t1, t2])) (i7 (i7 ?_)))))))))))))
   exact Ea (g + 1, aA0_0, ((d8.take g).filter (T0 (D7, t6, z6, C9, z7) J4)).length, cA0_0) ⟨oz, trivial⟩
 ·refine Eu (o3 rfl (E.exit (o8 (o8 (x9 (Et (Ew Z2 (Em rfl (Ei rfl (Eu (E.ret (j6 (congrArg (ow s8 [_]) (show _ = d8.filter (T0 (D7, t6, z6, C9, z7) J4) by grind [d1, d2, t1, t2])) ?_))))))))))))
  exact Fg rfl rfl (_, _, _) rfl rfl
end Go.Proofs.YtdopeopehgdccaaGreat
