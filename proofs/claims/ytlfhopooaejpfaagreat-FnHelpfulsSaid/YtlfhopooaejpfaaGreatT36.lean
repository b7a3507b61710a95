import Derived.Test.YtlfhopooaejpfaaGreatT13
import Derived.Test.YtlfhopooaejpfaaGreatT10
import Derived.Test.YtlfhopooaejpfaaGreatGw
namespace Go.Proofs.YtlfhopooaejpfaaGreat
open Go.RowKit
set_option linter.all false
set_option maxHeartbeats 2000000
attribute [local irreducible] Nop Yd Yp Ent Has Tr FnP FnP2 Src o6 d7 O0 a0h H2
variable {J0 H3 J3 H4 l0 : Int} {D5 j6 d9 : List Int} {K3 J1 m_values c_values B7 y5 : Nat} {J2 a_values y6 : Option Addr}
theorem b1V (hv : D5.length ≤ j6.length) (hi : l0 = J0 → ∀ i ∈ D5, 0 ≤ i ∧ i < d9.length) : Tr Tryz.prog 220 [.agg #[.int .i64 J0, .slice J2 K3 J1, .int .i64 H3, .int .i64 J3, .int .i64 H4], .slice a_values m_values c_values, .agg #[.int .i64 l0, .slice y6 B7 y5]] (fun w L => I64 J0 ∧ Ro w L eIs [.slice J2 K3 J1] D5 ∧ I64 H3 ∧ I64 J3 ∧ I64 H4 ∧ Ro w L eIs [.slice a_values m_values c_values] j6 ∧ I64 l0 ∧ Ro w L eIs [.slice y6 B7 y5] d9) [] (κ := Unit) (fun k => True) (fun k => .bool (C7 (J0, D5, H3, J3, H4) j6 (l0, d9))) (fun k => []) := by
 refine Tr.intro Tryz.func220 rfl (n := 34) rfl (by decide +kernel) bl (fr := [(0, .agg #[.int .i64 J0, .slice J2 K3 J1, .int .i64 H3, .int .i64 J3, .int .i64 H4]), (1, .slice a_values m_values c_values), (2, .agg #[.int .i64 l0, .slice y6 B7 y5])]) rfl fun w L hR => ?_
 obtain ⟨a2w, L7, a0S, a1x, a0T, hvalues, H5, B4⟩ := hR
 obtain ⟨rfl, a2W⟩ := L7.slen
 obtain ⟨rfl, lvalues⟩ := hvalues.slen
 obtain ⟨rfl, R4⟩ := B4.slen
 refine Ew Z3 (Est rfl (N.box (cs := [_, _, _, _, _]) rfl dc rfl) (fun b3 _ => (Est rfl (N.box (cs := [_, _]) rfl dc rfl) (fun b5 _ => (Ei rfl (Eu (Eq_ (Ew Z5 (Ey rfl ((i8 fo_Fact_0 f5 dc rfl).yd) (Ey rfl (g9 f5 rfl (Hz m0 0 rfl) rfl) (Ey rfl ((i8 fo_Method_0 f5 dc rfl).yd) (Ey rfl (g9 f5 rfl (Hz (mS m0) 0 rfl) rfl) (Ey rfl ((Y.neq rfl rfl).yd) (n9 (fun q12 => ?_) (fun q12 => ?_)))))))))))))))
 ·refine Eu (o0 rfl (Ew Z1 (Ei rfl ?_)))
  exact Eu (E.ret (s9 (Fb rfl rfl (by grind [C7, a1q, a3G, a3e, G3, d1, d2, t1, t2]))))
 ·refine Eu (n8 rfl (f9 (Et (Eq_ (Ew Z1 (Ei rfl (Eu (E.block (E.loop (κ := Nat) (fun g => g ≤ D5.length ∧ (D5.zip j6).all (a3e d9) = ((D5.zip j6).drop g).all (a3e d9)) (fun g => [(1, .slice a_values j6.length c_values), (3, .pointer (some ⟨b3, 0, none⟩)), (5, .pointer (some ⟨b5, 0, none⟩)), (7, .int .i64 (g : Int))]) (fun g => [pt b5 91 [.int .i64 l0, .slice y6 d9.length y5], pt b3 86 [.int .i64 J0, .slice J2 D5.length J1, .int .i64 H3, .int .i64 J3, .int .i64 H4]]) (fun g => D5.length - g) 0 ⟨Nat.zero_le _, by simp⟩ ⟨rfl, rfl, rfl, rfl, trivial⟩ (.refl _) (fun g pg => ?_))))))))))
  obtain ⟨pk, pa⟩ := pg
  refine Eq_ (Ew Z5 (Em rfl (Ey rfl ((i8 fo_Method_1 ty_Is dc rfl).yd) (Ey rfl (g9 ty_Is rfl (Hz (mS m0) 1 rfl) rfl) (Ey rfl ((Y.len us_Is rfl).yd) (Ey rfl ((Y.lss rfl rfl).yd) (n9 (fun q17 => ?_) (fun q17 => ?_))))))))
  ·have hi1 := hi om D5[g] (List.getElem_mem om)
   refine Eu (o0 rfl (f9 (Et (Eq_ (E.block (Eq_ (D.region (fun j => true) mixed (Dyp 0 rfl (i8 fo_Fact_1 ty_Is dc rfl) (Dy 1 rfl (g9 ty_Is rfl (Hz m0 1 rfl) rfl) (Dyp 2 rfl (i8 fo_Method_1 ty_Is dc rfl) (Dy 3 rfl (g9 ty_Is rfl (Hz (mS m0) 1 rfl) rfl) (Dyp 4 rfl (k6 rfl) ?_))))))))))))
   obtain ⟨eb25, eo25, ea25, ei25, eh25⟩ := L7.elemI g om
   refine Dyp 5 rfl (w3 us_Is f5 rfl ea25 rfl g rfl om) (Dy 6 rfl (g9 f5 rfl (eh25 _) rfl) ?_)
   obtain ⟨eb27, eo27, ea27, ei27, eh27⟩ := B4.elemI D5[g].toNat om
   refine Dyp 7 rfl (w3 us_Is f5 rfl ea27 rfl D5[g].toNat om om) (Dy 8 rfl (g9 f5 rfl (eh27 _) rfl) (Dyp 9 rfl (k6 rfl) (Dyp 10 rfl (k6 rfl) ?_)))
   obtain ⟨eb31, eo31, ea31, ei31, eh31⟩ := hvalues.elemI g om
   refine Dyp 11 rfl (w3 us_Is f5 rfl ea31 rfl g rfl om) (Dy 12 rfl (g9 f5 rfl (eh31 _) rfl) (Dyp 13 rfl (Y.neq rfl rfl) (n9 (fun q33 => ?_) (fun q33 => ?_))))
   ·refine t6 kr (Et (o0 rfl (Ew Z1 (Ei rfl ?_))))
    exact Eu (E.ret (C9 (s9 (s9 (C9 (s9 (Fb rfl rfl (by grind [C7, a1q, a3G, a3e, G3, d1, d2, t1, t2]))))))))
   ·refine t6 kr (Et (n8 rfl (f9 (s8 (Et (Ez Z3 (Em rfl (Ey rfl ((Y.add rfl rfl om om).yd) (Ei rfl (Eu (d8 (d8 ?_))))))))))))
    exact B0 br (g + 1) rs (.refl _) ⟨by omega, by grind [a1q, a3e, G3, d1, d2, t1, t2]⟩ om
  ·refine Eu (n8 rfl (E.exit (l3 (l3 (y4 (Et (Ew Z1 (Ei rfl ?_))))))))
   exact Eu (E.ret (Fb rfl rfl (by grind [C7, a1q, a3G, a3e, G3, d1, d2, t1, t2])))
theorem a8I {b_m : Nat} {b_a : Nat} {B9 : Int} {E8 : Option Addr} {G2 E7 : Nat} {E5 : List Int} (hv : D5.length ≤ E5.length) (hi : l0 = J0 → ∀ i ∈ D5, 0 ≤ i ∧ i < d9.length) : Tr Tryz.prog 193 [.agg #[.int .i64 l0, .slice y6 B7 y5], .pointer (some ⟨b_m, 0, none⟩), .pointer (some ⟨b_a, 0, none⟩)] (fun w L => (I64 l0 ∧ Ro w L eIs [.slice y6 B7 y5] d9) ∧ RoPt w L b_m [.int .i64 J0, .slice J2 K3 J1, .int .i64 H3, .int .i64 J3, .int .i64 H4] ∧ I64 J0 ∧ Ro w L eIs [.slice J2 K3 J1] D5 ∧ I64 H3 ∧ I64 J3 ∧ I64 H4 ∧ RoPt w L b_a [.int .i64 B9, .slice E8 G2 E7] ∧ I64 B9 ∧ Ro w L eIs [.slice E8 G2 E7] E5) [] (κ := Unit) (fun k => True) (fun k => .bool (!C7 (J0, D5, H3, J3, H4) E5 (l0, d9))) (fun k => []) := by
 refine Tr.intro Tryz.func193 rfl (n := 32) rfl (by decide +kernel) bl (fr := [(0, .agg #[.int .i64 l0, .slice y6 B7 y5]), (1, .pointer (some ⟨b_m, 0, none⟩)), (2, .pointer (some ⟨b_a, 0, none⟩))]) rfl fun w L hR => ?_
 obtain ⟨⟨H5, B4⟩, hb_m, a2w, L7, a0S, a1x, a0T, hb_a, W9, I6⟩ := hR
 obtain ⟨rfl, R4⟩ := B4.slen
 obtain ⟨rfl, a2W⟩ := L7.slen
 obtain ⟨rfl, a0U⟩ := I6.slen
 refine Ew Z2 (Est rfl (N.box (cs := [_, _]) rfl dc rfl) (fun b3 _ => (Ei rfl (Eu (Eq_ (Ew Z5 (Ey rfl ((i8 fo_Fact_0 f5 dc rfl).yd) (Ey rfl (g9 f5 rfl (Hz m0 0 rfl) rfl) (Ey rfl ((i8 fo_Method_0 f5 dc rfl).yd) (Ey rfl (g9 f5 rfl ((hb_m.has).sub (cs' := [_]) 0 rfl) rfl) (Ey rfl ((Y.neq rfl rfl).yd) (n9 (fun q11 => ?_) (fun q11 => ?_)))))))))))))
 ·refine Eu (o0 rfl (Ew Z1 (Ei rfl ?_)))
  exact Eu (E.ret (s9 (Fb rfl rfl (by grind [C7, a1q, a3G, a3e, G3, d1, d2, t1, t2]))))
 ·refine Eu (n8 rfl (f9 (Et (Eq_ (Ew Z4 (Ey rfl ((i8 fo_Method_1 ty_Is dc rfl).yd) (Ey rfl (g9 ty_Is rfl ((hb_m.has).sub (cs' := [_]) 1 rfl) rfl) (Ey rfl ((Y.len us_Is rfl).yd) (Em rfl (Eu (E.block (E.loop (κ := Nat) (fun g => g ≤ D5.length ∧ (D5.zip E5).all (a3e d9) = ((D5.zip E5).drop g).all (a3e d9)) (fun g => [(2, .pointer (some ⟨b_a, 0, none⟩)), (3, .pointer (some ⟨b3, 0, none⟩)), (13, .slice J2 D5.length J1), (14, .int .i64 (↑D5.length : Int)), (15, .int .i64 (g : Int))]) (fun g => [pt b3 91 [.int .i64 l0, .slice y6 d9.length y5]]) (fun g => D5.length - g) 0 ⟨Nat.zero_le _, by simp⟩ ⟨rfl, rfl, rfl, rfl, rfl, trivial⟩ (.refl _) (fun g pg => ?_)))))))))))))
  obtain ⟨pk, pa⟩ := pg
  refine Ew Z1 (Ey rfl ((Y.lss rfl rfl).yd) (n9 (fun q16 => ?_) (fun q16 => ?_)))
  ·have hi1 := hi om D5[g] (List.getElem_mem om)
   refine Eu (Eq_ (o0 rfl (f9 (Et (Eq_ (E.block (Ew Z5 (Em rfl ?_))))))))
   obtain ⟨eb18, eo18, ea18, ei18, eh18⟩ := L7.elemI g om
   refine Ey rfl ((w3 us_Is f5 rfl ea18 rfl g rfl om).yd) (Ey rfl (g9 f5 rfl (eh18 _) rfl) (Ei rfl (Ei rfl (Eu (Eq_ (D.region (fun j => true) mixed (Dyp 0 rfl (i8 fo_Fact_1 ty_Is dc rfl) (Dy 1 rfl (g9 ty_Is rfl (Hz m0 1 rfl) rfl) (Dyp 2 rfl (k6 rfl) ?_)))))))))
   obtain ⟨eb23, eo23, ea23, ei23, eh23⟩ := B4.elemI D5[g].toNat om
   refine Dyp 3 rfl (w3 us_Is f5 rfl ea23 rfl D5[g].toNat om om) (Dy 4 rfl (g9 f5 rfl (eh23 _) rfl) (Dyp 5 rfl (i8 fo_Access_1 ty_Is dc rfl) (Dy 6 rfl (g9 ty_Is rfl ((hb_a.has).sub (cs' := [_]) 1 rfl) rfl) (Dyp 7 rfl (k6 rfl) ?_))))
   obtain ⟨eb28, eo28, ea28, ei28, eh28⟩ := I6.elemI g om
   refine Dyp 8 rfl (w3 us_Is f5 rfl ea28 rfl g rfl om) (Dy 9 rfl (g9 f5 rfl (eh28 _) rfl) (Dyp 10 rfl (Y.neq rfl rfl) (n9 (fun q30 => ?_) (fun q30 => ?_))))
   ·refine t6 kr (Et (o0 rfl (Ew Z1 (Ei rfl ?_))))
    exact Eu (E.ret (C9 (s9 (s9 (C9 (s9 (Fb rfl rfl (by grind [C7, a1q, a3G, a3e, G3, d1, d2, t1, t2]))))))))
   ·refine t6 kr (Et (n8 rfl (f9 (s8 (Et (Ez Z2 (Ey rfl ((Y.add rfl rfl om om).yd) (Em rfl ?_))))))))
    exact Eu (B0 br (g + 1) rs (.refl _) ⟨by omega, by grind [a1q, a3e, G3, d1, d2, t1, t2]⟩ om)
  ·refine Eu (Eq_ (n8 rfl (E.exit (l3 (l3 (y4 (Et (Ew Z1 (Ei rfl ?_)))))))))
   exact Eu (E.ret (Fb rfl rfl (by grind [C7, a1q, a3G, a3e, G3, d1, d2, t1, t2])))
theorem a8R {a_facts : Option Addr} {m_facts c_facts : Nat} {c6 : List (Int × List Int)} (hv : D5.length ≤ j6.length) (hif : ∀ f ∈ c6, f.1 = J0 → ∀ i ∈ D5, 0 ≤ i ∧ i < f.2.length) (hfl : c6.length ≤ 1048576) (hfe : ∀ f ∈ c6, f.2.length ≤ 1048576) : Tr Tryz.prog 164 [.agg #[.int .i64 J0, .slice J2 K3 J1, .int .i64 H3, .int .i64 J3, .int .i64 H4], .slice a_values m_values c_values, .slice a_facts m_facts c_facts] (fun w L => I64 J0 ∧ Ro w L eIs [.slice J2 K3 J1] D5 ∧ I64 H3 ∧ I64 J3 ∧ I64 H4 ∧ Ro w L eIs [.slice a_values m_values c_values] j6 ∧ Ro w L s6 [.slice a_facts m_facts c_facts] c6) [] (κ := Option Addr × Nat × Nat) (fun k => True) (fun k => .slice k.1 k.2.1 k.2.2) (fun k => [ow s6 [.slice k.1 k.2.1 k.2.2] (c6.filter (C7 (J0, D5, H3, J3, H4) j6))]) := by
 refine Tr.intro Tryz.func164 rfl (n := 38) rfl (by decide +kernel) bl (fr := [(0, .agg #[.int .i64 J0, .slice J2 K3 J1, .int .i64 H3, .int .i64 J3, .int .i64 H4]), (1, .slice a_values m_values c_values), (2, .slice a_facts m_facts c_facts)]) rfl fun w L hR => ?_
 obtain ⟨a2w, L7, a0S, a1x, a0T, hvalues, hfacts⟩ := hR
 obtain ⟨rfl, a2W⟩ := L7.slen
 obtain ⟨rfl, lvalues⟩ := hvalues.slen
 obtain ⟨rfl, lfacts⟩ := hfacts.slen
 refine Ew Z2 (Est rfl (N.box (cs := [_, _, _, _, _]) rfl dc rfl) (fun b3 _ => (Ei rfl (Ev Z2 (Est rfl (Nb [] [] us_Facts ty_Fact rfl rfl) (fun b9 _ => (Ent.drop (Ei rfl (Eu (Eq_ (Ew Z1 (Ei rfl (Eu (E.block (s7 (A := []) (Own.nil (E := F6) (e := tFact) (a := (some ⟨b9, 0, none⟩))) rfl (f6 (congrArg (ow s6 [_]) (show [] = (c6.take 0).filter (C7 (J0, D5, H3, J3, H4) j6) from by first | rfl | (simp; done) | grind [d1, d2, t1, t2])) (E.loop (κ := Nat × Option Addr × Nat × Nat) (fun g => g.1 ≤ c6.length ∧ True) (fun g => [(1, .slice a_values j6.length c_values), (2, .slice a_facts c6.length c_facts), (3, .pointer (some ⟨b3, 0, none⟩)), (7, .slice g.2.1 g.2.2.1 g.2.2.2), (8, .int .i64 (↑g.1 : Int))]) (fun g => [ow s6 [.slice g.2.1 g.2.2.1 g.2.2.2] ((c6.take g.1).filter (C7 (J0, D5, H3, J3, H4) j6)), pt b3 86 [.int .i64 J0, .slice J2 D5.length J1, .int .i64 H3, .int .i64 J3, .int .i64 H4]]) (fun g => c6.length - g.1) (0, (some ⟨b9, 0, none⟩), 0, 0) ⟨Nat.zero_le _, by simp⟩ ⟨rfl, rfl, rfl, rfl, rfl, trivial⟩ (.refl _) (fun g pg => ?_))))))))))))))))))
 obtain ⟨g, aA0_0, mA0_0, cA0_0⟩ := g
 try dsimp only at pg
 try dsimp only
 obtain ⟨pk, pa⟩ := pg
 have jf := List.length_filter_le (C7 (J0, D5, H3, J3, H4) j6) (c6.take g)
 have jt := List.length_take_le g c6
 refine d6 m0 fun eaA0_0 laA0_0 => ?_
 subst eaA0_0
 refine Eq_ (Ew Z4 (Em rfl (Em rfl (Ey rfl ((Y.len us_Facts rfl).yd) (Ey rfl ((Y.lss rfl rfl).yd) (n9 (fun q13 => ?_) (fun q13 => ?_)))))))
 ·refine Eu (o0 rfl (f9 (Et (Eq_ (E.block (Eq_ (D.region (fun j => true) mixed (Dy 0 rfl (r9 (cs := [_, _, _, _, _]) ty_Method rfl (Has.pt (mS m0)) rfl) (Dyp 1 rfl (k6 rfl) (Dyp 2 rfl (k6 rfl) (Dyp 3 rfl (k6 rfl) ?_)))))))))))
  obtain ⟨eb20, eo20, ec20, ea20, er20, el20, eh20⟩ := hfacts.elem g om
  obtain ⟨xa20_0, xc20_0, rfl, ei20_0, xh20_0⟩ := R0 er20
  have := xh20_0.slen.2
  refine Dyp 4 rfl (w3 us_Facts ty_Fact rfl ea20 rfl g rfl om) (Dy 5 rfl (r9 (cs := [_, _]) ty_Fact rfl (eh20 _) rfl) (u7 6 rfl rfl kr (fun _ => rfl) (o4 (b1V hv (hif _ (List.getElem_mem om))) rfl rfl rfl dc (fun w Lp hA => ⟨a2w, hA.ro L7, a0S, a1x, a0T, hA.ro hvalues, ei20_0, hA.ro xh20_0⟩)) (fun _ _ => (Ent.b (fun q22 => ?_) (fun q22 => ?_)))))
  ·refine t6 kr (Et (o0 rfl (D.region (fun j => !(Nat.beq j 13)) mixed (Dyp 0 rfl (k6 rfl) (Dyp 1 rfl (k6 rfl) (Dyp 2 rfl (k6 rfl) (Dyp 3 rfl (w3 us_Facts ty_Fact rfl ea20 rfl g rfl om) (Dyp 4 rfl (i8 fo_Fact_0 f5 dc rfl) (Dy 5 rfl (g9 f5 rfl ((eh20 _).sub (cs' := [_]) 0 rfl) rfl) (Dyp 6 rfl (k6 rfl) (Dyp 7 rfl (k6 rfl) (Dyp 8 rfl (w3 us_Facts ty_Fact rfl ea20 rfl g rfl om) (Dyp 9 rfl (i8 fo_Fact_1 ty_Is dc rfl) (Dy 10 rfl (g9 ty_Is rfl ((eh20 _).sub (cs' := [_]) 1 rfl) rfl) (u7 11 rfl rfl kr (fun _ => rfl) (N.call (R1 (hfe _ (List.getElem_mem om))) rfl rfl rfl dc rfl (fun w Lp hA => ⟨ei20_0, hA.ro xh20_0⟩)) (fun k34 _ => ?_))))))))))))))))
   obtain ⟨a34, m34, c34⟩ := k34
   refine d6 m0 fun e34 l34 => ?_
   subst e34
   refine u7 12 rfl rfl kr (fun _ => rfl) (Nb [_] [_, _] us_Facts ty_Fact rfl rfl) (fun b35 _ => (d8 (d8 (j7 (u7 13 rfl rfl kr (fun h => by cases h) (B2 (E := F6) (ex := c6[g]) us_Facts ty_Fact rfl rfl rfl (M8 (x := c6[g]) ei20_0 Own.ow) rfl bn bn dc) (fun p36 _ => (Dyp 14 rfl (F1 rfl) (t6 kr (s8 (Et (Ez Z3 (Em rfl (Ey rfl ((Y.add rfl rfl om om).yd) (Ei rfl (Eu (f6 (congrArg (ow s6 [_]) (show ((c6.take g).filter (C7 (J0, D5, H3, J3, H4) j6)) ++ [c6[g]] = (c6.take (g + 1)).filter (C7 (J0, D5, H3, J3, H4) j6) from by grind [d1, d2, t1, t2])) (d8 (d8 ?_))))))))))))))))))
   exact Ea (g + 1, p36.1, (((c6.take g).filter (C7 (J0, D5, H3, J3, H4) j6)).length + 1), p36.2) ⟨oz, trivial⟩
  ·refine t6 kr (Et (n8 rfl (f9 (s8 (Et (Ez Z3 (Em rfl (Ey rfl ((Y.add rfl rfl om om).yd) (Ei rfl (Eu (f6 (congrArg (ow s6 [_]) (show (c6.take g).filter (C7 (J0, D5, H3, J3, H4) j6) = (c6.take (g + 1)).filter (C7 (J0, D5, H3, J3, H4) j6) from by grind [d1, d2, t1, t2])) (d8 (d8 ?_)))))))))))))
   exact Ea (g + 1, aA0_0, ((c6.take g).filter (C7 (J0, D5, H3, J3, H4) j6)).length, cA0_0) ⟨oz, trivial⟩
 ·refine Eu (n8 rfl (E.exit (l3 (l3 (y4 (Et (Ew Z2 (Em rfl (Ei rfl (Eu (E.ret (f6 (congrArg (ow s6 [_]) (show _ = c6.filter (C7 (J0, D5, H3, J3, H4) j6) by grind [d1, d2, t1, t2])) ?_))))))))))))
  exact Fg rfl rfl (_, _, _) rfl rfl
end Go.Proofs.YtlfhopooaejpfaaGreat
