import Derived.Test.YtdopeopehgdccaaGreatBs
import Derived.Test.YtdopeopehgdccaaGreatT13
import Derived.Test.YtdopeopehgdccaaGreatT10
import Derived.Test.YtdopeopehgdccaaGreatDx
namespace Go.Proofs.YtdopeopehgdccaaGreat
open Go.RowKit
set_option linter.all false
set_option maxHeartbeats 2000000
attribute [local irreducible] Nop Yd Yp Ent Has Tr FnP FnP2 Src M5 V6 Y1 a0b D2
variable {x9 u8 x7 u9 j7 : Int} {l2 D8 f6 : List Int} {y6 w4 m_values c_values u6 r7 : Nat} {w5 a_values r8 : Option Addr}
theorem a6E (hv : l2.length ≤ D8.length) (hi : j7 = x9 → ∀ i ∈ l2, 0 ≤ i ∧ i < f6.length) : Tr Tryz.prog 201 [.agg #[.int .i64 x9, .slice w5 y6 w4, .int .i64 u8, .int .i64 x7, .int .i64 u9], .slice a_values m_values c_values, .agg #[.int .i64 j7, .slice r8 u6 r7]] (fun w L => I64 x9 ∧ Ro w L eIs [.slice w5 y6 w4] l2 ∧ I64 u8 ∧ I64 x7 ∧ I64 u9 ∧ Ro w L eIs [.slice a_values m_values c_values] D8 ∧ I64 j7 ∧ Ro w L eIs [.slice r8 u6 r7] f6) [] (κ := Unit) (fun k => True) (fun k => .bool (z6 (x9, l2, u8, x7, u9) D8 (j7, f6))) (fun k => []) := by
 refine Tr.intro Tryz.func201 rfl (n := 34) rfl (by decide +kernel) bl (fr := [(0, .agg #[.int .i64 x9, .slice w5 y6 w4, .int .i64 u8, .int .i64 x7, .int .i64 u9]), (1, .slice a_values m_values c_values), (2, .agg #[.int .i64 j7, .slice r8 u6 r7])]) rfl fun w L hR => ?_
 obtain ⟨U5, B4, N7, R1, N8, hvalues, C9, s4⟩ := hR
 obtain ⟨rfl, U7⟩ := B4.slen
 obtain ⟨rfl, lvalues⟩ := hvalues.slen
 obtain ⟨rfl, N9⟩ := s4.slen
 refine Ew Z3 (Est rfl (N.box (cs := [_, _, _, _, _]) rfl dc rfl) (fun b3 _ => (Est rfl (N.box (cs := [_, _]) rfl dc rfl) (fun b5 _ => (Eas rfl rfl (Eu (Eq_ (Ew Z5 (Ey rfl ((Y.fld fo_Fact_0 f8 dc rfl).yd) (Ey rfl (Y.ld1 f8 rfl ((Has.pt m0).sub (cs' := [_]) 0 rfl) rfl) (Ey rfl ((Y.fld fo_Method_0 f8 dc rfl).yd) (Ey rfl (Y.ld1 f8 rfl ((Has.pt (mS m0)).sub (cs' := [_]) 0 rfl) rfl) (Ey rfl ((Y.neq rfl rfl).yd) (Ent.d (fun q12 => ?_) (fun q12 => ?_)))))))))))))))
 ·refine Eu (E.ct rfl (Ew Z1 (Eas rfl rfl ?_)))
  exact Eu (E.ret (E.thr (Fb rfl rfl (by grind [z6, W6, a0U, a0T, z7, d1, d2, t1, t2]))))
 ·refine Eu (E.cf rfl (E.skipc (Et (Eq_ (Ew Z1 (Eas rfl rfl (Eu (E.block (E.loop (κ := Nat) (fun g => g ≤ l2.length ∧ (l2.zip D8).all (a0T f6) = ((l2.zip D8).drop g).all (a0T f6)) (fun g => [(1, .slice a_values D8.length c_values), (3, .pointer (some ⟨b3, 0, none⟩)), (5, .pointer (some ⟨b5, 0, none⟩)), (7, .int .i64 (g : Int))]) (fun g => [pt b5 115 [.int .i64 j7, .slice r8 f6.length r7], pt b3 113 [.int .i64 x9, .slice w5 l2.length w4, .int .i64 u8, .int .i64 x7, .int .i64 u9]]) (fun g => l2.length - g) 0 ⟨Nat.zero_le _, by simp⟩ ⟨rfl, rfl, rfl, rfl, trivial⟩ (.refl _) (fun g pg => ?_))))))))))
  obtain ⟨pk, pa⟩ := pg
  refine Eq_ (Ew Z5 (Emv rfl rfl (Ey rfl ((Y.fld fo_Method_1 ty_Is dc rfl).yd) (Ey rfl (Y.ld1 ty_Is rfl ((Has.pt (mS m0)).sub (cs' := [_]) 1 rfl) rfl) (Ey rfl ((Y.len us_Is rfl).yd) (Ey rfl ((Y.lss rfl rfl).yd) (Ent.d (fun q17 => ?_) (fun q17 => ?_))))))))
  ·have hi1 := hi om l2[g] (List.getElem_mem om)
   refine Eu (E.ct rfl (E.skipc (Et (Eq_ (E.block (Eq_ (D.region (fun j => true) mixed (Dyp 0 rfl (Y.fld fo_Fact_1 ty_Is dc rfl) (Dy 1 rfl (Y.ld1 ty_Is rfl ((Has.pt m0).sub (cs' := [_]) 1 rfl) rfl) (Dyp 2 rfl (Y.fld fo_Method_1 ty_Is dc rfl) (Dy 3 rfl (Y.ld1 ty_Is rfl ((Has.pt (mS m0)).sub (cs' := [_]) 1 rfl) rfl) (Dyp 4 rfl (Y.mv rfl) ?_))))))))))))
   obtain ⟨eb25, eo25, ea25, ei25, eh25⟩ := B4.elemI g om
   refine Dyp 5 rfl (Y.ix us_Is f8 rfl ea25 rfl g rfl om) (Dy 6 rfl (Y.ld1 f8 rfl (eh25 _) rfl) ?_)
   obtain ⟨eb27, eo27, ea27, ei27, eh27⟩ := s4.elemI l2[g].toNat om
   refine Dyp 7 rfl (Y.ix us_Is f8 rfl ea27 rfl l2[g].toNat om om) (Dy 8 rfl (Y.ld1 f8 rfl (eh27 _) rfl) (Dyp 9 rfl (Y.mv rfl) (Dyp 10 rfl (Y.mv rfl) ?_)))
   obtain ⟨eb31, eo31, ea31, ei31, eh31⟩ := hvalues.elemI g om
   refine Dyp 11 rfl (Y.ix us_Is f8 rfl ea31 rfl g rfl om) (Dy 12 rfl (Y.ld1 f8 rfl (eh31 _) rfl) (Dyp 13 rfl (Y.neq rfl rfl) (Ent.d (fun q33 => ?_) (fun q33 => ?_))))
   ·refine D.done kr (Et (E.ct rfl (Ew Z1 (Eas rfl rfl ?_))))
    exact Eu (E.ret (E.blr (E.thr (E.thr (E.blr (E.thr (Fb rfl rfl (by grind [z6, W6, a0U, a0T, z7, d1, d2, t1, t2]))))))))
   ·refine D.done kr (Et (E.cf rfl (E.skipc (E.bln (Et (Ez Z3 (Emv rfl rfl (Ey rfl ((Y.add rfl rfl om om).yd) (Eas rfl rfl (Eu (Ent.p1 (Ent.p1 ?_))))))))))))
    exact E.again br (g + 1) rs (.refl _) ⟨by omega, by grind [W6, a0T, z7, d1, d2, t1, t2]⟩ om
  ·refine Eu (E.cf rfl (E.exit (E.the (E.the (E.blh (Et (Ew Z1 (Eas rfl rfl ?_))))))))
   exact Eu (E.ret (Fb rfl rfl (by grind [z6, W6, a0U, a0T, z7, d1, d2, t1, t2])))
theorem a3V {b_m : Nat} {b_a : Nat} {g9 : Int} {n9 : Option Addr} {o5 n8 : Nat} {j3 : List Int} (hv : l2.length ≤ j3.length) (hi : j7 = x9 → ∀ i ∈ l2, 0 ≤ i ∧ i < f6.length) : Tr Tryz.prog 207 [.agg #[.int .i64 j7, .slice r8 u6 r7], .pointer (some ⟨b_m, 0, none⟩), .pointer (some ⟨b_a, 0, none⟩)] (fun w L => (I64 j7 ∧ Ro w L eIs [.slice r8 u6 r7] f6) ∧ RoPt w L b_m [.int .i64 x9, .slice w5 y6 w4, .int .i64 u8, .int .i64 x7, .int .i64 u9] ∧ I64 x9 ∧ Ro w L eIs [.slice w5 y6 w4] l2 ∧ I64 u8 ∧ I64 x7 ∧ I64 u9 ∧ RoPt w L b_a [.int .i64 g9, .slice n9 o5 n8] ∧ I64 g9 ∧ Ro w L eIs [.slice n9 o5 n8] j3) [] (κ := Unit) (fun k => True) (fun k => .bool (!z6 (x9, l2, u8, x7, u9) j3 (j7, f6))) (fun k => []) := by
 refine Tr.intro Tryz.func207 rfl (n := 32) rfl (by decide +kernel) bl (fr := [(0, .agg #[.int .i64 j7, .slice r8 u6 r7]), (1, .pointer (some ⟨b_m, 0, none⟩)), (2, .pointer (some ⟨b_a, 0, none⟩))]) rfl fun w L hR => ?_
 obtain ⟨⟨C9, s4⟩, hb_m, U5, B4, N7, R1, N8, hb_a, D5, s3⟩ := hR
 obtain ⟨rfl, N9⟩ := s4.slen
 obtain ⟨rfl, U7⟩ := B4.slen
 obtain ⟨rfl, G6⟩ := s3.slen
 refine Ew Z2 (Est rfl (N.box (cs := [_, _]) rfl dc rfl) (fun b3 _ => (Eas rfl rfl (Eu (Eq_ (Ew Z5 (Ey rfl ((Y.fld fo_Fact_0 f8 dc rfl).yd) (Ey rfl (Y.ld1 f8 rfl ((Has.pt m0).sub (cs' := [_]) 0 rfl) rfl) (Ey rfl ((Y.fld fo_Method_0 f8 dc rfl).yd) (Ey rfl (Y.ld1 f8 rfl ((hb_m.has).sub (cs' := [_]) 0 rfl) rfl) (Ey rfl ((Y.neq rfl rfl).yd) (Ent.d (fun q11 => ?_) (fun q11 => ?_)))))))))))))
 ·refine Eu (E.ct rfl (Ew Z1 (Eas rfl rfl ?_)))
  exact Eu (E.ret (E.thr (Fb rfl rfl (by grind [z6, W6, a0U, a0T, z7, d1, d2, t1, t2]))))
 ·refine Eu (E.cf rfl (E.skipc (Et (Eq_ (Ew Z4 (Ey rfl ((Y.fld fo_Method_1 ty_Is dc rfl).yd) (Ey rfl (Y.ld1 ty_Is rfl ((hb_m.has).sub (cs' := [_]) 1 rfl) rfl) (Ey rfl ((Y.len us_Is rfl).yd) (Emv rfl rfl (Eu (E.block (E.loop (κ := Nat) (fun g => g ≤ l2.length ∧ (l2.zip j3).all (a0T f6) = ((l2.zip j3).drop g).all (a0T f6)) (fun g => [(2, .pointer (some ⟨b_a, 0, none⟩)), (3, .pointer (some ⟨b3, 0, none⟩)), (13, .slice w5 l2.length w4), (14, .int .i64 (↑l2.length : Int)), (15, .int .i64 (g : Int))]) (fun g => [pt b3 115 [.int .i64 j7, .slice r8 f6.length r7]]) (fun g => l2.length - g) 0 ⟨Nat.zero_le _, by simp⟩ ⟨rfl, rfl, rfl, rfl, rfl, trivial⟩ (.refl _) (fun g pg => ?_)))))))))))))
  obtain ⟨pk, pa⟩ := pg
  refine Ew Z1 (Ey rfl ((Y.lss rfl rfl).yd) (Ent.d (fun q16 => ?_) (fun q16 => ?_)))
  ·have hi1 := hi om l2[g] (List.getElem_mem om)
   refine Eu (Eq_ (E.ct rfl (E.skipc (Et (Eq_ (E.block (Ew Z5 (Emv rfl rfl ?_))))))))
   obtain ⟨eb18, eo18, ea18, ei18, eh18⟩ := B4.elemI g om
   refine Ey rfl ((Y.ix us_Is f8 rfl ea18 rfl g rfl om).yd) (Ey rfl (Y.ld1 f8 rfl (eh18 _) rfl) (Eas rfl rfl (Eas rfl rfl (Eu (Eq_ (D.region (fun j => true) mixed (Dyp 0 rfl (Y.fld fo_Fact_1 ty_Is dc rfl) (Dy 1 rfl (Y.ld1 ty_Is rfl ((Has.pt m0).sub (cs' := [_]) 1 rfl) rfl) (Dyp 2 rfl (Y.mv rfl) ?_)))))))))
   obtain ⟨eb23, eo23, ea23, ei23, eh23⟩ := s4.elemI l2[g].toNat om
   refine Dyp 3 rfl (Y.ix us_Is f8 rfl ea23 rfl l2[g].toNat om om) (Dy 4 rfl (Y.ld1 f8 rfl (eh23 _) rfl) (Dyp 5 rfl (Y.fld fo_Access_1 ty_Is dc rfl) (Dy 6 rfl (Y.ld1 ty_Is rfl ((hb_a.has).sub (cs' := [_]) 1 rfl) rfl) (Dyp 7 rfl (Y.mv rfl) ?_))))
   obtain ⟨eb28, eo28, ea28, ei28, eh28⟩ := s3.elemI g om
   refine Dyp 8 rfl (Y.ix us_Is f8 rfl ea28 rfl g rfl om) (Dy 9 rfl (Y.ld1 f8 rfl (eh28 _) rfl) (Dyp 10 rfl (Y.neq rfl rfl) (Ent.d (fun q30 => ?_) (fun q30 => ?_))))
   ·refine D.done kr (Et (E.ct rfl (Ew Z1 (Eas rfl rfl ?_))))
    exact Eu (E.ret (E.blr (E.thr (E.thr (E.blr (E.thr (Fb rfl rfl (by grind [z6, W6, a0U, a0T, z7, d1, d2, t1, t2]))))))))
   ·refine D.done kr (Et (E.cf rfl (E.skipc (E.bln (Et (Ez Z2 (Ey rfl ((Y.add rfl rfl om om).yd) (Emv rfl rfl ?_))))))))
    exact Eu (E.again br (g + 1) rs (.refl _) ⟨by omega, by grind [W6, a0T, z7, d1, d2, t1, t2]⟩ om)
  ·refine Eu (Eq_ (E.cf rfl (E.exit (E.the (E.the (E.blh (Et (Ew Z1 (Eas rfl rfl ?_)))))))))
   exact Eu (E.ret (Fb rfl rfl (by grind [z6, W6, a0U, a0T, z7, d1, d2, t1, t2])))
theorem a4g {a_facts : Option Addr} {m_facts c_facts : Nat} {d8 : List (Int × List Int)} (hv : l2.length ≤ D8.length) (hif : ∀ f ∈ d8, f.1 = x9 → ∀ i ∈ l2, 0 ≤ i ∧ i < f.2.length) (hfl : d8.length ≤ 1048576) (hfe : ∀ f ∈ d8, f.2.length ≤ 1048576) : Tr Tryz.prog 116 [.agg #[.int .i64 x9, .slice w5 y6 w4, .int .i64 u8, .int .i64 x7, .int .i64 u9], .slice a_values m_values c_values, .slice a_facts m_facts c_facts] (fun w L => I64 x9 ∧ Ro w L eIs [.slice w5 y6 w4] l2 ∧ I64 u8 ∧ I64 x7 ∧ I64 u9 ∧ Ro w L eIs [.slice a_values m_values c_values] D8 ∧ Ro w L j9 [.slice a_facts m_facts c_facts] d8) [] (κ := Option Addr × Nat × Nat) (fun k => True) (fun k => .slice k.1 k.2.1 k.2.2) (fun k => [ow j9 [.slice k.1 k.2.1 k.2.2] (d8.filter (z6 (x9, l2, u8, x7, u9) D8))]) := by
 refine Tr.intro Tryz.func116 rfl (n := 38) rfl (by decide +kernel) bl (fr := [(0, .agg #[.int .i64 x9, .slice w5 y6 w4, .int .i64 u8, .int .i64 x7, .int .i64 u9]), (1, .slice a_values m_values c_values), (2, .slice a_facts m_facts c_facts)]) rfl fun w L hR => ?_
 obtain ⟨U5, B4, N7, R1, N8, hvalues, hfacts⟩ := hR
 obtain ⟨rfl, U7⟩ := B4.slen
 obtain ⟨rfl, lvalues⟩ := hvalues.slen
 obtain ⟨rfl, lfacts⟩ := hfacts.slen
 refine Ew Z2 (Est rfl (N.box (cs := [_, _, _, _, _]) rfl dc rfl) (fun b3 _ => (Eas rfl rfl (Ev Z2 (Est rfl (N.bsl (pvs := []) (cs := []) us_Facts ty_Fact rfl dc dc (o8 rfl rfl) rfl dc) (fun b9 _ => (Ent.drop (Eas rfl rfl (Eu (Eq_ (Ew Z1 (Eas rfl rfl (Eu (E.block (Ent.mkow (A := []) (Own.nil (E := B2) (e := tFact) (a := (some ⟨b9, 0, none⟩))) rfl (Ent.cv (congrArg (ow j9 [_]) (show [] = (d8.take 0).filter (z6 (x9, l2, u8, x7, u9) D8) from by first | rfl | (simp; done) | grind [d1, d2, t1, t2])) (E.loop (κ := Nat × Option Addr × Nat × Nat) (fun g => g.1 ≤ d8.length ∧ True) (fun g => [(1, .slice a_values D8.length c_values), (2, .slice a_facts d8.length c_facts), (3, .pointer (some ⟨b3, 0, none⟩)), (7, .slice g.2.1 g.2.2.1 g.2.2.2), (8, .int .i64 (↑g.1 : Int))]) (fun g => [ow j9 [.slice g.2.1 g.2.2.1 g.2.2.2] ((d8.take g.1).filter (z6 (x9, l2, u8, x7, u9) D8)), pt b3 113 [.int .i64 x9, .slice w5 l2.length w4, .int .i64 u8, .int .i64 x7, .int .i64 u9]]) (fun g => d8.length - g.1) (0, (some ⟨b9, 0, none⟩), 0, 0) ⟨Nat.zero_le _, by simp⟩ ⟨rfl, rfl, rfl, rfl, rfl, trivial⟩ (.refl _) (fun g pg => ?_))))))))))))))))))
 obtain ⟨g, aA0_0, mA0_0, cA0_0⟩ := g
 try dsimp only at pg
 try dsimp only
 obtain ⟨pk, pa⟩ := pg
 have jf := List.length_filter_le (z6 (x9, l2, u8, x7, u9) D8) (d8.take g)
 have jt := List.length_take_le g d8
 refine Ent.lenow m0 fun eaA0_0 laA0_0 => ?_
 subst eaA0_0
 refine Eq_ (Ew Z4 (Emv rfl rfl (Emv rfl rfl (Ey rfl ((Y.len us_Facts rfl).yd) (Ey rfl ((Y.lss rfl rfl).yd) (Ent.d (fun q13 => ?_) (fun q13 => ?_)))))))
 ·refine Eu (E.ct rfl (E.skipc (Et (Eq_ (E.block (Eq_ (D.region (fun j => true) mixed (Dy 0 rfl (Y.ldS (cs := [_, _, _, _, _]) ty_Method rfl (Has.pt (mS m0)) rfl) (Dyp 1 rfl (Y.mv rfl) (Dyp 2 rfl (Y.mv rfl) (Dyp 3 rfl (Y.mv rfl) ?_)))))))))))
  obtain ⟨eb20, eo20, ec20, ea20, er20, el20, eh20⟩ := hfacts.elem g om
  obtain ⟨xa20_0, xc20_0, rfl, ei20_0, xh20_0⟩ := Ro.pFact er20
  have := xh20_0.slen.2
  refine Dyp 4 rfl (Y.ix us_Facts ty_Fact rfl ea20 rfl g rfl om) (Dy 5 rfl (Y.ldS (cs := [_, _]) ty_Fact rfl (eh20 _) rfl) (D.st 6 rfl rfl kr (fun _ => rfl) (N.call0 (a6E hv (hif _ (List.getElem_mem om))) rfl rfl rfl dc (fun w Lp hA => ⟨U5, hA.ro B4, N7, R1, N8, hA.ro hvalues, ei20_0, hA.ro xh20_0⟩)) (fun _ _ => (Ent.b (fun q22 => ?_) (fun q22 => ?_)))))
  ·refine D.done kr (Et (E.ct rfl (D.region (fun j => !(Nat.beq j 13)) mixed (Dyp 0 rfl (Y.mv rfl) (Dyp 1 rfl (Y.mv rfl) (Dyp 2 rfl (Y.mv rfl) (Dyp 3 rfl (Y.ix us_Facts ty_Fact rfl ea20 rfl g rfl om) (Dyp 4 rfl (Y.fld fo_Fact_0 f8 dc rfl) (Dy 5 rfl (Y.ld1 f8 rfl ((eh20 _).sub (cs' := [_]) 0 rfl) rfl) (Dyp 6 rfl (Y.mv rfl) (Dyp 7 rfl (Y.mv rfl) (Dyp 8 rfl (Y.ix us_Facts ty_Fact rfl ea20 rfl g rfl om) (Dyp 9 rfl (Y.fld fo_Fact_1 ty_Is dc rfl) (Dy 10 rfl (Y.ld1 ty_Is rfl ((eh20 _).sub (cs' := [_]) 1 rfl) rfl) (D.st 11 rfl rfl kr (fun _ => rfl) (N.call (I1 (hfe _ (List.getElem_mem om))) rfl rfl rfl dc rfl (fun w Lp hA => ⟨ei20_0, hA.ro xh20_0⟩)) (fun k34 _ => ?_))))))))))))))))
   obtain ⟨a34, m34, c34⟩ := k34
   refine Ent.lenow m0 fun e34 l34 => ?_
   subst e34
   refine D.st 12 rfl rfl kr (fun _ => rfl) (N.bsl (pvs := [_]) (cs := [_, _]) us_Facts ty_Fact rfl dc dc (o8 rfl rfl) rfl dc) (fun b35 _ => (Ent.p1 (Ent.p1 (Ent.p2 (D.st 13 rfl rfl kr (fun h => by cases h) (N.push (E := B2) (ex := d8[g]) us_Facts ty_Fact rfl rfl rfl (Own.mkFact (x := d8[g]) ei20_0 Own.ow) rfl bn bn dc) (fun p36 _ => (Dyp 14 rfl (Y.as rfl) (D.done kr (E.bln (Et (Ez Z3 (Emv rfl rfl (Ey rfl ((Y.add rfl rfl om om).yd) (Eas rfl rfl (Eu (Ent.cv (congrArg (ow j9 [_]) (show ((d8.take g).filter (z6 (x9, l2, u8, x7, u9) D8)) ++ [d8[g]] = (d8.take (g + 1)).filter (z6 (x9, l2, u8, x7, u9) D8) from by grind [d1, d2, t1, t2])) (Ent.p1 (Ent.p1 ?_))))))))))))))))))
   exact Ea (g + 1, p36.1, (((d8.take g).filter (z6 (x9, l2, u8, x7, u9) D8)).length + 1), p36.2) ⟨oz, trivial⟩
  ·refine D.done kr (Et (E.cf rfl (E.skipc (E.bln (Et (Ez Z3 (Emv rfl rfl (Ey rfl ((Y.add rfl rfl om om).yd) (Eas rfl rfl (Eu (Ent.cv (congrArg (ow j9 [_]) (show (d8.take g).filter (z6 (x9, l2, u8, x7, u9) D8) = (d8.take (g + 1)).filter (z6 (x9, l2, u8, x7, u9) D8) from by grind [d1, d2, t1, t2])) (Ent.p1 (Ent.p1 ?_)))))))))))))
   exact Ea (g + 1, aA0_0, ((d8.take g).filter (z6 (x9, l2, u8, x7, u9) D8)).length, cA0_0) ⟨oz, trivial⟩
 ·refine Eu (E.cf rfl (E.exit (E.the (E.the (E.blh (Et (Ew Z2 (Emv rfl rfl (Eas rfl rfl (Eu (E.ret (Ent.cv (congrArg (ow j9 [_]) (show _ = d8.filter (z6 (x9, l2, u8, x7, u9) D8) by grind [d1, d2, t1, t2])) ?_))))))))))))
  exact Fg rfl rfl (_, _, _) rfl rfl
end Go.Proofs.YtdopeopehgdccaaGreat
