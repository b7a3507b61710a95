import Derived.Test.YtlfhopooaejpfaaGreatT13
import Derived.Test.YtlfhopooaejpfaaGreatT10
import Derived.Test.YtlfhopooaejpfaaGreatDz
namespace Go.Proofs.YtlfhopooaejpfaaGreat
open Go.RowKit
set_option linter.all false
set_option maxHeartbeats 2000000
attribute [local irreducible] Nop Yd Yp Ent Has Tr FnP FnP2 Src M0 S8 V1 W0 G4
variable {D8 C1 D7 C2 l3 : Int} {s8 I4 f6 : List Int} {E3 D2 m_values c_values B8 x6 : Nat} {D3 a_values y4 : Option Addr}
theorem a8P (hv : s8.length ≤ I4.length) (hi : l3 = D8 → ∀ i ∈ s8, 0 ≤ i ∧ i < f6.length) : Tr Tryz.prog 220 [.agg #[.int .i64 D8, .slice D3 E3 D2, .int .i64 C1, .int .i64 D7, .int .i64 C2], .slice a_values m_values c_values, .agg #[.int .i64 l3, .slice y4 B8 x6]] (fun w L => I64 D8 ∧ Ro w L eIs [.slice D3 E3 D2] s8 ∧ I64 C1 ∧ I64 D7 ∧ I64 C2 ∧ Ro w L eIs [.slice a_values m_values c_values] I4 ∧ I64 l3 ∧ Ro w L eIs [.slice y4 B8 x6] f6) [] (κ := Unit) (fun k => True) (fun k => .bool (E4 (D8, s8, C1, D7, C2) I4 (l3, f6))) (fun k => []) := by
 refine Tr.intro Tryz.func220 rfl (n := 34) rfl (by decide +kernel) bl (fr := [(0, .agg #[.int .i64 D8, .slice D3 E3 D2, .int .i64 C1, .int .i64 D7, .int .i64 C2]), (1, .slice a_values m_values c_values), (2, .agg #[.int .i64 l3, .slice y4 B8 x6])]) rfl fun w L hR => ?_
 obtain ⟨X3, F6, R9, V0, S0, hvalues, H7, y9⟩ := hR
 obtain ⟨rfl, X8⟩ := F6.slen
 obtain ⟨rfl, lvalues⟩ := hvalues.slen
 obtain ⟨rfl, S1⟩ := y9.slen
 refine Ew Z3 (Est rfl (N.box (cs := [_, _, _, _, _]) rfl dc rfl) (fun b3 _ => (Est rfl (N.box (cs := [_, _]) rfl dc rfl) (fun b5 _ => (Ei rfl (Eu (Eq_ (Ew Z5 (Ey rfl ((i7 fo_Fact_0 f0 dc rfl).yd) (Ey rfl (f8 f0 rfl (Hz m0 0 rfl) rfl) (Ey rfl ((i7 fo_Method_0 f0 dc rfl).yd) (Ey rfl (f8 f0 rfl (Hz (mS m0) 0 rfl) rfl) (Ey rfl ((Y.neq rfl rfl).yd) (n0 (fun q12 => ?_) (fun q12 => ?_)))))))))))))))
 ·refine Eu (l4 rfl (Ew Z1 (Ei rfl ?_)))
  exact Eu (E.ret (l0 (Fb rfl rfl (by grind [E4, a0h, a1L, a1p, E6, d1, d2, t1, t2]))))
 ·refine Eu (l6 rfl (i8 (Et (Eq_ (Ew Z1 (Ei rfl (Eu (E.block (E.loop (κ := Nat) (fun g => g ≤ s8.length ∧ (s8.zip I4).all (a1p f6) = ((s8.zip I4).drop g).all (a1p f6)) (fun g => [(1, .slice a_values I4.length c_values), (3, .pointer (some ⟨b3, 0, none⟩)), (5, .pointer (some ⟨b5, 0, none⟩)), (7, .int .i64 (g : Int))]) (fun g => [pt b5 91 [.int .i64 l3, .slice y4 f6.length x6], pt b3 86 [.int .i64 D8, .slice D3 s8.length D2, .int .i64 C1, .int .i64 D7, .int .i64 C2]]) (fun g => s8.length - g) 0 ⟨Nat.zero_le _, by simp⟩ ⟨rfl, rfl, rfl, rfl, trivial⟩ (.refl _) (fun g pg => ?_))))))))))
  obtain ⟨pk, pa⟩ := pg
  refine Eq_ (Ew Z5 (Em rfl (Ey rfl ((i7 fo_Method_1 ty_Is dc rfl).yd) (Ey rfl (f8 ty_Is rfl (Hz (mS m0) 1 rfl) rfl) (Ey rfl ((Y.len us_Is rfl).yd) (Ey rfl ((Y.lss rfl rfl).yd) (n0 (fun q17 => ?_) (fun q17 => ?_))))))))
  ·have hi1 := hi om s8[g] (List.getElem_mem om)
   refine Eu (l4 rfl (i8 (Et (Eq_ (E.block (Eq_ (D.region (fun j => true) mixed (Dyp 0 rfl (i7 fo_Fact_1 ty_Is dc rfl) (Dy 1 rfl (f8 ty_Is rfl (Hz m0 1 rfl) rfl) (Dyp 2 rfl (i7 fo_Method_1 ty_Is dc rfl) (Dy 3 rfl (f8 ty_Is rfl (Hz (mS m0) 1 rfl) rfl) (Dyp 4 rfl (j4 rfl) ?_))))))))))))
   obtain ⟨eb25, eo25, ea25, ei25, eh25⟩ := F6.elemI g om
   refine Dyp 5 rfl (o6 us_Is f0 rfl ea25 rfl g rfl om) (Dy 6 rfl (f8 f0 rfl (eh25 _) rfl) ?_)
   obtain ⟨eb27, eo27, ea27, ei27, eh27⟩ := y9.elemI s8[g].toNat om
   refine Dyp 7 rfl (o6 us_Is f0 rfl ea27 rfl s8[g].toNat om om) (Dy 8 rfl (f8 f0 rfl (eh27 _) rfl) (Dyp 9 rfl (j4 rfl) (Dyp 10 rfl (j4 rfl) ?_)))
   obtain ⟨eb31, eo31, ea31, ei31, eh31⟩ := hvalues.elemI g om
   refine Dyp 11 rfl (o6 us_Is f0 rfl ea31 rfl g rfl om) (Dy 12 rfl (f8 f0 rfl (eh31 _) rfl) (Dyp 13 rfl (Y.neq rfl rfl) (n0 (fun q33 => ?_) (fun q33 => ?_))))
   ·refine o3 kr (Et (l4 rfl (Ew Z1 (Ei rfl ?_))))
    exact Eu (E.ret (t7 (l0 (l0 (t7 (l0 (Fb rfl rfl (by grind [E4, a0h, a1L, a1p, E6, d1, d2, t1, t2]))))))))
   ·refine o3 kr (Et (l6 rfl (i8 (o4 (Et (Ez Z3 (Em rfl (Ey rfl ((Y.add rfl rfl om om).yd) (Ei rfl (Eu (f7 (f7 ?_))))))))))))
    exact u9 br (g + 1) rs (.refl _) ⟨by omega, by grind [a0h, a1p, E6, d1, d2, t1, t2]⟩ om
  ·refine Eu (l6 rfl (E.exit (n8 (n8 (w5 (Et (Ew Z1 (Ei rfl ?_))))))))
   exact Eu (E.ret (Fb rfl rfl (by grind [E4, a0h, a1L, a1p, E6, d1, d2, t1, t2])))
theorem a6e {b_m : Nat} {b_a : Nat} {j3 : Int} {w4 : Option Addr} {y5 w3 : Nat} {j9 : List Int} (hv : s8.length ≤ j9.length) (hi : l3 = D8 → ∀ i ∈ s8, 0 ≤ i ∧ i < f6.length) : Tr Tryz.prog 193 [.agg #[.int .i64 l3, .slice y4 B8 x6], .pointer (some ⟨b_m, 0, none⟩), .pointer (some ⟨b_a, 0, none⟩)] (fun w L => (I64 l3 ∧ Ro w L eIs [.slice y4 B8 x6] f6) ∧ RoPt w L b_m [.int .i64 D8, .slice D3 E3 D2, .int .i64 C1, .int .i64 D7, .int .i64 C2] ∧ I64 D8 ∧ Ro w L eIs [.slice D3 E3 D2] s8 ∧ I64 C1 ∧ I64 D7 ∧ I64 C2 ∧ RoPt w L b_a [.int .i64 j3, .slice w4 y5 w3] ∧ I64 j3 ∧ Ro w L eIs [.slice w4 y5 w3] j9) [] (κ := Unit) (fun k => True) (fun k => .bool (!E4 (D8, s8, C1, D7, C2) j9 (l3, f6))) (fun k => []) := by
 refine Tr.intro Tryz.func193 rfl (n := 32) rfl (by decide +kernel) bl (fr := [(0, .agg #[.int .i64 l3, .slice y4 B8 x6]), (1, .pointer (some ⟨b_m, 0, none⟩)), (2, .pointer (some ⟨b_a, 0, none⟩))]) rfl fun w L hR => ?_
 obtain ⟨⟨H7, y9⟩, hb_m, X3, F6, R9, V0, S0, hb_a, I8, C5⟩ := hR
 obtain ⟨rfl, S1⟩ := y9.slen
 obtain ⟨rfl, X8⟩ := F6.slen
 obtain ⟨rfl, P2⟩ := C5.slen
 refine Ew Z2 (Est rfl (N.box (cs := [_, _]) rfl dc rfl) (fun b3 _ => (Ei rfl (Eu (Eq_ (Ew Z5 (Ey rfl ((i7 fo_Fact_0 f0 dc rfl).yd) (Ey rfl (f8 f0 rfl (Hz m0 0 rfl) rfl) (Ey rfl ((i7 fo_Method_0 f0 dc rfl).yd) (Ey rfl (f8 f0 rfl ((hb_m.has).sub (cs' := [_]) 0 rfl) rfl) (Ey rfl ((Y.neq rfl rfl).yd) (n0 (fun q11 => ?_) (fun q11 => ?_)))))))))))))
 ·refine Eu (l4 rfl (Ew Z1 (Ei rfl ?_)))
  exact Eu (E.ret (l0 (Fb rfl rfl (by grind [E4, a0h, a1L, a1p, E6, d1, d2, t1, t2]))))
 ·refine Eu (l6 rfl (i8 (Et (Eq_ (Ew Z4 (Ey rfl ((i7 fo_Method_1 ty_Is dc rfl).yd) (Ey rfl (f8 ty_Is rfl ((hb_m.has).sub (cs' := [_]) 1 rfl) rfl) (Ey rfl ((Y.len us_Is rfl).yd) (Em rfl (Eu (E.block (E.loop (κ := Nat) (fun g => g ≤ s8.length ∧ (s8.zip j9).all (a1p f6) = ((s8.zip j9).drop g).all (a1p f6)) (fun g => [(2, .pointer (some ⟨b_a, 0, none⟩)), (3, .pointer (some ⟨b3, 0, none⟩)), (13, .slice D3 s8.length D2), (14, .int .i64 (↑s8.length : Int)), (15, .int .i64 (g : Int))]) (fun g => [pt b3 91 [.int .i64 l3, .slice y4 f6.length x6]]) (fun g => s8.length - g) 0 ⟨Nat.zero_le _, by simp⟩ ⟨rfl, rfl, rfl, rfl, rfl, trivial⟩ (.refl _) (fun g pg => ?_)))))))))))))
  obtain ⟨pk, pa⟩ := pg
  refine Ew Z1 (Ey rfl ((Y.lss rfl rfl).yd) (n0 (fun q16 => ?_) (fun q16 => ?_)))
  ·have hi1 := hi om s8[g] (List.getElem_mem om)
   refine Eu (Eq_ (l4 rfl (i8 (Et (Eq_ (E.block (Ew Z5 (Em rfl ?_))))))))
   obtain ⟨eb18, eo18, ea18, ei18, eh18⟩ := F6.elemI g om
   refine Ey rfl ((o6 us_Is f0 rfl ea18 rfl g rfl om).yd) (Ey rfl (f8 f0 rfl (eh18 _) rfl) (Ei rfl (Ei rfl (Eu (Eq_ (D.region (fun j => true) mixed (Dyp 0 rfl (i7 fo_Fact_1 ty_Is dc rfl) (Dy 1 rfl (f8 ty_Is rfl (Hz m0 1 rfl) rfl) (Dyp 2 rfl (j4 rfl) ?_)))))))))
   obtain ⟨eb23, eo23, ea23, ei23, eh23⟩ := y9.elemI s8[g].toNat om
   refine Dyp 3 rfl (o6 us_Is f0 rfl ea23 rfl s8[g].toNat om om) (Dy 4 rfl (f8 f0 rfl (eh23 _) rfl) (Dyp 5 rfl (i7 fo_Access_1 ty_Is dc rfl) (Dy 6 rfl (f8 ty_Is rfl ((hb_a.has).sub (cs' := [_]) 1 rfl) rfl) (Dyp 7 rfl (j4 rfl) ?_))))
   obtain ⟨eb28, eo28, ea28, ei28, eh28⟩ := C5.elemI g om
   refine Dyp 8 rfl (o6 us_Is f0 rfl ea28 rfl g rfl om) (Dy 9 rfl (f8 f0 rfl (eh28 _) rfl) (Dyp 10 rfl (Y.neq rfl rfl) (n0 (fun q30 => ?_) (fun q30 => ?_))))
   ·refine o3 kr (Et (l4 rfl (Ew Z1 (Ei rfl ?_))))
    exact Eu (E.ret (t7 (l0 (l0 (t7 (l0 (Fb rfl rfl (by grind [E4, a0h, a1L, a1p, E6, d1, d2, t1, t2]))))))))
   ·refine o3 kr (Et (l6 rfl (i8 (o4 (Et (Ez Z2 (Ey rfl ((Y.add rfl rfl om om).yd) (Em rfl ?_))))))))
    exact Eu (u9 br (g + 1) rs (.refl _) ⟨by omega, by grind [a0h, a1p, E6, d1, d2, t1, t2]⟩ om)
  ·refine Eu (Eq_ (l6 rfl (E.exit (n8 (n8 (w5 (Et (Ew Z1 (Ei rfl ?_)))))))))
   exact Eu (E.ret (Fb rfl rfl (by grind [E4, a0h, a1L, a1p, E6, d1, d2, t1, t2])))
theorem a6a {a_facts : Option Addr} {m_facts c_facts : Nat} {d4 : List (Int × List Int)} (hv : s8.length ≤ I4.length) (hif : ∀ f ∈ d4, f.1 = D8 → ∀ i ∈ s8, 0 ≤ i ∧ i < f.2.length) (hfl : d4.length ≤ 1048576) (hfe : ∀ f ∈ d4, f.2.length ≤ 1048576) : Tr Tryz.prog 164 [.agg #[.int .i64 D8, .slice D3 E3 D2, .int .i64 C1, .int .i64 D7, .int .i64 C2], .slice a_values m_values c_values, .slice a_facts m_facts c_facts] (fun w L => I64 D8 ∧ Ro w L eIs [.slice D3 E3 D2] s8 ∧ I64 C1 ∧ I64 D7 ∧ I64 C2 ∧ Ro w L eIs [.slice a_values m_values c_values] I4 ∧ Ro w L r7 [.slice a_facts m_facts c_facts] d4) [] (κ := Option Addr × Nat × Nat) (fun k => True) (fun k => .slice k.1 k.2.1 k.2.2) (fun k => [ow r7 [.slice k.1 k.2.1 k.2.2] (d4.filter (E4 (D8, s8, C1, D7, C2) I4))]) := by
 refine Tr.intro Tryz.func164 rfl (n := 38) rfl (by decide +kernel) bl (fr := [(0, .agg #[.int .i64 D8, .slice D3 E3 D2, .int .i64 C1, .int .i64 D7, .int .i64 C2]), (1, .slice a_values m_values c_values), (2, .slice a_facts m_facts c_facts)]) rfl fun w L hR => ?_
 obtain ⟨X3, F6, R9, V0, S0, hvalues, hfacts⟩ := hR
 obtain ⟨rfl, X8⟩ := F6.slen
 obtain ⟨rfl, lvalues⟩ := hvalues.slen
 obtain ⟨rfl, lfacts⟩ := hfacts.slen
 refine Ew Z2 (Est rfl (N.box (cs := [_, _, _, _, _]) rfl dc rfl) (fun b3 _ => (Ei rfl (Ev Z2 (Est rfl (Nb [] [] us_Facts ty_Fact rfl rfl) (fun b9 _ => (Ent.drop (Ei rfl (Eu (Eq_ (Ew Z1 (Ei rfl (Eu (E.block (n9 (A := []) (Own.nil (E := F0) (e := tFact) (a := (some ⟨b9, 0, none⟩))) rfl (j8 (congrArg (ow r7 [_]) (show [] = (d4.take 0).filter (E4 (D8, s8, C1, D7, C2) I4) from by first | rfl | (simp; done) | grind [d1, d2, t1, t2])) (E.loop (κ := Nat × Option Addr × Nat × Nat) (fun g => g.1 ≤ d4.length ∧ True) (fun g => [(1, .slice a_values I4.length c_values), (2, .slice a_facts d4.length c_facts), (3, .pointer (some ⟨b3, 0, none⟩)), (7, .slice g.2.1 g.2.2.1 g.2.2.2), (8, .int .i64 (↑g.1 : Int))]) (fun g => [ow r7 [.slice g.2.1 g.2.2.1 g.2.2.2] ((d4.take g.1).filter (E4 (D8, s8, C1, D7, C2) I4)), pt b3 86 [.int .i64 D8, .slice D3 s8.length D2, .int .i64 C1, .int .i64 D7, .int .i64 C2]]) (fun g => d4.length - g.1) (0, (some ⟨b9, 0, none⟩), 0, 0) ⟨Nat.zero_le _, by simp⟩ ⟨rfl, rfl, rfl, rfl, rfl, trivial⟩ (.refl _) (fun g pg => ?_))))))))))))))))))
 obtain ⟨g, aA0_0, mA0_0, cA0_0⟩ := g
 try dsimp only at pg
 try dsimp only
 obtain ⟨pk, pa⟩ := pg
 have jf := List.length_filter_le (E4 (D8, s8, C1, D7, C2) I4) (d4.take g)
 have jt := List.length_take_le g d4
 refine i9 m0 fun eaA0_0 laA0_0 => ?_
 subst eaA0_0
 refine Eq_ (Ew Z4 (Em rfl (Em rfl (Ey rfl ((Y.len us_Facts rfl).yd) (Ey rfl ((Y.lss rfl rfl).yd) (n0 (fun q13 => ?_) (fun q13 => ?_)))))))
 ·refine Eu (l4 rfl (i8 (Et (Eq_ (E.block (Eq_ (D.region (fun j => true) mixed (Dy 0 rfl (o0 (cs := [_, _, _, _, _]) ty_Method rfl (Has.pt (mS m0)) rfl) (Dyp 1 rfl (j4 rfl) (Dyp 2 rfl (j4 rfl) (Dyp 3 rfl (j4 rfl) ?_)))))))))))
  obtain ⟨eb20, eo20, ec20, ea20, er20, el20, eh20⟩ := hfacts.elem g om
  obtain ⟨xa20_0, xc20_0, rfl, ei20_0, xh20_0⟩ := L4 er20
  have := xh20_0.slen.2
  refine Dyp 4 rfl (o6 us_Facts ty_Fact rfl ea20 rfl g rfl om) (Dy 5 rfl (o0 (cs := [_, _]) ty_Fact rfl (eh20 _) rfl) (u7 6 rfl rfl kr (fun _ => rfl) (k6 (a8P hv (hif _ (List.getElem_mem om))) rfl rfl rfl dc (fun w Lp hA => ⟨X3, hA.ro F6, R9, V0, S0, hA.ro hvalues, ei20_0, hA.ro xh20_0⟩)) (fun _ _ => (Ent.b (fun q22 => ?_) (fun q22 => ?_)))))
  ·refine o3 kr (Et (l4 rfl (D.region (fun j => !(Nat.beq j 13)) mixed (Dyp 0 rfl (j4 rfl) (Dyp 1 rfl (j4 rfl) (Dyp 2 rfl (j4 rfl) (Dyp 3 rfl (o6 us_Facts ty_Fact rfl ea20 rfl g rfl om) (Dyp 4 rfl (i7 fo_Fact_0 f0 dc rfl) (Dy 5 rfl (f8 f0 rfl ((eh20 _).sub (cs' := [_]) 0 rfl) rfl) (Dyp 6 rfl (j4 rfl) (Dyp 7 rfl (j4 rfl) (Dyp 8 rfl (o6 us_Facts ty_Fact rfl ea20 rfl g rfl om) (Dyp 9 rfl (i7 fo_Fact_1 ty_Is dc rfl) (Dy 10 rfl (f8 ty_Is rfl ((eh20 _).sub (cs' := [_]) 1 rfl) rfl) (u7 11 rfl rfl kr (fun _ => rfl) (N.call (N8 (hfe _ (List.getElem_mem om))) rfl rfl rfl dc rfl (fun w Lp hA => ⟨ei20_0, hA.ro xh20_0⟩)) (fun k34 _ => ?_))))))))))))))))
   obtain ⟨a34, m34, c34⟩ := k34
   refine i9 m0 fun e34 l34 => ?_
   subst e34
   refine u7 12 rfl rfl kr (fun _ => rfl) (Nb [_] [_, _] us_Facts ty_Fact rfl rfl) (fun b35 _ => (f7 (f7 (j6 (u7 13 rfl rfl kr (fun h => by cases h) (y6 (E := F0) (ex := d4[g]) us_Facts ty_Fact rfl rfl rfl (I9 (x := d4[g]) ei20_0 Own.ow) rfl bn bn dc) (fun p36 _ => (Dyp 14 rfl (G1 rfl) (o3 kr (o4 (Et (Ez Z3 (Em rfl (Ey rfl ((Y.add rfl rfl om om).yd) (Ei rfl (Eu (j8 (congrArg (ow r7 [_]) (show ((d4.take g).filter (E4 (D8, s8, C1, D7, C2) I4)) ++ [d4[g]] = (d4.take (g + 1)).filter (E4 (D8, s8, C1, D7, C2) I4) from by grind [d1, d2, t1, t2])) (f7 (f7 ?_))))))))))))))))))
   exact Ea (g + 1, p36.1, (((d4.take g).filter (E4 (D8, s8, C1, D7, C2) I4)).length + 1), p36.2) ⟨oz, trivial⟩
  ·refine o3 kr (Et (l6 rfl (i8 (o4 (Et (Ez Z3 (Em rfl (Ey rfl ((Y.add rfl rfl om om).yd) (Ei rfl (Eu (j8 (congrArg (ow r7 [_]) (show (d4.take g).filter (E4 (D8, s8, C1, D7, C2) I4) = (d4.take (g + 1)).filter (E4 (D8, s8, C1, D7, C2) I4) from by grind [d1, d2, t1, t2])) (f7 (f7 ?_)))))))))))))
   exact Ea (g + 1, aA0_0, ((d4.take g).filter (E4 (D8, s8, C1, D7, C2) I4)).length, cA0_0) ⟨oz, trivial⟩
 ·refine Eu (l6 rfl (E.exit (n8 (n8 (w5 (Et (Ew Z2 (Em rfl (Ei rfl (Eu (E.ret (j8 (congrArg (ow r7 [_]) (show _ = d4.filter (E4 (D8, s8, C1, D7, C2) I4) by grind [d1, d2, t1, t2])) ?_))))))))))))
  exact Fg rfl rfl (_, _, _) rfl rfl
end Go.Proofs.YtlfhopooaejpfaaGreat
