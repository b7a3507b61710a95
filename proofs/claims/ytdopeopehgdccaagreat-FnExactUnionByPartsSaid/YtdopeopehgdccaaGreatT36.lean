import Derived.Test.YtdopeopehgdccaaGreatT13
import Derived.Test.YtdopeopehgdccaaGreatT10
import Derived.Test.YtdopeopehgdccaaGreatDy
namespace Go.Proofs.YtdopeopehgdccaaGreat
open Go.RowKit
set_option linter.all false
set_option maxHeartbeats 2000000
attribute [local irreducible] Nop Yd Yp Ent Has Tr FnP FnP2 Src O8 Y2 a0b a0m G5
variable {D8 B6 D5 B7 r6 : Int} {v6 K2 f9 : List Int} {D6 C2 m_values c_values D1 y9 : Nat} {C3 a_values z6 : Option Addr}
theorem b2s (hv : v6.length ≤ K2.length) (hi : r6 = D8 → ∀ i ∈ v6, 0 ≤ i ∧ i < f9.length) : Tr Tryz.prog 201 [.agg #[.int .i64 D8, .slice C3 D6 C2, .int .i64 B6, .int .i64 D5, .int .i64 B7], .slice a_values m_values c_values, .agg #[.int .i64 r6, .slice z6 D1 y9]] (fun w L => I64 D8 ∧ Ro w L eIs [.slice C3 D6 C2] v6 ∧ I64 B6 ∧ I64 D5 ∧ I64 B7 ∧ Ro w L eIs [.slice a_values m_values c_values] K2 ∧ I64 r6 ∧ Ro w L eIs [.slice z6 D1 y9] f9) [] (κ := Unit) (fun k => True) (fun k => .bool (V5 (D8, v6, B6, D5, B7) K2 (r6, f9))) (fun k => []) := by
 refine l0 Tryz.func201 rfl (n := 34) rfl (by decide +kernel) bl (fr := [(0, .agg #[.int .i64 D8, .slice C3 D6 C2, .int .i64 B6, .int .i64 D5, .int .i64 B7]), (1, .slice a_values m_values c_values), (2, .agg #[.int .i64 r6, .slice z6 D1 y9])]) rfl fun w L hR => ?_
 obtain ⟨X4, E4, Q4, U2, Q5, hvalues, J5, B3⟩ := hR
 obtain ⟨rfl, a0g⟩ := E4.slen
 obtain ⟨rfl, lvalues⟩ := hvalues.slen
 obtain ⟨rfl, Y1⟩ := B3.slen
 refine Ew Z3 (Est rfl (N.box (cs := [_, _, _, _, _]) rfl dc rfl) (fun b3 _ => (Est rfl (N.box (cs := [_, _]) rfl dc rfl) (fun b5 _ => (Ei rfl (Eu (Eq_ (Ew Z5 (Ey rfl ((j6 fo_Fact_0 i8 dc rfl).yd) (Ey rfl (g9 i8 rfl (Hz m0 0 rfl) rfl) (Ey rfl ((j6 fo_Method_0 i8 dc rfl).yd) (Ey rfl (g9 i8 rfl (Hz (mS m0) 0 rfl) rfl) (Ey rfl ((Y.neq rfl rfl).yd) (o7 (fun q12 => ?_) (fun q12 => ?_)))))))))))))))
 ·refine Eu (o5 rfl (Ew Z1 (Ei rfl ?_)))
  exact Eu (E.ret (l4 (Fb rfl rfl (by grind [V5, a1w, a3E, a3T, F6, d1, d2, t1, t2]))))
 ·refine Eu (o4 rfl (i7 (Et (Eq_ (Ew Z1 (Ei rfl (Eu (E.block (E.loop (κ := Nat) (fun g => g ≤ v6.length ∧ (v6.zip K2).all (a3T f9) = ((v6.zip K2).drop g).all (a3T f9)) (fun g => [(1, .slice a_values K2.length c_values), (3, .pointer (some ⟨b3, 0, none⟩)), (5, .pointer (some ⟨b5, 0, none⟩)), (7, .int .i64 (g : Int))]) (fun g => [pt b5 115 [.int .i64 r6, .slice z6 f9.length y9], pt b3 113 [.int .i64 D8, .slice C3 v6.length C2, .int .i64 B6, .int .i64 D5, .int .i64 B7]]) (fun g => v6.length - g) 0 ⟨Nat.zero_le _, by simp⟩ ⟨rfl, rfl, rfl, rfl, trivial⟩ (.refl _) (fun g pg => ?_))))))))))
  obtain ⟨pk, pa⟩ := pg
  refine Eq_ (Ew Z5 (Em rfl (Ey rfl ((j6 fo_Method_1 ty_Is dc rfl).yd) (Ey rfl (g9 ty_Is rfl (Hz (mS m0) 1 rfl) rfl) (Ey rfl ((Y.len us_Is rfl).yd) (Ey rfl ((Y.lss rfl rfl).yd) (o7 (fun q17 => ?_) (fun q17 => ?_))))))))
  ·have hi1 := hi om v6[g] (List.getElem_mem om)
   refine Eu (o5 rfl (i7 (Et (Eq_ (E.block (Eq_ (D.region (fun j => true) mixed (Dyp 0 rfl (j6 fo_Fact_1 ty_Is dc rfl) (Dy 1 rfl (g9 ty_Is rfl (Hz m0 1 rfl) rfl) (Dyp 2 rfl (j6 fo_Method_1 ty_Is dc rfl) (Dy 3 rfl (g9 ty_Is rfl (Hz (mS m0) 1 rfl) rfl) (Dyp 4 rfl (o0 rfl) ?_))))))))))))
   obtain ⟨eb25, eo25, ea25, ei25, eh25⟩ := E4.elemI g om
   refine Dyp 5 rfl (s4 us_Is i8 rfl ea25 rfl g rfl om) (Dy 6 rfl (g9 i8 rfl (eh25 _) rfl) ?_)
   obtain ⟨eb27, eo27, ea27, ei27, eh27⟩ := B3.elemI v6[g].toNat om
   refine Dyp 7 rfl (s4 us_Is i8 rfl ea27 rfl v6[g].toNat om om) (Dy 8 rfl (g9 i8 rfl (eh27 _) rfl) (Dyp 9 rfl (o0 rfl) (Dyp 10 rfl (o0 rfl) ?_)))
   obtain ⟨eb31, eo31, ea31, ei31, eh31⟩ := hvalues.elemI g om
   refine Dyp 11 rfl (s4 us_Is i8 rfl ea31 rfl g rfl om) (Dy 12 rfl (g9 i8 rfl (eh31 _) rfl) (Dyp 13 rfl (Y.neq rfl rfl) (o7 (fun q33 => ?_) (fun q33 => ?_))))
   ·refine s3 kr (Et (o5 rfl (Ew Z1 (Ei rfl ?_))))
    exact Eu (E.ret (w8 (l4 (l4 (w8 (l4 (Fb rfl rfl (by grind [V5, a1w, a3E, a3T, F6, d1, d2, t1, t2]))))))))
   ·refine s3 kr (Et (o4 rfl (i7 (t8 (Et (Ez Z3 (Em rfl (Ey rfl ((Y.add rfl rfl om om).yd) (Ei rfl (Eu (f8 (f8 ?_))))))))))))
    exact w4 br (g + 1) rs (.refl _) ⟨by omega, by grind [a1w, a3T, F6, d1, d2, t1, t2]⟩ om
  ·refine Eu (o4 rfl (E.exit (o3 (o3 (w3 (Et (Ew Z1 (Ei rfl ?_))))))))
   exact Eu (E.ret (Fb rfl rfl (by grind [V5, a1w, a3E, a3T, F6, d1, d2, t1, t2])))
theorem a9v {b_m : Nat} {b_a : Nat} {r7 : Int} {y4 : Option Addr} {y8 x9 : Nat} {s6 : List Int} (hv : v6.length ≤ s6.length) (hi : r6 = D8 → ∀ i ∈ v6, 0 ≤ i ∧ i < f9.length) : Tr Tryz.prog 207 [.agg #[.int .i64 r6, .slice z6 D1 y9], .pointer (some ⟨b_m, 0, none⟩), .pointer (some ⟨b_a, 0, none⟩)] (fun w L => (I64 r6 ∧ Ro w L eIs [.slice z6 D1 y9] f9) ∧ RoPt w L b_m [.int .i64 D8, .slice C3 D6 C2, .int .i64 B6, .int .i64 D5, .int .i64 B7] ∧ I64 D8 ∧ Ro w L eIs [.slice C3 D6 C2] v6 ∧ I64 B6 ∧ I64 D5 ∧ I64 B7 ∧ RoPt w L b_a [.int .i64 r7, .slice y4 y8 x9] ∧ I64 r7 ∧ Ro w L eIs [.slice y4 y8 x9] s6) [] (κ := Unit) (fun k => True) (fun k => .bool (!V5 (D8, v6, B6, D5, B7) s6 (r6, f9))) (fun k => []) := by
 refine l0 Tryz.func207 rfl (n := 32) rfl (by decide +kernel) bl (fr := [(0, .agg #[.int .i64 r6, .slice z6 D1 y9]), (1, .pointer (some ⟨b_m, 0, none⟩)), (2, .pointer (some ⟨b_a, 0, none⟩))]) rfl fun w L hR => ?_
 obtain ⟨⟨J5, B3⟩, hb_m, X4, E4, Q4, U2, Q5, hb_a, N8, C5⟩ := hR
 obtain ⟨rfl, Y1⟩ := B3.slen
 obtain ⟨rfl, a0g⟩ := E4.slen
 obtain ⟨rfl, R9⟩ := C5.slen
 refine Ew Z2 (Est rfl (N.box (cs := [_, _]) rfl dc rfl) (fun b3 _ => (Ei rfl (Eu (Eq_ (Ew Z5 (Ey rfl ((j6 fo_Fact_0 i8 dc rfl).yd) (Ey rfl (g9 i8 rfl (Hz m0 0 rfl) rfl) (Ey rfl ((j6 fo_Method_0 i8 dc rfl).yd) (Ey rfl (g9 i8 rfl ((hb_m.has).sub (cs' := [_]) 0 rfl) rfl) (Ey rfl ((Y.neq rfl rfl).yd) (o7 (fun q11 => ?_) (fun q11 => ?_)))))))))))))
 ·refine Eu (o5 rfl (Ew Z1 (Ei rfl ?_)))
  exact Eu (E.ret (l4 (Fb rfl rfl (by grind [V5, a1w, a3E, a3T, F6, d1, d2, t1, t2]))))
 ·refine Eu (o4 rfl (i7 (Et (Eq_ (Ew Z4 (Ey rfl ((j6 fo_Method_1 ty_Is dc rfl).yd) (Ey rfl (g9 ty_Is rfl ((hb_m.has).sub (cs' := [_]) 1 rfl) rfl) (Ey rfl ((Y.len us_Is rfl).yd) (Em rfl (Eu (E.block (E.loop (κ := Nat) (fun g => g ≤ v6.length ∧ (v6.zip s6).all (a3T f9) = ((v6.zip s6).drop g).all (a3T f9)) (fun g => [(2, .pointer (some ⟨b_a, 0, none⟩)), (3, .pointer (some ⟨b3, 0, none⟩)), (13, .slice C3 v6.length C2), (14, .int .i64 (↑v6.length : Int)), (15, .int .i64 (g : Int))]) (fun g => [pt b3 115 [.int .i64 r6, .slice z6 f9.length y9]]) (fun g => v6.length - g) 0 ⟨Nat.zero_le _, by simp⟩ ⟨rfl, rfl, rfl, rfl, rfl, trivial⟩ (.refl _) (fun g pg => ?_)))))))))))))
  obtain ⟨pk, pa⟩ := pg
  refine Ew Z1 (Ey rfl ((Y.lss rfl rfl).yd) (o7 (fun q16 => ?_) (fun q16 => ?_)))
  ·have hi1 := hi om v6[g] (List.getElem_mem om)
   refine Eu (Eq_ (o5 rfl (i7 (Et (Eq_ (E.block (Ew Z5 (Em rfl ?_))))))))
   obtain ⟨eb18, eo18, ea18, ei18, eh18⟩ := E4.elemI g om
   refine Ey rfl ((s4 us_Is i8 rfl ea18 rfl g rfl om).yd) (Ey rfl (g9 i8 rfl (eh18 _) rfl) (Ei rfl (Ei rfl (Eu (Eq_ (D.region (fun j => true) mixed (Dyp 0 rfl (j6 fo_Fact_1 ty_Is dc rfl) (Dy 1 rfl (g9 ty_Is rfl (Hz m0 1 rfl) rfl) (Dyp 2 rfl (o0 rfl) ?_)))))))))
   obtain ⟨eb23, eo23, ea23, ei23, eh23⟩ := B3.elemI v6[g].toNat om
   refine Dyp 3 rfl (s4 us_Is i8 rfl ea23 rfl v6[g].toNat om om) (Dy 4 rfl (g9 i8 rfl (eh23 _) rfl) (Dyp 5 rfl (j6 fo_Access_1 ty_Is dc rfl) (Dy 6 rfl (g9 ty_Is rfl ((hb_a.has).sub (cs' := [_]) 1 rfl) rfl) (Dyp 7 rfl (o0 rfl) ?_))))
   obtain ⟨eb28, eo28, ea28, ei28, eh28⟩ := C5.elemI g om
   refine Dyp 8 rfl (s4 us_Is i8 rfl ea28 rfl g rfl om) (Dy 9 rfl (g9 i8 rfl (eh28 _) rfl) (Dyp 10 rfl (Y.neq rfl rfl) (o7 (fun q30 => ?_) (fun q30 => ?_))))
   ·refine s3 kr (Et (o5 rfl (Ew Z1 (Ei rfl ?_))))
    exact Eu (E.ret (w8 (l4 (l4 (w8 (l4 (Fb rfl rfl (by grind [V5, a1w, a3E, a3T, F6, d1, d2, t1, t2]))))))))
   ·refine s3 kr (Et (o4 rfl (i7 (t8 (Et (Ez Z2 (Ey rfl ((Y.add rfl rfl om om).yd) (Em rfl ?_))))))))
    exact Eu (w4 br (g + 1) rs (.refl _) ⟨by omega, by grind [a1w, a3T, F6, d1, d2, t1, t2]⟩ om)
  ·refine Eu (Eq_ (o4 rfl (E.exit (o3 (o3 (w3 (Et (Ew Z1 (Ei rfl ?_)))))))))
   exact Eu (E.ret (Fb rfl rfl (by grind [V5, a1w, a3E, a3T, F6, d1, d2, t1, t2])))
theorem a9b {a_facts : Option Addr} {m_facts c_facts : Nat} {d7 : List (Int × List Int)} (hv : v6.length ≤ K2.length) (hif : ∀ f ∈ d7, f.1 = D8 → ∀ i ∈ v6, 0 ≤ i ∧ i < f.2.length) (hfl : d7.length ≤ 1048576) (hfe : ∀ f ∈ d7, f.2.length ≤ 1048576) : Tr Tryz.prog 116 [.agg #[.int .i64 D8, .slice C3 D6 C2, .int .i64 B6, .int .i64 D5, .int .i64 B7], .slice a_values m_values c_values, .slice a_facts m_facts c_facts] (fun w L => I64 D8 ∧ Ro w L eIs [.slice C3 D6 C2] v6 ∧ I64 B6 ∧ I64 D5 ∧ I64 B7 ∧ Ro w L eIs [.slice a_values m_values c_values] K2 ∧ Ro w L s9 [.slice a_facts m_facts c_facts] d7) [] (κ := Option Addr × Nat × Nat) (fun k => True) (fun k => .slice k.1 k.2.1 k.2.2) (fun k => [ow s9 [.slice k.1 k.2.1 k.2.2] (d7.filter (V5 (D8, v6, B6, D5, B7) K2))]) := by
 refine l0 Tryz.func116 rfl (n := 38) rfl (by decide +kernel) bl (fr := [(0, .agg #[.int .i64 D8, .slice C3 D6 C2, .int .i64 B6, .int .i64 D5, .int .i64 B7]), (1, .slice a_values m_values c_values), (2, .slice a_facts m_facts c_facts)]) rfl fun w L hR => ?_
 obtain ⟨X4, E4, Q4, U2, Q5, hvalues, hfacts⟩ := hR
 obtain ⟨rfl, a0g⟩ := E4.slen
 obtain ⟨rfl, lvalues⟩ := hvalues.slen
 obtain ⟨rfl, lfacts⟩ := hfacts.slen
 refine Ew Z2 (Est rfl (N.box (cs := [_, _, _, _, _]) rfl dc rfl) (fun b3 _ => (Ei rfl (Ev Z2 (Est rfl (Nb [] [] us_Facts ty_Fact rfl rfl) (fun b9 _ => (Ent.drop (Ei rfl (Eu (Eq_ (Ew Z1 (Ei rfl (Eu (E.block (s7 (A := []) (Own.nil (E := F8) (e := tFact) (a := (some ⟨b9, 0, none⟩))) rfl (i9 (congrArg (ow s9 [_]) (show [] = (d7.take 0).filter (V5 (D8, v6, B6, D5, B7) K2) from by first | rfl | (simp; done) | grind [d1, d2, t1, t2])) (E.loop (κ := Nat × Option Addr × Nat × Nat) (fun g => g.1 ≤ d7.length ∧ True) (fun g => [(1, .slice a_values K2.length c_values), (2, .slice a_facts d7.length c_facts), (3, .pointer (some ⟨b3, 0, none⟩)), (7, .slice g.2.1 g.2.2.1 g.2.2.2), (8, .int .i64 (↑g.1 : Int))]) (fun g => [ow s9 [.slice g.2.1 g.2.2.1 g.2.2.2] ((d7.take g.1).filter (V5 (D8, v6, B6, D5, B7) K2)), pt b3 113 [.int .i64 D8, .slice C3 v6.length C2, .int .i64 B6, .int .i64 D5, .int .i64 B7]]) (fun g => d7.length - g.1) (0, (some ⟨b9, 0, none⟩), 0, 0) ⟨Nat.zero_le _, by simp⟩ ⟨rfl, rfl, rfl, rfl, rfl, trivial⟩ (.refl _) (fun g pg => ?_))))))))))))))))))
 obtain ⟨g, aA0_0, mA0_0, cA0_0⟩ := g
 try dsimp only at pg
 try dsimp only
 obtain ⟨pk, pa⟩ := pg
 have jf := List.length_filter_le (V5 (D8, v6, B6, D5, B7) K2) (d7.take g)
 have jt := List.length_take_le g d7
 refine f5 m0 fun eaA0_0 laA0_0 => ?_
 subst eaA0_0
 refine Eq_ (Ew Z4 (Em rfl (Em rfl (Ey rfl ((Y.len us_Facts rfl).yd) (Ey rfl ((Y.lss rfl rfl).yd) (o7 (fun q13 => ?_) (fun q13 => ?_)))))))
 ·refine Eu (o5 rfl (i7 (Et (Eq_ (E.block (Eq_ (D.region (fun j => true) mixed (Dy 0 rfl (r9 (cs := [_, _, _, _, _]) ty_Method rfl (Has.pt (mS m0)) rfl) (Dyp 1 rfl (o0 rfl) (Dyp 2 rfl (o0 rfl) (Dyp 3 rfl (o0 rfl) ?_)))))))))))
  obtain ⟨eb20, eo20, ec20, ea20, er20, el20, eh20⟩ := hfacts.elem g om
  obtain ⟨xa20_0, xc20_0, rfl, ei20_0, xh20_0⟩ := O2 er20
  have := xh20_0.slen.2
  refine Dyp 4 rfl (s4 us_Facts ty_Fact rfl ea20 rfl g rfl om) (Dy 5 rfl (r9 (cs := [_, _]) ty_Fact rfl (eh20 _) rfl) (t6 6 rfl rfl kr (fun _ => rfl) (n0 (b2s hv (hif _ (List.getElem_mem om))) rfl rfl rfl dc (fun w Lp hA => ⟨X4, hA.ro E4, Q4, U2, Q5, hA.ro hvalues, ei20_0, hA.ro xh20_0⟩)) (fun _ _ => (Ent.b (fun q22 => ?_) (fun q22 => ?_)))))
  ·refine s3 kr (Et (o5 rfl (D.region (fun j => !(Nat.beq j 13)) mixed (Dyp 0 rfl (o0 rfl) (Dyp 1 rfl (o0 rfl) (Dyp 2 rfl (o0 rfl) (Dyp 3 rfl (s4 us_Facts ty_Fact rfl ea20 rfl g rfl om) (Dyp 4 rfl (j6 fo_Fact_0 i8 dc rfl) (Dy 5 rfl (g9 i8 rfl ((eh20 _).sub (cs' := [_]) 0 rfl) rfl) (Dyp 6 rfl (o0 rfl) (Dyp 7 rfl (o0 rfl) (Dyp 8 rfl (s4 us_Facts ty_Fact rfl ea20 rfl g rfl om) (Dyp 9 rfl (j6 fo_Fact_1 ty_Is dc rfl) (Dy 10 rfl (g9 ty_Is rfl ((eh20 _).sub (cs' := [_]) 1 rfl) rfl) (t6 11 rfl rfl kr (fun _ => rfl) (N.call (R8 (hfe _ (List.getElem_mem om))) rfl rfl rfl dc rfl (fun w Lp hA => ⟨ei20_0, hA.ro xh20_0⟩)) (fun k34 _ => ?_))))))))))))))))
   obtain ⟨a34, m34, c34⟩ := k34
   refine f5 m0 fun e34 l34 => ?_
   subst e34
   refine t6 12 rfl rfl kr (fun _ => rfl) (Nb [_] [_, _] us_Facts ty_Fact rfl rfl) (fun b35 _ => (f8 (f8 (o6 (t6 13 rfl rfl kr (fun h => by cases h) (B1 (E := F8) (ex := d7[g]) us_Facts ty_Fact rfl rfl rfl (J9 (x := d7[g]) ei20_0 Own.ow) rfl bn bn dc) (fun p36 _ => (Dyp 14 rfl (F0 rfl) (s3 kr (t8 (Et (Ez Z3 (Em rfl (Ey rfl ((Y.add rfl rfl om om).yd) (Ei rfl (Eu (i9 (congrArg (ow s9 [_]) (show ((d7.take g).filter (V5 (D8, v6, B6, D5, B7) K2)) ++ [d7[g]] = (d7.take (g + 1)).filter (V5 (D8, v6, B6, D5, B7) K2) from by grind [d1, d2, t1, t2])) (f8 (f8 ?_))))))))))))))))))
   exact Ea (g + 1, p36.1, (((d7.take g).filter (V5 (D8, v6, B6, D5, B7) K2)).length + 1), p36.2) ⟨oz, trivial⟩
  ·refine s3 kr (Et (o4 rfl (i7 (t8 (Et (Ez Z3 (Em rfl (Ey rfl ((Y.add rfl rfl om om).yd) (Ei rfl (Eu (i9 (congrArg (ow s9 [_]) (show (d7.take g).filter (V5 (D8, v6, B6, D5, B7) K2) = (d7.take (g + 1)).filter (V5 (D8, v6, B6, D5, B7) K2) from by grind [d1, d2, t1, t2])) (f8 (f8 ?_)))))))))))))
   exact Ea (g + 1, aA0_0, ((d7.take g).filter (V5 (D8, v6, B6, D5, B7) K2)).length, cA0_0) ⟨oz, trivial⟩
 ·refine Eu (o4 rfl (E.exit (o3 (o3 (w3 (Et (Ew Z2 (Em rfl (Ei rfl (Eu (E.ret (i9 (congrArg (ow s9 [_]) (show _ = d7.filter (V5 (D8, v6, B6, D5, B7) K2) by grind [d1, d2, t1, t2])) ?_))))))))))))
  exact Fg rfl rfl (_, _, _) rfl rfl
end Go.Proofs.YtdopeopehgdccaaGreat
