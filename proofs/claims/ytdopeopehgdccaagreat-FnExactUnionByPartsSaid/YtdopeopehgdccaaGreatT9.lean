import Derived.Test.YtdopeopehgdccaaGreatT8
import Derived.Test.YtdopeopehgdccaaGreatT6
namespace Go.Proofs.YtdopeopehgdccaaGreat
open Go.RowKit
set_option linter.all false
set_option maxHeartbeats 2000000
attribute [local irreducible] Nop Yd Yp Ent Has Tr FnP FnP2 Src
variable {r6 : Int} {l : List (Int × List Int)} {f9 : List Int} {D1 y9 m_l c_l : Nat} {z6 a_l : Option Addr}
theorem a9w {a4C : Int} {X0 : Option Addr} {X1 X2 : Nat} {a2n : List Int} {b_f : Nat} : Tr Tryz.prog 214 [.agg #[.int .i64 a4C, .slice X0 X1 X2], .pointer (some ⟨b_f, 0, none⟩)] (fun w L => (I64 a4C ∧ Ro w L eIs [.slice X0 X1 X2] a2n) ∧ RoPt w L b_f [.int .i64 r6, .slice z6 D1 y9] ∧ I64 r6 ∧ Ro w L eIs [.slice z6 D1 y9] f9) [] (κ := Unit) (fun k => True) (fun k => .bool (decide (P7 (a4C, a2n) (r6, f9) = 0))) (fun k => []) := by
 refine l0 Tryz.func214 rfl (n := 8) rfl (by decide +kernel) bl (fr := [(0, .agg #[.int .i64 a4C, .slice X0 X1 X2]), (1, .pointer (some ⟨b_f, 0, none⟩))]) rfl fun w L hR => ?_
 obtain ⟨⟨b1C, a1x⟩, hb_f, J5, B3⟩ := hR
 obtain ⟨rfl, b2i⟩ := a1x.slen
 obtain ⟨rfl, Y1⟩ := B3.slen
 refine Ew Z2 (Est rfl (N.box (cs := [_, _]) rfl dc rfl) (fun b2 _ => (Ei rfl (Ev Z5 (Ey rfl (r9 (cs := [_, _]) ty_Fact rfl (Has.pt m0) rfl) (Ey rfl (r9 (cs := [_, _]) ty_Fact rfl (hb_f.has) rfl) (Est rfl (n0 a1W rfl rfl rfl dc (fun w Lp hA => ⟨b1C, hA.ro a1x, J5, hA.ro B3⟩)) (fun _ _ => (Ey rfl ((Y.eql rfl rfl).yd) (Ei rfl ?_))))))))))
 exact Eu (E.ret (Fg rfl rfl () rfl rfl))
theorem b0F : Tr Tryz.prog 126 [.slice a_l m_l c_l, .agg #[.int .i64 r6, .slice z6 D1 y9]] (fun w L => Ro w L s9 [.slice a_l m_l c_l] l ∧ I64 r6 ∧ Ro w L eIs [.slice z6 D1 y9] f9) [] (κ := Unit) (fun k => True) (fun k => .bool (M6 l (r6, f9))) (fun k => []) := by
 refine l0 Tryz.func126 rfl (n := 8) rfl (by decide +kernel) bl (fr := [(0, .slice a_l m_l c_l), (1, .agg #[.int .i64 r6, .slice z6 D1 y9])]) rfl fun w L hR => ?_
 obtain ⟨hl, J5, B3⟩ := hR
 obtain ⟨rfl, ll⟩ := hl.slen
 obtain ⟨rfl, Y1⟩ := B3.slen
 refine Ew Z2 (Est rfl (N.box (cs := [_, _]) rfl dc rfl) (fun b3 _ => (Ei rfl (Ev Z4 (Em rfl (Ey rfl ((Y.fn (vs := [_]) rfl).yd) (Est rfl (n0 (a6T (f := (fun z => decide (P7 z (r6, f9) = 0))) (D_f := (fun _ => True)) (by intros; exact trivial)) rfl rfl rfl dc (fun w Lp hA => ⟨hA.ro hl, a6A (D := (fun _ => True)) (fun hd => a9w) (fun w' hk => ⟨(hA.pt m0).keep hk, J5, (hA.ro B3).keep hk⟩)⟩)) (fun _ _ => (Ei rfl ?_)))))))))
 exact Eu (E.ret (Fb rfl rfl (by rfl)))
theorem b1q : Tr Tryz.prog 115 [.slice a_l m_l c_l, .agg #[.int .i64 r6, .slice z6 D1 y9]] (fun w L => Ro w L s9 [.slice a_l m_l c_l] l ∧ I64 r6 ∧ Ro w L eIs [.slice z6 D1 y9] f9) [] (κ := Unit) (fun k => True) (fun k => .bool (M6 l (r6, f9))) (fun k => []) := by
 refine l0 Tryz.func115 rfl (n := 19) rfl (by decide +kernel) bl (fr := [(0, .slice a_l m_l c_l), (1, .agg #[.int .i64 r6, .slice z6 D1 y9])]) rfl fun w L hR => ?_
 obtain ⟨hl, J5, B3⟩ := hR
 obtain ⟨rfl, ll⟩ := hl.slen
 obtain ⟨rfl, Y1⟩ := B3.slen
 refine Ew Z2 (Est rfl (N.box (cs := [_, _]) rfl dc rfl) (fun b3 _ => (Ei rfl (Eu (Eq_ (Ew Z1 (Ei rfl (Eu (E.block (E.loop (κ := Nat) (fun g => g ≤ l.length ∧ M6 l (r6, f9) = M6 (l.drop g) (r6, f9)) (fun g => [(0, .slice a_l l.length c_l), (3, .pointer (some ⟨b3, 0, none⟩)), (5, .int .i64 (g : Int))]) (fun g => [pt b3 115 [.int .i64 r6, .slice z6 f9.length y9]]) (fun g => l.length - g) 0 ⟨Nat.zero_le _, by simp⟩ ⟨rfl, rfl, rfl, trivial⟩ (.refl _) (fun g pg => ?_)))))))))))
 obtain ⟨pk, pa⟩ := pg
 refine Eq_ (Ew Z4 (Em rfl (Em rfl (Ey rfl ((Y.len us_Facts rfl).yd) (Ey rfl ((Y.lss rfl rfl).yd) (o7 (fun q9 => ?_) (fun q9 => ?_)))))))
 ·refine Eu (o5 rfl (i7 (Et (Eq_ (E.block (Eq_ (D.region (fun j => true) mixed (Dyp 0 rfl (o0 rfl) (Dyp 1 rfl (o0 rfl) ?_)))))))))
  obtain ⟨eb14, eo14, ec14, ea14, er14, el14, eh14⟩ := hl.elem g om
  obtain ⟨xa14_0, xc14_0, rfl, ei14_0, xh14_0⟩ := O2 er14
  have := xh14_0.slen.2
  refine Dyp 2 rfl (s4 us_Facts ty_Fact rfl ea14 rfl g rfl om) (Dy 3 rfl (r9 (cs := [_, _]) ty_Fact rfl (eh14 _) rfl) (Dy 4 rfl (r9 (cs := [_, _]) ty_Fact rfl (Has.pt m0) rfl) (t6 5 rfl rfl kr (fun _ => rfl) (n0 a0J rfl rfl rfl dc (fun w Lp hA => ⟨ei14_0, hA.ro xh14_0, J5, hA.ro B3⟩)) (fun _ _ => (Dyp 6 rfl (Y.eql rfl rfl) (o7 (fun q18 => ?_) (fun q18 => ?_)))))))
  ·refine s3 kr (Et (o5 rfl (Ew Z1 (Ei rfl ?_))))
   exact Eu (E.ret (w8 (l4 (l4 (w8 (l4 (Fb rfl rfl (by grind [M6, d1, d2, t1, t2]))))))))
  ·refine s3 kr (Et (o4 rfl (i7 (t8 (Et (Ez Z3 (Em rfl (Ey rfl ((Y.add rfl rfl om om).yd) (Ei rfl ?_)))))))))
   exact Eu (w4 br (g + 1) rs (.refl _) ⟨by omega, by grind [M6, d1, d2, t1, t2]⟩ om)
 ·refine Eu (o4 rfl (E.exit (o3 (o3 (w3 (Et (Ew Z1 (Ei rfl ?_))))))))
  exact Eu (E.ret (Fb rfl rfl (by grind [M6, d1, d2, t1, t2])))
theorem b2t {l3 : Int} {u7 : Option Addr} {x8 u6 : Nat} {f7 : List Int} {B5 : Option Addr} {D9 B4 : Nat} {l2 : List Int} {u9 : Option Addr} {x6 u8 : Nat} {j5 : List Int} (hz : f7.length ≤ 1048576) : Tr Tryz.prog 127 [.agg #[.int .i64 l3, .slice u7 x8 u6], .agg #[.slice B5 D9 B4, .slice u9 x6 u8]] (fun w L => I64 l3 ∧ Ro w L eIs [.slice u7 x8 u6] f7 ∧ Ro w L eIs [.slice B5 D9 B4] l2 ∧ Ro w L eIs [.slice u9 x6 u8] j5) [] (κ := Option Addr × Nat × Nat) (fun k => True) (fun k => .agg #[.int .i64 ((I5 (l3, f7) (l2, j5)).1), .slice k.1 k.2.1 k.2.2]) (fun k => [ow eIs [.slice k.1 k.2.1 k.2.2] ((I5 (l3, f7) (l2, j5)).2)]) := by
 refine l0 Tryz.func127 rfl (n := 29) rfl (by decide +kernel) bl (fr := [(0, .agg #[.int .i64 l3, .slice u7 x8 u6]), (1, .agg #[.slice B5 D9 B4, .slice u9 x6 u8])]) rfl fun w L hR => ?_
 obtain ⟨I0, y7, E3, y5⟩ := hR
 obtain ⟨rfl, P3⟩ := y7.slen
 obtain ⟨rfl, a0B⟩ := E3.slen
 obtain ⟨rfl, O5⟩ := y5.slen
 have jv := a7s (b := (l2, j5)) (l := f7) y7.i64 E3.i64 y5.i64
 refine Ew Z3 (Est rfl (N.box (cs := [_, _]) rfl dc rfl) (fun b2 _ => (Est rfl (N.box (cs := [_, _]) rfl dc rfl) (fun b3 _ => (Est rfl (N.alloc ty_Fact dc) (fun b4 _ => (Ev Z6 (Ey rfl ((j6 fo_Atom_0 i8 dc rfl).yd) (Ey rfl (g9 i8 rfl (Hz (mS (mS m0)) 0 rfl) rfl) (Est rfl (Nb [] [] us_Is i8 rfl rfl) (fun b10 _ => (Ent.drop (Ey rfl ((J2 (pvs := [_, _]) (cs := [_, _]) ty_Fact a8i rfl rfl).yd) (Est rfl (N.alloc ty_Fact dc) (fun b5 _ => (Est rfl (Ns [_, _] ty_Fact rfl) (fun _ _ => (Eu (Eq_ (Ew Z4 (Ey rfl ((j6 fo_Atom_1 ty_Is dc rfl).yd) (Ey rfl (g9 ty_Is rfl (Hz (mS (mS (mS m0))) 1 rfl) rfl) (Ey rfl ((Y.len us_Is rfl).yd) (Em rfl (Eu (E.block (s7 (A := []) (Own.nil (E := Enc.int) (e := tI) (a := (some ⟨b10, 0, none⟩))) rfl (i9 (congrArg (ow eIs [_]) (show [] = (f7.take 0).map (C7 (l2, j5)) from by first | rfl | (simp; done) | grind [I5, d1, d2, t1, t2])) (E.loop (κ := Nat × Option Addr × Nat × Nat) (fun g => g.1 ≤ f7.length ∧ True) (fun g => [(3, .pointer (some ⟨b3, 0, none⟩)), (4, .pointer (some ⟨b4, 0, none⟩)), (5, .pointer (some ⟨b5, 0, none⟩)), (13, .slice u7 f7.length u6), (14, .int .i64 (↑f7.length : Int)), (15, .int .i64 (↑g.1 : Int))]) (fun g => [ow eIs [.slice g.2.1 g.2.2.1 g.2.2.2] ((f7.take g.1).map (C7 (l2, j5))), pt b5 115 [.int .i64 l3, .slice g.2.1 g.2.2.1 g.2.2.2], pt b4 115 [.int .i64 0, .slice none 0 0], pt b3 125 [.slice B5 l2.length B4, .slice u9 j5.length u8], pt b2 128 [.int .i64 l3, .slice u7 f7.length u6]]) (fun g => f7.length - g.1) (0, (some ⟨b10, 0, none⟩), 0, 0) ⟨Nat.zero_le _, by simp⟩ ⟨rfl, rfl, rfl, rfl, rfl, rfl, trivial⟩ (.refl _) (fun g pg => ?_))))))))))))))))))))))))))))))
 obtain ⟨g, aA0_0, mA0_0, cA0_0⟩ := g
 try dsimp only at pg
 try dsimp only
 obtain ⟨pk, pa⟩ := pg
 refine f5 m0 fun eaA0_0 laA0_0 => ?_
 subst eaA0_0
 refine Ew Z1 (Ey rfl ((Y.lss rfl rfl).yd) (o7 (fun q16 => ?_) (fun q16 => ?_)))
 ·obtain ⟨eb17, eo17, ea17, ei17, eh17⟩ := y7.elemI g om
  refine Eu (Eq_ (o5 rfl (i7 (Et (Eq_ (E.block (Ew Z3 (Ey rfl ((s4 us_Is i8 rfl ea17 rfl g rfl om).yd) (Ey rfl (g9 i8 rfl (eh17 _) rfl) (Ei rfl (Eu (D.region (fun j => !(Nat.beq j 6) && !(Nat.beq j 8)) mixed (Dyp 0 rfl (j6 fo_Fact_1 ty_Is dc rfl) (Dy 1 rfl (g9 ty_Is rfl (Hz (mS m0) 1 rfl) rfl) (Dy 2 rfl (r9 (cs := [_, _]) ty_Binding rfl (Has.pt (mS (mS (mS m0)))) rfl) (Dyp 3 rfl (o0 rfl) (t6 4 rfl rfl kr (fun _ => rfl) (n0 a0y rfl rfl rfl dc (fun w Lp hA => ⟨hA.ro E3, hA.ro y5⟩)) (fun _ _ => (t6 5 rfl rfl kr (fun _ => rfl) (Nb [_] [_] us_Is i8 rfl rfl) (fun b24 _ => (f8 (t6 6 rfl rfl kr (fun h => by cases h) (B1 (E := Enc.int) (ex := C7 (l2, j5) f7[g]) us_Is i8 rfl rfl rfl (Own.int i6) rfl bn bn dc) (fun p25 _ => (Dyp 7 rfl (j6 fo_Fact_1 ty_Is dc rfl) (f8 (t6 8 rfl rfl kr (fun h => by cases h) (Ns [_, _] ty_Is rfl) (fun _ _ => (s3 kr (t8 (Et (Ez Z2 (Ey rfl ((Y.add rfl rfl om om).yd) (Em rfl (Eu (f8 (i9 (congrArg (ow eIs [_]) (show ((f7.take g).map (C7 (l2, j5))) ++ [C7 (l2, j5) f7[g]] = (f7.take (g + 1)).map (C7 (l2, j5)) from by grind [I5, d1, d2, t1, t2])) (x5 (x5 (x5 (x5 (x5 ?_)))))))))))))))))))))))))))))))))))))))))
  exact Ea (g + 1, p25.1, (((f7.take g).map (C7 (l2, j5))).length + 1), p25.2) ⟨oz, trivial⟩
 ·refine Eu (Eq_ (o4 rfl (E.exit (o3 (o3 (w3 (Et (Ew Z2 (Ey rfl (r9 (cs := [_, _]) ty_Fact rfl (Has.pt (mS m0)) rfl) (o6 (Est rfl (Ns [_, _] ty_Fact rfl) (fun _ _ => (Eu (E.ret (f8 (i9 (congrArg (ow eIs [_]) (show _ = (I5 (l3, f7) (l2, j5)).2 by grind [I5, d1, d2, t1, t2])) ?_))))))))))))))))
  exact a1L br rfl rfl (mS m0) ty_Fact rfl (_, _, _) trivial (by rw [show ((I5 (l3, f7) (l2, j5)).1) = (l3) from (by grind [I5, d1, d2, t1, t2])]; try rfl) (J := _) (.refl _) (.inl rfl)
end Go.Proofs.YtdopeopehgdccaaGreat
