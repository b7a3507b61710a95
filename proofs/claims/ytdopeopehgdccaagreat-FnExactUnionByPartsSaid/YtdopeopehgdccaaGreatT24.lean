import Derived.Test.YtdopeopehgdccaaGreatT23
namespace Go.Proofs.YtdopeopehgdccaaGreat
open Go.RowKit
set_option linter.all false
set_option maxHeartbeats 2000000
attribute [local irreducible] Nop Yd Yp Ent Has Tr FnP FnP2 Src O8 Y2 a0b a0m G5
variable {j8 d4 : List (Int × List Int)} {F5 f6 s : List Int} {U3 N9 Q6 L7 s8 o9 s5 o1 m_s c_s : Nat} {O0 L8 r5 o2 a_s : Option Addr}
theorem a9W (hpa : j8.length ≤ 4) (hpt : ∀ a ∈ j8, a.2.length ≤ 3) (hph : F5.length ≤ 3) (hpr : ∀ a ∈ j8, a.1 < 3) (hzq : B9 (fun x => x.2.length) d4 ≤ 1048576) : Tr Tryz.prog 215 [.agg #[.slice O0 U3 N9, .slice L8 Q6 L7], .agg #[.slice r5 s8 o9, .slice o2 s5 o1]] (fun w L => Ro w L eIs [.slice O0 U3 N9] F5 ∧ Ro w L w9 [.slice L8 Q6 L7] j8 ∧ Ro w L eIs [.slice r5 s8 o9] f6 ∧ Ro w L w9 [.slice o2 s5 o1] d4) [] (κ := (Option Addr × Nat × Nat) × (Option Addr × Nat × Nat) × (Option Addr × Nat × Nat)) (fun k => True) (fun k => .tuple #[.slice k.1.1 k.1.2.1 k.1.2.2, .agg #[.slice k.2.1.1 k.2.1.2.1 k.2.1.2.2, .slice k.2.2.1 k.2.2.2.1 k.2.2.2.2], .bool (fzB [f0 (fun t => inR t 0 9) j8, f0 (fun t => inR t 0 9) d4].flatten j8)]) (fun k => [ow s9 [.slice k.1.1 k.1.2.1 k.1.2.2] (fzF [f0 (fun t => inR t 0 9) j8, f0 (fun t => inR t 0 9) d4].flatten j8), ow eIs [.slice k.2.1.1 k.2.1.2.1 k.2.1.2.2] (fzV [f0 (fun t => inR t 0 9) j8, f0 (fun t => inR t 0 9) d4].flatten j8), ow eIs [.slice k.2.2.1 k.2.2.2.1 k.2.2.2.2] (fzX [f0 (fun t => inR t 0 9) j8, f0 (fun t => inR t 0 9) d4].flatten j8)]) := by
 refine l0 Tryz.func215 rfl (n := 65) rfl (by decide +kernel) bl (fr := [(0, .agg #[.slice O0 U3 N9, .slice L8 Q6 L7]), (1, .agg #[.slice r5 s8 o9, .slice o2 s5 o1])]) rfl fun w L hR => ?_
 obtain ⟨K3, I8, t7, s0⟩ := hR
 obtain ⟨rfl, a8j⟩ := K3.slen
 obtain ⟨rfl, a6u⟩ := I8.slen
 obtain ⟨rfl, I9⟩ := t7.slen
 obtain ⟨rfl, H0⟩ := s0.slen
 have jcf := V4 (d8 := d4)
 refine Ew Z5 (Est rfl (N.box (cs := [_, _]) rfl dc rfl) (fun b2 _ => (Est rfl (N.box (cs := [_, _]) rfl dc rfl) (fun b3 _ => (Ei rfl (Est rfl (N.alloc ty_Binding dc) (fun b5 _ => (Ei rfl (Ev Z4 (Ey rfl (r9 (cs := [_, _]) ty_Query rfl (Has.pt (mS (mS m0))) rfl) (Est rfl (N.call (a4s om om (fun a ha => Nat.le_trans (hpt a ha) dc)) rfl rfl rfl dc rfl (fun w Lp hA => ⟨hA.ro K3, hA.ro I8⟩)) (fun k16 _ => ?_))))))))))))
 obtain ⟨⟨a16_0, m16_0, c16_0⟩, ⟨a16_1, m16_1, c16_1⟩⟩ := k16
 refine f5 m0 fun e16_0 l16_0 => ?_
 subst e16_0
 refine f5 (mS m0) fun e16_1 l16_1 => ?_
 subst e16_1
 refine Est rfl (N.alloc ty_Query dc) (fun b7 _ => (Est rfl (Ns [_, _] ty_Query rfl) (fun _ _ => (Ev Z3 (Ey rfl (r9 (cs := [_, _]) ty_Query rfl (Has.pt (mS (mS (mS (mS m0))))) rfl) (Est rfl (N.call (a4j fo) rfl rfl rfl dc rfl (fun w Lp hA => ⟨hA.ro t7, hA.ro s0⟩)) (fun k18 _ => ?_)))))))
 obtain ⟨a18, m18, c18⟩ := k18
 refine f5 m0 fun e18 l18 => ?_
 subst e18
 refine a1N (A := [_]) rfl fun wb1 Lb1 hB1 hA1 => ?_
 have K3 := hA1.ro K3
 have I8 := hA1.ro I8
 have t7 := hA1.ro t7
 have s0 := hA1.ro s0
 have rb1 : Ro wb1 Lb1 eIs [.slice a18 (f0 (fun t => inR t 0 9) d4).length c18] (f0 (fun t => inR t 0 9) d4) := hA1.ow m0
 refine Ei rfl (Eu (Eq_ (Ew Z1 (Ei rfl (Eu (E.block (o6 (i9 (congrArg (ow w9 [_]) (show j8 = j8 ++ ((f0 (fun t => inR t 0 9) d4).take 0).map (fun c => ((3 : Int), [c])) from by first | rfl | (simp; done) | grind [d1, d2, t1, t2])) (E.loop (κ := Nat × Option Addr × Nat × Nat) (fun g => g.1 ≤ (f0 (fun t => inR t 0 9) d4).length ∧ True) (fun g => [(5, .pointer (some ⟨b5, 0, none⟩)), (7, .pointer (some ⟨b7, 0, none⟩)), (8, .slice a18 (f0 (fun t => inR t 0 9) d4).length c18), (9, .int .i64 (↑g.1 : Int))]) (fun g => [ow w9 [.slice g.2.1 g.2.2.1 g.2.2.2] (j8 ++ ((f0 (fun t => inR t 0 9) d4).take g.1).map (fun c => ((3 : Int), [c]))), pt b7 61 [.slice a16_0 (F5).length c16_0, .slice g.2.1 g.2.2.1 g.2.2.2], ow eIs [.slice a16_0 (F5).length c16_0] F5, pt b5 125 [.slice none 0 0, .slice none 0 0], pt b3 61 [.slice r5 f6.length o9, .slice o2 d4.length o1], pt b2 61 [.slice O0 F5.length N9, .slice L8 j8.length L7]]) (fun g => (f0 (fun t => inR t 0 9) d4).length - g.1) (0, a16_1, (j8).length, c16_1) ⟨Nat.zero_le _, by simp⟩ ⟨rfl, rfl, rfl, rfl, trivial⟩ (.refl _) (fun g pg => ?_))))))))))
 obtain ⟨g, aA0_0, mA0_0, cA0_0⟩ := g
 try dsimp only at pg
 try dsimp only
 obtain ⟨pk, pa⟩ := pg
 have jp := List.length_take_le g (f0 (fun t => inR t 0 9) d4)
 refine f5 m0 fun eaA0_0 laA0_0 => ?_
 subst eaA0_0
 refine Eq_ (Ew Z4 (Em rfl (Em rfl (Ey rfl ((Y.len us_Is rfl).yd) (Ey rfl ((Y.lss rfl rfl).yd) (o7 (fun q22 => ?_) (fun q22 => ?_)))))))
 ·refine Eu (o5 rfl (i7 (Et (Eq_ (E.block (D.region (fun j => !(Nat.beq j 9) && !(Nat.beq j 11)) mixed (Dyp 0 rfl (j6 fo_Query_1 ty_Atoms dc rfl) (Dy 1 rfl (g9 ty_Atoms rfl (Hz (mS m0) 1 rfl) rfl) (Dyp 2 rfl (o0 rfl) (Dyp 3 rfl (o0 rfl) ?_))))))))))
  obtain ⟨eb29, eo29, ea29, ei29, eh29⟩ := rb1.elemI g om
  refine Dyp 4 rfl (s4 us_Is i8 rfl ea29 rfl g rfl om) (Dy 5 rfl (g9 i8 rfl (eh29 _) rfl) (t6 6 rfl rfl kr (fun _ => rfl) (Nb [_] [_] us_Is i8 rfl rfl) (fun b31 _ => (s7 (A := _ :: _) (Y9 (E := Enc.int) (e := tI) (Own.int ei29)) rfl (Dyp 7 rfl (J2 (pvs := [_, _]) (cs := [_, _]) ty_Atom b1B rfl rfl) (t6 8 rfl rfl kr (fun _ => rfl) (Nb [_] [_, _] us_Atoms ty_Atom rfl rfl) (fun b33 _ => (f8 (f8 (o6 (t6 9 rfl rfl kr (fun h => by cases h) (B1 (E := W7) (ex := (3, [(f0 (fun t => inR t 0 9) d4)[g]])) us_Atoms ty_Atom rfl rfl rfl (a1c (x := (3, [(f0 (fun t => inR t 0 9) d4)[g]])) i6 Own.ow) rfl bn bn dc) (fun p34 _ => (Dyp 10 rfl (j6 fo_Query_1 ty_Atoms dc rfl) (f8 (t6 11 rfl rfl kr (fun h => by cases h) (Ns [_, _] ty_Atoms rfl) (fun _ _ => (s3 kr (t8 (Et (Ez Z3 (Em rfl (Ey rfl ((Y.add rfl rfl om om).yd) (Ei rfl (Eu (f8 (i9 (congrArg (ow w9 [_]) (show (j8 ++ ((f0 (fun t => inR t 0 9) d4).take g).map (fun c => ((3 : Int), [c]))) ++ [(3, [(f0 (fun t => inR t 0 9) d4)[g]])] = j8 ++ ((f0 (fun t => inR t 0 9) d4).take (g + 1)).map (fun c => ((3 : Int), [c])) from by grind [d1, d2, t1, t2])) (y6 (y6 (y6 (y6 (y6 (y6 ?_))))))))))))))))))))))))))))))))
  exact Ea (g + 1, p34.1, ((j8 ++ ((f0 (fun t => inR t 0 9) d4).take g).map (fun c => ((3 : Int), [c]))).length + 1), p34.2) ⟨oz, trivial⟩
 ·refine Eu (o4 rfl (E.exit (o3 (o3 (w3 (Et (Ew Z10 (Ey rfl (r9 (cs := [_, _]) ty_Query rfl (Has.pt (mS m0)) rfl) (Est rfl (N.call (a7p (b9X hpa hpt (by have := V4 (d8 := d4); simp only [List.length_take]; omega))) rfl rfl rfl dc rfl (fun w Lp hA => ⟨hA.ow (mS (mS m0)), hA.ow m0⟩)) (fun k38 _ => ?_))))))))))
  obtain ⟨⟨a38_0, m38_0, c38_0⟩, ⟨a38_1, m38_1, c38_1⟩, ⟨a38_2, m38_2, c38_2⟩⟩ := k38
  refine f5 m0 fun e38_0 l38_0 => ?_
  subst e38_0
  refine f5 (mS m0) fun e38_1 l38_1 => ?_
  subst e38_1
  refine f5 (mS (mS m0)) fun e38_2 l38_2 => ?_
  subst e38_2
  refine Em rfl (Ey rfl ((Y.ext rfl rfl).yd) (Ey rfl ((Y.ext rfl rfl).yd) (Ey rfl ((Y.ext rfl rfl).yd) (Est rfl (N.alloc ty_Binding dc) (fun b11 _ => (Ei rfl (Est rfl (Ns [_, _] ty_Binding rfl) (fun _ _ => (Ei rfl (Ev Z2 (Est rfl (Nb [] [] us_Facts ty_Fact rfl rfl) (fun b42 _ => (Ent.drop (Ei rfl (Eu (Eq_ (Ew Z1 (Ei rfl (Eu (E.block (s7 (A := []) (Own.nil (E := F8) (e := tFact) (a := (some ⟨b42, 0, none⟩))) rfl (i9 (congrArg (ow s9 [_]) (show [] = ((fzF (f0 (fun t => inR t 0 9) (j8 ++ ((f0 (fun t => inR t 0 9) d4).take g).map (fun c => ((3 : Int), [c])))) (j8 ++ ((f0 (fun t => inR t 0 9) d4).take g).map (fun c => ((3 : Int), [c])))).take 0).filter (fun f => decide (f.1 < 3)) from by first | rfl | (simp; done) | grind [d1, d2, t1, t2])) (o6 (a8n (E.loop (κ := Nat × Option Addr × Nat × Nat) (fun r => r.1 ≤ (fzF (f0 (fun t => inR t 0 9) (j8 ++ ((f0 (fun t => inR t 0 9) d4).take g).map (fun c => ((3 : Int), [c])))) (j8 ++ ((f0 (fun t => inR t 0 9) d4).take g).map (fun c => ((3 : Int), [c])))).length ∧ True) (fun r => [(5, .pointer (some ⟨b5, 0, none⟩)), (10, .slice a38_0 (fzF (f0 (fun t => inR t 0 9) (j8 ++ ((f0 (fun t => inR t 0 9) d4).take g).map (fun c => ((3 : Int), [c])))) (j8 ++ ((f0 (fun t => inR t 0 9) d4).take g).map (fun c => ((3 : Int), [c])))).length c38_0), (11, .pointer (some ⟨b11, 0, none⟩)), (12, .bool (fzB (f0 (fun t => inR t 0 9) (j8 ++ ((f0 (fun t => inR t 0 9) d4).take g).map (fun c => ((3 : Int), [c])))) (j8 ++ ((f0 (fun t => inR t 0 9) d4).take g).map (fun c => ((3 : Int), [c]))))), (13, .slice r.2.1 r.2.2.1 r.2.2.2), (14, .int .i64 (↑r.1 : Int))]) (fun r => [owd tFact F8 a38_0 ((fzF (f0 (fun t => inR t 0 9) (j8 ++ ((f0 (fun t => inR t 0 9) d4).take g).map (fun c => ((3 : Int), [c])))) (j8 ++ ((f0 (fun t => inR t 0 9) d4).take g).map (fun c => ((3 : Int), [c])))).length) c38_0 (fzF (f0 (fun t => inR t 0 9) (j8 ++ ((f0 (fun t => inR t 0 9) d4).take g).map (fun c => ((3 : Int), [c])))) (j8 ++ ((f0 (fun t => inR t 0 9) d4).take g).map (fun c => ((3 : Int), [c])))) r.1, ow s9 [.slice r.2.1 r.2.2.1 r.2.2.2] (((fzF (f0 (fun t => inR t 0 9) (j8 ++ ((f0 (fun t => inR t 0 9) d4).take g).map (fun c => ((3 : Int), [c])))) (j8 ++ ((f0 (fun t => inR t 0 9) d4).take g).map (fun c => ((3 : Int), [c])))).take r.1).filter (fun f => decide (f.1 < 3))), pt b11 125 [.slice a38_1 (fzV (f0 (fun t => inR t 0 9) (j8 ++ ((f0 (fun t => inR t 0 9) d4).take g).map (fun c => ((3 : Int), [c])))) (j8 ++ ((f0 (fun t => inR t 0 9) d4).take g).map (fun c => ((3 : Int), [c])))).length c38_1, .slice a38_2 (fzX (f0 (fun t => inR t 0 9) (j8 ++ ((f0 (fun t => inR t 0 9) d4).take g).map (fun c => ((3 : Int), [c])))) (j8 ++ ((f0 (fun t => inR t 0 9) d4).take g).map (fun c => ((3 : Int), [c])))).length c38_2], ow eIs [.slice a38_1 (fzV (f0 (fun t => inR t 0 9) (j8 ++ ((f0 (fun t => inR t 0 9) d4).take g).map (fun c => ((3 : Int), [c])))) (j8 ++ ((f0 (fun t => inR t 0 9) d4).take g).map (fun c => ((3 : Int), [c])))).length c38_1] (fzV (f0 (fun t => inR t 0 9) (j8 ++ ((f0 (fun t => inR t 0 9) d4).take g).map (fun c => ((3 : Int), [c])))) (j8 ++ ((f0 (fun t => inR t 0 9) d4).take g).map (fun c => ((3 : Int), [c])))), ow eIs [.slice a38_2 (fzX (f0 (fun t => inR t 0 9) (j8 ++ ((f0 (fun t => inR t 0 9) d4).take g).map (fun c => ((3 : Int), [c])))) (j8 ++ ((f0 (fun t => inR t 0 9) d4).take g).map (fun c => ((3 : Int), [c])))).length c38_2] (fzX (f0 (fun t => inR t 0 9) (j8 ++ ((f0 (fun t => inR t 0 9) d4).take g).map (fun c => ((3 : Int), [c])))) (j8 ++ ((f0 (fun t => inR t 0 9) d4).take g).map (fun c => ((3 : Int), [c])))), ow w9 [.slice aA0_0 (j8 ++ ((f0 (fun t => inR t 0 9) d4).take g).map (fun c => ((3 : Int), [c]))).length cA0_0] (j8 ++ ((f0 (fun t => inR t 0 9) d4).take g).map (fun c => ((3 : Int), [c]))), pt b7 61 [.slice a16_0 (F5).length c16_0, .slice aA0_0 (j8 ++ ((f0 (fun t => inR t 0 9) d4).take g).map (fun c => ((3 : Int), [c]))).length cA0_0], ow eIs [.slice a16_0 (F5).length c16_0] F5, pt b5 125 [.slice none 0 0, .slice none 0 0], pt b3 61 [.slice r5 f6.length o9, .slice o2 d4.length o1], pt b2 61 [.slice O0 F5.length N9, .slice L8 j8.length L7]]) (fun r => (fzF (f0 (fun t => inR t 0 9) (j8 ++ ((f0 (fun t => inR t 0 9) d4).take g).map (fun c => ((3 : Int), [c])))) (j8 ++ ((f0 (fun t => inR t 0 9) d4).take g).map (fun c => ((3 : Int), [c])))).length - r.1) (0, (some ⟨b42, 0, none⟩), 0, 0) ⟨Nat.zero_le _, by simp⟩ ⟨rfl, rfl, rfl, rfl, rfl, rfl, trivial⟩ (.refl _) (fun r pr => ?_))))))))))))))))))))))))))
  obtain ⟨r, aA1_0, mA1_0, cA1_0⟩ := r
  try dsimp only at pr
  try dsimp only
  obtain ⟨pk, pa⟩ := pr
  have jf := List.length_filter_le (fun f => decide (f.1 < 3)) ((fzF (f0 (fun t => inR t 0 9) (j8 ++ ((f0 (fun t => inR t 0 9) d4).take g).map (fun c => ((3 : Int), [c])))) (j8 ++ ((f0 (fun t => inR t 0 9) d4).take g).map (fun c => ((3 : Int), [c])))).take r)
  have jt := List.length_take_le r (fzF (f0 (fun t => inR t 0 9) (j8 ++ ((f0 (fun t => inR t 0 9) d4).take g).map (fun c => ((3 : Int), [c])))) (j8 ++ ((f0 (fun t => inR t 0 9) d4).take g).map (fun c => ((3 : Int), [c]))))
  have jl := a3F (u := f0 (fun t => inR t 0 9) (j8 ++ ((f0 (fun t => inR t 0 9) d4).take g).map (fun c => ((3 : Int), [c])))) (d8 := (j8 ++ ((f0 (fun t => inR t 0 9) d4).take g).map (fun c => ((3 : Int), [c]))))
  have jm : (j8 ++ ((f0 (fun t => inR t 0 9) d4).take g).map (fun c => ((3 : Int), [c]))).length ≤ 14 := by simp only [List.length_append, List.length_map, List.length_take]; omega
  refine f5 (mS m0) fun eaA1_0 laA1_0 => ?_
  subst eaA1_0
  refine Eq_ (Ew Z4 (Em rfl (Em rfl (Ey rfl ((Y.len us_Facts rfl).yd) (Ey rfl ((Y.lss rfl rfl).yd) (o7 (fun q46 => ?_) (fun q46 => ?_)))))))
  ·refine Eu (o5 rfl (i7 (Et (Eq_ (E.block (Ew Z6 (Em rfl (Em rfl (a6y m0 om fun ab51 ae51 => (a8o (j := r) om fun ce51 => (f8 (a4r fun oa51_1 om51_1 oc51_1 oe51 oi51_0 on51_1 => ?_))))))))))))
   subst oe51
   subst on51_1
   refine f5 m0 fun _ ol51_1 => (Ey rfl ((s4 us_Facts ty_Fact rfl ae51 rfl r rfl om).yd) (Ey rfl ((j6 fo_Fact_0 i8 dc rfl).yd) (Ey rfl (g9 i8 rfl ((Has.owt ae51 (mS m0)).sub (cs' := [_]) 0 rfl) rfl) (Ey rfl ((Y.lss rfl rfl).yd) (o7 (fun q54 => ?_) (fun q54 => ?_))))))
   ·refine Eu (o5 rfl (Ez Z8 (Em rfl (Em rfl (Em rfl (Ey rfl ((s4 us_Facts ty_Fact rfl ae51 rfl r rfl om).yd) (Ey rfl (r9 (cs := [_, _]) ty_Fact rfl (Has.owt ae51 (mS m0)) rfl) (Est rfl (Nb [_] [_, _] us_Facts ty_Fact rfl rfl) (fun b60 _ => (f8 (f8 (v7 (Est rfl (B1 (E := F8) (ex := (fzF (f0 (fun t => inR t 0 9) (j8 ++ ((f0 (fun t => inR t 0 9) d4).take g).map (fun c => ((3 : Int), [c])))) (j8 ++ ((f0 (fun t => inR t 0 9) d4).take g).map (fun c => ((3 : Int), [c]))))[r]) us_Facts ty_Fact rfl rfl rfl (J9 (x := (fzF (f0 (fun t => inR t 0 9) (j8 ++ ((f0 (fun t => inR t 0 9) d4).take g).map (fun c => ((3 : Int), [c])))) (j8 ++ ((f0 (fun t => inR t 0 9) d4).take g).map (fun c => ((3 : Int), [c]))))[r]) oi51_0 Own.ow) rfl bn bn dc) (fun p61 _ => (Ei rfl (En (t8 (Et (Ez Z3 (Em rfl (Ey rfl ((Y.add rfl rfl om om).yd) (Ei rfl (Eu (f8 (a4c (f8 (i9 (congrArg (ow s9 [_]) (show (((fzF (f0 (fun t => inR t 0 9) (j8 ++ ((f0 (fun t => inR t 0 9) d4).take g).map (fun c => ((3 : Int), [c])))) (j8 ++ ((f0 (fun t => inR t 0 9) d4).take g).map (fun c => ((3 : Int), [c])))).take r).filter (fun f => decide (f.1 < 3))) ++ [(fzF (f0 (fun t => inR t 0 9) (j8 ++ ((f0 (fun t => inR t 0 9) d4).take g).map (fun c => ((3 : Int), [c])))) (j8 ++ ((f0 (fun t => inR t 0 9) d4).take g).map (fun c => ((3 : Int), [c]))))[r]] = ((fzF (f0 (fun t => inR t 0 9) (j8 ++ ((f0 (fun t => inR t 0 9) d4).take g).map (fun c => ((3 : Int), [c])))) (j8 ++ ((f0 (fun t => inR t 0 9) d4).take g).map (fun c => ((3 : Int), [c])))).take (r + 1)).filter (fun f => decide (f.1 < 3)) from by grind [d1, d2, t1, t2])) (P6 (P6 (P6 (P6 (P6 (P6 (P6 (P6 (P6 (a4W (P6 ?_))))))))))))))))))))))))))))))))))))))
    exact Ea (r + 1, p61.1, ((((fzF (f0 (fun t => inR t 0 9) (j8 ++ ((f0 (fun t => inR t 0 9) d4).take g).map (fun c => ((3 : Int), [c])))) (j8 ++ ((f0 (fun t => inR t 0 9) d4).take g).map (fun c => ((3 : Int), [c])))).take r).filter (fun f => decide (f.1 < 3))).length + 1), p61.2) ⟨oz, trivial⟩
   ·refine Eu (o4 rfl (i7 (t8 (Et (Ez Z3 (Em rfl (Ey rfl ((Y.add rfl rfl om om).yd) (Ei rfl (Eu (f8 (a4c (f8 (Ent.drop (f8 (i9 (congrArg (ow s9 [_]) (show ((fzF (f0 (fun t => inR t 0 9) (j8 ++ ((f0 (fun t => inR t 0 9) d4).take g).map (fun c => ((3 : Int), [c])))) (j8 ++ ((f0 (fun t => inR t 0 9) d4).take g).map (fun c => ((3 : Int), [c])))).take r).filter (fun f => decide (f.1 < 3)) = ((fzF (f0 (fun t => inR t 0 9) (j8 ++ ((f0 (fun t => inR t 0 9) d4).take g).map (fun c => ((3 : Int), [c])))) (j8 ++ ((f0 (fun t => inR t 0 9) d4).take g).map (fun c => ((3 : Int), [c])))).take (r + 1)).filter (fun f => decide (f.1 < 3)) from by grind [d1, d2, t1, t2])) (P6 (P6 (P6 (P6 (P6 (P6 (P6 (P6 (P6 (a4W (P6 ?_))))))))))))))))))))))))))
    exact Ea (r + 1, aA1_0, (((fzF (f0 (fun t => inR t 0 9) (j8 ++ ((f0 (fun t => inR t 0 9) d4).take g).map (fun c => ((3 : Int), [c])))) (j8 ++ ((f0 (fun t => inR t 0 9) d4).take g).map (fun c => ((3 : Int), [c])))).take r).filter (fun f => decide (f.1 < 3))).length, cA1_0) ⟨oz, trivial⟩
  ·have jX : (j8 ++ ((f0 (fun t => inR t 0 9) d4).take g).map (fun c => ((3 : Int), [c]))) = xF j8 d4 := by rw [List.take_of_length_le om]; rfl
   refine Eu (o4 rfl (E.exit (o3 (o3 (w3 (Et (Eq_ (D.region (fun j => !(Nat.beq j 4)) mixed (Dyp 0 rfl (o0 rfl) (Dy 1 rfl (r9 (cs := [_, _]) ty_Binding rfl (Has.pt (mS (mS m0))) rfl) (Dyp 2 rfl (o0 rfl) (Dyp 3 rfl (F0 rfl) (C0 (t6 4 rfl rfl kr (fun h => by cases h) (Ns [_, _] ty_Binding rfl) (fun _ _ => (Dyp 5 rfl (F0 rfl) (s3 kr (Et (E.ret (y6 (i9 (congrArg (ow eIs [_]) (show _ = fzX [f0 (fun t => inR t 0 9) j8, f0 (fun t => inR t 0 9) d4].flatten j8 by first | (rw [List.take_of_length_le om, jX]; exact x_F hpr) | (rw [jX]; first | exact x_V | exact x_X | exact x_B | exact x_B.symm))) (y6 (i9 (congrArg (ow eIs [_]) (show _ = fzV [f0 (fun t => inR t 0 9) j8, f0 (fun t => inR t 0 9) d4].flatten j8 by first | (rw [List.take_of_length_le om, jX]; exact x_F hpr) | (rw [jX]; first | exact x_V | exact x_X | exact x_B | exact x_B.symm))) (x5 (i9 (congrArg (ow s9 [_]) (show _ = fzF [f0 (fun t => inR t 0 9) j8, f0 (fun t => inR t 0 9) d4].flatten j8 by first | (rw [List.take_of_length_le om, jX]; exact x_F hpr) | (rw [jX]; first | exact x_V | exact x_X | exact x_B | exact x_B.symm))) (o6 (o6 (o6 ?_))))))))))))))))))))))))))))
   exact b4r hB1 rfl rfl rfl rfl (mS (mS (mS m0))) ty_Binding rfl ((_, _, _), (_, _, _), (_, _, _)) trivial (by rw [show (fzB [f0 (fun t => inR t 0 9) j8, f0 (fun t => inR t 0 9) d4].flatten j8) = (fzB (f0 (fun t => inR t 0 9) (j8 ++ ((f0 (fun t => inR t 0 9) d4).take g).map (fun c => ((3 : Int), [c])))) (j8 ++ ((f0 (fun t => inR t 0 9) d4).take g).map (fun c => ((3 : Int), [c])))) from (by first | (rw [List.take_of_length_le om, jX]; exact x_F hpr) | (rw [jX]; first | exact x_V | exact x_X | exact x_B | exact x_B.symm))]; try rfl) (J := _) (.refl _) (.inl rfl)
theorem a9t (hpa : j8.length ≤ 4) (hpt : ∀ a ∈ j8, a.2.length ≤ 3) (hph : F5.length ≤ 3) (hqa : d4.length ≤ 4) (hqt : ∀ a ∈ d4, a.2.length ≤ 3) (hqh : f6.length ≤ 3) (hzp : B9 (fun x => x.2.length) j8 ≤ 1048576) (hzq : B9 (fun x => x.2.length) d4 ≤ 1048576) : Tr Tryz.prog 217 [.agg #[.slice O0 U3 N9, .slice L8 Q6 L7], .agg #[.slice r5 s8 o9, .slice o2 s5 o1]] (fun w L => Ro w L eIs [.slice O0 U3 N9] F5 ∧ Ro w L w9 [.slice L8 Q6 L7] j8 ∧ Ro w L eIs [.slice r5 s8 o9] f6 ∧ Ro w L w9 [.slice o2 s5 o1] d4) [] (κ := Unit) (fun k => True) (fun k => .bool (a3g (F5, j8) (f6, d4))) (fun k => []) := by
 refine l0 Tryz.func217 rfl (n := 41) rfl (by decide +kernel) bl (fr := [(0, .agg #[.slice O0 U3 N9, .slice L8 Q6 L7]), (1, .agg #[.slice r5 s8 o9, .slice o2 s5 o1])]) rfl fun w L hR => ?_
 obtain ⟨K3, I8, t7, s0⟩ := hR
 obtain ⟨rfl, a8j⟩ := K3.slen
 obtain ⟨rfl, a6u⟩ := I8.slen
 obtain ⟨rfl, I9⟩ := t7.slen
 obtain ⟨rfl, H0⟩ := s0.slen
 refine Ew Z3 (Est rfl (N.box (cs := [_, _]) rfl dc rfl) (fun b2 _ => (Est rfl (N.box (cs := [_, _]) rfl dc rfl) (fun b3 _ => (Ei rfl (Eu (Eq_ (Ew Z7 (Ey rfl ((j6 fo_Query_0 ty_Is dc rfl).yd) (Ey rfl (g9 ty_Is rfl (Hz (mS m0) 0 rfl) rfl) (Ey rfl ((Y.len us_Is rfl).yd) (Ey rfl ((j6 fo_Query_0 ty_Is dc rfl).yd) (Ey rfl (g9 ty_Is rfl (Hz m0 0 rfl) rfl) (Ey rfl ((Y.len us_Is rfl).yd) (Ey rfl ((Y.neq rfl rfl).yd) (o7 (fun q16 => ?_) (fun q16 => ?_)))))))))))))))))
 ·refine Eu (o5 rfl (Ew Z1 (Ei rfl ?_)))
  exact Eu (E.ret (l4 (Fb rfl rfl (by grind [a3g, d1, d2, t1, t2]))))
 ·refine Eu (o4 rfl (i7 (Et (Eq_ (a3z (κ := Option Addr × Nat × Nat × Option Addr × Nat × Option Addr × Nat) (fun _ => True) (fun kM => [(2, .pointer (some ⟨b2, 0, none⟩)), (3, .pointer (some ⟨b3, 0, none⟩)), (5, .slice kM.1 (fzF (([f0 (fun t => inR t 0 9) j8, f0 (fun t => inR t 0 9) d4]).flatten) j8).length kM.2.1), (6, .pointer (some ⟨kM.2.2.1, 0, none⟩)), (7, .bool (fzB (([f0 (fun t => inR t 0 9) j8, f0 (fun t => inR t 0 9) d4]).flatten) j8))]) (fun kM => [pt kM.2.2.1 125 [.slice kM.2.2.2.1 (fzV (([f0 (fun t => inR t 0 9) j8, f0 (fun t => inR t 0 9) d4]).flatten) j8).length kM.2.2.2.2.1, .slice kM.2.2.2.2.2.1 (fzX (([f0 (fun t => inR t 0 9) j8, f0 (fun t => inR t 0 9) d4]).flatten) j8).length kM.2.2.2.2.2.2], ow s9 [.slice kM.1 (fzF (([f0 (fun t => inR t 0 9) j8, f0 (fun t => inR t 0 9) d4]).flatten) j8).length kM.2.1] (fzF (([f0 (fun t => inR t 0 9) j8, f0 (fun t => inR t 0 9) d4]).flatten) j8), ow eIs [.slice kM.2.2.2.1 (fzV (([f0 (fun t => inR t 0 9) j8, f0 (fun t => inR t 0 9) d4]).flatten) j8).length kM.2.2.2.2.1] (fzV (([f0 (fun t => inR t 0 9) j8, f0 (fun t => inR t 0 9) d4]).flatten) j8), ow eIs [.slice kM.2.2.2.2.2.1 (fzX (([f0 (fun t => inR t 0 9) j8, f0 (fun t => inR t 0 9) d4]).flatten) j8).length kM.2.2.2.2.2.2] (fzX (([f0 (fun t => inR t 0 9) j8, f0 (fun t => inR t 0 9) d4]).flatten) j8), pt b3 61 [.slice r5 f6.length o9, .slice o2 d4.length o1], pt b2 61 [.slice O0 F5.length N9, .slice L8 j8.length L7]]) ?_ (fun kM _ => ?_))))))
  ·refine D.region (fun j => !(Nat.beq j 14)) mixed (Dy 0 rfl (r9 (cs := [_, _]) ty_Query rfl (Has.pt (mS m0)) rfl) (Dy 1 rfl (r9 (cs := [_, _]) ty_Query rfl (Has.pt (mS m0)) rfl) (Dy 3 rfl (r9 (cs := [_, _]) ty_Query rfl (Has.pt m0) rfl) (a1i (i := 2) (j := 12) kr ?_ ?_))))
   ·refine V3 2 rfl rfl (fun _ => rfl) (N.call (a0a fo) rfl rfl rfl dc rfl (fun w Lp hA => ⟨hA.ro K3, hA.ro I8⟩)) (fun k20 _ => ?_)
    obtain ⟨a20, m20, c20⟩ := k20
    refine f5 m0 fun e20 l20 => ?_
    subst e20
    refine a1i (i := 4) (j := 12) kr ?_ ?_
    ·refine V3 4 rfl rfl (fun _ => rfl) (N.call (a0a fo) rfl rfl rfl dc rfl (fun w Lp hA => ⟨hA.ro t7, hA.ro s0⟩)) (fun k22 _ => ?_)
     obtain ⟨a22, m22, c22⟩ := k22
     refine f5 m0 fun e22 l22 => ?_
     subst e22
     refine a1i (i := 5) (j := 12) kr ?_ ?_
     ·refine V3 5 rfl rfl (fun _ => rfl) (Nb [_, _] [_, _] us_Iss ty_Is rfl rfl) (fun b23 _ => (f8 (o6 (o6 (s7 (a6B (E := eIs) (e := tIs) (c1 := [.slice a20 (f0 (fun t => inR t 0 9) j8).length c20]) (c2 := [.slice a22 (f0 (fun t => inR t 0 9) d4).length c22]) Own.ow Own.ow) rfl (a1i (i := 6) (j := 12) kr ?_ ?_))))))
      ·refine V3 6 rfl rfl (fun _ => rfl) (N.call (T4 (by have h1 := V4 (d8 := j8); have h2 := V4 (d8 := d4); simp [a0l]; omega)) rfl rfl rfl dc rfl (fun w Lp hA => hA.ow m0)) (fun k24 _ => ?_)
       obtain ⟨a24, m24, c24⟩ := k24
       refine f5 m0 fun e24 l24 => ?_
       subst e24
       refine a1i (i := 7) (j := 12) kr ?_ ?_
       ·refine V3 7 rfl rfl (fun _ => rfl) (N.call (a0S fo (a5C (p := j8) (q := d4))) rfl rfl rfl dc rfl (fun w Lp hA => ⟨hA.ro K3, hA.ro I8, hA.ow m0⟩)) (fun k25 _ => ?_)
        obtain ⟨⟨a25_0, m25_0, c25_0⟩, ⟨a25_1, m25_1, c25_1⟩, ⟨a25_2, m25_2, c25_2⟩⟩ := k25
        refine f5 m0 fun e25_0 l25_0 => ?_
        subst e25_0
        refine f5 (mS m0) fun e25_1 l25_1 => ?_
        subst e25_1
        refine f5 (mS (mS m0)) fun e25_2 l25_2 => ?_
        subst e25_2
        refine Dyp 8 rfl (o0 rfl) (Dyp 9 rfl (Y.ext rfl rfl) (Dyp 10 rfl (Y.ext rfl rfl) (Dyp 11 rfl (Y.ext rfl rfl) (t6 12 rfl rfl kr (fun _ => rfl) (N.alloc ty_Binding dc) (fun b6 _ => (Dyp 13 rfl (F0 rfl) (t6 14 rfl rfl kr (fun h => by cases h) (Ns [_, _] ty_Binding rfl) (fun _ _ => (Dyp 15 rfl (F0 rfl) (s3 kr (x5 (Ent.drop (x5 (Ent.drop (y6 (y6 (y6 (y6 (y6 (y6 ?_))))))))))))))))))))
        exact P9 (a25_0, c25_0, b6, a25_1, c25_1, a25_2, c25_2) trivial ⟨rfl, rfl, rfl, rfl, rfl, trivial⟩ (.refl _)
       ·refine V3 12 rfl rfl (fun _ => rfl) (N.alloc ty_Binding dc) (fun b6 _ => (t6 7 rfl rfl kr (fun _ => rfl) (N.call (a0S fo (a5C (p := j8) (q := d4))) rfl rfl rfl dc rfl (fun w Lp hA => ⟨hA.ro K3, hA.ro I8, hA.ow (mS m0)⟩)) (fun k25 _ => ?_)))
        obtain ⟨⟨a25_0, m25_0, c25_0⟩, ⟨a25_1, m25_1, c25_1⟩, ⟨a25_2, m25_2, c25_2⟩⟩ := k25
        refine f5 m0 fun e25_0 l25_0 => ?_
        subst e25_0
        refine f5 (mS m0) fun e25_1 l25_1 => ?_
        subst e25_1
        refine f5 (mS (mS m0)) fun e25_2 l25_2 => ?_
        subst e25_2
        refine Dyp 8 rfl (o0 rfl) (Dyp 9 rfl (Y.ext rfl rfl) (Dyp 10 rfl (Y.ext rfl rfl) (Dyp 11 rfl (Y.ext rfl rfl) (Dyp 13 rfl (F0 rfl) (v7 (t6 14 rfl rfl kr (fun h => by cases h) (Ns [_, _] ty_Binding rfl) (fun _ _ => (Dyp 15 rfl (F0 rfl) (s3 kr (x5 (Ent.drop (x5 (Ent.drop (y6 (y6 (y6 (y6 (y6 (y6 ?_)))))))))))))))))))
        exact P9 (a25_0, c25_0, b6, a25_1, c25_1, a25_2, c25_2) trivial ⟨rfl, rfl, rfl, rfl, rfl, trivial⟩ (.refl _)
      ·refine V3 12 rfl rfl (fun _ => rfl) (N.alloc ty_Binding dc) (fun b6 _ => (t6 6 rfl rfl kr (fun _ => rfl) (N.call (T4 (by have h1 := V4 (d8 := j8); have h2 := V4 (d8 := d4); simp [a0l]; omega)) rfl rfl rfl dc rfl (fun w Lp hA => hA.ow (mS m0))) (fun k24 _ => ?_)))
       obtain ⟨a24, m24, c24⟩ := k24
       refine f5 m0 fun e24 l24 => ?_
       subst e24
       refine t6 7 rfl rfl kr (fun _ => rfl) (N.call (a0S fo (a5C (p := j8) (q := d4))) rfl rfl rfl dc rfl (fun w Lp hA => ⟨hA.ro K3, hA.ro I8, hA.ow m0⟩)) (fun k25 _ => ?_)
       obtain ⟨⟨a25_0, m25_0, c25_0⟩, ⟨a25_1, m25_1, c25_1⟩, ⟨a25_2, m25_2, c25_2⟩⟩ := k25
       refine f5 m0 fun e25_0 l25_0 => ?_
       subst e25_0
       refine f5 (mS m0) fun e25_1 l25_1 => ?_
       subst e25_1
       refine f5 (mS (mS m0)) fun e25_2 l25_2 => ?_
       subst e25_2
       refine Dyp 8 rfl (o0 rfl) (Dyp 9 rfl (Y.ext rfl rfl) (Dyp 10 rfl (Y.ext rfl rfl) (Dyp 11 rfl (Y.ext rfl rfl) (Dyp 13 rfl (F0 rfl) (x5 (t6 14 rfl rfl kr (fun h => by cases h) (Ns [_, _] ty_Binding rfl) (fun _ _ => (Dyp 15 rfl (F0 rfl) (s3 kr (x5 (Ent.drop (x5 (Ent.drop (y6 (y6 (y6 (y6 (y6 (y6 ?_)))))))))))))))))))
       exact P9 (a25_0, c25_0, b6, a25_1, c25_1, a25_2, c25_2) trivial ⟨rfl, rfl, rfl, rfl, rfl, trivial⟩ (.refl _)
     ·refine V3 12 rfl rfl (fun _ => rfl) (N.alloc ty_Binding dc) (fun b6 _ => (t6 5 rfl rfl kr (fun _ => rfl) (Nb [_, _] [_, _] us_Iss ty_Is rfl rfl) (fun b23 _ => (o6 (v7 (o6 (s7 (a6B (E := eIs) (e := tIs) (c1 := [.slice a20 (f0 (fun t => inR t 0 9) j8).length c20]) (c2 := [.slice a22 (f0 (fun t => inR t 0 9) d4).length c22]) Own.ow Own.ow) rfl (t6 6 rfl rfl kr (fun _ => rfl) (N.call (T4 (by have h1 := V4 (d8 := j8); have h2 := V4 (d8 := d4); simp [a0l]; omega)) rfl rfl rfl dc rfl (fun w Lp hA => hA.ow m0)) (fun k24 _ => ?_)))))))))
      obtain ⟨a24, m24, c24⟩ := k24
      refine f5 m0 fun e24 l24 => ?_
      subst e24
      refine t6 7 rfl rfl kr (fun _ => rfl) (N.call (a0S fo (a5C (p := j8) (q := d4))) rfl rfl rfl dc rfl (fun w Lp hA => ⟨hA.ro K3, hA.ro I8, hA.ow m0⟩)) (fun k25 _ => ?_)
      obtain ⟨⟨a25_0, m25_0, c25_0⟩, ⟨a25_1, m25_1, c25_1⟩, ⟨a25_2, m25_2, c25_2⟩⟩ := k25
      refine f5 m0 fun e25_0 l25_0 => ?_
      subst e25_0
      refine f5 (mS m0) fun e25_1 l25_1 => ?_
      subst e25_1
      refine f5 (mS (mS m0)) fun e25_2 l25_2 => ?_
      subst e25_2
      refine Dyp 8 rfl (o0 rfl) (Dyp 9 rfl (Y.ext rfl rfl) (Dyp 10 rfl (Y.ext rfl rfl) (Dyp 11 rfl (Y.ext rfl rfl) (Dyp 13 rfl (F0 rfl) (y6 (t6 14 rfl rfl kr (fun h => by cases h) (Ns [_, _] ty_Binding rfl) (fun _ _ => (Dyp 15 rfl (F0 rfl) (s3 kr (x5 (Ent.drop (x5 (Ent.drop (y6 (y6 (y6 (y6 (y6 (y6 ?_)))))))))))))))))))
      exact P9 (a25_0, c25_0, b6, a25_1, c25_1, a25_2, c25_2) trivial ⟨rfl, rfl, rfl, rfl, rfl, trivial⟩ (.refl _)
    ·refine V3 12 rfl rfl (fun _ => rfl) (N.alloc ty_Binding dc) (fun b6 _ => (t6 4 rfl rfl kr (fun _ => rfl) (N.call (a0a fo) rfl rfl rfl dc rfl (fun w Lp hA => ⟨hA.ro t7, hA.ro s0⟩)) (fun k22 _ => ?_)))
     obtain ⟨a22, m22, c22⟩ := k22
     refine f5 m0 fun e22 l22 => ?_
     subst e22
     refine t6 5 rfl rfl kr (fun _ => rfl) (Nb [_, _] [_, _] us_Iss ty_Is rfl rfl) (fun b23 _ => (f8 (v7 (o6 (s7 (a6B (E := eIs) (e := tIs) (c1 := [.slice a20 (f0 (fun t => inR t 0 9) j8).length c20]) (c2 := [.slice a22 (f0 (fun t => inR t 0 9) d4).length c22]) Own.ow Own.ow) rfl (t6 6 rfl rfl kr (fun _ => rfl) (N.call (T4 (by have h1 := V4 (d8 := j8); have h2 := V4 (d8 := d4); simp [a0l]; omega)) rfl rfl rfl dc rfl (fun w Lp hA => hA.ow m0)) (fun k24 _ => ?_)))))))
     obtain ⟨a24, m24, c24⟩ := k24
     refine f5 m0 fun e24 l24 => ?_
     subst e24
     refine t6 7 rfl rfl kr (fun _ => rfl) (N.call (a0S fo (a5C (p := j8) (q := d4))) rfl rfl rfl dc rfl (fun w Lp hA => ⟨hA.ro K3, hA.ro I8, hA.ow m0⟩)) (fun k25 _ => ?_)
     obtain ⟨⟨a25_0, m25_0, c25_0⟩, ⟨a25_1, m25_1, c25_1⟩, ⟨a25_2, m25_2, c25_2⟩⟩ := k25
     refine f5 m0 fun e25_0 l25_0 => ?_
     subst e25_0
     refine f5 (mS m0) fun e25_1 l25_1 => ?_
     subst e25_1
     refine f5 (mS (mS m0)) fun e25_2 l25_2 => ?_
     subst e25_2
     refine Dyp 8 rfl (o0 rfl) (Dyp 9 rfl (Y.ext rfl rfl) (Dyp 10 rfl (Y.ext rfl rfl) (Dyp 11 rfl (Y.ext rfl rfl) (Dyp 13 rfl (F0 rfl) (y6 (t6 14 rfl rfl kr (fun h => by cases h) (Ns [_, _] ty_Binding rfl) (fun _ _ => (Dyp 15 rfl (F0 rfl) (s3 kr (x5 (Ent.drop (x5 (Ent.drop (y6 (y6 (y6 (y6 (y6 (y6 ?_)))))))))))))))))))
     exact P9 (a25_0, c25_0, b6, a25_1, c25_1, a25_2, c25_2) trivial ⟨rfl, rfl, rfl, rfl, rfl, trivial⟩ (.refl _)
   ·refine V3 12 rfl rfl (fun _ => rfl) (N.alloc ty_Binding dc) (fun b6 _ => (t6 2 rfl rfl kr (fun _ => rfl) (N.call (a0a fo) rfl rfl rfl dc rfl (fun w Lp hA => ⟨hA.ro K3, hA.ro I8⟩)) (fun k20 _ => ?_)))
    obtain ⟨a20, m20, c20⟩ := k20
    refine f5 m0 fun e20 l20 => ?_
    subst e20
    refine t6 4 rfl rfl kr (fun _ => rfl) (N.call (a0a fo) rfl rfl rfl dc rfl (fun w Lp hA => ⟨hA.ro t7, hA.ro s0⟩)) (fun k22 _ => ?_)
    obtain ⟨a22, m22, c22⟩ := k22
    refine f5 m0 fun e22 l22 => ?_
    subst e22
    refine t6 5 rfl rfl kr (fun _ => rfl) (Nb [_, _] [_, _] us_Iss ty_Is rfl rfl) (fun b23 _ => (f8 (o6 (o6 (s7 (a6B (E := eIs) (e := tIs) (c1 := [.slice a20 (f0 (fun t => inR t 0 9) j8).length c20]) (c2 := [.slice a22 (f0 (fun t => inR t 0 9) d4).length c22]) Own.ow Own.ow) rfl (t6 6 rfl rfl kr (fun _ => rfl) (N.call (T4 (by have h1 := V4 (d8 := j8); have h2 := V4 (d8 := d4); simp [a0l]; omega)) rfl rfl rfl dc rfl (fun w Lp hA => hA.ow m0)) (fun k24 _ => ?_)))))))
    obtain ⟨a24, m24, c24⟩ := k24
    refine f5 m0 fun e24 l24 => ?_
    subst e24
    refine t6 7 rfl rfl kr (fun _ => rfl) (N.call (a0S fo (a5C (p := j8) (q := d4))) rfl rfl rfl dc rfl (fun w Lp hA => ⟨hA.ro K3, hA.ro I8, hA.ow m0⟩)) (fun k25 _ => ?_)
    obtain ⟨⟨a25_0, m25_0, c25_0⟩, ⟨a25_1, m25_1, c25_1⟩, ⟨a25_2, m25_2, c25_2⟩⟩ := k25
    refine f5 m0 fun e25_0 l25_0 => ?_
    subst e25_0
    refine f5 (mS m0) fun e25_1 l25_1 => ?_
    subst e25_1
    refine f5 (mS (mS m0)) fun e25_2 l25_2 => ?_
    subst e25_2
    refine Dyp 8 rfl (o0 rfl) (Dyp 9 rfl (Y.ext rfl rfl) (Dyp 10 rfl (Y.ext rfl rfl) (Dyp 11 rfl (Y.ext rfl rfl) (Dyp 13 rfl (F0 rfl) (y6 (t6 14 rfl rfl kr (fun h => by cases h) (Ns [_, _] ty_Binding rfl) (fun _ _ => (Dyp 15 rfl (F0 rfl) (s3 kr (x5 (Ent.drop (x5 (Ent.drop (y6 (y6 (y6 (y6 (y6 (y6 ?_)))))))))))))))))))
    exact P9 (a25_0, c25_0, b6, a25_1, c25_1, a25_2, c25_2) trivial ⟨rfl, rfl, rfl, rfl, rfl, trivial⟩ (.refl _)
  ·obtain ⟨a25_0, c25_0, b6, a25_1, c25_1, a25_2, c25_2⟩ := kM
   try dsimp only
   refine Et (Eq_ (Ew Z2 (Em rfl (Ent.b (fun q29 => ?_) (fun q29 => ?_)))))
   ·refine Ey rfl ((Y.not (b := true) rfl).yd) (Eu (o4 rfl (i7 (Et (Eq_ (a3z (κ := Nat × Option Addr × Nat × Option Addr × Nat) (fun _ => True) (fun kM => [(9, .bool ((z7 d4 (fzF (([f0 (fun t => inR t 0 9) j8, f0 (fun t => inR t 0 9) d4]).flatten) j8)).any (V2 f6 (F5.map (C7 ((fzV (([f0 (fun t => inR t 0 9) j8, f0 (fun t => inR t 0 9) d4]).flatten) j8), (fzX (([f0 (fun t => inR t 0 9) j8, f0 (fun t => inR t 0 9) d4]).flatten) j8)))))))]) (fun kM => [pt kM.1 125 [.slice kM.2.1 ((O3 (z7 d4 (fzF (([f0 (fun t => inR t 0 9) j8, f0 (fun t => inR t 0 9) d4]).flatten) j8)) f6 (F5.map (C7 ((fzV (([f0 (fun t => inR t 0 9) j8, f0 (fun t => inR t 0 9) d4]).flatten) j8), (fzX (([f0 (fun t => inR t 0 9) j8, f0 (fun t => inR t 0 9) d4]).flatten) j8))))).1).length kM.2.2.1, .slice kM.2.2.2.1 ((O3 (z7 d4 (fzF (([f0 (fun t => inR t 0 9) j8, f0 (fun t => inR t 0 9) d4]).flatten) j8)) f6 (F5.map (C7 ((fzV (([f0 (fun t => inR t 0 9) j8, f0 (fun t => inR t 0 9) d4]).flatten) j8), (fzX (([f0 (fun t => inR t 0 9) j8, f0 (fun t => inR t 0 9) d4]).flatten) j8))))).2).length kM.2.2.2.2], ow eIs [.slice kM.2.1 ((O3 (z7 d4 (fzF (([f0 (fun t => inR t 0 9) j8, f0 (fun t => inR t 0 9) d4]).flatten) j8)) f6 (F5.map (C7 ((fzV (([f0 (fun t => inR t 0 9) j8, f0 (fun t => inR t 0 9) d4]).flatten) j8), (fzX (([f0 (fun t => inR t 0 9) j8, f0 (fun t => inR t 0 9) d4]).flatten) j8))))).1).length kM.2.2.1] ((O3 (z7 d4 (fzF (([f0 (fun t => inR t 0 9) j8, f0 (fun t => inR t 0 9) d4]).flatten) j8)) f6 (F5.map (C7 ((fzV (([f0 (fun t => inR t 0 9) j8, f0 (fun t => inR t 0 9) d4]).flatten) j8), (fzX (([f0 (fun t => inR t 0 9) j8, f0 (fun t => inR t 0 9) d4]).flatten) j8))))).1), ow eIs [.slice kM.2.2.2.1 ((O3 (z7 d4 (fzF (([f0 (fun t => inR t 0 9) j8, f0 (fun t => inR t 0 9) d4]).flatten) j8)) f6 (F5.map (C7 ((fzV (([f0 (fun t => inR t 0 9) j8, f0 (fun t => inR t 0 9) d4]).flatten) j8), (fzX (([f0 (fun t => inR t 0 9) j8, f0 (fun t => inR t 0 9) d4]).flatten) j8))))).2).length kM.2.2.2.2] ((O3 (z7 d4 (fzF (([f0 (fun t => inR t 0 9) j8, f0 (fun t => inR t 0 9) d4]).flatten) j8)) f6 (F5.map (C7 ((fzV (([f0 (fun t => inR t 0 9) j8, f0 (fun t => inR t 0 9) d4]).flatten) j8), (fzX (([f0 (fun t => inR t 0 9) j8, f0 (fun t => inR t 0 9) d4]).flatten) j8))))).2), pt b6 125 [.slice a25_1 (fzV (([f0 (fun t => inR t 0 9) j8, f0 (fun t => inR t 0 9) d4]).flatten) j8).length c25_1, .slice a25_2 (fzX (([f0 (fun t => inR t 0 9) j8, f0 (fun t => inR t 0 9) d4]).flatten) j8).length c25_2], ow s9 [.slice a25_0 (fzF (([f0 (fun t => inR t 0 9) j8, f0 (fun t => inR t 0 9) d4]).flatten) j8).length c25_0] (fzF (([f0 (fun t => inR t 0 9) j8, f0 (fun t => inR t 0 9) d4]).flatten) j8), ow eIs [.slice a25_1 (fzV (([f0 (fun t => inR t 0 9) j8, f0 (fun t => inR t 0 9) d4]).flatten) j8).length c25_1] (fzV (([f0 (fun t => inR t 0 9) j8, f0 (fun t => inR t 0 9) d4]).flatten) j8), ow eIs [.slice a25_2 (fzX (([f0 (fun t => inR t 0 9) j8, f0 (fun t => inR t 0 9) d4]).flatten) j8).length c25_2] (fzX (([f0 (fun t => inR t 0 9) j8, f0 (fun t => inR t 0 9) d4]).flatten) j8), pt b3 61 [.slice r5 f6.length o9, .slice o2 d4.length o1], pt b2 61 [.slice O0 F5.length N9, .slice L8 j8.length L7]]) ?_ (fun kM _ => ?_)))))))
    ·refine D.region (fun j => !(Nat.beq j 10)) mixed (Dy 0 rfl (r9 (cs := [_, _]) ty_Query rfl (Has.pt (mS (mS (mS (mS m0))))) rfl) (Dyp 1 rfl (o0 rfl) (Dy 2 rfl (r9 (cs := [_, _]) ty_Query rfl (Has.pt (mS (mS (mS (mS (mS m0)))))) rfl) (Dy 3 rfl (r9 (cs := [_, _]) ty_Binding rfl (Has.pt m0) rfl) (a1i (i := 4) (j := 9) kr ?_ ?_)))))
     ·refine V3 4 rfl rfl (fun _ => rfl) (N.call (a2C fo) rfl rfl rfl dc rfl (fun w Lp hA => ⟨hA.ro K3, hA.ro I8, hA.ow (mS (mS m0)), hA.ow (mS (mS (mS m0)))⟩)) (fun k36 _ => ?_)
      obtain ⟨a36, m36, c36⟩ := k36
      refine f5 m0 fun e36 l36 => ?_
      subst e36
      refine a1i (i := 5) (j := 9) kr ?_ ?_
      ·refine V3 5 rfl rfl (fun _ => rfl) (N.call (a2e fo fo (fun a _ => a8e (Nat.le_trans a3F om)) fo) rfl rfl rfl dc rfl (fun w Lp hA => ⟨hA.ro t7, hA.ro s0, hA.ow (mS (mS m0)), hA.ow m0⟩)) (fun k37 _ => ?_)
       obtain ⟨⟨a37_0, m37_0, c37_0⟩, ⟨a37_1, m37_1, c37_1⟩⟩ := k37
       refine f5 m0 fun e37_0 l37_0 => ?_
       subst e37_0
       refine f5 (mS m0) fun e37_1 l37_1 => ?_
       subst e37_1
       refine Dyp 6 rfl (o0 rfl) (Dyp 7 rfl (Y.ext rfl rfl) (Dyp 8 rfl (Y.ext rfl rfl) (t6 9 rfl rfl kr (fun _ => rfl) (N.alloc ty_Binding dc) (fun b8 _ => (t6 10 rfl rfl kr (fun h => by cases h) (Ns [_, _] ty_Binding rfl) (fun _ _ => (Dyp 11 rfl (F0 rfl) (s3 kr (v7 (Ent.drop (C0 (C0 (C0 (C0 (C0 (C0 (C0 (C0 (C0 ?_)))))))))))))))))))
       exact P9 (b8, a37_0, c37_0, a37_1, c37_1) trivial ⟨rfl, trivial⟩ (.refl _)
      ·refine V3 9 rfl rfl (fun _ => rfl) (N.alloc ty_Binding dc) (fun b8 _ => (t6 5 rfl rfl kr (fun _ => rfl) (N.call (a2e fo fo (fun a _ => a8e (Nat.le_trans a3F om)) fo) rfl rfl rfl dc rfl (fun w Lp hA => ⟨hA.ro t7, hA.ro s0, hA.ow (mS (mS (mS m0))), hA.ow (mS m0)⟩)) (fun k37 _ => ?_)))
       obtain ⟨⟨a37_0, m37_0, c37_0⟩, ⟨a37_1, m37_1, c37_1⟩⟩ := k37
       refine f5 m0 fun e37_0 l37_0 => ?_
       subst e37_0
       refine f5 (mS m0) fun e37_1 l37_1 => ?_
       subst e37_1
       refine Dyp 6 rfl (o0 rfl) (Dyp 7 rfl (Y.ext rfl rfl) (Dyp 8 rfl (Y.ext rfl rfl) (o6 (t6 10 rfl rfl kr (fun h => by cases h) (Ns [_, _] ty_Binding rfl) (fun _ _ => (Dyp 11 rfl (F0 rfl) (s3 kr (v7 (Ent.drop (C0 (C0 (C0 (C0 (C0 (C0 (C0 (C0 (C0 ?_))))))))))))))))))
       exact P9 (b8, a37_0, c37_0, a37_1, c37_1) trivial ⟨rfl, trivial⟩ (.refl _)
     ·refine V3 9 rfl rfl (fun _ => rfl) (N.alloc ty_Binding dc) (fun b8 _ => (t6 4 rfl rfl kr (fun _ => rfl) (N.call (a2C fo) rfl rfl rfl dc rfl (fun w Lp hA => ⟨hA.ro K3, hA.ro I8, hA.ow (mS (mS (mS m0))), hA.ow (mS (mS (mS (mS m0))))⟩)) (fun k36 _ => ?_)))
      obtain ⟨a36, m36, c36⟩ := k36
      refine f5 m0 fun e36 l36 => ?_
      subst e36
      refine t6 5 rfl rfl kr (fun _ => rfl) (N.call (a2e fo fo (fun a _ => a8e (Nat.le_trans a3F om)) fo) rfl rfl rfl dc rfl (fun w Lp hA => ⟨hA.ro t7, hA.ro s0, hA.ow (mS (mS (mS m0))), hA.ow m0⟩)) (fun k37 _ => ?_)
      obtain ⟨⟨a37_0, m37_0, c37_0⟩, ⟨a37_1, m37_1, c37_1⟩⟩ := k37
      refine f5 m0 fun e37_0 l37_0 => ?_
      subst e37_0
      refine f5 (mS m0) fun e37_1 l37_1 => ?_
      subst e37_1
      refine Dyp 6 rfl (o0 rfl) (Dyp 7 rfl (Y.ext rfl rfl) (Dyp 8 rfl (Y.ext rfl rfl) (v7 (t6 10 rfl rfl kr (fun h => by cases h) (Ns [_, _] ty_Binding rfl) (fun _ _ => (Dyp 11 rfl (F0 rfl) (s3 kr (v7 (Ent.drop (C0 (C0 (C0 (C0 (C0 (C0 (C0 (C0 (C0 ?_))))))))))))))))))
      exact P9 (b8, a37_0, c37_0, a37_1, c37_1) trivial ⟨rfl, trivial⟩ (.refl _)
    ·obtain ⟨b8, a37_0, c37_0, a37_1, c37_1⟩ := kM
     try dsimp only
     refine Et (Ew Z2 (Em rfl (Ei rfl ?_)))
     exact Eu (E.ret (Fb rfl rfl (by grind [a3g, d1, d2, t1, t2])))
   ·refine Ey rfl ((Y.not (b := false) rfl).yd) (Eu (o5 rfl (Ew Z1 (Ei rfl ?_))))
    exact Eu (E.ret (l4 (Fb rfl rfl (by grind [a3g, d1, d2, t1, t2]))))
theorem a7e (hzp : B9 (fun x => x.2.length) j8 ≤ 1048576) (hzq : B9 (fun x => x.2.length) d4 ≤ 1048576) : Tr Tryz.prog 235 [.slice a_s m_s c_s, .agg #[.slice O0 U3 N9, .slice L8 Q6 L7], .agg #[.slice r5 s8 o9, .slice o2 s5 o1]] (fun w L => Ro w L eIs [.slice a_s m_s c_s] s ∧ Ro w L eIs [.slice O0 U3 N9] F5 ∧ Ro w L w9 [.slice L8 Q6 L7] j8 ∧ Ro w L eIs [.slice r5 s8 o9] f6 ∧ Ro w L w9 [.slice o2 s5 o1] d4) [] (κ := Unit) (fun k => True) (fun k => .bool (a2S s (F5, j8) (f6, d4))) (fun k => []) := by
 refine l0 Tryz.func235 rfl (n := 20) rfl (by decide +kernel) bl (fr := [(0, .slice a_s m_s c_s), (1, .agg #[.slice O0 U3 N9, .slice L8 Q6 L7]), (2, .agg #[.slice r5 s8 o9, .slice o2 s5 o1])]) rfl fun w L hR => ?_
 obtain ⟨hs, K3, I8, t7, s0⟩ := hR
 obtain ⟨rfl, ls⟩ := hs.slen
 obtain ⟨rfl, a8j⟩ := K3.slen
 obtain ⟨rfl, a6u⟩ := I8.slen
 obtain ⟨rfl, I9⟩ := t7.slen
 obtain ⟨rfl, H0⟩ := s0.slen
 refine Ew Z3 (Est rfl (N.box (cs := [_, _]) rfl dc rfl) (fun b4 _ => (Est rfl (N.box (cs := [_, _]) rfl dc rfl) (fun b5 _ => (Ei rfl (Ev Z14 (Em rfl (Ey rfl (r9 (cs := [_, _]) ty_Query rfl (Has.pt (mS m0)) rfl) (Est rfl (n0 (a2z fo) rfl rfl rfl dc (fun w Lp hA => ⟨hA.ro hs, hA.ro K3, hA.ro I8⟩)) (fun _ _ => (Ent.b (fun q9 => ?_) (fun q9 => ?_))))))))))))
 ·refine Em rfl (Em rfl (Ey rfl (r9 (cs := [_, _]) ty_Query rfl (Has.pt m0) rfl) (Est rfl (n0 (a2z fo) rfl rfl rfl dc (fun w Lp hA => ⟨hA.ro hs, hA.ro t7, hA.ro s0⟩)) (fun _ _ => (Ent.b (fun q13 => ?_) (fun q13 => ?_))))))
  ·refine Ey rfl ((w5 rfl rfl).yd) (Em rfl (Ey rfl (r9 (cs := [_, _]) ty_Query rfl (Has.pt (mS m0)) rfl) (Ey rfl (r9 (cs := [_, _]) ty_Query rfl (Has.pt m0) rfl) (Est rfl (n0 (a9t ((F7 (s := s) (q := (F5, j8)) (by assumption)).1) ((F7 (s := s) (q := (F5, j8)) (by assumption)).2.2) (Nat.le_trans (F7 (s := s) (q := (F5, j8)) (by assumption)).2.1 dc) ((F7 (s := s) (q := (f6, d4)) (by assumption)).1) ((F7 (s := s) (q := (f6, d4)) (by assumption)).2.2) (Nat.le_trans (F7 (s := s) (q := (f6, d4)) (by assumption)).2.1 dc) fo fo) rfl rfl rfl dc (fun w Lp hA => ⟨hA.ro K3, hA.ro I8, hA.ro t7, hA.ro s0⟩)) (fun _ _ => (Ey rfl ((w5 rfl rfl).yd) (Ei rfl ?_)))))))
   exact Eu (E.ret (Fb rfl rfl (by grind [a2S, a3g, d1, d2, t1, t2])))
  ·refine Ey rfl ((w5 rfl rfl).yd) (Em rfl (Es rfl (Es rfl (Es rfl (Ey rfl ((v8 rfl rfl).yd) (Ei rfl ?_))))))
   exact Eu (E.ret (Fb rfl rfl (by grind [a2S, a3g, d1, d2, t1, t2])))
 ·refine Em rfl (Es rfl (Es rfl (Es rfl (Ey rfl ((v8 rfl rfl).yd) (Em rfl (Es rfl (Es rfl (Es rfl (Ey rfl ((v8 rfl rfl).yd) (Ei rfl ?_))))))))))
  exact Eu (E.ret (Fb rfl rfl (by grind [a2S, a3g, d1, d2, t1, t2])))
theorem a7w (hzp : B9 (fun x => x.2.length) j8 ≤ 1048576) (hzq : B9 (fun x => x.2.length) d4 ≤ 1048576) : Tr Tryz.prog 130 [.slice a_s m_s c_s, .agg #[.slice O0 U3 N9, .slice L8 Q6 L7], .agg #[.slice r5 s8 o9, .slice o2 s5 o1]] (fun w L => Ro w L eIs [.slice a_s m_s c_s] s ∧ Ro w L eIs [.slice O0 U3 N9] F5 ∧ Ro w L w9 [.slice L8 Q6 L7] j8 ∧ Ro w L eIs [.slice r5 s8 o9] f6 ∧ Ro w L w9 [.slice o2 s5 o1] d4) [] (κ := Unit) (fun k => True) (fun k => .bool (a2S s (F5, j8) (f6, d4))) (fun k => []) := by
 refine l0 Tryz.func130 rfl (n := 50) rfl (by decide +kernel) bl (fr := [(0, .slice a_s m_s c_s), (1, .agg #[.slice O0 U3 N9, .slice L8 Q6 L7]), (2, .agg #[.slice r5 s8 o9, .slice o2 s5 o1])]) rfl fun w L hR => ?_
 obtain ⟨hs, K3, I8, t7, s0⟩ := hR
 obtain ⟨rfl, ls⟩ := hs.slen
 obtain ⟨rfl, a8j⟩ := K3.slen
 obtain ⟨rfl, a6u⟩ := I8.slen
 obtain ⟨rfl, I9⟩ := t7.slen
 obtain ⟨rfl, H0⟩ := s0.slen
 refine Ew Z3 (Est rfl (N.box (cs := [_, _]) rfl dc rfl) (fun b4 _ => (Est rfl (N.box (cs := [_, _]) rfl dc rfl) (fun b5 _ => (Ei rfl (Eu (Eq_ (Ew Z19 (Em rfl (Ey rfl (r9 (cs := [_, _]) ty_Query rfl (Has.pt (mS m0)) rfl) (Est rfl (n0 (a1n fo) rfl rfl rfl dc (fun w Lp hA => ⟨hA.ro hs, hA.ro K3, hA.ro I8⟩)) (fun _ _ => (Ent.b (fun q14 => ?_) (fun q14 => ?_))))))))))))))
 ·refine Ey rfl ((Y.not (b := true) rfl).yd) (Em rfl (Em rfl (Ey rfl (r9 (cs := [_, _]) ty_Query rfl (Has.pt m0) rfl) (Est rfl (n0 (a1n fo) rfl rfl rfl dc (fun w Lp hA => ⟨hA.ro hs, hA.ro t7, hA.ro s0⟩)) (fun _ _ => (Ent.b (fun q19 => ?_) (fun q19 => ?_)))))))
  ·refine Ey rfl ((Y.not (b := true) rfl).yd) (Ey rfl ((v8 rfl rfl).yd) (Em rfl (Ey rfl ((j6 fo_Query_0 ty_Is dc rfl).yd) (Ey rfl (g9 ty_Is rfl (Hz (mS m0) 0 rfl) rfl) (Ey rfl ((Y.len us_Is rfl).yd) (Ey rfl ((j6 fo_Query_0 ty_Is dc rfl).yd) (Ey rfl (g9 ty_Is rfl (Hz m0 0 rfl) rfl) (Ey rfl ((Y.len us_Is rfl).yd) (Ey rfl ((Y.neq rfl rfl).yd) (o7 (fun q29 => ?_) (fun q29 => ?_)))))))))))
   ·refine Ey rfl ((v8 rfl rfl).yd) (Eu (o5 rfl (Ew Z1 (Ei rfl ?_))))
    exact Eu (E.ret (l4 (Fb rfl rfl (by grind [a2S, a3g, d1, d2, t1, t2]))))
   ·refine Ey rfl ((v8 rfl rfl).yd) (Eu (o4 rfl (i7 (Et (Ew Z11 (Ey rfl (r9 (cs := [_, _]) ty_Query rfl (Has.pt (mS m0)) rfl) (Ey rfl (r9 (cs := [_, _]) ty_Query rfl (Has.pt m0) rfl) (Est rfl (N.call (a9W ((F7 (s := s) (q := (F5, j8)) (by assumption)).1) ((F7 (s := s) (q := (F5, j8)) (by assumption)).2.2) (Nat.le_trans (F7 (s := s) (q := (F5, j8)) (by assumption)).2.1 dc) (b4A (s := s) (q := (F5, j8)) (by assumption)) fo) rfl rfl rfl dc rfl (fun w Lp hA => ⟨hA.ro K3, hA.ro I8, hA.ro t7, hA.ro s0⟩)) (fun k34 _ => ?_)))))))))
    obtain ⟨⟨a34_0, m34_0, c34_0⟩, ⟨a34_1, m34_1, c34_1⟩, ⟨a34_2, m34_2, c34_2⟩⟩ := k34
    refine f5 m0 fun e34_0 l34_0 => ?_
    subst e34_0
    refine f5 (mS m0) fun e34_1 l34_1 => ?_
    subst e34_1
    refine f5 (mS (mS m0)) fun e34_2 l34_2 => ?_
    subst e34_2
    refine Em rfl (Ey rfl ((Y.ext rfl rfl).yd) (Ey rfl ((Y.ext rfl rfl).yd) (Ey rfl ((Y.ext rfl rfl).yd) (Est rfl (N.alloc ty_Binding dc) (fun b8 _ => (Ei rfl (Est rfl (Ns [_, _] ty_Binding rfl) (fun _ _ => (Ei rfl (Ent.b (fun q9 => ?_) (fun q9 => ?_)))))))))))
    ·refine Eu (Eq_ (Ew Z2 (Em rfl (Ey rfl ((Y.not (b := true) rfl).yd) (Eu (o4 rfl (i7 (Et (Eq_ (a3z (κ := Nat × Option Addr × Nat × Option Addr × Nat) (fun _ => True) (fun kM => [(11, .bool ((z7 d4 (fzF [f0 (fun t => inR t 0 9) j8, f0 (fun t => inR t 0 9) d4].flatten j8)).any (V2 f6 (F5.map (C7 ((fzV [f0 (fun t => inR t 0 9) j8, f0 (fun t => inR t 0 9) d4].flatten j8), (fzX [f0 (fun t => inR t 0 9) j8, f0 (fun t => inR t 0 9) d4].flatten j8)))))))]) (fun kM => [pt kM.1 125 [.slice kM.2.1 ((O3 (z7 d4 (fzF [f0 (fun t => inR t 0 9) j8, f0 (fun t => inR t 0 9) d4].flatten j8)) f6 (F5.map (C7 ((fzV [f0 (fun t => inR t 0 9) j8, f0 (fun t => inR t 0 9) d4].flatten j8), (fzX [f0 (fun t => inR t 0 9) j8, f0 (fun t => inR t 0 9) d4].flatten j8))))).1).length kM.2.2.1, .slice kM.2.2.2.1 ((O3 (z7 d4 (fzF [f0 (fun t => inR t 0 9) j8, f0 (fun t => inR t 0 9) d4].flatten j8)) f6 (F5.map (C7 ((fzV [f0 (fun t => inR t 0 9) j8, f0 (fun t => inR t 0 9) d4].flatten j8), (fzX [f0 (fun t => inR t 0 9) j8, f0 (fun t => inR t 0 9) d4].flatten j8))))).2).length kM.2.2.2.2], ow eIs [.slice kM.2.1 ((O3 (z7 d4 (fzF [f0 (fun t => inR t 0 9) j8, f0 (fun t => inR t 0 9) d4].flatten j8)) f6 (F5.map (C7 ((fzV [f0 (fun t => inR t 0 9) j8, f0 (fun t => inR t 0 9) d4].flatten j8), (fzX [f0 (fun t => inR t 0 9) j8, f0 (fun t => inR t 0 9) d4].flatten j8))))).1).length kM.2.2.1] ((O3 (z7 d4 (fzF [f0 (fun t => inR t 0 9) j8, f0 (fun t => inR t 0 9) d4].flatten j8)) f6 (F5.map (C7 ((fzV [f0 (fun t => inR t 0 9) j8, f0 (fun t => inR t 0 9) d4].flatten j8), (fzX [f0 (fun t => inR t 0 9) j8, f0 (fun t => inR t 0 9) d4].flatten j8))))).1), ow eIs [.slice kM.2.2.2.1 ((O3 (z7 d4 (fzF [f0 (fun t => inR t 0 9) j8, f0 (fun t => inR t 0 9) d4].flatten j8)) f6 (F5.map (C7 ((fzV [f0 (fun t => inR t 0 9) j8, f0 (fun t => inR t 0 9) d4].flatten j8), (fzX [f0 (fun t => inR t 0 9) j8, f0 (fun t => inR t 0 9) d4].flatten j8))))).2).length kM.2.2.2.2] ((O3 (z7 d4 (fzF [f0 (fun t => inR t 0 9) j8, f0 (fun t => inR t 0 9) d4].flatten j8)) f6 (F5.map (C7 ((fzV [f0 (fun t => inR t 0 9) j8, f0 (fun t => inR t 0 9) d4].flatten j8), (fzX [f0 (fun t => inR t 0 9) j8, f0 (fun t => inR t 0 9) d4].flatten j8))))).2), pt b8 125 [.slice a34_1 (fzV [f0 (fun t => inR t 0 9) j8, f0 (fun t => inR t 0 9) d4].flatten j8).length c34_1, .slice a34_2 (fzX [f0 (fun t => inR t 0 9) j8, f0 (fun t => inR t 0 9) d4].flatten j8).length c34_2], ow s9 [.slice a34_0 (fzF [f0 (fun t => inR t 0 9) j8, f0 (fun t => inR t 0 9) d4].flatten j8).length c34_0] (fzF [f0 (fun t => inR t 0 9) j8, f0 (fun t => inR t 0 9) d4].flatten j8), ow eIs [.slice a34_1 (fzV [f0 (fun t => inR t 0 9) j8, f0 (fun t => inR t 0 9) d4].flatten j8).length c34_1] (fzV [f0 (fun t => inR t 0 9) j8, f0 (fun t => inR t 0 9) d4].flatten j8), ow eIs [.slice a34_2 (fzX [f0 (fun t => inR t 0 9) j8, f0 (fun t => inR t 0 9) d4].flatten j8).length c34_2] (fzX [f0 (fun t => inR t 0 9) j8, f0 (fun t => inR t 0 9) d4].flatten j8), pt b5 61 [.slice r5 f6.length o9, .slice o2 d4.length o1], pt b4 61 [.slice O0 F5.length N9, .slice L8 j8.length L7]]) ?_ (fun kM _ => ?_)))))))))))
     ·refine D.region (fun j => !(Nat.beq j 10)) mixed (Dy 0 rfl (r9 (cs := [_, _]) ty_Query rfl (Has.pt (mS (mS (mS (mS m0))))) rfl) (Dyp 1 rfl (o0 rfl) (Dy 2 rfl (r9 (cs := [_, _]) ty_Query rfl (Has.pt (mS (mS (mS (mS (mS m0)))))) rfl) (Dy 3 rfl (r9 (cs := [_, _]) ty_Binding rfl (Has.pt m0) rfl) (a1i (i := 4) (j := 9) kr ?_ ?_)))))
      ·refine V3 4 rfl rfl (fun _ => rfl) (N.call (a3P (Nat.le_trans (F7 (s := s) (q := (F5, j8)) (by assumption)).2.1 dc)) rfl rfl rfl dc rfl (fun w Lp hA => ⟨hA.ro K3, hA.ro I8, hA.ow (mS (mS m0)), hA.ow (mS (mS (mS m0)))⟩)) (fun k45 _ => ?_)
       obtain ⟨a45, m45, c45⟩ := k45
       refine f5 m0 fun e45 l45 => ?_
       subst e45
       refine a1i (i := 5) (j := 9) kr ?_ ?_
       ·refine V3 5 rfl rfl (fun _ => rfl) (N.call (a2j ((F7 (s := s) (q := (f6, d4)) (by assumption)).1) ((F7 (s := s) (q := (f6, d4)) (by assumption)).2.2) (fun a _ => a8e (Nat.le_trans a3F (Nat.le_trans (F7 (s := s) (q := (F5, j8)) (by assumption)).1 dc))) (Nat.le_trans (F7 (s := s) (q := (f6, d4)) (by assumption)).2.1 dc)) rfl rfl rfl dc rfl (fun w Lp hA => ⟨hA.ro t7, hA.ro s0, hA.ow (mS (mS m0)), hA.ow m0⟩)) (fun k46 _ => ?_)
        obtain ⟨⟨a46_0, m46_0, c46_0⟩, ⟨a46_1, m46_1, c46_1⟩⟩ := k46
        refine f5 m0 fun e46_0 l46_0 => ?_
        subst e46_0
        refine f5 (mS m0) fun e46_1 l46_1 => ?_
        subst e46_1
        refine Dyp 6 rfl (o0 rfl) (Dyp 7 rfl (Y.ext rfl rfl) (Dyp 8 rfl (Y.ext rfl rfl) (t6 9 rfl rfl kr (fun _ => rfl) (N.alloc ty_Binding dc) (fun b10 _ => (t6 10 rfl rfl kr (fun h => by cases h) (Ns [_, _] ty_Binding rfl) (fun _ _ => (Dyp 11 rfl (F0 rfl) (s3 kr (v7 (Ent.drop (C0 (C0 (C0 (C0 (C0 (C0 (C0 (C0 (C0 ?_)))))))))))))))))))
        exact P9 (b10, a46_0, c46_0, a46_1, c46_1) trivial ⟨rfl, trivial⟩ (.refl _)
       ·refine V3 9 rfl rfl (fun _ => rfl) (N.alloc ty_Binding dc) (fun b10 _ => (t6 5 rfl rfl kr (fun _ => rfl) (N.call (a2j ((F7 (s := s) (q := (f6, d4)) (by assumption)).1) ((F7 (s := s) (q := (f6, d4)) (by assumption)).2.2) (fun a _ => a8e (Nat.le_trans a3F (Nat.le_trans (F7 (s := s) (q := (F5, j8)) (by assumption)).1 dc))) (Nat.le_trans (F7 (s := s) (q := (f6, d4)) (by assumption)).2.1 dc)) rfl rfl rfl dc rfl (fun w Lp hA => ⟨hA.ro t7, hA.ro s0, hA.ow (mS (mS (mS m0))), hA.ow (mS m0)⟩)) (fun k46 _ => ?_)))
        obtain ⟨⟨a46_0, m46_0, c46_0⟩, ⟨a46_1, m46_1, c46_1⟩⟩ := k46
        refine f5 m0 fun e46_0 l46_0 => ?_
        subst e46_0
        refine f5 (mS m0) fun e46_1 l46_1 => ?_
        subst e46_1
        refine Dyp 6 rfl (o0 rfl) (Dyp 7 rfl (Y.ext rfl rfl) (Dyp 8 rfl (Y.ext rfl rfl) (o6 (t6 10 rfl rfl kr (fun h => by cases h) (Ns [_, _] ty_Binding rfl) (fun _ _ => (Dyp 11 rfl (F0 rfl) (s3 kr (v7 (Ent.drop (C0 (C0 (C0 (C0 (C0 (C0 (C0 (C0 (C0 ?_))))))))))))))))))
        exact P9 (b10, a46_0, c46_0, a46_1, c46_1) trivial ⟨rfl, trivial⟩ (.refl _)
      ·refine V3 9 rfl rfl (fun _ => rfl) (N.alloc ty_Binding dc) (fun b10 _ => (t6 4 rfl rfl kr (fun _ => rfl) (N.call (a3P (Nat.le_trans (F7 (s := s) (q := (F5, j8)) (by assumption)).2.1 dc)) rfl rfl rfl dc rfl (fun w Lp hA => ⟨hA.ro K3, hA.ro I8, hA.ow (mS (mS (mS m0))), hA.ow (mS (mS (mS (mS m0))))⟩)) (fun k45 _ => ?_)))
       obtain ⟨a45, m45, c45⟩ := k45
       refine f5 m0 fun e45 l45 => ?_
       subst e45
       refine t6 5 rfl rfl kr (fun _ => rfl) (N.call (a2j ((F7 (s := s) (q := (f6, d4)) (by assumption)).1) ((F7 (s := s) (q := (f6, d4)) (by assumption)).2.2) (fun a _ => a8e (Nat.le_trans a3F (Nat.le_trans (F7 (s := s) (q := (F5, j8)) (by assumption)).1 dc))) (Nat.le_trans (F7 (s := s) (q := (f6, d4)) (by assumption)).2.1 dc)) rfl rfl rfl dc rfl (fun w Lp hA => ⟨hA.ro t7, hA.ro s0, hA.ow (mS (mS (mS m0))), hA.ow m0⟩)) (fun k46 _ => ?_)
       obtain ⟨⟨a46_0, m46_0, c46_0⟩, ⟨a46_1, m46_1, c46_1⟩⟩ := k46
       refine f5 m0 fun e46_0 l46_0 => ?_
       subst e46_0
       refine f5 (mS m0) fun e46_1 l46_1 => ?_
       subst e46_1
       refine Dyp 6 rfl (o0 rfl) (Dyp 7 rfl (Y.ext rfl rfl) (Dyp 8 rfl (Y.ext rfl rfl) (v7 (t6 10 rfl rfl kr (fun h => by cases h) (Ns [_, _] ty_Binding rfl) (fun _ _ => (Dyp 11 rfl (F0 rfl) (s3 kr (v7 (Ent.drop (C0 (C0 (C0 (C0 (C0 (C0 (C0 (C0 (C0 ?_))))))))))))))))))
       exact P9 (b10, a46_0, c46_0, a46_1, c46_1) trivial ⟨rfl, trivial⟩ (.refl _)
     ·obtain ⟨b10, a46_0, c46_0, a46_1, c46_1⟩ := kM
      try dsimp only
      refine Et (Ew Z2 (Em rfl (Ei rfl ?_)))
      exact Eu (E.ret (Fb rfl rfl (by grind [a2S, a3g, d1, d2, t1, t2])))
    ·refine Eu (Eq_ (Ew Z2 (Em rfl (Ey rfl ((Y.not (b := false) rfl).yd) (Eu (o5 rfl (Ew Z1 (Ei rfl ?_))))))))
     exact Eu (E.ret (l4 (Fb rfl rfl (by grind [a2S, a3g, d1, d2, t1, t2]))))
  ·refine Ey rfl ((Y.not (b := false) rfl).yd) (Ey rfl ((v8 rfl rfl).yd) (Em rfl (Es rfl (Es rfl (Es rfl (Es rfl (Es rfl (Es rfl (Es rfl (Ey rfl ((w5 rfl rfl).yd) (Eu (o5 rfl (Ew Z1 (Ei rfl ?_))))))))))))))
   exact Eu (E.ret (l4 (Fb rfl rfl (by grind [a2S, a3g, d1, d2, t1, t2]))))
 ·refine Ey rfl ((Y.not (b := false) rfl).yd) (Em rfl (Es rfl (Es rfl (Es rfl (Es rfl (Ey rfl ((w5 rfl rfl).yd) (Em rfl (Es rfl (Es rfl (Es rfl (Es rfl (Es rfl (Es rfl (Es rfl (Ey rfl ((w5 rfl rfl).yd) (Eu (o5 rfl (Ew Z1 (Ei rfl ?_)))))))))))))))))))
  exact Eu (E.ret (l4 (Fb rfl rfl (by grind [a2S, a3g, d1, d2, t1, t2]))))
end Go.Proofs.YtdopeopehgdccaaGreat
