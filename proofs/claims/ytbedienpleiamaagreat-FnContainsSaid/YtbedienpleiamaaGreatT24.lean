import Derived.Test.YtbedienpleiamaaGreatT23
namespace Go.Proofs.YtbedienpleiamaaGreat
open Go.RowKit
set_option linter.all false
set_option maxHeartbeats 2000000
attribute [local irreducible] Nop Yd Yp Ent Has Tr FnP FnP2 Src O1 S7 W5 X5 I0
variable {f4 a6 : List (Int × List Int)} {C9 f5 s : List Int} {M0 H6 J4 G4 r5 k6 o1 j0 m_s c_s : Nat} {H7 G5 l0 j3 a_s : Option Addr}
theorem a4w (hpa : f4.length ≤ 4) (hpt : ∀ a ∈ f4, a.2.length ≤ 3) (hph : C9.length ≤ 3) (hpr : ∀ a ∈ f4, a.1 < 3) (hzq : E7 (fun x => x.2.length) a6 ≤ 1048576) : Tr Tryz.prog 52 [.agg #[.slice H7 M0 H6, .slice G5 J4 G4], .agg #[.slice l0 r5 k6, .slice j3 o1 j0]] (fun w L => Ro w L eIs [.slice H7 M0 H6] C9 ∧ Ro w L j8 [.slice G5 J4 G4] f4 ∧ Ro w L eIs [.slice l0 r5 k6] f5 ∧ Ro w L j8 [.slice j3 o1 j0] a6) [] (κ := (Option Addr × Nat × Nat) × (Option Addr × Nat × Nat) × (Option Addr × Nat × Nat)) (fun k => True) (fun k => .tuple #[.slice k.1.1 k.1.2.1 k.1.2.2, .agg #[.slice k.2.1.1 k.2.1.2.1 k.2.1.2.2, .slice k.2.2.1 k.2.2.2.1 k.2.2.2.2], .bool (fzB [c6 (fun t => inR t 0 9) f4, c6 (fun t => inR t 0 9) a6].flatten f4)]) (fun k => [ow u5 [.slice k.1.1 k.1.2.1 k.1.2.2] (fzF [c6 (fun t => inR t 0 9) f4, c6 (fun t => inR t 0 9) a6].flatten f4), ow eIs [.slice k.2.1.1 k.2.1.2.1 k.2.1.2.2] (fzV [c6 (fun t => inR t 0 9) f4, c6 (fun t => inR t 0 9) a6].flatten f4), ow eIs [.slice k.2.2.1 k.2.2.2.1 k.2.2.2.2] (fzX [c6 (fun t => inR t 0 9) f4, c6 (fun t => inR t 0 9) a6].flatten f4)]) := by
 refine Tr.intro Tryz.func52 rfl (n := 65) rfl (by decide +kernel) bl (fr := [(0, .agg #[.slice H7 M0 H6, .slice G5 J4 G4]), (1, .agg #[.slice l0 r5 k6, .slice j3 o1 j0])]) rfl fun w L hR => ?_
 obtain ⟨F4, E1, o6, l4⟩ := hR
 obtain ⟨rfl, a3G⟩ := F4.slen
 obtain ⟨rfl, a2K⟩ := E1.slen
 obtain ⟨rfl, F2⟩ := o6.slen
 obtain ⟨rfl, E0⟩ := l4.slen
 have jcf := L4 (l6 := a6)
 refine Ew Z5 (Est rfl (N.box (cs := [_, _]) rfl dc rfl) (fun b2 _ => (Est rfl (N.box (cs := [_, _]) rfl dc rfl) (fun b3 _ => (Ei rfl (Est rfl (N.alloc ty_Binding dc) (fun b5 _ => (Ei rfl (Ev Z4 (Ey rfl (j6 (cs := [_, _]) ty_Query rfl (Has.pt (mS (mS m0))) rfl) (Est rfl (N.call (a0P om om (fun a ha => Nat.le_trans (hpt a ha) dc)) rfl rfl rfl dc rfl (fun w Lp hA => ⟨hA.ro F4, hA.ro E1⟩)) (fun k16 _ => ?_))))))))))))
 obtain ⟨⟨a16_0, m16_0, c16_0⟩, ⟨a16_1, m16_1, c16_1⟩⟩ := k16
 refine d4 m0 fun e16_0 l16_0 => ?_
 subst e16_0
 refine d4 (mS m0) fun e16_1 l16_1 => ?_
 subst e16_1
 refine Est rfl (N.alloc ty_Query dc) (fun b7 _ => (Est rfl (Ns [_, _] ty_Query rfl) (fun _ _ => (Ev Z3 (Ey rfl (j6 (cs := [_, _]) ty_Query rfl (Has.pt (mS (mS (mS (mS m0))))) rfl) (Est rfl (N.call (a0I fo) rfl rfl rfl dc rfl (fun w Lp hA => ⟨hA.ro o6, hA.ro l4⟩)) (fun k18 _ => ?_)))))))
 obtain ⟨a18, m18, c18⟩ := k18
 refine d4 m0 fun e18 l18 => ?_
 subst e18
 refine w9 (A := [_]) rfl fun wb1 Lb1 hB1 hA1 => ?_
 have F4 := hA1.ro F4
 have E1 := hA1.ro E1
 have o6 := hA1.ro o6
 have l4 := hA1.ro l4
 have rb1 : Ro wb1 Lb1 eIs [.slice a18 (c6 (fun t => inR t 0 9) a6).length c18] (c6 (fun t => inR t 0 9) a6) := hA1.ow m0
 refine Ei rfl (Eu (Eq_ (Ew Z1 (Ei rfl (Eu (E.block (g9 (i9 (congrArg (ow j8 [_]) (show f4 = f4 ++ ((c6 (fun t => inR t 0 9) a6).take 0).map (fun c => ((3 : Int), [c])) from by first | rfl | (simp; done) | grind [d1, d2, t1, t2])) (E.loop (κ := Nat × Option Addr × Nat × Nat) (fun g => g.1 ≤ (c6 (fun t => inR t 0 9) a6).length ∧ True) (fun g => [(5, .pointer (some ⟨b5, 0, none⟩)), (7, .pointer (some ⟨b7, 0, none⟩)), (8, .slice a18 (c6 (fun t => inR t 0 9) a6).length c18), (9, .int .i64 (↑g.1 : Int))]) (fun g => [ow j8 [.slice g.2.1 g.2.2.1 g.2.2.2] (f4 ++ ((c6 (fun t => inR t 0 9) a6).take g.1).map (fun c => ((3 : Int), [c]))), pt b7 27 [.slice a16_0 (C9).length c16_0, .slice g.2.1 g.2.2.1 g.2.2.2], ow eIs [.slice a16_0 (C9).length c16_0] C9, pt b5 39 [.slice none 0 0, .slice none 0 0], pt b3 27 [.slice l0 f5.length k6, .slice j3 a6.length j0], pt b2 27 [.slice H7 C9.length H6, .slice G5 f4.length G4]]) (fun g => (c6 (fun t => inR t 0 9) a6).length - g.1) (0, a16_1, (f4).length, c16_1) ⟨Nat.zero_le _, by simp⟩ ⟨rfl, rfl, rfl, rfl, trivial⟩ (.refl _) (fun g pg => ?_))))))))))
 obtain ⟨g, aA0_0, mA0_0, cA0_0⟩ := g
 try dsimp only at pg
 try dsimp only
 obtain ⟨pk, pa⟩ := pg
 have jp := List.length_take_le g (c6 (fun t => inR t 0 9) a6)
 refine d4 m0 fun eaA0_0 laA0_0 => ?_
 subst eaA0_0
 refine Eq_ (Ew Z4 (Em rfl (Em rfl (Ey rfl ((Y.len us_Is rfl).yd) (Ey rfl ((Y.lss rfl rfl).yd) (n9 (fun q22 => ?_) (fun q22 => ?_)))))))
 ·refine Eu (o0 rfl (f8 (Et (Eq_ (E.block (D.region (fun j => !(Nat.beq j 9) && !(Nat.beq j 11)) mixed (Dyp 0 rfl (i0 fo_Query_1 ty_Atoms dc rfl) (Dy 1 rfl (f9 ty_Atoms rfl (Hz (mS m0) 1 rfl) rfl) (Dyp 2 rfl (i8 rfl) (Dyp 3 rfl (i8 rfl) ?_))))))))))
  obtain ⟨eb29, eo29, ea29, ei29, eh29⟩ := rb1.elemI g om
  refine Dyp 4 rfl (t6 us_Is f6 rfl ea29 rfl g rfl om) (Dy 5 rfl (f9 f6 rfl (eh29 _) rfl) (r8 6 rfl rfl kr (fun _ => rfl) (Nb [_] [_] us_Is f6 rfl rfl) (fun b31 _ => (o2 (A := _ :: _) (W7 (E := Enc.int) (e := tI) (Own.int ei29)) rfl (Dyp 7 rfl (E9 (pvs := [_, _]) (cs := [_, _]) ty_Atom a2m rfl rfl) (r8 8 rfl rfl kr (fun _ => rfl) (Nb [_] [_, _] us_Atoms ty_Atom rfl rfl) (fun b33 _ => (d7 (d7 (g9 (r8 9 rfl rfl kr (fun h => by cases h) (v7 (E := N3) (ex := (3, [(c6 (fun t => inR t 0 9) a6)[g]])) us_Atoms ty_Atom rfl rfl rfl (H2 (x := (3, [(c6 (fun t => inR t 0 9) a6)[g]])) i6 Own.ow) rfl bn bn dc) (fun p34 _ => (Dyp 10 rfl (i0 fo_Query_1 ty_Atoms dc rfl) (d7 (r8 11 rfl rfl kr (fun h => by cases h) (Ns [_, _] ty_Atoms rfl) (fun _ _ => (r7 kr (s4 (Et (Ez Z3 (Em rfl (Ey rfl ((Y.add rfl rfl om om).yd) (Ei rfl (Eu (d7 (i9 (congrArg (ow j8 [_]) (show (f4 ++ ((c6 (fun t => inR t 0 9) a6).take g).map (fun c => ((3 : Int), [c]))) ++ [(3, [(c6 (fun t => inR t 0 9) a6)[g]])] = f4 ++ ((c6 (fun t => inR t 0 9) a6).take (g + 1)).map (fun c => ((3 : Int), [c])) from by grind [d1, d2, t1, t2])) (n8 (n8 (n8 (n8 (n8 (n8 ?_))))))))))))))))))))))))))))))))
  exact Ea (g + 1, p34.1, ((f4 ++ ((c6 (fun t => inR t 0 9) a6).take g).map (fun c => ((3 : Int), [c]))).length + 1), p34.2) ⟨oz, trivial⟩
 ·refine Eu (n0 rfl (E.exit (o3 (o3 (x5 (Et (Ew Z10 (Ey rfl (j6 (cs := [_, _]) ty_Query rfl (Has.pt (mS m0)) rfl) (Est rfl (N.call (a0J (b0T hpa hpt (by have := L4 (l6 := a6); simp only [List.length_take]; omega))) rfl rfl rfl dc rfl (fun w Lp hA => ⟨hA.ow (mS (mS m0)), hA.ow m0⟩)) (fun k38 _ => ?_))))))))))
  obtain ⟨⟨a38_0, m38_0, c38_0⟩, ⟨a38_1, m38_1, c38_1⟩, ⟨a38_2, m38_2, c38_2⟩⟩ := k38
  refine d4 m0 fun e38_0 l38_0 => ?_
  subst e38_0
  refine d4 (mS m0) fun e38_1 l38_1 => ?_
  subst e38_1
  refine d4 (mS (mS m0)) fun e38_2 l38_2 => ?_
  subst e38_2
  refine Em rfl (Ey rfl ((Y.ext rfl rfl).yd) (Ey rfl ((Y.ext rfl rfl).yd) (Ey rfl ((Y.ext rfl rfl).yd) (Est rfl (N.alloc ty_Binding dc) (fun b11 _ => (Ei rfl (Est rfl (Ns [_, _] ty_Binding rfl) (fun _ _ => (Ei rfl (Ev Z2 (Est rfl (Nb [] [] us_Facts ty_Fact rfl rfl) (fun b42 _ => (Ent.drop (Ei rfl (Eu (Eq_ (Ew Z1 (Ei rfl (Eu (E.block (o2 (A := []) (Own.nil (E := G0) (e := tFact) (a := (some ⟨b42, 0, none⟩))) rfl (i9 (congrArg (ow u5 [_]) (show [] = ((fzF (c6 (fun t => inR t 0 9) (f4 ++ ((c6 (fun t => inR t 0 9) a6).take g).map (fun c => ((3 : Int), [c])))) (f4 ++ ((c6 (fun t => inR t 0 9) a6).take g).map (fun c => ((3 : Int), [c])))).take 0).filter (fun f => decide (f.1 < 3)) from by first | rfl | (simp; done) | grind [d1, d2, t1, t2])) (g9 (a7M (E.loop (κ := Nat × Option Addr × Nat × Nat) (fun r => r.1 ≤ (fzF (c6 (fun t => inR t 0 9) (f4 ++ ((c6 (fun t => inR t 0 9) a6).take g).map (fun c => ((3 : Int), [c])))) (f4 ++ ((c6 (fun t => inR t 0 9) a6).take g).map (fun c => ((3 : Int), [c])))).length ∧ True) (fun r => [(5, .pointer (some ⟨b5, 0, none⟩)), (10, .slice a38_0 (fzF (c6 (fun t => inR t 0 9) (f4 ++ ((c6 (fun t => inR t 0 9) a6).take g).map (fun c => ((3 : Int), [c])))) (f4 ++ ((c6 (fun t => inR t 0 9) a6).take g).map (fun c => ((3 : Int), [c])))).length c38_0), (11, .pointer (some ⟨b11, 0, none⟩)), (12, .bool (fzB (c6 (fun t => inR t 0 9) (f4 ++ ((c6 (fun t => inR t 0 9) a6).take g).map (fun c => ((3 : Int), [c])))) (f4 ++ ((c6 (fun t => inR t 0 9) a6).take g).map (fun c => ((3 : Int), [c]))))), (13, .slice r.2.1 r.2.2.1 r.2.2.2), (14, .int .i64 (↑r.1 : Int))]) (fun r => [owd tFact G0 a38_0 ((fzF (c6 (fun t => inR t 0 9) (f4 ++ ((c6 (fun t => inR t 0 9) a6).take g).map (fun c => ((3 : Int), [c])))) (f4 ++ ((c6 (fun t => inR t 0 9) a6).take g).map (fun c => ((3 : Int), [c])))).length) c38_0 (fzF (c6 (fun t => inR t 0 9) (f4 ++ ((c6 (fun t => inR t 0 9) a6).take g).map (fun c => ((3 : Int), [c])))) (f4 ++ ((c6 (fun t => inR t 0 9) a6).take g).map (fun c => ((3 : Int), [c])))) r.1, ow u5 [.slice r.2.1 r.2.2.1 r.2.2.2] (((fzF (c6 (fun t => inR t 0 9) (f4 ++ ((c6 (fun t => inR t 0 9) a6).take g).map (fun c => ((3 : Int), [c])))) (f4 ++ ((c6 (fun t => inR t 0 9) a6).take g).map (fun c => ((3 : Int), [c])))).take r.1).filter (fun f => decide (f.1 < 3))), pt b11 39 [.slice a38_1 (fzV (c6 (fun t => inR t 0 9) (f4 ++ ((c6 (fun t => inR t 0 9) a6).take g).map (fun c => ((3 : Int), [c])))) (f4 ++ ((c6 (fun t => inR t 0 9) a6).take g).map (fun c => ((3 : Int), [c])))).length c38_1, .slice a38_2 (fzX (c6 (fun t => inR t 0 9) (f4 ++ ((c6 (fun t => inR t 0 9) a6).take g).map (fun c => ((3 : Int), [c])))) (f4 ++ ((c6 (fun t => inR t 0 9) a6).take g).map (fun c => ((3 : Int), [c])))).length c38_2], ow eIs [.slice a38_1 (fzV (c6 (fun t => inR t 0 9) (f4 ++ ((c6 (fun t => inR t 0 9) a6).take g).map (fun c => ((3 : Int), [c])))) (f4 ++ ((c6 (fun t => inR t 0 9) a6).take g).map (fun c => ((3 : Int), [c])))).length c38_1] (fzV (c6 (fun t => inR t 0 9) (f4 ++ ((c6 (fun t => inR t 0 9) a6).take g).map (fun c => ((3 : Int), [c])))) (f4 ++ ((c6 (fun t => inR t 0 9) a6).take g).map (fun c => ((3 : Int), [c])))), ow eIs [.slice a38_2 (fzX (c6 (fun t => inR t 0 9) (f4 ++ ((c6 (fun t => inR t 0 9) a6).take g).map (fun c => ((3 : Int), [c])))) (f4 ++ ((c6 (fun t => inR t 0 9) a6).take g).map (fun c => ((3 : Int), [c])))).length c38_2] (fzX (c6 (fun t => inR t 0 9) (f4 ++ ((c6 (fun t => inR t 0 9) a6).take g).map (fun c => ((3 : Int), [c])))) (f4 ++ ((c6 (fun t => inR t 0 9) a6).take g).map (fun c => ((3 : Int), [c])))), ow j8 [.slice aA0_0 (f4 ++ ((c6 (fun t => inR t 0 9) a6).take g).map (fun c => ((3 : Int), [c]))).length cA0_0] (f4 ++ ((c6 (fun t => inR t 0 9) a6).take g).map (fun c => ((3 : Int), [c]))), pt b7 27 [.slice a16_0 (C9).length c16_0, .slice aA0_0 (f4 ++ ((c6 (fun t => inR t 0 9) a6).take g).map (fun c => ((3 : Int), [c]))).length cA0_0], ow eIs [.slice a16_0 (C9).length c16_0] C9, pt b5 39 [.slice none 0 0, .slice none 0 0], pt b3 27 [.slice l0 f5.length k6, .slice j3 a6.length j0], pt b2 27 [.slice H7 C9.length H6, .slice G5 f4.length G4]]) (fun r => (fzF (c6 (fun t => inR t 0 9) (f4 ++ ((c6 (fun t => inR t 0 9) a6).take g).map (fun c => ((3 : Int), [c])))) (f4 ++ ((c6 (fun t => inR t 0 9) a6).take g).map (fun c => ((3 : Int), [c])))).length - r.1) (0, (some ⟨b42, 0, none⟩), 0, 0) ⟨Nat.zero_le _, by simp⟩ ⟨rfl, rfl, rfl, rfl, rfl, rfl, trivial⟩ (.refl _) (fun r pr => ?_))))))))))))))))))))))))))
  obtain ⟨r, aA1_0, mA1_0, cA1_0⟩ := r
  try dsimp only at pr
  try dsimp only
  obtain ⟨pk, pa⟩ := pr
  have jf := List.length_filter_le (fun f => decide (f.1 < 3)) ((fzF (c6 (fun t => inR t 0 9) (f4 ++ ((c6 (fun t => inR t 0 9) a6).take g).map (fun c => ((3 : Int), [c])))) (f4 ++ ((c6 (fun t => inR t 0 9) a6).take g).map (fun c => ((3 : Int), [c])))).take r)
  have jt := List.length_take_le r (fzF (c6 (fun t => inR t 0 9) (f4 ++ ((c6 (fun t => inR t 0 9) a6).take g).map (fun c => ((3 : Int), [c])))) (f4 ++ ((c6 (fun t => inR t 0 9) a6).take g).map (fun c => ((3 : Int), [c]))))
  have jl := a0y (u := c6 (fun t => inR t 0 9) (f4 ++ ((c6 (fun t => inR t 0 9) a6).take g).map (fun c => ((3 : Int), [c])))) (l6 := (f4 ++ ((c6 (fun t => inR t 0 9) a6).take g).map (fun c => ((3 : Int), [c]))))
  have jm : (f4 ++ ((c6 (fun t => inR t 0 9) a6).take g).map (fun c => ((3 : Int), [c]))).length ≤ 14 := by simp only [List.length_append, List.length_map, List.length_take]; omega
  refine d4 (mS m0) fun eaA1_0 laA1_0 => ?_
  subst eaA1_0
  refine Eq_ (Ew Z4 (Em rfl (Em rfl (Ey rfl ((Y.len us_Facts rfl).yd) (Ey rfl ((Y.lss rfl rfl).yd) (n9 (fun q46 => ?_) (fun q46 => ?_)))))))
  ·refine Eu (o0 rfl (f8 (Et (Eq_ (E.block (Ew Z6 (Em rfl (Em rfl (a7c m0 om fun ab51 ae51 => (a7K (j := r) om fun ce51 => (d7 (a8V fun oa51_1 om51_1 oc51_1 oe51 oi51_0 on51_1 => ?_))))))))))))
   subst oe51
   subst on51_1
   refine d4 m0 fun _ ol51_1 => (Ey rfl ((t6 us_Facts ty_Fact rfl ae51 rfl r rfl om).yd) (Ey rfl ((i0 fo_Fact_0 f6 dc rfl).yd) (Ey rfl (f9 f6 rfl ((Has.owt ae51 (mS m0)).sub (cs' := [_]) 0 rfl) rfl) (Ey rfl ((Y.lss rfl rfl).yd) (n9 (fun q54 => ?_) (fun q54 => ?_))))))
   ·refine Eu (o0 rfl (Ez Z8 (Em rfl (Em rfl (Em rfl (Ey rfl ((t6 us_Facts ty_Fact rfl ae51 rfl r rfl om).yd) (Ey rfl (j6 (cs := [_, _]) ty_Fact rfl (Has.owt ae51 (mS m0)) rfl) (Est rfl (Nb [_] [_, _] us_Facts ty_Fact rfl rfl) (fun b60 _ => (d7 (d7 (l3 (Est rfl (v7 (E := G0) (ex := (fzF (c6 (fun t => inR t 0 9) (f4 ++ ((c6 (fun t => inR t 0 9) a6).take g).map (fun c => ((3 : Int), [c])))) (f4 ++ ((c6 (fun t => inR t 0 9) a6).take g).map (fun c => ((3 : Int), [c]))))[r]) us_Facts ty_Fact rfl rfl rfl (I4 (x := (fzF (c6 (fun t => inR t 0 9) (f4 ++ ((c6 (fun t => inR t 0 9) a6).take g).map (fun c => ((3 : Int), [c])))) (f4 ++ ((c6 (fun t => inR t 0 9) a6).take g).map (fun c => ((3 : Int), [c]))))[r]) oi51_0 Own.ow) rfl bn bn dc) (fun p61 _ => (Ei rfl (En (s4 (Et (Ez Z3 (Em rfl (Ey rfl ((Y.add rfl rfl om om).yd) (Ei rfl (Eu (d7 (a5l (d7 (i9 (congrArg (ow u5 [_]) (show (((fzF (c6 (fun t => inR t 0 9) (f4 ++ ((c6 (fun t => inR t 0 9) a6).take g).map (fun c => ((3 : Int), [c])))) (f4 ++ ((c6 (fun t => inR t 0 9) a6).take g).map (fun c => ((3 : Int), [c])))).take r).filter (fun f => decide (f.1 < 3))) ++ [(fzF (c6 (fun t => inR t 0 9) (f4 ++ ((c6 (fun t => inR t 0 9) a6).take g).map (fun c => ((3 : Int), [c])))) (f4 ++ ((c6 (fun t => inR t 0 9) a6).take g).map (fun c => ((3 : Int), [c]))))[r]] = ((fzF (c6 (fun t => inR t 0 9) (f4 ++ ((c6 (fun t => inR t 0 9) a6).take g).map (fun c => ((3 : Int), [c])))) (f4 ++ ((c6 (fun t => inR t 0 9) a6).take g).map (fun c => ((3 : Int), [c])))).take (r + 1)).filter (fun f => decide (f.1 < 3)) from by grind [d1, d2, t1, t2])) (H0 (H0 (H0 (H0 (H0 (H0 (H0 (H0 (H0 (s7 (H0 ?_))))))))))))))))))))))))))))))))))))))
    exact Ea (r + 1, p61.1, ((((fzF (c6 (fun t => inR t 0 9) (f4 ++ ((c6 (fun t => inR t 0 9) a6).take g).map (fun c => ((3 : Int), [c])))) (f4 ++ ((c6 (fun t => inR t 0 9) a6).take g).map (fun c => ((3 : Int), [c])))).take r).filter (fun f => decide (f.1 < 3))).length + 1), p61.2) ⟨oz, trivial⟩
   ·refine Eu (n0 rfl (f8 (s4 (Et (Ez Z3 (Em rfl (Ey rfl ((Y.add rfl rfl om om).yd) (Ei rfl (Eu (d7 (a5l (d7 (Ent.drop (d7 (i9 (congrArg (ow u5 [_]) (show ((fzF (c6 (fun t => inR t 0 9) (f4 ++ ((c6 (fun t => inR t 0 9) a6).take g).map (fun c => ((3 : Int), [c])))) (f4 ++ ((c6 (fun t => inR t 0 9) a6).take g).map (fun c => ((3 : Int), [c])))).take r).filter (fun f => decide (f.1 < 3)) = ((fzF (c6 (fun t => inR t 0 9) (f4 ++ ((c6 (fun t => inR t 0 9) a6).take g).map (fun c => ((3 : Int), [c])))) (f4 ++ ((c6 (fun t => inR t 0 9) a6).take g).map (fun c => ((3 : Int), [c])))).take (r + 1)).filter (fun f => decide (f.1 < 3)) from by grind [d1, d2, t1, t2])) (H0 (H0 (H0 (H0 (H0 (H0 (H0 (H0 (H0 (s7 (H0 ?_))))))))))))))))))))))))))
    exact Ea (r + 1, aA1_0, (((fzF (c6 (fun t => inR t 0 9) (f4 ++ ((c6 (fun t => inR t 0 9) a6).take g).map (fun c => ((3 : Int), [c])))) (f4 ++ ((c6 (fun t => inR t 0 9) a6).take g).map (fun c => ((3 : Int), [c])))).take r).filter (fun f => decide (f.1 < 3))).length, cA1_0) ⟨oz, trivial⟩
  ·have jX : (f4 ++ ((c6 (fun t => inR t 0 9) a6).take g).map (fun c => ((3 : Int), [c]))) = xF f4 a6 := by rw [List.take_of_length_le om]; rfl
   refine Eu (n0 rfl (E.exit (o3 (o3 (x5 (Et (Eq_ (D.region (fun j => !(Nat.beq j 4)) mixed (Dyp 0 rfl (i8 rfl) (Dy 1 rfl (j6 (cs := [_, _]) ty_Binding rfl (Has.pt (mS (mS m0))) rfl) (Dyp 2 rfl (i8 rfl) (Dyp 3 rfl (C0 rfl) (s8 (r8 4 rfl rfl kr (fun h => by cases h) (Ns [_, _] ty_Binding rfl) (fun _ _ => (Dyp 5 rfl (C0 rfl) (r7 kr (Et (E.ret (n8 (i9 (congrArg (ow eIs [_]) (show _ = fzX [c6 (fun t => inR t 0 9) f4, c6 (fun t => inR t 0 9) a6].flatten f4 by first | (rw [List.take_of_length_le om, jX]; exact x_F hpr) | (rw [jX]; first | exact x_V | exact x_X | exact x_B | exact x_B.symm))) (n8 (i9 (congrArg (ow eIs [_]) (show _ = fzV [c6 (fun t => inR t 0 9) f4, c6 (fun t => inR t 0 9) a6].flatten f4 by first | (rw [List.take_of_length_le om, jX]; exact x_F hpr) | (rw [jX]; first | exact x_V | exact x_X | exact x_B | exact x_B.symm))) (i7 (i9 (congrArg (ow u5 [_]) (show _ = fzF [c6 (fun t => inR t 0 9) f4, c6 (fun t => inR t 0 9) a6].flatten f4 by first | (rw [List.take_of_length_le om, jX]; exact x_F hpr) | (rw [jX]; first | exact x_V | exact x_X | exact x_B | exact x_B.symm))) (g9 (g9 (g9 ?_))))))))))))))))))))))))))))
   exact a1s hB1 rfl rfl rfl rfl (mS (mS (mS m0))) ty_Binding rfl ((_, _, _), (_, _, _), (_, _, _)) trivial (by rw [show (fzB [c6 (fun t => inR t 0 9) f4, c6 (fun t => inR t 0 9) a6].flatten f4) = (fzB (c6 (fun t => inR t 0 9) (f4 ++ ((c6 (fun t => inR t 0 9) a6).take g).map (fun c => ((3 : Int), [c])))) (f4 ++ ((c6 (fun t => inR t 0 9) a6).take g).map (fun c => ((3 : Int), [c])))) from (by first | (rw [List.take_of_length_le om, jX]; exact x_F hpr) | (rw [jX]; first | exact x_V | exact x_X | exact x_B | exact x_B.symm))]; try rfl) (J := _) (.refl _) (.inl rfl)
theorem a3T (hpa : f4.length ≤ 4) (hpt : ∀ a ∈ f4, a.2.length ≤ 3) (hph : C9.length ≤ 3) (hqa : a6.length ≤ 4) (hqt : ∀ a ∈ a6, a.2.length ≤ 3) (hqh : f5.length ≤ 3) (hzp : E7 (fun x => x.2.length) f4 ≤ 1048576) (hzq : E7 (fun x => x.2.length) a6 ≤ 1048576) : Tr Tryz.prog 50 [.agg #[.slice H7 M0 H6, .slice G5 J4 G4], .agg #[.slice l0 r5 k6, .slice j3 o1 j0]] (fun w L => Ro w L eIs [.slice H7 M0 H6] C9 ∧ Ro w L j8 [.slice G5 J4 G4] f4 ∧ Ro w L eIs [.slice l0 r5 k6] f5 ∧ Ro w L j8 [.slice j3 o1 j0] a6) [] (κ := Unit) (fun k => True) (fun k => .bool (W3 (C9, f4) (f5, a6))) (fun k => []) := by
 refine Tr.intro Tryz.func50 rfl (n := 41) rfl (by decide +kernel) bl (fr := [(0, .agg #[.slice H7 M0 H6, .slice G5 J4 G4]), (1, .agg #[.slice l0 r5 k6, .slice j3 o1 j0])]) rfl fun w L hR => ?_
 obtain ⟨F4, E1, o6, l4⟩ := hR
 obtain ⟨rfl, a3G⟩ := F4.slen
 obtain ⟨rfl, a2K⟩ := E1.slen
 obtain ⟨rfl, F2⟩ := o6.slen
 obtain ⟨rfl, E0⟩ := l4.slen
 refine Ew Z3 (Est rfl (N.box (cs := [_, _]) rfl dc rfl) (fun b2 _ => (Est rfl (N.box (cs := [_, _]) rfl dc rfl) (fun b3 _ => (Ei rfl (Eu (Eq_ (Ew Z7 (Ey rfl ((i0 fo_Query_0 ty_Is dc rfl).yd) (Ey rfl (f9 ty_Is rfl (Hz (mS m0) 0 rfl) rfl) (Ey rfl ((Y.len us_Is rfl).yd) (Ey rfl ((i0 fo_Query_0 ty_Is dc rfl).yd) (Ey rfl (f9 ty_Is rfl (Hz m0 0 rfl) rfl) (Ey rfl ((Y.len us_Is rfl).yd) (Ey rfl ((Y.neq rfl rfl).yd) (n9 (fun q16 => ?_) (fun q16 => ?_)))))))))))))))))
 ·refine Eu (o0 rfl (Ew Z1 (Ei rfl ?_)))
  exact Eu (E.ret (o4 (Fb rfl rfl (by grind [W3, d1, d2, t1, t2]))))
 ·refine Eu (n0 rfl (f8 (Et (Eq_ (L5 (κ := Option Addr × Nat × Nat × Option Addr × Nat × Option Addr × Nat) (fun _ => True) (fun kM => [(2, .pointer (some ⟨b2, 0, none⟩)), (3, .pointer (some ⟨b3, 0, none⟩)), (5, .slice kM.1 (fzF (([c6 (fun t => inR t 0 9) f4, c6 (fun t => inR t 0 9) a6]).flatten) f4).length kM.2.1), (6, .pointer (some ⟨kM.2.2.1, 0, none⟩)), (7, .bool (fzB (([c6 (fun t => inR t 0 9) f4, c6 (fun t => inR t 0 9) a6]).flatten) f4))]) (fun kM => [pt kM.2.2.1 39 [.slice kM.2.2.2.1 (fzV (([c6 (fun t => inR t 0 9) f4, c6 (fun t => inR t 0 9) a6]).flatten) f4).length kM.2.2.2.2.1, .slice kM.2.2.2.2.2.1 (fzX (([c6 (fun t => inR t 0 9) f4, c6 (fun t => inR t 0 9) a6]).flatten) f4).length kM.2.2.2.2.2.2], ow u5 [.slice kM.1 (fzF (([c6 (fun t => inR t 0 9) f4, c6 (fun t => inR t 0 9) a6]).flatten) f4).length kM.2.1] (fzF (([c6 (fun t => inR t 0 9) f4, c6 (fun t => inR t 0 9) a6]).flatten) f4), ow eIs [.slice kM.2.2.2.1 (fzV (([c6 (fun t => inR t 0 9) f4, c6 (fun t => inR t 0 9) a6]).flatten) f4).length kM.2.2.2.2.1] (fzV (([c6 (fun t => inR t 0 9) f4, c6 (fun t => inR t 0 9) a6]).flatten) f4), ow eIs [.slice kM.2.2.2.2.2.1 (fzX (([c6 (fun t => inR t 0 9) f4, c6 (fun t => inR t 0 9) a6]).flatten) f4).length kM.2.2.2.2.2.2] (fzX (([c6 (fun t => inR t 0 9) f4, c6 (fun t => inR t 0 9) a6]).flatten) f4), pt b3 27 [.slice l0 f5.length k6, .slice j3 a6.length j0], pt b2 27 [.slice H7 C9.length H6, .slice G5 f4.length G4]]) ?_ (fun kM _ => ?_))))))
  ·refine D.region (fun j => !(Nat.beq j 14)) mixed (Dy 0 rfl (j6 (cs := [_, _]) ty_Query rfl (Has.pt (mS m0)) rfl) (Dy 1 rfl (j6 (cs := [_, _]) ty_Query rfl (Has.pt (mS m0)) rfl) (Dy 3 rfl (j6 (cs := [_, _]) ty_Query rfl (Has.pt m0) rfl) (X8 (i := 2) (j := 12) kr ?_ ?_))))
   ·refine Q4 2 rfl rfl (fun _ => rfl) (N.call (M8 fo) rfl rfl rfl dc rfl (fun w Lp hA => ⟨hA.ro F4, hA.ro E1⟩)) (fun k20 _ => ?_)
    obtain ⟨a20, m20, c20⟩ := k20
    refine d4 m0 fun e20 l20 => ?_
    subst e20
    refine X8 (i := 4) (j := 12) kr ?_ ?_
    ·refine Q4 4 rfl rfl (fun _ => rfl) (N.call (M8 fo) rfl rfl rfl dc rfl (fun w Lp hA => ⟨hA.ro o6, hA.ro l4⟩)) (fun k22 _ => ?_)
     obtain ⟨a22, m22, c22⟩ := k22
     refine d4 m0 fun e22 l22 => ?_
     subst e22
     refine X8 (i := 5) (j := 12) kr ?_ ?_
     ·refine Q4 5 rfl rfl (fun _ => rfl) (Nb [_, _] [_, _] us_Iss ty_Is rfl rfl) (fun b23 _ => (d7 (g9 (g9 (o2 (a2M (E := eIs) (e := tIs) (c1 := [.slice a20 (c6 (fun t => inR t 0 9) f4).length c20]) (c2 := [.slice a22 (c6 (fun t => inR t 0 9) a6).length c22]) Own.ow Own.ow) rfl (X8 (i := 6) (j := 12) kr ?_ ?_))))))
      ·refine Q4 6 rfl rfl (fun _ => rfl) (N.call (K0 (by have h1 := L4 (l6 := f4); have h2 := L4 (l6 := a6); simp [P8]; omega)) rfl rfl rfl dc rfl (fun w Lp hA => hA.ow m0)) (fun k24 _ => ?_)
       obtain ⟨a24, m24, c24⟩ := k24
       refine d4 m0 fun e24 l24 => ?_
       subst e24
       refine X8 (i := 7) (j := 12) kr ?_ ?_
       ·refine Q4 7 rfl rfl (fun _ => rfl) (N.call (P4 fo (a0Y (p := f4) (q := a6))) rfl rfl rfl dc rfl (fun w Lp hA => ⟨hA.ro F4, hA.ro E1, hA.ow m0⟩)) (fun k25 _ => ?_)
        obtain ⟨⟨a25_0, m25_0, c25_0⟩, ⟨a25_1, m25_1, c25_1⟩, ⟨a25_2, m25_2, c25_2⟩⟩ := k25
        refine d4 m0 fun e25_0 l25_0 => ?_
        subst e25_0
        refine d4 (mS m0) fun e25_1 l25_1 => ?_
        subst e25_1
        refine d4 (mS (mS m0)) fun e25_2 l25_2 => ?_
        subst e25_2
        refine Dyp 8 rfl (i8 rfl) (Dyp 9 rfl (Y.ext rfl rfl) (Dyp 10 rfl (Y.ext rfl rfl) (Dyp 11 rfl (Y.ext rfl rfl) (r8 12 rfl rfl kr (fun _ => rfl) (N.alloc ty_Binding dc) (fun b6 _ => (Dyp 13 rfl (C0 rfl) (r8 14 rfl rfl kr (fun h => by cases h) (Ns [_, _] ty_Binding rfl) (fun _ _ => (Dyp 15 rfl (C0 rfl) (r7 kr (i7 (Ent.drop (i7 (Ent.drop (n8 (n8 (n8 (n8 (n8 (n8 ?_))))))))))))))))))))
        exact E3 (a25_0, c25_0, b6, a25_1, c25_1, a25_2, c25_2) trivial ⟨rfl, rfl, rfl, rfl, rfl, trivial⟩ (.refl _)
       ·refine Q4 12 rfl rfl (fun _ => rfl) (N.alloc ty_Binding dc) (fun b6 _ => (r8 7 rfl rfl kr (fun _ => rfl) (N.call (P4 fo (a0Y (p := f4) (q := a6))) rfl rfl rfl dc rfl (fun w Lp hA => ⟨hA.ro F4, hA.ro E1, hA.ow (mS m0)⟩)) (fun k25 _ => ?_)))
        obtain ⟨⟨a25_0, m25_0, c25_0⟩, ⟨a25_1, m25_1, c25_1⟩, ⟨a25_2, m25_2, c25_2⟩⟩ := k25
        refine d4 m0 fun e25_0 l25_0 => ?_
        subst e25_0
        refine d4 (mS m0) fun e25_1 l25_1 => ?_
        subst e25_1
        refine d4 (mS (mS m0)) fun e25_2 l25_2 => ?_
        subst e25_2
        refine Dyp 8 rfl (i8 rfl) (Dyp 9 rfl (Y.ext rfl rfl) (Dyp 10 rfl (Y.ext rfl rfl) (Dyp 11 rfl (Y.ext rfl rfl) (Dyp 13 rfl (C0 rfl) (l3 (r8 14 rfl rfl kr (fun h => by cases h) (Ns [_, _] ty_Binding rfl) (fun _ _ => (Dyp 15 rfl (C0 rfl) (r7 kr (i7 (Ent.drop (i7 (Ent.drop (n8 (n8 (n8 (n8 (n8 (n8 ?_)))))))))))))))))))
        exact E3 (a25_0, c25_0, b6, a25_1, c25_1, a25_2, c25_2) trivial ⟨rfl, rfl, rfl, rfl, rfl, trivial⟩ (.refl _)
      ·refine Q4 12 rfl rfl (fun _ => rfl) (N.alloc ty_Binding dc) (fun b6 _ => (r8 6 rfl rfl kr (fun _ => rfl) (N.call (K0 (by have h1 := L4 (l6 := f4); have h2 := L4 (l6 := a6); simp [P8]; omega)) rfl rfl rfl dc rfl (fun w Lp hA => hA.ow (mS m0))) (fun k24 _ => ?_)))
       obtain ⟨a24, m24, c24⟩ := k24
       refine d4 m0 fun e24 l24 => ?_
       subst e24
       refine r8 7 rfl rfl kr (fun _ => rfl) (N.call (P4 fo (a0Y (p := f4) (q := a6))) rfl rfl rfl dc rfl (fun w Lp hA => ⟨hA.ro F4, hA.ro E1, hA.ow m0⟩)) (fun k25 _ => ?_)
       obtain ⟨⟨a25_0, m25_0, c25_0⟩, ⟨a25_1, m25_1, c25_1⟩, ⟨a25_2, m25_2, c25_2⟩⟩ := k25
       refine d4 m0 fun e25_0 l25_0 => ?_
       subst e25_0
       refine d4 (mS m0) fun e25_1 l25_1 => ?_
       subst e25_1
       refine d4 (mS (mS m0)) fun e25_2 l25_2 => ?_
       subst e25_2
       refine Dyp 8 rfl (i8 rfl) (Dyp 9 rfl (Y.ext rfl rfl) (Dyp 10 rfl (Y.ext rfl rfl) (Dyp 11 rfl (Y.ext rfl rfl) (Dyp 13 rfl (C0 rfl) (i7 (r8 14 rfl rfl kr (fun h => by cases h) (Ns [_, _] ty_Binding rfl) (fun _ _ => (Dyp 15 rfl (C0 rfl) (r7 kr (i7 (Ent.drop (i7 (Ent.drop (n8 (n8 (n8 (n8 (n8 (n8 ?_)))))))))))))))))))
       exact E3 (a25_0, c25_0, b6, a25_1, c25_1, a25_2, c25_2) trivial ⟨rfl, rfl, rfl, rfl, rfl, trivial⟩ (.refl _)
     ·refine Q4 12 rfl rfl (fun _ => rfl) (N.alloc ty_Binding dc) (fun b6 _ => (r8 5 rfl rfl kr (fun _ => rfl) (Nb [_, _] [_, _] us_Iss ty_Is rfl rfl) (fun b23 _ => (g9 (l3 (g9 (o2 (a2M (E := eIs) (e := tIs) (c1 := [.slice a20 (c6 (fun t => inR t 0 9) f4).length c20]) (c2 := [.slice a22 (c6 (fun t => inR t 0 9) a6).length c22]) Own.ow Own.ow) rfl (r8 6 rfl rfl kr (fun _ => rfl) (N.call (K0 (by have h1 := L4 (l6 := f4); have h2 := L4 (l6 := a6); simp [P8]; omega)) rfl rfl rfl dc rfl (fun w Lp hA => hA.ow m0)) (fun k24 _ => ?_)))))))))
      obtain ⟨a24, m24, c24⟩ := k24
      refine d4 m0 fun e24 l24 => ?_
      subst e24
      refine r8 7 rfl rfl kr (fun _ => rfl) (N.call (P4 fo (a0Y (p := f4) (q := a6))) rfl rfl rfl dc rfl (fun w Lp hA => ⟨hA.ro F4, hA.ro E1, hA.ow m0⟩)) (fun k25 _ => ?_)
      obtain ⟨⟨a25_0, m25_0, c25_0⟩, ⟨a25_1, m25_1, c25_1⟩, ⟨a25_2, m25_2, c25_2⟩⟩ := k25
      refine d4 m0 fun e25_0 l25_0 => ?_
      subst e25_0
      refine d4 (mS m0) fun e25_1 l25_1 => ?_
      subst e25_1
      refine d4 (mS (mS m0)) fun e25_2 l25_2 => ?_
      subst e25_2
      refine Dyp 8 rfl (i8 rfl) (Dyp 9 rfl (Y.ext rfl rfl) (Dyp 10 rfl (Y.ext rfl rfl) (Dyp 11 rfl (Y.ext rfl rfl) (Dyp 13 rfl (C0 rfl) (n8 (r8 14 rfl rfl kr (fun h => by cases h) (Ns [_, _] ty_Binding rfl) (fun _ _ => (Dyp 15 rfl (C0 rfl) (r7 kr (i7 (Ent.drop (i7 (Ent.drop (n8 (n8 (n8 (n8 (n8 (n8 ?_)))))))))))))))))))
      exact E3 (a25_0, c25_0, b6, a25_1, c25_1, a25_2, c25_2) trivial ⟨rfl, rfl, rfl, rfl, rfl, trivial⟩ (.refl _)
    ·refine Q4 12 rfl rfl (fun _ => rfl) (N.alloc ty_Binding dc) (fun b6 _ => (r8 4 rfl rfl kr (fun _ => rfl) (N.call (M8 fo) rfl rfl rfl dc rfl (fun w Lp hA => ⟨hA.ro o6, hA.ro l4⟩)) (fun k22 _ => ?_)))
     obtain ⟨a22, m22, c22⟩ := k22
     refine d4 m0 fun e22 l22 => ?_
     subst e22
     refine r8 5 rfl rfl kr (fun _ => rfl) (Nb [_, _] [_, _] us_Iss ty_Is rfl rfl) (fun b23 _ => (d7 (l3 (g9 (o2 (a2M (E := eIs) (e := tIs) (c1 := [.slice a20 (c6 (fun t => inR t 0 9) f4).length c20]) (c2 := [.slice a22 (c6 (fun t => inR t 0 9) a6).length c22]) Own.ow Own.ow) rfl (r8 6 rfl rfl kr (fun _ => rfl) (N.call (K0 (by have h1 := L4 (l6 := f4); have h2 := L4 (l6 := a6); simp [P8]; omega)) rfl rfl rfl dc rfl (fun w Lp hA => hA.ow m0)) (fun k24 _ => ?_)))))))
     obtain ⟨a24, m24, c24⟩ := k24
     refine d4 m0 fun e24 l24 => ?_
     subst e24
     refine r8 7 rfl rfl kr (fun _ => rfl) (N.call (P4 fo (a0Y (p := f4) (q := a6))) rfl rfl rfl dc rfl (fun w Lp hA => ⟨hA.ro F4, hA.ro E1, hA.ow m0⟩)) (fun k25 _ => ?_)
     obtain ⟨⟨a25_0, m25_0, c25_0⟩, ⟨a25_1, m25_1, c25_1⟩, ⟨a25_2, m25_2, c25_2⟩⟩ := k25
     refine d4 m0 fun e25_0 l25_0 => ?_
     subst e25_0
     refine d4 (mS m0) fun e25_1 l25_1 => ?_
     subst e25_1
     refine d4 (mS (mS m0)) fun e25_2 l25_2 => ?_
     subst e25_2
     refine Dyp 8 rfl (i8 rfl) (Dyp 9 rfl (Y.ext rfl rfl) (Dyp 10 rfl (Y.ext rfl rfl) (Dyp 11 rfl (Y.ext rfl rfl) (Dyp 13 rfl (C0 rfl) (n8 (r8 14 rfl rfl kr (fun h => by cases h) (Ns [_, _] ty_Binding rfl) (fun _ _ => (Dyp 15 rfl (C0 rfl) (r7 kr (i7 (Ent.drop (i7 (Ent.drop (n8 (n8 (n8 (n8 (n8 (n8 ?_)))))))))))))))))))
     exact E3 (a25_0, c25_0, b6, a25_1, c25_1, a25_2, c25_2) trivial ⟨rfl, rfl, rfl, rfl, rfl, trivial⟩ (.refl _)
   ·refine Q4 12 rfl rfl (fun _ => rfl) (N.alloc ty_Binding dc) (fun b6 _ => (r8 2 rfl rfl kr (fun _ => rfl) (N.call (M8 fo) rfl rfl rfl dc rfl (fun w Lp hA => ⟨hA.ro F4, hA.ro E1⟩)) (fun k20 _ => ?_)))
    obtain ⟨a20, m20, c20⟩ := k20
    refine d4 m0 fun e20 l20 => ?_
    subst e20
    refine r8 4 rfl rfl kr (fun _ => rfl) (N.call (M8 fo) rfl rfl rfl dc rfl (fun w Lp hA => ⟨hA.ro o6, hA.ro l4⟩)) (fun k22 _ => ?_)
    obtain ⟨a22, m22, c22⟩ := k22
    refine d4 m0 fun e22 l22 => ?_
    subst e22
    refine r8 5 rfl rfl kr (fun _ => rfl) (Nb [_, _] [_, _] us_Iss ty_Is rfl rfl) (fun b23 _ => (d7 (g9 (g9 (o2 (a2M (E := eIs) (e := tIs) (c1 := [.slice a20 (c6 (fun t => inR t 0 9) f4).length c20]) (c2 := [.slice a22 (c6 (fun t => inR t 0 9) a6).length c22]) Own.ow Own.ow) rfl (r8 6 rfl rfl kr (fun _ => rfl) (N.call (K0 (by have h1 := L4 (l6 := f4); have h2 := L4 (l6 := a6); simp [P8]; omega)) rfl rfl rfl dc rfl (fun w Lp hA => hA.ow m0)) (fun k24 _ => ?_)))))))
    obtain ⟨a24, m24, c24⟩ := k24
    refine d4 m0 fun e24 l24 => ?_
    subst e24
    refine r8 7 rfl rfl kr (fun _ => rfl) (N.call (P4 fo (a0Y (p := f4) (q := a6))) rfl rfl rfl dc rfl (fun w Lp hA => ⟨hA.ro F4, hA.ro E1, hA.ow m0⟩)) (fun k25 _ => ?_)
    obtain ⟨⟨a25_0, m25_0, c25_0⟩, ⟨a25_1, m25_1, c25_1⟩, ⟨a25_2, m25_2, c25_2⟩⟩ := k25
    refine d4 m0 fun e25_0 l25_0 => ?_
    subst e25_0
    refine d4 (mS m0) fun e25_1 l25_1 => ?_
    subst e25_1
    refine d4 (mS (mS m0)) fun e25_2 l25_2 => ?_
    subst e25_2
    refine Dyp 8 rfl (i8 rfl) (Dyp 9 rfl (Y.ext rfl rfl) (Dyp 10 rfl (Y.ext rfl rfl) (Dyp 11 rfl (Y.ext rfl rfl) (Dyp 13 rfl (C0 rfl) (n8 (r8 14 rfl rfl kr (fun h => by cases h) (Ns [_, _] ty_Binding rfl) (fun _ _ => (Dyp 15 rfl (C0 rfl) (r7 kr (i7 (Ent.drop (i7 (Ent.drop (n8 (n8 (n8 (n8 (n8 (n8 ?_)))))))))))))))))))
    exact E3 (a25_0, c25_0, b6, a25_1, c25_1, a25_2, c25_2) trivial ⟨rfl, rfl, rfl, rfl, rfl, trivial⟩ (.refl _)
  ·obtain ⟨a25_0, c25_0, b6, a25_1, c25_1, a25_2, c25_2⟩ := kM
   try dsimp only
   refine Et (Eq_ (Ew Z2 (Em rfl (t7 (fun q29 => ?_) (fun q29 => ?_)))))
   ·refine Ey rfl ((Y.not (b := true) rfl).yd) (Eu (n0 rfl (f8 (Et (Eq_ (L5 (κ := Nat × Option Addr × Nat × Option Addr × Nat) (fun _ => True) (fun kM => [(9, .bool ((j7 a6 (fzF (([c6 (fun t => inR t 0 9) f4, c6 (fun t => inR t 0 9) a6]).flatten) f4)).any (J2 f5 (C9.map (u6 ((fzV (([c6 (fun t => inR t 0 9) f4, c6 (fun t => inR t 0 9) a6]).flatten) f4), (fzX (([c6 (fun t => inR t 0 9) f4, c6 (fun t => inR t 0 9) a6]).flatten) f4)))))))]) (fun kM => [pt kM.1 39 [.slice kM.2.1 ((s9 (j7 a6 (fzF (([c6 (fun t => inR t 0 9) f4, c6 (fun t => inR t 0 9) a6]).flatten) f4)) f5 (C9.map (u6 ((fzV (([c6 (fun t => inR t 0 9) f4, c6 (fun t => inR t 0 9) a6]).flatten) f4), (fzX (([c6 (fun t => inR t 0 9) f4, c6 (fun t => inR t 0 9) a6]).flatten) f4))))).1).length kM.2.2.1, .slice kM.2.2.2.1 ((s9 (j7 a6 (fzF (([c6 (fun t => inR t 0 9) f4, c6 (fun t => inR t 0 9) a6]).flatten) f4)) f5 (C9.map (u6 ((fzV (([c6 (fun t => inR t 0 9) f4, c6 (fun t => inR t 0 9) a6]).flatten) f4), (fzX (([c6 (fun t => inR t 0 9) f4, c6 (fun t => inR t 0 9) a6]).flatten) f4))))).2).length kM.2.2.2.2], ow eIs [.slice kM.2.1 ((s9 (j7 a6 (fzF (([c6 (fun t => inR t 0 9) f4, c6 (fun t => inR t 0 9) a6]).flatten) f4)) f5 (C9.map (u6 ((fzV (([c6 (fun t => inR t 0 9) f4, c6 (fun t => inR t 0 9) a6]).flatten) f4), (fzX (([c6 (fun t => inR t 0 9) f4, c6 (fun t => inR t 0 9) a6]).flatten) f4))))).1).length kM.2.2.1] ((s9 (j7 a6 (fzF (([c6 (fun t => inR t 0 9) f4, c6 (fun t => inR t 0 9) a6]).flatten) f4)) f5 (C9.map (u6 ((fzV (([c6 (fun t => inR t 0 9) f4, c6 (fun t => inR t 0 9) a6]).flatten) f4), (fzX (([c6 (fun t => inR t 0 9) f4, c6 (fun t => inR t 0 9) a6]).flatten) f4))))).1), ow eIs [.slice kM.2.2.2.1 ((s9 (j7 a6 (fzF (([c6 (fun t => inR t 0 9) f4, c6 (fun t => inR t 0 9) a6]).flatten) f4)) f5 (C9.map (u6 ((fzV (([c6 (fun t => inR t 0 9) f4, c6 (fun t => inR t 0 9) a6]).flatten) f4), (fzX (([c6 (fun t => inR t 0 9) f4, c6 (fun t => inR t 0 9) a6]).flatten) f4))))).2).length kM.2.2.2.2] ((s9 (j7 a6 (fzF (([c6 (fun t => inR t 0 9) f4, c6 (fun t => inR t 0 9) a6]).flatten) f4)) f5 (C9.map (u6 ((fzV (([c6 (fun t => inR t 0 9) f4, c6 (fun t => inR t 0 9) a6]).flatten) f4), (fzX (([c6 (fun t => inR t 0 9) f4, c6 (fun t => inR t 0 9) a6]).flatten) f4))))).2), pt b6 39 [.slice a25_1 (fzV (([c6 (fun t => inR t 0 9) f4, c6 (fun t => inR t 0 9) a6]).flatten) f4).length c25_1, .slice a25_2 (fzX (([c6 (fun t => inR t 0 9) f4, c6 (fun t => inR t 0 9) a6]).flatten) f4).length c25_2], ow u5 [.slice a25_0 (fzF (([c6 (fun t => inR t 0 9) f4, c6 (fun t => inR t 0 9) a6]).flatten) f4).length c25_0] (fzF (([c6 (fun t => inR t 0 9) f4, c6 (fun t => inR t 0 9) a6]).flatten) f4), ow eIs [.slice a25_1 (fzV (([c6 (fun t => inR t 0 9) f4, c6 (fun t => inR t 0 9) a6]).flatten) f4).length c25_1] (fzV (([c6 (fun t => inR t 0 9) f4, c6 (fun t => inR t 0 9) a6]).flatten) f4), ow eIs [.slice a25_2 (fzX (([c6 (fun t => inR t 0 9) f4, c6 (fun t => inR t 0 9) a6]).flatten) f4).length c25_2] (fzX (([c6 (fun t => inR t 0 9) f4, c6 (fun t => inR t 0 9) a6]).flatten) f4), pt b3 27 [.slice l0 f5.length k6, .slice j3 a6.length j0], pt b2 27 [.slice H7 C9.length H6, .slice G5 f4.length G4]]) ?_ (fun kM _ => ?_)))))))
    ·refine D.region (fun j => !(Nat.beq j 10)) mixed (Dy 0 rfl (j6 (cs := [_, _]) ty_Query rfl (Has.pt (mS (mS (mS (mS m0))))) rfl) (Dyp 1 rfl (i8 rfl) (Dy 2 rfl (j6 (cs := [_, _]) ty_Query rfl (Has.pt (mS (mS (mS (mS (mS m0)))))) rfl) (Dy 3 rfl (j6 (cs := [_, _]) ty_Binding rfl (Has.pt m0) rfl) (X8 (i := 4) (j := 9) kr ?_ ?_)))))
     ·refine Q4 4 rfl rfl (fun _ => rfl) (N.call (S6 fo) rfl rfl rfl dc rfl (fun w Lp hA => ⟨hA.ro F4, hA.ro E1, hA.ow (mS (mS m0)), hA.ow (mS (mS (mS m0)))⟩)) (fun k36 _ => ?_)
      obtain ⟨a36, m36, c36⟩ := k36
      refine d4 m0 fun e36 l36 => ?_
      subst e36
      refine X8 (i := 5) (j := 9) kr ?_ ?_
      ·refine Q4 5 rfl rfl (fun _ => rfl) (N.call (O8 fo fo (fun a _ => W9 (Nat.le_trans a0y om)) fo) rfl rfl rfl dc rfl (fun w Lp hA => ⟨hA.ro o6, hA.ro l4, hA.ow (mS (mS m0)), hA.ow m0⟩)) (fun k37 _ => ?_)
       obtain ⟨⟨a37_0, m37_0, c37_0⟩, ⟨a37_1, m37_1, c37_1⟩⟩ := k37
       refine d4 m0 fun e37_0 l37_0 => ?_
       subst e37_0
       refine d4 (mS m0) fun e37_1 l37_1 => ?_
       subst e37_1
       refine Dyp 6 rfl (i8 rfl) (Dyp 7 rfl (Y.ext rfl rfl) (Dyp 8 rfl (Y.ext rfl rfl) (r8 9 rfl rfl kr (fun _ => rfl) (N.alloc ty_Binding dc) (fun b8 _ => (r8 10 rfl rfl kr (fun h => by cases h) (Ns [_, _] ty_Binding rfl) (fun _ _ => (Dyp 11 rfl (C0 rfl) (r7 kr (l3 (Ent.drop (s8 (s8 (s8 (s8 (s8 (s8 (s8 (s8 (s8 ?_)))))))))))))))))))
       exact E3 (b8, a37_0, c37_0, a37_1, c37_1) trivial ⟨rfl, trivial⟩ (.refl _)
      ·refine Q4 9 rfl rfl (fun _ => rfl) (N.alloc ty_Binding dc) (fun b8 _ => (r8 5 rfl rfl kr (fun _ => rfl) (N.call (O8 fo fo (fun a _ => W9 (Nat.le_trans a0y om)) fo) rfl rfl rfl dc rfl (fun w Lp hA => ⟨hA.ro o6, hA.ro l4, hA.ow (mS (mS (mS m0))), hA.ow (mS m0)⟩)) (fun k37 _ => ?_)))
       obtain ⟨⟨a37_0, m37_0, c37_0⟩, ⟨a37_1, m37_1, c37_1⟩⟩ := k37
       refine d4 m0 fun e37_0 l37_0 => ?_
       subst e37_0
       refine d4 (mS m0) fun e37_1 l37_1 => ?_
       subst e37_1
       refine Dyp 6 rfl (i8 rfl) (Dyp 7 rfl (Y.ext rfl rfl) (Dyp 8 rfl (Y.ext rfl rfl) (g9 (r8 10 rfl rfl kr (fun h => by cases h) (Ns [_, _] ty_Binding rfl) (fun _ _ => (Dyp 11 rfl (C0 rfl) (r7 kr (l3 (Ent.drop (s8 (s8 (s8 (s8 (s8 (s8 (s8 (s8 (s8 ?_))))))))))))))))))
       exact E3 (b8, a37_0, c37_0, a37_1, c37_1) trivial ⟨rfl, trivial⟩ (.refl _)
     ·refine Q4 9 rfl rfl (fun _ => rfl) (N.alloc ty_Binding dc) (fun b8 _ => (r8 4 rfl rfl kr (fun _ => rfl) (N.call (S6 fo) rfl rfl rfl dc rfl (fun w Lp hA => ⟨hA.ro F4, hA.ro E1, hA.ow (mS (mS (mS m0))), hA.ow (mS (mS (mS (mS m0))))⟩)) (fun k36 _ => ?_)))
      obtain ⟨a36, m36, c36⟩ := k36
      refine d4 m0 fun e36 l36 => ?_
      subst e36
      refine r8 5 rfl rfl kr (fun _ => rfl) (N.call (O8 fo fo (fun a _ => W9 (Nat.le_trans a0y om)) fo) rfl rfl rfl dc rfl (fun w Lp hA => ⟨hA.ro o6, hA.ro l4, hA.ow (mS (mS (mS m0))), hA.ow m0⟩)) (fun k37 _ => ?_)
      obtain ⟨⟨a37_0, m37_0, c37_0⟩, ⟨a37_1, m37_1, c37_1⟩⟩ := k37
      refine d4 m0 fun e37_0 l37_0 => ?_
      subst e37_0
      refine d4 (mS m0) fun e37_1 l37_1 => ?_
      subst e37_1
      refine Dyp 6 rfl (i8 rfl) (Dyp 7 rfl (Y.ext rfl rfl) (Dyp 8 rfl (Y.ext rfl rfl) (l3 (r8 10 rfl rfl kr (fun h => by cases h) (Ns [_, _] ty_Binding rfl) (fun _ _ => (Dyp 11 rfl (C0 rfl) (r7 kr (l3 (Ent.drop (s8 (s8 (s8 (s8 (s8 (s8 (s8 (s8 (s8 ?_))))))))))))))))))
      exact E3 (b8, a37_0, c37_0, a37_1, c37_1) trivial ⟨rfl, trivial⟩ (.refl _)
    ·obtain ⟨b8, a37_0, c37_0, a37_1, c37_1⟩ := kM
     try dsimp only
     refine Et (Ew Z2 (Em rfl (Ei rfl ?_)))
     exact Eu (E.ret (Fb rfl rfl (by grind [W3, d1, d2, t1, t2])))
   ·refine Ey rfl ((Y.not (b := false) rfl).yd) (Eu (o0 rfl (Ew Z1 (Ei rfl ?_))))
    exact Eu (E.ret (o4 (Fb rfl rfl (by grind [W3, d1, d2, t1, t2]))))
theorem J3 (hzp : E7 (fun x => x.2.length) f4 ≤ 1048576) (hzq : E7 (fun x => x.2.length) a6 ≤ 1048576) : Tr Tryz.prog 7 [.slice a_s m_s c_s, .agg #[.slice H7 M0 H6, .slice G5 J4 G4], .agg #[.slice l0 r5 k6, .slice j3 o1 j0]] (fun w L => Ro w L eIs [.slice a_s m_s c_s] s ∧ Ro w L eIs [.slice H7 M0 H6] C9 ∧ Ro w L j8 [.slice G5 J4 G4] f4 ∧ Ro w L eIs [.slice l0 r5 k6] f5 ∧ Ro w L j8 [.slice j3 o1 j0] a6) [] (κ := Unit) (fun k => True) (fun k => .bool (J5 s (C9, f4) (f5, a6))) (fun k => []) := by
 refine Tr.intro Tryz.func7 rfl (n := 20) rfl (by decide +kernel) bl (fr := [(0, .slice a_s m_s c_s), (1, .agg #[.slice H7 M0 H6, .slice G5 J4 G4]), (2, .agg #[.slice l0 r5 k6, .slice j3 o1 j0])]) rfl fun w L hR => ?_
 obtain ⟨hs, F4, E1, o6, l4⟩ := hR
 obtain ⟨rfl, ls⟩ := hs.slen
 obtain ⟨rfl, a3G⟩ := F4.slen
 obtain ⟨rfl, a2K⟩ := E1.slen
 obtain ⟨rfl, F2⟩ := o6.slen
 obtain ⟨rfl, E0⟩ := l4.slen
 refine Ew Z3 (Est rfl (N.box (cs := [_, _]) rfl dc rfl) (fun b4 _ => (Est rfl (N.box (cs := [_, _]) rfl dc rfl) (fun b5 _ => (Ei rfl (Ev Z14 (Em rfl (Ey rfl (j6 (cs := [_, _]) ty_Query rfl (Has.pt (mS m0)) rfl) (Est rfl (m6 (a0q fo) rfl rfl rfl dc (fun w Lp hA => ⟨hA.ro hs, hA.ro F4, hA.ro E1⟩)) (fun _ _ => (t7 (fun q9 => ?_) (fun q9 => ?_))))))))))))
 ·refine Em rfl (Em rfl (Ey rfl (j6 (cs := [_, _]) ty_Query rfl (Has.pt m0) rfl) (Est rfl (m6 (a0q fo) rfl rfl rfl dc (fun w Lp hA => ⟨hA.ro hs, hA.ro o6, hA.ro l4⟩)) (fun _ _ => (t7 (fun q13 => ?_) (fun q13 => ?_))))))
  ·refine Ey rfl ((v8 rfl rfl).yd) (Em rfl (Ey rfl (j6 (cs := [_, _]) ty_Query rfl (Has.pt (mS m0)) rfl) (Ey rfl (j6 (cs := [_, _]) ty_Query rfl (Has.pt m0) rfl) (Est rfl (m6 (a3T ((D4 (s := s) (q := (C9, f4)) (by assumption)).1) ((D4 (s := s) (q := (C9, f4)) (by assumption)).2.2) (Nat.le_trans (D4 (s := s) (q := (C9, f4)) (by assumption)).2.1 dc) ((D4 (s := s) (q := (f5, a6)) (by assumption)).1) ((D4 (s := s) (q := (f5, a6)) (by assumption)).2.2) (Nat.le_trans (D4 (s := s) (q := (f5, a6)) (by assumption)).2.1 dc) fo fo) rfl rfl rfl dc (fun w Lp hA => ⟨hA.ro F4, hA.ro E1, hA.ro o6, hA.ro l4⟩)) (fun _ _ => (Ey rfl ((v8 rfl rfl).yd) (Ei rfl ?_)))))))
   exact Eu (E.ret (Fb rfl rfl (by grind [J5, W3, d1, d2, t1, t2])))
  ·refine Ey rfl ((v8 rfl rfl).yd) (Em rfl (Es rfl (Es rfl (Es rfl (Ey rfl ((u7 rfl rfl).yd) (Ei rfl ?_))))))
   exact Eu (E.ret (Fb rfl rfl (by grind [J5, W3, d1, d2, t1, t2])))
 ·refine Em rfl (Es rfl (Es rfl (Es rfl (Ey rfl ((u7 rfl rfl).yd) (Em rfl (Es rfl (Es rfl (Es rfl (Ey rfl ((u7 rfl rfl).yd) (Ei rfl ?_))))))))))
  exact Eu (E.ret (Fb rfl rfl (by grind [J5, W3, d1, d2, t1, t2])))
theorem R6 (hzp : E7 (fun x => x.2.length) f4 ≤ 1048576) (hzq : E7 (fun x => x.2.length) a6 ≤ 1048576) : Tr Tryz.prog 9 [.slice a_s m_s c_s, .agg #[.slice H7 M0 H6, .slice G5 J4 G4], .agg #[.slice l0 r5 k6, .slice j3 o1 j0]] (fun w L => Ro w L eIs [.slice a_s m_s c_s] s ∧ Ro w L eIs [.slice H7 M0 H6] C9 ∧ Ro w L j8 [.slice G5 J4 G4] f4 ∧ Ro w L eIs [.slice l0 r5 k6] f5 ∧ Ro w L j8 [.slice j3 o1 j0] a6) [] (κ := Unit) (fun k => True) (fun k => .bool (J5 s (C9, f4) (f5, a6))) (fun k => []) := by
 refine Tr.intro Tryz.func9 rfl (n := 50) rfl (by decide +kernel) bl (fr := [(0, .slice a_s m_s c_s), (1, .agg #[.slice H7 M0 H6, .slice G5 J4 G4]), (2, .agg #[.slice l0 r5 k6, .slice j3 o1 j0])]) rfl fun w L hR => ?_
 obtain ⟨hs, F4, E1, o6, l4⟩ := hR
 obtain ⟨rfl, ls⟩ := hs.slen
 obtain ⟨rfl, a3G⟩ := F4.slen
 obtain ⟨rfl, a2K⟩ := E1.slen
 obtain ⟨rfl, F2⟩ := o6.slen
 obtain ⟨rfl, E0⟩ := l4.slen
 refine Ew Z3 (Est rfl (N.box (cs := [_, _]) rfl dc rfl) (fun b4 _ => (Est rfl (N.box (cs := [_, _]) rfl dc rfl) (fun b5 _ => (Ei rfl (Eu (Eq_ (Ew Z19 (Em rfl (Ey rfl (j6 (cs := [_, _]) ty_Query rfl (Has.pt (mS m0)) rfl) (Est rfl (m6 (J7 fo) rfl rfl rfl dc (fun w Lp hA => ⟨hA.ro hs, hA.ro F4, hA.ro E1⟩)) (fun _ _ => (t7 (fun q14 => ?_) (fun q14 => ?_))))))))))))))
 ·refine Ey rfl ((Y.not (b := true) rfl).yd) (Em rfl (Em rfl (Ey rfl (j6 (cs := [_, _]) ty_Query rfl (Has.pt m0) rfl) (Est rfl (m6 (J7 fo) rfl rfl rfl dc (fun w Lp hA => ⟨hA.ro hs, hA.ro o6, hA.ro l4⟩)) (fun _ _ => (t7 (fun q19 => ?_) (fun q19 => ?_)))))))
  ·refine Ey rfl ((Y.not (b := true) rfl).yd) (Ey rfl ((u7 rfl rfl).yd) (Em rfl (Ey rfl ((i0 fo_Query_0 ty_Is dc rfl).yd) (Ey rfl (f9 ty_Is rfl (Hz (mS m0) 0 rfl) rfl) (Ey rfl ((Y.len us_Is rfl).yd) (Ey rfl ((i0 fo_Query_0 ty_Is dc rfl).yd) (Ey rfl (f9 ty_Is rfl (Hz m0 0 rfl) rfl) (Ey rfl ((Y.len us_Is rfl).yd) (Ey rfl ((Y.neq rfl rfl).yd) (n9 (fun q29 => ?_) (fun q29 => ?_)))))))))))
   ·refine Ey rfl ((u7 rfl rfl).yd) (Eu (o0 rfl (Ew Z1 (Ei rfl ?_))))
    exact Eu (E.ret (o4 (Fb rfl rfl (by grind [J5, W3, d1, d2, t1, t2]))))
   ·refine Ey rfl ((u7 rfl rfl).yd) (Eu (n0 rfl (f8 (Et (Ew Z11 (Ey rfl (j6 (cs := [_, _]) ty_Query rfl (Has.pt (mS m0)) rfl) (Ey rfl (j6 (cs := [_, _]) ty_Query rfl (Has.pt m0) rfl) (Est rfl (N.call (a4w ((D4 (s := s) (q := (C9, f4)) (by assumption)).1) ((D4 (s := s) (q := (C9, f4)) (by assumption)).2.2) (Nat.le_trans (D4 (s := s) (q := (C9, f4)) (by assumption)).2.1 dc) (a7l (s := s) (q := (C9, f4)) (by assumption)) fo) rfl rfl rfl dc rfl (fun w Lp hA => ⟨hA.ro F4, hA.ro E1, hA.ro o6, hA.ro l4⟩)) (fun k34 _ => ?_)))))))))
    obtain ⟨⟨a34_0, m34_0, c34_0⟩, ⟨a34_1, m34_1, c34_1⟩, ⟨a34_2, m34_2, c34_2⟩⟩ := k34
    refine d4 m0 fun e34_0 l34_0 => ?_
    subst e34_0
    refine d4 (mS m0) fun e34_1 l34_1 => ?_
    subst e34_1
    refine d4 (mS (mS m0)) fun e34_2 l34_2 => ?_
    subst e34_2
    refine Em rfl (Ey rfl ((Y.ext rfl rfl).yd) (Ey rfl ((Y.ext rfl rfl).yd) (Ey rfl ((Y.ext rfl rfl).yd) (Est rfl (N.alloc ty_Binding dc) (fun b8 _ => (Ei rfl (Est rfl (Ns [_, _] ty_Binding rfl) (fun _ _ => (Ei rfl (t7 (fun q9 => ?_) (fun q9 => ?_)))))))))))
    ·refine Eu (Eq_ (Ew Z2 (Em rfl (Ey rfl ((Y.not (b := true) rfl).yd) (Eu (n0 rfl (f8 (Et (Eq_ (L5 (κ := Nat × Option Addr × Nat × Option Addr × Nat) (fun _ => True) (fun kM => [(11, .bool ((j7 a6 (fzF [c6 (fun t => inR t 0 9) f4, c6 (fun t => inR t 0 9) a6].flatten f4)).any (J2 f5 (C9.map (u6 ((fzV [c6 (fun t => inR t 0 9) f4, c6 (fun t => inR t 0 9) a6].flatten f4), (fzX [c6 (fun t => inR t 0 9) f4, c6 (fun t => inR t 0 9) a6].flatten f4)))))))]) (fun kM => [pt kM.1 39 [.slice kM.2.1 ((s9 (j7 a6 (fzF [c6 (fun t => inR t 0 9) f4, c6 (fun t => inR t 0 9) a6].flatten f4)) f5 (C9.map (u6 ((fzV [c6 (fun t => inR t 0 9) f4, c6 (fun t => inR t 0 9) a6].flatten f4), (fzX [c6 (fun t => inR t 0 9) f4, c6 (fun t => inR t 0 9) a6].flatten f4))))).1).length kM.2.2.1, .slice kM.2.2.2.1 ((s9 (j7 a6 (fzF [c6 (fun t => inR t 0 9) f4, c6 (fun t => inR t 0 9) a6].flatten f4)) f5 (C9.map (u6 ((fzV [c6 (fun t => inR t 0 9) f4, c6 (fun t => inR t 0 9) a6].flatten f4), (fzX [c6 (fun t => inR t 0 9) f4, c6 (fun t => inR t 0 9) a6].flatten f4))))).2).length kM.2.2.2.2], ow eIs [.slice kM.2.1 ((s9 (j7 a6 (fzF [c6 (fun t => inR t 0 9) f4, c6 (fun t => inR t 0 9) a6].flatten f4)) f5 (C9.map (u6 ((fzV [c6 (fun t => inR t 0 9) f4, c6 (fun t => inR t 0 9) a6].flatten f4), (fzX [c6 (fun t => inR t 0 9) f4, c6 (fun t => inR t 0 9) a6].flatten f4))))).1).length kM.2.2.1] ((s9 (j7 a6 (fzF [c6 (fun t => inR t 0 9) f4, c6 (fun t => inR t 0 9) a6].flatten f4)) f5 (C9.map (u6 ((fzV [c6 (fun t => inR t 0 9) f4, c6 (fun t => inR t 0 9) a6].flatten f4), (fzX [c6 (fun t => inR t 0 9) f4, c6 (fun t => inR t 0 9) a6].flatten f4))))).1), ow eIs [.slice kM.2.2.2.1 ((s9 (j7 a6 (fzF [c6 (fun t => inR t 0 9) f4, c6 (fun t => inR t 0 9) a6].flatten f4)) f5 (C9.map (u6 ((fzV [c6 (fun t => inR t 0 9) f4, c6 (fun t => inR t 0 9) a6].flatten f4), (fzX [c6 (fun t => inR t 0 9) f4, c6 (fun t => inR t 0 9) a6].flatten f4))))).2).length kM.2.2.2.2] ((s9 (j7 a6 (fzF [c6 (fun t => inR t 0 9) f4, c6 (fun t => inR t 0 9) a6].flatten f4)) f5 (C9.map (u6 ((fzV [c6 (fun t => inR t 0 9) f4, c6 (fun t => inR t 0 9) a6].flatten f4), (fzX [c6 (fun t => inR t 0 9) f4, c6 (fun t => inR t 0 9) a6].flatten f4))))).2), pt b8 39 [.slice a34_1 (fzV [c6 (fun t => inR t 0 9) f4, c6 (fun t => inR t 0 9) a6].flatten f4).length c34_1, .slice a34_2 (fzX [c6 (fun t => inR t 0 9) f4, c6 (fun t => inR t 0 9) a6].flatten f4).length c34_2], ow u5 [.slice a34_0 (fzF [c6 (fun t => inR t 0 9) f4, c6 (fun t => inR t 0 9) a6].flatten f4).length c34_0] (fzF [c6 (fun t => inR t 0 9) f4, c6 (fun t => inR t 0 9) a6].flatten f4), ow eIs [.slice a34_1 (fzV [c6 (fun t => inR t 0 9) f4, c6 (fun t => inR t 0 9) a6].flatten f4).length c34_1] (fzV [c6 (fun t => inR t 0 9) f4, c6 (fun t => inR t 0 9) a6].flatten f4), ow eIs [.slice a34_2 (fzX [c6 (fun t => inR t 0 9) f4, c6 (fun t => inR t 0 9) a6].flatten f4).length c34_2] (fzX [c6 (fun t => inR t 0 9) f4, c6 (fun t => inR t 0 9) a6].flatten f4), pt b5 27 [.slice l0 f5.length k6, .slice j3 a6.length j0], pt b4 27 [.slice H7 C9.length H6, .slice G5 f4.length G4]]) ?_ (fun kM _ => ?_)))))))))))
     ·refine D.region (fun j => !(Nat.beq j 10)) mixed (Dy 0 rfl (j6 (cs := [_, _]) ty_Query rfl (Has.pt (mS (mS (mS (mS m0))))) rfl) (Dyp 1 rfl (i8 rfl) (Dy 2 rfl (j6 (cs := [_, _]) ty_Query rfl (Has.pt (mS (mS (mS (mS (mS m0)))))) rfl) (Dy 3 rfl (j6 (cs := [_, _]) ty_Binding rfl (Has.pt m0) rfl) (X8 (i := 4) (j := 9) kr ?_ ?_)))))
      ·refine Q4 4 rfl rfl (fun _ => rfl) (N.call (X0 (Nat.le_trans (D4 (s := s) (q := (C9, f4)) (by assumption)).2.1 dc)) rfl rfl rfl dc rfl (fun w Lp hA => ⟨hA.ro F4, hA.ro E1, hA.ow (mS (mS m0)), hA.ow (mS (mS (mS m0)))⟩)) (fun k45 _ => ?_)
       obtain ⟨a45, m45, c45⟩ := k45
       refine d4 m0 fun e45 l45 => ?_
       subst e45
       refine X8 (i := 5) (j := 9) kr ?_ ?_
       ·refine Q4 5 rfl rfl (fun _ => rfl) (N.call (M6 ((D4 (s := s) (q := (f5, a6)) (by assumption)).1) ((D4 (s := s) (q := (f5, a6)) (by assumption)).2.2) (fun a _ => W9 (Nat.le_trans a0y (Nat.le_trans (D4 (s := s) (q := (C9, f4)) (by assumption)).1 dc))) (Nat.le_trans (D4 (s := s) (q := (f5, a6)) (by assumption)).2.1 dc)) rfl rfl rfl dc rfl (fun w Lp hA => ⟨hA.ro o6, hA.ro l4, hA.ow (mS (mS m0)), hA.ow m0⟩)) (fun k46 _ => ?_)
        obtain ⟨⟨a46_0, m46_0, c46_0⟩, ⟨a46_1, m46_1, c46_1⟩⟩ := k46
        refine d4 m0 fun e46_0 l46_0 => ?_
        subst e46_0
        refine d4 (mS m0) fun e46_1 l46_1 => ?_
        subst e46_1
        refine Dyp 6 rfl (i8 rfl) (Dyp 7 rfl (Y.ext rfl rfl) (Dyp 8 rfl (Y.ext rfl rfl) (r8 9 rfl rfl kr (fun _ => rfl) (N.alloc ty_Binding dc) (fun b10 _ => (r8 10 rfl rfl kr (fun h => by cases h) (Ns [_, _] ty_Binding rfl) (fun _ _ => (Dyp 11 rfl (C0 rfl) (r7 kr (l3 (Ent.drop (s8 (s8 (s8 (s8 (s8 (s8 (s8 (s8 (s8 ?_)))))))))))))))))))
        exact E3 (b10, a46_0, c46_0, a46_1, c46_1) trivial ⟨rfl, trivial⟩ (.refl _)
       ·refine Q4 9 rfl rfl (fun _ => rfl) (N.alloc ty_Binding dc) (fun b10 _ => (r8 5 rfl rfl kr (fun _ => rfl) (N.call (M6 ((D4 (s := s) (q := (f5, a6)) (by assumption)).1) ((D4 (s := s) (q := (f5, a6)) (by assumption)).2.2) (fun a _ => W9 (Nat.le_trans a0y (Nat.le_trans (D4 (s := s) (q := (C9, f4)) (by assumption)).1 dc))) (Nat.le_trans (D4 (s := s) (q := (f5, a6)) (by assumption)).2.1 dc)) rfl rfl rfl dc rfl (fun w Lp hA => ⟨hA.ro o6, hA.ro l4, hA.ow (mS (mS (mS m0))), hA.ow (mS m0)⟩)) (fun k46 _ => ?_)))
        obtain ⟨⟨a46_0, m46_0, c46_0⟩, ⟨a46_1, m46_1, c46_1⟩⟩ := k46
        refine d4 m0 fun e46_0 l46_0 => ?_
        subst e46_0
        refine d4 (mS m0) fun e46_1 l46_1 => ?_
        subst e46_1
        refine Dyp 6 rfl (i8 rfl) (Dyp 7 rfl (Y.ext rfl rfl) (Dyp 8 rfl (Y.ext rfl rfl) (g9 (r8 10 rfl rfl kr (fun h => by cases h) (Ns [_, _] ty_Binding rfl) (fun _ _ => (Dyp 11 rfl (C0 rfl) (r7 kr (l3 (Ent.drop (s8 (s8 (s8 (s8 (s8 (s8 (s8 (s8 (s8 ?_))))))))))))))))))
        exact E3 (b10, a46_0, c46_0, a46_1, c46_1) trivial ⟨rfl, trivial⟩ (.refl _)
      ·refine Q4 9 rfl rfl (fun _ => rfl) (N.alloc ty_Binding dc) (fun b10 _ => (r8 4 rfl rfl kr (fun _ => rfl) (N.call (X0 (Nat.le_trans (D4 (s := s) (q := (C9, f4)) (by assumption)).2.1 dc)) rfl rfl rfl dc rfl (fun w Lp hA => ⟨hA.ro F4, hA.ro E1, hA.ow (mS (mS (mS m0))), hA.ow (mS (mS (mS (mS m0))))⟩)) (fun k45 _ => ?_)))
       obtain ⟨a45, m45, c45⟩ := k45
       refine d4 m0 fun e45 l45 => ?_
       subst e45
       refine r8 5 rfl rfl kr (fun _ => rfl) (N.call (M6 ((D4 (s := s) (q := (f5, a6)) (by assumption)).1) ((D4 (s := s) (q := (f5, a6)) (by assumption)).2.2) (fun a _ => W9 (Nat.le_trans a0y (Nat.le_trans (D4 (s := s) (q := (C9, f4)) (by assumption)).1 dc))) (Nat.le_trans (D4 (s := s) (q := (f5, a6)) (by assumption)).2.1 dc)) rfl rfl rfl dc rfl (fun w Lp hA => ⟨hA.ro o6, hA.ro l4, hA.ow (mS (mS (mS m0))), hA.ow m0⟩)) (fun k46 _ => ?_)
       obtain ⟨⟨a46_0, m46_0, c46_0⟩, ⟨a46_1, m46_1, c46_1⟩⟩ := k46
       refine d4 m0 fun e46_0 l46_0 => ?_
       subst e46_0
       refine d4 (mS m0) fun e46_1 l46_1 => ?_
       subst e46_1
       refine Dyp 6 rfl (i8 rfl) (Dyp 7 rfl (Y.ext rfl rfl) (Dyp 8 rfl (Y.ext rfl rfl) (l3 (r8 10 rfl rfl kr (fun h => by cases h) (Ns [_, _] ty_Binding rfl) (fun _ _ => (Dyp 11 rfl (C0 rfl) (r7 kr (l3 (Ent.drop (s8 (s8 (s8 (s8 (s8 (s8 (s8 (s8 (s8 ?_))))))))))))))))))
       exact E3 (b10, a46_0, c46_0, a46_1, c46_1) trivial ⟨rfl, trivial⟩ (.refl _)
     ·obtain ⟨b10, a46_0, c46_0, a46_1, c46_1⟩ := kM
      try dsimp only
      refine Et (Ew Z2 (Em rfl (Ei rfl ?_)))
      exact Eu (E.ret (Fb rfl rfl (by grind [J5, W3, d1, d2, t1, t2])))
    ·refine Eu (Eq_ (Ew Z2 (Em rfl (Ey rfl ((Y.not (b := false) rfl).yd) (Eu (o0 rfl (Ew Z1 (Ei rfl ?_))))))))
     exact Eu (E.ret (o4 (Fb rfl rfl (by grind [J5, W3, d1, d2, t1, t2]))))
  ·refine Ey rfl ((Y.not (b := false) rfl).yd) (Ey rfl ((u7 rfl rfl).yd) (Em rfl (Es rfl (Es rfl (Es rfl (Es rfl (Es rfl (Es rfl (Es rfl (Ey rfl ((v8 rfl rfl).yd) (Eu (o0 rfl (Ew Z1 (Ei rfl ?_))))))))))))))
   exact Eu (E.ret (o4 (Fb rfl rfl (by grind [J5, W3, d1, d2, t1, t2]))))
 ·refine Ey rfl ((Y.not (b := false) rfl).yd) (Em rfl (Es rfl (Es rfl (Es rfl (Es rfl (Ey rfl ((v8 rfl rfl).yd) (Em rfl (Es rfl (Es rfl (Es rfl (Es rfl (Es rfl (Es rfl (Es rfl (Ey rfl ((v8 rfl rfl).yd) (Eu (o0 rfl (Ew Z1 (Ei rfl ?_)))))))))))))))))))
  exact Eu (E.ret (o4 (Fb rfl rfl (by grind [J5, W3, d1, d2, t1, t2]))))
theorem I9 (hzp : E7 (fun x => x.2.length) f4 ≤ 1048576) (hzq : E7 (fun x => x.2.length) a6 ≤ 1048576) : Tr Tryz.prog 13 [.slice a_s m_s c_s, .agg #[.slice H7 M0 H6, .slice G5 J4 G4], .agg #[.slice l0 r5 k6, .slice j3 o1 j0]] (fun w L => Ro w L eIs [.slice a_s m_s c_s] s ∧ Ro w L eIs [.slice H7 M0 H6] C9 ∧ Ro w L j8 [.slice G5 J4 G4] f4 ∧ Ro w L eIs [.slice l0 r5 k6] f5 ∧ Ro w L j8 [.slice j3 o1 j0] a6) [] (κ := Unit) (fun k => True) (fun k => .bool (J5 s (C9, f4) (f5, a6) && J5 s (f5, a6) (C9, f4))) (fun k => []) := by
 refine Tr.intro Tryz.func13 rfl (n := 17) rfl (by decide +kernel) bl (fr := [(0, .slice a_s m_s c_s), (1, .agg #[.slice H7 M0 H6, .slice G5 J4 G4]), (2, .agg #[.slice l0 r5 k6, .slice j3 o1 j0])]) rfl fun w L hR => ?_
 obtain ⟨hs, F4, E1, o6, l4⟩ := hR
 obtain ⟨rfl, ls⟩ := hs.slen
 obtain ⟨rfl, a3G⟩ := F4.slen
 obtain ⟨rfl, a2K⟩ := E1.slen
 obtain ⟨rfl, F2⟩ := o6.slen
 obtain ⟨rfl, E0⟩ := l4.slen
 refine Ew Z3 (Est rfl (N.box (cs := [_, _]) rfl dc rfl) (fun b4 _ => (Est rfl (N.box (cs := [_, _]) rfl dc rfl) (fun b5 _ => (Ei rfl (Ev Z11 (Em rfl (Ey rfl (j6 (cs := [_, _]) ty_Query rfl (Has.pt (mS m0)) rfl) (Ey rfl (j6 (cs := [_, _]) ty_Query rfl (Has.pt m0) rfl) (Est rfl (m6 (J3 fc fc) rfl rfl rfl dc (fun w Lp hA => ⟨hA.ro hs, hA.ro F4, hA.ro E1, hA.ro o6, hA.ro l4⟩)) (fun _ _ => (t7 (fun q10 => ?_) (fun q10 => ?_)))))))))))))
 ·refine Em rfl (Em rfl (Ey rfl (j6 (cs := [_, _]) ty_Query rfl (Has.pt m0) rfl) (Ey rfl (j6 (cs := [_, _]) ty_Query rfl (Has.pt (mS m0)) rfl) (Est rfl (m6 (J3 fc fc) rfl rfl rfl dc (fun w Lp hA => ⟨hA.ro hs, hA.ro o6, hA.ro l4, hA.ro F4, hA.ro E1⟩)) (fun _ _ => (Ey rfl ((v8 rfl rfl).yd) (Ei rfl ?_)))))))
  exact Eu (E.ret (Fb rfl rfl (by grind [d1, d2, t1, t2])))
 ·refine Em rfl (Es rfl (Es rfl (Es rfl (Es rfl (Ey rfl ((u7 rfl rfl).yd) (Ei rfl ?_))))))
  exact Eu (E.ret (Fb rfl rfl (by grind [d1, d2, t1, t2])))
end Go.Proofs.YtbedienpleiamaaGreat
