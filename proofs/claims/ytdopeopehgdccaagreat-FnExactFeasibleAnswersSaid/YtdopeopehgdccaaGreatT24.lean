import Derived.Test.YtdopeopehgdccaaGreatBs
import Derived.Test.YtdopeopehgdccaaGreatT23
namespace Go.Proofs.YtdopeopehgdccaaGreat
open Go.RowKit
set_option linter.all false
set_option maxHeartbeats 2000000
attribute [local irreducible] Nop Yd Yp Ent Has Tr FnP FnP2 Src K9 U8 W3 X6 E0
variable {i7 d4 : List (Int × List Int)} {C3 d9 : List Int} {R3 J7 O4 H8 o1 l0 n9 j7 : Nat} {J8 H9 l2 j8 : Option Addr}
theorem a6R (hpa : i7.length ≤ 4) (hpt : ∀ a ∈ i7, a.2.length ≤ 3) (hph : C3.length ≤ 3) (hpr : ∀ a ∈ i7, a.1 < 3) (hzq : C8 (fun x => x.2.length) d4 ≤ 1048576) : Tr Tryz.prog 215 [.agg #[.slice J8 R3 J7, .slice H9 O4 H8], .agg #[.slice l2 o1 l0, .slice j8 n9 j7]] (fun w L => Ro w L eIs [.slice J8 R3 J7] C3 ∧ Ro w L s3 [.slice H9 O4 H8] i7 ∧ Ro w L eIs [.slice l2 o1 l0] d9 ∧ Ro w L s3 [.slice j8 n9 j7] d4) [] (κ := (Option Addr × Nat × Nat) × (Option Addr × Nat × Nat) × (Option Addr × Nat × Nat)) (fun k => True) (fun k => .tuple #[.slice k.1.1 k.1.2.1 k.1.2.2, .agg #[.slice k.2.1.1 k.2.1.2.1 k.2.1.2.2, .slice k.2.2.1 k.2.2.2.1 k.2.2.2.2], .bool (fzB [f5 (fun t => inR t 0 9) i7, f5 (fun t => inR t 0 9) d4].flatten i7)]) (fun k => [ow o2 [.slice k.1.1 k.1.2.1 k.1.2.2] (fzF [f5 (fun t => inR t 0 9) i7, f5 (fun t => inR t 0 9) d4].flatten i7), ow eIs [.slice k.2.1.1 k.2.1.2.1 k.2.1.2.2] (fzV [f5 (fun t => inR t 0 9) i7, f5 (fun t => inR t 0 9) d4].flatten i7), ow eIs [.slice k.2.2.1 k.2.2.2.1 k.2.2.2.2] (fzX [f5 (fun t => inR t 0 9) i7, f5 (fun t => inR t 0 9) d4].flatten i7)]) := by
 refine Tr.intro Tryz.func215 rfl (n := 65) rfl (by decide +kernel) bl (fr := [(0, .agg #[.slice J8 R3 J7, .slice H9 O4 H8]), (1, .agg #[.slice l2 o1 l0, .slice j8 n9 j7])]) rfl fun w L hR => ?_
 obtain ⟨H1, F3, o3, n8⟩ := hR
 obtain ⟨rfl, a8s⟩ := H1.slen
 obtain ⟨rfl, a6H⟩ := F3.slen
 obtain ⟨rfl, E9⟩ := o3.slen
 obtain ⟨rfl, D1⟩ := n8.slen
 have jcf := N9 (d7 := d4)
 refine Ew Z5 (Est rfl (N.box (cs := [_, _]) rfl dc rfl) (fun b2 _ => (Est rfl (N.box (cs := [_, _]) rfl dc rfl) (fun b3 _ => (Eas rfl rfl (Est rfl (N.alloc ty_Binding dc) (fun b5 _ => (Eas rfl rfl (Ev Z4 (Ey rfl (Y.ldS (cs := [_, _]) ty_Query rfl (Has.pt (mS (mS m0))) rfl) (Est rfl (N.call (a9m om om (fun a ha => Nat.le_trans (hpt a ha) dc)) rfl rfl rfl dc rfl (fun w Lp hA => ⟨hA.ro H1, hA.ro F3⟩)) (fun k16 _ => ?_))))))))))))
 obtain ⟨⟨a16_0, m16_0, c16_0⟩, ⟨a16_1, m16_1, c16_1⟩⟩ := k16
 refine Ent.lenow m0 fun e16_0 l16_0 => ?_
 subst e16_0
 refine Ent.lenow (mS m0) fun e16_1 l16_1 => ?_
 subst e16_1
 refine Est rfl (N.alloc ty_Query dc) (fun b7 _ => (Est rfl (N.sto (vs := [_, _]) (cs' := [_, _]) ty_Query rfl rfl rfl rfl rfl bl rfl) (fun _ _ => (Ev Z3 (Ey rfl (Y.ldS (cs := [_, _]) ty_Query rfl (Has.pt (mS (mS (mS (mS m0))))) rfl) (Est rfl (N.call (a2j fo) rfl rfl rfl dc rfl (fun w Lp hA => ⟨hA.ro o3, hA.ro n8⟩)) (fun k18 _ => ?_)))))))
 obtain ⟨a18, m18, c18⟩ := k18
 refine Ent.lenow m0 fun e18 l18 => ?_
 subst e18
 refine Ent.rebase (A := [_]) rfl fun wb1 Lb1 hB1 hA1 => ?_
 have H1 := hA1.ro H1
 have F3 := hA1.ro F3
 have o3 := hA1.ro o3
 have n8 := hA1.ro n8
 have rb1 : Ro wb1 Lb1 eIs [.slice a18 (f5 (fun t => inR t 0 9) d4).length c18] (f5 (fun t => inR t 0 9) d4) := hA1.ow m0
 refine Eas rfl rfl (Eu (Eq_ (Ew Z1 (Eas rfl rfl (Eu (E.block (Ent.p2 (Ent.cv (congrArg (ow s3 [_]) (show i7 = i7 ++ ((f5 (fun t => inR t 0 9) d4).take 0).map (fun c => ((3 : Int), [c])) from by first | rfl | (simp; done) | grind [d1, d2, t1, t2])) (E.loop (κ := Nat × Option Addr × Nat × Nat) (fun g => g.1 ≤ (f5 (fun t => inR t 0 9) d4).length ∧ True) (fun g => [(5, .pointer (some ⟨b5, 0, none⟩)), (7, .pointer (some ⟨b7, 0, none⟩)), (8, .slice a18 (f5 (fun t => inR t 0 9) d4).length c18), (9, .int .i64 (↑g.1 : Int))]) (fun g => [ow s3 [.slice g.2.1 g.2.2.1 g.2.2.2] (i7 ++ ((f5 (fun t => inR t 0 9) d4).take g.1).map (fun c => ((3 : Int), [c]))), pt b7 61 [.slice a16_0 (C3).length c16_0, .slice g.2.1 g.2.2.1 g.2.2.2], ow eIs [.slice a16_0 (C3).length c16_0] C3, pt b5 125 [.slice none 0 0, .slice none 0 0], pt b3 61 [.slice l2 d9.length l0, .slice j8 d4.length j7], pt b2 61 [.slice J8 C3.length J7, .slice H9 i7.length H8]]) (fun g => (f5 (fun t => inR t 0 9) d4).length - g.1) (0, a16_1, (i7).length, c16_1) ⟨Nat.zero_le _, by simp⟩ ⟨rfl, rfl, rfl, rfl, trivial⟩ (.refl _) (fun g pg => ?_))))))))))
 obtain ⟨g, aA0_0, mA0_0, cA0_0⟩ := g
 try dsimp only at pg
 try dsimp only
 obtain ⟨pk, pa⟩ := pg
 have jp := List.length_take_le g (f5 (fun t => inR t 0 9) d4)
 refine Ent.lenow m0 fun eaA0_0 laA0_0 => ?_
 subst eaA0_0
 refine Eq_ (Ew Z4 (Emv rfl rfl (Emv rfl rfl (Ey rfl ((Y.len us_Is rfl).yd) (Ey rfl ((Y.lss rfl rfl).yd) (Ent.d (fun q22 => ?_) (fun q22 => ?_)))))))
 ·refine Eu (E.ct rfl (E.skipc (Et (Eq_ (E.block (D.region (fun j => !(Nat.beq j 9) && !(Nat.beq j 11)) mixed (Dyp 0 rfl (Y.fld fo_Query_1 ty_Atoms dc rfl) (Dy 1 rfl (Y.ld1 ty_Atoms rfl ((Has.pt (mS m0)).sub (cs' := [_]) 1 rfl) rfl) (Dyp 2 rfl (Y.mv rfl) (Dyp 3 rfl (Y.mv rfl) ?_))))))))))
  obtain ⟨eb29, eo29, ea29, ei29, eh29⟩ := rb1.elemI g om
  refine Dyp 4 rfl (Y.ix us_Is f8 rfl ea29 rfl g rfl om) (Dy 5 rfl (Y.ld1 f8 rfl (eh29 _) rfl) (D.st 6 rfl rfl kr (fun _ => rfl) (N.bsl (pvs := [_]) (cs := [_]) us_Is f8 rfl dc dc (o6 rfl rfl) rfl dc) (fun b31 _ => (Ent.mkow (A := _ :: _) (Own.row1 (E := Enc.int) (e := tI) (Own.int ei29)) rfl (Dyp 7 rfl (Y.bld (pvs := [_, _]) (cs := [_, _]) ty_Atom a8q rfl rfl) (D.st 8 rfl rfl kr (fun _ => rfl) (N.bsl (pvs := [_]) (cs := [_, _]) us_Atoms ty_Atom rfl dc dc (o6 rfl rfl) rfl dc) (fun b33 _ => (Ent.p1 (Ent.p1 (Ent.p2 (D.st 9 rfl rfl kr (fun h => by cases h) (N.push (E := P1) (ex := (3, [(f5 (fun t => inR t 0 9) d4)[g]])) us_Atoms ty_Atom rfl rfl rfl (Own.mkAtom (x := (3, [(f5 (fun t => inR t 0 9) d4)[g]])) i6 Own.ow) rfl bn bn dc) (fun p34 _ => (Dyp 10 rfl (Y.fld fo_Query_1 ty_Atoms dc rfl) (Ent.p1 (D.st 11 rfl rfl kr (fun h => by cases h) (N.sto (vs := [_]) (cs' := [_, _]) ty_Atoms rfl rfl rfl rfl rfl bl rfl) (fun _ _ => (D.done kr (E.bln (Et (Ez Z3 (Emv rfl rfl (Ey rfl ((Y.add rfl rfl om om).yd) (Eas rfl rfl (Eu (Ent.p1 (Ent.cv (congrArg (ow s3 [_]) (show (i7 ++ ((f5 (fun t => inR t 0 9) d4).take g).map (fun c => ((3 : Int), [c]))) ++ [(3, [(f5 (fun t => inR t 0 9) d4)[g]])] = i7 ++ ((f5 (fun t => inR t 0 9) d4).take (g + 1)).map (fun c => ((3 : Int), [c])) from by grind [d1, d2, t1, t2])) (Ent.p5 (Ent.p5 (Ent.p5 (Ent.p5 (Ent.p5 (Ent.p5 ?_))))))))))))))))))))))))))))))))
  exact Ea (g + 1, p34.1, ((i7 ++ ((f5 (fun t => inR t 0 9) d4).take g).map (fun c => ((3 : Int), [c]))).length + 1), p34.2) ⟨oz, trivial⟩
 ·refine Eu (E.cf rfl (E.exit (E.the (E.the (E.blh (Et (Ew Z10 (Ey rfl (Y.ldS (cs := [_, _]) ty_Query rfl (Has.pt (mS m0)) rfl) (Est rfl (N.call (a4I (b5u hpa hpt (by have := N9 (d7 := d4); simp only [List.length_take]; omega))) rfl rfl rfl dc rfl (fun w Lp hA => ⟨hA.ow (mS (mS m0)), hA.ow m0⟩)) (fun k38 _ => ?_))))))))))
  obtain ⟨⟨a38_0, m38_0, c38_0⟩, ⟨a38_1, m38_1, c38_1⟩, ⟨a38_2, m38_2, c38_2⟩⟩ := k38
  refine Ent.lenow m0 fun e38_0 l38_0 => ?_
  subst e38_0
  refine Ent.lenow (mS m0) fun e38_1 l38_1 => ?_
  subst e38_1
  refine Ent.lenow (mS (mS m0)) fun e38_2 l38_2 => ?_
  subst e38_2
  refine Emv rfl rfl (Ey rfl ((Y.ext rfl rfl).yd) (Ey rfl ((Y.ext rfl rfl).yd) (Ey rfl ((Y.ext rfl rfl).yd) (Est rfl (N.alloc ty_Binding dc) (fun b11 _ => (Eas rfl rfl (Est rfl (N.sto (vs := [_, _]) (cs' := [_, _]) ty_Binding rfl rfl rfl rfl rfl bl rfl) (fun _ _ => (Eas rfl rfl (Ev Z2 (Est rfl (N.bsl (pvs := []) (cs := []) us_Facts ty_Fact rfl dc dc (o6 rfl rfl) rfl dc) (fun b42 _ => (Ent.drop (Eas rfl rfl (Eu (Eq_ (Ew Z1 (Eas rfl rfl (Eu (E.block (Ent.mkow (A := []) (Own.nil (E := B8) (e := tFact) (a := (some ⟨b42, 0, none⟩))) rfl (Ent.cv (congrArg (ow o2 [_]) (show [] = ((fzF (f5 (fun t => inR t 0 9) (i7 ++ ((f5 (fun t => inR t 0 9) d4).take g).map (fun c => ((3 : Int), [c])))) (i7 ++ ((f5 (fun t => inR t 0 9) d4).take g).map (fun c => ((3 : Int), [c])))).take 0).filter (fun f => decide (f.1 < 3)) from by first | rfl | (simp; done) | grind [d1, d2, t1, t2])) (Ent.p2 (Ent.od0 (E.loop (κ := Nat × Option Addr × Nat × Nat) (fun r => r.1 ≤ (fzF (f5 (fun t => inR t 0 9) (i7 ++ ((f5 (fun t => inR t 0 9) d4).take g).map (fun c => ((3 : Int), [c])))) (i7 ++ ((f5 (fun t => inR t 0 9) d4).take g).map (fun c => ((3 : Int), [c])))).length ∧ True) (fun r => [(5, .pointer (some ⟨b5, 0, none⟩)), (10, .slice a38_0 (fzF (f5 (fun t => inR t 0 9) (i7 ++ ((f5 (fun t => inR t 0 9) d4).take g).map (fun c => ((3 : Int), [c])))) (i7 ++ ((f5 (fun t => inR t 0 9) d4).take g).map (fun c => ((3 : Int), [c])))).length c38_0), (11, .pointer (some ⟨b11, 0, none⟩)), (12, .bool (fzB (f5 (fun t => inR t 0 9) (i7 ++ ((f5 (fun t => inR t 0 9) d4).take g).map (fun c => ((3 : Int), [c])))) (i7 ++ ((f5 (fun t => inR t 0 9) d4).take g).map (fun c => ((3 : Int), [c]))))), (13, .slice r.2.1 r.2.2.1 r.2.2.2), (14, .int .i64 (↑r.1 : Int))]) (fun r => [owd tFact B8 a38_0 ((fzF (f5 (fun t => inR t 0 9) (i7 ++ ((f5 (fun t => inR t 0 9) d4).take g).map (fun c => ((3 : Int), [c])))) (i7 ++ ((f5 (fun t => inR t 0 9) d4).take g).map (fun c => ((3 : Int), [c])))).length) c38_0 (fzF (f5 (fun t => inR t 0 9) (i7 ++ ((f5 (fun t => inR t 0 9) d4).take g).map (fun c => ((3 : Int), [c])))) (i7 ++ ((f5 (fun t => inR t 0 9) d4).take g).map (fun c => ((3 : Int), [c])))) r.1, ow o2 [.slice r.2.1 r.2.2.1 r.2.2.2] (((fzF (f5 (fun t => inR t 0 9) (i7 ++ ((f5 (fun t => inR t 0 9) d4).take g).map (fun c => ((3 : Int), [c])))) (i7 ++ ((f5 (fun t => inR t 0 9) d4).take g).map (fun c => ((3 : Int), [c])))).take r.1).filter (fun f => decide (f.1 < 3))), pt b11 125 [.slice a38_1 (fzV (f5 (fun t => inR t 0 9) (i7 ++ ((f5 (fun t => inR t 0 9) d4).take g).map (fun c => ((3 : Int), [c])))) (i7 ++ ((f5 (fun t => inR t 0 9) d4).take g).map (fun c => ((3 : Int), [c])))).length c38_1, .slice a38_2 (fzX (f5 (fun t => inR t 0 9) (i7 ++ ((f5 (fun t => inR t 0 9) d4).take g).map (fun c => ((3 : Int), [c])))) (i7 ++ ((f5 (fun t => inR t 0 9) d4).take g).map (fun c => ((3 : Int), [c])))).length c38_2], ow eIs [.slice a38_1 (fzV (f5 (fun t => inR t 0 9) (i7 ++ ((f5 (fun t => inR t 0 9) d4).take g).map (fun c => ((3 : Int), [c])))) (i7 ++ ((f5 (fun t => inR t 0 9) d4).take g).map (fun c => ((3 : Int), [c])))).length c38_1] (fzV (f5 (fun t => inR t 0 9) (i7 ++ ((f5 (fun t => inR t 0 9) d4).take g).map (fun c => ((3 : Int), [c])))) (i7 ++ ((f5 (fun t => inR t 0 9) d4).take g).map (fun c => ((3 : Int), [c])))), ow eIs [.slice a38_2 (fzX (f5 (fun t => inR t 0 9) (i7 ++ ((f5 (fun t => inR t 0 9) d4).take g).map (fun c => ((3 : Int), [c])))) (i7 ++ ((f5 (fun t => inR t 0 9) d4).take g).map (fun c => ((3 : Int), [c])))).length c38_2] (fzX (f5 (fun t => inR t 0 9) (i7 ++ ((f5 (fun t => inR t 0 9) d4).take g).map (fun c => ((3 : Int), [c])))) (i7 ++ ((f5 (fun t => inR t 0 9) d4).take g).map (fun c => ((3 : Int), [c])))), ow s3 [.slice aA0_0 (i7 ++ ((f5 (fun t => inR t 0 9) d4).take g).map (fun c => ((3 : Int), [c]))).length cA0_0] (i7 ++ ((f5 (fun t => inR t 0 9) d4).take g).map (fun c => ((3 : Int), [c]))), pt b7 61 [.slice a16_0 (C3).length c16_0, .slice aA0_0 (i7 ++ ((f5 (fun t => inR t 0 9) d4).take g).map (fun c => ((3 : Int), [c]))).length cA0_0], ow eIs [.slice a16_0 (C3).length c16_0] C3, pt b5 125 [.slice none 0 0, .slice none 0 0], pt b3 61 [.slice l2 d9.length l0, .slice j8 d4.length j7], pt b2 61 [.slice J8 C3.length J7, .slice H9 i7.length H8]]) (fun r => (fzF (f5 (fun t => inR t 0 9) (i7 ++ ((f5 (fun t => inR t 0 9) d4).take g).map (fun c => ((3 : Int), [c])))) (i7 ++ ((f5 (fun t => inR t 0 9) d4).take g).map (fun c => ((3 : Int), [c])))).length - r.1) (0, (some ⟨b42, 0, none⟩), 0, 0) ⟨Nat.zero_le _, by simp⟩ ⟨rfl, rfl, rfl, rfl, rfl, rfl, trivial⟩ (.refl _) (fun r pr => ?_))))))))))))))))))))))))))
  obtain ⟨r, aA1_0, mA1_0, cA1_0⟩ := r
  try dsimp only at pr
  try dsimp only
  obtain ⟨pk, pa⟩ := pr
  have jf := List.length_filter_le (fun f => decide (f.1 < 3)) ((fzF (f5 (fun t => inR t 0 9) (i7 ++ ((f5 (fun t => inR t 0 9) d4).take g).map (fun c => ((3 : Int), [c])))) (i7 ++ ((f5 (fun t => inR t 0 9) d4).take g).map (fun c => ((3 : Int), [c])))).take r)
  have jt := List.length_take_le r (fzF (f5 (fun t => inR t 0 9) (i7 ++ ((f5 (fun t => inR t 0 9) d4).take g).map (fun c => ((3 : Int), [c])))) (i7 ++ ((f5 (fun t => inR t 0 9) d4).take g).map (fun c => ((3 : Int), [c]))))
  have jl := a1R (u := f5 (fun t => inR t 0 9) (i7 ++ ((f5 (fun t => inR t 0 9) d4).take g).map (fun c => ((3 : Int), [c])))) (d7 := (i7 ++ ((f5 (fun t => inR t 0 9) d4).take g).map (fun c => ((3 : Int), [c]))))
  have jm : (i7 ++ ((f5 (fun t => inR t 0 9) d4).take g).map (fun c => ((3 : Int), [c]))).length ≤ 14 := by simp only [List.length_append, List.length_map, List.length_take]; omega
  refine Ent.lenow (mS m0) fun eaA1_0 laA1_0 => ?_
  subst eaA1_0
  refine Eq_ (Ew Z4 (Emv rfl rfl (Emv rfl rfl (Ey rfl ((Y.len us_Facts rfl).yd) (Ey rfl ((Y.lss rfl rfl).yd) (Ent.d (fun q46 => ?_) (fun q46 => ?_)))))))
  ·refine Eu (E.ct rfl (E.skipc (Et (Eq_ (E.block (Ew Z6 (Emv rfl rfl (Emv rfl rfl (Ent.adrd m0 om fun ab51 ae51 => (Ent.odt (j := r) om fun ce51 => (Ent.p1 (Ent.oFact fun oa51_1 om51_1 oc51_1 oe51 oi51_0 on51_1 => ?_))))))))))))
   subst oe51
   subst on51_1
   refine Ent.lenow m0 fun _ ol51_1 => (Ey rfl ((Y.ix us_Facts ty_Fact rfl ae51 rfl r rfl om).yd) (Ey rfl ((Y.fld fo_Fact_0 f8 dc rfl).yd) (Ey rfl (Y.ld1 f8 rfl ((Has.owt ae51 (mS m0)).sub (cs' := [_]) 0 rfl) rfl) (Ey rfl ((Y.lss rfl rfl).yd) (Ent.d (fun q54 => ?_) (fun q54 => ?_))))))
   ·refine Eu (E.ct rfl (Ez Z8 (Emv rfl rfl (Emv rfl rfl (Emv rfl rfl (Ey rfl ((Y.ix us_Facts ty_Fact rfl ae51 rfl r rfl om).yd) (Ey rfl (Y.ldS (cs := [_, _]) ty_Fact rfl (Has.owt ae51 (mS m0)) rfl) (Est rfl (N.bsl (pvs := [_]) (cs := [_, _]) us_Facts ty_Fact rfl dc dc (o6 rfl rfl) rfl dc) (fun b60 _ => (Ent.p1 (Ent.p1 (Ent.p3 (Est rfl (N.push (E := B8) (ex := (fzF (f5 (fun t => inR t 0 9) (i7 ++ ((f5 (fun t => inR t 0 9) d4).take g).map (fun c => ((3 : Int), [c])))) (i7 ++ ((f5 (fun t => inR t 0 9) d4).take g).map (fun c => ((3 : Int), [c]))))[r]) us_Facts ty_Fact rfl rfl rfl (Own.mkFact (x := (fzF (f5 (fun t => inR t 0 9) (i7 ++ ((f5 (fun t => inR t 0 9) d4).take g).map (fun c => ((3 : Int), [c])))) (i7 ++ ((f5 (fun t => inR t 0 9) d4).take g).map (fun c => ((3 : Int), [c]))))[r]) oi51_0 Own.ow) rfl bn bn dc) (fun p61 _ => (Eas rfl rfl (En (E.bln (Et (Ez Z3 (Emv rfl rfl (Ey rfl ((Y.add rfl rfl om om).yd) (Eas rfl rfl (Eu (Ent.p1 (Ent.otd (Ent.p1 (Ent.cv (congrArg (ow o2 [_]) (show (((fzF (f5 (fun t => inR t 0 9) (i7 ++ ((f5 (fun t => inR t 0 9) d4).take g).map (fun c => ((3 : Int), [c])))) (i7 ++ ((f5 (fun t => inR t 0 9) d4).take g).map (fun c => ((3 : Int), [c])))).take r).filter (fun f => decide (f.1 < 3))) ++ [(fzF (f5 (fun t => inR t 0 9) (i7 ++ ((f5 (fun t => inR t 0 9) d4).take g).map (fun c => ((3 : Int), [c])))) (i7 ++ ((f5 (fun t => inR t 0 9) d4).take g).map (fun c => ((3 : Int), [c]))))[r]] = ((fzF (f5 (fun t => inR t 0 9) (i7 ++ ((f5 (fun t => inR t 0 9) d4).take g).map (fun c => ((3 : Int), [c])))) (i7 ++ ((f5 (fun t => inR t 0 9) d4).take g).map (fun c => ((3 : Int), [c])))).take (r + 1)).filter (fun f => decide (f.1 < 3)) from by grind [d1, d2, t1, t2])) (Ent.p10 (Ent.p10 (Ent.p10 (Ent.p10 (Ent.p10 (Ent.p10 (Ent.p10 (Ent.p10 (Ent.p10 (Ent.p9 (Ent.p10 ?_))))))))))))))))))))))))))))))))))))))
    exact Ea (r + 1, p61.1, ((((fzF (f5 (fun t => inR t 0 9) (i7 ++ ((f5 (fun t => inR t 0 9) d4).take g).map (fun c => ((3 : Int), [c])))) (i7 ++ ((f5 (fun t => inR t 0 9) d4).take g).map (fun c => ((3 : Int), [c])))).take r).filter (fun f => decide (f.1 < 3))).length + 1), p61.2) ⟨oz, trivial⟩
   ·refine Eu (E.cf rfl (E.skipc (E.bln (Et (Ez Z3 (Emv rfl rfl (Ey rfl ((Y.add rfl rfl om om).yd) (Eas rfl rfl (Eu (Ent.p1 (Ent.otd (Ent.p1 (Ent.drop (Ent.p1 (Ent.cv (congrArg (ow o2 [_]) (show ((fzF (f5 (fun t => inR t 0 9) (i7 ++ ((f5 (fun t => inR t 0 9) d4).take g).map (fun c => ((3 : Int), [c])))) (i7 ++ ((f5 (fun t => inR t 0 9) d4).take g).map (fun c => ((3 : Int), [c])))).take r).filter (fun f => decide (f.1 < 3)) = ((fzF (f5 (fun t => inR t 0 9) (i7 ++ ((f5 (fun t => inR t 0 9) d4).take g).map (fun c => ((3 : Int), [c])))) (i7 ++ ((f5 (fun t => inR t 0 9) d4).take g).map (fun c => ((3 : Int), [c])))).take (r + 1)).filter (fun f => decide (f.1 < 3)) from by grind [d1, d2, t1, t2])) (Ent.p10 (Ent.p10 (Ent.p10 (Ent.p10 (Ent.p10 (Ent.p10 (Ent.p10 (Ent.p10 (Ent.p10 (Ent.p9 (Ent.p10 ?_))))))))))))))))))))))))))
    exact Ea (r + 1, aA1_0, (((fzF (f5 (fun t => inR t 0 9) (i7 ++ ((f5 (fun t => inR t 0 9) d4).take g).map (fun c => ((3 : Int), [c])))) (i7 ++ ((f5 (fun t => inR t 0 9) d4).take g).map (fun c => ((3 : Int), [c])))).take r).filter (fun f => decide (f.1 < 3))).length, cA1_0) ⟨oz, trivial⟩
  ·have jX : (i7 ++ ((f5 (fun t => inR t 0 9) d4).take g).map (fun c => ((3 : Int), [c]))) = xF i7 d4 := by rw [List.take_of_length_le om]; rfl
   refine Eu (E.cf rfl (E.exit (E.the (E.the (E.blh (Et (Eq_ (D.region (fun j => !(Nat.beq j 4)) mixed (Dyp 0 rfl (Y.mv rfl) (Dy 1 rfl (Y.ldS (cs := [_, _]) ty_Binding rfl (Has.pt (mS (mS m0))) rfl) (Dyp 2 rfl (Y.mv rfl) (Dyp 3 rfl (Y.as rfl) (Ent.p8 (D.st 4 rfl rfl kr (fun h => by cases h) (N.sto (vs := [_, _]) (cs' := [_, _]) ty_Binding rfl rfl rfl rfl rfl bl rfl) (fun _ _ => (Dyp 5 rfl (Y.as rfl) (D.done kr (Et (E.ret (Ent.p5 (Ent.cv (congrArg (ow eIs [_]) (show _ = fzX [f5 (fun t => inR t 0 9) i7, f5 (fun t => inR t 0 9) d4].flatten i7 by first | (rw [List.take_of_length_le om, jX]; exact x_F hpr) | (rw [jX]; first | exact x_V | exact x_X | exact x_B | exact x_B.symm))) (Ent.p5 (Ent.cv (congrArg (ow eIs [_]) (show _ = fzV [f5 (fun t => inR t 0 9) i7, f5 (fun t => inR t 0 9) d4].flatten i7 by first | (rw [List.take_of_length_le om, jX]; exact x_F hpr) | (rw [jX]; first | exact x_V | exact x_X | exact x_B | exact x_B.symm))) (Ent.p4 (Ent.cv (congrArg (ow o2 [_]) (show _ = fzF [f5 (fun t => inR t 0 9) i7, f5 (fun t => inR t 0 9) d4].flatten i7 by first | (rw [List.take_of_length_le om, jX]; exact x_F hpr) | (rw [jX]; first | exact x_V | exact x_X | exact x_B | exact x_B.symm))) (Ent.p2 (Ent.p2 (Ent.p2 ?_))))))))))))))))))))))))))))
   exact F.c3 hB1 rfl rfl rfl rfl (mS (mS (mS m0))) ty_Binding rfl ((_, _, _), (_, _, _), (_, _, _)) trivial (by rw [show (fzB [f5 (fun t => inR t 0 9) i7, f5 (fun t => inR t 0 9) d4].flatten i7) = (fzB (f5 (fun t => inR t 0 9) (i7 ++ ((f5 (fun t => inR t 0 9) d4).take g).map (fun c => ((3 : Int), [c])))) (i7 ++ ((f5 (fun t => inR t 0 9) d4).take g).map (fun c => ((3 : Int), [c])))) from (by first | (rw [List.take_of_length_le om, jX]; exact x_F hpr) | (rw [jX]; first | exact x_V | exact x_X | exact x_B | exact x_B.symm))]; try rfl) (J := _) (.refl _) (.inl rfl)
theorem a6r (hpa : i7.length ≤ 4) (hpt : ∀ a ∈ i7, a.2.length ≤ 3) (hph : C3.length ≤ 3) (hqa : d4.length ≤ 4) (hqt : ∀ a ∈ d4, a.2.length ≤ 3) (hqh : d9.length ≤ 3) (hzp : C8 (fun x => x.2.length) i7 ≤ 1048576) (hzq : C8 (fun x => x.2.length) d4 ≤ 1048576) : Tr Tryz.prog 217 [.agg #[.slice J8 R3 J7, .slice H9 O4 H8], .agg #[.slice l2 o1 l0, .slice j8 n9 j7]] (fun w L => Ro w L eIs [.slice J8 R3 J7] C3 ∧ Ro w L s3 [.slice H9 O4 H8] i7 ∧ Ro w L eIs [.slice l2 o1 l0] d9 ∧ Ro w L s3 [.slice j8 n9 j7] d4) [] (κ := Unit) (fun k => True) (fun k => .bool (a1D (C3, i7) (d9, d4))) (fun k => []) := by
 refine Tr.intro Tryz.func217 rfl (n := 41) rfl (by decide +kernel) bl (fr := [(0, .agg #[.slice J8 R3 J7, .slice H9 O4 H8]), (1, .agg #[.slice l2 o1 l0, .slice j8 n9 j7])]) rfl fun w L hR => ?_
 obtain ⟨H1, F3, o3, n8⟩ := hR
 obtain ⟨rfl, a8s⟩ := H1.slen
 obtain ⟨rfl, a6H⟩ := F3.slen
 obtain ⟨rfl, E9⟩ := o3.slen
 obtain ⟨rfl, D1⟩ := n8.slen
 refine Ew Z3 (Est rfl (N.box (cs := [_, _]) rfl dc rfl) (fun b2 _ => (Est rfl (N.box (cs := [_, _]) rfl dc rfl) (fun b3 _ => (Eas rfl rfl (Eu (Eq_ (Ew Z7 (Ey rfl ((Y.fld fo_Query_0 ty_Is dc rfl).yd) (Ey rfl (Y.ld1 ty_Is rfl ((Has.pt (mS m0)).sub (cs' := [_]) 0 rfl) rfl) (Ey rfl ((Y.len us_Is rfl).yd) (Ey rfl ((Y.fld fo_Query_0 ty_Is dc rfl).yd) (Ey rfl (Y.ld1 ty_Is rfl ((Has.pt m0).sub (cs' := [_]) 0 rfl) rfl) (Ey rfl ((Y.len us_Is rfl).yd) (Ey rfl ((Y.neq rfl rfl).yd) (Ent.d (fun q16 => ?_) (fun q16 => ?_)))))))))))))))))
 ·refine Eu (E.ct rfl (Ew Z1 (Eas rfl rfl ?_)))
  exact Eu (E.ret (E.thr (Fb rfl rfl (by grind [a1D, d1, d2, t1, t2]))))
 ·refine Eu (E.cf rfl (E.skipc (Et (Eq_ (E.mid (κ := Option Addr × Nat × Nat × Option Addr × Nat × Option Addr × Nat) (fun _ => True) (fun kM => [(2, .pointer (some ⟨b2, 0, none⟩)), (3, .pointer (some ⟨b3, 0, none⟩)), (5, .slice kM.1 (fzF (([f5 (fun t => inR t 0 9) i7, f5 (fun t => inR t 0 9) d4]).flatten) i7).length kM.2.1), (6, .pointer (some ⟨kM.2.2.1, 0, none⟩)), (7, .bool (fzB (([f5 (fun t => inR t 0 9) i7, f5 (fun t => inR t 0 9) d4]).flatten) i7))]) (fun kM => [pt kM.2.2.1 125 [.slice kM.2.2.2.1 (fzV (([f5 (fun t => inR t 0 9) i7, f5 (fun t => inR t 0 9) d4]).flatten) i7).length kM.2.2.2.2.1, .slice kM.2.2.2.2.2.1 (fzX (([f5 (fun t => inR t 0 9) i7, f5 (fun t => inR t 0 9) d4]).flatten) i7).length kM.2.2.2.2.2.2], ow o2 [.slice kM.1 (fzF (([f5 (fun t => inR t 0 9) i7, f5 (fun t => inR t 0 9) d4]).flatten) i7).length kM.2.1] (fzF (([f5 (fun t => inR t 0 9) i7, f5 (fun t => inR t 0 9) d4]).flatten) i7), ow eIs [.slice kM.2.2.2.1 (fzV (([f5 (fun t => inR t 0 9) i7, f5 (fun t => inR t 0 9) d4]).flatten) i7).length kM.2.2.2.2.1] (fzV (([f5 (fun t => inR t 0 9) i7, f5 (fun t => inR t 0 9) d4]).flatten) i7), ow eIs [.slice kM.2.2.2.2.2.1 (fzX (([f5 (fun t => inR t 0 9) i7, f5 (fun t => inR t 0 9) d4]).flatten) i7).length kM.2.2.2.2.2.2] (fzX (([f5 (fun t => inR t 0 9) i7, f5 (fun t => inR t 0 9) d4]).flatten) i7), pt b3 61 [.slice l2 d9.length l0, .slice j8 d4.length j7], pt b2 61 [.slice J8 C3.length J7, .slice H9 i7.length H8]]) ?_ (fun kM _ => ?_))))))
  ·refine D.region (fun j => !(Nat.beq j 14)) mixed (Dy 0 rfl (Y.ldS (cs := [_, _]) ty_Query rfl (Has.pt (mS m0)) rfl) (Dy 1 rfl (Y.ldS (cs := [_, _]) ty_Query rfl (Has.pt (mS m0)) rfl) (Dy 3 rfl (Y.ldS (cs := [_, _]) ty_Query rfl (Has.pt m0) rfl) (D.ch2 (i := 2) (j := 12) kr ?_ ?_))))
   ·refine D.pk 2 rfl rfl (fun _ => rfl) (N.call (S3 fo) rfl rfl rfl dc rfl (fun w Lp hA => ⟨hA.ro H1, hA.ro F3⟩)) (fun k20 _ => ?_)
    obtain ⟨a20, m20, c20⟩ := k20
    refine Ent.lenow m0 fun e20 l20 => ?_
    subst e20
    refine D.ch2 (i := 4) (j := 12) kr ?_ ?_
    ·refine D.pk 4 rfl rfl (fun _ => rfl) (N.call (S3 fo) rfl rfl rfl dc rfl (fun w Lp hA => ⟨hA.ro o3, hA.ro n8⟩)) (fun k22 _ => ?_)
     obtain ⟨a22, m22, c22⟩ := k22
     refine Ent.lenow m0 fun e22 l22 => ?_
     subst e22
     refine D.ch2 (i := 5) (j := 12) kr ?_ ?_
     ·refine D.pk 5 rfl rfl (fun _ => rfl) (N.bsl (pvs := [_, _]) (cs := [_, _]) us_Iss ty_Is rfl dc dc (o6 rfl rfl) rfl dc) (fun b23 _ => (Ent.p1 (Ent.p2 (Ent.p2 (Ent.mkow (Own.row2 (E := eIs) (e := tIs) (c1 := [.slice a20 (f5 (fun t => inR t 0 9) i7).length c20]) (c2 := [.slice a22 (f5 (fun t => inR t 0 9) d4).length c22]) Own.ow Own.ow) rfl (D.ch2 (i := 6) (j := 12) kr ?_ ?_))))))
      ·refine D.pk 6 rfl rfl (fun _ => rfl) (N.call (M7 (by have h1 := N9 (d7 := i7); have h2 := N9 (d7 := d4); simp [U1]; omega)) rfl rfl rfl dc rfl (fun w Lp hA => hA.ow m0)) (fun k24 _ => ?_)
       obtain ⟨a24, m24, c24⟩ := k24
       refine Ent.lenow m0 fun e24 l24 => ?_
       subst e24
       refine D.ch2 (i := 7) (j := 12) kr ?_ ?_
       ·refine D.pk 7 rfl rfl (fun _ => rfl) (N.call (W8 fo (a3D (p := i7) (q := d4))) rfl rfl rfl dc rfl (fun w Lp hA => ⟨hA.ro H1, hA.ro F3, hA.ow m0⟩)) (fun k25 _ => ?_)
        obtain ⟨⟨a25_0, m25_0, c25_0⟩, ⟨a25_1, m25_1, c25_1⟩, ⟨a25_2, m25_2, c25_2⟩⟩ := k25
        refine Ent.lenow m0 fun e25_0 l25_0 => ?_
        subst e25_0
        refine Ent.lenow (mS m0) fun e25_1 l25_1 => ?_
        subst e25_1
        refine Ent.lenow (mS (mS m0)) fun e25_2 l25_2 => ?_
        subst e25_2
        refine Dyp 8 rfl (Y.mv rfl) (Dyp 9 rfl (Y.ext rfl rfl) (Dyp 10 rfl (Y.ext rfl rfl) (Dyp 11 rfl (Y.ext rfl rfl) (D.st 12 rfl rfl kr (fun _ => rfl) (N.alloc ty_Binding dc) (fun b6 _ => (Dyp 13 rfl (Y.as rfl) (D.st 14 rfl rfl kr (fun h => by cases h) (N.sto (vs := [_, _]) (cs' := [_, _]) ty_Binding rfl rfl rfl rfl rfl bl rfl) (fun _ _ => (Dyp 15 rfl (Y.as rfl) (D.done kr (Ent.p4 (Ent.drop (Ent.p4 (Ent.drop (Ent.p5 (Ent.p5 (Ent.p5 (Ent.p5 (Ent.p5 (Ent.p5 ?_))))))))))))))))))))
        exact E.mdn (a25_0, c25_0, b6, a25_1, c25_1, a25_2, c25_2) trivial ⟨rfl, rfl, rfl, rfl, rfl, trivial⟩ (.refl _)
       ·refine D.pk 12 rfl rfl (fun _ => rfl) (N.alloc ty_Binding dc) (fun b6 _ => (D.st 7 rfl rfl kr (fun _ => rfl) (N.call (W8 fo (a3D (p := i7) (q := d4))) rfl rfl rfl dc rfl (fun w Lp hA => ⟨hA.ro H1, hA.ro F3, hA.ow (mS m0)⟩)) (fun k25 _ => ?_)))
        obtain ⟨⟨a25_0, m25_0, c25_0⟩, ⟨a25_1, m25_1, c25_1⟩, ⟨a25_2, m25_2, c25_2⟩⟩ := k25
        refine Ent.lenow m0 fun e25_0 l25_0 => ?_
        subst e25_0
        refine Ent.lenow (mS m0) fun e25_1 l25_1 => ?_
        subst e25_1
        refine Ent.lenow (mS (mS m0)) fun e25_2 l25_2 => ?_
        subst e25_2
        refine Dyp 8 rfl (Y.mv rfl) (Dyp 9 rfl (Y.ext rfl rfl) (Dyp 10 rfl (Y.ext rfl rfl) (Dyp 11 rfl (Y.ext rfl rfl) (Dyp 13 rfl (Y.as rfl) (Ent.p3 (D.st 14 rfl rfl kr (fun h => by cases h) (N.sto (vs := [_, _]) (cs' := [_, _]) ty_Binding rfl rfl rfl rfl rfl bl rfl) (fun _ _ => (Dyp 15 rfl (Y.as rfl) (D.done kr (Ent.p4 (Ent.drop (Ent.p4 (Ent.drop (Ent.p5 (Ent.p5 (Ent.p5 (Ent.p5 (Ent.p5 (Ent.p5 ?_)))))))))))))))))))
        exact E.mdn (a25_0, c25_0, b6, a25_1, c25_1, a25_2, c25_2) trivial ⟨rfl, rfl, rfl, rfl, rfl, trivial⟩ (.refl _)
      ·refine D.pk 12 rfl rfl (fun _ => rfl) (N.alloc ty_Binding dc) (fun b6 _ => (D.st 6 rfl rfl kr (fun _ => rfl) (N.call (M7 (by have h1 := N9 (d7 := i7); have h2 := N9 (d7 := d4); simp [U1]; omega)) rfl rfl rfl dc rfl (fun w Lp hA => hA.ow (mS m0))) (fun k24 _ => ?_)))
       obtain ⟨a24, m24, c24⟩ := k24
       refine Ent.lenow m0 fun e24 l24 => ?_
       subst e24
       refine D.st 7 rfl rfl kr (fun _ => rfl) (N.call (W8 fo (a3D (p := i7) (q := d4))) rfl rfl rfl dc rfl (fun w Lp hA => ⟨hA.ro H1, hA.ro F3, hA.ow m0⟩)) (fun k25 _ => ?_)
       obtain ⟨⟨a25_0, m25_0, c25_0⟩, ⟨a25_1, m25_1, c25_1⟩, ⟨a25_2, m25_2, c25_2⟩⟩ := k25
       refine Ent.lenow m0 fun e25_0 l25_0 => ?_
       subst e25_0
       refine Ent.lenow (mS m0) fun e25_1 l25_1 => ?_
       subst e25_1
       refine Ent.lenow (mS (mS m0)) fun e25_2 l25_2 => ?_
       subst e25_2
       refine Dyp 8 rfl (Y.mv rfl) (Dyp 9 rfl (Y.ext rfl rfl) (Dyp 10 rfl (Y.ext rfl rfl) (Dyp 11 rfl (Y.ext rfl rfl) (Dyp 13 rfl (Y.as rfl) (Ent.p4 (D.st 14 rfl rfl kr (fun h => by cases h) (N.sto (vs := [_, _]) (cs' := [_, _]) ty_Binding rfl rfl rfl rfl rfl bl rfl) (fun _ _ => (Dyp 15 rfl (Y.as rfl) (D.done kr (Ent.p4 (Ent.drop (Ent.p4 (Ent.drop (Ent.p5 (Ent.p5 (Ent.p5 (Ent.p5 (Ent.p5 (Ent.p5 ?_)))))))))))))))))))
       exact E.mdn (a25_0, c25_0, b6, a25_1, c25_1, a25_2, c25_2) trivial ⟨rfl, rfl, rfl, rfl, rfl, trivial⟩ (.refl _)
     ·refine D.pk 12 rfl rfl (fun _ => rfl) (N.alloc ty_Binding dc) (fun b6 _ => (D.st 5 rfl rfl kr (fun _ => rfl) (N.bsl (pvs := [_, _]) (cs := [_, _]) us_Iss ty_Is rfl dc dc (o6 rfl rfl) rfl dc) (fun b23 _ => (Ent.p2 (Ent.p3 (Ent.p2 (Ent.mkow (Own.row2 (E := eIs) (e := tIs) (c1 := [.slice a20 (f5 (fun t => inR t 0 9) i7).length c20]) (c2 := [.slice a22 (f5 (fun t => inR t 0 9) d4).length c22]) Own.ow Own.ow) rfl (D.st 6 rfl rfl kr (fun _ => rfl) (N.call (M7 (by have h1 := N9 (d7 := i7); have h2 := N9 (d7 := d4); simp [U1]; omega)) rfl rfl rfl dc rfl (fun w Lp hA => hA.ow m0)) (fun k24 _ => ?_)))))))))
      obtain ⟨a24, m24, c24⟩ := k24
      refine Ent.lenow m0 fun e24 l24 => ?_
      subst e24
      refine D.st 7 rfl rfl kr (fun _ => rfl) (N.call (W8 fo (a3D (p := i7) (q := d4))) rfl rfl rfl dc rfl (fun w Lp hA => ⟨hA.ro H1, hA.ro F3, hA.ow m0⟩)) (fun k25 _ => ?_)
      obtain ⟨⟨a25_0, m25_0, c25_0⟩, ⟨a25_1, m25_1, c25_1⟩, ⟨a25_2, m25_2, c25_2⟩⟩ := k25
      refine Ent.lenow m0 fun e25_0 l25_0 => ?_
      subst e25_0
      refine Ent.lenow (mS m0) fun e25_1 l25_1 => ?_
      subst e25_1
      refine Ent.lenow (mS (mS m0)) fun e25_2 l25_2 => ?_
      subst e25_2
      refine Dyp 8 rfl (Y.mv rfl) (Dyp 9 rfl (Y.ext rfl rfl) (Dyp 10 rfl (Y.ext rfl rfl) (Dyp 11 rfl (Y.ext rfl rfl) (Dyp 13 rfl (Y.as rfl) (Ent.p5 (D.st 14 rfl rfl kr (fun h => by cases h) (N.sto (vs := [_, _]) (cs' := [_, _]) ty_Binding rfl rfl rfl rfl rfl bl rfl) (fun _ _ => (Dyp 15 rfl (Y.as rfl) (D.done kr (Ent.p4 (Ent.drop (Ent.p4 (Ent.drop (Ent.p5 (Ent.p5 (Ent.p5 (Ent.p5 (Ent.p5 (Ent.p5 ?_)))))))))))))))))))
      exact E.mdn (a25_0, c25_0, b6, a25_1, c25_1, a25_2, c25_2) trivial ⟨rfl, rfl, rfl, rfl, rfl, trivial⟩ (.refl _)
    ·refine D.pk 12 rfl rfl (fun _ => rfl) (N.alloc ty_Binding dc) (fun b6 _ => (D.st 4 rfl rfl kr (fun _ => rfl) (N.call (S3 fo) rfl rfl rfl dc rfl (fun w Lp hA => ⟨hA.ro o3, hA.ro n8⟩)) (fun k22 _ => ?_)))
     obtain ⟨a22, m22, c22⟩ := k22
     refine Ent.lenow m0 fun e22 l22 => ?_
     subst e22
     refine D.st 5 rfl rfl kr (fun _ => rfl) (N.bsl (pvs := [_, _]) (cs := [_, _]) us_Iss ty_Is rfl dc dc (o6 rfl rfl) rfl dc) (fun b23 _ => (Ent.p1 (Ent.p3 (Ent.p2 (Ent.mkow (Own.row2 (E := eIs) (e := tIs) (c1 := [.slice a20 (f5 (fun t => inR t 0 9) i7).length c20]) (c2 := [.slice a22 (f5 (fun t => inR t 0 9) d4).length c22]) Own.ow Own.ow) rfl (D.st 6 rfl rfl kr (fun _ => rfl) (N.call (M7 (by have h1 := N9 (d7 := i7); have h2 := N9 (d7 := d4); simp [U1]; omega)) rfl rfl rfl dc rfl (fun w Lp hA => hA.ow m0)) (fun k24 _ => ?_)))))))
     obtain ⟨a24, m24, c24⟩ := k24
     refine Ent.lenow m0 fun e24 l24 => ?_
     subst e24
     refine D.st 7 rfl rfl kr (fun _ => rfl) (N.call (W8 fo (a3D (p := i7) (q := d4))) rfl rfl rfl dc rfl (fun w Lp hA => ⟨hA.ro H1, hA.ro F3, hA.ow m0⟩)) (fun k25 _ => ?_)
     obtain ⟨⟨a25_0, m25_0, c25_0⟩, ⟨a25_1, m25_1, c25_1⟩, ⟨a25_2, m25_2, c25_2⟩⟩ := k25
     refine Ent.lenow m0 fun e25_0 l25_0 => ?_
     subst e25_0
     refine Ent.lenow (mS m0) fun e25_1 l25_1 => ?_
     subst e25_1
     refine Ent.lenow (mS (mS m0)) fun e25_2 l25_2 => ?_
     subst e25_2
     refine Dyp 8 rfl (Y.mv rfl) (Dyp 9 rfl (Y.ext rfl rfl) (Dyp 10 rfl (Y.ext rfl rfl) (Dyp 11 rfl (Y.ext rfl rfl) (Dyp 13 rfl (Y.as rfl) (Ent.p5 (D.st 14 rfl rfl kr (fun h => by cases h) (N.sto (vs := [_, _]) (cs' := [_, _]) ty_Binding rfl rfl rfl rfl rfl bl rfl) (fun _ _ => (Dyp 15 rfl (Y.as rfl) (D.done kr (Ent.p4 (Ent.drop (Ent.p4 (Ent.drop (Ent.p5 (Ent.p5 (Ent.p5 (Ent.p5 (Ent.p5 (Ent.p5 ?_)))))))))))))))))))
     exact E.mdn (a25_0, c25_0, b6, a25_1, c25_1, a25_2, c25_2) trivial ⟨rfl, rfl, rfl, rfl, rfl, trivial⟩ (.refl _)
   ·refine D.pk 12 rfl rfl (fun _ => rfl) (N.alloc ty_Binding dc) (fun b6 _ => (D.st 2 rfl rfl kr (fun _ => rfl) (N.call (S3 fo) rfl rfl rfl dc rfl (fun w Lp hA => ⟨hA.ro H1, hA.ro F3⟩)) (fun k20 _ => ?_)))
    obtain ⟨a20, m20, c20⟩ := k20
    refine Ent.lenow m0 fun e20 l20 => ?_
    subst e20
    refine D.st 4 rfl rfl kr (fun _ => rfl) (N.call (S3 fo) rfl rfl rfl dc rfl (fun w Lp hA => ⟨hA.ro o3, hA.ro n8⟩)) (fun k22 _ => ?_)
    obtain ⟨a22, m22, c22⟩ := k22
    refine Ent.lenow m0 fun e22 l22 => ?_
    subst e22
    refine D.st 5 rfl rfl kr (fun _ => rfl) (N.bsl (pvs := [_, _]) (cs := [_, _]) us_Iss ty_Is rfl dc dc (o6 rfl rfl) rfl dc) (fun b23 _ => (Ent.p1 (Ent.p2 (Ent.p2 (Ent.mkow (Own.row2 (E := eIs) (e := tIs) (c1 := [.slice a20 (f5 (fun t => inR t 0 9) i7).length c20]) (c2 := [.slice a22 (f5 (fun t => inR t 0 9) d4).length c22]) Own.ow Own.ow) rfl (D.st 6 rfl rfl kr (fun _ => rfl) (N.call (M7 (by have h1 := N9 (d7 := i7); have h2 := N9 (d7 := d4); simp [U1]; omega)) rfl rfl rfl dc rfl (fun w Lp hA => hA.ow m0)) (fun k24 _ => ?_)))))))
    obtain ⟨a24, m24, c24⟩ := k24
    refine Ent.lenow m0 fun e24 l24 => ?_
    subst e24
    refine D.st 7 rfl rfl kr (fun _ => rfl) (N.call (W8 fo (a3D (p := i7) (q := d4))) rfl rfl rfl dc rfl (fun w Lp hA => ⟨hA.ro H1, hA.ro F3, hA.ow m0⟩)) (fun k25 _ => ?_)
    obtain ⟨⟨a25_0, m25_0, c25_0⟩, ⟨a25_1, m25_1, c25_1⟩, ⟨a25_2, m25_2, c25_2⟩⟩ := k25
    refine Ent.lenow m0 fun e25_0 l25_0 => ?_
    subst e25_0
    refine Ent.lenow (mS m0) fun e25_1 l25_1 => ?_
    subst e25_1
    refine Ent.lenow (mS (mS m0)) fun e25_2 l25_2 => ?_
    subst e25_2
    refine Dyp 8 rfl (Y.mv rfl) (Dyp 9 rfl (Y.ext rfl rfl) (Dyp 10 rfl (Y.ext rfl rfl) (Dyp 11 rfl (Y.ext rfl rfl) (Dyp 13 rfl (Y.as rfl) (Ent.p5 (D.st 14 rfl rfl kr (fun h => by cases h) (N.sto (vs := [_, _]) (cs' := [_, _]) ty_Binding rfl rfl rfl rfl rfl bl rfl) (fun _ _ => (Dyp 15 rfl (Y.as rfl) (D.done kr (Ent.p4 (Ent.drop (Ent.p4 (Ent.drop (Ent.p5 (Ent.p5 (Ent.p5 (Ent.p5 (Ent.p5 (Ent.p5 ?_)))))))))))))))))))
    exact E.mdn (a25_0, c25_0, b6, a25_1, c25_1, a25_2, c25_2) trivial ⟨rfl, rfl, rfl, rfl, rfl, trivial⟩ (.refl _)
  ·obtain ⟨a25_0, c25_0, b6, a25_1, c25_1, a25_2, c25_2⟩ := kM
   try dsimp only
   refine Et (Eq_ (Ew Z2 (Emv rfl rfl (Ent.b (fun q29 => ?_) (fun q29 => ?_)))))
   ·refine Ey rfl ((Y.not (b := true) rfl).yd) (Eu (E.cf rfl (E.skipc (Et (Eq_ (E.mid (κ := Nat × Option Addr × Nat × Option Addr × Nat) (fun _ => True) (fun kM => [(9, .bool ((t7 d4 (fzF (([f5 (fun t => inR t 0 9) i7, f5 (fun t => inR t 0 9) d4]).flatten) i7)).any (N6 d9 (C3.map (w4 ((fzV (([f5 (fun t => inR t 0 9) i7, f5 (fun t => inR t 0 9) d4]).flatten) i7), (fzX (([f5 (fun t => inR t 0 9) i7, f5 (fun t => inR t 0 9) d4]).flatten) i7)))))))]) (fun kM => [pt kM.1 125 [.slice kM.2.1 ((H6 (t7 d4 (fzF (([f5 (fun t => inR t 0 9) i7, f5 (fun t => inR t 0 9) d4]).flatten) i7)) d9 (C3.map (w4 ((fzV (([f5 (fun t => inR t 0 9) i7, f5 (fun t => inR t 0 9) d4]).flatten) i7), (fzX (([f5 (fun t => inR t 0 9) i7, f5 (fun t => inR t 0 9) d4]).flatten) i7))))).1).length kM.2.2.1, .slice kM.2.2.2.1 ((H6 (t7 d4 (fzF (([f5 (fun t => inR t 0 9) i7, f5 (fun t => inR t 0 9) d4]).flatten) i7)) d9 (C3.map (w4 ((fzV (([f5 (fun t => inR t 0 9) i7, f5 (fun t => inR t 0 9) d4]).flatten) i7), (fzX (([f5 (fun t => inR t 0 9) i7, f5 (fun t => inR t 0 9) d4]).flatten) i7))))).2).length kM.2.2.2.2], ow eIs [.slice kM.2.1 ((H6 (t7 d4 (fzF (([f5 (fun t => inR t 0 9) i7, f5 (fun t => inR t 0 9) d4]).flatten) i7)) d9 (C3.map (w4 ((fzV (([f5 (fun t => inR t 0 9) i7, f5 (fun t => inR t 0 9) d4]).flatten) i7), (fzX (([f5 (fun t => inR t 0 9) i7, f5 (fun t => inR t 0 9) d4]).flatten) i7))))).1).length kM.2.2.1] ((H6 (t7 d4 (fzF (([f5 (fun t => inR t 0 9) i7, f5 (fun t => inR t 0 9) d4]).flatten) i7)) d9 (C3.map (w4 ((fzV (([f5 (fun t => inR t 0 9) i7, f5 (fun t => inR t 0 9) d4]).flatten) i7), (fzX (([f5 (fun t => inR t 0 9) i7, f5 (fun t => inR t 0 9) d4]).flatten) i7))))).1), ow eIs [.slice kM.2.2.2.1 ((H6 (t7 d4 (fzF (([f5 (fun t => inR t 0 9) i7, f5 (fun t => inR t 0 9) d4]).flatten) i7)) d9 (C3.map (w4 ((fzV (([f5 (fun t => inR t 0 9) i7, f5 (fun t => inR t 0 9) d4]).flatten) i7), (fzX (([f5 (fun t => inR t 0 9) i7, f5 (fun t => inR t 0 9) d4]).flatten) i7))))).2).length kM.2.2.2.2] ((H6 (t7 d4 (fzF (([f5 (fun t => inR t 0 9) i7, f5 (fun t => inR t 0 9) d4]).flatten) i7)) d9 (C3.map (w4 ((fzV (([f5 (fun t => inR t 0 9) i7, f5 (fun t => inR t 0 9) d4]).flatten) i7), (fzX (([f5 (fun t => inR t 0 9) i7, f5 (fun t => inR t 0 9) d4]).flatten) i7))))).2), pt b6 125 [.slice a25_1 (fzV (([f5 (fun t => inR t 0 9) i7, f5 (fun t => inR t 0 9) d4]).flatten) i7).length c25_1, .slice a25_2 (fzX (([f5 (fun t => inR t 0 9) i7, f5 (fun t => inR t 0 9) d4]).flatten) i7).length c25_2], ow o2 [.slice a25_0 (fzF (([f5 (fun t => inR t 0 9) i7, f5 (fun t => inR t 0 9) d4]).flatten) i7).length c25_0] (fzF (([f5 (fun t => inR t 0 9) i7, f5 (fun t => inR t 0 9) d4]).flatten) i7), ow eIs [.slice a25_1 (fzV (([f5 (fun t => inR t 0 9) i7, f5 (fun t => inR t 0 9) d4]).flatten) i7).length c25_1] (fzV (([f5 (fun t => inR t 0 9) i7, f5 (fun t => inR t 0 9) d4]).flatten) i7), ow eIs [.slice a25_2 (fzX (([f5 (fun t => inR t 0 9) i7, f5 (fun t => inR t 0 9) d4]).flatten) i7).length c25_2] (fzX (([f5 (fun t => inR t 0 9) i7, f5 (fun t => inR t 0 9) d4]).flatten) i7), pt b3 61 [.slice l2 d9.length l0, .slice j8 d4.length j7], pt b2 61 [.slice J8 C3.length J7, .slice H9 i7.length H8]]) ?_ (fun kM _ => ?_)))))))
    ·refine D.region (fun j => !(Nat.beq j 10)) mixed (Dy 0 rfl (Y.ldS (cs := [_, _]) ty_Query rfl (Has.pt (mS (mS (mS (mS m0))))) rfl) (Dyp 1 rfl (Y.mv rfl) (Dy 2 rfl (Y.ldS (cs := [_, _]) ty_Query rfl (Has.pt (mS (mS (mS (mS (mS m0)))))) rfl) (Dy 3 rfl (Y.ldS (cs := [_, _]) ty_Binding rfl (Has.pt m0) rfl) (D.ch2 (i := 4) (j := 9) kr ?_ ?_)))))
     ·refine D.pk 4 rfl rfl (fun _ => rfl) (N.call (a0H fo) rfl rfl rfl dc rfl (fun w Lp hA => ⟨hA.ro H1, hA.ro F3, hA.ow (mS (mS m0)), hA.ow (mS (mS (mS m0)))⟩)) (fun k36 _ => ?_)
      obtain ⟨a36, m36, c36⟩ := k36
      refine Ent.lenow m0 fun e36 l36 => ?_
      subst e36
      refine D.ch2 (i := 5) (j := 9) kr ?_ ?_
      ·refine D.pk 5 rfl rfl (fun _ => rfl) (N.call (a0o fo fo (fun a _ => a5u (Nat.le_trans a1R om)) fo) rfl rfl rfl dc rfl (fun w Lp hA => ⟨hA.ro o3, hA.ro n8, hA.ow (mS (mS m0)), hA.ow m0⟩)) (fun k37 _ => ?_)
       obtain ⟨⟨a37_0, m37_0, c37_0⟩, ⟨a37_1, m37_1, c37_1⟩⟩ := k37
       refine Ent.lenow m0 fun e37_0 l37_0 => ?_
       subst e37_0
       refine Ent.lenow (mS m0) fun e37_1 l37_1 => ?_
       subst e37_1
       refine Dyp 6 rfl (Y.mv rfl) (Dyp 7 rfl (Y.ext rfl rfl) (Dyp 8 rfl (Y.ext rfl rfl) (D.st 9 rfl rfl kr (fun _ => rfl) (N.alloc ty_Binding dc) (fun b8 _ => (D.st 10 rfl rfl kr (fun h => by cases h) (N.sto (vs := [_, _]) (cs' := [_, _]) ty_Binding rfl rfl rfl rfl rfl bl rfl) (fun _ _ => (Dyp 11 rfl (Y.as rfl) (D.done kr (Ent.p3 (Ent.drop (Ent.p8 (Ent.p8 (Ent.p8 (Ent.p8 (Ent.p8 (Ent.p8 (Ent.p8 (Ent.p8 (Ent.p8 ?_)))))))))))))))))))
       exact E.mdn (b8, a37_0, c37_0, a37_1, c37_1) trivial ⟨rfl, trivial⟩ (.refl _)
      ·refine D.pk 9 rfl rfl (fun _ => rfl) (N.alloc ty_Binding dc) (fun b8 _ => (D.st 5 rfl rfl kr (fun _ => rfl) (N.call (a0o fo fo (fun a _ => a5u (Nat.le_trans a1R om)) fo) rfl rfl rfl dc rfl (fun w Lp hA => ⟨hA.ro o3, hA.ro n8, hA.ow (mS (mS (mS m0))), hA.ow (mS m0)⟩)) (fun k37 _ => ?_)))
       obtain ⟨⟨a37_0, m37_0, c37_0⟩, ⟨a37_1, m37_1, c37_1⟩⟩ := k37
       refine Ent.lenow m0 fun e37_0 l37_0 => ?_
       subst e37_0
       refine Ent.lenow (mS m0) fun e37_1 l37_1 => ?_
       subst e37_1
       refine Dyp 6 rfl (Y.mv rfl) (Dyp 7 rfl (Y.ext rfl rfl) (Dyp 8 rfl (Y.ext rfl rfl) (Ent.p2 (D.st 10 rfl rfl kr (fun h => by cases h) (N.sto (vs := [_, _]) (cs' := [_, _]) ty_Binding rfl rfl rfl rfl rfl bl rfl) (fun _ _ => (Dyp 11 rfl (Y.as rfl) (D.done kr (Ent.p3 (Ent.drop (Ent.p8 (Ent.p8 (Ent.p8 (Ent.p8 (Ent.p8 (Ent.p8 (Ent.p8 (Ent.p8 (Ent.p8 ?_))))))))))))))))))
       exact E.mdn (b8, a37_0, c37_0, a37_1, c37_1) trivial ⟨rfl, trivial⟩ (.refl _)
     ·refine D.pk 9 rfl rfl (fun _ => rfl) (N.alloc ty_Binding dc) (fun b8 _ => (D.st 4 rfl rfl kr (fun _ => rfl) (N.call (a0H fo) rfl rfl rfl dc rfl (fun w Lp hA => ⟨hA.ro H1, hA.ro F3, hA.ow (mS (mS (mS m0))), hA.ow (mS (mS (mS (mS m0))))⟩)) (fun k36 _ => ?_)))
      obtain ⟨a36, m36, c36⟩ := k36
      refine Ent.lenow m0 fun e36 l36 => ?_
      subst e36
      refine D.st 5 rfl rfl kr (fun _ => rfl) (N.call (a0o fo fo (fun a _ => a5u (Nat.le_trans a1R om)) fo) rfl rfl rfl dc rfl (fun w Lp hA => ⟨hA.ro o3, hA.ro n8, hA.ow (mS (mS (mS m0))), hA.ow m0⟩)) (fun k37 _ => ?_)
      obtain ⟨⟨a37_0, m37_0, c37_0⟩, ⟨a37_1, m37_1, c37_1⟩⟩ := k37
      refine Ent.lenow m0 fun e37_0 l37_0 => ?_
      subst e37_0
      refine Ent.lenow (mS m0) fun e37_1 l37_1 => ?_
      subst e37_1
      refine Dyp 6 rfl (Y.mv rfl) (Dyp 7 rfl (Y.ext rfl rfl) (Dyp 8 rfl (Y.ext rfl rfl) (Ent.p3 (D.st 10 rfl rfl kr (fun h => by cases h) (N.sto (vs := [_, _]) (cs' := [_, _]) ty_Binding rfl rfl rfl rfl rfl bl rfl) (fun _ _ => (Dyp 11 rfl (Y.as rfl) (D.done kr (Ent.p3 (Ent.drop (Ent.p8 (Ent.p8 (Ent.p8 (Ent.p8 (Ent.p8 (Ent.p8 (Ent.p8 (Ent.p8 (Ent.p8 ?_))))))))))))))))))
      exact E.mdn (b8, a37_0, c37_0, a37_1, c37_1) trivial ⟨rfl, trivial⟩ (.refl _)
    ·obtain ⟨b8, a37_0, c37_0, a37_1, c37_1⟩ := kM
     try dsimp only
     refine Et (Ew Z2 (Emv rfl rfl (Eas rfl rfl ?_)))
     exact Eu (E.ret (Fb rfl rfl (by grind [a1D, d1, d2, t1, t2])))
   ·refine Ey rfl ((Y.not (b := false) rfl).yd) (Eu (E.ct rfl (Ew Z1 (Eas rfl rfl ?_))))
    exact Eu (E.ret (E.thr (Fb rfl rfl (by grind [a1D, d1, d2, t1, t2]))))
theorem a4S {a_s : Option Addr} {m_s c_s : Nat} {s : List Int} (hzp : C8 (fun x => x.2.length) i7 ≤ 1048576) (hzq : C8 (fun x => x.2.length) d4 ≤ 1048576) : Tr Tryz.prog 130 [.slice a_s m_s c_s, .agg #[.slice J8 R3 J7, .slice H9 O4 H8], .agg #[.slice l2 o1 l0, .slice j8 n9 j7]] (fun w L => Ro w L eIs [.slice a_s m_s c_s] s ∧ Ro w L eIs [.slice J8 R3 J7] C3 ∧ Ro w L s3 [.slice H9 O4 H8] i7 ∧ Ro w L eIs [.slice l2 o1 l0] d9 ∧ Ro w L s3 [.slice j8 n9 j7] d4) [] (κ := Unit) (fun k => True) (fun k => .bool (a3i s (C3, i7) (d9, d4))) (fun k => []) := by
 refine Tr.intro Tryz.func130 rfl (n := 50) rfl (by decide +kernel) bl (fr := [(0, .slice a_s m_s c_s), (1, .agg #[.slice J8 R3 J7, .slice H9 O4 H8]), (2, .agg #[.slice l2 o1 l0, .slice j8 n9 j7])]) rfl fun w L hR => ?_
 obtain ⟨hs, H1, F3, o3, n8⟩ := hR
 obtain ⟨rfl, ls⟩ := hs.slen
 obtain ⟨rfl, a8s⟩ := H1.slen
 obtain ⟨rfl, a6H⟩ := F3.slen
 obtain ⟨rfl, E9⟩ := o3.slen
 obtain ⟨rfl, D1⟩ := n8.slen
 refine Ew Z3 (Est rfl (N.box (cs := [_, _]) rfl dc rfl) (fun b4 _ => (Est rfl (N.box (cs := [_, _]) rfl dc rfl) (fun b5 _ => (Eas rfl rfl (Eu (Eq_ (Ew Z19 (Emv rfl rfl (Ey rfl (Y.ldS (cs := [_, _]) ty_Query rfl (Has.pt (mS m0)) rfl) (Est rfl (N.call0 (a0I fo) rfl rfl rfl dc (fun w Lp hA => ⟨hA.ro hs, hA.ro H1, hA.ro F3⟩)) (fun _ _ => (Ent.b (fun q14 => ?_) (fun q14 => ?_))))))))))))))
 ·refine Ey rfl ((Y.not (b := true) rfl).yd) (Emv rfl rfl (Emv rfl rfl (Ey rfl (Y.ldS (cs := [_, _]) ty_Query rfl (Has.pt m0) rfl) (Est rfl (N.call0 (a0I fo) rfl rfl rfl dc (fun w Lp hA => ⟨hA.ro hs, hA.ro o3, hA.ro n8⟩)) (fun _ _ => (Ent.b (fun q19 => ?_) (fun q19 => ?_)))))))
  ·refine Ey rfl ((Y.not (b := true) rfl).yd) (Ey rfl ((Y.pkf rfl rfl).yd) (Emv rfl rfl (Ey rfl ((Y.fld fo_Query_0 ty_Is dc rfl).yd) (Ey rfl (Y.ld1 ty_Is rfl ((Has.pt (mS m0)).sub (cs' := [_]) 0 rfl) rfl) (Ey rfl ((Y.len us_Is rfl).yd) (Ey rfl ((Y.fld fo_Query_0 ty_Is dc rfl).yd) (Ey rfl (Y.ld1 ty_Is rfl ((Has.pt m0).sub (cs' := [_]) 0 rfl) rfl) (Ey rfl ((Y.len us_Is rfl).yd) (Ey rfl ((Y.neq rfl rfl).yd) (Ent.d (fun q29 => ?_) (fun q29 => ?_)))))))))))
   ·refine Ey rfl ((Y.pkf rfl rfl).yd) (Eu (E.ct rfl (Ew Z1 (Eas rfl rfl ?_))))
    exact Eu (E.ret (E.thr (Fb rfl rfl (by grind [a3i, a1D, d1, d2, t1, t2]))))
   ·refine Ey rfl ((Y.pkf rfl rfl).yd) (Eu (E.cf rfl (E.skipc (Et (Ew Z11 (Ey rfl (Y.ldS (cs := [_, _]) ty_Query rfl (Has.pt (mS m0)) rfl) (Ey rfl (Y.ldS (cs := [_, _]) ty_Query rfl (Has.pt m0) rfl) (Est rfl (N.call (a6R ((C1 (s := s) (q := (C3, i7)) (by assumption)).1) ((C1 (s := s) (q := (C3, i7)) (by assumption)).2.2) (Nat.le_trans (C1 (s := s) (q := (C3, i7)) (by assumption)).2.1 dc) (b0W (s := s) (q := (C3, i7)) (by assumption)) fo) rfl rfl rfl dc rfl (fun w Lp hA => ⟨hA.ro H1, hA.ro F3, hA.ro o3, hA.ro n8⟩)) (fun k34 _ => ?_)))))))))
    obtain ⟨⟨a34_0, m34_0, c34_0⟩, ⟨a34_1, m34_1, c34_1⟩, ⟨a34_2, m34_2, c34_2⟩⟩ := k34
    refine Ent.lenow m0 fun e34_0 l34_0 => ?_
    subst e34_0
    refine Ent.lenow (mS m0) fun e34_1 l34_1 => ?_
    subst e34_1
    refine Ent.lenow (mS (mS m0)) fun e34_2 l34_2 => ?_
    subst e34_2
    refine Emv rfl rfl (Ey rfl ((Y.ext rfl rfl).yd) (Ey rfl ((Y.ext rfl rfl).yd) (Ey rfl ((Y.ext rfl rfl).yd) (Est rfl (N.alloc ty_Binding dc) (fun b8 _ => (Eas rfl rfl (Est rfl (N.sto (vs := [_, _]) (cs' := [_, _]) ty_Binding rfl rfl rfl rfl rfl bl rfl) (fun _ _ => (Eas rfl rfl (Ent.b (fun q9 => ?_) (fun q9 => ?_)))))))))))
    ·refine Eu (Eq_ (Ew Z2 (Emv rfl rfl (Ey rfl ((Y.not (b := true) rfl).yd) (Eu (E.cf rfl (E.skipc (Et (Eq_ (E.mid (κ := Nat × Option Addr × Nat × Option Addr × Nat) (fun _ => True) (fun kM => [(11, .bool ((t7 d4 (fzF [f5 (fun t => inR t 0 9) i7, f5 (fun t => inR t 0 9) d4].flatten i7)).any (N6 d9 (C3.map (w4 ((fzV [f5 (fun t => inR t 0 9) i7, f5 (fun t => inR t 0 9) d4].flatten i7), (fzX [f5 (fun t => inR t 0 9) i7, f5 (fun t => inR t 0 9) d4].flatten i7)))))))]) (fun kM => [pt kM.1 125 [.slice kM.2.1 ((H6 (t7 d4 (fzF [f5 (fun t => inR t 0 9) i7, f5 (fun t => inR t 0 9) d4].flatten i7)) d9 (C3.map (w4 ((fzV [f5 (fun t => inR t 0 9) i7, f5 (fun t => inR t 0 9) d4].flatten i7), (fzX [f5 (fun t => inR t 0 9) i7, f5 (fun t => inR t 0 9) d4].flatten i7))))).1).length kM.2.2.1, .slice kM.2.2.2.1 ((H6 (t7 d4 (fzF [f5 (fun t => inR t 0 9) i7, f5 (fun t => inR t 0 9) d4].flatten i7)) d9 (C3.map (w4 ((fzV [f5 (fun t => inR t 0 9) i7, f5 (fun t => inR t 0 9) d4].flatten i7), (fzX [f5 (fun t => inR t 0 9) i7, f5 (fun t => inR t 0 9) d4].flatten i7))))).2).length kM.2.2.2.2], ow eIs [.slice kM.2.1 ((H6 (t7 d4 (fzF [f5 (fun t => inR t 0 9) i7, f5 (fun t => inR t 0 9) d4].flatten i7)) d9 (C3.map (w4 ((fzV [f5 (fun t => inR t 0 9) i7, f5 (fun t => inR t 0 9) d4].flatten i7), (fzX [f5 (fun t => inR t 0 9) i7, f5 (fun t => inR t 0 9) d4].flatten i7))))).1).length kM.2.2.1] ((H6 (t7 d4 (fzF [f5 (fun t => inR t 0 9) i7, f5 (fun t => inR t 0 9) d4].flatten i7)) d9 (C3.map (w4 ((fzV [f5 (fun t => inR t 0 9) i7, f5 (fun t => inR t 0 9) d4].flatten i7), (fzX [f5 (fun t => inR t 0 9) i7, f5 (fun t => inR t 0 9) d4].flatten i7))))).1), ow eIs [.slice kM.2.2.2.1 ((H6 (t7 d4 (fzF [f5 (fun t => inR t 0 9) i7, f5 (fun t => inR t 0 9) d4].flatten i7)) d9 (C3.map (w4 ((fzV [f5 (fun t => inR t 0 9) i7, f5 (fun t => inR t 0 9) d4].flatten i7), (fzX [f5 (fun t => inR t 0 9) i7, f5 (fun t => inR t 0 9) d4].flatten i7))))).2).length kM.2.2.2.2] ((H6 (t7 d4 (fzF [f5 (fun t => inR t 0 9) i7, f5 (fun t => inR t 0 9) d4].flatten i7)) d9 (C3.map (w4 ((fzV [f5 (fun t => inR t 0 9) i7, f5 (fun t => inR t 0 9) d4].flatten i7), (fzX [f5 (fun t => inR t 0 9) i7, f5 (fun t => inR t 0 9) d4].flatten i7))))).2), pt b8 125 [.slice a34_1 (fzV [f5 (fun t => inR t 0 9) i7, f5 (fun t => inR t 0 9) d4].flatten i7).length c34_1, .slice a34_2 (fzX [f5 (fun t => inR t 0 9) i7, f5 (fun t => inR t 0 9) d4].flatten i7).length c34_2], ow o2 [.slice a34_0 (fzF [f5 (fun t => inR t 0 9) i7, f5 (fun t => inR t 0 9) d4].flatten i7).length c34_0] (fzF [f5 (fun t => inR t 0 9) i7, f5 (fun t => inR t 0 9) d4].flatten i7), ow eIs [.slice a34_1 (fzV [f5 (fun t => inR t 0 9) i7, f5 (fun t => inR t 0 9) d4].flatten i7).length c34_1] (fzV [f5 (fun t => inR t 0 9) i7, f5 (fun t => inR t 0 9) d4].flatten i7), ow eIs [.slice a34_2 (fzX [f5 (fun t => inR t 0 9) i7, f5 (fun t => inR t 0 9) d4].flatten i7).length c34_2] (fzX [f5 (fun t => inR t 0 9) i7, f5 (fun t => inR t 0 9) d4].flatten i7), pt b5 61 [.slice l2 d9.length l0, .slice j8 d4.length j7], pt b4 61 [.slice J8 C3.length J7, .slice H9 i7.length H8]]) ?_ (fun kM _ => ?_)))))))))))
     ·refine D.region (fun j => !(Nat.beq j 10)) mixed (Dy 0 rfl (Y.ldS (cs := [_, _]) ty_Query rfl (Has.pt (mS (mS (mS (mS m0))))) rfl) (Dyp 1 rfl (Y.mv rfl) (Dy 2 rfl (Y.ldS (cs := [_, _]) ty_Query rfl (Has.pt (mS (mS (mS (mS (mS m0)))))) rfl) (Dy 3 rfl (Y.ldS (cs := [_, _]) ty_Binding rfl (Has.pt m0) rfl) (D.ch2 (i := 4) (j := 9) kr ?_ ?_)))))
      ·refine D.pk 4 rfl rfl (fun _ => rfl) (N.call (a1O (Nat.le_trans (C1 (s := s) (q := (C3, i7)) (by assumption)).2.1 dc)) rfl rfl rfl dc rfl (fun w Lp hA => ⟨hA.ro H1, hA.ro F3, hA.ow (mS (mS m0)), hA.ow (mS (mS (mS m0)))⟩)) (fun k45 _ => ?_)
       obtain ⟨a45, m45, c45⟩ := k45
       refine Ent.lenow m0 fun e45 l45 => ?_
       subst e45
       refine D.ch2 (i := 5) (j := 9) kr ?_ ?_
       ·refine D.pk 5 rfl rfl (fun _ => rfl) (N.call (a0y ((C1 (s := s) (q := (d9, d4)) (by assumption)).1) ((C1 (s := s) (q := (d9, d4)) (by assumption)).2.2) (fun a _ => a5u (Nat.le_trans a1R (Nat.le_trans (C1 (s := s) (q := (C3, i7)) (by assumption)).1 dc))) (Nat.le_trans (C1 (s := s) (q := (d9, d4)) (by assumption)).2.1 dc)) rfl rfl rfl dc rfl (fun w Lp hA => ⟨hA.ro o3, hA.ro n8, hA.ow (mS (mS m0)), hA.ow m0⟩)) (fun k46 _ => ?_)
        obtain ⟨⟨a46_0, m46_0, c46_0⟩, ⟨a46_1, m46_1, c46_1⟩⟩ := k46
        refine Ent.lenow m0 fun e46_0 l46_0 => ?_
        subst e46_0
        refine Ent.lenow (mS m0) fun e46_1 l46_1 => ?_
        subst e46_1
        refine Dyp 6 rfl (Y.mv rfl) (Dyp 7 rfl (Y.ext rfl rfl) (Dyp 8 rfl (Y.ext rfl rfl) (D.st 9 rfl rfl kr (fun _ => rfl) (N.alloc ty_Binding dc) (fun b10 _ => (D.st 10 rfl rfl kr (fun h => by cases h) (N.sto (vs := [_, _]) (cs' := [_, _]) ty_Binding rfl rfl rfl rfl rfl bl rfl) (fun _ _ => (Dyp 11 rfl (Y.as rfl) (D.done kr (Ent.p3 (Ent.drop (Ent.p8 (Ent.p8 (Ent.p8 (Ent.p8 (Ent.p8 (Ent.p8 (Ent.p8 (Ent.p8 (Ent.p8 ?_)))))))))))))))))))
        exact E.mdn (b10, a46_0, c46_0, a46_1, c46_1) trivial ⟨rfl, trivial⟩ (.refl _)
       ·refine D.pk 9 rfl rfl (fun _ => rfl) (N.alloc ty_Binding dc) (fun b10 _ => (D.st 5 rfl rfl kr (fun _ => rfl) (N.call (a0y ((C1 (s := s) (q := (d9, d4)) (by assumption)).1) ((C1 (s := s) (q := (d9, d4)) (by assumption)).2.2) (fun a _ => a5u (Nat.le_trans a1R (Nat.le_trans (C1 (s := s) (q := (C3, i7)) (by assumption)).1 dc))) (Nat.le_trans (C1 (s := s) (q := (d9, d4)) (by assumption)).2.1 dc)) rfl rfl rfl dc rfl (fun w Lp hA => ⟨hA.ro o3, hA.ro n8, hA.ow (mS (mS (mS m0))), hA.ow (mS m0)⟩)) (fun k46 _ => ?_)))
        obtain ⟨⟨a46_0, m46_0, c46_0⟩, ⟨a46_1, m46_1, c46_1⟩⟩ := k46
        refine Ent.lenow m0 fun e46_0 l46_0 => ?_
        subst e46_0
        refine Ent.lenow (mS m0) fun e46_1 l46_1 => ?_
        subst e46_1
        refine Dyp 6 rfl (Y.mv rfl) (Dyp 7 rfl (Y.ext rfl rfl) (Dyp 8 rfl (Y.ext rfl rfl) (Ent.p2 (D.st 10 rfl rfl kr (fun h => by cases h) (N.sto (vs := [_, _]) (cs' := [_, _]) ty_Binding rfl rfl rfl rfl rfl bl rfl) (fun _ _ => (Dyp 11 rfl (Y.as rfl) (D.done kr (Ent.p3 (Ent.drop (Ent.p8 (Ent.p8 (Ent.p8 (Ent.p8 (Ent.p8 (Ent.p8 (Ent.p8 (Ent.p8 (Ent.p8 ?_))))))))))))))))))
        exact E.mdn (b10, a46_0, c46_0, a46_1, c46_1) trivial ⟨rfl, trivial⟩ (.refl _)
      ·refine D.pk 9 rfl rfl (fun _ => rfl) (N.alloc ty_Binding dc) (fun b10 _ => (D.st 4 rfl rfl kr (fun _ => rfl) (N.call (a1O (Nat.le_trans (C1 (s := s) (q := (C3, i7)) (by assumption)).2.1 dc)) rfl rfl rfl dc rfl (fun w Lp hA => ⟨hA.ro H1, hA.ro F3, hA.ow (mS (mS (mS m0))), hA.ow (mS (mS (mS (mS m0))))⟩)) (fun k45 _ => ?_)))
       obtain ⟨a45, m45, c45⟩ := k45
       refine Ent.lenow m0 fun e45 l45 => ?_
       subst e45
       refine D.st 5 rfl rfl kr (fun _ => rfl) (N.call (a0y ((C1 (s := s) (q := (d9, d4)) (by assumption)).1) ((C1 (s := s) (q := (d9, d4)) (by assumption)).2.2) (fun a _ => a5u (Nat.le_trans a1R (Nat.le_trans (C1 (s := s) (q := (C3, i7)) (by assumption)).1 dc))) (Nat.le_trans (C1 (s := s) (q := (d9, d4)) (by assumption)).2.1 dc)) rfl rfl rfl dc rfl (fun w Lp hA => ⟨hA.ro o3, hA.ro n8, hA.ow (mS (mS (mS m0))), hA.ow m0⟩)) (fun k46 _ => ?_)
       obtain ⟨⟨a46_0, m46_0, c46_0⟩, ⟨a46_1, m46_1, c46_1⟩⟩ := k46
       refine Ent.lenow m0 fun e46_0 l46_0 => ?_
       subst e46_0
       refine Ent.lenow (mS m0) fun e46_1 l46_1 => ?_
       subst e46_1
       refine Dyp 6 rfl (Y.mv rfl) (Dyp 7 rfl (Y.ext rfl rfl) (Dyp 8 rfl (Y.ext rfl rfl) (Ent.p3 (D.st 10 rfl rfl kr (fun h => by cases h) (N.sto (vs := [_, _]) (cs' := [_, _]) ty_Binding rfl rfl rfl rfl rfl bl rfl) (fun _ _ => (Dyp 11 rfl (Y.as rfl) (D.done kr (Ent.p3 (Ent.drop (Ent.p8 (Ent.p8 (Ent.p8 (Ent.p8 (Ent.p8 (Ent.p8 (Ent.p8 (Ent.p8 (Ent.p8 ?_))))))))))))))))))
       exact E.mdn (b10, a46_0, c46_0, a46_1, c46_1) trivial ⟨rfl, trivial⟩ (.refl _)
     ·obtain ⟨b10, a46_0, c46_0, a46_1, c46_1⟩ := kM
      try dsimp only
      refine Et (Ew Z2 (Emv rfl rfl (Eas rfl rfl ?_)))
      exact Eu (E.ret (Fb rfl rfl (by grind [a3i, a1D, d1, d2, t1, t2])))
    ·refine Eu (Eq_ (Ew Z2 (Emv rfl rfl (Ey rfl ((Y.not (b := false) rfl).yd) (Eu (E.ct rfl (Ew Z1 (Eas rfl rfl ?_))))))))
     exact Eu (E.ret (E.thr (Fb rfl rfl (by grind [a3i, a1D, d1, d2, t1, t2]))))
  ·refine Ey rfl ((Y.not (b := false) rfl).yd) (Ey rfl ((Y.pkf rfl rfl).yd) (Emv rfl rfl (Es rfl (Es rfl (Es rfl (Es rfl (Es rfl (Es rfl (Es rfl (Ey rfl ((Y.pkt rfl rfl).yd) (Eu (E.ct rfl (Ew Z1 (Eas rfl rfl ?_))))))))))))))
   exact Eu (E.ret (E.thr (Fb rfl rfl (by grind [a3i, a1D, d1, d2, t1, t2]))))
 ·refine Ey rfl ((Y.not (b := false) rfl).yd) (Emv rfl rfl (Es rfl (Es rfl (Es rfl (Es rfl (Ey rfl ((Y.pkt rfl rfl).yd) (Emv rfl rfl (Es rfl (Es rfl (Es rfl (Es rfl (Es rfl (Es rfl (Es rfl (Ey rfl ((Y.pkt rfl rfl).yd) (Eu (E.ct rfl (Ew Z1 (Eas rfl rfl ?_)))))))))))))))))))
  exact Eu (E.ret (E.thr (Fb rfl rfl (by grind [a3i, a1D, d1, d2, t1, t2]))))
end Go.Proofs.YtdopeopehgdccaaGreat
