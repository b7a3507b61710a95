import Derived.Test.YtbedienpleiamaaGreatT17
import Derived.Test.YtbedienpleiamaaGreatT11
import Derived.Test.YtbedienpleiamaaGreatT13
import Derived.Test.YtbedienpleiamaaGreatDy
import Derived.Test.YtbedienpleiamaaGreatBh
namespace Go.Proofs.YtbedienpleiamaaGreat
open Go.RowKit
set_option linter.all false
set_option maxHeartbeats 2000000
attribute [local irreducible] Nop Yd Yp Ent Has Tr FnP FnP2 Src O1 S7 W5 X5 I0
variable {a6 : List (Int × List Int)} {f5 : List Int} {r5 k6 o1 j0 : Nat} {l0 j3 : Option Addr}
theorem M8 (hz : E7 (fun x => x.2.length) a6 ≤ 1048576) : Tr Tryz.prog 60 [.agg #[.slice l0 r5 k6, .slice j3 o1 j0]] (fun w L => Ro w L eIs [.slice l0 r5 k6] f5 ∧ Ro w L j8 [.slice j3 o1 j0] a6) [] (κ := Option Addr × Nat × Nat) (fun k => True) (fun k => .slice k.1 k.2.1 k.2.2) (fun k => [ow eIs [.slice k.1 k.2.1 k.2.2] (c6 (fun t => inR t 0 9) a6)]) := by
 refine Tr.intro Tryz.func60 rfl (n := 6) rfl (by decide +kernel) bl (fr := [(0, .agg #[.slice l0 r5 k6, .slice j3 o1 j0])]) rfl fun w L hR => ?_
 obtain ⟨o6, l4⟩ := hR
 obtain ⟨rfl, F2⟩ := o6.slen
 obtain ⟨rfl, E0⟩ := l4.slen
 refine Ew Z2 (Est rfl (N.box (cs := [_, _]) rfl dc rfl) (fun b1 _ => (Ei rfl (Ev Z4 (Ey rfl ((i0 fo_Query_1 ty_Atoms dc rfl).yd) (Ey rfl (f9 ty_Atoms rfl (Hz m0 1 rfl) rfl) (Est rfl (N.call (a2f (is := (fun n => inR n 0 9)) (D_is := (fun _ => True)) fc (by intros; exact trivial)) rfl rfl rfl dc rfl (fun w Lp hA => ⟨hA.ro l4, a2n (D := (fun _ => True)) (RR := fun _ _ => True) (fun hd => b0d a0s (fun _ _ _ => trivial)) (fun w' hk => trivial)⟩)) (fun k5 _ => ?_))))))))
 obtain ⟨a5, m5, c5⟩ := k5
 refine d4 m0 fun e5 l5 => ?_
 subst e5
 refine Ei rfl (Eu (E.ret (i9 (congrArg (ow eIs [_]) (show _ = c6 (fun t => inR t 0 9) a6 by grind [d1, d2, t1, t2])) ?_)))
 exact Fg rfl rfl (_, _, _) rfl rfl
theorem a0I (hz : E7 (fun x => x.2.length) a6 ≤ 1048576) : Tr Tryz.prog 61 [.agg #[.slice l0 r5 k6, .slice j3 o1 j0]] (fun w L => Ro w L eIs [.slice l0 r5 k6] f5 ∧ Ro w L j8 [.slice j3 o1 j0] a6) [] (κ := Option Addr × Nat × Nat) (fun k => True) (fun k => .slice k.1 k.2.1 k.2.2) (fun k => [ow eIs [.slice k.1 k.2.1 k.2.2] (c6 (fun t => inR t 0 9) a6)]) := by
 refine Tr.intro Tryz.func61 rfl (n := 47) rfl (by decide +kernel) bl (fr := [(0, .agg #[.slice l0 r5 k6, .slice j3 o1 j0])]) rfl fun w L hR => ?_
 obtain ⟨o6, l4⟩ := hR
 obtain ⟨rfl, F2⟩ := o6.slen
 obtain ⟨rfl, E0⟩ := l4.slen
 have jv := l4.i64A
 refine Ew Z2 (Est rfl (N.box (cs := [_, _]) rfl dc rfl) (fun b1 _ => (Ei rfl (Ev Z2 (Est rfl (Nb [] [] us_Is f6 rfl rfl) (fun b6 _ => (Ent.drop (Ei rfl (Eu (Eq_ (Ew Z1 (Ei rfl (Eu (E.block (o2 (A := []) (Own.nil (E := Enc.int) (e := tI) (a := (some ⟨b6, 0, none⟩))) rfl (i9 (congrArg (ow eIs [_]) (show [] = G6 (((a6.take 0).flatMap (fun a : Int × List Int => a.2)).filter (fun t => inR t 0 9)) from by first | rfl | (simp; done) | grind [c6, O3, N8, d1, d2, t1, t2])) (E.loop (κ := Nat × Option Addr × Nat × Nat) (fun g => g.1 ≤ a6.length ∧ True) (fun g => [(1, .pointer (some ⟨b1, 0, none⟩)), (3, .slice g.2.1 g.2.2.1 g.2.2.2), (4, .int .i64 (↑g.1 : Int))]) (fun g => [ow eIs [.slice g.2.1 g.2.2.1 g.2.2.2] (G6 (((a6.take g.1).flatMap (fun a : Int × List Int => a.2)).filter (fun t => inR t 0 9))), pt b1 27 [.slice l0 f5.length k6, .slice j3 a6.length j0]]) (fun g => a6.length - g.1) (0, (some ⟨b6, 0, none⟩), 0, 0) ⟨Nat.zero_le _, by simp⟩ ⟨rfl, rfl, rfl, trivial⟩ (.refl _) (fun g pg => ?_))))))))))))))))))
 obtain ⟨g, aA0_0, mA0_0, cA0_0⟩ := g
 try dsimp only at pg
 try dsimp only
 obtain ⟨pk, pa⟩ := pg
 refine d4 m0 fun eaA0_0 laA0_0 => ?_
 subst eaA0_0
 refine Eq_ (Ew Z5 (Em rfl (Ey rfl ((i0 fo_Query_1 ty_Atoms dc rfl).yd) (Ey rfl (f9 ty_Atoms rfl (Hz (mS m0) 1 rfl) rfl) (Ey rfl ((Y.len us_Atoms rfl).yd) (Ey rfl ((Y.lss rfl rfl).yd) (n9 (fun q11 => ?_) (fun q11 => ?_))))))))
 ·refine Eu (o0 rfl (f8 (Et (Eq_ (E.block (Ew Z1 (Ei rfl (Eu (E.block (i9 (congrArg (ow eIs [_]) (show G6 (((a6.take g).flatMap (fun a : Int × List Int => a.2)).filter (fun t => inR t 0 9)) = G6 (((a6.take g).flatMap (fun a : Int × List Int => a.2)).filter (fun t => inR t 0 9) ++ (a6[g].2.take 0).filter (fun t => inR t 0 9)) from by first | rfl | (simp; done) | grind [c6, O3, N8, d1, d2, t1, t2])) (E.loop (κ := Nat × Option Addr × Nat × Nat) (fun h => h.1 ≤ a6[g].2.length ∧ True) (fun h => [(1, .pointer (some ⟨b1, 0, none⟩)), (3, .slice h.2.1 h.2.2.1 h.2.2.2), (4, .int .i64 (g : Int)), (5, .int .i64 (↑h.1 : Int))]) (fun h => [ow eIs [.slice h.2.1 h.2.2.1 h.2.2.2] (G6 (((a6.take g).flatMap (fun a : Int × List Int => a.2)).filter (fun t => inR t 0 9) ++ (a6[g].2.take h.1).filter (fun t => inR t 0 9))), pt b1 27 [.slice l0 f5.length k6, .slice j3 a6.length j0]]) (fun h => a6[g].2.length - h.1) (0, aA0_0, (G6 (((a6.take g).flatMap (fun a : Int × List Int => a.2)).filter (fun t => inR t 0 9))).length, cA0_0) ⟨Nat.zero_le _, by simp⟩ ⟨rfl, rfl, rfl, rfl, trivial⟩ (.refl _) (fun h ph => ?_))))))))))))
  obtain ⟨h, aA1_0, mA1_0, cA1_0⟩ := h
  try dsimp only at ph
  try dsimp only
  obtain ⟨pk, pa⟩ := ph
  have ju := a2w (is := (fun t => inR t 0 9)) (g := g) (h := h) hz om
  have jw := a3S (l := ((a6.take g).flatMap (fun a : Int × List Int => a.2)).filter (fun t => inR t 0 9) ++ (a6[g].2.take h).filter (fun t => inR t 0 9))
  refine d4 m0 fun eaA1_0 laA1_0 => ?_
  subst eaA1_0
  refine Eq_ (Ew Z9 (Em rfl (Ey rfl ((i0 fo_Query_1 ty_Atoms dc rfl).yd) (Ey rfl (f9 ty_Atoms rfl (Hz (mS m0) 1 rfl) rfl) (Em rfl ?_)))))
  obtain ⟨eb18, eo18, ec18, ea18, er18, el18, eh18⟩ := l4.elem g om
  obtain ⟨xa18_0, xc18_0, rfl, ei18_0, xh18_0⟩ := J0 er18
  have := xh18_0.slen.2
  refine Ey rfl ((t6 us_Atoms ty_Atom rfl ea18 rfl g rfl om).yd) (Ey rfl ((i0 fo_Atom_1 ty_Is dc rfl).yd) (Ey rfl (f9 ty_Is rfl ((eh18 _).sub (cs' := [_]) 1 rfl) rfl) (Ey rfl ((Y.len us_Is rfl).yd) (Ey rfl ((Y.lss rfl rfl).yd) (n9 (fun q22 => ?_) (fun q22 => ?_))))))
  ·refine Eu (o0 rfl (f8 (Et (Eq_ (E.block (Ew Z10 (Ey rfl ((i0 fo_Query_1 ty_Atoms dc rfl).yd) (Ey rfl (f9 ty_Atoms rfl (Hz (mS m0) 1 rfl) rfl) (Em rfl (Ey rfl ((t6 us_Atoms ty_Atom rfl ea18 rfl g rfl om).yd) (Ey rfl ((i0 fo_Atom_1 ty_Is dc rfl).yd) (Ey rfl (f9 ty_Is rfl ((eh18 _).sub (cs' := [_]) 1 rfl) rfl) (Em rfl ?_)))))))))))))
   obtain ⟨eb32, eo32, ea32, ei32, eh32⟩ := xh18_0.elemI h om
   refine Ey rfl ((t6 us_Is f6 rfl ea32 rfl h rfl om).yd) (Ey rfl (f9 f6 rfl (eh32 _) rfl) (Est rfl (m6 O6 rfl rfl rfl dc tv) (fun _ _ => (t7 (fun q34 => ?_) (fun q34 => ?_)))))
   ·refine Eu (o0 rfl (Ez Z12 (Em rfl (Ey rfl ((i0 fo_Query_1 ty_Atoms dc rfl).yd) (Ey rfl (f9 ty_Atoms rfl (Hz (mS m0) 1 rfl) rfl) (Em rfl (Ey rfl ((t6 us_Atoms ty_Atom rfl ea18 rfl g rfl om).yd) (Ey rfl ((i0 fo_Atom_1 ty_Is dc rfl).yd) (Ey rfl (f9 ty_Is rfl ((eh18 _).sub (cs' := [_]) 1 rfl) rfl) (Em rfl (Ey rfl ((t6 us_Is f6 rfl ea32 rfl h rfl om).yd) (Ey rfl (f9 f6 rfl (eh32 _) rfl) (Est rfl (N.call (pre := [_]) (a3g fc) rfl rfl rfl dc rfl (fun w Lp hA => ei32)) (fun k45 _ => ?_))))))))))))))
    obtain ⟨a45, m45, c45⟩ := k45
    refine d4 m0 fun e45 l45 => ?_
    subst e45
    refine Ei rfl (En (s4 (Et (Ez Z3 (Em rfl (Ey rfl ((Y.add rfl rfl om om).yd) (Ei rfl (Eu (i9 (congrArg (ow eIs [_]) (show K8 (G6 (((a6.take g).flatMap (fun a : Int × List Int => a.2)).filter (fun t => inR t 0 9) ++ (a6[g].2.take h).filter (fun t => inR t 0 9))) a6[g].2[h] = G6 (((a6.take g).flatMap (fun a : Int × List Int => a.2)).filter (fun t => inR t 0 9) ++ (a6[g].2.take (h + 1)).filter (fun t => inR t 0 9)) from by grind [c6, O3, N8, d1, d2, t1, t2])) (d7 (d7 ?_)))))))))))
    exact Ea (h + 1, a45, (K8 (G6 (((a6.take g).flatMap (fun a : Int × List Int => a.2)).filter (fun t => inR t 0 9) ++ (a6[g].2.take h).filter (fun t => inR t 0 9))) a6[g].2[h]).length, c45) ⟨oz, trivial⟩
   ·refine Eu (n0 rfl (f8 (s4 (Et (Ez Z3 (Em rfl (Ey rfl ((Y.add rfl rfl om om).yd) (Ei rfl (Eu (i9 (congrArg (ow eIs [_]) (show G6 (((a6.take g).flatMap (fun a : Int × List Int => a.2)).filter (fun t => inR t 0 9) ++ (a6[g].2.take h).filter (fun t => inR t 0 9)) = G6 (((a6.take g).flatMap (fun a : Int × List Int => a.2)).filter (fun t => inR t 0 9) ++ (a6[g].2.take (h + 1)).filter (fun t => inR t 0 9)) from by grind [c6, O3, N8, d1, d2, t1, t2])) (d7 (d7 ?_))))))))))))
    exact Ea (h + 1, aA1_0, (G6 (((a6.take g).flatMap (fun a : Int × List Int => a.2)).filter (fun t => inR t 0 9) ++ (a6[g].2.take h).filter (fun t => inR t 0 9))).length, cA1_0) ⟨oz, trivial⟩
  ·refine Eu (n0 rfl (E.exit (o3 (o3 (x5 (s4 (Et (Ez Z3 (Em rfl (Ey rfl ((Y.add rfl rfl om om).yd) (Ei rfl (Eu (i9 (congrArg (ow eIs [_]) (show G6 (((a6.take g).flatMap (fun a : Int × List Int => a.2)).filter (fun t => inR t 0 9) ++ (a6[g].2.take h).filter (fun t => inR t 0 9)) = G6 (((a6.take (g + 1)).flatMap (fun a : Int × List Int => a.2)).filter (fun t => inR t 0 9)) from by grind [c6, O3, N8, d1, d2, t1, t2])) (d7 (d7 ?_)))))))))))))))
   exact Ea (g + 1, aA1_0, (G6 (((a6.take g).flatMap (fun a : Int × List Int => a.2)).filter (fun t => inR t 0 9) ++ (a6[g].2.take h).filter (fun t => inR t 0 9))).length, cA1_0) ⟨oz, trivial⟩
 ·refine Eu (n0 rfl (E.exit (o3 (o3 (x5 (Et (Ew Z2 (Em rfl (Ei rfl (Eu (E.ret (i9 (congrArg (ow eIs [_]) (show _ = c6 (fun t => inR t 0 9) a6 by grind [c6, O3, N8, d1, d2, t1, t2])) ?_))))))))))))
  exact Fg rfl rfl (_, _, _) rfl rfl
theorem P4 {a_without : Option Addr} {m_without c_without : Nat} {without : List Int} (hz : E7 (fun x => x.2.length) a6 ≤ 1048576) (hu : ∀ x ∈ without, 0 ≤ x ∧ x ≤ 9) : Tr Tryz.prog 59 [.agg #[.slice l0 r5 k6, .slice j3 o1 j0], .slice a_without m_without c_without] (fun w L => Ro w L eIs [.slice l0 r5 k6] f5 ∧ Ro w L j8 [.slice j3 o1 j0] a6 ∧ Ro w L eIs [.slice a_without m_without c_without] without) [] (κ := (Option Addr × Nat × Nat) × (Option Addr × Nat × Nat) × (Option Addr × Nat × Nat)) (fun k => True) (fun k => .tuple #[.slice k.1.1 k.1.2.1 k.1.2.2, .agg #[.slice k.2.1.1 k.2.1.2.1 k.2.1.2.2, .slice k.2.2.1 k.2.2.2.1 k.2.2.2.2], .bool (fzB without a6)]) (fun k => [ow u5 [.slice k.1.1 k.1.2.1 k.1.2.2] (fzF without a6), ow eIs [.slice k.2.1.1 k.2.1.2.1 k.2.1.2.2] (fzV without a6), ow eIs [.slice k.2.2.1 k.2.2.2.1 k.2.2.2.2] (fzX without a6)]) := by
 refine Tr.intro Tryz.func59 rfl (n := 62) rfl (by decide +kernel) bl (fr := [(0, .agg #[.slice l0 r5 k6, .slice j3 o1 j0]), (1, .slice a_without m_without c_without)]) rfl fun w L hR => ?_
 obtain ⟨o6, l4, hwithout⟩ := hR
 obtain ⟨rfl, F2⟩ := o6.slen
 obtain ⟨rfl, E0⟩ := l4.slen
 obtain ⟨rfl, lwithout⟩ := hwithout.slen
 refine Ew Z4 (Est rfl (N.box (cs := [_, _]) rfl dc rfl) (fun b2 _ => (Ei rfl (Est rfl (N.alloc ty_Binding dc) (fun b5 _ => (Ei rfl (Ev Z3 (Ey rfl ((E9 (pvs := []) (cs := [_, _]) ty_Binding pl_Binding rfl rfl).yd) (Est rfl (N.alloc ty_Binding dc) (fun b7 _ => (Est rfl (Ns [_, _] ty_Binding rfl) (fun _ _ => (Ev Z1 (Ei rfl (Eu (Eq_ (Ew Z4 (Ey rfl (j6 (cs := [_, _]) ty_Query rfl (Has.pt (mS (mS m0))) rfl) (Est rfl (N.call (a2T fo) rfl rfl rfl dc rfl (fun w Lp hA => ⟨hA.ro o6, hA.ro l4⟩)) (fun k16 _ => ?_))))))))))))))))))))
 obtain ⟨a16, m16, c16⟩ := k16
 refine d4 m0 fun e16 l16 => ?_
 subst e16
 refine w9 (A := [_]) rfl fun wb1 Lb1 hB1 hA1 => ?_
 have o6 := hA1.ro o6
 have l4 := hA1.ro l4
 have hwithout := hA1.ro hwithout
 have rb1 : Ro wb1 Lb1 eIs [.slice a16 (c6 (fun t => inR t 10 17) a6).length c16] (c6 (fun t => inR t 10 17) a6) := hA1.ow m0
 refine Ey rfl ((Y.len us_Is rfl).yd) (Em rfl (Eu (E.block (o2 (A := []) (Own.nil (E := Enc.int) (e := tI) (a := none)) rfl (i9 (congrArg (ow eIs [_]) (show [] = (c6 (fun t => inR t 10 17) a6).take 0 from by first | rfl | (simp; done) | grind [G7, F9, F8, F7, fzN, B2, d1, d2, t1, t2])) (o2 (A := []) (Own.nil (E := Enc.int) (e := tI) (a := none)) rfl (i9 (congrArg (ow eIs [_]) (show [] = C4 (without) 0 from by first | rfl | (simp; done) | grind [G7, F9, F8, F7, fzN, B2, d1, d2, t1, t2])) (E.loop (κ := Nat × Option Addr × Nat × Nat × Option Addr × Nat × Nat) (fun g => g.1 ≤ (c6 (fun t => inR t 10 17) a6).length ∧ ∀ i, i < g.1 → E6 (without) (fzN (without) i) ≤ 9) (fun g => [(1, .slice a_without without.length c_without), (2, .pointer (some ⟨b2, 0, none⟩)), (5, .pointer (some ⟨b5, 0, none⟩)), (7, .pointer (some ⟨b7, 0, none⟩)), (8, .int .i64 (↑(fzN (without) g.1) : Int)), (16, .slice a16 (c6 (fun t => inR t 10 17) a6).length c16), (17, .int .i64 (↑((c6 (fun t => inR t 10 17) a6).length) : Int)), (18, .int .i64 (↑g.1 : Int))]) (fun g => [ow eIs [.slice g.2.2.2.2.1 g.2.2.2.2.2.1 g.2.2.2.2.2.2] (C4 (without) g.1), ow eIs [.slice g.2.1 g.2.2.1 g.2.2.2.1] ((c6 (fun t => inR t 10 17) a6).take g.1), pt b7 39 [.slice g.2.1 g.2.2.1 g.2.2.2.1, .slice g.2.2.2.2.1 g.2.2.2.2.2.1 g.2.2.2.2.2.2], pt b5 39 [.slice none 0 0, .slice none 0 0], pt b2 27 [.slice l0 f5.length k6, .slice j3 a6.length j0]]) (fun g => (c6 (fun t => inR t 10 17) a6).length - g.1) (0, none, 0, 0, none, 0, 0) ⟨Nat.zero_le _, by simp⟩ ⟨rfl, rfl, rfl, rfl, frI (by first | rfl | (simp; done) | grind [G7, F9, F8, F7, fzN, B2, d1, d2, t1, t2]), rfl, rfl, rfl, trivial⟩ (.refl _) (fun g pg => ?_)))))))))
 obtain ⟨g, aA0_1, mA0_1, cA0_1, aA0_2, mA0_2, cA0_2⟩ := g
 try dsimp only at pg
 try dsimp only
 obtain ⟨pk, pa⟩ := pg
 have pa0 := pa
 have jz := a8p pa
 have jl := a6F (l6 := a6)
 have jy := a0u (u := (without)) (n := g)
 have jp := List.length_take_le g (c6 (fun t => inR t 10 17) a6)
 refine d4 (mS m0) fun eaA0_1 laA0_1 => ?_
 subst eaA0_1
 refine d4 m0 fun eaA0_2 laA0_2 => ?_
 subst eaA0_2
 refine Ew Z1 (Ey rfl ((Y.lss rfl rfl).yd) (n9 (fun q19 => ?_) (fun q19 => ?_)))
 ·obtain ⟨eb20, eo20, ea20, ei20, eh20⟩ := rb1.elemI g om
  refine Eu (Eq_ (o0 rfl (f8 (Et (Eq_ (E.block (Ew Z3 (Ey rfl ((t6 us_Is f6 rfl ea20 rfl g rfl om).yd) (Ey rfl (f9 f6 rfl (eh20 _) rfl) (Ei rfl (Eu (Eq_ (E.block (E.loop (κ := Nat) (fun k => k ≤ 11 ∧ E6 (without) (fzN (without) g + k) = E6 (without) (fzN (without) g) ∧ fzN (without) g + k ≤ 10) (fun k => [(1, .slice a_without without.length c_without), (2, .pointer (some ⟨b2, 0, none⟩)), (5, .pointer (some ⟨b5, 0, none⟩)), (7, .pointer (some ⟨b7, 0, none⟩)), (8, .int .i64 (↑(fzN (without) g + k) : Int)), (10, .int .i64 ((c6 (fun t => inR t 10 17) a6)[g])), (16, .slice a16 (c6 (fun t => inR t 10 17) a6).length c16), (17, .int .i64 (↑((c6 (fun t => inR t 10 17) a6).length) : Int)), (18, .int .i64 (g : Int))]) (fun k => [ow eIs [.slice aA0_2 (C4 (without) g).length cA0_2] (C4 (without) g), ow eIs [.slice aA0_1 ((c6 (fun t => inR t 10 17) a6).take g).length cA0_1] ((c6 (fun t => inR t 10 17) a6).take g), pt b7 39 [.slice aA0_1 ((c6 (fun t => inR t 10 17) a6).take g).length cA0_1, .slice aA0_2 (C4 (without) g).length cA0_2], pt b5 39 [.slice none 0 0, .slice none 0 0], pt b2 27 [.slice l0 f5.length k6, .slice j3 a6.length j0]]) (fun k => 11 - k) (0) ⟨Nat.zero_le _, by exact ⟨rfl, by omega⟩⟩ ⟨rfl, rfl, rfl, rfl, frI (by first | rfl | (simp; done) | grind [G7, F9, F8, F7, fzN, B2, d1, d2, t1, t2]), rfl, rfl, rfl, rfl, trivial⟩ (.refl _) (fun k pk => ?_)))))))))))))))
  try dsimp only
  obtain ⟨pk, pa⟩ := pk
  refine Eq_ (Ew Z3 (Em rfl (Em rfl (Est rfl (m6 V6 rfl rfl rfl dc (fun w Lp hA => hA.ro hwithout)) (fun _ _ => (t7 (fun q24 => ?_) (fun q24 => ?_)))))))
  ·refine Eu (o0 rfl (f8 (Et (E.block (Ez Z3 (Em rfl (Ey rfl ((Y.add rfl rfl om om).yd) (Ei rfl ?_))))))))
   have j1 := a3E hu q24
   have j2 := a5M hu q24
   refine En (s4 (Et (i7 (i7 (i7 (i7 (i7 ?_)))))))
   exact x3 br (k + 1) ⟨rfl, rfl, rfl, rfl, frI (by grind [G7, F9, F8, F7, fzN, B2, d1, d2, t1, t2]), rfl, rfl, rfl, rfl, trivial⟩ (.refl _) ⟨oz, (show E6 (without) (fzN (without) g + (k + 1)) = E6 (without) (fzN (without) g) ∧ fzN (without) g + (k + 1) ≤ 10 from by exact ⟨j2.trans pa.1, by omega⟩)⟩ oz
  ·have jm := a4y q24
   have jn := pa.1
   refine Eu (n0 rfl (E.exit (o3 (o3 (x5 (Et (Eq_ (Ew Z3 (Em rfl (Est rfl (m6 a0s rfl rfl rfl dc tv) (fun _ _ => (t7 (fun q28 => ?_) (fun q28 => ?_)))))))))))))
   ·have j9 : E6 without (fzN without g) ≤ 9 := by simp only [inR, decide_eq_true_eq] at q28; omega
    refine Ey rfl ((Y.not (b := true) rfl).yd) (Eu (n0 rfl (f8 (Et (Eq_ (L5 (κ := (Option Addr × Nat) × (Option Addr × Nat)) (fun _ => True) (fun kM => [(1, .slice a_without without.length c_without), (2, .pointer (some ⟨b2, 0, none⟩)), (5, .pointer (some ⟨b5, 0, none⟩)), (7, .pointer (some ⟨b7, 0, none⟩)), (8, .int .i64 (↑(fzN (without) g + k) : Int)), (16, .slice a16 (c6 (fun t => inR t 10 17) a6).length c16), (17, .int .i64 (↑((c6 (fun t => inR t 10 17) a6).length) : Int)), (18, .int .i64 (g : Int))]) (fun kM => [pt b7 39 [.slice kM.1.1 (((c6 (fun t => inR t 10 17) a6).take g).length + 1) kM.1.2, .slice kM.2.1 ((C4 (without) g).length + 1) kM.2.2], ow eIs [.slice kM.2.1 ((C4 (without) g).length + 1) kM.2.2] ((C4 (without) g) ++ [(↑(fzN (without) g + k) : Int)]), ow eIs [.slice kM.1.1 (((c6 (fun t => inR t 10 17) a6).take g).length + 1) kM.1.2] (((c6 (fun t => inR t 10 17) a6).take g) ++ [(c6 (fun t => inR t 10 17) a6)[g]]), pt b5 39 [.slice none 0 0, .slice none 0 0], pt b2 27 [.slice l0 f5.length k6, .slice j3 a6.length j0]]) ?_ (fun kM _ => ?_)))))))
    ·refine D5 [b7, b5, b2] (fun j => !(Nat.beq j 11) && !(Nat.beq j 13)) mixed (t8 0 rfl rfl dc (i0 fo_Binding_0 ty_Is dc rfl) kr (G1 1 rfl rfl dc (K4 ty_Is rfl ((D7.pt (mS (mS m0)) (by simp)).sub (cs' := [_]) 0 rfl) rfl) kr (t8 2 rfl rfl dc (i8 rfl) kr (t8 5 rfl rfl dc (i0 fo_Binding_1 ty_Is dc rfl) kr (G1 6 rfl rfl dc (K4 ty_Is rfl ((D7.pt (mS (mS m0)) (by simp)).sub (cs' := [_]) 1 rfl) rfl) kr (t8 7 rfl rfl dc (i8 rfl) kr (x4 (i := 3) (j := 8) kr ?_ ?_)))))))
     ·refine D3 3 rfl rfl (fun _ _ => SameI.out) (Nb [_] [_] us_Is f6 rfl rfl) (fun b34 _ => (x4 (i := 4) (j := 8) kr ?_ ?_))
      ·refine g9 (D3 4 rfl rfl (fun _ _ => SameI.out) (v7 (E := Enc.int) (ex := (c6 (fun t => inR t 10 17) a6)[g]) us_Is f6 rfl rfl rfl (Own.int ei20) rfl bn bn dc) (fun p35 _ => (t8 10 rfl rfl dc (i0 fo_Binding_0 ty_Is dc rfl) kr (x2 8 rfl rfl kr (fun _ _ => SameI.out) (Nb [_] [_] us_Is f6 rfl rfl) (fun b39 _ => (g9 (x2 9 rfl rfl kr (fun _ _ => SameI.out) (v7 (E := Enc.int) (ex := (↑(fzN (without) g + k) : Int)) us_Is f6 rfl rfl rfl (Own.int i6) rfl bn bn dc) (fun p40 _ => (g9 (x2 11 rfl rfl kr (fun h => by cases h) (Ns [_, _] ty_Is rfl) (fun _ _ => (t8 12 rfl rfl dc (i0 fo_Binding_1 ty_Is dc rfl) kr (x2 13 rfl rfl kr (fun h => by cases h) (Ns [_, _] ty_Is rfl) (fun _ _ => (E8 kr (i7 (i7 (i7 (i7 (i7 ?_))))))))))))))))))))
       exact E3 (p35, p40) trivial ⟨rfl, rfl, rfl, rfl, rfl, rfl, rfl, rfl, trivial⟩ (.refl _)
      ·refine D3 8 rfl rfl (fun _ _ => SameI.out) (Nb [_] [_] us_Is f6 rfl rfl) (fun b39 _ => (d7 (l3 (x2 4 rfl rfl kr (fun _ _ => SameI.out) (v7 (E := Enc.int) (ex := (c6 (fun t => inR t 10 17) a6)[g]) us_Is f6 rfl rfl rfl (Own.int ei20) rfl bn bn dc) (fun p35 _ => (t8 10 rfl rfl dc (i0 fo_Binding_0 ty_Is dc rfl) kr (d7 (g9 (x2 9 rfl rfl kr (fun _ _ => SameI.out) (v7 (E := Enc.int) (ex := (↑(fzN (without) g + k) : Int)) us_Is f6 rfl rfl rfl (Own.int i6) rfl bn bn dc) (fun p40 _ => (g9 (x2 11 rfl rfl kr (fun h => by cases h) (Ns [_, _] ty_Is rfl) (fun _ _ => (t8 12 rfl rfl dc (i0 fo_Binding_1 ty_Is dc rfl) kr (x2 13 rfl rfl kr (fun h => by cases h) (Ns [_, _] ty_Is rfl) (fun _ _ => (E8 kr (i7 (i7 (i7 (i7 (i7 ?_))))))))))))))))))))))
       exact E3 (p35, p40) trivial ⟨rfl, rfl, rfl, rfl, rfl, rfl, rfl, rfl, trivial⟩ (.refl _)
     ·refine D3 8 rfl rfl (fun _ _ => SameI.out) (Nb [_] [_] us_Is f6 rfl rfl) (fun b39 _ => (x2 3 rfl rfl kr (fun _ _ => SameI.out) (Nb [_] [_] us_Is f6 rfl rfl) (fun b34 _ => (l3 (x2 4 rfl rfl kr (fun _ _ => SameI.out) (v7 (E := Enc.int) (ex := (c6 (fun t => inR t 10 17) a6)[g]) us_Is f6 rfl rfl rfl (Own.int ei20) rfl bn bn dc) (fun p35 _ => (t8 10 rfl rfl dc (i0 fo_Binding_0 ty_Is dc rfl) kr (d7 (g9 (x2 9 rfl rfl kr (fun _ _ => SameI.out) (v7 (E := Enc.int) (ex := (↑(fzN (without) g + k) : Int)) us_Is f6 rfl rfl rfl (Own.int i6) rfl bn bn dc) (fun p40 _ => (g9 (x2 11 rfl rfl kr (fun h => by cases h) (Ns [_, _] ty_Is rfl) (fun _ _ => (t8 12 rfl rfl dc (i0 fo_Binding_1 ty_Is dc rfl) kr (x2 13 rfl rfl kr (fun h => by cases h) (Ns [_, _] ty_Is rfl) (fun _ _ => (E8 kr (i7 (i7 (i7 (i7 (i7 ?_)))))))))))))))))))))))
      exact E3 (p35, p40) trivial ⟨rfl, rfl, rfl, rfl, rfl, rfl, rfl, rfl, trivial⟩ (.refl _)
    ·obtain ⟨p35, p40⟩ := kM
     try dsimp only
     refine Et (Ez Z3 (Em rfl (Ey rfl ((Y.add rfl rfl om om).yd) (Ei rfl (En (s4 (Et (Ez Z2 (Ey rfl ((Y.add rfl rfl om om).yd) (Em rfl (Eu (g9 (i9 (congrArg (ow eIs [_]) (show ((c6 (fun t => inR t 10 17) a6).take g) ++ [(c6 (fun t => inR t 10 17) a6)[g]] = (c6 (fun t => inR t 10 17) a6).take (g + 1) from by grind [G7, F9, F8, F7, fzN, B2, d1, d2, t1, t2])) (g9 (i9 (congrArg (ow eIs [_]) (show (C4 (without) g) ++ [(↑(fzN (without) g + k) : Int)] = C4 (without) (g + 1) from by grind [G7, F9, F8, F7, fzN, B2, d1, d2, t1, t2])) (i7 (i7 (i7 (i7 (i7 ?_))))))))))))))))))))
     exact x3 br (g + 1, p35.1, (((c6 (fun t => inR t 10 17) a6).take g).length + 1), p35.2, p40.1, ((C4 (without) g).length + 1), p40.2) ⟨rfl, rfl, rfl, rfl, frI (by grind [G7, F9, F8, F7, fzN, B2, d1, d2, t1, t2]), rfl, rfl, rfl, trivial⟩ (.refl _) ⟨oz, (show ∀ i, i < (g + 1) → E6 (without) (fzN (without) i) ≤ 9 from by exact a7B pa0 om)⟩ oz
   ·have jb : fzB without a6 = false := a6R (i := g) (show g < (w8 a6).length by unfold w8; omega) (by simp only [inR, decide_eq_false_iff_not] at q28; omega)
    refine Ey rfl ((Y.not (b := false) rfl).yd) (Eu (o0 rfl (Ew Z4 (Ey rfl ((E9 (pvs := []) (cs := [_, _]) ty_Binding pl_Binding rfl rfl).yd) (Ei rfl (l3 (Est rfl (Ns [_, _] ty_Binding rfl) (fun _ _ => (Ei rfl (Eu (E.ret (o4 (B0 (o4 (o4 (B0 (o4 (o2 (A := []) (Own.nil (E := Enc.int) (e := tI) (a := none)) rfl (i9 (congrArg (ow eIs [_]) (show _ = fzX without a6 by first | (simp only [fzF, fzV, fzX, jb, cond_false]; done) | (simp only [fzF, fzV, fzX, jb, cond_true]; unfold w8; rw [← jg]; done) | (simp only [fzF, fzV, fzX, jb, cond_true]; unfold w8; rw [← jg]; grind [List.take_of_length_le]) | (simp only [fzF, fzV, fzX, jb, cond_true]; unfold w8; rw [jg]; grind [List.take_of_length_le]))) (o2 (A := []) (Own.nil (E := Enc.int) (e := tI) (a := none)) rfl (i9 (congrArg (ow eIs [_]) (show _ = fzV without a6 by first | (simp only [fzF, fzV, fzX, jb, cond_false]; done) | (simp only [fzF, fzV, fzX, jb, cond_true]; unfold w8; rw [← jg]; done) | (simp only [fzF, fzV, fzX, jb, cond_true]; unfold w8; rw [← jg]; grind [List.take_of_length_le]) | (simp only [fzF, fzV, fzX, jb, cond_true]; unfold w8; rw [jg]; grind [List.take_of_length_le]))) (o2 (A := []) (Own.nil (E := G0) (e := tFact) (a := none)) rfl (i9 (congrArg (ow u5 [_]) (show _ = fzF without a6 by first | (simp only [fzF, fzV, fzX, jb, cond_false]; done) | (simp only [fzF, fzV, fzX, jb, cond_true]; unfold w8; rw [← jg]; done) | (simp only [fzF, fzV, fzX, jb, cond_true]; unfold w8; rw [← jg]; grind [List.take_of_length_le]) | (simp only [fzF, fzV, fzX, jb, cond_true]; unfold w8; rw [jg]; grind [List.take_of_length_le]))) (g9 (g9 (g9 ?_))))))))))))))))))))))))))
    exact a1s hB1 rfl rfl rfl rfl (mS (mS (mS m0))) ty_Binding rfl ((none, 0, 0), (none, 0, 0), (none, 0, 0)) trivial (by rw [show (fzB without a6) = (false) from (by first | (simp only [fzF, fzV, fzX, jb, cond_false]; done) | (simp only [fzF, fzV, fzX, jb, cond_true]; unfold w8; rw [← jg]; done) | (simp only [fzF, fzV, fzX, jb, cond_true]; unfold w8; rw [← jg]; grind [List.take_of_length_le]) | (simp only [fzF, fzV, fzX, jb, cond_true]; unfold w8; rw [jg]; grind [List.take_of_length_le]))]; try rfl) (J := _) (.refl _) (.inl rfl)
 ·have jb : fzB without a6 = true := a3e (fun i hi => pa i (by unfold w8 at hi; omega))
  have jg : g = (c6 (fun t => inR t 10 17) a6).length := by omega
  refine Eu (Eq_ (n0 rfl (E.exit (o3 (o3 (x5 (Et (Ew Z2 (Est rfl (Nb [] [] us_Facts ty_Fact rfl rfl) (fun b46 _ => (Ent.drop (Ei rfl (Eu (Eq_ (Ew Z4 (Ey rfl ((i0 fo_Query_1 ty_Atoms dc rfl).yd) (Ey rfl (f9 ty_Atoms rfl (Hz (mS (mS (mS (mS m0)))) 1 rfl) rfl) (Ey rfl ((Y.len us_Atoms rfl).yd) (Em rfl (Eu (E.block (o2 (A := []) (Own.nil (E := G0) (e := tFact) (a := (some ⟨b46, 0, none⟩))) rfl (i9 (congrArg (ow u5 [_]) (show [] = K6 (a6.take 0) ((c6 (fun t => inR t 10 17) a6).take g, C4 without g) from by first | rfl | (simp; done) | grind [G7, F9, F8, F7, fzN, B2, d1, d2, t1, t2])) (E.loop (κ := Nat × Option Addr × Nat × Nat) (fun r => r.1 ≤ a6.length ∧ True) (fun r => [(5, .pointer (some ⟨b5, 0, none⟩)), (7, .pointer (some ⟨b7, 0, none⟩)), (11, .slice r.2.1 r.2.2.1 r.2.2.2), (48, .slice j3 a6.length j0), (49, .int .i64 (↑a6.length : Int)), (50, .int .i64 (↑r.1 : Int))]) (fun r => [ow u5 [.slice r.2.1 r.2.2.1 r.2.2.2] (K6 (a6.take r.1) ((c6 (fun t => inR t 10 17) a6).take g, C4 without g)), ow eIs [.slice aA0_2 (C4 (without) g).length cA0_2] (C4 (without) g), ow eIs [.slice aA0_1 ((c6 (fun t => inR t 10 17) a6).take g).length cA0_1] ((c6 (fun t => inR t 10 17) a6).take g), pt b7 39 [.slice aA0_1 ((c6 (fun t => inR t 10 17) a6).take g).length cA0_1, .slice aA0_2 (C4 (without) g).length cA0_2], pt b5 39 [.slice none 0 0, .slice none 0 0], pt b2 27 [.slice l0 f5.length k6, .slice j3 a6.length j0]]) (fun r => a6.length - r.1) (0, (some ⟨b46, 0, none⟩), 0, 0) ⟨Nat.zero_le _, by simp⟩ ⟨rfl, rfl, rfl, rfl, rfl, rfl, trivial⟩ (.refl _) (fun r pr => ?_)))))))))))))))))))))))))
  obtain ⟨r, aA2_0, mA2_0, cA2_0⟩ := r
  try dsimp only at pr
  try dsimp only
  obtain ⟨pk, pa⟩ := pr
  have jo := a5e (l6 := a6.take r) (b := ((c6 (fun t => inR t 10 17) a6).take g, C4 without g))
  have jq := List.length_take_le r a6
  have jt := U1 hz
  have ju2 : a6.length ≤ 1048576 := by unfold E7 at hz; omega
  refine d4 m0 fun eaA2_0 laA2_0 => ?_
  subst eaA2_0
  refine Ew Z1 (Ey rfl ((Y.lss rfl rfl).yd) (n9 (fun q51 => ?_) (fun q51 => ?_)))
  ·obtain ⟨eb52, eo52, ec52, ea52, er52, el52, eh52⟩ := l4.elem r om
   obtain ⟨xa52_0, xc52_0, rfl, ei52_0, xh52_0⟩ := J0 er52
   have := xh52_0.slen.2
   refine Eu (Eq_ (o0 rfl (f8 (Et (Eq_ (E.block (Ew Z4 (Ey rfl ((t6 us_Atoms ty_Atom rfl ea52 rfl r rfl om).yd) (Ey rfl (j6 (cs := [_, _]) ty_Atom rfl (eh52 _) rfl) (Est rfl (N.alloc ty_Atom dc) (fun b13 _ => (Est rfl (Ns [_, _] ty_Atom rfl) (fun _ _ => (Eu (Ez Z6 (Em rfl (Ey rfl (j6 (cs := [_, _]) ty_Atom rfl (Has.pt m0) rfl) (Ey rfl (j6 (cs := [_, _]) ty_Binding rfl (Has.pt (mS (mS (mS (mS m0))))) rfl) (Est rfl (N.call (a2R (jt _ (List.getElem_mem om))) rfl rfl rfl dc rfl (fun w Lp hA => ⟨ei52_0, hA.ro xh52_0, hA.ow (mS (mS (mS m0))), hA.ow (mS (mS m0))⟩)) (fun k57 _ => ?_))))))))))))))))))))
   obtain ⟨a57, m57, c57⟩ := k57
   refine d4 m0 fun e57 l57 => ?_
   subst e57
   refine g9 (Est rfl (N.call (pre := [_]) (a6y om (by simp only [B2, List.length_map]; exact jt _ (List.getElem_mem om))) rfl rfl rfl dc rfl (fun w Lp hA => ⟨i6, hA.ow m0⟩)) (fun k58 _ => ?_))
   obtain ⟨a58, m58, c58⟩ := k58
   refine d4 m0 fun e58 l58 => ?_
   subst e58
   refine Ei rfl (En (s4 (Et (Ez Z2 (Ey rfl ((Y.add rfl rfl om om).yd) (Em rfl (Eu (d7 (Ent.drop (d7 (Ent.drop (i9 (congrArg (ow u5 [_]) (show D1 (K6 (a6.take r) ((c6 (fun t => inR t 10 17) a6).take g, C4 without g)) (((B2 a6[r] (((c6 (fun t => inR t 10 17) a6).take g), (C4 (without) g))).1), ((B2 a6[r] (((c6 (fun t => inR t 10 17) a6).take g), (C4 (without) g))).2)) = K6 (a6.take (r + 1)) ((c6 (fun t => inR t 10 17) a6).take g, C4 without g) from by grind [G7, F9, F8, F7, fzN, B2, d1, d2, t1, t2])) (n8 (n8 (n8 (n8 (n8 (n8 ?_))))))))))))))))))
   exact Ea (r + 1, a58, (D1 (K6 (a6.take r) ((c6 (fun t => inR t 10 17) a6).take g, C4 without g)) (((B2 a6[r] (((c6 (fun t => inR t 10 17) a6).take g), (C4 (without) g))).1), ((B2 a6[r] (((c6 (fun t => inR t 10 17) a6).take g), (C4 (without) g))).2))).length, c58) ⟨oz, trivial⟩
  ·refine Eu (Eq_ (n0 rfl (E.exit (o3 (o3 (x5 (Et (Eq_ (D.region (fun j => !(Nat.beq j 3)) mixed (Dyp 0 rfl (i8 rfl) (Dy 1 rfl (j6 (cs := [_, _]) ty_Binding rfl (Has.pt (mS (mS (mS m0)))) rfl) (Dyp 2 rfl (C0 rfl) (i7 (r8 3 rfl rfl kr (fun h => by cases h) (Ns [_, _] ty_Binding rfl) (fun _ _ => (Dyp 4 rfl (C0 rfl) (r7 kr (Et (E.ret (g9 (i9 (congrArg (ow eIs [_]) (show _ = fzX without a6 by first | (simp only [fzF, fzV, fzX, jb, cond_false]; done) | (simp only [fzF, fzV, fzX, jb, cond_true]; unfold w8; rw [← jg]; done) | (simp only [fzF, fzV, fzX, jb, cond_true]; unfold w8; rw [← jg]; grind [List.take_of_length_le]) | (simp only [fzF, fzV, fzX, jb, cond_true]; unfold w8; rw [jg]; grind [List.take_of_length_le]))) (l3 (i9 (congrArg (ow eIs [_]) (show _ = fzV without a6 by first | (simp only [fzF, fzV, fzX, jb, cond_false]; done) | (simp only [fzF, fzV, fzX, jb, cond_true]; unfold w8; rw [← jg]; done) | (simp only [fzF, fzV, fzX, jb, cond_true]; unfold w8; rw [← jg]; grind [List.take_of_length_le]) | (simp only [fzF, fzV, fzX, jb, cond_true]; unfold w8; rw [jg]; grind [List.take_of_length_le]))) (l3 (i9 (congrArg (ow u5 [_]) (show _ = fzF without a6 by first | (simp only [fzF, fzV, fzX, jb, cond_false]; done) | (simp only [fzF, fzV, fzX, jb, cond_true]; unfold w8; rw [← jg]; done) | (simp only [fzF, fzV, fzX, jb, cond_true]; unfold w8; rw [← jg]; grind [List.take_of_length_le]) | (simp only [fzF, fzV, fzX, jb, cond_true]; unfold w8; rw [jg]; grind [List.take_of_length_le]))) (g9 (g9 (g9 ?_))))))))))))))))))))))))))))
   exact a1s hB1 rfl rfl rfl rfl (mS (mS (mS m0))) ty_Binding rfl ((_, _, _), (_, _, _), (_, _, _)) trivial (by rw [show (fzB without a6) = (true) from (by first | (simp only [fzF, fzV, fzX, jb, cond_false]; done) | (simp only [fzF, fzV, fzX, jb, cond_true]; unfold w8; rw [← jg]; done) | (simp only [fzF, fzV, fzX, jb, cond_true]; unfold w8; rw [← jg]; grind [List.take_of_length_le]) | (simp only [fzF, fzV, fzX, jb, cond_true]; unfold w8; rw [jg]; grind [List.take_of_length_le]))]; try rfl) (J := _) (.refl _) (.inl rfl)
theorem a3h (hz : E7 (fun x => x.2.length) a6 ≤ 1048576) : Tr Tryz.prog 14 [.agg #[.slice l0 r5 k6, .slice j3 o1 j0]] (fun w L => Ro w L eIs [.slice l0 r5 k6] f5 ∧ Ro w L j8 [.slice j3 o1 j0] a6) [] (κ := (Option Addr × Nat × Nat) × (Option Addr × Nat × Nat) × (Option Addr × Nat × Nat)) (fun k => True) (fun k => .tuple #[.slice k.1.1 k.1.2.1 k.1.2.2, .agg #[.slice k.2.1.1 k.2.1.2.1 k.2.1.2.2, .slice k.2.2.1 k.2.2.2.1 k.2.2.2.2], .bool (fzB (c6 (fun t => inR t 0 9) a6) a6)]) (fun k => [ow u5 [.slice k.1.1 k.1.2.1 k.1.2.2] (fzF (c6 (fun t => inR t 0 9) a6) a6), ow eIs [.slice k.2.1.1 k.2.1.2.1 k.2.1.2.2] (fzV (c6 (fun t => inR t 0 9) a6) a6), ow eIs [.slice k.2.2.1 k.2.2.2.1 k.2.2.2.2] (fzX (c6 (fun t => inR t 0 9) a6) a6)]) := by
 refine Tr.intro Tryz.func14 rfl (n := 12) rfl (by decide +kernel) bl (fr := [(0, .agg #[.slice l0 r5 k6, .slice j3 o1 j0])]) rfl fun w L hR => ?_
 obtain ⟨o6, l4⟩ := hR
 obtain ⟨rfl, F2⟩ := o6.slen
 obtain ⟨rfl, E0⟩ := l4.slen
 refine Ew Z4 (Est rfl (N.box (cs := [_, _]) rfl dc rfl) (fun b1 _ => (Ei rfl (Est rfl (N.alloc ty_Binding dc) (fun b3 _ => (Ei rfl (Eu (Eq_ (D.region (fun j => !(Nat.beq j 8)) mixed (Dy 0 rfl (j6 (cs := [_, _]) ty_Query rfl (Has.pt (mS m0)) rfl) (Dy 1 rfl (j6 (cs := [_, _]) ty_Query rfl (Has.pt (mS m0)) rfl) (r8 2 rfl rfl kr (fun _ => rfl) (N.call (M8 fo) rfl rfl rfl dc rfl (fun w Lp hA => ⟨hA.ro o6, hA.ro l4⟩)) (fun k7 _ => ?_)))))))))))))
 obtain ⟨a7, m7, c7⟩ := k7
 refine d4 m0 fun e7 l7 => ?_
 subst e7
 refine r8 3 rfl rfl kr (fun _ => rfl) (N.call (P4 fo (a0x (l6 := a6))) rfl rfl rfl dc rfl (fun w Lp hA => ⟨hA.ro o6, hA.ro l4, hA.ow m0⟩)) (fun k8 _ => ?_)
 obtain ⟨⟨a8_0, m8_0, c8_0⟩, ⟨a8_1, m8_1, c8_1⟩, ⟨a8_2, m8_2, c8_2⟩⟩ := k8
 refine d4 m0 fun e8_0 l8_0 => ?_
 subst e8_0
 refine d4 (mS m0) fun e8_1 l8_1 => ?_
 subst e8_1
 refine d4 (mS (mS m0)) fun e8_2 l8_2 => ?_
 subst e8_2
 refine Dyp 4 rfl (Y.ext rfl rfl) (Dyp 5 rfl (Y.ext rfl rfl) (Dyp 6 rfl (Y.ext rfl rfl) (Dyp 7 rfl (C0 rfl) (i7 (r8 8 rfl rfl kr (fun h => by cases h) (Ns [_, _] ty_Binding rfl) (fun _ _ => (Dyp 9 rfl (C0 rfl) (r7 kr (Et (E.ret (l3 (l3 (l3 (g9 (g9 (g9 ?_))))))))))))))))
 exact a1s br rfl rfl rfl rfl (mS (mS (mS m0))) ty_Binding rfl ((_, _, _), (_, _, _), (_, _, _)) trivial rfl (J := _) (.refl _) (.inl rfl)
theorem a0J (hz : E7 (fun x => x.2.length) a6 ≤ 1048576) : Tr Tryz.prog 15 [.agg #[.slice l0 r5 k6, .slice j3 o1 j0]] (fun w L => Ro w L eIs [.slice l0 r5 k6] f5 ∧ Ro w L j8 [.slice j3 o1 j0] a6) [] (κ := (Option Addr × Nat × Nat) × (Option Addr × Nat × Nat) × (Option Addr × Nat × Nat)) (fun k => True) (fun k => .tuple #[.slice k.1.1 k.1.2.1 k.1.2.2, .agg #[.slice k.2.1.1 k.2.1.2.1 k.2.1.2.2, .slice k.2.2.1 k.2.2.2.1 k.2.2.2.2], .bool (fzB (c6 (fun t => inR t 0 9) a6) a6)]) (fun k => [ow u5 [.slice k.1.1 k.1.2.1 k.1.2.2] (fzF (c6 (fun t => inR t 0 9) a6) a6), ow eIs [.slice k.2.1.1 k.2.1.2.1 k.2.1.2.2] (fzV (c6 (fun t => inR t 0 9) a6) a6), ow eIs [.slice k.2.2.1 k.2.2.2.1 k.2.2.2.2] (fzX (c6 (fun t => inR t 0 9) a6) a6)]) := by
 refine Tr.intro Tryz.func15 rfl (n := 90) rfl (by decide +kernel) bl (fr := [(0, .agg #[.slice l0 r5 k6, .slice j3 o1 j0])]) rfl fun w L hR => ?_
 obtain ⟨o6, l4⟩ := hR
 obtain ⟨rfl, F2⟩ := o6.slen
 obtain ⟨rfl, E0⟩ := l4.slen
 have hu : ∀ x ∈ c6 (fun t => inR t 0 9) a6, 0 ≤ x ∧ x ≤ 9 := a0x (l6 := a6)
 have jv := l4.i64A
 refine Ew Z4 (Est rfl (N.box (cs := [_, _]) rfl dc rfl) (fun b1 _ => (Ei rfl (Est rfl (N.alloc ty_Binding dc) (fun b3 _ => (Ei rfl (Ev Z3 (Ey rfl (j6 (cs := [_, _]) ty_Query rfl (Has.pt (mS m0)) rfl) (Est rfl (N.call (a0I fo) rfl rfl rfl dc rfl (fun w Lp hA => ⟨hA.ro o6, hA.ro l4⟩)) (fun k15 _ => ?_))))))))))
 obtain ⟨a15, m15, c15⟩ := k15
 refine d4 m0 fun e15 l15 => ?_
 subst e15
 refine w9 (A := [_]) rfl fun wb2 Lb2 hB2 hA2 => ?_
 have o6 := hA2.ro o6
 have l4 := hA2.ro l4
 have rb2 : Ro wb2 Lb2 eIs [.slice a15 (c6 (fun t => inR t 0 9) a6).length c15] (c6 (fun t => inR t 0 9) a6) := hA2.ow m0
 refine Ei rfl (Ev Z3 (Ey rfl (j6 (cs := [_, _]) ty_Query rfl (Has.pt (mS m0)) rfl) (Est rfl (N.call (a0Q fo) rfl rfl rfl dc rfl (fun w Lp hA => ⟨hA.ro o6, hA.ro l4⟩)) (fun k17 _ => ?_))))
 obtain ⟨a17, m17, c17⟩ := k17
 refine d4 m0 fun e17 l17 => ?_
 subst e17
 refine w9 (A := [_]) rfl fun wb3 Lb3 hB3 hA3 => ?_
 have o6 := hA3.ro o6
 have l4 := hA3.ro l4
 have rb2 := hA3.ro rb2
 have rb3 : Ro wb3 Lb3 eIs [.slice a17 (c6 (fun t => inR t 10 17) a6).length c17] (c6 (fun t => inR t 10 17) a6) := hA3.ow m0
 refine Ei rfl (Ev Z3 (Ey rfl ((E9 (pvs := []) (cs := [_, _]) ty_Binding pl_Binding rfl rfl).yd) (Est rfl (N.alloc ty_Binding dc) (fun b7 _ => (Est rfl (Ns [_, _] ty_Binding rfl) (fun _ _ => (Ev Z1 (Ei rfl (Eu (Eq_ (Ew Z1 (Ei rfl (Eu (E.block (o2 (A := []) (Own.nil (E := Enc.int) (e := tI) (a := none)) rfl (i9 (congrArg (ow eIs [_]) (show [] = (c6 (fun t => inR t 10 17) a6).take 0 from by first | rfl | (simp; done) | grind [G7, F9, F8, F7, fzN, B2, d1, d2, t1, t2])) (o2 (A := []) (Own.nil (E := Enc.int) (e := tI) (a := none)) rfl (i9 (congrArg (ow eIs [_]) (show [] = C4 (c6 (fun t => inR t 0 9) a6) 0 from by first | rfl | (simp; done) | grind [G7, F9, F8, F7, fzN, B2, d1, d2, t1, t2])) (E.loop (κ := Nat × Option Addr × Nat × Nat × Option Addr × Nat × Nat) (fun g => g.1 ≤ (c6 (fun t => inR t 10 17) a6).length ∧ ∀ i, i < g.1 → E6 (c6 (fun t => inR t 0 9) a6) (fzN (c6 (fun t => inR t 0 9) a6) i) ≤ 9) (fun g => [(1, .pointer (some ⟨b1, 0, none⟩)), (3, .pointer (some ⟨b3, 0, none⟩)), (5, .slice a15 (c6 (fun t => inR t 0 9) a6).length c15), (6, .slice a17 (c6 (fun t => inR t 10 17) a6).length c17), (7, .pointer (some ⟨b7, 0, none⟩)), (8, .int .i64 (↑(fzN (c6 (fun t => inR t 0 9) a6) g.1) : Int)), (9, .int .i64 (↑g.1 : Int))]) (fun g => [ow eIs [.slice g.2.2.2.2.1 g.2.2.2.2.2.1 g.2.2.2.2.2.2] (C4 (c6 (fun t => inR t 0 9) a6) g.1), ow eIs [.slice g.2.1 g.2.2.1 g.2.2.2.1] ((c6 (fun t => inR t 10 17) a6).take g.1), pt b7 39 [.slice g.2.1 g.2.2.1 g.2.2.2.1, .slice g.2.2.2.2.1 g.2.2.2.2.2.1 g.2.2.2.2.2.2], pt b3 39 [.slice none 0 0, .slice none 0 0], pt b1 27 [.slice l0 f5.length k6, .slice j3 a6.length j0]]) (fun g => (c6 (fun t => inR t 10 17) a6).length - g.1) (0, none, 0, 0, none, 0, 0) ⟨Nat.zero_le _, by simp⟩ ⟨rfl, rfl, rfl, rfl, rfl, frI (by first | rfl | (simp; done) | grind [G7, F9, F8, F7, fzN, B2, d1, d2, t1, t2]), rfl, trivial⟩ (.refl _) (fun g pg => ?_))))))))))))))))))))
 obtain ⟨g, aA0_1, mA0_1, cA0_1, aA0_2, mA0_2, cA0_2⟩ := g
 try dsimp only at pg
 try dsimp only
 obtain ⟨pk, pa⟩ := pg
 have pa0 := pa
 have jz := a8p pa
 have jl := a6F (l6 := a6)
 have jy := a0u (u := (c6 (fun t => inR t 0 9) a6)) (n := g)
 have jp := List.length_take_le g (c6 (fun t => inR t 10 17) a6)
 refine d4 (mS m0) fun eaA0_1 laA0_1 => ?_
 subst eaA0_1
 refine d4 m0 fun eaA0_2 laA0_2 => ?_
 subst eaA0_2
 refine Eq_ (Ew Z4 (Em rfl (Em rfl (Ey rfl ((Y.len us_Is rfl).yd) (Ey rfl ((Y.lss rfl rfl).yd) (n9 (fun q22 => ?_) (fun q22 => ?_)))))))
 ·refine Eu (o0 rfl (f8 (Et (Eq_ (E.block (Eq_ (E.block (E.loop (κ := Nat) (fun k => k ≤ 11 ∧ E6 (c6 (fun t => inR t 0 9) a6) (fzN (c6 (fun t => inR t 0 9) a6) g + k) = E6 (c6 (fun t => inR t 0 9) a6) (fzN (c6 (fun t => inR t 0 9) a6) g) ∧ fzN (c6 (fun t => inR t 0 9) a6) g + k ≤ 10) (fun k => [(1, .pointer (some ⟨b1, 0, none⟩)), (3, .pointer (some ⟨b3, 0, none⟩)), (5, .slice a15 (c6 (fun t => inR t 0 9) a6).length c15), (6, .slice a17 (c6 (fun t => inR t 10 17) a6).length c17), (7, .pointer (some ⟨b7, 0, none⟩)), (8, .int .i64 (↑(fzN (c6 (fun t => inR t 0 9) a6) g + k) : Int)), (9, .int .i64 (g : Int))]) (fun k => [ow eIs [.slice aA0_2 (C4 (c6 (fun t => inR t 0 9) a6) g).length cA0_2] (C4 (c6 (fun t => inR t 0 9) a6) g), ow eIs [.slice aA0_1 ((c6 (fun t => inR t 10 17) a6).take g).length cA0_1] ((c6 (fun t => inR t 10 17) a6).take g), pt b7 39 [.slice aA0_1 ((c6 (fun t => inR t 10 17) a6).take g).length cA0_1, .slice aA0_2 (C4 (c6 (fun t => inR t 0 9) a6) g).length cA0_2], pt b3 39 [.slice none 0 0, .slice none 0 0], pt b1 27 [.slice l0 f5.length k6, .slice j3 a6.length j0]]) (fun k => 11 - k) (0) ⟨Nat.zero_le _, by exact ⟨rfl, by omega⟩⟩ ⟨rfl, rfl, rfl, rfl, rfl, frI (by first | rfl | (simp; done) | grind [G7, F9, F8, F7, fzN, B2, d1, d2, t1, t2]), rfl, trivial⟩ (.refl _) (fun k pk => ?_)))))))))
  try dsimp only
  obtain ⟨pk, pa⟩ := pk
  refine Eq_ (Ew Z3 (Em rfl (Em rfl (Est rfl (m6 a1g rfl rfl rfl dc (fun w Lp hA => hA.ro rb2)) (fun _ _ => (t7 (fun q27 => ?_) (fun q27 => ?_)))))))
  ·refine Eu (o0 rfl (f8 (Et (E.block (Ez Z3 (Em rfl (Ey rfl ((Y.add rfl rfl om om).yd) (Ei rfl ?_))))))))
   have j1 := a3E hu q27
   have j2 := a5M hu q27
   refine En (s4 (Et (i7 (i7 (i7 (i7 (i7 ?_)))))))
   exact x3 br (k + 1) ⟨rfl, rfl, rfl, rfl, rfl, frI (by grind [G7, F9, F8, F7, fzN, B2, d1, d2, t1, t2]), rfl, trivial⟩ (.refl _) ⟨oz, (show E6 (c6 (fun t => inR t 0 9) a6) (fzN (c6 (fun t => inR t 0 9) a6) g + (k + 1)) = E6 (c6 (fun t => inR t 0 9) a6) (fzN (c6 (fun t => inR t 0 9) a6) g) ∧ fzN (c6 (fun t => inR t 0 9) a6) g + (k + 1) ≤ 10 from by exact ⟨j2.trans pa.1, by omega⟩)⟩ oz
  ·have jm := a4y q27
   have jn := pa.1
   refine Eu (n0 rfl (E.exit (o3 (o3 (x5 (Et (Eq_ (Ew Z2 (Em rfl (Ey rfl ((Y.gtr rfl rfl).yd) (n9 (fun q31 => ?_) (fun q31 => ?_))))))))))))
   ·have jb : fzB (c6 (fun t => inR t 0 9) a6) a6 = false := a6R (i := g) (show g < (w8 a6).length by unfold w8; omega) om
    refine Eu (o0 rfl (Ew Z5 (Est rfl (Nb [] [] us_Facts ty_Fact rfl rfl) (fun b32 _ => (Ent.drop (Ey rfl ((E9 (pvs := []) (cs := [_, _]) ty_Binding pl_Binding rfl rfl).yd) (Ei rfl (l3 (Est rfl (Ns [_, _] ty_Binding rfl) (fun _ _ => (Ei rfl (Eu (E.ret (o4 (B0 (o4 (o4 (B0 (o4 (o2 (A := []) (Own.nil (E := Enc.int) (e := tI) (a := none)) rfl (i9 (congrArg (ow eIs [_]) (show _ = fzX (c6 (fun t => inR t 0 9) a6) a6 by first | (simp only [fzF, fzV, fzX, jb, cond_false]; done) | (simp only [fzF, fzV, fzX, jb, cond_true]; unfold w8; rw [← jg]; done) | (simp only [fzF, fzV, fzX, jb, cond_true]; unfold w8; rw [← jg]; grind [List.take_of_length_le]) | (simp only [fzF, fzV, fzX, jb, cond_true]; unfold w8; rw [jg]; grind [List.take_of_length_le]))) (o2 (A := []) (Own.nil (E := Enc.int) (e := tI) (a := none)) rfl (i9 (congrArg (ow eIs [_]) (show _ = fzV (c6 (fun t => inR t 0 9) a6) a6 by first | (simp only [fzF, fzV, fzX, jb, cond_false]; done) | (simp only [fzF, fzV, fzX, jb, cond_true]; unfold w8; rw [← jg]; done) | (simp only [fzF, fzV, fzX, jb, cond_true]; unfold w8; rw [← jg]; grind [List.take_of_length_le]) | (simp only [fzF, fzV, fzX, jb, cond_true]; unfold w8; rw [jg]; grind [List.take_of_length_le]))) (o2 (A := []) (Own.nil (E := G0) (e := tFact) (a := (some ⟨b32, 0, none⟩))) rfl (i9 (congrArg (ow u5 [_]) (show _ = fzF (c6 (fun t => inR t 0 9) a6) a6 by first | (simp only [fzF, fzV, fzX, jb, cond_false]; done) | (simp only [fzF, fzV, fzX, jb, cond_true]; unfold w8; rw [← jg]; done) | (simp only [fzF, fzV, fzX, jb, cond_true]; unfold w8; rw [← jg]; grind [List.take_of_length_le]) | (simp only [fzF, fzV, fzX, jb, cond_true]; unfold w8; rw [jg]; grind [List.take_of_length_le]))) (g9 (g9 (g9 ?_))))))))))))))))))))))))))))
    exact a1s (hB2.comp hB3) rfl rfl rfl rfl (mS (mS (mS m0))) ty_Binding rfl (((some ⟨b32, 0, none⟩), 0, 0), (none, 0, 0), (none, 0, 0)) trivial (by rw [show (fzB (c6 (fun t => inR t 0 9) a6) a6) = (false) from (by first | (simp only [fzF, fzV, fzX, jb, cond_false]; done) | (simp only [fzF, fzV, fzX, jb, cond_true]; unfold w8; rw [← jg]; done) | (simp only [fzF, fzV, fzX, jb, cond_true]; unfold w8; rw [← jg]; grind [List.take_of_length_le]) | (simp only [fzF, fzV, fzX, jb, cond_true]; unfold w8; rw [jg]; grind [List.take_of_length_le]))]; try rfl) (J := _) (.refl _) (.inl rfl)
   ·have j9 : E6 (c6 (fun t => inR t 0 9) a6) (fzN (c6 (fun t => inR t 0 9) a6) g) ≤ 9 := by omega
    refine Eu (n0 rfl (f8 (Et (Eq_ (D.region (fun j => !(Nat.beq j 7)) mixed (Dy 0 rfl (j6 (cs := [_, _]) ty_Binding rfl (Has.pt (mS (mS m0))) rfl) (Dyp 1 rfl (i8 rfl) (Dyp 2 rfl (i8 rfl) ?_))))))))
    obtain ⟨eb37, eo37, ea37, ei37, eh37⟩ := rb3.elemI g om
    refine Dyp 3 rfl (t6 us_Is f6 rfl ea37 rfl g rfl om) (Dy 4 rfl (f9 f6 rfl (eh37 _) rfl) (Dyp 5 rfl (i8 rfl) (r8 6 rfl rfl kr (fun _ => rfl) (N.call (a2N (by simp only [List.length_take, a0u]; omega) (by simp only [List.length_take, a0u]; omega)) rfl rfl rfl dc rfl (fun w Lp hA => ⟨hA.ow (mS m0), hA.ow m0, ei37, i6⟩)) (fun k40 _ => ?_))))
    obtain ⟨⟨a40_0, m40_0, c40_0⟩, ⟨a40_1, m40_1, c40_1⟩⟩ := k40
    refine d4 m0 fun e40_0 l40_0 => ?_
    subst e40_0
    refine d4 (mS m0) fun e40_1 l40_1 => ?_
    subst e40_1
    refine i7 (r8 7 rfl rfl kr (fun h => by cases h) (Ns [_, _] ty_Binding rfl) (fun _ _ => (r7 kr (Et (Ez Z3 (Em rfl (Ey rfl ((Y.add rfl rfl om om).yd) (Ei rfl (En (s4 (Et (Ez Z3 (Em rfl (Ey rfl ((Y.add rfl rfl om om).yd) (Ei rfl (Eu (l3 (Ent.drop (l3 (Ent.drop (d7 (i9 (congrArg (ow eIs [_]) (show ((c6 (fun t => inR t 10 17) a6).take g) ++ [((c6 (fun t => inR t 10 17) a6)[g])] = (c6 (fun t => inR t 10 17) a6).take (g + 1) from by grind [G7, F9, F8, F7, fzN, B2, d1, d2, t1, t2])) (g9 (i9 (congrArg (ow eIs [_]) (show (C4 (c6 (fun t => inR t 0 9) a6) g) ++ [(↑(fzN (c6 (fun t => inR t 0 9) a6) g + k) : Int)] = C4 (c6 (fun t => inR t 0 9) a6) (g + 1) from by grind [G7, F9, F8, F7, fzN, B2, d1, d2, t1, t2])) (i7 (i7 (i7 (i7 (i7 ?_)))))))))))))))))))))))))))))
    exact x3 br (g + 1, a40_0, (((c6 (fun t => inR t 10 17) a6).take g) ++ [((c6 (fun t => inR t 10 17) a6)[g])]).length, c40_0, a40_1, ((C4 (c6 (fun t => inR t 0 9) a6) g) ++ [(↑(fzN (c6 (fun t => inR t 0 9) a6) g + k) : Int)]).length, c40_1) ⟨rfl, rfl, rfl, rfl, rfl, frI (by grind [G7, F9, F8, F7, fzN, B2, d1, d2, t1, t2]), rfl, trivial⟩ (.refl _) ⟨oz, (show ∀ i, i < (g + 1) → E6 (c6 (fun t => inR t 0 9) a6) (fzN (c6 (fun t => inR t 0 9) a6) i) ≤ 9 from by exact a7B pa0 om)⟩ oz
 ·have jfr := a9E pa
  have jb : fzB (c6 (fun t => inR t 0 9) a6) a6 = true := a3e (fun i hi => pa i (by unfold w8 at hi; omega))
  have jg : g = (c6 (fun t => inR t 10 17) a6).length := by omega
  refine Eu (n0 rfl (E.exit (o3 (o3 (x5 (Et (Ew Z2 (Est rfl (Nb [] [] us_Facts ty_Fact rfl rfl) (fun b43 _ => (Ent.drop (Ei rfl (Eu (Eq_ (Ew Z1 (Ei rfl (Eu (E.block (o2 (A := []) (Own.nil (E := G0) (e := tFact) (a := (some ⟨b43, 0, none⟩))) rfl (i9 (congrArg (ow u5 [_]) (show [] = K6 (a6.take 0) ((c6 (fun t => inR t 10 17) a6).take g, C4 (c6 (fun t => inR t 0 9) a6) g) from by first | rfl | (simp; done) | grind [G7, F9, F8, F7, fzN, B2, d1, d2, t1, t2])) (E.loop (κ := Nat × Option Addr × Nat × Nat) (fun r => r.1 ≤ a6.length ∧ True) (fun r => [(1, .pointer (some ⟨b1, 0, none⟩)), (3, .pointer (some ⟨b3, 0, none⟩)), (7, .pointer (some ⟨b7, 0, none⟩)), (10, .slice r.2.1 r.2.2.1 r.2.2.2), (11, .int .i64 (↑r.1 : Int))]) (fun r => [ow u5 [.slice r.2.1 r.2.2.1 r.2.2.2] (K6 (a6.take r.1) ((c6 (fun t => inR t 10 17) a6).take g, C4 (c6 (fun t => inR t 0 9) a6) g)), ow eIs [.slice aA0_2 (C4 (c6 (fun t => inR t 0 9) a6) g).length cA0_2] (C4 (c6 (fun t => inR t 0 9) a6) g), ow eIs [.slice aA0_1 ((c6 (fun t => inR t 10 17) a6).take g).length cA0_1] ((c6 (fun t => inR t 10 17) a6).take g), pt b7 39 [.slice aA0_1 ((c6 (fun t => inR t 10 17) a6).take g).length cA0_1, .slice aA0_2 (C4 (c6 (fun t => inR t 0 9) a6) g).length cA0_2], pt b3 39 [.slice none 0 0, .slice none 0 0], pt b1 27 [.slice l0 f5.length k6, .slice j3 a6.length j0]]) (fun r => a6.length - r.1) (0, (some ⟨b43, 0, none⟩), 0, 0) ⟨Nat.zero_le _, by simp⟩ ⟨rfl, rfl, rfl, rfl, rfl, trivial⟩ (.refl _) (fun r pr => ?_)))))))))))))))))))))
  obtain ⟨r, aA2_0, mA2_0, cA2_0⟩ := r
  try dsimp only at pr
  try dsimp only
  obtain ⟨pk, pa⟩ := pr
  have jo := a5e (l6 := a6.take r) (b := ((c6 (fun t => inR t 10 17) a6).take g, C4 (c6 (fun t => inR t 0 9) a6) g))
  have jq := List.length_take_le r a6
  have jt := U1 hz
  have ju2 : a6.length ≤ 1048576 := by unfold E7 at hz; omega
  refine d4 m0 fun eaA2_0 laA2_0 => ?_
  subst eaA2_0
  refine Eq_ (Ew Z5 (Em rfl (Ey rfl ((i0 fo_Query_1 ty_Atoms dc rfl).yd) (Ey rfl (f9 ty_Atoms rfl ((Has.pt (mS (mS (mS (mS (mS m0)))))).sub (cs' := [_]) 1 rfl) rfl) (Ey rfl ((Y.len us_Atoms rfl).yd) (Ey rfl ((Y.lss rfl rfl).yd) (n9 (fun q48 => ?_) (fun q48 => ?_))))))))
  ·refine Eu (o0 rfl (f8 (Et (Eq_ (E.block (Ew Z9 (Ey rfl ((i0 fo_Query_1 ty_Atoms dc rfl).yd) (Ey rfl (f9 ty_Atoms rfl ((Has.pt (mS (mS (mS (mS (mS m0)))))).sub (cs' := [_]) 1 rfl) rfl) (Em rfl ?_)))))))))
   obtain ⟨eb54, eo54, ec54, ea54, er54, el54, eh54⟩ := l4.elem r om
   obtain ⟨xa54_0, xc54_0, rfl, ei54_0, xh54_0⟩ := J0 er54
   have := xh54_0.slen.2
   refine Ey rfl ((t6 us_Atoms ty_Atom rfl ea54 rfl r rfl om).yd) (Ey rfl ((i0 fo_Atom_0 f6 dc rfl).yd) (Ey rfl (f9 f6 rfl ((eh54 _).sub (cs' := [_]) 0 rfl) rfl) (Ey rfl ((E9 (pvs := [_]) (cs := [_, _]) ty_Fact a0z rfl rfl).yd) (Est rfl (N.alloc ty_Fact dc) (fun b12 _ => (Est rfl (Ns [_, _] ty_Fact rfl) (fun _ _ => (Eu (Eq_ (Ew Z1 (Ei rfl (Eu (E.block (o2 (A := []) (Own.nil (E := Enc.int) (e := tI) (a := none)) rfl (i9 (congrArg (ow eIs [_]) (show [] = (a6[r].2.take 0).map (u6 ((c6 (fun t => inR t 10 17) a6).take g, C4 (c6 (fun t => inR t 0 9) a6) g)) from by first | rfl | (simp; done) | grind [G7, F9, F8, F7, fzN, B2, d1, d2, t1, t2])) (E.loop (κ := Nat × Option Addr × Nat × Nat) (fun h => h.1 ≤ a6[r].2.length ∧ True) (fun h => [(1, .pointer (some ⟨b1, 0, none⟩)), (3, .pointer (some ⟨b3, 0, none⟩)), (7, .pointer (some ⟨b7, 0, none⟩)), (10, .slice aA2_0 (K6 (a6.take r) ((c6 (fun t => inR t 10 17) a6).take g, C4 (c6 (fun t => inR t 0 9) a6) g)).length cA2_0), (11, .int .i64 (r : Int)), (12, .pointer (some ⟨b12, 0, none⟩)), (13, .int .i64 (↑h.1 : Int))]) (fun h => [ow eIs [.slice h.2.1 h.2.2.1 h.2.2.2] ((a6[r].2.take h.1).map (u6 ((c6 (fun t => inR t 10 17) a6).take g, C4 (c6 (fun t => inR t 0 9) a6) g))), pt b12 83 [.int .i64 a6[r].1, .slice h.2.1 h.2.2.1 h.2.2.2], ow u5 [.slice aA2_0 (K6 (a6.take r) ((c6 (fun t => inR t 10 17) a6).take g, C4 (c6 (fun t => inR t 0 9) a6) g)).length cA2_0] (K6 (a6.take r) ((c6 (fun t => inR t 10 17) a6).take g, C4 (c6 (fun t => inR t 0 9) a6) g)), ow eIs [.slice aA0_2 (C4 (c6 (fun t => inR t 0 9) a6) g).length cA0_2] (C4 (c6 (fun t => inR t 0 9) a6) g), ow eIs [.slice aA0_1 ((c6 (fun t => inR t 10 17) a6).take g).length cA0_1] ((c6 (fun t => inR t 10 17) a6).take g), pt b7 39 [.slice aA0_1 ((c6 (fun t => inR t 10 17) a6).take g).length cA0_1, .slice aA0_2 (C4 (c6 (fun t => inR t 0 9) a6) g).length cA0_2], pt b3 39 [.slice none 0 0, .slice none 0 0], pt b1 27 [.slice l0 f5.length k6, .slice j3 a6.length j0]]) (fun h => a6[r].2.length - h.1) (0, none, 0, 0) ⟨Nat.zero_le _, by simp⟩ ⟨rfl, rfl, rfl, rfl, rfl, rfl, rfl, trivial⟩ (.refl _) (fun h ph => ?_)))))))))))))))))
   obtain ⟨h, aA3_0, mA3_0, cA3_0⟩ := h
   try dsimp only at ph
   try dsimp only
   obtain ⟨pk, pa⟩ := ph
   have jt1 := jt a6[r] (List.getElem_mem om)
   refine d4 m0 fun eaA3_0 laA3_0 => ?_
   subst eaA3_0
   refine Eq_ (Ew Z9 (Em rfl (Ey rfl ((i0 fo_Query_1 ty_Atoms dc rfl).yd) (Ey rfl (f9 ty_Atoms rfl ((Has.pt (mS (mS (mS (mS (mS (mS (mS m0)))))))).sub (cs' := [_]) 1 rfl) rfl) (Em rfl (Ey rfl ((t6 us_Atoms ty_Atom rfl ea54 rfl r rfl om).yd) (Ey rfl ((i0 fo_Atom_1 ty_Is dc rfl).yd) (Ey rfl (f9 ty_Is rfl ((eh54 _).sub (cs' := [_]) 1 rfl) rfl) (Ey rfl ((Y.len us_Is rfl).yd) (Ey rfl ((Y.lss rfl rfl).yd) (n9 (fun q66 => ?_) (fun q66 => ?_))))))))))))
   ·have jx := a2E (b := ((c6 (fun t => inR t 10 17) a6).take g, C4 (c6 (fun t => inR t 0 9) a6) g)) ((jv a6[r] (List.getElem_mem om)).2 a6[r].2[h] (List.getElem_mem om)) jfr
    refine Eu (o0 rfl (f8 (Et (Eq_ (E.block (D.region (fun j => !(Nat.beq j 14) && !(Nat.beq j 16)) mixed (Dyp 0 rfl (i0 fo_Fact_1 ty_Is dc rfl) (Dy 1 rfl (f9 ty_Is rfl (Hz (mS m0) 1 rfl) rfl) (Dy 2 rfl (j6 (cs := [_, _]) ty_Binding rfl (Has.pt (mS (mS (mS (mS (mS m0)))))) rfl) (Dyp 3 rfl (i0 fo_Query_1 ty_Atoms dc rfl) (Dy 4 rfl (f9 ty_Atoms rfl ((Has.pt (mS (mS (mS (mS (mS (mS (mS m0)))))))).sub (cs' := [_]) 1 rfl) rfl) (Dyp 5 rfl (i8 rfl) (Dyp 6 rfl (t6 us_Atoms ty_Atom rfl ea54 rfl r rfl om) (Dyp 7 rfl (i0 fo_Atom_1 ty_Is dc rfl) (Dy 8 rfl (f9 ty_Is rfl ((eh54 _).sub (cs' := [_]) 1 rfl) rfl) (Dyp 9 rfl (i8 rfl) ?_))))))))))))))))
    obtain ⟨eb79, eo79, ea79, ei79, eh79⟩ := xh54_0.elemI h om
    refine Dyp 10 rfl (t6 us_Is f6 rfl ea79 rfl h rfl om) (Dy 11 rfl (f9 f6 rfl (eh79 _) rfl) (r8 12 rfl rfl kr (fun _ => rfl) (m6 T4 rfl rfl rfl dc (fun w Lp hA => ⟨hA.ow (mS (mS (mS (mS m0)))), hA.ow (mS (mS (mS m0)))⟩)) (fun _ _ => (r8 13 rfl rfl kr (fun _ => rfl) (Nb [_] [_] us_Is f6 rfl rfl) (fun b82 _ => (d7 (r8 14 rfl rfl kr (fun h => by cases h) (v7 (E := Enc.int) (ex := u6 (((c6 (fun t => inR t 10 17) a6).take g), (C4 (c6 (fun t => inR t 0 9) a6) g)) a6[r].2[h]) us_Is f6 rfl rfl rfl (Own.int i6) rfl bn bn dc) (fun p83 _ => (Dyp 15 rfl (i0 fo_Fact_1 ty_Is dc rfl) (d7 (r8 16 rfl rfl kr (fun h => by cases h) (Ns [_, _] ty_Is rfl) (fun _ _ => (r7 kr (s4 (Et (Ez Z3 (Em rfl (Ey rfl ((Y.add rfl rfl om om).yd) (Ei rfl (Eu (d7 (i9 (congrArg (ow eIs [_]) (show ((a6[r].2.take h).map (u6 ((c6 (fun t => inR t 10 17) a6).take g, C4 (c6 (fun t => inR t 0 9) a6) g))) ++ [u6 (((c6 (fun t => inR t 10 17) a6).take g), (C4 (c6 (fun t => inR t 0 9) a6) g)) a6[r].2[h]] = (a6[r].2.take (h + 1)).map (u6 ((c6 (fun t => inR t 10 17) a6).take g, C4 (c6 (fun t => inR t 0 9) a6) g)) from by grind [G7, F9, F8, F7, fzN, B2, d1, d2, t1, t2])) (K9 (K9 (K9 (K9 (K9 (K9 (K9 (K9 ?_))))))))))))))))))))))))))))))
    exact Ea (h + 1, p83.1, (((a6[r].2.take h).map (u6 ((c6 (fun t => inR t 10 17) a6).take g, C4 (c6 (fun t => inR t 0 9) a6) g))).length + 1), p83.2) ⟨oz, trivial⟩
   ·refine Eu (n0 rfl (E.exit (o3 (o3 (x5 (Et (Ez Z4 (Em rfl (Ey rfl (j6 (cs := [_, _]) ty_Fact rfl (Has.pt (mS m0)) rfl) (Est rfl (N.call (a2b om (b0w jt) (by simp only [List.length_map, List.length_take]; have := jt a6[r] (List.getElem_mem om); omega)) rfl rfl rfl dc rfl (fun w Lp hA => ⟨hA.ow (mS (mS m0)), ei54_0, hA.ow m0⟩)) (fun k87 _ => ?_)))))))))))
    obtain ⟨a87, m87, c87⟩ := k87
    refine d4 m0 fun e87 l87 => ?_
    subst e87
    refine Ei rfl (En (s4 (Et (Ez Z3 (Em rfl (Ey rfl ((Y.add rfl rfl om om).yd) (Ei rfl (Eu (d7 (Ent.drop (d7 (Ent.drop (d7 (Ent.drop (i9 (congrArg (ow u5 [_]) (show D1 (K6 (a6.take r) ((c6 (fun t => inR t 10 17) a6).take g, C4 (c6 (fun t => inR t 0 9) a6) g)) (a6[r].1, ((a6[r].2.take h).map (u6 ((c6 (fun t => inR t 10 17) a6).take g, C4 (c6 (fun t => inR t 0 9) a6) g)))) = K6 (a6.take (r + 1)) ((c6 (fun t => inR t 10 17) a6).take g, C4 (c6 (fun t => inR t 0 9) a6) g) from by grind [G7, F9, F8, F7, fzN, B2, d1, d2, t1, t2])) (n8 (n8 (n8 (n8 (n8 (n8 ?_)))))))))))))))))))))
    exact Ea (r + 1, a87, (D1 (K6 (a6.take r) ((c6 (fun t => inR t 10 17) a6).take g, C4 (c6 (fun t => inR t 0 9) a6) g)) (a6[r].1, ((a6[r].2.take h).map (u6 ((c6 (fun t => inR t 10 17) a6).take g, C4 (c6 (fun t => inR t 0 9) a6) g))))).length, c87) ⟨oz, trivial⟩
  ·refine Eu (n0 rfl (E.exit (o3 (o3 (x5 (Et (Eq_ (D.region (fun j => !(Nat.beq j 3)) mixed (Dyp 0 rfl (i8 rfl) (Dy 1 rfl (j6 (cs := [_, _]) ty_Binding rfl (Has.pt (mS (mS (mS m0)))) rfl) (Dyp 2 rfl (C0 rfl) (i7 (r8 3 rfl rfl kr (fun h => by cases h) (Ns [_, _] ty_Binding rfl) (fun _ _ => (Dyp 4 rfl (C0 rfl) (r7 kr (Et (E.ret (g9 (i9 (congrArg (ow eIs [_]) (show _ = fzX (c6 (fun t => inR t 0 9) a6) a6 by first | (simp only [fzF, fzV, fzX, jb, cond_false]; done) | (simp only [fzF, fzV, fzX, jb, cond_true]; unfold w8; rw [← jg]; done) | (simp only [fzF, fzV, fzX, jb, cond_true]; unfold w8; rw [← jg]; grind [List.take_of_length_le]) | (simp only [fzF, fzV, fzX, jb, cond_true]; unfold w8; rw [jg]; grind [List.take_of_length_le]))) (l3 (i9 (congrArg (ow eIs [_]) (show _ = fzV (c6 (fun t => inR t 0 9) a6) a6 by first | (simp only [fzF, fzV, fzX, jb, cond_false]; done) | (simp only [fzF, fzV, fzX, jb, cond_true]; unfold w8; rw [← jg]; done) | (simp only [fzF, fzV, fzX, jb, cond_true]; unfold w8; rw [← jg]; grind [List.take_of_length_le]) | (simp only [fzF, fzV, fzX, jb, cond_true]; unfold w8; rw [jg]; grind [List.take_of_length_le]))) (l3 (i9 (congrArg (ow u5 [_]) (show _ = fzF (c6 (fun t => inR t 0 9) a6) a6 by first | (simp only [fzF, fzV, fzX, jb, cond_false]; done) | (simp only [fzF, fzV, fzX, jb, cond_true]; unfold w8; rw [← jg]; done) | (simp only [fzF, fzV, fzX, jb, cond_true]; unfold w8; rw [← jg]; grind [List.take_of_length_le]) | (simp only [fzF, fzV, fzX, jb, cond_true]; unfold w8; rw [jg]; grind [List.take_of_length_le]))) (g9 (g9 (g9 ?_)))))))))))))))))))))))))))
   exact a1s (hB2.comp hB3) rfl rfl rfl rfl (mS (mS (mS m0))) ty_Binding rfl ((_, _, _), (_, _, _), (_, _, _)) trivial (by rw [show (fzB (c6 (fun t => inR t 0 9) a6) a6) = (true) from (by first | (simp only [fzF, fzV, fzX, jb, cond_false]; done) | (simp only [fzF, fzV, fzX, jb, cond_true]; unfold w8; rw [← jg]; done) | (simp only [fzF, fzV, fzX, jb, cond_true]; unfold w8; rw [← jg]; grind [List.take_of_length_le]) | (simp only [fzF, fzV, fzX, jb, cond_true]; unfold w8; rw [jg]; grind [List.take_of_length_le]))]; try rfl) (J := _) (.refl _) (.inl rfl)
end Go.Proofs.YtbedienpleiamaaGreat
