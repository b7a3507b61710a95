import Derived.Test.YtlfhopooaejpfaaGreatT17
import Derived.Test.YtlfhopooaejpfaaGreatT11
import Derived.Test.YtlfhopooaejpfaaGreatT15
import Derived.Test.YtlfhopooaejpfaaGreatBh
namespace Go.Proofs.YtlfhopooaejpfaaGreat
open Go.RowKit
set_option linter.all false
set_option maxHeartbeats 2000000
attribute [local irreducible] Nop Yd Yp Ent Has Tr FnP FnP2 Src o6 d7 O0 a0h H2
variable {a6 : List (Int × List Int)} {i9 : List Int} {y9 u9 w9 t7 : Nat} {v6 t8 : Option Addr}
theorem a0R (hz : K2 (fun x => x.2.length) a6 ≤ 1048576) : Tr Tryz.prog 93 [.agg #[.slice v6 y9 u9, .slice t8 w9 t7]] (fun w L => Ro w L eIs [.slice v6 y9 u9] i9 ∧ Ro w L H9 [.slice t8 w9 t7] a6) [] (κ := Option Addr × Nat × Nat) (fun k => True) (fun k => .slice k.1 k.2.1 k.2.2) (fun k => [ow eIs [.slice k.1 k.2.1 k.2.2] (f0 (fun t => inR t 0 9) a6)]) := by
 refine Tr.intro Tryz.func93 rfl (n := 6) rfl (by decide +kernel) bl (fr := [(0, .agg #[.slice v6 y9 u9, .slice t8 w9 t7])]) rfl fun w L hR => ?_
 obtain ⟨w7, u6⟩ := hR
 obtain ⟨rfl, P6⟩ := w7.slen
 obtain ⟨rfl, M4⟩ := u6.slen
 refine Ew Z2 (Est rfl (N.box (cs := [_, _]) rfl dc rfl) (fun b1 _ => (Ei rfl (Ev Z4 (Ey rfl ((i8 fo_Query_1 ty_Atoms dc rfl).yd) (Ey rfl (g9 ty_Atoms rfl (Hz m0 1 rfl) rfl) (Est rfl (N.call (a5V (is := (fun n => inR n 0 9)) (D_is := (fun _ => True)) fc (by intros; exact trivial)) rfl rfl rfl dc rfl (fun w Lp hA => ⟨hA.ro u6, a3R (D := (fun _ => True)) (RR := fun _ _ => True) (fun hd => b8B a2u (fun _ _ _ => trivial)) (fun w' hk => trivial)⟩)) (fun k5 _ => ?_))))))))
 obtain ⟨a5, m5, c5⟩ := k5
 refine d6 m0 fun e5 l5 => ?_
 subst e5
 refine Ei rfl (Eu (E.ret (f6 (congrArg (ow eIs [_]) (show _ = f0 (fun t => inR t 0 9) a6 by grind [d1, d2, t1, t2])) ?_)))
 exact Fg rfl rfl (_, _, _) rfl rfl
theorem a3W (hz : K2 (fun x => x.2.length) a6 ≤ 1048576) : Tr Tryz.prog 98 [.agg #[.slice v6 y9 u9, .slice t8 w9 t7]] (fun w L => Ro w L eIs [.slice v6 y9 u9] i9 ∧ Ro w L H9 [.slice t8 w9 t7] a6) [] (κ := Option Addr × Nat × Nat) (fun k => True) (fun k => .slice k.1 k.2.1 k.2.2) (fun k => [ow eIs [.slice k.1 k.2.1 k.2.2] (f0 (fun t => inR t 0 9) a6)]) := by
 refine Tr.intro Tryz.func98 rfl (n := 47) rfl (by decide +kernel) bl (fr := [(0, .agg #[.slice v6 y9 u9, .slice t8 w9 t7])]) rfl fun w L hR => ?_
 obtain ⟨w7, u6⟩ := hR
 obtain ⟨rfl, P6⟩ := w7.slen
 obtain ⟨rfl, M4⟩ := u6.slen
 have jv := u6.i64A
 refine Ew Z2 (Est rfl (N.box (cs := [_, _]) rfl dc rfl) (fun b1 _ => (Ei rfl (Ev Z2 (Est rfl (Nb [] [] us_Is f5 rfl rfl) (fun b6 _ => (Ent.drop (Ei rfl (Eu (Eq_ (Ew Z1 (Ei rfl (Eu (E.block (s7 (A := []) (Own.nil (E := Enc.int) (e := tI) (a := (some ⟨b6, 0, none⟩))) rfl (f6 (congrArg (ow eIs [_]) (show [] = I2 (((a6.take 0).flatMap (fun a : Int × List Int => a.2)).filter (fun t => inR t 0 9)) from by first | rfl | (simp; done) | grind [f0, Y2, O8, d1, d2, t1, t2])) (E.loop (κ := Nat × Option Addr × Nat × Nat) (fun g => g.1 ≤ a6.length ∧ True) (fun g => [(1, .pointer (some ⟨b1, 0, none⟩)), (3, .slice g.2.1 g.2.2.1 g.2.2.2), (4, .int .i64 (↑g.1 : Int))]) (fun g => [ow eIs [.slice g.2.1 g.2.2.1 g.2.2.2] (I2 (((a6.take g.1).flatMap (fun a : Int × List Int => a.2)).filter (fun t => inR t 0 9))), pt b1 28 [.slice v6 i9.length u9, .slice t8 a6.length t7]]) (fun g => a6.length - g.1) (0, (some ⟨b6, 0, none⟩), 0, 0) ⟨Nat.zero_le _, by simp⟩ ⟨rfl, rfl, rfl, trivial⟩ (.refl _) (fun g pg => ?_))))))))))))))))))
 obtain ⟨g, aA0_0, mA0_0, cA0_0⟩ := g
 try dsimp only at pg
 try dsimp only
 obtain ⟨pk, pa⟩ := pg
 refine d6 m0 fun eaA0_0 laA0_0 => ?_
 subst eaA0_0
 refine Eq_ (Ew Z5 (Em rfl (Ey rfl ((i8 fo_Query_1 ty_Atoms dc rfl).yd) (Ey rfl (g9 ty_Atoms rfl (Hz (mS m0) 1 rfl) rfl) (Ey rfl ((Y.len us_Atoms rfl).yd) (Ey rfl ((Y.lss rfl rfl).yd) (n9 (fun q11 => ?_) (fun q11 => ?_))))))))
 ·refine Eu (o0 rfl (f9 (Et (Eq_ (E.block (Ew Z1 (Ei rfl (Eu (E.block (f6 (congrArg (ow eIs [_]) (show I2 (((a6.take g).flatMap (fun a : Int × List Int => a.2)).filter (fun t => inR t 0 9)) = I2 (((a6.take g).flatMap (fun a : Int × List Int => a.2)).filter (fun t => inR t 0 9) ++ (a6[g].2.take 0).filter (fun t => inR t 0 9)) from by first | rfl | (simp; done) | grind [f0, Y2, O8, d1, d2, t1, t2])) (E.loop (κ := Nat × Option Addr × Nat × Nat) (fun h => h.1 ≤ a6[g].2.length ∧ True) (fun h => [(1, .pointer (some ⟨b1, 0, none⟩)), (3, .slice h.2.1 h.2.2.1 h.2.2.2), (4, .int .i64 (g : Int)), (5, .int .i64 (↑h.1 : Int))]) (fun h => [ow eIs [.slice h.2.1 h.2.2.1 h.2.2.2] (I2 (((a6.take g).flatMap (fun a : Int × List Int => a.2)).filter (fun t => inR t 0 9) ++ (a6[g].2.take h.1).filter (fun t => inR t 0 9))), pt b1 28 [.slice v6 i9.length u9, .slice t8 a6.length t7]]) (fun h => a6[g].2.length - h.1) (0, aA0_0, (I2 (((a6.take g).flatMap (fun a : Int × List Int => a.2)).filter (fun t => inR t 0 9))).length, cA0_0) ⟨Nat.zero_le _, by simp⟩ ⟨rfl, rfl, rfl, rfl, trivial⟩ (.refl _) (fun h ph => ?_))))))))))))
  obtain ⟨h, aA1_0, mA1_0, cA1_0⟩ := h
  try dsimp only at ph
  try dsimp only
  obtain ⟨pk, pa⟩ := ph
  have ju := a6k (is := (fun t => inR t 0 9)) (g := g) (h := h) hz om
  have jw := a6p (l := ((a6.take g).flatMap (fun a : Int × List Int => a.2)).filter (fun t => inR t 0 9) ++ (a6[g].2.take h).filter (fun t => inR t 0 9))
  refine d6 m0 fun eaA1_0 laA1_0 => ?_
  subst eaA1_0
  refine Eq_ (Ew Z9 (Em rfl (Ey rfl ((i8 fo_Query_1 ty_Atoms dc rfl).yd) (Ey rfl (g9 ty_Atoms rfl (Hz (mS m0) 1 rfl) rfl) (Em rfl ?_)))))
  obtain ⟨eb18, eo18, ec18, ea18, er18, el18, eh18⟩ := u6.elem g om
  obtain ⟨xa18_0, xc18_0, rfl, ei18_0, xh18_0⟩ := a0m er18
  have := xh18_0.slen.2
  refine Ey rfl ((w3 us_Atoms ty_Atom rfl ea18 rfl g rfl om).yd) (Ey rfl ((i8 fo_Atom_1 ty_Is dc rfl).yd) (Ey rfl (g9 ty_Is rfl ((eh18 _).sub (cs' := [_]) 1 rfl) rfl) (Ey rfl ((Y.len us_Is rfl).yd) (Ey rfl ((Y.lss rfl rfl).yd) (n9 (fun q22 => ?_) (fun q22 => ?_))))))
  ·refine Eu (o0 rfl (f9 (Et (Eq_ (E.block (Ew Z10 (Ey rfl ((i8 fo_Query_1 ty_Atoms dc rfl).yd) (Ey rfl (g9 ty_Atoms rfl (Hz (mS m0) 1 rfl) rfl) (Em rfl (Ey rfl ((w3 us_Atoms ty_Atom rfl ea18 rfl g rfl om).yd) (Ey rfl ((i8 fo_Atom_1 ty_Is dc rfl).yd) (Ey rfl (g9 ty_Is rfl ((eh18 _).sub (cs' := [_]) 1 rfl) rfl) (Em rfl ?_)))))))))))))
   obtain ⟨eb32, eo32, ea32, ei32, eh32⟩ := xh18_0.elemI h om
   refine Ey rfl ((w3 us_Is f5 rfl ea32 rfl h rfl om).yd) (Ey rfl (g9 f5 rfl (eh32 _) rfl) (Est rfl (o4 N7 rfl rfl rfl dc tv) (fun _ _ => (Ent.b (fun q34 => ?_) (fun q34 => ?_)))))
   ·refine Eu (o0 rfl (Ez Z12 (Em rfl (Ey rfl ((i8 fo_Query_1 ty_Atoms dc rfl).yd) (Ey rfl (g9 ty_Atoms rfl (Hz (mS m0) 1 rfl) rfl) (Em rfl (Ey rfl ((w3 us_Atoms ty_Atom rfl ea18 rfl g rfl om).yd) (Ey rfl ((i8 fo_Atom_1 ty_Is dc rfl).yd) (Ey rfl (g9 ty_Is rfl ((eh18 _).sub (cs' := [_]) 1 rfl) rfl) (Em rfl (Ey rfl ((w3 us_Is f5 rfl ea32 rfl h rfl om).yd) (Ey rfl (g9 f5 rfl (eh32 _) rfl) (Est rfl (N.call (pre := [_]) (a3a fc) rfl rfl rfl dc rfl (fun w Lp hA => ei32)) (fun k45 _ => ?_))))))))))))))
    obtain ⟨a45, m45, c45⟩ := k45
    refine d6 m0 fun e45 l45 => ?_
    subst e45
    refine Ei rfl (En (s8 (Et (Ez Z3 (Em rfl (Ey rfl ((Y.add rfl rfl om om).yd) (Ei rfl (Eu (f6 (congrArg (ow eIs [_]) (show M3 (I2 (((a6.take g).flatMap (fun a : Int × List Int => a.2)).filter (fun t => inR t 0 9) ++ (a6[g].2.take h).filter (fun t => inR t 0 9))) a6[g].2[h] = I2 (((a6.take g).flatMap (fun a : Int × List Int => a.2)).filter (fun t => inR t 0 9) ++ (a6[g].2.take (h + 1)).filter (fun t => inR t 0 9)) from by grind [f0, Y2, O8, d1, d2, t1, t2])) (d8 (d8 ?_)))))))))))
    exact Ea (h + 1, a45, (M3 (I2 (((a6.take g).flatMap (fun a : Int × List Int => a.2)).filter (fun t => inR t 0 9) ++ (a6[g].2.take h).filter (fun t => inR t 0 9))) a6[g].2[h]).length, c45) ⟨oz, trivial⟩
   ·refine Eu (n8 rfl (f9 (s8 (Et (Ez Z3 (Em rfl (Ey rfl ((Y.add rfl rfl om om).yd) (Ei rfl (Eu (f6 (congrArg (ow eIs [_]) (show I2 (((a6.take g).flatMap (fun a : Int × List Int => a.2)).filter (fun t => inR t 0 9) ++ (a6[g].2.take h).filter (fun t => inR t 0 9)) = I2 (((a6.take g).flatMap (fun a : Int × List Int => a.2)).filter (fun t => inR t 0 9) ++ (a6[g].2.take (h + 1)).filter (fun t => inR t 0 9)) from by grind [f0, Y2, O8, d1, d2, t1, t2])) (d8 (d8 ?_))))))))))))
    exact Ea (h + 1, aA1_0, (I2 (((a6.take g).flatMap (fun a : Int × List Int => a.2)).filter (fun t => inR t 0 9) ++ (a6[g].2.take h).filter (fun t => inR t 0 9))).length, cA1_0) ⟨oz, trivial⟩
  ·refine Eu (n8 rfl (E.exit (l3 (l3 (y4 (s8 (Et (Ez Z3 (Em rfl (Ey rfl ((Y.add rfl rfl om om).yd) (Ei rfl (Eu (f6 (congrArg (ow eIs [_]) (show I2 (((a6.take g).flatMap (fun a : Int × List Int => a.2)).filter (fun t => inR t 0 9) ++ (a6[g].2.take h).filter (fun t => inR t 0 9)) = I2 (((a6.take (g + 1)).flatMap (fun a : Int × List Int => a.2)).filter (fun t => inR t 0 9)) from by grind [f0, Y2, O8, d1, d2, t1, t2])) (d8 (d8 ?_)))))))))))))))
   exact Ea (g + 1, aA1_0, (I2 (((a6.take g).flatMap (fun a : Int × List Int => a.2)).filter (fun t => inR t 0 9) ++ (a6[g].2.take h).filter (fun t => inR t 0 9))).length, cA1_0) ⟨oz, trivial⟩
 ·refine Eu (n8 rfl (E.exit (l3 (l3 (y4 (Et (Ew Z2 (Em rfl (Ei rfl (Eu (E.ret (f6 (congrArg (ow eIs [_]) (show _ = f0 (fun t => inR t 0 9) a6 by grind [f0, Y2, O8, d1, d2, t1, t2])) ?_))))))))))))
  exact Fg rfl rfl (_, _, _) rfl rfl
theorem b1Q {a_without : Option Addr} {m_without c_without : Nat} {without : List Int} (hz : K2 (fun x => x.2.length) a6 ≤ 1048576) (hu : ∀ x ∈ without, 0 ≤ x ∧ x ≤ 9) : Tr Tryz.prog 151 [.agg #[.slice v6 y9 u9, .slice t8 w9 t7], .slice a_without m_without c_without] (fun w L => Ro w L eIs [.slice v6 y9 u9] i9 ∧ Ro w L H9 [.slice t8 w9 t7] a6 ∧ Ro w L eIs [.slice a_without m_without c_without] without) [] (κ := (Option Addr × Nat × Nat) × (Option Addr × Nat × Nat) × (Option Addr × Nat × Nat)) (fun k => True) (fun k => .tuple #[.slice k.1.1 k.1.2.1 k.1.2.2, .agg #[.slice k.2.1.1 k.2.1.2.1 k.2.1.2.2, .slice k.2.2.1 k.2.2.2.1 k.2.2.2.2], .bool (fzB without a6)]) (fun k => [ow s6 [.slice k.1.1 k.1.2.1 k.1.2.2] (fzF without a6), ow eIs [.slice k.2.1.1 k.2.1.2.1 k.2.1.2.2] (fzV without a6), ow eIs [.slice k.2.2.1 k.2.2.2.1 k.2.2.2.2] (fzX without a6)]) := by
 refine Tr.intro Tryz.func151 rfl (n := 62) rfl (by decide +kernel) bl (fr := [(0, .agg #[.slice v6 y9 u9, .slice t8 w9 t7]), (1, .slice a_without m_without c_without)]) rfl fun w L hR => ?_
 obtain ⟨w7, u6, hwithout⟩ := hR
 obtain ⟨rfl, P6⟩ := w7.slen
 obtain ⟨rfl, M4⟩ := u6.slen
 obtain ⟨rfl, lwithout⟩ := hwithout.slen
 refine Ew Z4 (Est rfl (N.box (cs := [_, _]) rfl dc rfl) (fun b2 _ => (Ei rfl (Est rfl (N.alloc ty_Binding dc) (fun b5 _ => (Ei rfl (Ev Z3 (Ey rfl ((I3 (pvs := []) (cs := [_, _]) ty_Binding pl_Binding rfl rfl).yd) (Est rfl (N.alloc ty_Binding dc) (fun b7 _ => (Est rfl (Ns [_, _] ty_Binding rfl) (fun _ _ => (Ev Z1 (Ei rfl (Eu (Eq_ (Ew Z4 (Ey rfl (r9 (cs := [_, _]) ty_Query rfl (Has.pt (mS (mS m0))) rfl) (Est rfl (N.call (a6P fo) rfl rfl rfl dc rfl (fun w Lp hA => ⟨hA.ro w7, hA.ro u6⟩)) (fun k16 _ => ?_))))))))))))))))))))
 obtain ⟨a16, m16, c16⟩ := k16
 refine d6 m0 fun e16 l16 => ?_
 subst e16
 refine H7 (A := [_]) rfl fun wb1 Lb1 hB1 hA1 => ?_
 have w7 := hA1.ro w7
 have u6 := hA1.ro u6
 have hwithout := hA1.ro hwithout
 have rb1 : Ro wb1 Lb1 eIs [.slice a16 (f0 (fun t => inR t 10 17) a6).length c16] (f0 (fun t => inR t 10 17) a6) := hA1.ow m0
 refine Ey rfl ((Y.len us_Is rfl).yd) (Em rfl (Eu (E.block (s7 (A := []) (Own.nil (E := Enc.int) (e := tI) (a := none)) rfl (f6 (congrArg (ow eIs [_]) (show [] = (f0 (fun t => inR t 10 17) a6).take 0 from by first | rfl | (simp; done) | grind [O1, L5, L6, K9, fzN, G6, d1, d2, t1, t2])) (s7 (A := []) (Own.nil (E := Enc.int) (e := tI) (a := none)) rfl (f6 (congrArg (ow eIs [_]) (show [] = F9 (without) 0 from by first | rfl | (simp; done) | grind [O1, L5, L6, K9, fzN, G6, d1, d2, t1, t2])) (E.loop (κ := Nat × Option Addr × Nat × Nat × Option Addr × Nat × Nat) (fun g => g.1 ≤ (f0 (fun t => inR t 10 17) a6).length ∧ ∀ i, i < g.1 → J9 (without) (fzN (without) i) ≤ 9) (fun g => [(1, .slice a_without without.length c_without), (2, .pointer (some ⟨b2, 0, none⟩)), (5, .pointer (some ⟨b5, 0, none⟩)), (7, .pointer (some ⟨b7, 0, none⟩)), (8, .int .i64 (↑(fzN (without) g.1) : Int)), (16, .slice a16 (f0 (fun t => inR t 10 17) a6).length c16), (17, .int .i64 (↑((f0 (fun t => inR t 10 17) a6).length) : Int)), (18, .int .i64 (↑g.1 : Int))]) (fun g => [ow eIs [.slice g.2.2.2.2.1 g.2.2.2.2.2.1 g.2.2.2.2.2.2] (F9 (without) g.1), ow eIs [.slice g.2.1 g.2.2.1 g.2.2.2.1] ((f0 (fun t => inR t 10 17) a6).take g.1), pt b7 78 [.slice g.2.1 g.2.2.1 g.2.2.2.1, .slice g.2.2.2.2.1 g.2.2.2.2.2.1 g.2.2.2.2.2.2], pt b5 78 [.slice none 0 0, .slice none 0 0], pt b2 28 [.slice v6 i9.length u9, .slice t8 a6.length t7]]) (fun g => (f0 (fun t => inR t 10 17) a6).length - g.1) (0, none, 0, 0, none, 0, 0) ⟨Nat.zero_le _, by simp⟩ ⟨rfl, rfl, rfl, rfl, frI (by first | rfl | (simp; done) | grind [O1, L5, L6, K9, fzN, G6, d1, d2, t1, t2]), rfl, rfl, rfl, trivial⟩ (.refl _) (fun g pg => ?_)))))))))
 obtain ⟨g, aA0_1, mA0_1, cA0_1, aA0_2, mA0_2, cA0_2⟩ := g
 try dsimp only at pg
 try dsimp only
 obtain ⟨pk, pa⟩ := pg
 have pa0 := pa
 have jz := b6e pa
 have jl := b2K (i7 := a6)
 have jy := a2O (u := (without)) (n := g)
 have jp := List.length_take_le g (f0 (fun t => inR t 10 17) a6)
 refine d6 (mS m0) fun eaA0_1 laA0_1 => ?_
 subst eaA0_1
 refine d6 m0 fun eaA0_2 laA0_2 => ?_
 subst eaA0_2
 refine Ew Z1 (Ey rfl ((Y.lss rfl rfl).yd) (n9 (fun q19 => ?_) (fun q19 => ?_)))
 ·obtain ⟨eb20, eo20, ea20, ei20, eh20⟩ := rb1.elemI g om
  refine Eu (Eq_ (o0 rfl (f9 (Et (Eq_ (E.block (Ew Z3 (Ey rfl ((w3 us_Is f5 rfl ea20 rfl g rfl om).yd) (Ey rfl (g9 f5 rfl (eh20 _) rfl) (Ei rfl (Eu (Eq_ (E.block (E.loop (κ := Nat) (fun k => k ≤ 11 ∧ J9 (without) (fzN (without) g + k) = J9 (without) (fzN (without) g) ∧ fzN (without) g + k ≤ 10) (fun k => [(1, .slice a_without without.length c_without), (2, .pointer (some ⟨b2, 0, none⟩)), (5, .pointer (some ⟨b5, 0, none⟩)), (7, .pointer (some ⟨b7, 0, none⟩)), (8, .int .i64 (↑(fzN (without) g + k) : Int)), (10, .int .i64 ((f0 (fun t => inR t 10 17) a6)[g])), (16, .slice a16 (f0 (fun t => inR t 10 17) a6).length c16), (17, .int .i64 (↑((f0 (fun t => inR t 10 17) a6).length) : Int)), (18, .int .i64 (g : Int))]) (fun k => [ow eIs [.slice aA0_2 (F9 (without) g).length cA0_2] (F9 (without) g), ow eIs [.slice aA0_1 ((f0 (fun t => inR t 10 17) a6).take g).length cA0_1] ((f0 (fun t => inR t 10 17) a6).take g), pt b7 78 [.slice aA0_1 ((f0 (fun t => inR t 10 17) a6).take g).length cA0_1, .slice aA0_2 (F9 (without) g).length cA0_2], pt b5 78 [.slice none 0 0, .slice none 0 0], pt b2 28 [.slice v6 i9.length u9, .slice t8 a6.length t7]]) (fun k => 11 - k) (0) ⟨Nat.zero_le _, by exact ⟨rfl, by omega⟩⟩ ⟨rfl, rfl, rfl, rfl, frI (by first | rfl | (simp; done) | grind [O1, L5, L6, K9, fzN, G6, d1, d2, t1, t2]), rfl, rfl, rfl, rfl, trivial⟩ (.refl _) (fun k pk => ?_)))))))))))))))
  try dsimp only
  obtain ⟨pk, pa⟩ := pk
  refine Eq_ (Ew Z3 (Em rfl (Em rfl (Est rfl (o4 a1S rfl rfl rfl dc (fun w Lp hA => hA.ro hwithout)) (fun _ _ => (Ent.b (fun q24 => ?_) (fun q24 => ?_)))))))
  ·refine Eu (o0 rfl (f9 (Et (E.block (Ez Z3 (Em rfl (Ey rfl ((Y.add rfl rfl om om).yd) (Ei rfl ?_))))))))
   have j1 := a8b hu q24
   have j2 := b1p hu q24
   refine En (s8 (Et (n0 (n0 (n0 (n0 (n0 ?_)))))))
   exact B0 br (k + 1) ⟨rfl, rfl, rfl, rfl, frI (by grind [O1, L5, L6, K9, fzN, G6, d1, d2, t1, t2]), rfl, rfl, rfl, rfl, trivial⟩ (.refl _) ⟨oz, (show J9 (without) (fzN (without) g + (k + 1)) = J9 (without) (fzN (without) g) ∧ fzN (without) g + (k + 1) ≤ 10 from by exact ⟨j2.trans pa.1, by omega⟩)⟩ oz
  ·have jm := a9I q24
   have jn := pa.1
   refine Eu (n8 rfl (E.exit (l3 (l3 (y4 (Et (Eq_ (Ew Z3 (Em rfl (Est rfl (o4 a2u rfl rfl rfl dc tv) (fun _ _ => (Ent.b (fun q28 => ?_) (fun q28 => ?_)))))))))))))
   ·have j9 : J9 without (fzN without g) ≤ 9 := by simp only [inR, decide_eq_true_eq] at q28; omega
    refine Ey rfl ((Y.not (b := true) rfl).yd) (Eu (n8 rfl (f9 (Et (Eq_ (a3V (κ := (Option Addr × Nat) × (Option Addr × Nat)) (fun _ => True) (fun kM => [(1, .slice a_without without.length c_without), (2, .pointer (some ⟨b2, 0, none⟩)), (5, .pointer (some ⟨b5, 0, none⟩)), (7, .pointer (some ⟨b7, 0, none⟩)), (8, .int .i64 (↑(fzN (without) g + k) : Int)), (16, .slice a16 (f0 (fun t => inR t 10 17) a6).length c16), (17, .int .i64 (↑((f0 (fun t => inR t 10 17) a6).length) : Int)), (18, .int .i64 (g : Int))]) (fun kM => [pt b7 78 [.slice kM.1.1 (((f0 (fun t => inR t 10 17) a6).take g).length + 1) kM.1.2, .slice kM.2.1 ((F9 (without) g).length + 1) kM.2.2], ow eIs [.slice kM.2.1 ((F9 (without) g).length + 1) kM.2.2] ((F9 (without) g) ++ [(↑(fzN (without) g + k) : Int)]), ow eIs [.slice kM.1.1 (((f0 (fun t => inR t 10 17) a6).take g).length + 1) kM.1.2] (((f0 (fun t => inR t 10 17) a6).take g) ++ [(f0 (fun t => inR t 10 17) a6)[g]]), pt b5 78 [.slice none 0 0, .slice none 0 0], pt b2 28 [.slice v6 i9.length u9, .slice t8 a6.length t7]]) ?_ (fun kM _ => ?_)))))))
    ·refine U8 [b7, b5, b2] (fun j => !(Nat.beq j 11) && !(Nat.beq j 13)) mixed (E9 0 rfl rfl dc (i8 fo_Binding_0 ty_Is dc rfl) kr (a1b 1 rfl rfl dc (V3 ty_Is rfl ((W6.pt (mS (mS m0)) (by simp)).sub (cs' := [_]) 0 rfl) rfl) kr (E9 2 rfl rfl dc (k6 rfl) kr (E9 5 rfl rfl dc (i8 fo_Binding_1 ty_Is dc rfl) kr (a1b 6 rfl rfl dc (V3 ty_Is rfl ((W6.pt (mS (mS m0)) (by simp)).sub (cs' := [_]) 1 rfl) rfl) kr (E9 7 rfl rfl dc (k6 rfl) kr (D4 (i := 3) (j := 8) kr ?_ ?_)))))))
     ·refine I7 3 rfl rfl (fun _ _ => SameI.out) (Nb [_] [_] us_Is f5 rfl rfl) (fun b34 _ => (D4 (i := 4) (j := 8) kr ?_ ?_))
      ·refine j7 (I7 4 rfl rfl (fun _ _ => SameI.out) (B2 (E := Enc.int) (ex := (f0 (fun t => inR t 10 17) a6)[g]) us_Is f5 rfl rfl rfl (Own.int ei20) rfl bn bn dc) (fun p35 _ => (E9 10 rfl rfl dc (i8 fo_Binding_0 ty_Is dc rfl) kr (F8 8 rfl rfl kr (fun _ _ => SameI.out) (Nb [_] [_] us_Is f5 rfl rfl) (fun b39 _ => (j7 (F8 9 rfl rfl kr (fun _ _ => SameI.out) (B2 (E := Enc.int) (ex := (↑(fzN (without) g + k) : Int)) us_Is f5 rfl rfl rfl (Own.int i6) rfl bn bn dc) (fun p40 _ => (j7 (F8 11 rfl rfl kr (fun h => by cases h) (Ns [_, _] ty_Is rfl) (fun _ _ => (E9 12 rfl rfl dc (i8 fo_Binding_1 ty_Is dc rfl) kr (F8 13 rfl rfl kr (fun h => by cases h) (Ns [_, _] ty_Is rfl) (fun _ _ => (V1 kr (n0 (n0 (n0 (n0 (n0 ?_))))))))))))))))))))
       exact S4 (p35, p40) trivial ⟨rfl, rfl, rfl, rfl, rfl, rfl, rfl, rfl, trivial⟩ (.refl _)
      ·refine I7 8 rfl rfl (fun _ _ => SameI.out) (Nb [_] [_] us_Is f5 rfl rfl) (fun b39 _ => (d8 (o2 (F8 4 rfl rfl kr (fun _ _ => SameI.out) (B2 (E := Enc.int) (ex := (f0 (fun t => inR t 10 17) a6)[g]) us_Is f5 rfl rfl rfl (Own.int ei20) rfl bn bn dc) (fun p35 _ => (E9 10 rfl rfl dc (i8 fo_Binding_0 ty_Is dc rfl) kr (d8 (j7 (F8 9 rfl rfl kr (fun _ _ => SameI.out) (B2 (E := Enc.int) (ex := (↑(fzN (without) g + k) : Int)) us_Is f5 rfl rfl rfl (Own.int i6) rfl bn bn dc) (fun p40 _ => (j7 (F8 11 rfl rfl kr (fun h => by cases h) (Ns [_, _] ty_Is rfl) (fun _ _ => (E9 12 rfl rfl dc (i8 fo_Binding_1 ty_Is dc rfl) kr (F8 13 rfl rfl kr (fun h => by cases h) (Ns [_, _] ty_Is rfl) (fun _ _ => (V1 kr (n0 (n0 (n0 ?_))))))))))))))))))))
       refine n0 (n0 ?_)
       exact S4 (p35, p40) trivial ⟨rfl, rfl, rfl, rfl, rfl, rfl, rfl, rfl, trivial⟩ (.refl _)
     ·refine I7 8 rfl rfl (fun _ _ => SameI.out) (Nb [_] [_] us_Is f5 rfl rfl) (fun b39 _ => (F8 3 rfl rfl kr (fun _ _ => SameI.out) (Nb [_] [_] us_Is f5 rfl rfl) (fun b34 _ => (o2 (F8 4 rfl rfl kr (fun _ _ => SameI.out) (B2 (E := Enc.int) (ex := (f0 (fun t => inR t 10 17) a6)[g]) us_Is f5 rfl rfl rfl (Own.int ei20) rfl bn bn dc) (fun p35 _ => (E9 10 rfl rfl dc (i8 fo_Binding_0 ty_Is dc rfl) kr (d8 (j7 (F8 9 rfl rfl kr (fun _ _ => SameI.out) (B2 (E := Enc.int) (ex := (↑(fzN (without) g + k) : Int)) us_Is f5 rfl rfl rfl (Own.int i6) rfl bn bn dc) (fun p40 _ => (j7 (F8 11 rfl rfl kr (fun h => by cases h) (Ns [_, _] ty_Is rfl) (fun _ _ => (E9 12 rfl rfl dc (i8 fo_Binding_1 ty_Is dc rfl) kr (F8 13 rfl rfl kr (fun h => by cases h) (Ns [_, _] ty_Is rfl) (fun _ _ => (V1 kr (n0 (n0 (n0 ?_)))))))))))))))))))))
      refine n0 (n0 ?_)
      exact S4 (p35, p40) trivial ⟨rfl, rfl, rfl, rfl, rfl, rfl, rfl, rfl, trivial⟩ (.refl _)
    ·obtain ⟨p35, p40⟩ := kM
     try dsimp only
     refine Et (Ez Z3 (Em rfl (Ey rfl ((Y.add rfl rfl om om).yd) (Ei rfl (En (s8 (Et (Ez Z2 (Ey rfl ((Y.add rfl rfl om om).yd) (Em rfl (Eu (j7 (f6 (congrArg (ow eIs [_]) (show ((f0 (fun t => inR t 10 17) a6).take g) ++ [(f0 (fun t => inR t 10 17) a6)[g]] = (f0 (fun t => inR t 10 17) a6).take (g + 1) from by grind [O1, L5, L6, K9, fzN, G6, d1, d2, t1, t2])) (j7 (f6 (congrArg (ow eIs [_]) (show (F9 (without) g) ++ [(↑(fzN (without) g + k) : Int)] = F9 (without) (g + 1) from by grind [O1, L5, L6, K9, fzN, G6, d1, d2, t1, t2])) (n0 (n0 (n0 (n0 (n0 ?_))))))))))))))))))))
     exact B0 br (g + 1, p35.1, (((f0 (fun t => inR t 10 17) a6).take g).length + 1), p35.2, p40.1, ((F9 (without) g).length + 1), p40.2) ⟨rfl, rfl, rfl, rfl, frI (by grind [O1, L5, L6, K9, fzN, G6, d1, d2, t1, t2]), rfl, rfl, rfl, trivial⟩ (.refl _) ⟨oz, (show ∀ i, i < (g + 1) → J9 (without) (fzN (without) i) ≤ 9 from by exact b4W pa0 om)⟩ oz
   ·have jb : fzB without a6 = false := b2Q (i := g) (show g < (B6 a6).length by unfold B6; omega) (by simp only [inR, decide_eq_false_iff_not] at q28; omega)
    refine Ey rfl ((Y.not (b := false) rfl).yd) (Eu (o0 rfl (Ew Z4 (Ey rfl ((I3 (pvs := []) (cs := [_, _]) ty_Binding pl_Binding rfl rfl).yd) (Ei rfl (o2 (Est rfl (Ns [_, _] ty_Binding rfl) (fun _ _ => (Ei rfl (Eu (E.ret (s9 (C9 (s9 (s9 (C9 (s9 (s7 (A := []) (Own.nil (E := Enc.int) (e := tI) (a := none)) rfl (f6 (congrArg (ow eIs [_]) (show _ = fzX without a6 by first | (simp only [fzF, fzV, fzX, jb, cond_false]; done) | (simp only [fzF, fzV, fzX, jb, cond_true]; unfold B6; rw [← jg]; done) | (simp only [fzF, fzV, fzX, jb, cond_true]; unfold B6; rw [← jg]; grind [List.take_of_length_le]) | (simp only [fzF, fzV, fzX, jb, cond_true]; unfold B6; rw [jg]; grind [List.take_of_length_le]))) (s7 (A := []) (Own.nil (E := Enc.int) (e := tI) (a := none)) rfl (f6 (congrArg (ow eIs [_]) (show _ = fzV without a6 by first | (simp only [fzF, fzV, fzX, jb, cond_false]; done) | (simp only [fzF, fzV, fzX, jb, cond_true]; unfold B6; rw [← jg]; done) | (simp only [fzF, fzV, fzX, jb, cond_true]; unfold B6; rw [← jg]; grind [List.take_of_length_le]) | (simp only [fzF, fzV, fzX, jb, cond_true]; unfold B6; rw [jg]; grind [List.take_of_length_le]))) (s7 (A := []) (Own.nil (E := F6) (e := tFact) (a := none)) rfl (f6 (congrArg (ow s6 [_]) (show _ = fzF without a6 by first | (simp only [fzF, fzV, fzX, jb, cond_false]; done) | (simp only [fzF, fzV, fzX, jb, cond_true]; unfold B6; rw [← jg]; done) | (simp only [fzF, fzV, fzX, jb, cond_true]; unfold B6; rw [← jg]; grind [List.take_of_length_le]) | (simp only [fzF, fzV, fzX, jb, cond_true]; unfold B6; rw [jg]; grind [List.take_of_length_le]))) (j7 (j7 (j7 ?_))))))))))))))))))))))))))
    exact b3O hB1 rfl rfl rfl rfl (mS (mS (mS m0))) ty_Binding rfl ((none, 0, 0), (none, 0, 0), (none, 0, 0)) trivial (by rw [show (fzB without a6) = (false) from (by first | (simp only [fzF, fzV, fzX, jb, cond_false]; done) | (simp only [fzF, fzV, fzX, jb, cond_true]; unfold B6; rw [← jg]; done) | (simp only [fzF, fzV, fzX, jb, cond_true]; unfold B6; rw [← jg]; grind [List.take_of_length_le]) | (simp only [fzF, fzV, fzX, jb, cond_true]; unfold B6; rw [jg]; grind [List.take_of_length_le]))]; try rfl) (J := _) (.refl _) (.inl rfl)
 ·have jb : fzB without a6 = true := a7M (fun i hi => pa i (by unfold B6 at hi; omega))
  have jg : g = (f0 (fun t => inR t 10 17) a6).length := by omega
  refine Eu (Eq_ (n8 rfl (E.exit (l3 (l3 (y4 (Et (Ew Z2 (Est rfl (Nb [] [] us_Facts ty_Fact rfl rfl) (fun b46 _ => (Ent.drop (Ei rfl (Eu (Eq_ (Ew Z4 (Ey rfl ((i8 fo_Query_1 ty_Atoms dc rfl).yd) (Ey rfl (g9 ty_Atoms rfl (Hz (mS (mS (mS (mS m0)))) 1 rfl) rfl) (Ey rfl ((Y.len us_Atoms rfl).yd) (Em rfl (Eu (E.block (s7 (A := []) (Own.nil (E := F6) (e := tFact) (a := (some ⟨b46, 0, none⟩))) rfl (f6 (congrArg (ow s6 [_]) (show [] = V5 (a6.take 0) ((f0 (fun t => inR t 10 17) a6).take g, F9 without g) from by first | rfl | (simp; done) | grind [O1, L5, L6, K9, fzN, G6, d1, d2, t1, t2])) (E.loop (κ := Nat × Option Addr × Nat × Nat) (fun r => r.1 ≤ a6.length ∧ True) (fun r => [(5, .pointer (some ⟨b5, 0, none⟩)), (7, .pointer (some ⟨b7, 0, none⟩)), (11, .slice r.2.1 r.2.2.1 r.2.2.2), (48, .slice t8 a6.length t7), (49, .int .i64 (↑a6.length : Int)), (50, .int .i64 (↑r.1 : Int))]) (fun r => [ow s6 [.slice r.2.1 r.2.2.1 r.2.2.2] (V5 (a6.take r.1) ((f0 (fun t => inR t 10 17) a6).take g, F9 without g)), ow eIs [.slice aA0_2 (F9 (without) g).length cA0_2] (F9 (without) g), ow eIs [.slice aA0_1 ((f0 (fun t => inR t 10 17) a6).take g).length cA0_1] ((f0 (fun t => inR t 10 17) a6).take g), pt b7 78 [.slice aA0_1 ((f0 (fun t => inR t 10 17) a6).take g).length cA0_1, .slice aA0_2 (F9 (without) g).length cA0_2], pt b5 78 [.slice none 0 0, .slice none 0 0], pt b2 28 [.slice v6 i9.length u9, .slice t8 a6.length t7]]) (fun r => a6.length - r.1) (0, (some ⟨b46, 0, none⟩), 0, 0) ⟨Nat.zero_le _, by simp⟩ ⟨rfl, rfl, rfl, rfl, rfl, rfl, trivial⟩ (.refl _) (fun r pr => ?_)))))))))))))))))))))))))
  obtain ⟨r, aA2_0, mA2_0, cA2_0⟩ := r
  try dsimp only at pr
  try dsimp only
  obtain ⟨pk, pa⟩ := pr
  have jo := b0H (i7 := a6.take r) (b := ((f0 (fun t => inR t 10 17) a6).take g, F9 without g))
  have jq := List.length_take_le r a6
  have jt := b1e hz
  have ju2 : a6.length ≤ 1048576 := by unfold K2 at hz; omega
  refine d6 m0 fun eaA2_0 laA2_0 => ?_
  subst eaA2_0
  refine Ew Z1 (Ey rfl ((Y.lss rfl rfl).yd) (n9 (fun q51 => ?_) (fun q51 => ?_)))
  ·obtain ⟨eb52, eo52, ec52, ea52, er52, el52, eh52⟩ := u6.elem r om
   obtain ⟨xa52_0, xc52_0, rfl, ei52_0, xh52_0⟩ := a0m er52
   have := xh52_0.slen.2
   refine Eu (Eq_ (o0 rfl (f9 (Et (Eq_ (E.block (Ew Z4 (Ey rfl ((w3 us_Atoms ty_Atom rfl ea52 rfl r rfl om).yd) (Ey rfl (r9 (cs := [_, _]) ty_Atom rfl (eh52 _) rfl) (Est rfl (N.alloc ty_Atom dc) (fun b13 _ => (Est rfl (Ns [_, _] ty_Atom rfl) (fun _ _ => (Eu (Ez Z6 (Em rfl (Ey rfl (r9 (cs := [_, _]) ty_Atom rfl (Has.pt m0) rfl) (Ey rfl (r9 (cs := [_, _]) ty_Binding rfl (Has.pt (mS (mS (mS (mS m0))))) rfl) (Est rfl (N.call (b1T (jt _ (List.getElem_mem om))) rfl rfl rfl dc rfl (fun w Lp hA => ⟨ei52_0, hA.ro xh52_0, hA.ow (mS (mS (mS m0))), hA.ow (mS (mS m0))⟩)) (fun k57 _ => ?_))))))))))))))))))))
   obtain ⟨a57, m57, c57⟩ := k57
   refine d6 m0 fun e57 l57 => ?_
   subst e57
   refine j7 (Est rfl (N.call (pre := [_]) (a3k om (by simp only [G6, List.length_map]; exact jt _ (List.getElem_mem om))) rfl rfl rfl dc rfl (fun w Lp hA => ⟨i6, hA.ow m0⟩)) (fun k58 _ => ?_))
   obtain ⟨a58, m58, c58⟩ := k58
   refine d6 m0 fun e58 l58 => ?_
   subst e58
   refine Ei rfl (En (s8 (Et (Ez Z2 (Ey rfl ((Y.add rfl rfl om om).yd) (Em rfl (Eu (d8 (Ent.drop (d8 (Ent.drop (f6 (congrArg (ow s6 [_]) (show w6 (V5 (a6.take r) ((f0 (fun t => inR t 10 17) a6).take g, F9 without g)) (((G6 a6[r] (((f0 (fun t => inR t 10 17) a6).take g), (F9 (without) g))).1), ((G6 a6[r] (((f0 (fun t => inR t 10 17) a6).take g), (F9 (without) g))).2)) = V5 (a6.take (r + 1)) ((f0 (fun t => inR t 10 17) a6).take g, F9 without g) from by grind [O1, L5, L6, K9, fzN, G6, d1, d2, t1, t2])) (B3 (B3 (B3 (B3 (B3 (B3 ?_))))))))))))))))))
   exact Ea (r + 1, a58, (w6 (V5 (a6.take r) ((f0 (fun t => inR t 10 17) a6).take g, F9 without g)) (((G6 a6[r] (((f0 (fun t => inR t 10 17) a6).take g), (F9 (without) g))).1), ((G6 a6[r] (((f0 (fun t => inR t 10 17) a6).take g), (F9 (without) g))).2))).length, c58) ⟨oz, trivial⟩
  ·refine Eu (Eq_ (n8 rfl (E.exit (l3 (l3 (y4 (Et (Eq_ (D.region (fun j => !(Nat.beq j 3)) mixed (Dyp 0 rfl (k6 rfl) (Dy 1 rfl (r9 (cs := [_, _]) ty_Binding rfl (Has.pt (mS (mS (mS m0)))) rfl) (Dyp 2 rfl (F1 rfl) (n0 (u7 3 rfl rfl kr (fun h => by cases h) (Ns [_, _] ty_Binding rfl) (fun _ _ => (Dyp 4 rfl (F1 rfl) (t6 kr (Et (E.ret (j7 (f6 (congrArg (ow eIs [_]) (show _ = fzX without a6 by first | (simp only [fzF, fzV, fzX, jb, cond_false]; done) | (simp only [fzF, fzV, fzX, jb, cond_true]; unfold B6; rw [← jg]; done) | (simp only [fzF, fzV, fzX, jb, cond_true]; unfold B6; rw [← jg]; grind [List.take_of_length_le]) | (simp only [fzF, fzV, fzX, jb, cond_true]; unfold B6; rw [jg]; grind [List.take_of_length_le]))) (o2 (f6 (congrArg (ow eIs [_]) (show _ = fzV without a6 by first | (simp only [fzF, fzV, fzX, jb, cond_false]; done) | (simp only [fzF, fzV, fzX, jb, cond_true]; unfold B6; rw [← jg]; done) | (simp only [fzF, fzV, fzX, jb, cond_true]; unfold B6; rw [← jg]; grind [List.take_of_length_le]) | (simp only [fzF, fzV, fzX, jb, cond_true]; unfold B6; rw [jg]; grind [List.take_of_length_le]))) (o2 (f6 (congrArg (ow s6 [_]) (show _ = fzF without a6 by first | (simp only [fzF, fzV, fzX, jb, cond_false]; done) | (simp only [fzF, fzV, fzX, jb, cond_true]; unfold B6; rw [← jg]; done) | (simp only [fzF, fzV, fzX, jb, cond_true]; unfold B6; rw [← jg]; grind [List.take_of_length_le]) | (simp only [fzF, fzV, fzX, jb, cond_true]; unfold B6; rw [jg]; grind [List.take_of_length_le]))) (j7 (j7 (j7 ?_))))))))))))))))))))))))))))
   exact b3O hB1 rfl rfl rfl rfl (mS (mS (mS m0))) ty_Binding rfl ((_, _, _), (_, _, _), (_, _, _)) trivial (by rw [show (fzB without a6) = (true) from (by first | (simp only [fzF, fzV, fzX, jb, cond_false]; done) | (simp only [fzF, fzV, fzX, jb, cond_true]; unfold B6; rw [← jg]; done) | (simp only [fzF, fzV, fzX, jb, cond_true]; unfold B6; rw [← jg]; grind [List.take_of_length_le]) | (simp only [fzF, fzV, fzX, jb, cond_true]; unfold B6; rw [jg]; grind [List.take_of_length_le]))]; try rfl) (J := _) (.refl _) (.inl rfl)
theorem a7k (hz : K2 (fun x => x.2.length) a6 ≤ 1048576) : Tr Tryz.prog 89 [.agg #[.slice v6 y9 u9, .slice t8 w9 t7]] (fun w L => Ro w L eIs [.slice v6 y9 u9] i9 ∧ Ro w L H9 [.slice t8 w9 t7] a6) [] (κ := (Option Addr × Nat × Nat) × (Option Addr × Nat × Nat) × (Option Addr × Nat × Nat)) (fun k => True) (fun k => .tuple #[.slice k.1.1 k.1.2.1 k.1.2.2, .agg #[.slice k.2.1.1 k.2.1.2.1 k.2.1.2.2, .slice k.2.2.1 k.2.2.2.1 k.2.2.2.2], .bool (fzB (f0 (fun t => inR t 0 9) a6) a6)]) (fun k => [ow s6 [.slice k.1.1 k.1.2.1 k.1.2.2] (fzF (f0 (fun t => inR t 0 9) a6) a6), ow eIs [.slice k.2.1.1 k.2.1.2.1 k.2.1.2.2] (fzV (f0 (fun t => inR t 0 9) a6) a6), ow eIs [.slice k.2.2.1 k.2.2.2.1 k.2.2.2.2] (fzX (f0 (fun t => inR t 0 9) a6) a6)]) := by
 refine Tr.intro Tryz.func89 rfl (n := 12) rfl (by decide +kernel) bl (fr := [(0, .agg #[.slice v6 y9 u9, .slice t8 w9 t7])]) rfl fun w L hR => ?_
 obtain ⟨w7, u6⟩ := hR
 obtain ⟨rfl, P6⟩ := w7.slen
 obtain ⟨rfl, M4⟩ := u6.slen
 refine Ew Z4 (Est rfl (N.box (cs := [_, _]) rfl dc rfl) (fun b1 _ => (Ei rfl (Est rfl (N.alloc ty_Binding dc) (fun b3 _ => (Ei rfl (Eu (Eq_ (D.region (fun j => !(Nat.beq j 8)) mixed (Dy 0 rfl (r9 (cs := [_, _]) ty_Query rfl (Has.pt (mS m0)) rfl) (Dy 1 rfl (r9 (cs := [_, _]) ty_Query rfl (Has.pt (mS m0)) rfl) (u7 2 rfl rfl kr (fun _ => rfl) (N.call (a0R fo) rfl rfl rfl dc rfl (fun w Lp hA => ⟨hA.ro w7, hA.ro u6⟩)) (fun k7 _ => ?_)))))))))))))
 obtain ⟨a7, m7, c7⟩ := k7
 refine d6 m0 fun e7 l7 => ?_
 subst e7
 refine u7 3 rfl rfl kr (fun _ => rfl) (N.call (b1Q fo (a4u (i7 := a6))) rfl rfl rfl dc rfl (fun w Lp hA => ⟨hA.ro w7, hA.ro u6, hA.ow m0⟩)) (fun k8 _ => ?_)
 obtain ⟨⟨a8_0, m8_0, c8_0⟩, ⟨a8_1, m8_1, c8_1⟩, ⟨a8_2, m8_2, c8_2⟩⟩ := k8
 refine d6 m0 fun e8_0 l8_0 => ?_
 subst e8_0
 refine d6 (mS m0) fun e8_1 l8_1 => ?_
 subst e8_1
 refine d6 (mS (mS m0)) fun e8_2 l8_2 => ?_
 subst e8_2
 refine Dyp 4 rfl (Y.ext rfl rfl) (Dyp 5 rfl (Y.ext rfl rfl) (Dyp 6 rfl (Y.ext rfl rfl) (Dyp 7 rfl (F1 rfl) (n0 (u7 8 rfl rfl kr (fun h => by cases h) (Ns [_, _] ty_Binding rfl) (fun _ _ => (Dyp 9 rfl (F1 rfl) (t6 kr (Et (E.ret (o2 (o2 (o2 (j7 (j7 (j7 ?_))))))))))))))))
 exact b3O br rfl rfl rfl rfl (mS (mS (mS m0))) ty_Binding rfl ((_, _, _), (_, _, _), (_, _, _)) trivial rfl (J := _) (.refl _) (.inl rfl)
theorem a7o (hz : K2 (fun x => x.2.length) a6 ≤ 1048576) : Tr Tryz.prog 95 [.agg #[.slice v6 y9 u9, .slice t8 w9 t7]] (fun w L => Ro w L eIs [.slice v6 y9 u9] i9 ∧ Ro w L H9 [.slice t8 w9 t7] a6) [] (κ := (Option Addr × Nat × Nat) × (Option Addr × Nat × Nat) × (Option Addr × Nat × Nat)) (fun k => True) (fun k => .tuple #[.slice k.1.1 k.1.2.1 k.1.2.2, .agg #[.slice k.2.1.1 k.2.1.2.1 k.2.1.2.2, .slice k.2.2.1 k.2.2.2.1 k.2.2.2.2], .bool (fzB (f0 (fun t => inR t 0 9) a6) a6)]) (fun k => [ow s6 [.slice k.1.1 k.1.2.1 k.1.2.2] (fzF (f0 (fun t => inR t 0 9) a6) a6), ow eIs [.slice k.2.1.1 k.2.1.2.1 k.2.1.2.2] (fzV (f0 (fun t => inR t 0 9) a6) a6), ow eIs [.slice k.2.2.1 k.2.2.2.1 k.2.2.2.2] (fzX (f0 (fun t => inR t 0 9) a6) a6)]) := by
 refine Tr.intro Tryz.func95 rfl (n := 90) rfl (by decide +kernel) bl (fr := [(0, .agg #[.slice v6 y9 u9, .slice t8 w9 t7])]) rfl fun w L hR => ?_
 obtain ⟨w7, u6⟩ := hR
 obtain ⟨rfl, P6⟩ := w7.slen
 obtain ⟨rfl, M4⟩ := u6.slen
 have hu : ∀ x ∈ f0 (fun t => inR t 0 9) a6, 0 ≤ x ∧ x ≤ 9 := a4u (i7 := a6)
 have jv := u6.i64A
 refine Ew Z4 (Est rfl (N.box (cs := [_, _]) rfl dc rfl) (fun b1 _ => (Ei rfl (Est rfl (N.alloc ty_Binding dc) (fun b3 _ => (Ei rfl (Ev Z3 (Ey rfl (r9 (cs := [_, _]) ty_Query rfl (Has.pt (mS m0)) rfl) (Est rfl (N.call (a3W fo) rfl rfl rfl dc rfl (fun w Lp hA => ⟨hA.ro w7, hA.ro u6⟩)) (fun k15 _ => ?_))))))))))
 obtain ⟨a15, m15, c15⟩ := k15
 refine d6 m0 fun e15 l15 => ?_
 subst e15
 refine H7 (A := [_]) rfl fun wb2 Lb2 hB2 hA2 => ?_
 have w7 := hA2.ro w7
 have u6 := hA2.ro u6
 have rb2 : Ro wb2 Lb2 eIs [.slice a15 (f0 (fun t => inR t 0 9) a6).length c15] (f0 (fun t => inR t 0 9) a6) := hA2.ow m0
 refine Ei rfl (Ev Z3 (Ey rfl (r9 (cs := [_, _]) ty_Query rfl (Has.pt (mS m0)) rfl) (Est rfl (N.call (a4c fo) rfl rfl rfl dc rfl (fun w Lp hA => ⟨hA.ro w7, hA.ro u6⟩)) (fun k17 _ => ?_))))
 obtain ⟨a17, m17, c17⟩ := k17
 refine d6 m0 fun e17 l17 => ?_
 subst e17
 refine H7 (A := [_]) rfl fun wb3 Lb3 hB3 hA3 => ?_
 have w7 := hA3.ro w7
 have u6 := hA3.ro u6
 have rb2 := hA3.ro rb2
 have rb3 : Ro wb3 Lb3 eIs [.slice a17 (f0 (fun t => inR t 10 17) a6).length c17] (f0 (fun t => inR t 10 17) a6) := hA3.ow m0
 refine Ei rfl (Ev Z3 (Ey rfl ((I3 (pvs := []) (cs := [_, _]) ty_Binding pl_Binding rfl rfl).yd) (Est rfl (N.alloc ty_Binding dc) (fun b7 _ => (Est rfl (Ns [_, _] ty_Binding rfl) (fun _ _ => (Ev Z1 (Ei rfl (Eu (Eq_ (Ew Z1 (Ei rfl (Eu (E.block (s7 (A := []) (Own.nil (E := Enc.int) (e := tI) (a := none)) rfl (f6 (congrArg (ow eIs [_]) (show [] = (f0 (fun t => inR t 10 17) a6).take 0 from by first | rfl | (simp; done) | grind [O1, L5, L6, K9, fzN, G6, d1, d2, t1, t2])) (s7 (A := []) (Own.nil (E := Enc.int) (e := tI) (a := none)) rfl (f6 (congrArg (ow eIs [_]) (show [] = F9 (f0 (fun t => inR t 0 9) a6) 0 from by first | rfl | (simp; done) | grind [O1, L5, L6, K9, fzN, G6, d1, d2, t1, t2])) (E.loop (κ := Nat × Option Addr × Nat × Nat × Option Addr × Nat × Nat) (fun g => g.1 ≤ (f0 (fun t => inR t 10 17) a6).length ∧ ∀ i, i < g.1 → J9 (f0 (fun t => inR t 0 9) a6) (fzN (f0 (fun t => inR t 0 9) a6) i) ≤ 9) (fun g => [(1, .pointer (some ⟨b1, 0, none⟩)), (3, .pointer (some ⟨b3, 0, none⟩)), (5, .slice a15 (f0 (fun t => inR t 0 9) a6).length c15), (6, .slice a17 (f0 (fun t => inR t 10 17) a6).length c17), (7, .pointer (some ⟨b7, 0, none⟩)), (8, .int .i64 (↑(fzN (f0 (fun t => inR t 0 9) a6) g.1) : Int)), (9, .int .i64 (↑g.1 : Int))]) (fun g => [ow eIs [.slice g.2.2.2.2.1 g.2.2.2.2.2.1 g.2.2.2.2.2.2] (F9 (f0 (fun t => inR t 0 9) a6) g.1), ow eIs [.slice g.2.1 g.2.2.1 g.2.2.2.1] ((f0 (fun t => inR t 10 17) a6).take g.1), pt b7 78 [.slice g.2.1 g.2.2.1 g.2.2.2.1, .slice g.2.2.2.2.1 g.2.2.2.2.2.1 g.2.2.2.2.2.2], pt b3 78 [.slice none 0 0, .slice none 0 0], pt b1 28 [.slice v6 i9.length u9, .slice t8 a6.length t7]]) (fun g => (f0 (fun t => inR t 10 17) a6).length - g.1) (0, none, 0, 0, none, 0, 0) ⟨Nat.zero_le _, by simp⟩ ⟨rfl, rfl, rfl, rfl, rfl, frI (by first | rfl | (simp; done) | grind [O1, L5, L6, K9, fzN, G6, d1, d2, t1, t2]), rfl, trivial⟩ (.refl _) (fun g pg => ?_))))))))))))))))))))
 obtain ⟨g, aA0_1, mA0_1, cA0_1, aA0_2, mA0_2, cA0_2⟩ := g
 try dsimp only at pg
 try dsimp only
 obtain ⟨pk, pa⟩ := pg
 have pa0 := pa
 have jz := b6e pa
 have jl := b2K (i7 := a6)
 have jy := a2O (u := (f0 (fun t => inR t 0 9) a6)) (n := g)
 have jp := List.length_take_le g (f0 (fun t => inR t 10 17) a6)
 refine d6 (mS m0) fun eaA0_1 laA0_1 => ?_
 subst eaA0_1
 refine d6 m0 fun eaA0_2 laA0_2 => ?_
 subst eaA0_2
 refine Eq_ (Ew Z4 (Em rfl (Em rfl (Ey rfl ((Y.len us_Is rfl).yd) (Ey rfl ((Y.lss rfl rfl).yd) (n9 (fun q22 => ?_) (fun q22 => ?_)))))))
 ·refine Eu (o0 rfl (f9 (Et (Eq_ (E.block (Eq_ (E.block (E.loop (κ := Nat) (fun k => k ≤ 11 ∧ J9 (f0 (fun t => inR t 0 9) a6) (fzN (f0 (fun t => inR t 0 9) a6) g + k) = J9 (f0 (fun t => inR t 0 9) a6) (fzN (f0 (fun t => inR t 0 9) a6) g) ∧ fzN (f0 (fun t => inR t 0 9) a6) g + k ≤ 10) (fun k => [(1, .pointer (some ⟨b1, 0, none⟩)), (3, .pointer (some ⟨b3, 0, none⟩)), (5, .slice a15 (f0 (fun t => inR t 0 9) a6).length c15), (6, .slice a17 (f0 (fun t => inR t 10 17) a6).length c17), (7, .pointer (some ⟨b7, 0, none⟩)), (8, .int .i64 (↑(fzN (f0 (fun t => inR t 0 9) a6) g + k) : Int)), (9, .int .i64 (g : Int))]) (fun k => [ow eIs [.slice aA0_2 (F9 (f0 (fun t => inR t 0 9) a6) g).length cA0_2] (F9 (f0 (fun t => inR t 0 9) a6) g), ow eIs [.slice aA0_1 ((f0 (fun t => inR t 10 17) a6).take g).length cA0_1] ((f0 (fun t => inR t 10 17) a6).take g), pt b7 78 [.slice aA0_1 ((f0 (fun t => inR t 10 17) a6).take g).length cA0_1, .slice aA0_2 (F9 (f0 (fun t => inR t 0 9) a6) g).length cA0_2], pt b3 78 [.slice none 0 0, .slice none 0 0], pt b1 28 [.slice v6 i9.length u9, .slice t8 a6.length t7]]) (fun k => 11 - k) (0) ⟨Nat.zero_le _, by exact ⟨rfl, by omega⟩⟩ ⟨rfl, rfl, rfl, rfl, rfl, frI (by first | rfl | (simp; done) | grind [O1, L5, L6, K9, fzN, G6, d1, d2, t1, t2]), rfl, trivial⟩ (.refl _) (fun k pk => ?_)))))))))
  try dsimp only
  obtain ⟨pk, pa⟩ := pk
  refine Eq_ (Ew Z3 (Em rfl (Em rfl (Est rfl (o4 a4L rfl rfl rfl dc (fun w Lp hA => hA.ro rb2)) (fun _ _ => (Ent.b (fun q27 => ?_) (fun q27 => ?_)))))))
  ·refine Eu (o0 rfl (f9 (Et (E.block (Ez Z3 (Em rfl (Ey rfl ((Y.add rfl rfl om om).yd) (Ei rfl ?_))))))))
   have j1 := a8b hu q27
   have j2 := b1p hu q27
   refine En (s8 (Et (n0 (n0 (n0 (n0 (n0 ?_)))))))
   exact B0 br (k + 1) ⟨rfl, rfl, rfl, rfl, rfl, frI (by grind [O1, L5, L6, K9, fzN, G6, d1, d2, t1, t2]), rfl, trivial⟩ (.refl _) ⟨oz, (show J9 (f0 (fun t => inR t 0 9) a6) (fzN (f0 (fun t => inR t 0 9) a6) g + (k + 1)) = J9 (f0 (fun t => inR t 0 9) a6) (fzN (f0 (fun t => inR t 0 9) a6) g) ∧ fzN (f0 (fun t => inR t 0 9) a6) g + (k + 1) ≤ 10 from by exact ⟨j2.trans pa.1, by omega⟩)⟩ oz
  ·have jm := a9I q27
   have jn := pa.1
   refine Eu (n8 rfl (E.exit (l3 (l3 (y4 (Et (Eq_ (Ew Z2 (Em rfl (Ey rfl ((Y.gtr rfl rfl).yd) (n9 (fun q31 => ?_) (fun q31 => ?_))))))))))))
   ·have jb : fzB (f0 (fun t => inR t 0 9) a6) a6 = false := b2Q (i := g) (show g < (B6 a6).length by unfold B6; omega) om
    refine Eu (o0 rfl (Ew Z5 (Est rfl (Nb [] [] us_Facts ty_Fact rfl rfl) (fun b32 _ => (Ent.drop (Ey rfl ((I3 (pvs := []) (cs := [_, _]) ty_Binding pl_Binding rfl rfl).yd) (Ei rfl (o2 (Est rfl (Ns [_, _] ty_Binding rfl) (fun _ _ => (Ei rfl (Eu (E.ret (s9 (C9 (s9 (s9 (C9 (s9 (s7 (A := []) (Own.nil (E := Enc.int) (e := tI) (a := none)) rfl (f6 (congrArg (ow eIs [_]) (show _ = fzX (f0 (fun t => inR t 0 9) a6) a6 by first | (simp only [fzF, fzV, fzX, jb, cond_false]; done) | (simp only [fzF, fzV, fzX, jb, cond_true]; unfold B6; rw [← jg]; done) | (simp only [fzF, fzV, fzX, jb, cond_true]; unfold B6; rw [← jg]; grind [List.take_of_length_le]) | (simp only [fzF, fzV, fzX, jb, cond_true]; unfold B6; rw [jg]; grind [List.take_of_length_le]))) (s7 (A := []) (Own.nil (E := Enc.int) (e := tI) (a := none)) rfl (f6 (congrArg (ow eIs [_]) (show _ = fzV (f0 (fun t => inR t 0 9) a6) a6 by first | (simp only [fzF, fzV, fzX, jb, cond_false]; done) | (simp only [fzF, fzV, fzX, jb, cond_true]; unfold B6; rw [← jg]; done) | (simp only [fzF, fzV, fzX, jb, cond_true]; unfold B6; rw [← jg]; grind [List.take_of_length_le]) | (simp only [fzF, fzV, fzX, jb, cond_true]; unfold B6; rw [jg]; grind [List.take_of_length_le]))) (s7 (A := []) (Own.nil (E := F6) (e := tFact) (a := (some ⟨b32, 0, none⟩))) rfl (f6 (congrArg (ow s6 [_]) (show _ = fzF (f0 (fun t => inR t 0 9) a6) a6 by first | (simp only [fzF, fzV, fzX, jb, cond_false]; done) | (simp only [fzF, fzV, fzX, jb, cond_true]; unfold B6; rw [← jg]; done) | (simp only [fzF, fzV, fzX, jb, cond_true]; unfold B6; rw [← jg]; grind [List.take_of_length_le]) | (simp only [fzF, fzV, fzX, jb, cond_true]; unfold B6; rw [jg]; grind [List.take_of_length_le]))) (j7 (j7 ?_)))))))))))))))))))))))))))
    refine j7 ?_
    exact b3O (hB2.comp hB3) rfl rfl rfl rfl (mS (mS (mS m0))) ty_Binding rfl (((some ⟨b32, 0, none⟩), 0, 0), (none, 0, 0), (none, 0, 0)) trivial (by rw [show (fzB (f0 (fun t => inR t 0 9) a6) a6) = (false) from (by first | (simp only [fzF, fzV, fzX, jb, cond_false]; done) | (simp only [fzF, fzV, fzX, jb, cond_true]; unfold B6; rw [← jg]; done) | (simp only [fzF, fzV, fzX, jb, cond_true]; unfold B6; rw [← jg]; grind [List.take_of_length_le]) | (simp only [fzF, fzV, fzX, jb, cond_true]; unfold B6; rw [jg]; grind [List.take_of_length_le]))]; try rfl) (J := _) (.refl _) (.inl rfl)
   ·have j9 : J9 (f0 (fun t => inR t 0 9) a6) (fzN (f0 (fun t => inR t 0 9) a6) g) ≤ 9 := by omega
    refine Eu (n8 rfl (f9 (Et (Eq_ (D.region (fun j => !(Nat.beq j 7)) mixed (Dy 0 rfl (r9 (cs := [_, _]) ty_Binding rfl (Has.pt (mS (mS m0))) rfl) (Dyp 1 rfl (k6 rfl) (Dyp 2 rfl (k6 rfl) ?_))))))))
    obtain ⟨eb37, eo37, ea37, ei37, eh37⟩ := rb3.elemI g om
    refine Dyp 3 rfl (w3 us_Is f5 rfl ea37 rfl g rfl om) (Dy 4 rfl (g9 f5 rfl (eh37 _) rfl) (Dyp 5 rfl (k6 rfl) (u7 6 rfl rfl kr (fun _ => rfl) (N.call (a6Y (by simp only [List.length_take, a2O]; omega) (by simp only [List.length_take, a2O]; omega)) rfl rfl rfl dc rfl (fun w Lp hA => ⟨hA.ow (mS m0), hA.ow m0, ei37, i6⟩)) (fun k40 _ => ?_))))
    obtain ⟨⟨a40_0, m40_0, c40_0⟩, ⟨a40_1, m40_1, c40_1⟩⟩ := k40
    refine d6 m0 fun e40_0 l40_0 => ?_
    subst e40_0
    refine d6 (mS m0) fun e40_1 l40_1 => ?_
    subst e40_1
    refine n0 (u7 7 rfl rfl kr (fun h => by cases h) (Ns [_, _] ty_Binding rfl) (fun _ _ => (t6 kr (Et (Ez Z3 (Em rfl (Ey rfl ((Y.add rfl rfl om om).yd) (Ei rfl (En (s8 (Et (Ez Z3 (Em rfl (Ey rfl ((Y.add rfl rfl om om).yd) (Ei rfl (Eu (o2 (Ent.drop (o2 (Ent.drop (d8 (f6 (congrArg (ow eIs [_]) (show ((f0 (fun t => inR t 10 17) a6).take g) ++ [((f0 (fun t => inR t 10 17) a6)[g])] = (f0 (fun t => inR t 10 17) a6).take (g + 1) from by grind [O1, L5, L6, K9, fzN, G6, d1, d2, t1, t2])) (j7 ?_)))))))))))))))))))))))
    refine f6 (congrArg (ow eIs [_]) (show (F9 (f0 (fun t => inR t 0 9) a6) g) ++ [(↑(fzN (f0 (fun t => inR t 0 9) a6) g + k) : Int)] = F9 (f0 (fun t => inR t 0 9) a6) (g + 1) from by grind [O1, L5, L6, K9, fzN, G6, d1, d2, t1, t2])) (n0 (n0 (n0 (n0 (n0 ?_)))))
    exact B0 br (g + 1, a40_0, (((f0 (fun t => inR t 10 17) a6).take g) ++ [((f0 (fun t => inR t 10 17) a6)[g])]).length, c40_0, a40_1, ((F9 (f0 (fun t => inR t 0 9) a6) g) ++ [(↑(fzN (f0 (fun t => inR t 0 9) a6) g + k) : Int)]).length, c40_1) ⟨rfl, rfl, rfl, rfl, rfl, frI (by grind [O1, L5, L6, K9, fzN, G6, d1, d2, t1, t2]), rfl, trivial⟩ (.refl _) ⟨oz, (show ∀ i, i < (g + 1) → J9 (f0 (fun t => inR t 0 9) a6) (fzN (f0 (fun t => inR t 0 9) a6) i) ≤ 9 from by exact b4W pa0 om)⟩ oz
 ·have jfr := b7t pa
  have jb : fzB (f0 (fun t => inR t 0 9) a6) a6 = true := a7M (fun i hi => pa i (by unfold B6 at hi; omega))
  have jg : g = (f0 (fun t => inR t 10 17) a6).length := by omega
  refine Eu (n8 rfl (E.exit (l3 (l3 (y4 (Et (Ew Z2 (Est rfl (Nb [] [] us_Facts ty_Fact rfl rfl) (fun b43 _ => (Ent.drop (Ei rfl (Eu (Eq_ (Ew Z1 (Ei rfl (Eu (E.block (s7 (A := []) (Own.nil (E := F6) (e := tFact) (a := (some ⟨b43, 0, none⟩))) rfl (f6 (congrArg (ow s6 [_]) (show [] = V5 (a6.take 0) ((f0 (fun t => inR t 10 17) a6).take g, F9 (f0 (fun t => inR t 0 9) a6) g) from by first | rfl | (simp; done) | grind [O1, L5, L6, K9, fzN, G6, d1, d2, t1, t2])) (E.loop (κ := Nat × Option Addr × Nat × Nat) (fun r => r.1 ≤ a6.length ∧ True) (fun r => [(1, .pointer (some ⟨b1, 0, none⟩)), (3, .pointer (some ⟨b3, 0, none⟩)), (7, .pointer (some ⟨b7, 0, none⟩)), (10, .slice r.2.1 r.2.2.1 r.2.2.2), (11, .int .i64 (↑r.1 : Int))]) (fun r => [ow s6 [.slice r.2.1 r.2.2.1 r.2.2.2] (V5 (a6.take r.1) ((f0 (fun t => inR t 10 17) a6).take g, F9 (f0 (fun t => inR t 0 9) a6) g)), ow eIs [.slice aA0_2 (F9 (f0 (fun t => inR t 0 9) a6) g).length cA0_2] (F9 (f0 (fun t => inR t 0 9) a6) g), ow eIs [.slice aA0_1 ((f0 (fun t => inR t 10 17) a6).take g).length cA0_1] ((f0 (fun t => inR t 10 17) a6).take g), pt b7 78 [.slice aA0_1 ((f0 (fun t => inR t 10 17) a6).take g).length cA0_1, .slice aA0_2 (F9 (f0 (fun t => inR t 0 9) a6) g).length cA0_2], pt b3 78 [.slice none 0 0, .slice none 0 0], pt b1 28 [.slice v6 i9.length u9, .slice t8 a6.length t7]]) (fun r => a6.length - r.1) (0, (some ⟨b43, 0, none⟩), 0, 0) ⟨Nat.zero_le _, by simp⟩ ⟨rfl, rfl, rfl, rfl, rfl, trivial⟩ (.refl _) (fun r pr => ?_)))))))))))))))))))))
  obtain ⟨r, aA2_0, mA2_0, cA2_0⟩ := r
  try dsimp only at pr
  try dsimp only
  obtain ⟨pk, pa⟩ := pr
  have jo := b0H (i7 := a6.take r) (b := ((f0 (fun t => inR t 10 17) a6).take g, F9 (f0 (fun t => inR t 0 9) a6) g))
  have jq := List.length_take_le r a6
  have jt := b1e hz
  have ju2 : a6.length ≤ 1048576 := by unfold K2 at hz; omega
  refine d6 m0 fun eaA2_0 laA2_0 => ?_
  subst eaA2_0
  refine Eq_ (Ew Z5 (Em rfl (Ey rfl ((i8 fo_Query_1 ty_Atoms dc rfl).yd) (Ey rfl (g9 ty_Atoms rfl ((Has.pt (mS (mS (mS (mS (mS m0)))))).sub (cs' := [_]) 1 rfl) rfl) (Ey rfl ((Y.len us_Atoms rfl).yd) (Ey rfl ((Y.lss rfl rfl).yd) (n9 (fun q48 => ?_) (fun q48 => ?_))))))))
  ·refine Eu (o0 rfl (f9 (Et (Eq_ (E.block (Ew Z9 (Ey rfl ((i8 fo_Query_1 ty_Atoms dc rfl).yd) (Ey rfl (g9 ty_Atoms rfl ((Has.pt (mS (mS (mS (mS (mS m0)))))).sub (cs' := [_]) 1 rfl) rfl) (Em rfl ?_)))))))))
   obtain ⟨eb54, eo54, ec54, ea54, er54, el54, eh54⟩ := u6.elem r om
   obtain ⟨xa54_0, xc54_0, rfl, ei54_0, xh54_0⟩ := a0m er54
   have := xh54_0.slen.2
   refine Ey rfl ((w3 us_Atoms ty_Atom rfl ea54 rfl r rfl om).yd) (Ey rfl ((i8 fo_Atom_0 f5 dc rfl).yd) (Ey rfl (g9 f5 rfl ((eh54 _).sub (cs' := [_]) 0 rfl) rfl) (Ey rfl ((I3 (pvs := [_]) (cs := [_, _]) ty_Fact a3Q rfl rfl).yd) (Est rfl (N.alloc ty_Fact dc) (fun b12 _ => (Est rfl (Ns [_, _] ty_Fact rfl) (fun _ _ => (Eu (Eq_ (Ew Z1 (Ei rfl (Eu (E.block (s7 (A := []) (Own.nil (E := Enc.int) (e := tI) (a := none)) rfl (f6 (congrArg (ow eIs [_]) (show [] = (a6[r].2.take 0).map (C1 ((f0 (fun t => inR t 10 17) a6).take g, F9 (f0 (fun t => inR t 0 9) a6) g)) from by first | rfl | (simp; done) | grind [O1, L5, L6, K9, fzN, G6, d1, d2, t1, t2])) (E.loop (κ := Nat × Option Addr × Nat × Nat) (fun h => h.1 ≤ a6[r].2.length ∧ True) (fun h => [(1, .pointer (some ⟨b1, 0, none⟩)), (3, .pointer (some ⟨b3, 0, none⟩)), (7, .pointer (some ⟨b7, 0, none⟩)), (10, .slice aA2_0 (V5 (a6.take r) ((f0 (fun t => inR t 10 17) a6).take g, F9 (f0 (fun t => inR t 0 9) a6) g)).length cA2_0), (11, .int .i64 (r : Int)), (12, .pointer (some ⟨b12, 0, none⟩)), (13, .int .i64 (↑h.1 : Int))]) (fun h => [ow eIs [.slice h.2.1 h.2.2.1 h.2.2.2] ((a6[r].2.take h.1).map (C1 ((f0 (fun t => inR t 10 17) a6).take g, F9 (f0 (fun t => inR t 0 9) a6) g))), pt b12 91 [.int .i64 a6[r].1, .slice h.2.1 h.2.2.1 h.2.2.2], ow s6 [.slice aA2_0 (V5 (a6.take r) ((f0 (fun t => inR t 10 17) a6).take g, F9 (f0 (fun t => inR t 0 9) a6) g)).length cA2_0] (V5 (a6.take r) ((f0 (fun t => inR t 10 17) a6).take g, F9 (f0 (fun t => inR t 0 9) a6) g)), ow eIs [.slice aA0_2 (F9 (f0 (fun t => inR t 0 9) a6) g).length cA0_2] (F9 (f0 (fun t => inR t 0 9) a6) g), ow eIs [.slice aA0_1 ((f0 (fun t => inR t 10 17) a6).take g).length cA0_1] ((f0 (fun t => inR t 10 17) a6).take g), pt b7 78 [.slice aA0_1 ((f0 (fun t => inR t 10 17) a6).take g).length cA0_1, .slice aA0_2 (F9 (f0 (fun t => inR t 0 9) a6) g).length cA0_2], pt b3 78 [.slice none 0 0, .slice none 0 0], pt b1 28 [.slice v6 i9.length u9, .slice t8 a6.length t7]]) (fun h => a6[r].2.length - h.1) (0, none, 0, 0) ⟨Nat.zero_le _, by simp⟩ ⟨rfl, rfl, rfl, rfl, rfl, rfl, rfl, trivial⟩ (.refl _) (fun h ph => ?_)))))))))))))))))
   obtain ⟨h, aA3_0, mA3_0, cA3_0⟩ := h
   try dsimp only at ph
   try dsimp only
   obtain ⟨pk, pa⟩ := ph
   have jt1 := jt a6[r] (List.getElem_mem om)
   refine d6 m0 fun eaA3_0 laA3_0 => ?_
   subst eaA3_0
   refine Eq_ (Ew Z9 (Em rfl (Ey rfl ((i8 fo_Query_1 ty_Atoms dc rfl).yd) (Ey rfl (g9 ty_Atoms rfl ((Has.pt (mS (mS (mS (mS (mS (mS (mS m0)))))))).sub (cs' := [_]) 1 rfl) rfl) (Em rfl (Ey rfl ((w3 us_Atoms ty_Atom rfl ea54 rfl r rfl om).yd) (Ey rfl ((i8 fo_Atom_1 ty_Is dc rfl).yd) (Ey rfl (g9 ty_Is rfl ((eh54 _).sub (cs' := [_]) 1 rfl) rfl) (Ey rfl ((Y.len us_Is rfl).yd) (Ey rfl ((Y.lss rfl rfl).yd) (n9 (fun q66 => ?_) (fun q66 => ?_))))))))))))
   ·have jx := b2l (b := ((f0 (fun t => inR t 10 17) a6).take g, F9 (f0 (fun t => inR t 0 9) a6) g)) ((jv a6[r] (List.getElem_mem om)).2 a6[r].2[h] (List.getElem_mem om)) jfr
    refine Eu (o0 rfl (f9 (Et (Eq_ (E.block (D.region (fun j => !(Nat.beq j 14) && !(Nat.beq j 16)) mixed (Dyp 0 rfl (i8 fo_Fact_1 ty_Is dc rfl) (Dy 1 rfl (g9 ty_Is rfl (Hz (mS m0) 1 rfl) rfl) (Dy 2 rfl (r9 (cs := [_, _]) ty_Binding rfl (Has.pt (mS (mS (mS (mS (mS m0)))))) rfl) (Dyp 3 rfl (i8 fo_Query_1 ty_Atoms dc rfl) (Dy 4 rfl (g9 ty_Atoms rfl ((Has.pt (mS (mS (mS (mS (mS (mS (mS m0)))))))).sub (cs' := [_]) 1 rfl) rfl) (Dyp 5 rfl (k6 rfl) (Dyp 6 rfl (w3 us_Atoms ty_Atom rfl ea54 rfl r rfl om) (Dyp 7 rfl (i8 fo_Atom_1 ty_Is dc rfl) (Dy 8 rfl (g9 ty_Is rfl ((eh54 _).sub (cs' := [_]) 1 rfl) rfl) (Dyp 9 rfl (k6 rfl) ?_))))))))))))))))
    obtain ⟨eb79, eo79, ea79, ei79, eh79⟩ := xh54_0.elemI h om
    refine Dyp 10 rfl (w3 us_Is f5 rfl ea79 rfl h rfl om) (Dy 11 rfl (g9 f5 rfl (eh79 _) rfl) (u7 12 rfl rfl kr (fun _ => rfl) (o4 a3K rfl rfl rfl dc (fun w Lp hA => ⟨hA.ow (mS (mS (mS (mS m0)))), hA.ow (mS (mS (mS m0)))⟩)) (fun _ _ => (u7 13 rfl rfl kr (fun _ => rfl) (Nb [_] [_] us_Is f5 rfl rfl) (fun b82 _ => (d8 (u7 14 rfl rfl kr (fun h => by cases h) (B2 (E := Enc.int) (ex := C1 (((f0 (fun t => inR t 10 17) a6).take g), (F9 (f0 (fun t => inR t 0 9) a6) g)) a6[r].2[h]) us_Is f5 rfl rfl rfl (Own.int i6) rfl bn bn dc) (fun p83 _ => (Dyp 15 rfl (i8 fo_Fact_1 ty_Is dc rfl) (d8 (u7 16 rfl rfl kr (fun h => by cases h) (Ns [_, _] ty_Is rfl) (fun _ _ => (t6 kr (s8 (Et (Ez Z3 (Em rfl (Ey rfl ((Y.add rfl rfl om om).yd) (Ei rfl (Eu (d8 (f6 (congrArg (ow eIs [_]) (show ((a6[r].2.take h).map (C1 ((f0 (fun t => inR t 10 17) a6).take g, F9 (f0 (fun t => inR t 0 9) a6) g))) ++ [C1 (((f0 (fun t => inR t 10 17) a6).take g), (F9 (f0 (fun t => inR t 0 9) a6) g)) a6[r].2[h]] = (a6[r].2.take (h + 1)).map (C1 ((f0 (fun t => inR t 10 17) a6).take g, F9 (f0 (fun t => inR t 0 9) a6) g)) from by grind [O1, L5, L6, K9, fzN, G6, d1, d2, t1, t2])) (D3 ?_)))))))))))))))))))))))
    refine D3 (D3 (D3 (D3 (D3 (D3 (D3 ?_))))))
    exact Ea (h + 1, p83.1, (((a6[r].2.take h).map (C1 ((f0 (fun t => inR t 10 17) a6).take g, F9 (f0 (fun t => inR t 0 9) a6) g))).length + 1), p83.2) ⟨oz, trivial⟩
   ·refine Eu (n8 rfl (E.exit (l3 (l3 (y4 (Et (Ez Z4 (Em rfl (Ey rfl (r9 (cs := [_, _]) ty_Fact rfl (Has.pt (mS m0)) rfl) (Est rfl (N.call (a0v om (b9d jt) (by simp only [List.length_map, List.length_take]; have := jt a6[r] (List.getElem_mem om); omega)) rfl rfl rfl dc rfl (fun w Lp hA => ⟨hA.ow (mS (mS m0)), ei54_0, hA.ow m0⟩)) (fun k87 _ => ?_)))))))))))
    obtain ⟨a87, m87, c87⟩ := k87
    refine d6 m0 fun e87 l87 => ?_
    subst e87
    refine Ei rfl (En (s8 (Et (Ez Z3 (Em rfl (Ey rfl ((Y.add rfl rfl om om).yd) (Ei rfl (Eu (d8 (Ent.drop (d8 (Ent.drop (d8 (Ent.drop (f6 (congrArg (ow s6 [_]) (show w6 (V5 (a6.take r) ((f0 (fun t => inR t 10 17) a6).take g, F9 (f0 (fun t => inR t 0 9) a6) g)) (a6[r].1, ((a6[r].2.take h).map (C1 ((f0 (fun t => inR t 10 17) a6).take g, F9 (f0 (fun t => inR t 0 9) a6) g)))) = V5 (a6.take (r + 1)) ((f0 (fun t => inR t 10 17) a6).take g, F9 (f0 (fun t => inR t 0 9) a6) g) from by grind [O1, L5, L6, K9, fzN, G6, d1, d2, t1, t2])) (B3 (B3 (B3 (B3 ?_)))))))))))))))))))
    refine B3 (B3 ?_)
    exact Ea (r + 1, a87, (w6 (V5 (a6.take r) ((f0 (fun t => inR t 10 17) a6).take g, F9 (f0 (fun t => inR t 0 9) a6) g)) (a6[r].1, ((a6[r].2.take h).map (C1 ((f0 (fun t => inR t 10 17) a6).take g, F9 (f0 (fun t => inR t 0 9) a6) g))))).length, c87) ⟨oz, trivial⟩
  ·refine Eu (n8 rfl (E.exit (l3 (l3 (y4 (Et (Eq_ (D.region (fun j => !(Nat.beq j 3)) mixed (Dyp 0 rfl (k6 rfl) (Dy 1 rfl (r9 (cs := [_, _]) ty_Binding rfl (Has.pt (mS (mS (mS m0)))) rfl) (Dyp 2 rfl (F1 rfl) (n0 (u7 3 rfl rfl kr (fun h => by cases h) (Ns [_, _] ty_Binding rfl) (fun _ _ => (Dyp 4 rfl (F1 rfl) (t6 kr (Et (E.ret (j7 (f6 (congrArg (ow eIs [_]) (show _ = fzX (f0 (fun t => inR t 0 9) a6) a6 by first | (simp only [fzF, fzV, fzX, jb, cond_false]; done) | (simp only [fzF, fzV, fzX, jb, cond_true]; unfold B6; rw [← jg]; done) | (simp only [fzF, fzV, fzX, jb, cond_true]; unfold B6; rw [← jg]; grind [List.take_of_length_le]) | (simp only [fzF, fzV, fzX, jb, cond_true]; unfold B6; rw [jg]; grind [List.take_of_length_le]))) (o2 (f6 (congrArg (ow eIs [_]) (show _ = fzV (f0 (fun t => inR t 0 9) a6) a6 by first | (simp only [fzF, fzV, fzX, jb, cond_false]; done) | (simp only [fzF, fzV, fzX, jb, cond_true]; unfold B6; rw [← jg]; done) | (simp only [fzF, fzV, fzX, jb, cond_true]; unfold B6; rw [← jg]; grind [List.take_of_length_le]) | (simp only [fzF, fzV, fzX, jb, cond_true]; unfold B6; rw [jg]; grind [List.take_of_length_le]))) (o2 (f6 (congrArg (ow s6 [_]) (show _ = fzF (f0 (fun t => inR t 0 9) a6) a6 by first | (simp only [fzF, fzV, fzX, jb, cond_false]; done) | (simp only [fzF, fzV, fzX, jb, cond_true]; unfold B6; rw [← jg]; done) | (simp only [fzF, fzV, fzX, jb, cond_true]; unfold B6; rw [← jg]; grind [List.take_of_length_le]) | (simp only [fzF, fzV, fzX, jb, cond_true]; unfold B6; rw [jg]; grind [List.take_of_length_le]))) (j7 (j7 (j7 ?_)))))))))))))))))))))))))))
   exact b3O (hB2.comp hB3) rfl rfl rfl rfl (mS (mS (mS m0))) ty_Binding rfl ((_, _, _), (_, _, _), (_, _, _)) trivial (by rw [show (fzB (f0 (fun t => inR t 0 9) a6) a6) = (true) from (by first | (simp only [fzF, fzV, fzX, jb, cond_false]; done) | (simp only [fzF, fzV, fzX, jb, cond_true]; unfold B6; rw [← jg]; done) | (simp only [fzF, fzV, fzX, jb, cond_true]; unfold B6; rw [← jg]; grind [List.take_of_length_le]) | (simp only [fzF, fzV, fzX, jb, cond_true]; unfold B6; rw [jg]; grind [List.take_of_length_le]))]; try rfl) (J := _) (.refl _) (.inl rfl)
end Go.Proofs.YtlfhopooaejpfaaGreat
