import Derived.Test.YtdopeopehgdccaaGreatT6
import Derived.Test.YtdopeopehgdccaaGreatBf
namespace Go.Proofs.YtdopeopehgdccaaGreat
open Go.RowKit
set_option linter.all false
set_option maxHeartbeats 2000000
attribute [local irreducible] Nop Yd Yp Ent Has Tr FnP FnP2 Src R6 a0d a0I a1c H6
variable {x t l0 : Int} {I1 a1l d7 d4 f0 : List (Int × List Int)} {I6 o0 l s f7 vars d6 : List Int} {M7 M8 K3 K4 a0w a0x C6 x8 B3 v7 m_l c_l m_s c_s u8 s6 b_vars m_vars c_vars b_s G4 D1 F5 B9 R7 K8 : Nat} {M9 K5 a0y x7 v6 a_l a_s s7 a_vars D0 B8 K7 : Option Addr}
theorem a8G {left : Int} : Tr Tryz.prog 48 [.agg #[.slice M9 M7 M8, .slice K5 K3 K4, .slice a0y a0w a0x], .int .i64 left] (fun w L => Ro w L eIs [.slice M9 M7 M8] I6 ∧ Ro w L B7 [.slice K5 K3 K4] I1 ∧ Ro w L B7 [.slice a0y a0w a0x] a1l ∧ 0 ≤ left ∧ left ≤ 1048576) [] (κ := Unit) (fun k => True) (fun k => .int .i64 (szR (I6.length + I9 (fun x => x.2.length) I1 + I9 (fun x => x.2.length) a1l) left)) (fun k => []) := by
 refine n9 Tryz.func48 rfl (n := 18) rfl (by decide +kernel) bl (fr := [(0, .agg #[.slice M9 M7 M8, .slice K5 K3 K4, .slice a0y a0w a0x]), (1, .int .i64 left)]) rfl fun w L hR => ?_
 obtain ⟨Y8, W6, a4i, as0, as1⟩ := hR
 obtain ⟨rfl, a4p⟩ := Y8.slen
 obtain ⟨rfl, a3U⟩ := W6.slen
 obtain ⟨rfl, b3o⟩ := a4i.slen
 refine Ew Z2 (Est rfl (N.box (cs := [_, _, _]) rfl dc rfl) (fun b2 _ => (Ei rfl (Ev Z5 (Ey rfl ((j7 fo_lGuarded_0 ty_lQuery dc rfl).yd) (Ey rfl (o9 (cs := [_, _]) ty_lQuery rfl ((Has.pt m0).sub (cs' := [_, _]) 0 rfl) rfl) (Em rfl (Est rfl (n0 b0q rfl rfl rfl dc (fun w Lp hA => ⟨hA.ro Y8, hA.ro W6, (by first | assumption | omega), (by first | assumption | omega)⟩)) (fun _ _ => (Ei rfl (Eu (Eq_ (Ew Z2 (Em rfl (Ey rfl ((Y.lss rfl rfl).yd) (o6 (fun q10 => ?_) (fun q10 => ?_)))))))))))))))))
 ·have z10 := a0X q10 om
  refine Eu (o2 rfl (Ew Z1 (Ei rfl ?_)))
  exact Eu (E.ret (l4 (Fg rfl rfl () (congrArg (Value.int .i64) (by unfold szR; split <;> omega)) rfl)))
 ·obtain ⟨z10, y10⟩ := a1I q10 om
  refine Eu (o3 rfl (j5 (Et (Ew Z5 (Ey rfl ((j7 fo_lGuarded_1 ty_lAtoms dc rfl).yd) (Ey rfl (g9 ty_lAtoms rfl (Hz m0 2 rfl) rfl) (Em rfl (Est rfl (n0 a5E rfl rfl rfl dc (fun w Lp hA => ⟨hA.ro a4i, (by first | assumption | omega), (by first | assumption | omega)⟩)) (fun _ _ => (Ei rfl (Eu (Eq_ (Ew Z2 (Em rfl (Ey rfl ((Y.lss rfl rfl).yd) (o6 (fun q16 => ?_) (fun q16 => ?_)))))))))))))))))
  ·have z16 := a0X q16 om
   refine Eu (o2 rfl (Ew Z1 (Ei rfl ?_)))
   exact Eu (E.ret (l4 (Fg rfl rfl () (congrArg (Value.int .i64) (by unfold szR; split <;> omega)) rfl)))
  ·obtain ⟨z16, y16⟩ := a1I q16 om
   refine Eu (o3 rfl (j5 (Et (Ew Z2 (Em rfl (Ei rfl ?_))))))
   exact Eu (E.ret (Fg rfl rfl () (congrArg (Value.int .i64) (by have e : szR (I6.length + I9 (fun x => x.2.length) I1 + I9 (fun x => x.2.length) a1l) left = left - ((I6.length + I9 (fun x => x.2.length) I1 + I9 (fun x => x.2.length) a1l : Nat) : Int) := by { unfold szR; split <;> omega }; omega)) rfl))
theorem a1W (h0 : I6.length ≤ 1048576) (h1 : I9 (fun x => x.2.length) I1 ≤ 1048576) (h2 : I9 (fun x => x.2.length) a1l ≤ 1048576) : Tr Tryz.prog 50 [.agg #[.slice M9 M7 M8, .slice K5 K3 K4, .slice a0y a0w a0x]] (fun w L => Ro w L eIs [.slice M9 M7 M8] I6 ∧ Ro w L B7 [.slice K5 K3 K4] I1 ∧ Ro w L B7 [.slice a0y a0w a0x] a1l) [] (κ := (Option Addr × Nat × Nat) × (Option Addr × Nat × Nat) × (Option Addr × Nat × Nat)) (fun k => True) (fun k => .agg #[.slice k.1.1 k.1.2.1 k.1.2.2, .slice k.2.1.1 k.2.1.2.1 k.2.1.2.2, .slice k.2.2.1 k.2.2.2.1 k.2.2.2.2]) (fun k => [ow eIs [.slice k.1.1 k.1.2.1 k.1.2.2] I6, ow B7 [.slice k.2.1.1 k.2.1.2.1 k.2.1.2.2] I1, ow B7 [.slice k.2.2.1 k.2.2.2.1 k.2.2.2.2] a1l]) := by
 refine n9 Tryz.func50 rfl (n := 13) rfl (by decide +kernel) bl (fr := [(0, .agg #[.slice M9 M7 M8, .slice K5 K3 K4, .slice a0y a0w a0x])]) rfl fun w L hR => ?_
 obtain ⟨Y8, W6, a4i⟩ := hR
 obtain ⟨rfl, a4p⟩ := Y8.slen
 obtain ⟨rfl, a3U⟩ := W6.slen
 obtain ⟨rfl, b3o⟩ := a4i.slen
 refine Ew Z2 (Est rfl (N.box (cs := [_, _, _]) rfl dc rfl) (fun b1 _ => (Est rfl (N.alloc ty_Guarded dc) (fun b2 _ => (Ev Z1 (Est rfl (N.alloc ty_Guarded dc) (fun b3 _ => (Ev Z5 (Ey rfl ((j7 fo_lGuarded_0 ty_lQuery dc rfl).yd) (Ey rfl (o9 (cs := [_, _]) ty_lQuery rfl ((Has.pt (mS (mS m0))).sub (cs' := [_, _]) 0 rfl) rfl) (Est rfl (N.call (b0u fc fc) rfl rfl rfl dc rfl (fun w Lp hA => ⟨hA.ro Y8, hA.ro W6⟩)) (fun k6 _ => ?_))))))))))))
 obtain ⟨⟨a6_0, m6_0, c6_0⟩, ⟨a6_1, m6_1, c6_1⟩⟩ := k6
 refine i9 m0 fun e6_0 l6_0 => ?_
 subst e6_0
 refine i9 (mS m0) fun e6_1 l6_1 => ?_
 subst e6_1
 refine Ey rfl ((j7 fo_Guarded_0 ty_Query dc rfl).yd) (r5 (Est rfl (Ns [_, _, _] ty_Query rfl) (fun _ _ => (Ev Z5 (Ey rfl ((j7 fo_lGuarded_1 ty_lAtoms dc rfl).yd) (Ey rfl (g9 ty_lAtoms rfl (Hz (mS (mS (mS (mS m0)))) 2 rfl) rfl) (Est rfl (N.call (a5w fc) rfl rfl rfl dc rfl (fun w Lp hA => hA.ro a4i)) (fun k10 _ => ?_))))))))
 obtain ⟨a10, m10, c10⟩ := k10
 refine i9 m0 fun e10 l10 => ?_
 subst e10
 refine Ey rfl ((j7 fo_Guarded_1 ty_Atoms dc rfl).yd) (i7 (Est rfl (Ns [_, _, _] ty_Atoms rfl) (fun _ _ => (Ev Z2 (Ey rfl (o9 (cs := [_, _, _]) ty_Guarded rfl (Has.pt m0) rfl) (C7 (Est rfl (Ns [_, _, _] ty_Guarded rfl) (fun _ _ => (Eu (E.ret (r5 (C7 (C7 (r5 (r5 (r5 ?_))))))))))))))))
 exact a2k br rfl rfl (mS (mS (mS m0))) ty_Guarded rfl ((_, _, _), (_, _, _), (_, _, _)) trivial rfl (J := _) (.refl _) (.inl rfl)
theorem a8v {a3V : Option Addr} {a3W a3X : Nat} {a7A : List Int} {a3G : Option Addr} {a3H a3I : Nat} {a6R : List (Int × List Int)} {b0J : Option Addr} {b0K b0L : Nat} {b7f : List (Int × List Int)} : Tr Tryz.prog 53 [.agg #[.slice M9 M7 M8, .slice K5 K3 K4, .slice a0y a0w a0x], .agg #[.slice a3V a3W a3X, .slice a3G a3H a3I, .slice b0J b0K b0L]] (fun w L => Ro w L eIs [.slice M9 M7 M8] I6 ∧ Ro w L B7 [.slice K5 K3 K4] I1 ∧ Ro w L B7 [.slice a0y a0w a0x] a1l ∧ Ro w L eIs [.slice a3V a3W a3X] a7A ∧ Ro w L B7 [.slice a3G a3H a3I] a6R ∧ Ro w L B7 [.slice b0J b0K b0L] b7f) [] (κ := Unit) (fun k => True) (fun k => .bool (decide (((I6, I1), a1l) = ((a7A, a6R), b7f)))) (fun k => []) := by
 refine n9 Tryz.func53 rfl (n := 17) rfl (by decide +kernel) bl (fr := [(0, .agg #[.slice M9 M7 M8, .slice K5 K3 K4, .slice a0y a0w a0x]), (1, .agg #[.slice a3V a3W a3X, .slice a3G a3H a3I, .slice b0J b0K b0L])]) rfl fun w L hR => ?_
 obtain ⟨Y8, W6, a4i, a6S, a5Z, b5M⟩ := hR
 obtain ⟨rfl, a4p⟩ := Y8.slen
 obtain ⟨rfl, a3U⟩ := W6.slen
 obtain ⟨rfl, b3o⟩ := a4i.slen
 obtain ⟨rfl, b8i⟩ := a6S.slen
 obtain ⟨rfl, b8b⟩ := a5Z.slen
 obtain ⟨rfl, c1g⟩ := b5M.slen
 refine Ew Z3 (Est rfl (N.box (cs := [_, _, _]) rfl dc rfl) (fun b2 _ => (Est rfl (N.box (cs := [_, _, _]) rfl dc rfl) (fun b3 _ => (Ei rfl (Eu (Eq_ (Ew Z6 (Ey rfl ((j7 fo_Guarded_0 ty_Query dc rfl).yd) (Ey rfl (o9 (cs := [_, _]) ty_Query rfl ((Has.pt (mS m0)).sub (cs' := [_, _]) 0 rfl) rfl) (Ey rfl ((j7 fo_Guarded_0 ty_Query dc rfl).yd) (Ey rfl (o9 (cs := [_, _]) ty_Query rfl ((Has.pt m0).sub (cs' := [_, _]) 0 rfl) rfl) (Est rfl (n0 b0j rfl rfl rfl dc (fun w Lp hA => ⟨hA.ro Y8, hA.ro W6, hA.ro a6S, hA.ro a5Z⟩)) (fun _ _ => (Ent.b (fun q9 => ?_) (fun q9 => ?_))))))))))))))))
 ·refine Ey rfl ((Y.not (b := true) rfl).yd) (Eu (o3 rfl (j5 (Et (Eq_ (Ew Z6 (Ey rfl ((j7 fo_Guarded_1 ty_Atoms dc rfl).yd) (Ey rfl (g9 ty_Atoms rfl (Hz (mS m0) 2 rfl) rfl) (Ey rfl ((j7 fo_Guarded_1 ty_Atoms dc rfl).yd) (Ey rfl (g9 ty_Atoms rfl (Hz m0 2 rfl) rfl) (Est rfl (n0 a5D rfl rfl rfl dc (fun w Lp hA => ⟨hA.ro a4i, hA.ro b5M⟩)) (fun _ _ => (Ent.b (fun q15 => ?_) (fun q15 => ?_))))))))))))))
  ·refine Ey rfl ((Y.not (b := true) rfl).yd) (Eu (o3 rfl (j5 (Et (Ew Z1 (Ei rfl ?_))))))
   exact Eu (E.ret (Fb rfl rfl (by simp_all)))
  ·refine Ey rfl ((Y.not (b := false) rfl).yd) (Eu (o2 rfl (Ew Z1 (Ei rfl ?_))))
   exact Eu (E.ret (l4 (Fb rfl rfl (by simp_all))))
 ·refine Ey rfl ((Y.not (b := false) rfl).yd) (Eu (o2 rfl (Ew Z1 (Ei rfl ?_))))
  exact Eu (E.ret (l4 (Fb rfl rfl (by simp_all))))
theorem a5O {a_atoms : Option Addr} {m_atoms c_atoms : Nat} {f5 : List (Int × List Int)} {is_g : FuncId} {is_c : List Value} {D_is : Int → Prop} {is : Int → Bool} (hz : I9 (fun x => x.2.length) f5 ≤ 1048576) (hD_is : ∀ a ∈ f5, ∀ x ∈ a.2, D_is x) : Tr Tryz.prog 272 [.slice a_atoms m_atoms c_atoms, .func (.func is_g) #[] is_c.toArray] (fun w L => Ro w L B7 [.slice a_atoms m_atoms c_atoms] f5 ∧ FnP Tryz.prog w L is_g is_c Enc.int a7f D_is is) [] (κ := Option Addr × Nat × Nat) (fun k => True) (fun k => .slice k.1 k.2.1 k.2.2) (fun k => [ow eIs [.slice k.1 k.2.1 k.2.2] (B5 is f5)]) := by
 refine n9 Tryz.func272 rfl (n := 37) rfl (by decide +kernel) bl (fr := [(0, .slice a_atoms m_atoms c_atoms), (1, .func (.func is_g) #[] is_c.toArray)]) rfl fun w L hR => ?_
 obtain ⟨hatoms, his⟩ := hR
 obtain ⟨rfl, latoms⟩ := hatoms.slen
 refine Ew Z1 (Ei rfl (Ev Z2 (Est rfl (Nb [] [] us_Is i8 rfl rfl) (fun b10 _ => (Ent.drop (Ei rfl (Eu (Eq_ (Ew Z3 (Em rfl (Ey rfl ((Y.len us_Atoms rfl).yd) (Em rfl (Eu (E.block (s3 (A := []) (Own.nil (E := Enc.int) (e := tI) (a := (some ⟨b10, 0, none⟩))) rfl (j6 (congrArg (ow eIs [_]) (show [] = ((f5.take 0).flatMap (fun a : Int × List Int => a.2)).filter is from by first | rfl | (simp; done) | grind [B5, a1D, d1, d2, t1, t2])) (E.loop (κ := Nat × Option Addr × Nat × Nat) (fun g => g.1 ≤ f5.length ∧ True) (fun g => [(1, .func (.func is_g) #[] is_c.toArray), (5, .slice g.2.1 g.2.2.1 g.2.2.2), (11, .slice a_atoms f5.length c_atoms), (12, .int .i64 (↑f5.length : Int)), (13, .int .i64 (↑g.1 : Int))]) (fun g => [ow eIs [.slice g.2.1 g.2.2.1 g.2.2.2] (((f5.take g.1).flatMap (fun a : Int × List Int => a.2)).filter is)]) (fun g => f5.length - g.1) (0, (some ⟨b10, 0, none⟩), 0, 0) ⟨Nat.zero_le _, by simp⟩ ⟨rfl, rfl, rfl, rfl, rfl, trivial⟩ (.refl _) (fun g pg => ?_))))))))))))))))))
 obtain ⟨g, aA0_0, mA0_0, cA0_0⟩ := g
 try dsimp only at pg
 try dsimp only
 obtain ⟨pk, pa⟩ := pg
 have jt := b5m (is := is) (g := g) hz
 refine i9 m0 fun eaA0_0 laA0_0 => ?_
 subst eaA0_0
 refine Ew Z1 (Ey rfl ((Y.lss rfl rfl).yd) (o6 (fun q14 => ?_) (fun q14 => ?_)))
 ·obtain ⟨eb15, eo15, ec15, ea15, er15, el15, eh15⟩ := hatoms.elem g om
  obtain ⟨xa15_0, xc15_0, rfl, ei15_0, xh15_0⟩ := K0 er15
  have := xh15_0.slen.2
  refine Eu (Eq_ (o2 rfl (j5 (Et (Eq_ (E.block (Ew Z4 (Ey rfl ((r7 us_Atoms ty_Atom rfl ea15 rfl g rfl om).yd) (Ey rfl (o9 (cs := [_, _]) ty_Atom rfl (eh15 _) rfl) (Est rfl (N.alloc ty_Atom dc) (fun b7 _ => (Est rfl (Ns [_, _] ty_Atom rfl) (fun _ _ => (Ev Z4 (Ey rfl ((j7 fo_Atom_1 ty_Is dc rfl).yd) (Ey rfl (g9 ty_Is rfl (Hz m0 1 rfl) rfl) (Ey rfl ((Y.len us_Is rfl).yd) (Em rfl (Eu (E.block (i7 (j6 (congrArg (ow eIs [_]) (show ((f5.take g).flatMap (fun a : Int × List Int => a.2)).filter is = ((f5.take g).flatMap (fun a : Int × List Int => a.2)).filter is ++ (f5[g].2.take 0).filter is from by first | rfl | (simp; done) | grind [B5, a1D, d1, d2, t1, t2])) (E.loop (κ := Nat × Option Addr × Nat × Nat) (fun h => h.1 ≤ f5[g].2.length ∧ True) (fun h => [(1, .func (.func is_g) #[] is_c.toArray), (5, .slice h.2.1 h.2.2.1 h.2.2.2), (11, .slice a_atoms f5.length c_atoms), (12, .int .i64 (↑f5.length : Int)), (13, .int .i64 (g : Int)), (18, .slice xa15_0 f5[g].2.length xc15_0), (19, .int .i64 (↑f5[g].2.length : Int)), (20, .int .i64 (↑h.1 : Int))]) (fun h => [ow eIs [.slice h.2.1 h.2.2.1 h.2.2.2] (((f5.take g).flatMap (fun a : Int × List Int => a.2)).filter is ++ (f5[g].2.take h.1).filter is), pt b7 128 [.int .i64 f5[g].1, .slice xa15_0 f5[g].2.length xc15_0]]) (fun h => f5[g].2.length - h.1) (0, aA0_0, (((f5.take g).flatMap (fun a : Int × List Int => a.2)).filter is).length, cA0_0) ⟨Nat.zero_le _, by simp⟩ ⟨rfl, rfl, rfl, rfl, rfl, rfl, rfl, rfl, trivial⟩ (.refl _) (fun h ph => ?_))))))))))))))))))))))))
  obtain ⟨h, aA1_0, mA1_0, cA1_0⟩ := h
  try dsimp only at ph
  try dsimp only
  obtain ⟨pk, pa⟩ := ph
  have ju := a9F (is := is) (g := g) (h := h) hz om
  refine i9 m0 fun eaA1_0 laA1_0 => ?_
  subst eaA1_0
  refine Ew Z1 (Ey rfl ((Y.lss rfl rfl).yd) (o6 (fun q21 => ?_) (fun q21 => ?_)))
  ·obtain ⟨eb22, eo22, ea22, ei22, eh22⟩ := xh15_0.elemI h om
   refine Eu (Eq_ (o2 rfl (j5 (Et (Eq_ (E.block (Ew Z3 (Ey rfl ((r7 us_Is i8 rfl ea22 rfl h rfl om).yd) (Ey rfl (g9 i8 rfl (eh22 _) rfl) (Ei rfl (Ev Z3 (Em rfl (Em rfl (Est rfl (N.fn (cs := [_]) his rfl rfl rfl dc (fun w Lp hA => W0 ei22) (hD_is f5[g] (List.getElem_mem om) _ (List.getElem_mem om))) (fun _ _ => (Ent.b (fun q26 => ?_) (fun q26 => ?_)))))))))))))))))
   ·refine Eu (o2 rfl (Ez Z5 (Em rfl (Em rfl (Est rfl (Nb [_] [_] us_Is i8 rfl rfl) (fun b29 _ => (i7 (Est rfl (D6 (E := Enc.int) (ex := f5[g].2[h]) us_Is i8 rfl rfl rfl (Own.int ei22) rfl bn bn dc) (fun p30 _ => (Ei rfl (En (t7 (Et (Ez Z2 (Ey rfl ((Y.add rfl rfl om om).yd) (Em rfl (Eu (j6 (congrArg (ow eIs [_]) (show (((f5.take g).flatMap (fun a : Int × List Int => a.2)).filter is ++ (f5[g].2.take h).filter is) ++ [f5[g].2[h]] = ((f5.take g).flatMap (fun a : Int × List Int => a.2)).filter is ++ (f5[g].2.take (h + 1)).filter is from by grind [B5, a1D, d1, d2, t1, t2])) (i7 (i7 ?_))))))))))))))))))))
    exact Ea (h + 1, p30.1, ((((f5.take g).flatMap (fun a : Int × List Int => a.2)).filter is ++ (f5[g].2.take h).filter is).length + 1), p30.2) ⟨oz, trivial⟩
   ·refine Eu (o3 rfl (j5 (t7 (Et (Ez Z2 (Ey rfl ((Y.add rfl rfl om om).yd) (Em rfl (Eu (j6 (congrArg (ow eIs [_]) (show ((f5.take g).flatMap (fun a : Int × List Int => a.2)).filter is ++ (f5[g].2.take h).filter is = ((f5.take g).flatMap (fun a : Int × List Int => a.2)).filter is ++ (f5[g].2.take (h + 1)).filter is from by grind [B5, a1D, d1, d2, t1, t2])) (i7 (i7 ?_)))))))))))
    exact Ea (h + 1, aA1_0, (((f5.take g).flatMap (fun a : Int × List Int => a.2)).filter is ++ (f5[g].2.take h).filter is).length, cA1_0) ⟨oz, trivial⟩
  ·refine Eu (Eq_ (o3 rfl (E.exit (o8 (o8 (x9 (t7 (Et (Ez Z2 (Ey rfl ((Y.add rfl rfl om om).yd) (Em rfl (Eu (i7 (Ent.drop (j6 (congrArg (ow eIs [_]) (show ((f5.take g).flatMap (fun a : Int × List Int => a.2)).filter is ++ (f5[g].2.take h).filter is = ((f5.take (g + 1)).flatMap (fun a : Int × List Int => a.2)).filter is from by grind [B5, a1D, d1, d2, t1, t2])) ?_)))))))))))))))
   exact Ea (g + 1, aA1_0, (((f5.take g).flatMap (fun a : Int × List Int => a.2)).filter is ++ (f5[g].2.take h).filter is).length, cA1_0) ⟨oz, trivial⟩
 ·refine Eu (Eq_ (o3 rfl (E.exit (o8 (o8 (x9 (Et (Ew Z2 (Em rfl (Est rfl (N.call (pre := [_]) (b7x fc) rfl rfl rfl dc rfl tv) (fun _ _ => (Ev Z3 (Em rfl (Est rfl (N.call (pre := [_]) b4N rfl rfl rfl dc rfl tv) (fun k36 _ => ?_)))))))))))))))
  obtain ⟨a36, m36, c36⟩ := k36
  refine i9 m0 fun e36 l36 => ?_
  subst e36
  refine Ei rfl (Eu (E.ret (j6 (congrArg (ow eIs [_]) (show _ = B5 is f5 by rw [a1D]; grind [B5, d1, d2, t1, t2])) ?_)))
  exact Fg rfl rfl (_, _, _) rfl rfl
theorem a4m (hz : I9 (fun x => x.2.length) d7 ≤ 1048576) : Tr Tryz.prog 204 [.agg #[.slice x7 C6 x8, .slice v6 B3 v7]] (fun w L => Ro w L eIs [.slice x7 C6 x8] o0 ∧ Ro w L B7 [.slice v6 B3 v7] d7) [] (κ := Option Addr × Nat × Nat) (fun k => True) (fun k => .slice k.1 k.2.1 k.2.2) (fun k => [ow eIs [.slice k.1 k.2.1 k.2.2] (B5 (fun t => inR t 10 17) d7)]) := by
 refine n9 Tryz.func204 rfl (n := 6) rfl (by decide +kernel) bl (fr := [(0, .agg #[.slice x7 C6 x8, .slice v6 B3 v7])]) rfl fun w L hR => ?_
 obtain ⟨F6, D4⟩ := hR
 obtain ⟨rfl, a0t⟩ := F6.slen
 obtain ⟨rfl, X6⟩ := D4.slen
 refine Ew Z2 (Est rfl (N.box (cs := [_, _]) rfl dc rfl) (fun b1 _ => (Ei rfl (Ev Z4 (Ey rfl ((j7 fo_Query_1 ty_Atoms dc rfl).yd) (Ey rfl (g9 ty_Atoms rfl (Hz m0 1 rfl) rfl) (Est rfl (N.call (a5O (is := (fun t => inR t 10 17)) (D_is := (fun _ => True)) fc (by intros; exact trivial)) rfl rfl rfl dc rfl (fun w Lp hA => ⟨hA.ro D4, a2H (D := (fun _ => True)) (RR := fun _ _ => True) (fun hd => b7j a1C (fun _ _ _ => trivial)) (fun w' hk => trivial)⟩)) (fun k5 _ => ?_))))))))
 obtain ⟨a5, m5, c5⟩ := k5
 refine i9 m0 fun e5 l5 => ?_
 subst e5
 refine Ei rfl ?_
 exact Eu (E.ret (Fg rfl rfl (_, _, _) rfl rfl))
theorem a1F : Tr Tryz.prog 168 [.slice a_l m_l c_l, .int .i64 x] (fun w L => Ro w L eIs [.slice a_l m_l c_l] l) [] (κ := Unit) (fun k => True) (fun k => .bool (H9 l x)) (fun k => []) := by
 refine n9 Tryz.func168 rfl (n := 18) rfl (by decide +kernel) bl (fr := [(0, .slice a_l m_l c_l), (1, .int .i64 x)]) rfl fun w L hR => ?_
 have hl := hR
 obtain ⟨rfl, ll⟩ := hl.slen
 refine Ew Z1 (Ei rfl (Eu (Eq_ (Ew Z1 (Ei rfl (Eu (E.block (E.loop (κ := Nat) (fun g => g ≤ l.length ∧ H9 l x = H9 (l.drop g) x) (fun g => [(0, .slice a_l l.length c_l), (1, .int .i64 x), (5, .int .i64 (g : Int))]) (fun g => []) (fun g => l.length - g) 0 ⟨Nat.zero_le _, by simp⟩ ⟨rfl, rfl, rfl, trivial⟩ (.refl _) (fun g pg => ?_)))))))))
 obtain ⟨pk, pa⟩ := pg
 refine Eq_ (Ew Z4 (Em rfl (Em rfl (Ey rfl ((Y.len us_Is rfl).yd) (Ey rfl ((Y.lss rfl rfl).yd) (o6 (fun q9 => ?_) (fun q9 => ?_)))))))
 ·refine Eu (o2 rfl (j5 (Et (Eq_ (E.block (Ew Z6 (Em rfl (Em rfl ?_))))))))
  obtain ⟨eb14, eo14, ea14, ei14, eh14⟩ := hl.elemI g om
  refine Ey rfl ((r7 us_Is i8 rfl ea14 rfl g rfl om).yd) (Ey rfl (g9 i8 rfl (eh14 _) rfl) (Em rfl (Ey rfl ((Y.eql rfl rfl).yd) (o6 (fun q17 => ?_) (fun q17 => ?_)))))
  ·refine Eu (o2 rfl (Ew Z1 (Ei rfl ?_)))
   exact Eu (E.ret (w5 (l4 (l4 (w5 (l4 (Fb rfl rfl (by grind [H9, d1, d2, t1, t2]))))))))
  ·refine Eu (o3 rfl (j5 (t7 (Et (Ez Z3 (Em rfl (Ey rfl ((Y.add rfl rfl om om).yd) (Ei rfl ?_))))))))
   exact Eu (v8 br (g + 1) rs (.refl _) ⟨by omega, by grind [H9, d1, d2, t1, t2]⟩ om)
 ·refine Eu (o3 rfl (E.exit (o8 (o8 (x9 (Et (Ew Z1 (Ei rfl ?_))))))))
  exact Eu (E.ret (Fb rfl rfl (by grind [H9, d1, d2, t1, t2])))
theorem a7k (hz : l.length ≤ 1073741824) : Tr Tryz.prog 244 [.slice a_l m_l c_l, .int .i64 x] (fun w L => I64 x) [ow eIs [.slice a_l m_l c_l] l] (κ := Option Addr × Nat × Nat) (fun k => True) (fun k => .slice k.1 k.2.1 k.2.2) (fun k => [ow eIs [.slice k.1 k.2.1 k.2.2] (M4 l x)]) := by
 refine n9 Tryz.func244 rfl (n := 47) rfl (by decide +kernel) bl (fr := [(0, .slice a_l m_l c_l), (1, .int .i64 x)]) rfl fun w L hR => ?_
 have i6x := hR
 refine i9 m0 fun el ll => ?_
 subst el
 refine Ew Z1 (Ei rfl (Eu (Eq_ (Ew Z3 (Em rfl (Em rfl (Est rfl (n0 a1F rfl rfl rfl dc (fun w Lp hA => hA.ow m0)) (fun _ _ => (Ent.b (fun q10 => ?_) (fun q10 => ?_))))))))))
 ·refine Eu (o2 rfl (Ew Z2 (Em rfl (Ei rfl (Eu (E.ret (l4 (j6 (congrArg (ow eIs [_]) (show _ = M4 l x by grind [M4, X5, W5, a0r, d1, d2, t1, t2])) ?_))))))))
  exact Fg rfl rfl (_, _, _) rfl rfl
 ·refine b4T (A := [_]) rfl fun wb1 Lb1 hB1 hA1 => ?_
  have rb1 : Ro wb1 Lb1 eIs [.slice a_l l.length c_l] l := hA1.ow m0
  refine Eu (o3 rfl (j5 (Et (Ew Z2 (Est rfl (Nb [] [] us_Is i8 rfl rfl) (fun b12 _ => (Ent.drop (Ei rfl (Ev Z1 (Ei rfl (Eu (Eq_ (Ew Z1 (Ei rfl (Eu (E.block (s3 (A := []) (Own.nil (E := Enc.int) (e := tI) (a := (some ⟨b12, 0, none⟩))) rfl (j6 (congrArg (ow eIs [_]) (show [] = O4 (fun y => decide (x < y)) x (l.take 0) from by first | rfl | (simp; done) | grind [M4, X5, W5, a0r, d1, d2, t1, t2])) (E.loop (κ := Nat × Option Addr × Nat × Nat) (fun g => g.1 ≤ l.length ∧ True) (fun g => [(0, .slice a_l l.length c_l), (1, .int .i64 x), (5, .slice g.2.1 g.2.2.1 g.2.2.2), (6, .bool ((l.take g.1).any (fun y => decide (x < y)))), (7, .int .i64 (↑g.1 : Int))]) (fun g => [ow eIs [.slice g.2.1 g.2.2.1 g.2.2.2] (O4 (fun y => decide (x < y)) x (l.take g.1))]) (fun g => l.length - g.1) (0, (some ⟨b12, 0, none⟩), 0, 0) ⟨Nat.zero_le _, by simp⟩ ⟨rfl, rfl, rfl, frB (by first | rfl | (simp; done) | grind [M4, X5, W5, a0r, d1, d2, t1, t2]), rfl, trivial⟩ (.refl _) (fun g pg => ?_))))))))))))))))))))
  obtain ⟨g, aA0_0, mA0_0, cA0_0⟩ := g
  try dsimp only at pg
  try dsimp only
  obtain ⟨pk, pa⟩ := pg
  have jp := List.length_take_le g l
  have ji := a6u (p := (fun y => decide (x < y))) (f := x) (l := l.take g)
  refine i9 m0 fun eaA0_0 laA0_0 => ?_
  subst eaA0_0
  refine Eq_ (Ew Z4 (Em rfl (Em rfl (Ey rfl ((Y.len us_Is rfl).yd) (Ey rfl ((Y.lss rfl rfl).yd) (o6 (fun q16 => ?_) (fun q16 => ?_)))))))
  ·refine Eu (o2 rfl (j5 (Et (Eq_ (E.block (Eq_ (Ew Z10 (Em rfl (Ent.b (fun q19 => ?_) (fun q19 => ?_))))))))))
   ·refine Ey rfl ((Y.not (b := true) rfl).yd) (Em rfl (Es rfl (Es rfl (Es rfl (Es rfl (Es rfl (Es rfl (Ey rfl ((u0 rfl rfl).yd) (Eu (o3 rfl (j5 (Et (Ez Z8 (Em rfl (Em rfl (Em rfl ?_))))))))))))))))
    obtain ⟨eb36, eo36, ea36, ei36, eh36⟩ := rb1.elemI g om
    refine Ey rfl ((r7 us_Is i8 rfl ea36 rfl g rfl om).yd) (Ey rfl (g9 i8 rfl (eh36 _) rfl) (Est rfl (Nb [_] [_] us_Is i8 rfl rfl) (fun b38 _ => (i7 (Est rfl (D6 (E := Enc.int) (ex := l[g]) us_Is i8 rfl rfl rfl (Own.int ei36) rfl bn bn dc) (fun p39 _ => (Ei rfl (En (t7 (Et (Ez Z3 (Em rfl (Ey rfl ((Y.add rfl rfl om om).yd) (Ei rfl (Eu (j6 (congrArg (ow eIs [_]) (show (O4 (fun y => decide (x < y)) x (l.take g)) ++ [l[g]] = O4 (fun y => decide (x < y)) x (l.take (g + 1)) from by grind [M4, X5, W5, a0r, d1, d2, t1, t2])) ?_))))))))))))))))
    exact v8 br (g + 1, p39.1, ((O4 (fun y => decide (x < y)) x (l.take g)).length + 1), p39.2) ⟨rfl, rfl, rfl, frB (by grind [M4, X5, W5, a0r, d1, d2, t1, t2]), rfl, trivial⟩ (.refl _) ⟨oz, trivial⟩ oz
   ·refine Ey rfl ((Y.not (b := false) rfl).yd) (Em rfl (Em rfl (Em rfl ?_)))
    obtain ⟨eb24, eo24, ea24, ei24, eh24⟩ := rb1.elemI g om
    refine Ey rfl ((r7 us_Is i8 rfl ea24 rfl g rfl om).yd) (Ey rfl (g9 i8 rfl (eh24 _) rfl) (Em rfl (Ey rfl ((Y.gtr rfl rfl).yd) (o6 (fun q27 => ?_) (fun q27 => ?_)))))
    ·refine Ey rfl ((u7 rfl rfl).yd) (Eu (o2 rfl (Ew Z5 (Em rfl (Em rfl (Est rfl (Nb [_] [_] us_Is i8 rfl rfl) (fun b31 _ => (i7 (Est rfl (D6 (E := Enc.int) (ex := x) us_Is i8 rfl rfl rfl (Own.int i6x) rfl bn bn dc) (fun p32 _ => (Ei rfl (Eu (Ez Z1 (Ei rfl (Eu (Ez Z8 (Em rfl (Em rfl (Em rfl (Ey rfl ((r7 us_Is i8 rfl ea24 rfl g rfl om).yd) (Ey rfl (g9 i8 rfl (eh24 _) rfl) (Est rfl (Nb [_] [_] us_Is i8 rfl rfl) (fun b38 _ => (i7 (Est rfl (D6 (E := Enc.int) (ex := l[g]) us_Is i8 rfl rfl rfl (Own.int ei24) rfl bn bn dc) (fun p39 _ => (Ei rfl (En (t7 (Et (Ez Z3 (Em rfl (Ey rfl ((Y.add rfl rfl om om).yd) (Ei rfl (Eu (j6 (congrArg (ow eIs [_]) (show ((O4 (fun y => decide (x < y)) x (l.take g)) ++ [x]) ++ [l[g]] = O4 (fun y => decide (x < y)) x (l.take (g + 1)) from by grind [M4, X5, W5, a0r, d1, d2, t1, t2])) ?_))))))))))))))))))))))))))))))))))))
     exact v8 br (g + 1, p39.1, (((O4 (fun y => decide (x < y)) x (l.take g)).length + 1) + 1), p39.2) ⟨rfl, rfl, rfl, frB (by grind [M4, X5, W5, a0r, d1, d2, t1, t2]), rfl, trivial⟩ (.refl _) ⟨oz, trivial⟩ oz
    ·refine Ey rfl ((u7 rfl rfl).yd) (Eu (o3 rfl (j5 (Et (Ez Z8 (Em rfl (Em rfl (Em rfl (Ey rfl ((r7 us_Is i8 rfl ea24 rfl g rfl om).yd) (Ey rfl (g9 i8 rfl (eh24 _) rfl) (Est rfl (Nb [_] [_] us_Is i8 rfl rfl) (fun b38 _ => (i7 (Est rfl (D6 (E := Enc.int) (ex := l[g]) us_Is i8 rfl rfl rfl (Own.int ei24) rfl bn bn dc) (fun p39 _ => (Ei rfl (En (t7 (Et (Ez Z3 (Em rfl (Ey rfl ((Y.add rfl rfl om om).yd) (Ei rfl (Eu (j6 (congrArg (ow eIs [_]) (show (O4 (fun y => decide (x < y)) x (l.take g)) ++ [l[g]] = O4 (fun y => decide (x < y)) x (l.take (g + 1)) from by grind [M4, X5, W5, a0r, d1, d2, t1, t2])) ?_)))))))))))))))))))))))))
     exact v8 br (g + 1, p39.1, ((O4 (fun y => decide (x < y)) x (l.take g)).length + 1), p39.2) ⟨rfl, rfl, rfl, frB (by grind [M4, X5, W5, a0r, d1, d2, t1, t2]), rfl, trivial⟩ (.refl _) ⟨oz, trivial⟩ oz
  ·refine Eu (o3 rfl (E.exit (o8 (o8 (x9 (Et (Eq_ (Ew Z2 (Em rfl (Ent.b (fun q40 => ?_) (fun q40 => ?_)))))))))))
   ·refine Ey rfl ((Y.not (b := true) rfl).yd) (Eu (o3 rfl (j5 (Et (Ew Z2 (Em rfl (Ei rfl (Eu (E.ret (j6 (congrArg (ow eIs [_]) (show _ = M4 l x by grind [M4, X5, W5, a0r, d1, d2, t1, t2])) ?_))))))))))
    exact F.r1 hB1 rfl rfl (_, _, _) trivial rfl (J := _) (.refl _) (.inl rfl)
   ·refine Ey rfl ((Y.not (b := false) rfl).yd) (Eu (o2 rfl (Ez Z5 (Em rfl (Em rfl (Est rfl (Nb [_] [_] us_Is i8 rfl rfl) (fun b44 _ => (i7 (Est rfl (D6 (E := Enc.int) (ex := x) us_Is i8 rfl rfl rfl (Own.int i6x) rfl bn bn dc) (fun p45 _ => (Ei rfl (Ev Z2 (Em rfl (Ei rfl (Eu (E.ret (j6 (congrArg (ow eIs [_]) (show _ = M4 l x by grind [M4, X5, W5, a0r, d1, d2, t1, t2])) ?_)))))))))))))))))
    exact F.r1 hB1 rfl rfl (_, _, _) trivial rfl (J := _) (.refl _) (.inl rfl)
theorem a4l (hz : I9 (fun x => x.2.length) d7 ≤ 1048576) : Tr Tryz.prog 200 [.agg #[.slice x7 C6 x8, .slice v6 B3 v7]] (fun w L => Ro w L eIs [.slice x7 C6 x8] o0 ∧ Ro w L B7 [.slice v6 B3 v7] d7) [] (κ := Option Addr × Nat × Nat) (fun k => True) (fun k => .slice k.1 k.2.1 k.2.2) (fun k => [ow eIs [.slice k.1 k.2.1 k.2.2] (B5 (fun t => inR t 10 17) d7)]) := by
 refine n9 Tryz.func200 rfl (n := 47) rfl (by decide +kernel) bl (fr := [(0, .agg #[.slice x7 C6 x8, .slice v6 B3 v7])]) rfl fun w L hR => ?_
 obtain ⟨F6, D4⟩ := hR
 obtain ⟨rfl, a0t⟩ := F6.slen
 obtain ⟨rfl, X6⟩ := D4.slen
 have jv := D4.i64A
 refine Ew Z2 (Est rfl (N.box (cs := [_, _]) rfl dc rfl) (fun b1 _ => (Ei rfl (Ev Z2 (Est rfl (Nb [] [] us_Is i8 rfl rfl) (fun b6 _ => (Ent.drop (Ei rfl (Eu (Eq_ (Ew Z1 (Ei rfl (Eu (E.block (s3 (A := []) (Own.nil (E := Enc.int) (e := tI) (a := (some ⟨b6, 0, none⟩))) rfl (j6 (congrArg (ow eIs [_]) (show [] = V4 (((d7.take 0).flatMap (fun a : Int × List Int => a.2)).filter (fun t => inR t 10 17)) from by first | rfl | (simp; done) | grind [B5, a2Z, a3g, d1, d2, t1, t2])) (E.loop (κ := Nat × Option Addr × Nat × Nat) (fun g => g.1 ≤ d7.length ∧ True) (fun g => [(1, .pointer (some ⟨b1, 0, none⟩)), (3, .slice g.2.1 g.2.2.1 g.2.2.2), (4, .int .i64 (↑g.1 : Int))]) (fun g => [ow eIs [.slice g.2.1 g.2.2.1 g.2.2.2] (V4 (((d7.take g.1).flatMap (fun a : Int × List Int => a.2)).filter (fun t => inR t 10 17))), pt b1 61 [.slice x7 o0.length x8, .slice v6 d7.length v7]]) (fun g => d7.length - g.1) (0, (some ⟨b6, 0, none⟩), 0, 0) ⟨Nat.zero_le _, by simp⟩ ⟨rfl, rfl, rfl, trivial⟩ (.refl _) (fun g pg => ?_))))))))))))))))))
 obtain ⟨g, aA0_0, mA0_0, cA0_0⟩ := g
 try dsimp only at pg
 try dsimp only
 obtain ⟨pk, pa⟩ := pg
 refine i9 m0 fun eaA0_0 laA0_0 => ?_
 subst eaA0_0
 refine Eq_ (Ew Z5 (Em rfl (Ey rfl ((j7 fo_Query_1 ty_Atoms dc rfl).yd) (Ey rfl (g9 ty_Atoms rfl (Hz (mS m0) 1 rfl) rfl) (Ey rfl ((Y.len us_Atoms rfl).yd) (Ey rfl ((Y.lss rfl rfl).yd) (o6 (fun q11 => ?_) (fun q11 => ?_))))))))
 ·refine Eu (o2 rfl (j5 (Et (Eq_ (E.block (Ew Z1 (Ei rfl (Eu (E.block (j6 (congrArg (ow eIs [_]) (show V4 (((d7.take g).flatMap (fun a : Int × List Int => a.2)).filter (fun t => inR t 10 17)) = V4 (((d7.take g).flatMap (fun a : Int × List Int => a.2)).filter (fun t => inR t 10 17) ++ (d7[g].2.take 0).filter (fun t => inR t 10 17)) from by first | rfl | (simp; done) | grind [B5, a2Z, a3g, d1, d2, t1, t2])) (E.loop (κ := Nat × Option Addr × Nat × Nat) (fun h => h.1 ≤ d7[g].2.length ∧ True) (fun h => [(1, .pointer (some ⟨b1, 0, none⟩)), (3, .slice h.2.1 h.2.2.1 h.2.2.2), (4, .int .i64 (g : Int)), (5, .int .i64 (↑h.1 : Int))]) (fun h => [ow eIs [.slice h.2.1 h.2.2.1 h.2.2.2] (V4 (((d7.take g).flatMap (fun a : Int × List Int => a.2)).filter (fun t => inR t 10 17) ++ (d7[g].2.take h.1).filter (fun t => inR t 10 17))), pt b1 61 [.slice x7 o0.length x8, .slice v6 d7.length v7]]) (fun h => d7[g].2.length - h.1) (0, aA0_0, (V4 (((d7.take g).flatMap (fun a : Int × List Int => a.2)).filter (fun t => inR t 10 17))).length, cA0_0) ⟨Nat.zero_le _, by simp⟩ ⟨rfl, rfl, rfl, rfl, trivial⟩ (.refl _) (fun h ph => ?_))))))))))))
  obtain ⟨h, aA1_0, mA1_0, cA1_0⟩ := h
  try dsimp only at ph
  try dsimp only
  obtain ⟨pk, pa⟩ := ph
  have ju := a9F (is := (fun t => inR t 10 17)) (g := g) (h := h) hz om
  have jw := b6c (l := ((d7.take g).flatMap (fun a : Int × List Int => a.2)).filter (fun t => inR t 10 17) ++ (d7[g].2.take h).filter (fun t => inR t 10 17))
  refine i9 m0 fun eaA1_0 laA1_0 => ?_
  subst eaA1_0
  refine Eq_ (Ew Z9 (Em rfl (Ey rfl ((j7 fo_Query_1 ty_Atoms dc rfl).yd) (Ey rfl (g9 ty_Atoms rfl (Hz (mS m0) 1 rfl) rfl) (Em rfl ?_)))))
  obtain ⟨eb18, eo18, ec18, ea18, er18, el18, eh18⟩ := D4.elem g om
  obtain ⟨xa18_0, xc18_0, rfl, ei18_0, xh18_0⟩ := K0 er18
  have := xh18_0.slen.2
  refine Ey rfl ((r7 us_Atoms ty_Atom rfl ea18 rfl g rfl om).yd) (Ey rfl ((j7 fo_Atom_1 ty_Is dc rfl).yd) (Ey rfl (g9 ty_Is rfl ((eh18 _).sub (cs' := [_]) 1 rfl) rfl) (Ey rfl ((Y.len us_Is rfl).yd) (Ey rfl ((Y.lss rfl rfl).yd) (o6 (fun q22 => ?_) (fun q22 => ?_))))))
  ·refine Eu (o2 rfl (j5 (Et (Eq_ (E.block (Ew Z10 (Ey rfl ((j7 fo_Query_1 ty_Atoms dc rfl).yd) (Ey rfl (g9 ty_Atoms rfl (Hz (mS m0) 1 rfl) rfl) (Em rfl (Ey rfl ((r7 us_Atoms ty_Atom rfl ea18 rfl g rfl om).yd) (Ey rfl ((j7 fo_Atom_1 ty_Is dc rfl).yd) (Ey rfl (g9 ty_Is rfl ((eh18 _).sub (cs' := [_]) 1 rfl) rfl) (Em rfl ?_)))))))))))))
   obtain ⟨eb32, eo32, ea32, ei32, eh32⟩ := xh18_0.elemI h om
   refine Ey rfl ((r7 us_Is i8 rfl ea32 rfl h rfl om).yd) (Ey rfl (g9 i8 rfl (eh32 _) rfl) (Est rfl (n0 a1f rfl rfl rfl dc tv) (fun _ _ => (Ent.b (fun q34 => ?_) (fun q34 => ?_)))))
   ·refine Eu (o2 rfl (Ez Z12 (Em rfl (Ey rfl ((j7 fo_Query_1 ty_Atoms dc rfl).yd) (Ey rfl (g9 ty_Atoms rfl (Hz (mS m0) 1 rfl) rfl) (Em rfl (Ey rfl ((r7 us_Atoms ty_Atom rfl ea18 rfl g rfl om).yd) (Ey rfl ((j7 fo_Atom_1 ty_Is dc rfl).yd) (Ey rfl (g9 ty_Is rfl ((eh18 _).sub (cs' := [_]) 1 rfl) rfl) (Em rfl (Ey rfl ((r7 us_Is i8 rfl ea32 rfl h rfl om).yd) (Ey rfl (g9 i8 rfl (eh32 _) rfl) (Est rfl (N.call (pre := [_]) (a7k fc) rfl rfl rfl dc rfl (fun w Lp hA => ei32)) (fun k45 _ => ?_))))))))))))))
    obtain ⟨a45, m45, c45⟩ := k45
    refine i9 m0 fun e45 l45 => ?_
    subst e45
    refine Ei rfl (En (t7 (Et (Ez Z3 (Em rfl (Ey rfl ((Y.add rfl rfl om om).yd) (Ei rfl (Eu (j6 (congrArg (ow eIs [_]) (show M4 (V4 (((d7.take g).flatMap (fun a : Int × List Int => a.2)).filter (fun t => inR t 10 17) ++ (d7[g].2.take h).filter (fun t => inR t 10 17))) d7[g].2[h] = V4 (((d7.take g).flatMap (fun a : Int × List Int => a.2)).filter (fun t => inR t 10 17) ++ (d7[g].2.take (h + 1)).filter (fun t => inR t 10 17)) from by grind [B5, a2Z, a3g, d1, d2, t1, t2])) (i7 (i7 ?_)))))))))))
    exact Ea (h + 1, a45, (M4 (V4 (((d7.take g).flatMap (fun a : Int × List Int => a.2)).filter (fun t => inR t 10 17) ++ (d7[g].2.take h).filter (fun t => inR t 10 17))) d7[g].2[h]).length, c45) ⟨oz, trivial⟩
   ·refine Eu (o3 rfl (j5 (t7 (Et (Ez Z3 (Em rfl (Ey rfl ((Y.add rfl rfl om om).yd) (Ei rfl (Eu (j6 (congrArg (ow eIs [_]) (show V4 (((d7.take g).flatMap (fun a : Int × List Int => a.2)).filter (fun t => inR t 10 17) ++ (d7[g].2.take h).filter (fun t => inR t 10 17)) = V4 (((d7.take g).flatMap (fun a : Int × List Int => a.2)).filter (fun t => inR t 10 17) ++ (d7[g].2.take (h + 1)).filter (fun t => inR t 10 17)) from by grind [B5, a2Z, a3g, d1, d2, t1, t2])) (i7 (i7 ?_))))))))))))
    exact Ea (h + 1, aA1_0, (V4 (((d7.take g).flatMap (fun a : Int × List Int => a.2)).filter (fun t => inR t 10 17) ++ (d7[g].2.take h).filter (fun t => inR t 10 17))).length, cA1_0) ⟨oz, trivial⟩
  ·refine Eu (o3 rfl (E.exit (o8 (o8 (x9 (t7 (Et (Ez Z3 (Em rfl (Ey rfl ((Y.add rfl rfl om om).yd) (Ei rfl (Eu (j6 (congrArg (ow eIs [_]) (show V4 (((d7.take g).flatMap (fun a : Int × List Int => a.2)).filter (fun t => inR t 10 17) ++ (d7[g].2.take h).filter (fun t => inR t 10 17)) = V4 (((d7.take (g + 1)).flatMap (fun a : Int × List Int => a.2)).filter (fun t => inR t 10 17)) from by grind [B5, a2Z, a3g, d1, d2, t1, t2])) (i7 (i7 ?_)))))))))))))))
   exact Ea (g + 1, aA1_0, (V4 (((d7.take g).flatMap (fun a : Int × List Int => a.2)).filter (fun t => inR t 10 17) ++ (d7[g].2.take h).filter (fun t => inR t 10 17))).length, cA1_0) ⟨oz, trivial⟩
 ·refine Eu (o3 rfl (E.exit (o8 (o8 (x9 (Et (Ew Z2 (Em rfl (Ei rfl (Eu (E.ret (j6 (congrArg (ow eIs [_]) (show _ = B5 (fun t => inR t 10 17) d7 by grind [B5, a2Z, a3g, d1, d2, t1, t2])) ?_))))))))))))
  exact Fg rfl rfl (_, _, _) rfl rfl
theorem b1L : Tr Tryz.prog 315 [.int .i64 t] (fun w L => True) [] (κ := Unit) (fun k => True) (fun k => .bool (V3 t)) (fun k => []) := by
 refine n9 Tryz.func315 rfl (n := 9) rfl (by decide +kernel) bl (fr := [(0, .int .i64 t)]) rfl fun w L hR => (Ew Z1 (Ei rfl (Ev Z7 (Em rfl (Est rfl (n0 a5V rfl rfl rfl dc tv) (fun _ _ => (Ent.b (fun q4 => ?_) (fun q4 => ?_))))))))
 ·refine Em rfl (Es rfl (Es rfl (Ey rfl ((u7 rfl rfl).yd) (Ei rfl ?_))))
  exact Eu (E.ret (Fb rfl rfl (by grind [V3, d1, d2, t1, t2])))
 ·refine Em rfl (Em rfl (Est rfl (n0 a1C rfl rfl rfl dc tv) (fun _ _ => (Ey rfl ((u0 rfl rfl).yd) (Ei rfl ?_)))))
  exact Eu (E.ret (Fb rfl rfl (by grind [V3, d1, d2, t1, t2])))
theorem b1G : Tr Tryz.prog 280 [.int .i64 t] (fun w L => True) [] (κ := Unit) (fun k => True) (fun k => .bool (V3 t)) (fun k => []) := by
 refine n9 Tryz.func280 rfl (n := 9) rfl (by decide +kernel) bl (fr := [(0, .int .i64 t)]) rfl fun w L hR => (Ew Z1 (Ei rfl (Ev Z7 (Em rfl (Est rfl (n0 K2 rfl rfl rfl dc tv) (fun _ _ => (Ent.b (fun q4 => ?_) (fun q4 => ?_))))))))
 ·refine Em rfl (Es rfl (Es rfl (Ey rfl ((u7 rfl rfl).yd) (Ei rfl ?_))))
  exact Eu (E.ret (Fb rfl rfl (by grind [V3, d1, d2, t1, t2])))
 ·refine Em rfl (Em rfl (Est rfl (n0 a1f rfl rfl rfl dc tv) (fun _ _ => (Ey rfl ((u0 rfl rfl).yd) (Ei rfl ?_)))))
  exact Eu (E.ret (Fb rfl rfl (by grind [V3, d1, d2, t1, t2])))
theorem a8c : Tr Tryz.prog 314 [.int .i64 t] (fun w L => (I64 t) ∧ True) [] (κ := Unit) (fun k => True) (fun k => .bool (!V3 t)) (fun k => []) := by
 refine n9 Tryz.func314 rfl (n := 6) rfl (by decide +kernel) bl (fr := [(0, .int .i64 t)]) rfl fun w L hR => ?_
 obtain ⟨i6t, _⟩ := hR
 refine Ew Z1 (Ei rfl (Ev Z4 (Em rfl (Est rfl (n0 b1L rfl rfl rfl dc tv) (fun _ _ => (Ey rfl ((Y.not rfl).yd) (Ei rfl ?_)))))))
 exact Eu (E.ret (Fb rfl rfl (by grind [d1, d2, t1, t2])))
theorem a9R : Tr Tryz.prog 286 [.slice a_l m_l c_l] (fun w L => Ro w L eIs [.slice a_l m_l c_l] l) [] (κ := Unit) (fun k => True) (fun k => .bool (!l.any fun t => !V3 t)) (fun k => []) := by
 refine n9 Tryz.func286 rfl (n := 6) rfl (by decide +kernel) bl (fr := [(0, .slice a_l m_l c_l)]) rfl fun w L hR => ?_
 have hl := hR
 obtain ⟨rfl, ll⟩ := hl.slen
 refine Ew Z1 (Ei rfl (Ev Z4 (Em rfl (Est rfl (n0 (V8 (f := (fun t => !V3 t)) (D_f := (fun _ => True)) (by intros; exact trivial)) rfl rfl rfl dc (fun w Lp hA => ⟨hA.ro hl, a2H (D := (fun _ => True)) (fun hd => a8c) (fun w' hk => trivial)⟩)) (fun _ _ => (Ey rfl ((Y.not rfl).yd) (Ei rfl ?_)))))))
 exact Eu (E.ret (Fb rfl rfl (by grind [d1, d2, t1, t2])))
theorem a6K : Tr Tryz.prog 228 [.slice a_s m_s c_s, .agg #[.int .i64 l0, .slice s7 u8 s6]] (fun w L => Ro w L eIs [.slice a_s m_s c_s] s ∧ I64 l0 ∧ Ro w L eIs [.slice s7 u8 s6] f7) [] (κ := Unit) (fun k => True) (fun k => .bool (J0 s (l0, f7))) (fun k => []) := by
 refine n9 Tryz.func228 rfl (n := 25) rfl (by decide +kernel) bl (fr := [(0, .slice a_s m_s c_s), (1, .agg #[.int .i64 l0, .slice s7 u8 s6])]) rfl fun w L hR => ?_
 obtain ⟨hs, G5, x6⟩ := hR
 obtain ⟨rfl, ls⟩ := hs.slen
 obtain ⟨rfl, N8⟩ := x6.slen
 refine Ew Z2 (Est rfl (N.box (cs := [_, _]) rfl dc rfl) (fun b3 _ => (Ei rfl (Eu (Eq_ (D.region (fun j => true) mixed (Dyp 0 rfl (l3 rfl) (Dyp 1 rfl (j7 fo_Atom_0 i8 dc rfl) (Dy 2 rfl (g9 i8 rfl (Hz m0 0 rfl) rfl) (t8 3 rfl rfl kr (fun _ => rfl) (n0 a4n rfl rfl rfl dc (fun w Lp hA => hA.ro hs)) (fun _ _ => (Ent.b (fun q8 => ?_) (fun q8 => ?_)))))))))))))
 ·obtain ⟨z1, z2, _, _⟩ := a1e q8
  refine Dyp 4 rfl (l3 rfl) (Dyp 5 rfl (j7 fo_Atom_1 ty_Is dc rfl) (Dy 6 rfl (g9 ty_Is rfl (Hz m0 1 rfl) rfl) (Dyp 7 rfl (Y.len us_Is rfl) (Dyp 8 rfl (l3 rfl) (Dyp 9 rfl (j7 fo_Atom_0 i8 dc rfl) (Dy 10 rfl (g9 i8 rfl (Hz m0 0 rfl) rfl) ?_))))))
  obtain ⟨eb16, eo16, ea16, ei16, eh16⟩ := hs.elemI l0.toNat om
  refine Dyp 11 rfl (r7 us_Is i8 rfl ea16 rfl l0.toNat om om) (Dy 12 rfl (g9 i8 rfl (eh16 _) rfl) (Dyp 13 rfl (Y.eql rfl rfl) (o6 (fun q18 => ?_) (fun q18 => ?_))))
  ·refine Dyp 14 rfl (u7 rfl rfl) (Dyp 15 rfl (l3 rfl) (Dyp 16 rfl (j7 fo_Atom_1 ty_Is dc rfl) (Dy 17 rfl (g9 ty_Is rfl (Hz m0 1 rfl) rfl) (t8 18 rfl rfl kr (fun _ => rfl) (n0 a9R rfl rfl rfl dc (fun w Lp hA => hA.ro x6)) (fun _ _ => (Dyp 19 rfl (u7 rfl rfl) (Dyp 20 rfl (F7 rfl) ?_)))))))
   exact r8 kr (Et (E.ret (Fb rfl rfl (by grind [J0, G0, d1, d2, t1, t2]))))
  ·refine Dyp 14 rfl (u7 rfl rfl) (Dyp 15 rfl (l3 rfl) (Dsk 16 rfl (Dsk 17 rfl (Dsk 18 rfl (Dyp 19 rfl (u0 rfl rfl) (Dyp 20 rfl (F7 rfl) ?_))))))
   exact r8 kr (Et (E.ret (Fb rfl rfl (by grind [J0, G0, d1, d2, t1, t2]))))
 ·refine Dyp 4 rfl (l3 rfl) (Dsk 5 rfl (Dsk 6 rfl (Dsk 7 rfl (Dsk 8 rfl (Dsk 9 rfl (Dsk 10 rfl (Dsk 11 rfl (Dsk 12 rfl (Dsk 13 rfl (Dyp 14 rfl (u0 rfl rfl) (Dyp 15 rfl (l3 rfl) (Dsk 16 rfl (Dsk 17 rfl (Dsk 18 rfl (Dyp 19 rfl (u0 rfl rfl) (Dyp 20 rfl (F7 rfl) ?_))))))))))))))))
  exact r8 kr (Et (E.ret (Fb rfl rfl (by grind [J0, G0, d1, d2, t1, t2]))))
theorem a6O : Tr Tryz.prog 219 [.slice a_s m_s c_s, .agg #[.int .i64 l0, .slice s7 u8 s6]] (fun w L => Ro w L eIs [.slice a_s m_s c_s] s ∧ I64 l0 ∧ Ro w L eIs [.slice s7 u8 s6] f7) [] (κ := Unit) (fun k => True) (fun k => .bool (J0 s (l0, f7))) (fun k => []) := by
 refine n9 Tryz.func219 rfl (n := 43) rfl (by decide +kernel) bl (fr := [(0, .slice a_s m_s c_s), (1, .agg #[.int .i64 l0, .slice s7 u8 s6])]) rfl fun w L hR => ?_
 obtain ⟨hs, G5, x6⟩ := hR
 obtain ⟨rfl, ls⟩ := hs.slen
 obtain ⟨rfl, N8⟩ := x6.slen
 refine Ew Z2 (Est rfl (N.box (cs := [_, _]) rfl dc rfl) (fun b3 _ => (Ei rfl (Eu (Eq_ (Eq_ (D.region (fun j => true) mixed (Dyp 0 rfl (l3 rfl) (t8 1 rfl rfl kr (fun _ => rfl) (n0 a0s rfl rfl rfl dc (fun w Lp hA => hA.ro hs)) (fun _ _ => (Ent.b (fun q7 => ?_) (fun q7 => ?_))))))))))))
 ·refine Dyp 2 rfl (Y.not (b := true) rfl) (Dyp 3 rfl (l3 rfl) (Dyp 4 rfl (j7 fo_Atom_0 i8 dc rfl) (Dy 5 rfl (g9 i8 rfl (Hz m0 0 rfl) rfl) (Dyp 6 rfl (l3 rfl) (Dyp 7 rfl (Y.len us_Is rfl) (Dyp 8 rfl (Y.sub rfl rfl om om) (t8 9 rfl rfl kr (fun _ => rfl) (n0 K2 rfl rfl rfl dc tv) (fun _ _ => (Ent.b (fun q15 => ?_) (fun q15 => ?_))))))))))
  ·have y1 : N6 s l0 = true := by rw [N6, q7, q15]; rfl
   obtain ⟨z1, z2, _, _⟩ := a1e y1
   refine Dyp 10 rfl (Y.not (b := true) rfl) (Dyp 11 rfl (u0 rfl rfl) (Dyp 12 rfl (l3 rfl) (Dyp 13 rfl (j7 fo_Atom_1 ty_Is dc rfl) (Dy 14 rfl (g9 ty_Is rfl (Hz m0 1 rfl) rfl) (Dyp 15 rfl (Y.len us_Is rfl) (Dyp 16 rfl (l3 rfl) (Dyp 17 rfl (j7 fo_Atom_0 i8 dc rfl) (Dy 18 rfl (g9 i8 rfl (Hz m0 0 rfl) rfl) ?_))))))))
   obtain ⟨eb25, eo25, ea25, ei25, eh25⟩ := hs.elemI l0.toNat om
   refine Dyp 19 rfl (r7 us_Is i8 rfl ea25 rfl l0.toNat om om) (Dy 20 rfl (g9 i8 rfl (eh25 _) rfl) (Dyp 21 rfl (Y.neq rfl rfl) (o6 (fun q27 => ?_) (fun q27 => ?_))))
   ·refine Dyp 22 rfl (u0 rfl rfl) (r8 kr (Et (o2 rfl (Ew Z1 (Ei rfl ?_)))))
    exact Eu (E.ret (l4 (Fb rfl rfl (by grind [J0, N6, G0, d1, d2, t1, t2]))))
   ·refine Dyp 22 rfl (u0 rfl rfl) (r8 kr (Et (o3 rfl (j5 (Et (Eq_ (Ew Z1 (Ei rfl (Eu (E.block (E.loop (κ := Nat) (fun g => g ≤ f7.length ∧ (f7.any fun t => !V3 t) = ((f7.drop g).any fun t => !V3 t)) (fun g => [(3, .pointer (some ⟨b3, 0, none⟩)), (5, .int .i64 (g : Int))]) (fun g => [pt b3 128 [.int .i64 l0, .slice s7 f7.length s6]]) (fun g => f7.length - g) 0 ⟨Nat.zero_le _, by simp⟩ ⟨rfl, rfl, trivial⟩ (.refl _) (fun g pg => ?_))))))))))))
    obtain ⟨pk, pa⟩ := pg
    refine Eq_ (Ew Z5 (Em rfl (Ey rfl ((j7 fo_Atom_1 ty_Is dc rfl).yd) (Ey rfl (g9 ty_Is rfl (Hz m0 1 rfl) rfl) (Ey rfl ((Y.len us_Is rfl).yd) (Ey rfl ((Y.lss rfl rfl).yd) (o6 (fun q33 => ?_) (fun q33 => ?_))))))))
    ·refine Eu (o2 rfl (j5 (Et (Eq_ (E.block (Ew Z7 (Ey rfl ((j7 fo_Atom_1 ty_Is dc rfl).yd) (Ey rfl (g9 ty_Is rfl (Hz m0 1 rfl) rfl) (Em rfl ?_)))))))))
     obtain ⟨eb39, eo39, ea39, ei39, eh39⟩ := x6.elemI g om
     refine Ey rfl ((r7 us_Is i8 rfl ea39 rfl g rfl om).yd) (Ey rfl (g9 i8 rfl (eh39 _) rfl) (Est rfl (n0 b1G rfl rfl rfl dc tv) (fun _ _ => (Ent.b (fun q41 => ?_) (fun q41 => ?_)))))
     ·refine Ey rfl ((Y.not (b := true) rfl).yd) (Eu (o3 rfl (j5 (t7 (Et (Ez Z3 (Em rfl (Ey rfl ((Y.add rfl rfl om om).yd) (Ei rfl ?_)))))))))
      exact Eu (v8 br (g + 1) ⟨rfl, rfl, trivial⟩ (.refl _) ⟨by omega, by grind [d1, d2, t1, t2]⟩ om)
     ·refine Ey rfl ((Y.not (b := false) rfl).yd) (Eu (o2 rfl (Ew Z1 (Ei rfl ?_))))
      exact Eu (E.ret (w5 (l4 (l4 (w5 (l4 (Fb rfl rfl (by grind [J0, N6, G0, d1, d2, t1, t2]))))))))
    ·refine Eu (o3 rfl (E.exit (o8 (o8 (x9 (Et (Ew Z1 (Ei rfl ?_))))))))
     exact Eu (E.ret (Fb rfl rfl (by grind [J0, N6, G0, d1, d2, t1, t2])))
  ·refine Dyp 10 rfl (Y.not (b := false) rfl) (Dyp 11 rfl (u0 rfl rfl) (Dyp 12 rfl (l3 rfl) (Dsk 13 rfl (Dsk 14 rfl (Dsk 15 rfl (Dsk 16 rfl (Dsk 17 rfl (Dsk 18 rfl (Dsk 19 rfl (Dsk 20 rfl (Dsk 21 rfl (Dyp 22 rfl (u7 rfl rfl) (r8 kr (Et (o2 rfl (Ew Z1 (Ei rfl ?_)))))))))))))))))
   exact Eu (E.ret (l4 (Fb rfl rfl (by grind [J0, N6, G0, d1, d2, t1, t2]))))
 ·refine Dyp 2 rfl (Y.not (b := false) rfl) (Dyp 3 rfl (l3 rfl) (Dsk 4 rfl (Dsk 5 rfl (Dsk 6 rfl (Dsk 7 rfl (Dsk 8 rfl (Dsk 9 rfl (Dsk 10 rfl (Dyp 11 rfl (u7 rfl rfl) (Dyp 12 rfl (l3 rfl) (Dsk 13 rfl (Dsk 14 rfl (Dsk 15 rfl (Dsk 16 rfl (Dsk 17 rfl (Dsk 18 rfl (Dsk 19 rfl (Dsk 20 rfl (Dsk 21 rfl (Dyp 22 rfl (u7 rfl rfl) (r8 kr (Et (o2 rfl (Ew Z1 (Ei rfl ?_)))))))))))))))))))))))))
  exact Eu (E.ret (l4 (Fb rfl rfl (by grind [J0, N6, G0, d1, d2, t1, t2]))))
theorem a0J {v : Int} : Tr Tryz.prog 251 [.slice a_s m_s c_s, .int .i64 v] (fun w L => Ro w L eIs [.slice a_s m_s c_s] s) [] (κ := Unit) (fun k => True) (fun k => .bool (H9 s v)) (fun k => []) := by
 refine n9 Tryz.func251 rfl (n := 9) rfl (by decide +kernel) bl (fr := [(0, .slice a_s m_s c_s), (1, .int .i64 v)]) rfl fun w L hR => ?_
 have hs := hR
 obtain ⟨rfl, ls⟩ := hs.slen
 refine Ew Z1 (Ei rfl (Ev Z5 (Em rfl (Em rfl (Est rfl (n0 b0V rfl rfl rfl dc (fun w Lp hA => hA.ro hs)) (fun _ _ => (Ey rfl ((Y.geq rfl rfl).yd) (Ei rfl ?_))))))))
 exact Eu (E.ret (Fb rfl rfl (by exact a0Q)))
theorem a8B : Tr Tryz.prog 287 [.int .i64 t, .pointer (some ⟨b_vars, 0, none⟩)] (fun w L => (I64 t) ∧ RoPt w L b_vars [.slice a_vars m_vars c_vars] ∧ Ro w L eIs [.slice a_vars m_vars c_vars] vars) [] (κ := Unit) (fun k => True) (fun k => .bool (!H9 vars t)) (fun k => []) := by
 refine n9 Tryz.func287 rfl (n := 8) rfl (by decide +kernel) bl (fr := [(0, .int .i64 t), (1, .pointer (some ⟨b_vars, 0, none⟩))]) rfl fun w L hR => ?_
 obtain ⟨i6t, hb_vars, hvars⟩ := hR
 obtain ⟨rfl, lvars⟩ := hvars.slen
 refine Ew Z1 (Ei rfl (Ev Z5 (Ey rfl (g9 ty_Is rfl (hb_vars.has) rfl) (Em rfl (Est rfl (n0 a0J rfl rfl rfl dc (fun w Lp hA => hA.ro hvars)) (fun _ _ => (Ey rfl ((Y.not rfl).yd) (Ei rfl ?_))))))))
 exact Eu (E.ret (Fb rfl rfl (by grind [d1, d2, t1, t2])))
theorem b0l (hz : I9 (fun x => x.2.length) d7 ≤ 1048576) : Tr Tryz.prog 229 [.agg #[.slice x7 C6 x8, .slice v6 B3 v7]] (fun w L => Ro w L eIs [.slice x7 C6 x8] o0 ∧ Ro w L B7 [.slice v6 B3 v7] d7) [] (κ := Unit) (fun k => True) (fun k => .bool (a2N (o0, d7))) (fun k => []) := by
 refine n9 Tryz.func229 rfl (n := 17) rfl (by decide +kernel) bl (fr := [(0, .agg #[.slice x7 C6 x8, .slice v6 B3 v7])]) rfl fun w L hR => ?_
 obtain ⟨F6, D4⟩ := hR
 obtain ⟨rfl, a0t⟩ := F6.slen
 obtain ⟨rfl, X6⟩ := D4.slen
 refine Ew Z2 (Est rfl (N.box (cs := [_, _]) rfl dc rfl) (fun b1 _ => (Ei rfl (Ev Z4 (Ey rfl (o9 (cs := [_, _]) ty_Query rfl (Has.pt m0) rfl) (Est rfl (N.call (a4m fc) rfl rfl rfl dc rfl (fun w Lp hA => ⟨hA.ro F6, hA.ro D4⟩)) (fun k5 _ => ?_)))))))
 obtain ⟨a5, m5, c5⟩ := k5
 refine i9 m0 fun e5 l5 => ?_
 subst e5
 refine Est rfl (N.alloc ty_Is dc) (fun b3 _ => (Est rfl (Ns [_] ty_Is rfl) (fun _ _ => (Ev Z12 (Ey rfl ((j7 fo_Query_0 ty_Is dc rfl).yd) (Ey rfl (g9 ty_Is rfl (Hz (mS (mS m0)) 0 rfl) rfl) (Ey rfl ((Y.len us_Is rfl).yd) (Ey rfl ((Y.leq rfl rfl).yd) (o6 (fun q9 => ?_) (fun q9 => ?_))))))))))
 ·refine Em rfl (Ey rfl ((j7 fo_Query_0 ty_Is dc rfl).yd) (Ey rfl (g9 ty_Is rfl (Hz (mS (mS m0)) 0 rfl) rfl) (Ey rfl ((Y.fn (vs := [_]) rfl).yd) (Est rfl (n0 (V8 (f := (fun t => !H9 (B5 (fun t => inR t 10 17) d7) t)) (D_f := (fun _ => True)) (by intros; exact trivial)) rfl rfl rfl dc (fun w Lp hA => ⟨hA.ro F6, a2H (D := (fun _ => True)) (fun hd => a8B) (fun w' hk => ⟨(hA.pt m0).keep hk, (hA.ow (mS m0)).keep hk⟩)⟩)) (fun _ _ => (Ey rfl ((Y.not rfl).yd) (Ey rfl ((u7 rfl rfl).yd) (Ei rfl ?_))))))))
  exact Eu (E.ret (Fb rfl rfl (by grind [a2N, d1, d2, t1, t2])))
 ·refine Em rfl (Es rfl (Es rfl (Es rfl (Es rfl (Es rfl (Ey rfl ((u0 rfl rfl).yd) (Ei rfl ?_)))))))
  exact Eu (E.ret (Fb rfl rfl (by grind [a2N, d1, d2, t1, t2])))
theorem a8N : Tr Tryz.prog 227 [.agg #[.int .i64 l0, .slice s7 u8 s6], .pointer (some ⟨b_s, 0, none⟩)] (fun w L => (I64 l0 ∧ Ro w L eIs [.slice s7 u8 s6] f7) ∧ RoPt w L b_s [.slice a_s m_s c_s] ∧ Ro w L eIs [.slice a_s m_s c_s] s) [] (κ := Unit) (fun k => True) (fun k => .bool (!J0 s (l0, f7))) (fun k => []) := by
 refine n9 Tryz.func227 rfl (n := 8) rfl (by decide +kernel) bl (fr := [(0, .agg #[.int .i64 l0, .slice s7 u8 s6]), (1, .pointer (some ⟨b_s, 0, none⟩))]) rfl fun w L hR => ?_
 obtain ⟨⟨G5, x6⟩, hb_s, hs⟩ := hR
 obtain ⟨rfl, N8⟩ := x6.slen
 obtain ⟨rfl, ls⟩ := hs.slen
 refine Ew Z2 (Est rfl (N.box (cs := [_, _]) rfl dc rfl) (fun b2 _ => (Ei rfl (Ev Z5 (Ey rfl (g9 ty_Is rfl (hb_s.has) rfl) (Ey rfl (o9 (cs := [_, _]) ty_Atom rfl (Has.pt m0) rfl) (Est rfl (n0 a6K rfl rfl rfl dc (fun w Lp hA => ⟨hA.ro hs, G5, hA.ro x6⟩)) (fun _ _ => (Ey rfl ((Y.not rfl).yd) (Ei rfl ?_))))))))))
 exact Eu (E.ret (Fb rfl rfl (by grind [d1, d2, t1, t2])))
theorem b0E (hz : I9 (fun x => x.2.length) d7 ≤ 1048576) : Tr Tryz.prog 154 [.slice a_s m_s c_s, .agg #[.slice x7 C6 x8, .slice v6 B3 v7]] (fun w L => Ro w L eIs [.slice a_s m_s c_s] s ∧ Ro w L eIs [.slice x7 C6 x8] o0 ∧ Ro w L B7 [.slice v6 B3 v7] d7) [] (κ := Unit) (fun k => True) (fun k => .bool (I4 s (o0, d7))) (fun k => []) := by
 refine n9 Tryz.func154 rfl (n := 24) rfl (by decide +kernel) bl (fr := [(0, .slice a_s m_s c_s), (1, .agg #[.slice x7 C6 x8, .slice v6 B3 v7])]) rfl fun w L hR => ?_
 obtain ⟨hs, F6, D4⟩ := hR
 obtain ⟨rfl, ls⟩ := hs.slen
 obtain ⟨rfl, a0t⟩ := F6.slen
 obtain ⟨rfl, X6⟩ := D4.slen
 refine Ew Z3 (Est rfl (N.box (cs := [_]) rfl dc rfl) (fun b2 _ => (Est rfl (N.box (cs := [_, _]) rfl dc rfl) (fun b3 _ => (Ei rfl (Ev Z20 (Ey rfl (g9 ty_Is rfl (Has.pt (mS m0)) rfl) (Est rfl (n0 a2o rfl rfl rfl dc (fun w Lp hA => hA.ro hs)) (fun _ _ => (Ent.b (fun q6 => ?_) (fun q6 => ?_)))))))))))
 ·refine Em rfl (Ey rfl ((j7 fo_Query_1 ty_Atoms dc rfl).yd) (Ey rfl (g9 ty_Atoms rfl (Hz m0 1 rfl) rfl) (Ey rfl ((Y.len us_Atoms rfl).yd) (Est rfl (n0 Q4 rfl rfl rfl dc tv) (fun _ _ => (Ent.b (fun q11 => ?_) (fun q11 => ?_)))))))
  ·refine Ey rfl ((u7 rfl rfl).yd) (Em rfl (Ey rfl ((j7 fo_Query_1 ty_Atoms dc rfl).yd) (Ey rfl (g9 ty_Atoms rfl (Hz m0 1 rfl) rfl) (Ey rfl ((Y.fn (vs := [_]) rfl).yd) (Est rfl (n0 (a3J (f := (fun z => !J0 s z)) (D_f := (fun _ => True)) (by intros; exact trivial)) rfl rfl rfl dc (fun w Lp hA => ⟨hA.ro D4, b0f (D := (fun _ => True)) (fun hd => a8N) (fun w' hk => ⟨(hA.pt (mS m0)).keep hk, (hA.ro hs).keep hk⟩)⟩)) (fun _ _ => (Ent.b (fun q17 => ?_) (fun q17 => ?_))))))))
   ·refine Ey rfl ((Y.not (b := true) rfl).yd) (Ey rfl ((u7 rfl rfl).yd) (Em rfl (Es rfl (Es rfl (Ey rfl ((u0 rfl rfl).yd) (Ei rfl ?_))))))
    exact Eu (E.ret (Fb rfl rfl (by grind [I4, d1, d2, t1, t2])))
   ·refine Ey rfl ((Y.not (b := false) rfl).yd) (Ey rfl ((u7 rfl rfl).yd) (Em rfl (Ey rfl (o9 (cs := [_, _]) ty_Query rfl (Has.pt m0) rfl) (Est rfl (n0 (b0l fc) rfl rfl rfl dc (fun w Lp hA => ⟨hA.ro F6, hA.ro D4⟩)) (fun _ _ => (Ey rfl ((u7 rfl rfl).yd) (Ei rfl ?_)))))))
    exact Eu (E.ret (Fb rfl rfl (by grind [I4, d1, d2, t1, t2])))
  ·refine Ey rfl ((u7 rfl rfl).yd) (Em rfl (Es rfl (Es rfl (Es rfl (Es rfl (Es rfl (Ey rfl ((u0 rfl rfl).yd) (Em rfl (Es rfl (Es rfl (Ey rfl ((u0 rfl rfl).yd) (Ei rfl ?_))))))))))))
   exact Eu (E.ret (Fb rfl rfl (by grind [I4, d1, d2, t1, t2])))
 ·refine Em rfl (Es rfl (Es rfl (Es rfl (Es rfl (Ey rfl ((u0 rfl rfl).yd) (Em rfl (Es rfl (Es rfl (Es rfl (Es rfl (Es rfl (Ey rfl ((u0 rfl rfl).yd) (Em rfl (Es rfl (Es rfl (Ey rfl ((u0 rfl rfl).yd) (Ei rfl ?_)))))))))))))))))
  exact Eu (E.ret (Fb rfl rfl (by grind [I4, d1, d2, t1, t2])))
theorem a5U (hz : I9 (fun x => x.2.length) d7 ≤ 1048576) : Tr Tryz.prog 137 [.slice a_s m_s c_s, .agg #[.slice x7 C6 x8, .slice v6 B3 v7]] (fun w L => Ro w L eIs [.slice a_s m_s c_s] s ∧ Ro w L eIs [.slice x7 C6 x8] o0 ∧ Ro w L B7 [.slice v6 B3 v7] d7) [] (κ := Unit) (fun k => True) (fun k => .bool (I4 s (o0, d7))) (fun k => []) := by
 refine n9 Tryz.func137 rfl (n := 54) rfl (by decide +kernel) bl (fr := [(0, .slice a_s m_s c_s), (1, .agg #[.slice x7 C6 x8, .slice v6 B3 v7])]) rfl fun w L hR => ?_
 obtain ⟨hs, F6, D4⟩ := hR
 obtain ⟨rfl, ls⟩ := hs.slen
 obtain ⟨rfl, a0t⟩ := F6.slen
 obtain ⟨rfl, X6⟩ := D4.slen
 refine Ew Z2 (Est rfl (N.box (cs := [_, _]) rfl dc rfl) (fun b3 _ => (Ei rfl (Eu (Eq_ (Ew Z1 (Ei rfl (Eu (E.block (E.loop (κ := Nat) (fun g => g ≤ d7.length ∧ (d7.any fun a => !J0 s a) = ((d7.drop g).any fun a => !J0 s a)) (fun g => [(0, .slice a_s s.length c_s), (3, .pointer (some ⟨b3, 0, none⟩)), (5, .int .i64 (g : Int))]) (fun g => [pt b3 61 [.slice x7 o0.length x8, .slice v6 d7.length v7]]) (fun g => d7.length - g) 0 ⟨Nat.zero_le _, by simp⟩ ⟨rfl, rfl, rfl, trivial⟩ (.refl _) (fun g pg => ?_)))))))))))
 obtain ⟨pk, pa⟩ := pg
 refine Eq_ (Ew Z5 (Em rfl (Ey rfl ((j7 fo_Query_1 ty_Atoms dc rfl).yd) (Ey rfl (g9 ty_Atoms rfl (Hz m0 1 rfl) rfl) (Ey rfl ((Y.len us_Atoms rfl).yd) (Ey rfl ((Y.lss rfl rfl).yd) (o6 (fun q12 => ?_) (fun q12 => ?_))))))))
 ·refine Eu (o2 rfl (j5 (Et (Eq_ (E.block (Ew Z8 (Em rfl (Ey rfl ((j7 fo_Query_1 ty_Atoms dc rfl).yd) (Ey rfl (g9 ty_Atoms rfl (Hz m0 1 rfl) rfl) (Em rfl ?_))))))))))
  obtain ⟨eb19, eo19, ec19, ea19, er19, el19, eh19⟩ := D4.elem g om
  obtain ⟨xa19_0, xc19_0, rfl, ei19_0, xh19_0⟩ := K0 er19
  have := xh19_0.slen.2
  refine Ey rfl ((r7 us_Atoms ty_Atom rfl ea19 rfl g rfl om).yd) (Ey rfl (o9 (cs := [_, _]) ty_Atom rfl (eh19 _) rfl) (Est rfl (n0 a6O rfl rfl rfl dc (fun w Lp hA => ⟨hA.ro hs, ei19_0, hA.ro xh19_0⟩)) (fun _ _ => (Ent.b (fun q21 => ?_) (fun q21 => ?_)))))
  ·refine Ey rfl ((Y.not (b := true) rfl).yd) (Eu (o3 rfl (j5 (t7 (Et (Ez Z3 (Em rfl (Ey rfl ((Y.add rfl rfl om om).yd) (Ei rfl ?_)))))))))
   exact Eu (v8 br (g + 1) rs (.refl _) ⟨by omega, by grind [d1, d2, t1, t2]⟩ om)
  ·refine Ey rfl ((Y.not (b := false) rfl).yd) (Eu (o2 rfl (Ew Z1 (Ei rfl ?_))))
   exact Eu (E.ret (w5 (l4 (l4 (w5 (l4 (Fb rfl rfl (by grind [I4, a2N, d1, d2, t1, t2]))))))))
 ·refine Eu (o3 rfl (E.exit (o8 (o8 (x9 (Et (Ew Z3 (Ey rfl (o9 (cs := [_, _]) ty_Query rfl (Has.pt m0) rfl) (Est rfl (N.call (a4l fc) rfl rfl rfl dc rfl (fun w Lp hA => ⟨hA.ro F6, hA.ro D4⟩)) (fun k24 _ => ?_))))))))))
  obtain ⟨a24, m24, c24⟩ := k24
  refine i9 m0 fun e24 l24 => ?_
  subst e24
  refine Ei rfl (Eu (Eq_ (Ew Z1 (Ei rfl (Eu (E.block (E.loop (κ := Nat) (fun g => g ≤ o0.length ∧ (o0.any (fun t => !H9 (B5 (fun t => inR t 10 17) d7) t)) = ((o0.drop g).any (fun t => !H9 (B5 (fun t => inR t 10 17) d7) t))) (fun g => [(0, .slice a_s s.length c_s), (3, .pointer (some ⟨b3, 0, none⟩)), (6, .slice a24 (B5 (fun t => inR t 10 17) d7).length c24), (7, .int .i64 (g : Int))]) (fun g => [ow eIs [.slice a24 (B5 (fun t => inR t 10 17) d7).length c24] (B5 (fun t => inR t 10 17) d7), pt b3 61 [.slice x7 o0.length x8, .slice v6 d7.length v7]]) (fun g => o0.length - g) 0 ⟨Nat.zero_le _, by simp⟩ ⟨rfl, rfl, rfl, rfl, trivial⟩ (.refl _) (fun g pg => ?_))))))))
  obtain ⟨pk, pa⟩ := pg
  refine Eq_ (Ew Z5 (Em rfl (Ey rfl ((j7 fo_Query_0 ty_Is dc rfl).yd) (Ey rfl (g9 ty_Is rfl (Hz (mS m0) 0 rfl) rfl) (Ey rfl ((Y.len us_Is rfl).yd) (Ey rfl ((Y.lss rfl rfl).yd) (o6 (fun q29 => ?_) (fun q29 => ?_))))))))
  ·refine Eu (o2 rfl (j5 (Et (Eq_ (E.block (Ew Z8 (Em rfl (Ey rfl ((j7 fo_Query_0 ty_Is dc rfl).yd) (Ey rfl (g9 ty_Is rfl (Hz (mS m0) 0 rfl) rfl) (Em rfl ?_))))))))))
   obtain ⟨eb36, eo36, ea36, ei36, eh36⟩ := F6.elemI g om
   refine Ey rfl ((r7 us_Is i8 rfl ea36 rfl g rfl om).yd) (Ey rfl (g9 i8 rfl (eh36 _) rfl) (Est rfl (n0 a1F rfl rfl rfl dc (fun w Lp hA => hA.ow m0)) (fun _ _ => (Ent.b (fun q38 => ?_) (fun q38 => ?_)))))
   ·refine Ey rfl ((Y.not (b := true) rfl).yd) (Eu (o3 rfl (j5 (t7 (Et (Ez Z3 (Em rfl (Ey rfl ((Y.add rfl rfl om om).yd) (Ei rfl (Eu (i7 (i7 ?_))))))))))))
    exact v8 br (g + 1) rs (.refl _) ⟨by omega, by grind [d1, d2, t1, t2]⟩ om
   ·refine Ey rfl ((Y.not (b := false) rfl).yd) (Eu (o2 rfl (Ew Z1 (Ei rfl ?_))))
    exact Eu (E.ret (w5 (l4 (l4 (w5 (l4 (Fb rfl rfl (by grind [I4, a2N, d1, d2, t1, t2]))))))))
  ·refine Eu (o3 rfl (E.exit (o8 (o8 (x9 (Et (Ew Z15 (Em rfl (Est rfl (n0 a0s rfl rfl rfl dc (fun w Lp hA => hA.ro hs)) (fun _ _ => (Ent.b (fun q41 => ?_) (fun q41 => ?_))))))))))))
   ·refine Em rfl (Ey rfl ((j7 fo_Query_1 ty_Atoms dc rfl).yd) (Ey rfl (g9 ty_Atoms rfl (Hz (mS m0) 1 rfl) rfl) (Ey rfl ((Y.len us_Atoms rfl).yd) (Est rfl (n0 K2 rfl rfl rfl dc tv) (fun _ _ => (Ent.b (fun q46 => ?_) (fun q46 => ?_)))))))
    ·refine Ey rfl ((u7 rfl rfl).yd) (Em rfl (Ey rfl ((j7 fo_Query_0 ty_Is dc rfl).yd) (Ey rfl (g9 ty_Is rfl (Hz (mS m0) 0 rfl) rfl) (Ey rfl ((Y.len us_Is rfl).yd) (Ey rfl ((Y.leq rfl rfl).yd) (Ey rfl ((u7 rfl rfl).yd) (Ei rfl ?_)))))))
     exact Eu (E.ret (Fb rfl rfl (by grind [I4, a2N, d1, d2, t1, t2])))
    ·refine Ey rfl ((u7 rfl rfl).yd) (Em rfl (Es rfl (Es rfl (Es rfl (Es rfl (Ey rfl ((u0 rfl rfl).yd) (Ei rfl ?_)))))))
     exact Eu (E.ret (Fb rfl rfl (by grind [I4, a2N, d1, d2, t1, t2])))
   ·refine Em rfl (Es rfl (Es rfl (Es rfl (Es rfl (Ey rfl ((u0 rfl rfl).yd) (Em rfl (Es rfl (Es rfl (Es rfl (Es rfl (Ey rfl ((u0 rfl rfl).yd) (Ei rfl ?_))))))))))))
    exact Eu (E.ret (Fb rfl rfl (by grind [I4, a2N, d1, d2, t1, t2])))
theorem a7j : Tr Tryz.prog 274 [.agg #[.int .i64 l0, .slice s7 u8 s6], .pointer (some ⟨b_s, 0, none⟩)] (fun w L => (I64 l0 ∧ Ro w L eIs [.slice s7 u8 s6] f7) ∧ RoPt w L b_s [.slice a_s m_s c_s] ∧ Ro w L eIs [.slice a_s m_s c_s] s) [] (κ := Unit) (fun k => True) (fun k => .bool (!J0 s (l0, f7))) (fun k => []) := by
 refine n9 Tryz.func274 rfl (n := 8) rfl (by decide +kernel) bl (fr := [(0, .agg #[.int .i64 l0, .slice s7 u8 s6]), (1, .pointer (some ⟨b_s, 0, none⟩))]) rfl fun w L hR => ?_
 obtain ⟨⟨G5, x6⟩, hb_s, hs⟩ := hR
 obtain ⟨rfl, N8⟩ := x6.slen
 obtain ⟨rfl, ls⟩ := hs.slen
 refine Ew Z2 (Est rfl (N.box (cs := [_, _]) rfl dc rfl) (fun b2 _ => (Ei rfl (Ev Z5 (Ey rfl (g9 ty_Is rfl (hb_s.has) rfl) (Ey rfl (o9 (cs := [_, _]) ty_Atom rfl (Has.pt m0) rfl) (Est rfl (n0 a6K rfl rfl rfl dc (fun w Lp hA => ⟨hA.ro hs, G5, hA.ro x6⟩)) (fun _ _ => (Ey rfl ((Y.not rfl).yd) (Ei rfl ?_))))))))))
 exact Eu (E.ret (Fb rfl rfl (by grind [d1, d2, t1, t2])))
theorem a7d : Tr Tryz.prog 275 [.int .i64 t, .pointer (some ⟨b_vars, 0, none⟩)] (fun w L => (I64 t) ∧ RoPt w L b_vars [.slice a_vars m_vars c_vars] ∧ Ro w L eIs [.slice a_vars m_vars c_vars] vars) [] (κ := Unit) (fun k => True) (fun k => .bool (!H9 vars t)) (fun k => []) := by
 refine n9 Tryz.func275 rfl (n := 8) rfl (by decide +kernel) bl (fr := [(0, .int .i64 t), (1, .pointer (some ⟨b_vars, 0, none⟩))]) rfl fun w L hR => ?_
 obtain ⟨i6t, hb_vars, hvars⟩ := hR
 obtain ⟨rfl, lvars⟩ := hvars.slen
 refine Ew Z1 (Ei rfl (Ev Z5 (Ey rfl (g9 ty_Is rfl (hb_vars.has) rfl) (Em rfl (Est rfl (n0 a0J rfl rfl rfl dc (fun w Lp hA => hA.ro hvars)) (fun _ _ => (Ey rfl ((Y.not rfl).yd) (Ei rfl ?_))))))))
 exact Eu (E.ret (Fb rfl rfl (by grind [d1, d2, t1, t2])))
theorem a8Z (hz : I9 (fun x => x.2.length) d4 ≤ 1048576) (hn : I9 (fun x => x.2.length) f0 ≤ 1048576) : Tr Tryz.prog 202 [.slice a_s m_s c_s, .agg #[.slice D0 G4 D1, .slice B8 F5 B9, .slice K7 R7 K8]] (fun w L => Ro w L eIs [.slice a_s m_s c_s] s ∧ Ro w L eIs [.slice D0 G4 D1] d6 ∧ Ro w L B7 [.slice B8 F5 B9] d4 ∧ Ro w L B7 [.slice K7 R7 K8] f0) [] (κ := Unit) (fun k => True) (fun k => .bool (R2 s ((d6, d4), f0))) (fun k => []) := by
 refine n9 Tryz.func202 rfl (n := 34) rfl (by decide +kernel) bl (fr := [(0, .slice a_s m_s c_s), (1, .agg #[.slice D0 G4 D1, .slice B8 F5 B9, .slice K7 R7 K8])]) rfl fun w L hR => ?_
 obtain ⟨hs, E5, D2, S4⟩ := hR
 obtain ⟨rfl, ls⟩ := hs.slen
 obtain ⟨rfl, a2g⟩ := E5.slen
 obtain ⟨rfl, a1K⟩ := D2.slen
 obtain ⟨rfl, a7z⟩ := S4.slen
 refine Ew Z3 (Est rfl (N.box (cs := [_]) rfl dc rfl) (fun b2 _ => (Est rfl (N.box (cs := [_, _, _]) rfl dc rfl) (fun b3 _ => (Ei rfl (Ev Z5 (Ey rfl ((j7 fo_Guarded_0 ty_Query dc rfl).yd) (Ey rfl (o9 (cs := [_, _]) ty_Query rfl ((Has.pt m0).sub (cs' := [_, _]) 0 rfl) rfl) (Est rfl (N.call (a4m fc) rfl rfl rfl dc rfl (fun w Lp hA => ⟨hA.ro E5, hA.ro D2⟩)) (fun k8 _ => ?_))))))))))
 obtain ⟨a8, m8, c8⟩ := k8
 refine i9 m0 fun e8 l8 => ?_
 subst e8
 refine Est rfl (N.alloc ty_Is dc) (fun b5 _ => (Est rfl (Ns [_] ty_Is rfl) (fun _ _ => (Ev Z26 (Ey rfl (g9 ty_Is rfl (Has.pt (mS (mS (mS m0)))) rfl) (Ey rfl ((j7 fo_Guarded_0 ty_Query dc rfl).yd) (Ey rfl (o9 (cs := [_, _]) ty_Query rfl ((Has.pt (mS (mS m0))).sub (cs' := [_, _]) 0 rfl) rfl) (Est rfl (n0 (b0E fc) rfl rfl rfl dc (fun w Lp hA => ⟨hA.ro hs, hA.ro E5, hA.ro D2⟩)) (fun _ _ => (Ent.b (fun q12 => ?_) (fun q12 => ?_)))))))))))
 ·refine Em rfl (Ey rfl ((j7 fo_Guarded_1 ty_Atoms dc rfl).yd) (Ey rfl (g9 ty_Atoms rfl (Hz (mS (mS m0)) 2 rfl) rfl) (Ey rfl ((Y.len us_Atoms rfl).yd) (Ey rfl ((Y.leq rfl rfl).yd) (o6 (fun q17 => ?_) (fun q17 => ?_))))))
  ·refine Ey rfl ((u7 rfl rfl).yd) (Em rfl (Ey rfl ((j7 fo_Guarded_1 ty_Atoms dc rfl).yd) (Ey rfl (g9 ty_Atoms rfl (Hz (mS (mS m0)) 2 rfl) rfl) (Ey rfl ((Y.fn (vs := [_]) rfl).yd) (Est rfl (n0 (a3J (f := (fun z => !J0 s z)) (D_f := (fun _ => True)) (by intros; exact trivial)) rfl rfl rfl dc (fun w Lp hA => ⟨hA.ro S4, b0f (D := (fun _ => True)) (fun hd => a7j) (fun w' hk => ⟨(hA.pt (mS (mS (mS m0)))).keep hk, (hA.ro hs).keep hk⟩)⟩)) (fun _ _ => (Ent.b (fun q23 => ?_) (fun q23 => ?_))))))))
   ·refine Ey rfl ((Y.not (b := true) rfl).yd) (Ey rfl ((u7 rfl rfl).yd) (Em rfl (Es rfl (Es rfl (Es rfl (Es rfl (Es rfl (Es rfl (Ey rfl ((u0 rfl rfl).yd) (Ei rfl ?_))))))))))
    exact Eu (E.ret (Fb rfl rfl (by grind [R2, d1, d2, t1, t2])))
   ·refine Ey rfl ((Y.not (b := false) rfl).yd) (Ey rfl ((u7 rfl rfl).yd) (Em rfl (Ey rfl ((j7 fo_Guarded_1 ty_Atoms dc rfl).yd) (Ey rfl (g9 ty_Atoms rfl (Hz (mS (mS m0)) 2 rfl) rfl) (Est rfl (N.call (a5O (is := (fun t => inR t 10 17)) (D_is := (fun _ => True)) fc (by intros; exact trivial)) rfl rfl rfl dc rfl (fun w Lp hA => ⟨hA.ro S4, a2H (D := (fun _ => True)) (RR := fun _ _ => True) (fun hd => b7j a1C (fun _ _ _ => trivial)) (fun w' hk => trivial)⟩)) (fun k29 _ => ?_))))))
    obtain ⟨a29, m29, c29⟩ := k29
    refine i9 m0 fun e29 l29 => ?_
    subst e29
    refine Ey rfl ((Y.fn (vs := [_]) rfl).yd) (Est rfl (n0 (V8 (f := (fun t => !H9 (B5 (fun t => inR t 10 17) d4) t)) (D_f := (fun _ => True)) (by intros; exact trivial)) rfl rfl rfl dc (fun w Lp hA => ⟨hA.ow m0, a2H (D := (fun _ => True)) (fun hd => a7d) (fun w' hk => ⟨(hA.pt (mS m0)).keep hk, (hA.ow (mS (mS m0))).keep hk⟩)⟩)) (fun _ _ => (Ey rfl ((Y.not rfl).yd) (Ey rfl ((u7 rfl rfl).yd) (Ei rfl ?_)))))
    exact Eu (E.ret (Fb rfl rfl (by grind [R2, d1, d2, t1, t2])))
  ·refine Ey rfl ((u7 rfl rfl).yd) (Em rfl (Es rfl (Es rfl (Es rfl (Es rfl (Es rfl (Ey rfl ((u0 rfl rfl).yd) (Em rfl (Es rfl (Es rfl (Es rfl (Es rfl (Es rfl (Es rfl (Ey rfl ((u0 rfl rfl).yd) (Ei rfl ?_))))))))))))))))
   exact Eu (E.ret (Fb rfl rfl (by grind [R2, d1, d2, t1, t2])))
 ·refine Em rfl (Es rfl (Es rfl (Es rfl (Es rfl (Ey rfl ((u0 rfl rfl).yd) (Em rfl (Es rfl (Es rfl (Es rfl (Es rfl (Es rfl (Ey rfl ((u0 rfl rfl).yd) (Em rfl (Es rfl (Es rfl (Es rfl (Es rfl (Es rfl (Es rfl (Ey rfl ((u0 rfl rfl).yd) (Ei rfl ?_)))))))))))))))))))))
  exact Eu (E.ret (Fb rfl rfl (by grind [R2, d1, d2, t1, t2])))
theorem a9g (hz : I9 (fun x => x.2.length) d4 ≤ 1048576) (hn : I9 (fun x => x.2.length) f0 ≤ 1048576) : Tr Tryz.prog 198 [.slice a_s m_s c_s, .agg #[.slice D0 G4 D1, .slice B8 F5 B9, .slice K7 R7 K8]] (fun w L => Ro w L eIs [.slice a_s m_s c_s] s ∧ Ro w L eIs [.slice D0 G4 D1] d6 ∧ Ro w L B7 [.slice B8 F5 B9] d4 ∧ Ro w L B7 [.slice K7 R7 K8] f0) [] (κ := Unit) (fun k => True) (fun k => .bool (R2 s ((d6, d4), f0))) (fun k => []) := by
 refine n9 Tryz.func198 rfl (n := 71) rfl (by decide +kernel) bl (fr := [(0, .slice a_s m_s c_s), (1, .agg #[.slice D0 G4 D1, .slice B8 F5 B9, .slice K7 R7 K8])]) rfl fun w L hR => ?_
 obtain ⟨hs, E5, D2, S4⟩ := hR
 obtain ⟨rfl, ls⟩ := hs.slen
 obtain ⟨rfl, a2g⟩ := E5.slen
 obtain ⟨rfl, a1K⟩ := D2.slen
 obtain ⟨rfl, a7z⟩ := S4.slen
 have gt := b3D (s := s) (v := (B5 (fun t => inR t 10 17) d4)) (l := f0)
 refine Ew Z2 (Est rfl (N.box (cs := [_, _, _]) rfl dc rfl) (fun b3 _ => (Ei rfl (Ev Z4 (Ey rfl ((j7 fo_Guarded_0 ty_Query dc rfl).yd) (Ey rfl (o9 (cs := [_, _]) ty_Query rfl ((Has.pt m0).sub (cs' := [_, _]) 0 rfl) rfl) (Est rfl (N.call (a4l fc) rfl rfl rfl dc rfl (fun w Lp hA => ⟨hA.ro E5, hA.ro D2⟩)) (fun k10 _ => ?_))))))))
 obtain ⟨a10, m10, c10⟩ := k10
 refine i9 m0 fun e10 l10 => ?_
 subst e10
 refine Ei rfl (Eu (Eq_ (Ew Z1 (Ei rfl (Eu (E.block (E.loop (κ := Nat) (fun r => r ≤ f0.length ∧ (f0.any fun a => !J0 s a || a.2.any (fun t => inR t 10 17 && !H9 (B5 (fun t => inR t 10 17) d4) t)) = ((f0.drop r).any fun a => !J0 s a || a.2.any (fun t => inR t 10 17 && !H9 (B5 (fun t => inR t 10 17) d4) t))) (fun r => [(0, .slice a_s s.length c_s), (3, .pointer (some ⟨b3, 0, none⟩)), (5, .slice a10 (B5 (fun t => inR t 10 17) d4).length c10), (6, .int .i64 (r : Int))]) (fun r => [ow eIs [.slice a10 (B5 (fun t => inR t 10 17) d4).length c10] (B5 (fun t => inR t 10 17) d4), pt b3 87 [.slice D0 d6.length D1, .slice B8 d4.length B9, .slice K7 f0.length K8]]) (fun r => f0.length - r) 0 ⟨Nat.zero_le _, by simp⟩ ⟨rfl, rfl, rfl, rfl, trivial⟩ (.refl _) (fun r pr => ?_))))))))
 obtain ⟨pk, pa⟩ := pr
 refine Eq_ (Ew Z5 (Em rfl (Ey rfl ((j7 fo_Guarded_1 ty_Atoms dc rfl).yd) (Ey rfl (g9 ty_Atoms rfl (Hz (mS m0) 2 rfl) rfl) (Ey rfl ((Y.len us_Atoms rfl).yd) (Ey rfl ((Y.lss rfl rfl).yd) (o6 (fun q15 => ?_) (fun q15 => ?_))))))))
 ·refine Eu (o2 rfl (j5 (Et (Eq_ (E.block (Eq_ (Ew Z8 (Em rfl (Ey rfl ((j7 fo_Guarded_1 ty_Atoms dc rfl).yd) (Ey rfl (g9 ty_Atoms rfl (Hz (mS m0) 2 rfl) rfl) (Em rfl ?_)))))))))))
  obtain ⟨eb22, eo22, ec22, ea22, er22, el22, eh22⟩ := S4.elem r om
  obtain ⟨xa22_0, xc22_0, rfl, ei22_0, xh22_0⟩ := K0 er22
  have := xh22_0.slen.2
  refine Ey rfl ((r7 us_Atoms ty_Atom rfl ea22 rfl r rfl om).yd) (Ey rfl (o9 (cs := [_, _]) ty_Atom rfl (eh22 _) rfl) (Est rfl (n0 a6O rfl rfl rfl dc (fun w Lp hA => ⟨hA.ro hs, ei22_0, hA.ro xh22_0⟩)) (fun _ _ => (Ent.b (fun q24 => ?_) (fun q24 => ?_)))))
  ·refine Ey rfl ((Y.not (b := true) rfl).yd) (Eu (o3 rfl (j5 (Et (Ew Z1 (Ei rfl (Eu (E.block (E.loop (κ := Nat) (fun h => h ≤ f0[r].2.length ∧ (f0[r].2.any (fun t => inR t 10 17 && !H9 (B5 (fun t => inR t 10 17) d4) t)) = ((f0[r].2.drop h).any (fun t => inR t 10 17 && !H9 (B5 (fun t => inR t 10 17) d4) t))) (fun h => [(0, .slice a_s s.length c_s), (3, .pointer (some ⟨b3, 0, none⟩)), (5, .slice a10 (B5 (fun t => inR t 10 17) d4).length c10), (6, .int .i64 (r : Int)), (7, .int .i64 (h : Int))]) (fun h => [ow eIs [.slice a10 (B5 (fun t => inR t 10 17) d4).length c10] (B5 (fun t => inR t 10 17) d4), pt b3 87 [.slice D0 d6.length D1, .slice B8 d4.length B9, .slice K7 f0.length K8]]) (fun h => f0[r].2.length - h) 0 ⟨Nat.zero_le _, by simp⟩ ⟨rfl, rfl, rfl, rfl, rfl, trivial⟩ (.refl _) (fun h ph => ?_))))))))))
   obtain ⟨pk, pa⟩ := ph
   refine Eq_ (Ew Z9 (Em rfl (Ey rfl ((j7 fo_Guarded_1 ty_Atoms dc rfl).yd) (Ey rfl (g9 ty_Atoms rfl (Hz (mS m0) 2 rfl) rfl) (Em rfl (Ey rfl ((r7 us_Atoms ty_Atom rfl ea22 rfl r rfl om).yd) (Ey rfl ((j7 fo_Atom_1 ty_Is dc rfl).yd) (Ey rfl (g9 ty_Is rfl ((eh22 _).sub (cs' := [_]) 1 rfl) rfl) (Ey rfl ((Y.len us_Is rfl).yd) (Ey rfl ((Y.lss rfl rfl).yd) (o6 (fun q34 => ?_) (fun q34 => ?_))))))))))))
   ·refine Eu (o2 rfl (j5 (Et (Eq_ (E.block (Ew Z24 (Ey rfl ((j7 fo_Guarded_1 ty_Atoms dc rfl).yd) (Ey rfl (g9 ty_Atoms rfl (Hz (mS m0) 2 rfl) rfl) (Em rfl (Ey rfl ((r7 us_Atoms ty_Atom rfl ea22 rfl r rfl om).yd) (Ey rfl ((j7 fo_Atom_1 ty_Is dc rfl).yd) (Ey rfl (g9 ty_Is rfl ((eh22 _).sub (cs' := [_]) 1 rfl) rfl) (Em rfl ?_)))))))))))))
    obtain ⟨eb44, eo44, ea44, ei44, eh44⟩ := xh22_0.elemI h om
    refine Ey rfl ((r7 us_Is i8 rfl ea44 rfl h rfl om).yd) (Ey rfl (g9 i8 rfl (eh44 _) rfl) (Est rfl (n0 a1f rfl rfl rfl dc tv) (fun _ _ => (Ent.b (fun q46 => ?_) (fun q46 => ?_)))))
    ·refine Em rfl (Em rfl (Ey rfl ((j7 fo_Guarded_1 ty_Atoms dc rfl).yd) (Ey rfl (g9 ty_Atoms rfl (Hz (mS m0) 2 rfl) rfl) (Em rfl (Ey rfl ((r7 us_Atoms ty_Atom rfl ea22 rfl r rfl om).yd) (Ey rfl ((j7 fo_Atom_1 ty_Is dc rfl).yd) (Ey rfl (g9 ty_Is rfl ((eh22 _).sub (cs' := [_]) 1 rfl) rfl) (Em rfl (Ey rfl ((r7 us_Is i8 rfl ea44 rfl h rfl om).yd) (Ey rfl (g9 i8 rfl (eh44 _) rfl) (Est rfl (n0 a1F rfl rfl rfl dc (fun w Lp hA => hA.ow m0)) (fun _ _ => (Ent.b (fun q58 => ?_) (fun q58 => ?_))))))))))))))
     ·refine Ey rfl ((Y.not (b := true) rfl).yd) (Ey rfl ((u7 rfl rfl).yd) (Eu (o3 rfl (j5 (t7 (Et (Ez Z3 (Em rfl (Ey rfl ((Y.add rfl rfl om om).yd) (Ei rfl (Eu (i7 (i7 ?_)))))))))))))
      exact v8 br (h + 1) rs (.refl _) ⟨by omega, by grind [d1, d2, t1, t2]⟩ om
     ·refine Ey rfl ((Y.not (b := false) rfl).yd) (Ey rfl ((u7 rfl rfl).yd) (Eu (o2 rfl (Ew Z1 (Ei rfl ?_)))))
      exact Eu (E.ret (w5 (l4 (l4 (w5 (w5 (l4 (l4 (w5 (l4 (Fb rfl rfl (by grind [R2, d1, d2, t1, t2]))))))))))))
    ·refine Em rfl (Es rfl (Es rfl (Es rfl (Es rfl (Es rfl (Es rfl (Es rfl (Es rfl (Es rfl (Es rfl (Es rfl (Es rfl (Ey rfl ((u0 rfl rfl).yd) (Eu (o3 rfl (j5 (t7 (Et (Ez Z3 (Em rfl (Ey rfl ((Y.add rfl rfl om om).yd) (Ei rfl (Eu (i7 (i7 ?_)))))))))))))))))))))))))
     exact v8 br (h + 1) rs (.refl _) ⟨by omega, by grind [d1, d2, t1, t2]⟩ om
   ·refine Eu (o3 rfl (E.exit (o8 (o8 (x9 (t7 (Et (Ez Z3 (Em rfl (Ey rfl ((Y.add rfl rfl om om).yd) (Ei rfl (Eu (i7 (i7 ?_))))))))))))))
    exact v8 br (r + 1) rs (.refl _) ⟨by omega, by grind [d1, d2, t1, t2]⟩ om
  ·refine Ey rfl ((Y.not (b := false) rfl).yd) (Eu (o2 rfl (Ew Z1 (Ei rfl ?_))))
   exact Eu (E.ret (l4 (w5 (l4 (l4 (w5 (l4 (Fb rfl rfl (by grind [R2, d1, d2, t1, t2])))))))))
 ·refine Eu (o3 rfl (E.exit (o8 (o8 (x9 (Et (Ew Z11 (Em rfl (Ey rfl ((j7 fo_Guarded_0 ty_Query dc rfl).yd) (Ey rfl (o9 (cs := [_, _]) ty_Query rfl ((Has.pt (mS m0)).sub (cs' := [_, _]) 0 rfl) rfl) (Est rfl (n0 (a5U fc) rfl rfl rfl dc (fun w Lp hA => ⟨hA.ro hs, hA.ro E5, hA.ro D2⟩)) (fun _ _ => (Ent.b (fun q64 => ?_) (fun q64 => ?_))))))))))))))
  ·refine Em rfl (Ey rfl ((j7 fo_Guarded_1 ty_Atoms dc rfl).yd) (Ey rfl (g9 ty_Atoms rfl (Hz (mS m0) 2 rfl) rfl) (Ey rfl ((Y.len us_Atoms rfl).yd) (Ey rfl ((Y.leq rfl rfl).yd) (Ey rfl ((u7 rfl rfl).yd) (Ei rfl ?_))))))
   exact Eu (E.ret (Fb rfl rfl (by grind [R2, d1, d2, t1, t2])))
  ·refine Em rfl (Es rfl (Es rfl (Es rfl (Es rfl (Ey rfl ((u0 rfl rfl).yd) (Ei rfl ?_))))))
   exact Eu (E.ret (Fb rfl rfl (by grind [R2, d1, d2, t1, t2])))
end Go.Proofs.YtdopeopehgdccaaGreat
