import Derived.Test.YtbedienpleiamaaGreatT27
import Derived.Test.YtbedienpleiamaaGreatT24
namespace Go.Proofs.YtbedienpleiamaaGreat
open Go.RowKit
set_option linter.all false
set_option maxHeartbeats 2000000
attribute [local irreducible] Nop Yd Yp Ent Has Tr FnP FnP2 Src O1 S7 W5 X5 I0
variable {a6 : List (Int × List Int)} {s f5 : List Int} {m_s c_s r5 k6 o1 j0 : Nat} {a_s l0 j3 : Option Addr}
theorem a5Y (hqh : f5.length ≤ 1048576) (hz : E7 (fun x => x.2.length) a6 ≤ 1048576) : Tr Tryz.prog 22 [.slice a_s m_s c_s, .agg #[.slice l0 r5 k6, .slice j3 o1 j0]] (fun w L => Ro w L eIs [.slice a_s m_s c_s] s ∧ Ro w L eIs [.slice l0 r5 k6] f5 ∧ Ro w L j8 [.slice j3 o1 j0] a6) [] (κ := (Option Addr × Nat × Nat) × (Option Addr × Nat × Nat)) (fun k => True) (fun k => .agg #[.slice k.1.1 k.1.2.1 k.1.2.2, .slice k.2.1 k.2.2.1 k.2.2.2]) (fun k => [ow eIs [.slice k.1.1 k.1.2.1 k.1.2.2] f5, ow j8 [.slice k.2.1 k.2.2.1 k.2.2.2] (D9 s f5 a6)]) := by
 refine Tr.intro Tryz.func22 rfl (n := 31) rfl (by decide +kernel) bl (fr := [(0, .slice a_s m_s c_s), (1, .agg #[.slice l0 r5 k6, .slice j3 o1 j0])]) rfl fun w L hR => ?_
 obtain ⟨hs, o6, l4⟩ := hR
 obtain ⟨rfl, ls⟩ := hs.slen
 obtain ⟨rfl, F2⟩ := o6.slen
 obtain ⟨rfl, E0⟩ := l4.slen
 refine Ew Z2 (Est rfl (N.box (cs := [_, _]) rfl dc rfl) (fun b3 _ => (Est rfl (N.alloc ty_Query dc) (fun b4 _ => (Ev Z4 (Ey rfl (j6 (cs := [_, _]) ty_Query rfl (Has.pt (mS m0)) rfl) (Est rfl (N.call (a0Z fo (by unfold E7 at hz; omega) (U1 hz)) rfl rfl rfl dc rfl (fun w Lp hA => ⟨hA.ro o6, hA.ro l4⟩)) (fun k9 _ => ?_))))))))
 obtain ⟨⟨a9_0, m9_0, c9_0⟩, ⟨a9_1, m9_1, c9_1⟩⟩ := k9
 refine d4 m0 fun e9_0 l9_0 => ?_
 subst e9_0
 refine d4 (mS m0) fun e9_1 l9_1 => ?_
 subst e9_1
 refine Est rfl (N.alloc ty_Query dc) (fun b5 _ => (Est rfl (Ns [_, _] ty_Query rfl) (fun _ _ => (Eu (Eq_ (Ew Z4 (Em rfl (Ey rfl (j6 (cs := [_, _]) ty_Query rfl (Has.pt (mS (mS (mS (mS m0))))) rfl) (Est rfl (m6 (a0q hz) rfl rfl rfl dc (fun w Lp hA => ⟨hA.ro hs, hA.ro o6, hA.ro l4⟩)) (fun _ _ => (t7 (fun q12 => ?_) (fun q12 => ?_))))))))))))
 ·refine Ey rfl ((Y.not (b := true) rfl).yd) (Eu (n0 rfl (f8 (Et (Eq_ (Ew Z1 (Ei rfl (Eu (E.block (g9 (i9 (congrArg (ow j8 [_]) (show a6 = (w5 s f5 a6 0).1 from by first | rfl | (simp; done) | grind [d1, d2, t1, t2])) (E.loop (κ := Nat × Option Addr × Nat × Nat × Option Addr × Nat × Nat) (fun g => g.1 ≤ a6.length ∧ S3 s f5 a6 g.1 ∧ (g.1 = 0 ∨ w3 s (f5, a6) = true)) (fun g => [(0, .slice a_s s.length c_s), (4, .pointer (some ⟨b4, 0, none⟩)), (5, .pointer (some ⟨b5, 0, none⟩)), (6, .int .i64 (↑((w5 s f5 a6 g.1).2) : Int))]) (fun g => [ow j8 [.slice g.2.2.2.2.1 g.2.2.2.2.2.1 g.2.2.2.2.2.2] ((w5 s f5 a6 g.1).1), pt b5 27 [.slice g.2.1 g.2.2.1 g.2.2.2.1, .slice g.2.2.2.2.1 g.2.2.2.2.2.1 g.2.2.2.2.2.2], ow eIs [.slice g.2.1 g.2.2.1 g.2.2.2.1] f5, pt b4 27 [.slice none 0 0, .slice none 0 0], pt b3 27 [.slice l0 f5.length k6, .slice j3 a6.length j0]]) (fun g => a6.length - g.1) (0, a9_0, (f5).length, c9_0, a9_1, (a6).length, c9_1) ⟨Nat.zero_le _, by exact ⟨a2B, .inl rfl⟩⟩ ⟨rfl, rfl, rfl, frI (by first | rfl | (simp; done) | grind [d1, d2, t1, t2]), trivial⟩ (.refl _) (fun g pg => ?_)))))))))))))
  obtain ⟨g, aA0_1, mA0_1, cA0_1, aA0_2, mA0_2, cA0_2⟩ := g
  try dsimp only at pg
  try dsimp only
  obtain ⟨pk, pa⟩ := pg
  have pa0 := pa.1
  have jt := a1G (s := s) (h := f5) (l := a6) (n := g)
  have jz := Nat.le_trans jt.1 hz
  have jo := pa0.2.1
  have jp := pa0.1
  refine d4 (mS (mS m0)) fun eaA0_1 laA0_1 => ?_
  subst eaA0_1
  refine d4 m0 fun eaA0_2 laA0_2 => ?_
  subst eaA0_2
  refine Eq_ (Ew Z5 (Em rfl (Ey rfl ((i0 fo_Query_1 ty_Atoms dc rfl).yd) (Ey rfl (f9 ty_Atoms rfl (Hz (mS m0) 1 rfl) rfl) (Ey rfl ((Y.len us_Atoms rfl).yd) (Ey rfl ((Y.lss rfl rfl).yd) (n9 (fun q19 => ?_) (fun q19 => ?_))))))))
  ·refine Eu (o0 rfl (f8 (Et (E.block (Ew Z5 (Ey rfl (j6 (cs := [_, _]) ty_Query rfl (Has.pt (mS m0)) rfl) (Em rfl (Est rfl (N.call (a0g hqh (by unfold E7 at jz; omega) (U1 jz)) rfl rfl rfl dc rfl (fun w Lp hA => ⟨hA.ow (mS (mS m0)), hA.ow m0⟩)) (fun k22 _ => ?_)))))))))
   obtain ⟨⟨a22_0, m22_0, c22_0⟩, ⟨a22_1, m22_1, c22_1⟩⟩ := k22
   refine d4 m0 fun e22_0 l22_0 => ?_
   subst e22_0
   refine d4 (mS m0) fun e22_1 l22_1 => ?_
   subst e22_1
   refine Est rfl (N.alloc ty_Query dc) (fun b7 _ => (Est rfl (Ns [_, _] ty_Query rfl) (fun _ _ => (Ev Z4 (Em rfl (Ey rfl (j6 (cs := [_, _]) ty_Query rfl (Has.pt m0) rfl) (Ey rfl (j6 (cs := [_, _]) ty_Query rfl (Has.pt (mS (mS (mS (mS m0))))) rfl) (Est rfl (m6 (J3 (Nat.le_trans a0i (Nat.le_trans jt.1 hz)) (Nat.le_trans jt.1 hz)) rfl rfl rfl dc (fun w Lp hA => ⟨hA.ro hs, hA.ow (mS m0), hA.ow (mS (mS m0)), hA.ow (mS (mS (mS (mS (mS m0))))), hA.ow (mS (mS (mS m0)))⟩)) (fun _ _ => (t7 (fun q26 => ?_) (fun q26 => ?_)))))))))))
   ·have jc := a3q om q26
    have jn := a3j pa0 om q26
    refine Eu (o0 rfl (Ez Z2 (Ey rfl (j6 (cs := [_, _]) ty_Query rfl (Has.pt m0) rfl) (i7 (Est rfl (Ns [_, _] ty_Query rfl) (fun _ _ => (En (s4 (Et (d7 (Ent.drop (l3 (Ent.drop (l3 (Ent.drop (g9 (i9 (congrArg (ow j8 [_]) (show B8 ((w5 s f5 a6 g).1) (↑((w5 s f5 a6 g).2) : Int) = (w5 s f5 a6 (g + 1)).1 from by first | (rw [jc]; done) | (rw [jc]; dsimp only; omega) | (simp only [jc]; omega))) (i7 (i7 (i7 (i7 (i7 ?_))))))))))))))))))))))
    exact x3 br (g + 1, a22_0, (f5).length, c22_0, a22_1, (B8 ((w5 s f5 a6 g).1) (↑((w5 s f5 a6 g).2) : Int)).length, c22_1) ⟨rfl, rfl, rfl, frI (by first | (rw [jc]; done) | (rw [jc]; dsimp only; omega) | (simp only [jc]; omega)), trivial⟩ (.refl _) ⟨oz, (show S3 s f5 a6 (g + 1) ∧ ((g + 1) = 0 ∨ w3 s (f5, a6) = true) from by exact ⟨jn, .inr (by assumption)⟩)⟩ oz
   ·have jc := a2C om q26
    have jn := a2q pa0 om q26
    refine Eu (n0 rfl (Ez Z3 (Em rfl (Ey rfl ((Y.add rfl rfl om om).yd) (Ei rfl (En (s4 (Et (Ent.drop (Ent.drop (Ent.drop (i9 (congrArg (ow j8 [_]) (show (w5 s f5 a6 g).1 = (w5 s f5 a6 (g + 1)).1 from by first | (rw [jc]; done) | (rw [jc]; dsimp only; omega) | (simp only [jc]; omega))) (i7 (i7 (i7 (i7 (i7 ?_)))))))))))))))))
    exact x3 br (g + 1, aA0_1, (f5).length, cA0_1, aA0_2, ((w5 s f5 a6 g).1).length, cA0_2) ⟨rfl, rfl, rfl, frI (by first | (rw [jc]; done) | (rw [jc]; dsimp only; omega) | (simp only [jc]; omega)), trivial⟩ (.refl _) ⟨oz, (show S3 s f5 a6 (g + 1) ∧ ((g + 1) = 0 ∨ w3 s (f5, a6) = true) from by exact ⟨jn, .inr (by assumption)⟩)⟩ oz
  ·refine Eu (n0 rfl (E.exit (o3 (o3 (x5 (Et (Ew Z2 (Ey rfl (j6 (cs := [_, _]) ty_Query rfl (Has.pt (mS m0)) rfl) (l3 (Est rfl (Ns [_, _] ty_Query rfl) (fun _ _ => (Eu (E.ret (d7 (i9 (congrArg (ow j8 [_]) (show _ = D9 s f5 a6 by exact a5z pa0 om q12)) (l3 (d7 (d7 ?_))))))))))))))))))
   exact H8 br rfl rfl (mS (mS m0)) ty_Query rfl ((_, _, _), (_, _, _)) trivial rfl (J := _) (.refl _) (.inl rfl)
 ·refine Ey rfl ((Y.not (b := false) rfl).yd) (Eu (o0 rfl (Ew Z2 (Ey rfl (j6 (cs := [_, _]) ty_Query rfl (Has.pt m0) rfl) (l3 (Est rfl (Ns [_, _] ty_Query rfl) (fun _ _ => (Eu (E.ret (o4 (l3 (i9 (congrArg (ow j8 [_]) (show _ = D9 s f5 a6 by exact (a4c q12).symm)) (l3 (d7 (d7 ?_)))))))))))))))
  exact H8 br rfl rfl (mS (mS m0)) ty_Query rfl ((_, _, _), (_, _, _)) trivial rfl (J := _) (.refl _) (.inl rfl)
theorem a5V (hqh : f5.length ≤ 1048576) (hz : E7 (fun x => x.2.length) a6 ≤ 1048576) : Tr Tryz.prog 24 [.slice a_s m_s c_s, .agg #[.slice l0 r5 k6, .slice j3 o1 j0]] (fun w L => Ro w L eIs [.slice a_s m_s c_s] s ∧ Ro w L eIs [.slice l0 r5 k6] f5 ∧ Ro w L j8 [.slice j3 o1 j0] a6) [] (κ := (Option Addr × Nat × Nat) × (Option Addr × Nat × Nat)) (fun k => True) (fun k => .agg #[.slice k.1.1 k.1.2.1 k.1.2.2, .slice k.2.1 k.2.2.1 k.2.2.2]) (fun k => [ow eIs [.slice k.1.1 k.1.2.1 k.1.2.2] f5, ow j8 [.slice k.2.1 k.2.2.1 k.2.2.2] (D9 s f5 a6)]) := by
 refine Tr.intro Tryz.func24 rfl (n := 36) rfl (by decide +kernel) bl (fr := [(0, .slice a_s m_s c_s), (1, .agg #[.slice l0 r5 k6, .slice j3 o1 j0])]) rfl fun w L hR => ?_
 obtain ⟨hs, o6, l4⟩ := hR
 obtain ⟨rfl, ls⟩ := hs.slen
 obtain ⟨rfl, F2⟩ := o6.slen
 obtain ⟨rfl, E0⟩ := l4.slen
 refine Ew Z2 (Est rfl (N.box (cs := [_, _]) rfl dc rfl) (fun b3 _ => (Est rfl (N.alloc ty_Query dc) (fun b4 _ => (Ev Z4 (Ey rfl (j6 (cs := [_, _]) ty_Query rfl (Has.pt (mS m0)) rfl) (Est rfl (N.call (a0P fo (by unfold E7 at hz; omega) (U1 hz)) rfl rfl rfl dc rfl (fun w Lp hA => ⟨hA.ro o6, hA.ro l4⟩)) (fun k9 _ => ?_))))))))
 obtain ⟨⟨a9_0, m9_0, c9_0⟩, ⟨a9_1, m9_1, c9_1⟩⟩ := k9
 refine d4 m0 fun e9_0 l9_0 => ?_
 subst e9_0
 refine d4 (mS m0) fun e9_1 l9_1 => ?_
 subst e9_1
 refine Est rfl (N.alloc ty_Query dc) (fun b5 _ => (Est rfl (Ns [_, _] ty_Query rfl) (fun _ _ => (Ev Z1 (Ei rfl (Eu (Eq_ (E.block (g9 (i9 (congrArg (ow j8 [_]) (show a6 = (w5 s f5 a6 0).1 from by first | rfl | (simp; done) | grind [d1, d2, t1, t2])) (E.loop (κ := Nat × Option Addr × Nat × Nat × Option Addr × Nat × Nat) (fun g => g.1 ≤ a6.length ∧ S3 s f5 a6 g.1 ∧ (g.1 = 0 ∨ w3 s (f5, a6) = true)) (fun g => [(0, .slice a_s s.length c_s), (3, .pointer (some ⟨b3, 0, none⟩)), (4, .pointer (some ⟨b4, 0, none⟩)), (5, .pointer (some ⟨b5, 0, none⟩)), (6, .int .i64 (↑((w5 s f5 a6 g.1).2) : Int))]) (fun g => [ow j8 [.slice g.2.2.2.2.1 g.2.2.2.2.2.1 g.2.2.2.2.2.2] ((w5 s f5 a6 g.1).1), pt b5 27 [.slice g.2.1 g.2.2.1 g.2.2.2.1, .slice g.2.2.2.2.1 g.2.2.2.2.2.1 g.2.2.2.2.2.2], ow eIs [.slice g.2.1 g.2.2.1 g.2.2.2.1] f5, pt b4 27 [.slice none 0 0, .slice none 0 0], pt b3 27 [.slice l0 f5.length k6, .slice j3 a6.length j0]]) (fun g => a6.length - g.1) (0, a9_0, (f5).length, c9_0, a9_1, (a6).length, c9_1) ⟨Nat.zero_le _, by exact ⟨a2B, .inl rfl⟩⟩ ⟨rfl, rfl, rfl, rfl, frI (by first | rfl | (simp; done) | grind [d1, d2, t1, t2]), trivial⟩ (.refl _) (fun g pg => ?_))))))))))))
 obtain ⟨g, aA0_1, mA0_1, cA0_1, aA0_2, mA0_2, cA0_2⟩ := g
 try dsimp only at pg
 try dsimp only
 obtain ⟨pk, pa⟩ := pg
 have pa0 := pa.1
 have jt := a1G (s := s) (h := f5) (l := a6) (n := g)
 have jz := Nat.le_trans jt.1 hz
 have jo := pa0.2.1
 have jp := pa0.1
 refine d4 (mS (mS m0)) fun eaA0_1 laA0_1 => ?_
 subst eaA0_1
 refine d4 m0 fun eaA0_2 laA0_2 => ?_
 subst eaA0_2
 refine Eq_ (Ew Z10 (Em rfl (Ey rfl ((i0 fo_Query_1 ty_Atoms dc rfl).yd) (Ey rfl (f9 ty_Atoms rfl (Hz (mS m0) 1 rfl) rfl) (Ey rfl ((Y.len us_Atoms rfl).yd) (Ey rfl ((Y.lss rfl rfl).yd) (n9 (fun q14 => ?_) (fun q14 => ?_))))))))
 ·refine Em rfl (Em rfl (Ey rfl (j6 (cs := [_, _]) ty_Query rfl (Has.pt (mS (mS (mS (mS m0))))) rfl) (Est rfl (m6 (J7 hz) rfl rfl rfl dc (fun w Lp hA => ⟨hA.ro hs, hA.ro o6, hA.ro l4⟩)) (fun _ _ => (t7 (fun q18 => ?_) (fun q18 => ?_))))))
  ·refine Ey rfl ((v8 rfl rfl).yd) (Eu (o0 rfl (f8 (Et (E.block (Ew Z5 (Ey rfl (j6 (cs := [_, _]) ty_Query rfl (Has.pt (mS m0)) rfl) (Em rfl (Est rfl (N.call (a1z hqh (by unfold E7 at jz; omega) (U1 jz)) rfl rfl rfl dc rfl (fun w Lp hA => ⟨hA.ow (mS (mS m0)), hA.ow m0⟩)) (fun k22 _ => ?_))))))))))
   obtain ⟨⟨a22_0, m22_0, c22_0⟩, ⟨a22_1, m22_1, c22_1⟩⟩ := k22
   refine d4 m0 fun e22_0 l22_0 => ?_
   subst e22_0
   refine d4 (mS m0) fun e22_1 l22_1 => ?_
   subst e22_1
   refine Est rfl (N.alloc ty_Query dc) (fun b7 _ => (Est rfl (Ns [_, _] ty_Query rfl) (fun _ _ => (Ev Z9 (Em rfl (Ey rfl (j6 (cs := [_, _]) ty_Query rfl (Has.pt m0) rfl) (Est rfl (m6 (J7 (Nat.le_trans a0i (Nat.le_trans jt.1 hz))) rfl rfl rfl dc (fun w Lp hA => ⟨hA.ro hs, hA.ow (mS m0), hA.ow (mS (mS m0))⟩)) (fun _ _ => (t7 (fun q25 => ?_) (fun q25 => ?_))))))))))
   ·refine Em rfl (Em rfl (Ey rfl (j6 (cs := [_, _]) ty_Query rfl (Has.pt m0) rfl) (Ey rfl (j6 (cs := [_, _]) ty_Query rfl (Has.pt (mS (mS (mS (mS m0))))) rfl) (Est rfl (m6 (R6 (Nat.le_trans a0i (Nat.le_trans jt.1 hz)) (Nat.le_trans jt.1 hz)) rfl rfl rfl dc (fun w Lp hA => ⟨hA.ro hs, hA.ow (mS m0), hA.ow (mS (mS m0)), hA.ow (mS (mS (mS (mS (mS m0))))), hA.ow (mS (mS (mS m0)))⟩)) (fun _ _ => (t7 (fun q30 => ?_) (fun q30 => ?_)))))))
    ·have jc := a3q om q30
     have jn := a3j pa0 om q30
     refine Ey rfl ((v8 rfl rfl).yd) (Eu (o0 rfl (Ez Z2 (Ey rfl (j6 (cs := [_, _]) ty_Query rfl (Has.pt m0) rfl) (i7 (Est rfl (Ns [_, _] ty_Query rfl) (fun _ _ => (En (s4 (Et (d7 (Ent.drop (l3 (Ent.drop (l3 (Ent.drop (g9 (i9 (congrArg (ow j8 [_]) (show B8 ((w5 s f5 a6 g).1) (↑((w5 s f5 a6 g).2) : Int) = (w5 s f5 a6 (g + 1)).1 from by first | (rw [jc]; done) | (rw [jc]; dsimp only; omega) | (simp only [jc]; omega))) (i7 (i7 (i7 (i7 (i7 ?_)))))))))))))))))))))))
     exact x3 br (g + 1, a22_0, (f5).length, c22_0, a22_1, (B8 ((w5 s f5 a6 g).1) (↑((w5 s f5 a6 g).2) : Int)).length, c22_1) ⟨rfl, rfl, rfl, rfl, frI (by first | (rw [jc]; done) | (rw [jc]; dsimp only; omega) | (simp only [jc]; omega)), trivial⟩ (.refl _) ⟨oz, (show S3 s f5 a6 (g + 1) ∧ ((g + 1) = 0 ∨ w3 s (f5, a6) = true) from by exact ⟨jn, .inr (by assumption)⟩)⟩ oz
    ·have jc := a2C om q30
     have jn := a2q pa0 om q30
     refine Ey rfl ((v8 rfl rfl).yd) (Eu (n0 rfl (Ez Z3 (Em rfl (Ey rfl ((Y.add rfl rfl om om).yd) (Ei rfl (En (s4 (Et (Ent.drop (Ent.drop (Ent.drop (i9 (congrArg (ow j8 [_]) (show (w5 s f5 a6 g).1 = (w5 s f5 a6 (g + 1)).1 from by first | (rw [jc]; done) | (rw [jc]; dsimp only; omega) | (simp only [jc]; omega))) (i7 (i7 (i7 (i7 (i7 ?_))))))))))))))))))
     exact x3 br (g + 1, aA0_1, (f5).length, cA0_1, aA0_2, ((w5 s f5 a6 g).1).length, cA0_2) ⟨rfl, rfl, rfl, rfl, frI (by first | (rw [jc]; done) | (rw [jc]; dsimp only; omega) | (simp only [jc]; omega)), trivial⟩ (.refl _) ⟨oz, (show S3 s f5 a6 (g + 1) ∧ ((g + 1) = 0 ∨ w3 s (f5, a6) = true) from by exact ⟨jn, .inr (by assumption)⟩)⟩ oz
   ·have jd : J5 s (f5, B8 (w5 s f5 a6 g).1 (w5 s f5 a6 g).2) (f5, (w5 s f5 a6 g).1) = false := by simp only [J5, q25, Bool.false_and]
    have jc := a2C om jd
    have jn := a2q pa0 om jd
    refine Em rfl (Es rfl (Es rfl (Es rfl (Es rfl (Ey rfl ((u7 rfl rfl).yd) (Eu (n0 rfl (Ez Z3 (Em rfl (Ey rfl ((Y.add rfl rfl om om).yd) (Ei rfl (En (s4 (Et (Ent.drop (Ent.drop (Ent.drop (i9 (congrArg (ow j8 [_]) (show (w5 s f5 a6 g).1 = (w5 s f5 a6 (g + 1)).1 from by first | (rw [jc]; done) | (rw [jc]; dsimp only; omega) | (simp only [jc]; omega))) (i7 (i7 (i7 (i7 (i7 ?_)))))))))))))))))))))))
    exact x3 br (g + 1, aA0_1, (f5).length, cA0_1, aA0_2, ((w5 s f5 a6 g).1).length, cA0_2) ⟨rfl, rfl, rfl, rfl, frI (by first | (rw [jc]; done) | (rw [jc]; dsimp only; omega) | (simp only [jc]; omega)), trivial⟩ (.refl _) ⟨oz, (show S3 s f5 a6 (g + 1) ∧ ((g + 1) = 0 ∨ w3 s (f5, a6) = true) from by exact ⟨jn, .inr (by assumption)⟩)⟩ oz
  ·refine Ey rfl ((v8 rfl rfl).yd) (Eu (n0 rfl (E.exit (o3 (o3 (x5 (Et (Ew Z2 (Ey rfl (j6 (cs := [_, _]) ty_Query rfl (Has.pt (mS m0)) rfl) (l3 (Est rfl (Ns [_, _] ty_Query rfl) (fun _ _ => (Eu (E.ret (d7 (i9 (congrArg (ow j8 [_]) (show _ = D9 s f5 a6 by (rcases pa.2 with h9 | h9; (subst h9; exact (a4c q18).symm); (rw [q18] at h9; cases h9)))) (l3 (d7 (d7 ?_)))))))))))))))))))
   exact H8 br rfl rfl (mS (mS m0)) ty_Query rfl ((_, _, _), (_, _, _)) trivial rfl (J := _) (.refl _) (.inl rfl)
 ·refine Em rfl (Es rfl (Es rfl (Es rfl (Ey rfl ((u7 rfl rfl).yd) (Eu (n0 rfl (E.exit (o3 (o3 (x5 (Et (Ew Z2 (Ey rfl (j6 (cs := [_, _]) ty_Query rfl (Has.pt (mS m0)) rfl) (l3 (Est rfl (Ns [_, _] ty_Query rfl) (fun _ _ => (Eu (E.ret (d7 (i9 (congrArg (ow j8 [_]) (show _ = D9 s f5 a6 by (cases hq9 : w3 s (f5, a6) with | false => (rcases pa.2 with h9 | h9; (subst h9; exact (a4c hq9).symm); (rw [hq9] at h9; cases h9)) | true => exact a5z pa0 om hq9))) (l3 (d7 (d7 ?_)))))))))))))))))))))))
  exact H8 br rfl rfl (mS (mS m0)) ty_Query rfl ((_, _, _), (_, _, _)) trivial rfl (J := _) (.refl _) (.inl rfl)
end Go.Proofs.YtbedienpleiamaaGreat
