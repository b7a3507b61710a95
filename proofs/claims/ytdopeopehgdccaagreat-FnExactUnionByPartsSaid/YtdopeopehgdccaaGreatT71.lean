import Derived.Test.YtdopeopehgdccaaGreatT70
import Derived.Test.YtdopeopehgdccaaGreatT27
namespace Go.Proofs.YtdopeopehgdccaaGreat
open Go.RowKit
set_option linter.all false
set_option maxHeartbeats 2000000
attribute [local irreducible] Nop Yd Yp Ent Has Tr FnP FnP2 Src O8 Y2 a0b a0m G5
variable {l : List (Int × List Int × Int × Int × Int)} {d4 : List (Int × List Int)} {s f6 : List Int} {m_s c_s m_l c_l s8 o9 s5 o1 : Nat} {a_s a_l r5 o2 : Option Addr}
theorem a4v (hz : B9 (fun x => x.2.length) d4 ≤ 1048576) : Tr Tryz.prog 141 [.slice a_s m_s c_s, .slice a_l m_l c_l, .agg #[.slice r5 s8 o9, .slice o2 s5 o1]] (fun w L => Ro w L eIs [.slice a_s m_s c_s] s ∧ Ro w L E1 [.slice a_l m_l c_l] l ∧ Ro w L eIs [.slice r5 s8 o9] f6 ∧ Ro w L w9 [.slice o2 s5 o1] d4) [] (κ := Unit) (fun k => True) (fun k => .bool (E2 s l && D2 s (f6, d4))) (fun k => []) := by
 refine l0 Tryz.func141 rfl (n := 15) rfl (by decide +kernel) bl (fr := [(0, .slice a_s m_s c_s), (1, .slice a_l m_l c_l), (2, .agg #[.slice r5 s8 o9, .slice o2 s5 o1])]) rfl fun w L hR => ?_
 obtain ⟨hs, hl, t7, s0⟩ := hR
 obtain ⟨rfl, ls⟩ := hs.slen
 obtain ⟨rfl, ll⟩ := hl.slen
 obtain ⟨rfl, I9⟩ := t7.slen
 obtain ⟨rfl, H0⟩ := s0.slen
 refine Ew Z2 (Est rfl (N.box (cs := [_, _]) rfl dc rfl) (fun b5 _ => (Ei rfl (Ev Z9 (Em rfl (Em rfl (Est rfl (n0 a2H rfl rfl rfl dc (fun w Lp hA => ⟨hA.ro hs, hA.ro hl⟩)) (fun _ _ => (Ent.b (fun q9 => ?_) (fun q9 => ?_))))))))))
 ·refine Em rfl (Em rfl (Ey rfl (r9 (cs := [_, _]) ty_Query rfl (Has.pt m0) rfl) (Est rfl (n0 (a1n fc) rfl rfl rfl dc (fun w Lp hA => ⟨hA.ro hs, hA.ro t7, hA.ro s0⟩)) (fun _ _ => (Ey rfl ((w5 rfl rfl).yd) (Ei rfl ?_))))))
  exact Eu (E.ret (Fb rfl rfl (by grind [d1, d2, t1, t2])))
 ·refine Em rfl (Es rfl (Es rfl (Es rfl (Ey rfl ((v8 rfl rfl).yd) (Ei rfl ?_)))))
  exact Eu (E.ret (Fb rfl rfl (by grind [d1, d2, t1, t2])))
theorem b4C (hln : l.length ≤ 5) (hqa : d4.length ≤ 4) (hqh : f6.length ≤ 3) (hqt : ∀ a ∈ d4, a.2.length ≤ 3) : Tr Tryz.prog 75 [.slice a_s m_s c_s, .slice a_l m_l c_l, .agg #[.slice r5 s8 o9, .slice o2 s5 o1]] (fun w L => Ro w L eIs [.slice a_s m_s c_s] s ∧ Ro w L E1 [.slice a_l m_l c_l] l ∧ Ro w L eIs [.slice r5 s8 o9] f6 ∧ Ro w L w9 [.slice o2 s5 o1] d4) [] (κ := (Option Addr × Nat × Nat) × (Option Addr × Nat × Nat)) (fun k => True) (fun k => .tuple #[.agg #[.slice k.1.1 k.1.2.1 k.1.2.2, .slice k.2.1 k.2.2.1 k.2.2.2], .bool (D2 s (f6, G3 l d4))]) (fun k => [ow eIs [.slice k.1.1 k.1.2.1 k.1.2.2] f6, ow w9 [.slice k.2.1 k.2.2.1 k.2.2.2] (G3 l d4)]) := by
 refine l0 Tryz.func75 rfl (n := 49) rfl (by decide +kernel) bl (fr := [(0, .slice a_s m_s c_s), (1, .slice a_l m_l c_l), (2, .agg #[.slice r5 s8 o9, .slice o2 s5 o1])]) rfl fun w L hR => ?_
 obtain ⟨hs, hl, t7, s0⟩ := hR
 obtain ⟨rfl, ls⟩ := hs.slen
 obtain ⟨rfl, ll⟩ := hl.slen
 obtain ⟨rfl, I9⟩ := t7.slen
 obtain ⟨rfl, H0⟩ := s0.slen
 refine Ew Z3 (Est rfl (N.box (cs := [_, _]) rfl dc rfl) (fun b5 _ => (Est rfl (N.alloc ty_Query dc) (fun b6 _ => (Ei rfl (Eu (Eq_ (D.region (fun j => true) mixed (Dyp 0 rfl (o0 rfl) (Dyp 2 rfl (j6 fo_Query_1 ty_Atoms dc rfl) (Dy 3 rfl (g9 ty_Atoms rfl (Hz (mS m0) 1 rfl) rfl) ?_)))))))))))
 obtain ⟨lB, hlB, hb_l⟩ := Ro.bMethodB hl
 have jlB := hb_l.len
 refine t6 1 rfl rfl kr (fun _ => rfl) (N.call (a8D fo) rfl rfl rfl dc rfl (fun w Lp hA => hA.ro hlB)) (fun k15 _ => ?_)
 obtain ⟨a15, m15, c15⟩ := k15
 refine f5 m0 fun e15 l15 => ?_
 subst e15
 have hbx := b5D hb_l
 have jex : (exF l).length = l.length := List.length_map ..
 refine t6 4 rfl rfl kr (fun _ => rfl) (N.call (a6E fo fo fo) rfl rfl rfl dc rfl (fun w Lp hA => ⟨hA.bMethodB m0 hbx, hA.ro s0⟩)) (fun k18 _ => ?_)
 obtain ⟨⟨a18_0, m18_0, c18_0⟩, ⟨a18_1, m18_1, c18_1⟩⟩ := k18
 refine f5 m0 fun e18_0 l18_0 => ?_
 subst e18_0
 refine f5 (mS m0) fun e18_1 l18_1 => ?_
 subst e18_1
 refine Dyp 5 rfl (o0 rfl) (Dyp 6 rfl (Y.ext rfl rfl) (Dyp 7 rfl (Y.ext rfl rfl) (Dyp 8 rfl (F0 rfl) (Dyp 9 rfl (F0 rfl) (s3 kr (Et (Ew Z6 (Ey rfl ((j6 fo_Query_0 ty_Is dc rfl).yd) (Ey rfl (g9 ty_Is rfl (Hz (mS (mS (mS (mS m0)))) 0 rfl) rfl) (Est rfl (N.call (a0X fo) rfl rfl rfl dc rfl (fun w Lp hA => hA.ro t7)) (fun k23 _ => ?_)))))))))))
 obtain ⟨a23, m23, c23⟩ := k23
 refine f5 m0 fun e23 l23 => ?_
 subst e23
 refine Ey rfl ((J2 (pvs := [_]) (cs := [_, _]) ty_Query a3Y rfl rfl).yd) (Est rfl (N.alloc ty_Query dc) (fun b10 _ => (Est rfl (Ns [_, _] ty_Query rfl) (fun _ _ => (Eu (Eq_ (Ew Z4 (Ey rfl ((j6 fo_Query_1 ty_Atoms dc rfl).yd) (Ey rfl (g9 ty_Atoms rfl ((Has.pt (mS (mS (mS (mS (mS (mS m0))))))).sub (cs' := [_]) 1 rfl) rfl) (Ey rfl ((Y.len us_Atoms rfl).yd) (Em rfl (Eu (E.block (s7 (A := []) (Own.nil (E := W7) (e := tAtom) (a := none)) rfl (i9 (congrArg (ow w9 [_]) (show [] = I6 (d4.take 0) ((grF (exF l) d4).2.1.take 0) from by first | rfl | (simp; done) | grind [d1, d2, t1, t2])) (E.loop (κ := Nat × Option Addr × Nat × Nat) (fun g => g.1 ≤ d4.length ∧ True) (fun g => [(0, .slice a_s s.length c_s), (6, .pointer (some ⟨b6, 0, none⟩)), (9, .slice a18_1 ((grF (exF l) d4).2.1).length c18_1), (10, .pointer (some ⟨b10, 0, none⟩)), (26, .slice o2 d4.length o1), (27, .int .i64 (↑d4.length : Int)), (28, .int .i64 (↑g.1 : Int))]) (fun g => [ow w9 [.slice g.2.1 g.2.2.1 g.2.2.2] (I6 (d4.take g.1) ((grF (exF l) d4).2.1.take g.1)), pt b10 61 [.slice a23 (f6).length c23, .slice g.2.1 g.2.2.1 g.2.2.2], ow eIs [.slice a23 (f6).length c23] f6, ow P2 [.slice a18_0 ((grF (exF l) d4).1).length c18_0] ((grF (exF l) d4).1), ow eBs [.slice a18_1 ((grF (exF l) d4).2.1).length c18_1] ((grF (exF l) d4).2.1), ow H1 [.slice a15 (exB lB).length c15] (exB lB), pt b6 61 [.slice none 0 0, .slice none 0 0], pt b5 61 [.slice r5 f6.length o9, .slice o2 d4.length o1]]) (fun g => d4.length - g.1) (0, none, 0, 0) ⟨Nat.zero_le _, by simp⟩ ⟨rfl, rfl, rfl, rfl, rfl, rfl, rfl, trivial⟩ (.refl _) (fun g pg => ?_)))))))))))))))))
 obtain ⟨g, aA0_0, mA0_0, cA0_0⟩ := g
 try dsimp only at pg
 try dsimp only
 obtain ⟨pk, pa⟩ := pg
 have jd := b1v (l := exF l) (d8 := d4)
 have jp := a7a (al := d4.take g) (ds := (grF (exF l) d4).2.1.take g)
 have jt := List.length_take_le g d4
 have jtp := b3r (g := g) (ds := (grF (exF l) d4).2.1.take g) hqt hqa
 refine f5 m0 fun eaA0_0 laA0_0 => ?_
 subst eaA0_0
 refine Ew Z1 (Ey rfl ((Y.lss rfl rfl).yd) (o7 (fun q29 => ?_) (fun q29 => ?_)))
 ·refine Eu (Eq_ (o5 rfl (i7 (Et (Eq_ (E.block (Ew Z6 (Em rfl ?_))))))))
  obtain ⟨eb31, eo31, ec31, ea31, er31, el31, eh31⟩ := s0.elem g om
  obtain ⟨xa31_0, xc31_0, rfl, ei31_0, xh31_0⟩ := J6 er31
  have := xh31_0.slen.2
  refine Ey rfl ((s4 us_Atoms ty_Atom rfl ea31 rfl g rfl om).yd) (Ey rfl (r9 (cs := [_, _]) ty_Atom rfl (eh31 _) rfl) (Est rfl (N.alloc ty_Atom dc) (fun b12 _ => (Ei rfl (Est rfl (Ns [_, _] ty_Atom rfl) (fun _ _ => (Ev Z4 (Em rfl (Em rfl (U9 (mS (mS (mS (mS (mS m0))))) om fun ab35 ae35 => (Ey rfl ((s4 us_Bs ty_B rfl ae35 rfl g rfl om).yd) (Ey rfl (g9 ty_B rfl (b8o ae35 (mS (mS (mS (mS (mS m0))))) om) rfl) (Ent.b (fun q36 => ?_) (fun q36 => ?_))))))))))))))
  ·refine Eu (o5 rfl (D.region (fun j => !(Nat.beq j 5) && !(Nat.beq j 7)) mixed (Dyp 0 rfl (j6 fo_Query_1 ty_Atoms dc rfl) (Dy 1 rfl (g9 ty_Atoms rfl (Hz (mS (mS m0)) 1 rfl) rfl) (Dy 2 rfl (r9 (cs := [_, _]) ty_Atom rfl (Has.pt m0) rfl) ?_)))))
   have jt3 := hqt _ (List.getElem_mem (show g < d4.length by omega))
   refine t6 3 rfl rfl kr (fun _ => rfl) (N.call (a4Z fo) rfl rfl rfl dc rfl (fun w Lp hA => ⟨ei31_0, hA.ro xh31_0⟩)) (fun k40 _ => ?_)
   obtain ⟨a40, m40, c40⟩ := k40
   refine f5 m0 fun e40 l40 => ?_
   subst e40
   refine t6 4 rfl rfl kr (fun _ => rfl) (Nb [_] [_, _] us_Atoms ty_Atom rfl rfl) (fun b41 _ => (f8 (f8 (v7 (t6 5 rfl rfl kr (fun h => by cases h) (B1 (E := W7) (ex := d4[g]) us_Atoms ty_Atom rfl rfl rfl (a1c (x := d4[g]) ei31_0 Own.ow) rfl bn bn dc) (fun p42 _ => (Dyp 6 rfl (j6 fo_Query_1 ty_Atoms dc rfl) (o6 (t6 7 rfl rfl kr (fun h => by cases h) (Ns [_, _] ty_Atoms rfl) (fun _ _ => (s3 kr (t8 (Et (Ez Z2 (Ey rfl ((Y.add rfl rfl om om).yd) (Em rfl (Eu (o6 (Ent.drop (f8 (i9 (congrArg (ow w9 [_]) (show (I6 (d4.take g) ((grF (exF l) d4).2.1.take g)) ++ [d4[g]] = I6 (d4.take (g + 1)) ((grF (exF l) d4).2.1.take (g + 1)) from by first | exact b3F om om q36 | exact b3K om om q36)) (F9 (F9 (F9 (F9 (F9 (F9 (F9 (F9 ?_)))))))))))))))))))))))))))))
   exact Ea (g + 1, p42.1, ((I6 (d4.take g) ((grF (exF l) d4).2.1.take g)).length + 1), p42.2) ⟨oz, trivial⟩
  ·refine Eu (o4 rfl (i7 (t8 (Et (Ez Z2 (Ey rfl ((Y.add rfl rfl om om).yd) (Em rfl (Eu (Ent.drop (i9 (congrArg (ow w9 [_]) (show I6 (d4.take g) ((grF (exF l) d4).2.1.take g) = I6 (d4.take (g + 1)) ((grF (exF l) d4).2.1.take (g + 1)) from by first | exact b3F om om q36 | exact b3K om om q36)) (F9 (F9 (F9 (F9 (F9 (F9 (F9 (F9 ?_))))))))))))))))))
   exact Ea (g + 1, aA0_0, (I6 (d4.take g) ((grF (exF l) d4).2.1.take g)).length, cA0_0) ⟨oz, trivial⟩
 ·refine Eu (Eq_ (o4 rfl (E.exit (o3 (o3 (w3 (Et (Eq_ (D.region (fun j => !(Nat.beq j 4)) mixed (Dy 0 rfl (r9 (cs := [_, _]) ty_Query rfl (Has.pt (mS m0)) rfl) (Dyp 1 rfl (o0 rfl) (Dy 2 rfl (r9 (cs := [_, _]) ty_Query rfl (Has.pt (mS m0)) rfl) (t6 3 rfl rfl kr (fun _ => rfl) (n0 (a2z jtp) rfl rfl rfl dc (fun w Lp hA => ⟨hA.ro hs, hA.ow (mS (mS m0)), hA.ow m0⟩)) (fun _ _ => (x7 (t6 4 rfl rfl kr (fun h => by cases h) (Ns [_, _] ty_Query rfl) (fun _ _ => (Dyp 5 rfl (F0 rfl) (s3 kr (Et (E.ret (f8 (i9 (congrArg (ow w9 [_]) (show _ = G3 l d4 by first | exact a0W om jd | (rw [a0W om jd]; rfl))) (v7 (f8 (f8 ?_))))))))))))))))))))))))))
  exact a0H br rfl rfl rfl (mS (mS m0)) ty_Query rfl ((_, _, _), (_, _, _)) trivial (by rw [show (D2 s (f6, G3 l d4)) = (D2 s (f6, (I6 (d4.take g) ((grF (exF l) d4).2.1.take g)))) from (by first | exact a0W om jd | (rw [a0W om jd]; rfl))]; try rfl) (J := _) (.refl _) (.inl rfl)
theorem a5M (hz : B9 (fun x => x.2.length) d4 ≤ 1048576) : Tr Tryz.prog 65 [.slice a_s m_s c_s, .slice a_l m_l c_l, .agg #[.slice r5 s8 o9, .slice o2 s5 o1]] (fun w L => Ro w L eIs [.slice a_s m_s c_s] s ∧ Ro w L E1 [.slice a_l m_l c_l] l ∧ Ro w L eIs [.slice r5 s8 o9] f6 ∧ Ro w L w9 [.slice o2 s5 o1] d4) [] (κ := (Option Addr × Nat × Nat) × (Option Addr × Nat × Nat)) (fun k => True) (fun k => .tuple #[.agg #[.slice k.1.1 k.1.2.1 k.1.2.2, .slice k.2.1 k.2.2.1 k.2.2.2], .bool (S8 s l (f6, d4))]) (fun k => [ow eIs [.slice k.1.1 k.1.2.1 k.1.2.2] (H9 s l (f6, d4)), ow w9 [.slice k.2.1 k.2.2.1 k.2.2.2] (H7 s l (f6, d4))]) := by
 refine l0 Tryz.func65 rfl (n := 71) rfl (by decide +kernel) bl (fr := [(0, .slice a_s m_s c_s), (1, .slice a_l m_l c_l), (2, .agg #[.slice r5 s8 o9, .slice o2 s5 o1])]) rfl fun w L hR => ?_
 obtain ⟨hs, hl, t7, s0⟩ := hR
 obtain ⟨rfl, ls⟩ := hs.slen
 obtain ⟨rfl, ll⟩ := hl.slen
 obtain ⟨rfl, I9⟩ := t7.slen
 obtain ⟨rfl, H0⟩ := s0.slen
 refine Ew Z3 (Est rfl (N.box (cs := [_, _]) rfl dc rfl) (fun b5 _ => (Est rfl (N.alloc ty_Query dc) (fun b6 _ => (Ei rfl (Eu (Eq_ (Ew Z5 (Em rfl (Em rfl (Ey rfl (r9 (cs := [_, _]) ty_Query rfl (Has.pt (mS m0)) rfl) (Est rfl (n0 (a4v fo) rfl rfl rfl dc (fun w Lp hA => ⟨hA.ro hs, hA.ro hl, hA.ro t7, hA.ro s0⟩)) (fun _ _ => (Ent.b (fun q15 => ?_) (fun q15 => ?_)))))))))))))))
 ·have jq := F7 (s := s) (q := (f6, d4)) (by simpa using (Bool.and_eq_true_iff.1 q15).2)
  have jl := (a0w (Bool.and_eq_true_iff.1 q15).1).2
  have hqa : d4.length ≤ 4 := jq.1
  have hqh : f6.length ≤ 3 := jq.2.1
  have hqt : ∀ a ∈ d4, a.2.length ≤ 3 := jq.2.2
  refine Ey rfl ((Y.not (b := true) rfl).yd) (Eu (o4 rfl (i7 (Et (Eq_ (D.region (fun j => true) mixed (Dyp 0 rfl (o0 rfl) (Dy 2 rfl (r9 (cs := [_, _]) ty_Query rfl (Has.pt (mS m0)) rfl) ?_))))))))
  obtain ⟨lB, hlB, hb_l⟩ := Ro.bMethodB hl
  have jlB := hb_l.len
  refine t6 1 rfl rfl kr (fun _ => rfl) (N.call (b5C fo) rfl rfl rfl dc rfl (fun w Lp hA => hA.ro hlB)) (fun k19 _ => ?_)
  obtain ⟨a19, m19, c19⟩ := k19
  refine f5 m0 fun e19 l19 => ?_
  subst e19
  have hbx := b5D hb_l
  have jex : (exF l).length = l.length := List.length_map ..
  refine t6 3 rfl rfl kr (fun _ => rfl) (N.call (a5c fo (Nat.le_trans jq.1 dc) jq.2.2) rfl rfl rfl dc rfl (fun w Lp hA => ⟨hA.bMethodB m0 hbx, hA.ro t7, hA.ro s0⟩)) (fun k21 _ => ?_)
  obtain ⟨a21, m21, c21⟩ := k21
  refine f5 m0 fun e21 l21 => ?_
  subst e21
  refine Dyp 4 rfl (F0 rfl) (s3 kr (Et (Ew Z7 (Est rfl (Nb [] [] us_Is i8 rfl rfl) (fun b22 _ => (Ent.drop (Ey rfl ((j6 fo_Query_0 ty_Is dc rfl).yd) (Ey rfl (g9 ty_Is rfl (Hz (mS (mS (mS m0))) 0 rfl) rfl) (Est rfl (K7 (E := Enc.int) Plain.int us_Is i8 rfl rfl rfl t7 bn bn dc) (fun p25 _ => (Ey rfl ((J2 (pvs := [_]) (cs := [_, _]) ty_Query a3Y rfl rfl).yd) (Est rfl (N.alloc ty_Query dc) (fun b9 _ => (Est rfl (Ns [_, _] ty_Query rfl) (fun _ _ => (Eu (Eq_ (Ew Z1 (Ei rfl (Eu (E.block (s7 (A := []) (Own.nil (E := W7) (e := tAtom) (a := none)) rfl (i9 (congrArg (ow w9 [_]) (show [] = I6 (d4.take 0) ((grF (exF l) d4).2.1.take 0) from by first | rfl | (simp; done) | grind [d1, d2, t1, t2])) (E.loop (κ := Nat × Option Addr × Nat × Nat) (fun g => g.1 ≤ d4.length ∧ True) (fun g => [(0, .slice a_s s.length c_s), (5, .pointer (some ⟨b5, 0, none⟩)), (6, .pointer (some ⟨b6, 0, none⟩)), (8, .slice a21 ((grF (exF l) d4).1).length c21), (9, .pointer (some ⟨b9, 0, none⟩)), (10, .int .i64 (↑g.1 : Int))]) (fun g => [ow w9 [.slice g.2.1 g.2.2.1 g.2.2.2] (I6 (d4.take g.1) ((grF (exF l) d4).2.1.take g.1)), pt b9 61 [.slice p25.1 f6.length p25.2, .slice g.2.1 g.2.2.1 g.2.2.2], ow eIs [.slice p25.1 f6.length p25.2] f6, ow P2 [.slice a21 ((grF (exF l) d4).1).length c21] ((grF (exF l) d4).1), ow H1 [.slice a19 (exB lB).length c19] (exB lB), pt b6 61 [.slice none 0 0, .slice none 0 0], pt b5 61 [.slice r5 f6.length o9, .slice o2 d4.length o1]]) (fun g => d4.length - g.1) (0, none, 0, 0) ⟨Nat.zero_le _, by simp⟩ ⟨rfl, rfl, rfl, rfl, rfl, rfl, trivial⟩ (.refl _) (fun g pg => ?_)))))))))))))))))))))))))
  obtain ⟨g, aA0_0, mA0_0, cA0_0⟩ := g
  try dsimp only at pg
  try dsimp only
  obtain ⟨pk, pa⟩ := pg
  have jd := b1v (l := exF l) (d8 := d4)
  have jp := a7a (al := d4.take g) (ds := (grF (exF l) d4).2.1.take g)
  have jt := List.length_take_le g d4
  have jtp := b3r (g := g) (ds := (grF (exF l) d4).2.1.take g) hqt hqa
  refine f5 m0 fun eaA0_0 laA0_0 => ?_
  subst eaA0_0
  refine Eq_ (Ew Z5 (Em rfl (Ey rfl ((j6 fo_Query_1 ty_Atoms dc rfl).yd) (Ey rfl (g9 ty_Atoms rfl ((Has.pt (mS (mS (mS (mS (mS (mS m0))))))).sub (cs' := [_]) 1 rfl) rfl) (Ey rfl ((Y.len us_Atoms rfl).yd) (Ey rfl ((Y.lss rfl rfl).yd) (o7 (fun q31 => ?_) (fun q31 => ?_))))))))
  ·refine Eu (o5 rfl (i7 (Et (Eq_ (E.block (Ew Z1 (Ei rfl (Eu (E.block (i9 (congrArg (ow w9 [_]) (show I6 (d4.take g) ((grF (exF l) d4).2.1.take g) = I6 (d4.take g) ((grF (exF l) d4).2.1.take g) ++ (((grF (exF l) d4).1.take 0).filter fun x => decide (x.1 = (g : Int))).map (fun _ => d4[g]) from by simp)) (E.loop (κ := Nat × Option Addr × Nat × Nat) (fun k => k.1 ≤ (grF (exF l) d4).1.length ∧ True) (fun k => [(0, .slice a_s s.length c_s), (5, .pointer (some ⟨b5, 0, none⟩)), (6, .pointer (some ⟨b6, 0, none⟩)), (8, .slice a21 ((grF (exF l) d4).1).length c21), (9, .pointer (some ⟨b9, 0, none⟩)), (10, .int .i64 (g : Int)), (11, .int .i64 (↑k.1 : Int))]) (fun k => [ow w9 [.slice k.2.1 k.2.2.1 k.2.2.2] (I6 (d4.take g) ((grF (exF l) d4).2.1.take g) ++ (((grF (exF l) d4).1.take k.1).filter fun x => decide (x.1 = (g : Int))).map (fun _ => d4[g])), pt b9 61 [.slice p25.1 f6.length p25.2, .slice k.2.1 k.2.2.1 k.2.2.2], ow eIs [.slice p25.1 f6.length p25.2] f6, ow P2 [.slice a21 ((grF (exF l) d4).1).length c21] ((grF (exF l) d4).1), ow H1 [.slice a19 (exB lB).length c19] (exB lB), pt b6 61 [.slice none 0 0, .slice none 0 0], pt b5 61 [.slice r5 f6.length o9, .slice o2 d4.length o1]]) (fun k => (grF (exF l) d4).1.length - k.1) (0, aA0_0, (I6 (d4.take g) ((grF (exF l) d4).2.1.take g)).length, cA0_0) ⟨Nat.zero_le _, by simp⟩ ⟨rfl, rfl, rfl, rfl, rfl, rfl, rfl, trivial⟩ (.refl _) (fun k pk => ?_))))))))))))
   obtain ⟨k, aA1_0, mA1_0, cA1_0⟩ := k
   try dsimp only at pk
   try dsimp only
   obtain ⟨pk, pa⟩ := pk
   have jk := b6E (X := (grF (exF l) d4).1) (k := k) (c := (g : Int)) (a := d4[g])
   have jk4 := b5B (X := (grF (exF l) d4).1) (k := k) (c := (g : Int))
   have jk2 := b2I (l := exF l) (d8 := d4) (n := d4.length)
   have jk3 : (grF (exF l) d4).1.length ≤ d4.length := jk2
   refine f5 m0 fun eaA1_0 laA1_0 => ?_
   subst eaA1_0
   refine Eq_ (Ew Z4 (Em rfl (Em rfl (Ey rfl ((Y.len us_Steps rfl).yd) (Ey rfl ((Y.lss rfl rfl).yd) (o7 (fun q37 => ?_) (fun q37 => ?_)))))))
   ·refine Eu (o5 rfl (i7 (Et (Eq_ (E.block (Ew Z7 (Em rfl (Em rfl (U9 (mS (mS (mS m0))) om fun ab42 ae42 => (v7 (V7 (x := ((grF (exF l) d4).1)[k]) k (List.getElem?_eq_getElem om) fun ce42 => ?_)))))))))))
    refine f8 (b7h fun  oe42 oi42_0 oi42_1 => ?_)
    subst oe42
    refine Ey rfl ((s4 us_Steps ty_Step rfl ae42 rfl k rfl om).yd) (Ey rfl ((j6 fo_Step_0 i8 dc rfl).yd) (Ey rfl (g9 i8 rfl ((Has.hole ae42 m0).sub (cs' := [_]) 0 rfl) rfl) (Em rfl (Ey rfl ((Y.eql rfl rfl).yd) (o7 (fun q46 => ?_) (fun q46 => ?_))))))
    ·refine Eu (o5 rfl (D.region (fun j => !(Nat.beq j 16) && !(Nat.beq j 18)) mixed (Dyp 0 rfl (j6 fo_Query_1 ty_Atoms dc rfl) (Dy 1 rfl (g9 ty_Atoms rfl (Hz (mS (mS m0)) 1 rfl) rfl) (Dyp 2 rfl (j6 fo_Query_1 ty_Atoms dc rfl) (Dy 3 rfl (g9 ty_Atoms rfl ((Has.pt (mS (mS (mS (mS (mS (mS m0))))))).sub (cs' := [_]) 1 rfl) rfl) (Dyp 4 rfl (o0 rfl) ?_)))))))
     obtain ⟨eb52, eo52, ec52, ea52, er52, el52, eh52⟩ := s0.elem g om
     obtain ⟨xa52_0, xc52_0, rfl, ei52_0, xh52_0⟩ := J6 er52
     have := xh52_0.slen.2
     refine Dyp 5 rfl (s4 us_Atoms ty_Atom rfl ea52 rfl g rfl om) (Dyp 6 rfl (j6 fo_Atom_0 i8 dc rfl) (Dy 7 rfl (g9 i8 rfl ((eh52 _).sub (cs' := [_]) 0 rfl) rfl) (Dyp 8 rfl (j6 fo_Query_1 ty_Atoms dc rfl) (Dy 9 rfl (g9 ty_Atoms rfl ((Has.pt (mS (mS (mS (mS (mS (mS m0))))))).sub (cs' := [_]) 1 rfl) rfl) (Dyp 10 rfl (o0 rfl) (Dyp 11 rfl (s4 us_Atoms ty_Atom rfl ea52 rfl g rfl om) (Dyp 12 rfl (j6 fo_Atom_1 ty_Is dc rfl) (Dy 13 rfl (g9 ty_Is rfl ((eh52 _).sub (cs' := [_]) 1 rfl) rfl) ?_))))))))
     have jt3 := hqt _ (List.getElem_mem (show g < d4.length by omega))
     refine t6 14 rfl rfl kr (fun _ => rfl) (N.call (a6M fo) rfl rfl rfl dc rfl (fun w Lp hA => ⟨ei52_0, hA.ro xh52_0⟩)) (fun k61 _ => ?_)
     obtain ⟨a61, m61, c61⟩ := k61
     refine f5 m0 fun e61 l61 => ?_
     subst e61
     refine t6 15 rfl rfl kr (fun _ => rfl) (Nb [_] [_, _] us_Atoms ty_Atom rfl rfl) (fun b62 _ => (f8 (f8 (v7 (t6 16 rfl rfl kr (fun h => by cases h) (B1 (E := W7) (ex := d4[g]) us_Atoms ty_Atom rfl rfl rfl (a1c (x := d4[g]) ei52_0 Own.ow) rfl bn bn dc) (fun p63 _ => (Dyp 17 rfl (j6 fo_Query_1 ty_Atoms dc rfl) (o6 (t6 18 rfl rfl kr (fun h => by cases h) (Ns [_, _] ty_Atoms rfl) (fun _ _ => (s3 kr (t8 (Et (Ez Z3 (Em rfl (Ey rfl ((Y.add rfl rfl om om).yd) (Ei rfl (Eu (o6 (O1 (a4D (x := ((grF (exF l) d4).1)[k]) oi42_0 oi42_1) rfl (i9 (congrArg (ow P2 [_]) (List.set_getElem_self om)) (o6 (i9 (congrArg (ow w9 [_]) (show (I6 (d4.take g) ((grF (exF l) d4).2.1.take g) ++ (((grF (exF l) d4).1.take k).filter fun x => decide (x.1 = (g : Int))).map (fun _ => d4[g])) ++ [d4[g]] = I6 (d4.take g) ((grF (exF l) d4).2.1.take g) ++ (((grF (exF l) d4).1.take (k + 1)).filter fun x => decide (x.1 = (g : Int))).map (fun _ => d4[g]) from by first | exact b4d om q46 | exact b3B om q46)) (x7 (x7 (x7 (x5 (x7 (x7 (x7 ?_))))))))))))))))))))))))))))))
     exact Ea (k + 1, p63.1, ((I6 (d4.take g) ((grF (exF l) d4).2.1.take g) ++ (((grF (exF l) d4).1.take k).filter fun x => decide (x.1 = (g : Int))).map (fun _ => d4[g])).length + 1), p63.2) ⟨oz, trivial⟩
    ·refine Eu (o4 rfl (i7 (t8 (Et (Ez Z3 (Em rfl (Ey rfl ((Y.add rfl rfl om om).yd) (Ei rfl (Eu (O1 (a4D (x := ((grF (exF l) d4).1)[k]) oi42_0 oi42_1) rfl (i9 (congrArg (ow P2 [_]) (List.set_getElem_self om)) (f8 (i9 (congrArg (ow w9 [_]) (show I6 (d4.take g) ((grF (exF l) d4).2.1.take g) ++ (((grF (exF l) d4).1.take k).filter fun x => decide (x.1 = (g : Int))).map (fun _ => d4[g]) = I6 (d4.take g) ((grF (exF l) d4).2.1.take g) ++ (((grF (exF l) d4).1.take (k + 1)).filter fun x => decide (x.1 = (g : Int))).map (fun _ => d4[g]) from by first | exact b4d om q46 | exact b3B om q46)) (x7 (x7 (x7 (x5 (x7 (x7 (x7 ?_))))))))))))))))))))
     exact Ea (k + 1, aA1_0, (I6 (d4.take g) ((grF (exF l) d4).2.1.take g) ++ (((grF (exF l) d4).1.take k).filter fun x => decide (x.1 = (g : Int))).map (fun _ => d4[g])).length, cA1_0) ⟨oz, trivial⟩
   ·refine Eu (o4 rfl (E.exit (o3 (o3 (w3 (t8 (Et (Ez Z3 (Em rfl (Ey rfl ((Y.add rfl rfl om om).yd) (Ei rfl (Eu (i9 (congrArg (ow w9 [_]) (show I6 (d4.take g) ((grF (exF l) d4).2.1.take g) ++ (((grF (exF l) d4).1.take k).filter fun x => decide (x.1 = (g : Int))).map (fun _ => d4[g]) = I6 (d4.take (g + 1)) ((grF (exF l) d4).2.1.take (g + 1)) from by exact b7p rfl om om)) (x7 (x7 (x7 (x7 (x7 (x7 (x7 ?_))))))))))))))))))))
    exact Ea (g + 1, aA1_0, (I6 (d4.take g) ((grF (exF l) d4).2.1.take g) ++ (((grF (exF l) d4).1.take k).filter fun x => decide (x.1 = (g : Int))).map (fun _ => d4[g])).length, cA1_0) ⟨oz, trivial⟩
  ·refine Eu (o4 rfl (E.exit (o3 (o3 (w3 (Et (Eq_ (Ew Z4 (Em rfl (Ey rfl (r9 (cs := [_, _]) ty_Query rfl (Has.pt (mS m0)) rfl) (Est rfl (n0 (a1n jtp) rfl rfl rfl dc (fun w Lp hA => ⟨hA.ro hs, hA.ow (mS (mS m0)), hA.ow m0⟩)) (fun _ _ => (Ent.b (fun q67 => ?_) (fun q67 => ?_))))))))))))))
   ·rw [a0W om jd] at q67
    refine Ey rfl ((Y.not (b := true) rfl).yd) (Eu (o4 rfl (i7 (Et (Ew Z3 (Ey rfl (r9 (cs := [_, _]) ty_Query rfl (Has.pt (mS m0)) rfl) (y6 (Est rfl (Ns [_, _] ty_Query rfl) (fun _ _ => (Ei rfl (Eu (E.ret (f8 (i9 (congrArg (ow w9 [_]) (show _ = H7 s l (f6, d4) by first | exact (a0W om jd).trans (Q0 (q := (f6, d4)) q15 q67).2.1 | first | exact (Q0 (q := (f6, d4)) q15 q67).1 | exact (Q0 (q := (f6, d4)) q15 q67).2.1 | exact (Q0 (q := (f6, d4)) q15 q67).2.2 | exact (Q0 (q := (f6, d4)) q15 q67).1.symm | exact (Q0 (q := (f6, d4)) q15 q67).2.1.symm | exact (Q0 (q := (f6, d4)) q15 q67).2.2.symm)) (v7 (i9 (congrArg (ow eIs [_]) (show _ = H9 s l (f6, d4) by first | exact (a0W om jd).trans (Q0 (q := (f6, d4)) q15 q67).2.1 | first | exact (Q0 (q := (f6, d4)) q15 q67).1 | exact (Q0 (q := (f6, d4)) q15 q67).2.1 | exact (Q0 (q := (f6, d4)) q15 q67).2.2 | exact (Q0 (q := (f6, d4)) q15 q67).1.symm | exact (Q0 (q := (f6, d4)) q15 q67).2.1.symm | exact (Q0 (q := (f6, d4)) q15 q67).2.2.symm)) (f8 (f8 ?_))))))))))))))))))
    exact a0H br rfl rfl rfl (mS (mS m0)) ty_Query rfl ((_, _, _), (_, _, _)) trivial (by rw [show (S8 s l (f6, d4)) = (true) from (by first | exact (a0W om jd).trans (Q0 (q := (f6, d4)) q15 q67).2.1 | first | exact (Q0 (q := (f6, d4)) q15 q67).1 | exact (Q0 (q := (f6, d4)) q15 q67).2.1 | exact (Q0 (q := (f6, d4)) q15 q67).2.2 | exact (Q0 (q := (f6, d4)) q15 q67).1.symm | exact (Q0 (q := (f6, d4)) q15 q67).2.1.symm | exact (Q0 (q := (f6, d4)) q15 q67).2.2.symm)]; try rfl) (J := _) (.refl _) (.inl rfl)
   ·rw [a0W om jd] at q67
    refine Ey rfl ((Y.not (b := false) rfl).yd) (Eu (o5 rfl (Ew Z3 (Ey rfl ((J2 (pvs := []) (cs := [_, _]) ty_Query a3Y rfl rfl).yd) (y6 (Est rfl (Ns [_, _] ty_Query rfl) (fun _ _ => (Ei rfl (Eu (E.ret (l4 (s7 (A := []) (Own.nil (E := W7) (e := tAtom) (a := none)) rfl (i9 (congrArg (ow w9 [_]) (show _ = H7 s l (f6, d4) by first | exact (J7 (U7 (q := (f6, d4)) q67)).1 | exact (J7 (U7 (q := (f6, d4)) q67)).2.1 | exact (J7 (U7 (q := (f6, d4)) q67)).2.2 | exact (J7 (U7 (q := (f6, d4)) q67)).1.symm | exact (J7 (U7 (q := (f6, d4)) q67)).2.1.symm | exact (J7 (U7 (q := (f6, d4)) q67)).2.2.symm)) (s7 (A := []) (Own.nil (E := Enc.int) (e := tI) (a := none)) rfl (i9 (congrArg (ow eIs [_]) (show _ = H9 s l (f6, d4) by first | exact (J7 (U7 (q := (f6, d4)) q67)).1 | exact (J7 (U7 (q := (f6, d4)) q67)).2.1 | exact (J7 (U7 (q := (f6, d4)) q67)).2.2 | exact (J7 (U7 (q := (f6, d4)) q67)).1.symm | exact (J7 (U7 (q := (f6, d4)) q67)).2.1.symm | exact (J7 (U7 (q := (f6, d4)) q67)).2.2.symm)) (f8 (f8 ?_)))))))))))))))))
    exact a0H br rfl rfl rfl (mS (mS m0)) ty_Query rfl ((none, 0, 0), (none, 0, 0)) trivial (by rw [show (S8 s l (f6, d4)) = (false) from (by first | exact (J7 (U7 (q := (f6, d4)) q67)).1 | exact (J7 (U7 (q := (f6, d4)) q67)).2.1 | exact (J7 (U7 (q := (f6, d4)) q67)).2.2 | exact (J7 (U7 (q := (f6, d4)) q67)).1.symm | exact (J7 (U7 (q := (f6, d4)) q67)).2.1.symm | exact (J7 (U7 (q := (f6, d4)) q67)).2.2.symm)]; try rfl) (J := _) (.refl _) (.inl rfl)
 ·refine Ey rfl ((Y.not (b := false) rfl).yd) (Eu (o5 rfl (Ew Z3 (Ey rfl ((J2 (pvs := []) (cs := [_, _]) ty_Query a3Y rfl rfl).yd) (Est rfl (Ns [_, _] ty_Query rfl) (fun _ _ => (Ei rfl (Eu (E.ret (l4 (s7 (A := []) (Own.nil (E := W7) (e := tAtom) (a := none)) rfl (i9 (congrArg (ow w9 [_]) (show _ = H7 s l (f6, d4) by first | exact (J7 (q := (f6, d4)) (U8 q15)).1 | exact (J7 (q := (f6, d4)) (U8 q15)).2.1 | exact (J7 (q := (f6, d4)) (U8 q15)).2.2 | exact (J7 (q := (f6, d4)) (U8 q15)).1.symm | exact (J7 (q := (f6, d4)) (U8 q15)).2.1.symm | exact (J7 (q := (f6, d4)) (U8 q15)).2.2.symm)) (s7 (A := []) (Own.nil (E := Enc.int) (e := tI) (a := none)) rfl (i9 (congrArg (ow eIs [_]) (show _ = H9 s l (f6, d4) by first | exact (J7 (q := (f6, d4)) (U8 q15)).1 | exact (J7 (q := (f6, d4)) (U8 q15)).2.1 | exact (J7 (q := (f6, d4)) (U8 q15)).2.2 | exact (J7 (q := (f6, d4)) (U8 q15)).1.symm | exact (J7 (q := (f6, d4)) (U8 q15)).2.1.symm | exact (J7 (q := (f6, d4)) (U8 q15)).2.2.symm)) (f8 (f8 ?_))))))))))))))))
  exact a0H br rfl rfl rfl (mS (mS m0)) ty_Query rfl ((none, 0, 0), (none, 0, 0)) trivial (by rw [show (S8 s l (f6, d4)) = (false) from (by first | exact (J7 (q := (f6, d4)) (U8 q15)).1 | exact (J7 (q := (f6, d4)) (U8 q15)).2.1 | exact (J7 (q := (f6, d4)) (U8 q15)).2.2 | exact (J7 (q := (f6, d4)) (U8 q15)).1.symm | exact (J7 (q := (f6, d4)) (U8 q15)).2.1.symm | exact (J7 (q := (f6, d4)) (U8 q15)).2.2.symm)]; try rfl) (J := _) (.refl _) (.inl rfl)
end Go.Proofs.YtdopeopehgdccaaGreat
