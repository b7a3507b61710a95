import Derived.Test.YtdopeopehgdccaaGreatBs
import Derived.Test.YtdopeopehgdccaaGreatT70
import Derived.Test.YtdopeopehgdccaaGreatBl
import Derived.Test.YtdopeopehgdccaaGreatT23
namespace Go.Proofs.YtdopeopehgdccaaGreat
open Go.RowKit
set_option linter.all false
set_option maxHeartbeats 2000000
attribute [local irreducible] Nop Yd Yp Ent Has Tr FnP FnP2 Src K9 U8 W3 X6 E0
variable {l : List (Int × List Int × Int × Int × Int)} {d4 : List (Int × List Int)} {s d9 : List Int} {m_s c_s m_l c_l o1 l0 n9 j7 : Nat} {a_s a_l l2 j8 : Option Addr}
theorem a7y (hz : C8 (fun x => x.2.length) d4 ≤ 1048576) : Tr Tryz.prog 177 [.slice a_s m_s c_s, .slice a_l m_l c_l, .agg #[.slice l2 o1 l0, .slice j8 n9 j7]] (fun w L => Ro w L eIs [.slice a_s m_s c_s] s ∧ Ro w L x9 [.slice a_l m_l c_l] l ∧ Ro w L eIs [.slice l2 o1 l0] d9 ∧ Ro w L s3 [.slice j8 n9 j7] d4) [] (κ := Unit) (fun k => True) (fun k => .bool (B3 s l && y8 s (d9, d4))) (fun k => []) := by
 refine Tr.intro Tryz.func177 rfl (n := 15) rfl (by decide +kernel) bl (fr := [(0, .slice a_s m_s c_s), (1, .slice a_l m_l c_l), (2, .agg #[.slice l2 o1 l0, .slice j8 n9 j7])]) rfl fun w L hR => ?_
 obtain ⟨hs, hl, o3, n8⟩ := hR
 obtain ⟨rfl, ls⟩ := hs.slen
 obtain ⟨rfl, ll⟩ := hl.slen
 obtain ⟨rfl, E9⟩ := o3.slen
 obtain ⟨rfl, D1⟩ := n8.slen
 refine Ew Z2 (Est rfl (N.box (cs := [_, _]) rfl dc rfl) (fun b5 _ => (Eas rfl rfl (Ev Z9 (Emv rfl rfl (Emv rfl rfl (Est rfl (N.call0 a5C rfl rfl rfl dc (fun w Lp hA => ⟨hA.ro hs, hA.ro hl⟩)) (fun _ _ => (Ent.b (fun q9 => ?_) (fun q9 => ?_))))))))))
 ·refine Emv rfl rfl (Emv rfl rfl (Ey rfl (Y.ldS (cs := [_, _]) ty_Query rfl (Has.pt m0) rfl) (Est rfl (N.call0 (a3u fc) rfl rfl rfl dc (fun w Lp hA => ⟨hA.ro hs, hA.ro o3, hA.ro n8⟩)) (fun _ _ => (Ey rfl ((Y.pkt rfl rfl).yd) (Eas rfl rfl ?_))))))
  exact Eu (E.ret (Fb rfl rfl (by grind [d1, d2, t1, t2])))
 ·refine Emv rfl rfl (Es rfl (Es rfl (Es rfl (Ey rfl ((Y.pkf rfl rfl).yd) (Eas rfl rfl ?_)))))
  exact Eu (E.ret (Fb rfl rfl (by grind [d1, d2, t1, t2])))
theorem a2t (hz : C8 (fun x => x.2.length) d4 ≤ 1048576) : Tr Tryz.prog 141 [.slice a_s m_s c_s, .slice a_l m_l c_l, .agg #[.slice l2 o1 l0, .slice j8 n9 j7]] (fun w L => Ro w L eIs [.slice a_s m_s c_s] s ∧ Ro w L x9 [.slice a_l m_l c_l] l ∧ Ro w L eIs [.slice l2 o1 l0] d9 ∧ Ro w L s3 [.slice j8 n9 j7] d4) [] (κ := Unit) (fun k => True) (fun k => .bool (B3 s l && y8 s (d9, d4))) (fun k => []) := by
 refine Tr.intro Tryz.func141 rfl (n := 15) rfl (by decide +kernel) bl (fr := [(0, .slice a_s m_s c_s), (1, .slice a_l m_l c_l), (2, .agg #[.slice l2 o1 l0, .slice j8 n9 j7])]) rfl fun w L hR => ?_
 obtain ⟨hs, hl, o3, n8⟩ := hR
 obtain ⟨rfl, ls⟩ := hs.slen
 obtain ⟨rfl, ll⟩ := hl.slen
 obtain ⟨rfl, E9⟩ := o3.slen
 obtain ⟨rfl, D1⟩ := n8.slen
 refine Ew Z2 (Est rfl (N.box (cs := [_, _]) rfl dc rfl) (fun b5 _ => (Eas rfl rfl (Ev Z9 (Emv rfl rfl (Emv rfl rfl (Est rfl (N.call0 a2x rfl rfl rfl dc (fun w Lp hA => ⟨hA.ro hs, hA.ro hl⟩)) (fun _ _ => (Ent.b (fun q9 => ?_) (fun q9 => ?_))))))))))
 ·refine Emv rfl rfl (Emv rfl rfl (Ey rfl (Y.ldS (cs := [_, _]) ty_Query rfl (Has.pt m0) rfl) (Est rfl (N.call0 (a0I fc) rfl rfl rfl dc (fun w Lp hA => ⟨hA.ro hs, hA.ro o3, hA.ro n8⟩)) (fun _ _ => (Ey rfl ((Y.pkt rfl rfl).yd) (Eas rfl rfl ?_))))))
  exact Eu (E.ret (Fb rfl rfl (by grind [d1, d2, t1, t2])))
 ·refine Emv rfl rfl (Es rfl (Es rfl (Es rfl (Ey rfl ((Y.pkf rfl rfl).yd) (Eas rfl rfl ?_)))))
  exact Eu (E.ret (Fb rfl rfl (by grind [d1, d2, t1, t2])))
theorem a5R (hln : l.length ≤ 5) (hqa : d4.length ≤ 4) (hqh : d9.length ≤ 3) (hqt : ∀ a ∈ d4, a.2.length ≤ 3) : Tr Tryz.prog 75 [.slice a_s m_s c_s, .slice a_l m_l c_l, .agg #[.slice l2 o1 l0, .slice j8 n9 j7]] (fun w L => Ro w L eIs [.slice a_s m_s c_s] s ∧ Ro w L x9 [.slice a_l m_l c_l] l ∧ Ro w L eIs [.slice l2 o1 l0] d9 ∧ Ro w L s3 [.slice j8 n9 j7] d4) [] (κ := (Option Addr × Nat × Nat) × (Option Addr × Nat × Nat)) (fun k => True) (fun k => .tuple #[.agg #[.slice k.1.1 k.1.2.1 k.1.2.2, .slice k.2.1 k.2.2.1 k.2.2.2], .bool (y8 s (d9, J0 l d4))]) (fun k => [ow eIs [.slice k.1.1 k.1.2.1 k.1.2.2] d9, ow s3 [.slice k.2.1 k.2.2.1 k.2.2.2] (J0 l d4)]) := by
 refine Tr.intro Tryz.func75 rfl (n := 49) rfl (by decide +kernel) bl (fr := [(0, .slice a_s m_s c_s), (1, .slice a_l m_l c_l), (2, .agg #[.slice l2 o1 l0, .slice j8 n9 j7])]) rfl fun w L hR => ?_
 obtain ⟨hs, hl, o3, n8⟩ := hR
 obtain ⟨rfl, ls⟩ := hs.slen
 obtain ⟨rfl, ll⟩ := hl.slen
 obtain ⟨rfl, E9⟩ := o3.slen
 obtain ⟨rfl, D1⟩ := n8.slen
 refine Ew Z3 (Est rfl (N.box (cs := [_, _]) rfl dc rfl) (fun b5 _ => (Est rfl (N.alloc ty_Query dc) (fun b6 _ => (Eas rfl rfl (Eu (Eq_ (D.region (fun j => true) mixed (Dyp 0 rfl (Y.mv rfl) (Dyp 2 rfl (Y.fld fo_Query_1 ty_Atoms dc rfl) (Dy 3 rfl (Y.ld1 ty_Atoms rfl ((Has.pt (mS m0)).sub (cs' := [_]) 1 rfl) rfl) ?_)))))))))))
 obtain ⟨lB, hlB, hb_l⟩ := Ro.bMethodB hl
 have jlB := hb_l.len
 refine D.st 1 rfl rfl kr (fun _ => rfl) (N.call (a5Q fo) rfl rfl rfl dc rfl (fun w Lp hA => hA.ro hlB)) (fun k15 _ => ?_)
 obtain ⟨a15, m15, c15⟩ := k15
 refine Ent.lenow m0 fun e15 l15 => ?_
 subst e15
 have hbx := b1M hb_l
 have jex : (exF l).length = l.length := List.length_map ..
 refine D.st 4 rfl rfl kr (fun _ => rfl) (N.call (a4q fo fo fo) rfl rfl rfl dc rfl (fun w Lp hA => ⟨hA.bMethodB m0 hbx, hA.ro n8⟩)) (fun k18 _ => ?_)
 obtain ⟨⟨a18_0, m18_0, c18_0⟩, ⟨a18_1, m18_1, c18_1⟩⟩ := k18
 refine Ent.lenow m0 fun e18_0 l18_0 => ?_
 subst e18_0
 refine Ent.lenow (mS m0) fun e18_1 l18_1 => ?_
 subst e18_1
 refine Dyp 5 rfl (Y.mv rfl) (Dyp 6 rfl (Y.ext rfl rfl) (Dyp 7 rfl (Y.ext rfl rfl) (Dyp 8 rfl (Y.as rfl) (Dyp 9 rfl (Y.as rfl) (D.done kr (Et (Ew Z6 (Ey rfl ((Y.fld fo_Query_0 ty_Is dc rfl).yd) (Ey rfl (Y.ld1 ty_Is rfl ((Has.pt (mS (mS (mS (mS m0))))).sub (cs' := [_]) 0 rfl) rfl) (Est rfl (N.call (Y9 fo) rfl rfl rfl dc rfl (fun w Lp hA => hA.ro o3)) (fun k23 _ => ?_)))))))))))
 obtain ⟨a23, m23, c23⟩ := k23
 refine Ent.lenow m0 fun e23 l23 => ?_
 subst e23
 refine Ey rfl ((Y.bld (pvs := [_]) (cs := [_, _]) ty_Query a1h rfl rfl).yd) (Est rfl (N.alloc ty_Query dc) (fun b10 _ => (Est rfl (N.sto (vs := [_, _]) (cs' := [_, _]) ty_Query rfl rfl rfl rfl rfl bl rfl) (fun _ _ => (Eu (Eq_ (Ew Z4 (Ey rfl ((Y.fld fo_Query_1 ty_Atoms dc rfl).yd) (Ey rfl (Y.ld1 ty_Atoms rfl ((Has.pt (mS (mS (mS (mS (mS (mS m0))))))).sub (cs' := [_]) 1 rfl) rfl) (Ey rfl ((Y.len us_Atoms rfl).yd) (Emv rfl rfl (Eu (E.block (Ent.mkow (A := []) (Own.nil (E := P1) (e := tAtom) (a := none)) rfl (Ent.cv (congrArg (ow s3 [_]) (show [] = E4 (d4.take 0) ((grF (exF l) d4).2.1.take 0) from by first | rfl | (simp; done) | grind [d1, d2, t1, t2])) (E.loop (κ := Nat × Option Addr × Nat × Nat) (fun g => g.1 ≤ d4.length ∧ True) (fun g => [(0, .slice a_s s.length c_s), (6, .pointer (some ⟨b6, 0, none⟩)), (9, .slice a18_1 ((grF (exF l) d4).2.1).length c18_1), (10, .pointer (some ⟨b10, 0, none⟩)), (26, .slice j8 d4.length j7), (27, .int .i64 (↑d4.length : Int)), (28, .int .i64 (↑g.1 : Int))]) (fun g => [ow s3 [.slice g.2.1 g.2.2.1 g.2.2.2] (E4 (d4.take g.1) ((grF (exF l) d4).2.1.take g.1)), pt b10 61 [.slice a23 (d9).length c23, .slice g.2.1 g.2.2.1 g.2.2.2], ow eIs [.slice a23 (d9).length c23] d9, ow I8 [.slice a18_0 ((grF (exF l) d4).1).length c18_0] ((grF (exF l) d4).1), ow eBs [.slice a18_1 ((grF (exF l) d4).2.1).length c18_1] ((grF (exF l) d4).2.1), ow D6 [.slice a15 (exB lB).length c15] (exB lB), pt b6 61 [.slice none 0 0, .slice none 0 0], pt b5 61 [.slice l2 d9.length l0, .slice j8 d4.length j7]]) (fun g => d4.length - g.1) (0, none, 0, 0) ⟨Nat.zero_le _, by simp⟩ ⟨rfl, rfl, rfl, rfl, rfl, rfl, rfl, trivial⟩ (.refl _) (fun g pg => ?_)))))))))))))))))
 obtain ⟨g, aA0_0, mA0_0, cA0_0⟩ := g
 try dsimp only at pg
 try dsimp only
 obtain ⟨pk, pa⟩ := pg
 have jd := a8a (l := exF l) (d7 := d4)
 have jp := a5d (al := d4.take g) (ds := (grF (exF l) d4).2.1.take g)
 have jt := List.length_take_le g d4
 have jtp := a9R (g := g) (ds := (grF (exF l) d4).2.1.take g) hqt hqa
 refine Ent.lenow m0 fun eaA0_0 laA0_0 => ?_
 subst eaA0_0
 refine Ew Z1 (Ey rfl ((Y.lss rfl rfl).yd) (Ent.d (fun q29 => ?_) (fun q29 => ?_)))
 ·refine Eu (Eq_ (E.ct rfl (E.skipc (Et (Eq_ (E.block (Ew Z6 (Emv rfl rfl ?_))))))))
  obtain ⟨eb31, eo31, ec31, ea31, er31, el31, eh31⟩ := n8.elem g om
  obtain ⟨xa31_0, xc31_0, rfl, ei31_0, xh31_0⟩ := Ro.pAtom er31
  have := xh31_0.slen.2
  refine Ey rfl ((Y.ix us_Atoms ty_Atom rfl ea31 rfl g rfl om).yd) (Ey rfl (Y.ldS (cs := [_, _]) ty_Atom rfl (eh31 _) rfl) (Est rfl (N.alloc ty_Atom dc) (fun b12 _ => (Eas rfl rfl (Est rfl (N.sto (vs := [_, _]) (cs' := [_, _]) ty_Atom rfl rfl rfl rfl rfl bl rfl) (fun _ _ => (Ev Z4 (Emv rfl rfl (Emv rfl rfl (Ent.adr (mS (mS (mS (mS (mS m0))))) om fun ab35 ae35 => (Ey rfl ((Y.ix us_Bs ty_B rfl ae35 rfl g rfl om).yd) (Ey rfl (Y.ld1 ty_B rfl (Has.owBl ae35 (mS (mS (mS (mS (mS m0))))) om) rfl) (Ent.b (fun q36 => ?_) (fun q36 => ?_))))))))))))))
  ·refine Eu (E.ct rfl (D.region (fun j => !(Nat.beq j 5) && !(Nat.beq j 7)) mixed (Dyp 0 rfl (Y.fld fo_Query_1 ty_Atoms dc rfl) (Dy 1 rfl (Y.ld1 ty_Atoms rfl ((Has.pt (mS (mS m0))).sub (cs' := [_]) 1 rfl) rfl) (Dy 2 rfl (Y.ldS (cs := [_, _]) ty_Atom rfl (Has.pt m0) rfl) ?_)))))
   have jt3 := hqt _ (List.getElem_mem (show g < d4.length by omega))
   refine D.st 3 rfl rfl kr (fun _ => rfl) (N.call (a6S fo) rfl rfl rfl dc rfl (fun w Lp hA => ⟨ei31_0, hA.ro xh31_0⟩)) (fun k40 _ => ?_)
   obtain ⟨a40, m40, c40⟩ := k40
   refine Ent.lenow m0 fun e40 l40 => ?_
   subst e40
   refine D.st 4 rfl rfl kr (fun _ => rfl) (N.bsl (pvs := [_]) (cs := [_, _]) us_Atoms ty_Atom rfl dc dc (o6 rfl rfl) rfl dc) (fun b41 _ => (Ent.p1 (Ent.p1 (Ent.p3 (D.st 5 rfl rfl kr (fun h => by cases h) (N.push (E := P1) (ex := d4[g]) us_Atoms ty_Atom rfl rfl rfl (Own.mkAtom (x := d4[g]) ei31_0 Own.ow) rfl bn bn dc) (fun p42 _ => (Dyp 6 rfl (Y.fld fo_Query_1 ty_Atoms dc rfl) (Ent.p2 (D.st 7 rfl rfl kr (fun h => by cases h) (N.sto (vs := [_]) (cs' := [_, _]) ty_Atoms rfl rfl rfl rfl rfl bl rfl) (fun _ _ => (D.done kr (E.bln (Et (Ez Z2 (Ey rfl ((Y.add rfl rfl om om).yd) (Emv rfl rfl (Eu (Ent.p2 (Ent.drop (Ent.p1 (Ent.cv (congrArg (ow s3 [_]) (show (E4 (d4.take g) ((grF (exF l) d4).2.1.take g)) ++ [d4[g]] = E4 (d4.take (g + 1)) ((grF (exF l) d4).2.1.take (g + 1)) from by first | exact a9V om om q36 | exact b0u om om q36)) (Ent.p7 (Ent.p7 (Ent.p7 (Ent.p7 (Ent.p7 (Ent.p7 (Ent.p7 (Ent.p7 ?_)))))))))))))))))))))))))))))
   exact Ea (g + 1, p42.1, ((E4 (d4.take g) ((grF (exF l) d4).2.1.take g)).length + 1), p42.2) ⟨oz, trivial⟩
  ·refine Eu (E.cf rfl (E.skipc (E.bln (Et (Ez Z2 (Ey rfl ((Y.add rfl rfl om om).yd) (Emv rfl rfl (Eu (Ent.drop (Ent.cv (congrArg (ow s3 [_]) (show E4 (d4.take g) ((grF (exF l) d4).2.1.take g) = E4 (d4.take (g + 1)) ((grF (exF l) d4).2.1.take (g + 1)) from by first | exact a9V om om q36 | exact b0u om om q36)) (Ent.p7 (Ent.p7 (Ent.p7 (Ent.p7 (Ent.p7 (Ent.p7 (Ent.p7 (Ent.p7 ?_))))))))))))))))))
   exact Ea (g + 1, aA0_0, (E4 (d4.take g) ((grF (exF l) d4).2.1.take g)).length, cA0_0) ⟨oz, trivial⟩
 ·refine Eu (Eq_ (E.cf rfl (E.exit (E.the (E.the (E.blh (Et (Eq_ (D.region (fun j => !(Nat.beq j 4)) mixed (Dy 0 rfl (Y.ldS (cs := [_, _]) ty_Query rfl (Has.pt (mS m0)) rfl) (Dyp 1 rfl (Y.mv rfl) (Dy 2 rfl (Y.ldS (cs := [_, _]) ty_Query rfl (Has.pt (mS m0)) rfl) (D.st 3 rfl rfl kr (fun _ => rfl) (N.call0 (a3u jtp) rfl rfl rfl dc (fun w Lp hA => ⟨hA.ro hs, hA.ow (mS (mS m0)), hA.ow m0⟩)) (fun _ _ => (Ent.p6 (D.st 4 rfl rfl kr (fun h => by cases h) (N.sto (vs := [_, _]) (cs' := [_, _]) ty_Query rfl rfl rfl rfl rfl bl rfl) (fun _ _ => (Dyp 5 rfl (Y.as rfl) (D.done kr (Et (E.ret (Ent.p1 (Ent.cv (congrArg (ow s3 [_]) (show _ = J0 l d4 by first | exact X2 om jd | (rw [X2 om jd]; rfl))) (Ent.p3 (Ent.p1 (Ent.p1 ?_))))))))))))))))))))))))))
  exact F.c2 br rfl rfl rfl (mS (mS m0)) ty_Query rfl ((_, _, _), (_, _, _)) trivial (by rw [show (y8 s (d9, J0 l d4)) = (y8 s (d9, (E4 (d4.take g) ((grF (exF l) d4).2.1.take g)))) from (by first | exact X2 om jd | (rw [X2 om jd]; rfl))]; try rfl) (J := _) (.refl _) (.inl rfl)
theorem a3H (hz : C8 (fun x => x.2.length) d4 ≤ 1048576) : Tr Tryz.prog 216 [.slice a_s m_s c_s, .slice a_l m_l c_l, .agg #[.slice l2 o1 l0, .slice j8 n9 j7]] (fun w L => Ro w L eIs [.slice a_s m_s c_s] s ∧ Ro w L x9 [.slice a_l m_l c_l] l ∧ Ro w L eIs [.slice l2 o1 l0] d9 ∧ Ro w L s3 [.slice j8 n9 j7] d4) [] (κ := (Option Addr × Nat × Nat) × (Option Addr × Nat × Nat)) (fun k => True) (fun k => .tuple #[.agg #[.slice k.1.1 k.1.2.1 k.1.2.2, .slice k.2.1 k.2.2.1 k.2.2.2], .bool (L4 s l (d9, d4))]) (fun k => [ow eIs [.slice k.1.1 k.1.2.1 k.1.2.2] (G2 s l (d9, d4)), ow s3 [.slice k.2.1 k.2.2.1 k.2.2.2] (F5 s l (d9, d4))]) := by
 refine Tr.intro Tryz.func216 rfl (n := 27) rfl (by decide +kernel) bl (fr := [(0, .slice a_s m_s c_s), (1, .slice a_l m_l c_l), (2, .agg #[.slice l2 o1 l0, .slice j8 n9 j7])]) rfl fun w L hR => ?_
 obtain ⟨hs, hl, o3, n8⟩ := hR
 obtain ⟨rfl, ls⟩ := hs.slen
 obtain ⟨rfl, ll⟩ := hl.slen
 obtain ⟨rfl, E9⟩ := o3.slen
 obtain ⟨rfl, D1⟩ := n8.slen
 refine Ew Z3 (Est rfl (N.box (cs := [_, _]) rfl dc rfl) (fun b5 _ => (Est rfl (N.alloc ty_Query dc) (fun b6 _ => (Eas rfl rfl (Eu (Eq_ (Ew Z5 (Emv rfl rfl (Emv rfl rfl (Ey rfl (Y.ldS (cs := [_, _]) ty_Query rfl (Has.pt (mS m0)) rfl) (Est rfl (N.call0 (a7y fo) rfl rfl rfl dc (fun w Lp hA => ⟨hA.ro hs, hA.ro hl, hA.ro o3, hA.ro n8⟩)) (fun _ _ => (Ent.b (fun q13 => ?_) (fun q13 => ?_)))))))))))))))
 ·have jq := C1 (s := s) (q := (d9, d4)) (by simpa using (Bool.and_eq_true_iff.1 q13).2)
  have jl := (R8 (Bool.and_eq_true_iff.1 q13).1).2
  have hqa : d4.length ≤ 4 := jq.1
  have hqh : d9.length ≤ 3 := jq.2.1
  have hqt : ∀ a ∈ d4, a.2.length ≤ 3 := jq.2.2
  refine Ey rfl ((Y.not (b := true) rfl).yd) (Eu (E.cf rfl (E.skipc (Et (Ew Z10 (Emv rfl rfl (Emv rfl rfl (Ey rfl (Y.ldS (cs := [_, _]) ty_Query rfl (Has.pt (mS m0)) rfl) (Est rfl (N.call (a5R jl jq.1 jq.2.1 jq.2.2) rfl rfl rfl dc rfl (fun w Lp hA => ⟨hA.ro hs, hA.ro hl, hA.ro o3, hA.ro n8⟩)) (fun k20 _ => ?_))))))))))
  obtain ⟨⟨a20_0, m20_0, c20_0⟩, ⟨a20_1, m20_1, c20_1⟩⟩ := k20
  refine Ent.lenow m0 fun e20_0 l20_0 => ?_
  subst e20_0
  refine Ent.lenow (mS m0) fun e20_1 l20_1 => ?_
  subst e20_1
  refine Emv rfl rfl (Ey rfl ((Y.ext rfl rfl).yd) (Ey rfl ((Y.ext rfl rfl).yd) (Est rfl (N.alloc ty_Query dc) (fun b8 _ => (Est rfl (N.sto (vs := [_, _]) (cs' := [_, _]) ty_Query rfl rfl rfl rfl rfl bl rfl) (fun _ _ => (Eas rfl rfl (Ent.b (fun q9 => ?_) (fun q9 => ?_)))))))))
  ·refine Eu (Eq_ (Ew Z2 (Emv rfl rfl (Ey rfl ((Y.not (b := true) rfl).yd) (Eu (E.cf rfl (E.skipc (Et (Ew Z3 (Ey rfl (Y.ldS (cs := [_, _]) ty_Query rfl (Has.pt m0) rfl) (Ent.p3 (Est rfl (N.sto (vs := [_, _]) (cs' := [_, _]) ty_Query rfl rfl rfl rfl rfl bl rfl) (fun _ _ => (Eas rfl rfl (Eu (E.ret (Ent.p3 (Ent.cv (congrArg (ow s3 [_]) (show _ = F5 s l (d9, d4) by first | exact (C4 (q := (d9, d4)) q13 q9).1 | exact (C4 (q := (d9, d4)) q13 q9).2.1 | exact (C4 (q := (d9, d4)) q13 q9).2.2 | exact (C4 (q := (d9, d4)) q13 q9).1.symm | exact (C4 (q := (d9, d4)) q13 q9).2.1.symm | exact (C4 (q := (d9, d4)) q13 q9).2.2.symm)) (Ent.p3 (Ent.cv (congrArg (ow eIs [_]) (show _ = G2 s l (d9, d4) by first | exact (C4 (q := (d9, d4)) q13 q9).1 | exact (C4 (q := (d9, d4)) q13 q9).2.1 | exact (C4 (q := (d9, d4)) q13 q9).2.2 | exact (C4 (q := (d9, d4)) q13 q9).1.symm | exact (C4 (q := (d9, d4)) q13 q9).2.1.symm | exact (C4 (q := (d9, d4)) q13 q9).2.2.symm)) (Ent.p1 (Ent.p1 ?_))))))))))))))))))))))
   exact F.c2 br rfl rfl rfl (mS (mS m0)) ty_Query rfl ((_, _, _), (_, _, _)) trivial (by rw [show (L4 s l (d9, d4)) = (true) from (by first | exact (C4 (q := (d9, d4)) q13 q9).1 | exact (C4 (q := (d9, d4)) q13 q9).2.1 | exact (C4 (q := (d9, d4)) q13 q9).2.2 | exact (C4 (q := (d9, d4)) q13 q9).1.symm | exact (C4 (q := (d9, d4)) q13 q9).2.1.symm | exact (C4 (q := (d9, d4)) q13 q9).2.2.symm)]; try rfl) (J := _) (.refl _) (.inl rfl)
  ·refine Eu (Eq_ (Ew Z2 (Emv rfl rfl (Ey rfl ((Y.not (b := false) rfl).yd) (Eu (E.ct rfl (Ew Z3 (Ey rfl ((Y.bld (pvs := []) (cs := [_, _]) ty_Query a1h rfl rfl).yd) (Ent.p3 (Est rfl (N.sto (vs := [_, _]) (cs' := [_, _]) ty_Query rfl rfl rfl rfl rfl bl rfl) (fun _ _ => (Eas rfl rfl (Eu (E.ret (E.thr (Ent.mkow (A := []) (Own.nil (E := P1) (e := tAtom) (a := none)) rfl (Ent.cv (congrArg (ow s3 [_]) (show _ = F5 s l (d9, d4) by first | exact (w5 (D7 (q := (d9, d4)) q9)).1 | exact (w5 (D7 (q := (d9, d4)) q9)).2.1 | exact (w5 (D7 (q := (d9, d4)) q9)).2.2 | exact (w5 (D7 (q := (d9, d4)) q9)).1.symm | exact (w5 (D7 (q := (d9, d4)) q9)).2.1.symm | exact (w5 (D7 (q := (d9, d4)) q9)).2.2.symm)) (Ent.mkow (A := []) (Own.nil (E := Enc.int) (e := tI) (a := none)) rfl (Ent.cv (congrArg (ow eIs [_]) (show _ = G2 s l (d9, d4) by first | exact (w5 (D7 (q := (d9, d4)) q9)).1 | exact (w5 (D7 (q := (d9, d4)) q9)).2.1 | exact (w5 (D7 (q := (d9, d4)) q9)).2.2 | exact (w5 (D7 (q := (d9, d4)) q9)).1.symm | exact (w5 (D7 (q := (d9, d4)) q9)).2.1.symm | exact (w5 (D7 (q := (d9, d4)) q9)).2.2.symm)) (Ent.p1 (Ent.p1 ?_)))))))))))))))))))))
   exact F.c2 br rfl rfl rfl (mS (mS m0)) ty_Query rfl ((none, 0, 0), (none, 0, 0)) trivial (by rw [show (L4 s l (d9, d4)) = (false) from (by first | exact (w5 (D7 (q := (d9, d4)) q9)).1 | exact (w5 (D7 (q := (d9, d4)) q9)).2.1 | exact (w5 (D7 (q := (d9, d4)) q9)).2.2 | exact (w5 (D7 (q := (d9, d4)) q9)).1.symm | exact (w5 (D7 (q := (d9, d4)) q9)).2.1.symm | exact (w5 (D7 (q := (d9, d4)) q9)).2.2.symm)]; try rfl) (J := _) (.refl _) (.inl rfl)
 ·refine Ey rfl ((Y.not (b := false) rfl).yd) (Eu (E.ct rfl (Ew Z3 (Ey rfl ((Y.bld (pvs := []) (cs := [_, _]) ty_Query a1h rfl rfl).yd) (Est rfl (N.sto (vs := [_, _]) (cs' := [_, _]) ty_Query rfl rfl rfl rfl rfl bl rfl) (fun _ _ => (Eas rfl rfl (Eu (E.ret (E.thr (Ent.mkow (A := []) (Own.nil (E := P1) (e := tAtom) (a := none)) rfl (Ent.cv (congrArg (ow s3 [_]) (show _ = F5 s l (d9, d4) by first | exact (w5 (q := (d9, d4)) (D8 q13)).1 | exact (w5 (q := (d9, d4)) (D8 q13)).2.1 | exact (w5 (q := (d9, d4)) (D8 q13)).2.2 | exact (w5 (q := (d9, d4)) (D8 q13)).1.symm | exact (w5 (q := (d9, d4)) (D8 q13)).2.1.symm | exact (w5 (q := (d9, d4)) (D8 q13)).2.2.symm)) (Ent.mkow (A := []) (Own.nil (E := Enc.int) (e := tI) (a := none)) rfl (Ent.cv (congrArg (ow eIs [_]) (show _ = G2 s l (d9, d4) by first | exact (w5 (q := (d9, d4)) (D8 q13)).1 | exact (w5 (q := (d9, d4)) (D8 q13)).2.1 | exact (w5 (q := (d9, d4)) (D8 q13)).2.2 | exact (w5 (q := (d9, d4)) (D8 q13)).1.symm | exact (w5 (q := (d9, d4)) (D8 q13)).2.1.symm | exact (w5 (q := (d9, d4)) (D8 q13)).2.2.symm)) (Ent.p1 (Ent.p1 ?_))))))))))))))))
  exact F.c2 br rfl rfl rfl (mS (mS m0)) ty_Query rfl ((none, 0, 0), (none, 0, 0)) trivial (by rw [show (L4 s l (d9, d4)) = (false) from (by first | exact (w5 (q := (d9, d4)) (D8 q13)).1 | exact (w5 (q := (d9, d4)) (D8 q13)).2.1 | exact (w5 (q := (d9, d4)) (D8 q13)).2.2 | exact (w5 (q := (d9, d4)) (D8 q13)).1.symm | exact (w5 (q := (d9, d4)) (D8 q13)).2.1.symm | exact (w5 (q := (d9, d4)) (D8 q13)).2.2.symm)]; try rfl) (J := _) (.refl _) (.inl rfl)
theorem a3G (hz : C8 (fun x => x.2.length) d4 ≤ 1048576) : Tr Tryz.prog 65 [.slice a_s m_s c_s, .slice a_l m_l c_l, .agg #[.slice l2 o1 l0, .slice j8 n9 j7]] (fun w L => Ro w L eIs [.slice a_s m_s c_s] s ∧ Ro w L x9 [.slice a_l m_l c_l] l ∧ Ro w L eIs [.slice l2 o1 l0] d9 ∧ Ro w L s3 [.slice j8 n9 j7] d4) [] (κ := (Option Addr × Nat × Nat) × (Option Addr × Nat × Nat)) (fun k => True) (fun k => .tuple #[.agg #[.slice k.1.1 k.1.2.1 k.1.2.2, .slice k.2.1 k.2.2.1 k.2.2.2], .bool (L4 s l (d9, d4))]) (fun k => [ow eIs [.slice k.1.1 k.1.2.1 k.1.2.2] (G2 s l (d9, d4)), ow s3 [.slice k.2.1 k.2.2.1 k.2.2.2] (F5 s l (d9, d4))]) := by
 refine Tr.intro Tryz.func65 rfl (n := 71) rfl (by decide +kernel) bl (fr := [(0, .slice a_s m_s c_s), (1, .slice a_l m_l c_l), (2, .agg #[.slice l2 o1 l0, .slice j8 n9 j7])]) rfl fun w L hR => ?_
 obtain ⟨hs, hl, o3, n8⟩ := hR
 obtain ⟨rfl, ls⟩ := hs.slen
 obtain ⟨rfl, ll⟩ := hl.slen
 obtain ⟨rfl, E9⟩ := o3.slen
 obtain ⟨rfl, D1⟩ := n8.slen
 refine Ew Z3 (Est rfl (N.box (cs := [_, _]) rfl dc rfl) (fun b5 _ => (Est rfl (N.alloc ty_Query dc) (fun b6 _ => (Eas rfl rfl (Eu (Eq_ (Ew Z5 (Emv rfl rfl (Emv rfl rfl (Ey rfl (Y.ldS (cs := [_, _]) ty_Query rfl (Has.pt (mS m0)) rfl) (Est rfl (N.call0 (a2t fo) rfl rfl rfl dc (fun w Lp hA => ⟨hA.ro hs, hA.ro hl, hA.ro o3, hA.ro n8⟩)) (fun _ _ => (Ent.b (fun q15 => ?_) (fun q15 => ?_)))))))))))))))
 ·have jq := C1 (s := s) (q := (d9, d4)) (by simpa using (Bool.and_eq_true_iff.1 q15).2)
  have jl := (R8 (Bool.and_eq_true_iff.1 q15).1).2
  have hqa : d4.length ≤ 4 := jq.1
  have hqh : d9.length ≤ 3 := jq.2.1
  have hqt : ∀ a ∈ d4, a.2.length ≤ 3 := jq.2.2
  refine Ey rfl ((Y.not (b := true) rfl).yd) (Eu (E.cf rfl (E.skipc (Et (Eq_ (D.region (fun j => true) mixed (Dyp 0 rfl (Y.mv rfl) (Dy 2 rfl (Y.ldS (cs := [_, _]) ty_Query rfl (Has.pt (mS m0)) rfl) ?_))))))))
  obtain ⟨lB, hlB, hb_l⟩ := Ro.bMethodB hl
  have jlB := hb_l.len
  refine D.st 1 rfl rfl kr (fun _ => rfl) (N.call (b1G fo) rfl rfl rfl dc rfl (fun w Lp hA => hA.ro hlB)) (fun k19 _ => ?_)
  obtain ⟨a19, m19, c19⟩ := k19
  refine Ent.lenow m0 fun e19 l19 => ?_
  subst e19
  have hbx := b1M hb_l
  have jex : (exF l).length = l.length := List.length_map ..
  refine D.st 3 rfl rfl kr (fun _ => rfl) (N.call (a2Y fo (Nat.le_trans jq.1 dc) jq.2.2) rfl rfl rfl dc rfl (fun w Lp hA => ⟨hA.bMethodB m0 hbx, hA.ro o3, hA.ro n8⟩)) (fun k21 _ => ?_)
  obtain ⟨a21, m21, c21⟩ := k21
  refine Ent.lenow m0 fun e21 l21 => ?_
  subst e21
  refine Dyp 4 rfl (Y.as rfl) (D.done kr (Et (Ew Z7 (Est rfl (N.bsl (pvs := []) (cs := []) us_Is f8 rfl dc dc (o6 rfl rfl) rfl dc) (fun b22 _ => (Ent.drop (Ey rfl ((Y.fld fo_Query_0 ty_Is dc rfl).yd) (Ey rfl (Y.ld1 ty_Is rfl ((Has.pt (mS (mS (mS m0)))).sub (cs' := [_]) 0 rfl) rfl) (Est rfl (N.pushR0 (E := Enc.int) Plain.int us_Is f8 rfl rfl rfl o3 bn bn dc) (fun p25 _ => (Ey rfl ((Y.bld (pvs := [_]) (cs := [_, _]) ty_Query a1h rfl rfl).yd) (Est rfl (N.alloc ty_Query dc) (fun b9 _ => (Est rfl (N.sto (vs := [_, _]) (cs' := [_, _]) ty_Query rfl rfl rfl rfl rfl bl rfl) (fun _ _ => (Eu (Eq_ (Ew Z1 (Eas rfl rfl (Eu (E.block (Ent.mkow (A := []) (Own.nil (E := P1) (e := tAtom) (a := none)) rfl (Ent.cv (congrArg (ow s3 [_]) (show [] = E4 (d4.take 0) ((grF (exF l) d4).2.1.take 0) from by first | rfl | (simp; done) | grind [d1, d2, t1, t2])) (E.loop (κ := Nat × Option Addr × Nat × Nat) (fun g => g.1 ≤ d4.length ∧ True) (fun g => [(0, .slice a_s s.length c_s), (5, .pointer (some ⟨b5, 0, none⟩)), (6, .pointer (some ⟨b6, 0, none⟩)), (8, .slice a21 ((grF (exF l) d4).1).length c21), (9, .pointer (some ⟨b9, 0, none⟩)), (10, .int .i64 (↑g.1 : Int))]) (fun g => [ow s3 [.slice g.2.1 g.2.2.1 g.2.2.2] (E4 (d4.take g.1) ((grF (exF l) d4).2.1.take g.1)), pt b9 61 [.slice p25.1 d9.length p25.2, .slice g.2.1 g.2.2.1 g.2.2.2], ow eIs [.slice p25.1 d9.length p25.2] d9, ow I8 [.slice a21 ((grF (exF l) d4).1).length c21] ((grF (exF l) d4).1), ow D6 [.slice a19 (exB lB).length c19] (exB lB), pt b6 61 [.slice none 0 0, .slice none 0 0], pt b5 61 [.slice l2 d9.length l0, .slice j8 d4.length j7]]) (fun g => d4.length - g.1) (0, none, 0, 0) ⟨Nat.zero_le _, by simp⟩ ⟨rfl, rfl, rfl, rfl, rfl, rfl, trivial⟩ (.refl _) (fun g pg => ?_)))))))))))))))))))))))))
  obtain ⟨g, aA0_0, mA0_0, cA0_0⟩ := g
  try dsimp only at pg
  try dsimp only
  obtain ⟨pk, pa⟩ := pg
  have jd := a8a (l := exF l) (d7 := d4)
  have jp := a5d (al := d4.take g) (ds := (grF (exF l) d4).2.1.take g)
  have jt := List.length_take_le g d4
  have jtp := a9R (g := g) (ds := (grF (exF l) d4).2.1.take g) hqt hqa
  refine Ent.lenow m0 fun eaA0_0 laA0_0 => ?_
  subst eaA0_0
  refine Eq_ (Ew Z5 (Emv rfl rfl (Ey rfl ((Y.fld fo_Query_1 ty_Atoms dc rfl).yd) (Ey rfl (Y.ld1 ty_Atoms rfl ((Has.pt (mS (mS (mS (mS (mS (mS m0))))))).sub (cs' := [_]) 1 rfl) rfl) (Ey rfl ((Y.len us_Atoms rfl).yd) (Ey rfl ((Y.lss rfl rfl).yd) (Ent.d (fun q31 => ?_) (fun q31 => ?_))))))))
  ·refine Eu (E.ct rfl (E.skipc (Et (Eq_ (E.block (Ew Z1 (Eas rfl rfl (Eu (E.block (Ent.cv (congrArg (ow s3 [_]) (show E4 (d4.take g) ((grF (exF l) d4).2.1.take g) = E4 (d4.take g) ((grF (exF l) d4).2.1.take g) ++ (((grF (exF l) d4).1.take 0).filter fun x => decide (x.1 = (g : Int))).map (fun _ => d4[g]) from by simp)) (E.loop (κ := Nat × Option Addr × Nat × Nat) (fun k => k.1 ≤ (grF (exF l) d4).1.length ∧ True) (fun k => [(0, .slice a_s s.length c_s), (5, .pointer (some ⟨b5, 0, none⟩)), (6, .pointer (some ⟨b6, 0, none⟩)), (8, .slice a21 ((grF (exF l) d4).1).length c21), (9, .pointer (some ⟨b9, 0, none⟩)), (10, .int .i64 (g : Int)), (11, .int .i64 (↑k.1 : Int))]) (fun k => [ow s3 [.slice k.2.1 k.2.2.1 k.2.2.2] (E4 (d4.take g) ((grF (exF l) d4).2.1.take g) ++ (((grF (exF l) d4).1.take k.1).filter fun x => decide (x.1 = (g : Int))).map (fun _ => d4[g])), pt b9 61 [.slice p25.1 d9.length p25.2, .slice k.2.1 k.2.2.1 k.2.2.2], ow eIs [.slice p25.1 d9.length p25.2] d9, ow I8 [.slice a21 ((grF (exF l) d4).1).length c21] ((grF (exF l) d4).1), ow D6 [.slice a19 (exB lB).length c19] (exB lB), pt b6 61 [.slice none 0 0, .slice none 0 0], pt b5 61 [.slice l2 d9.length l0, .slice j8 d4.length j7]]) (fun k => (grF (exF l) d4).1.length - k.1) (0, aA0_0, (E4 (d4.take g) ((grF (exF l) d4).2.1.take g)).length, cA0_0) ⟨Nat.zero_le _, by simp⟩ ⟨rfl, rfl, rfl, rfl, rfl, rfl, rfl, trivial⟩ (.refl _) (fun k pk => ?_))))))))))))
   obtain ⟨k, aA1_0, mA1_0, cA1_0⟩ := k
   try dsimp only at pk
   try dsimp only
   obtain ⟨pk, pa⟩ := pk
   have jk := b2e (X := (grF (exF l) d4).1) (k := k) (c := (g : Int)) (a := d4[g])
   have jk4 := b1O (X := (grF (exF l) d4).1) (k := k) (c := (g : Int))
   have jk2 := a9w (l := exF l) (d7 := d4) (n := d4.length)
   have jk3 : (grF (exF l) d4).1.length ≤ d4.length := jk2
   refine Ent.lenow m0 fun eaA1_0 laA1_0 => ?_
   subst eaA1_0
   refine Eq_ (Ew Z4 (Emv rfl rfl (Emv rfl rfl (Ey rfl ((Y.len us_Steps rfl).yd) (Ey rfl ((Y.lss rfl rfl).yd) (Ent.d (fun q37 => ?_) (fun q37 => ?_)))))))
   ·refine Eu (E.ct rfl (E.skipc (Et (Eq_ (E.block (Ew Z7 (Emv rfl rfl (Emv rfl rfl (Ent.adr (mS (mS (mS m0))) om fun ab42 ae42 => (Ent.p3 (Ent.open (x := ((grF (exF l) d4).1)[k]) k (List.getElem?_eq_getElem om) fun ce42 => ?_)))))))))))
    refine Ent.p1 (Ent.oStep fun  oe42 oi42_0 oi42_1 => ?_)
    subst oe42
    refine Ey rfl ((Y.ix us_Steps ty_Step rfl ae42 rfl k rfl om).yd) (Ey rfl ((Y.fld fo_Step_0 f8 dc rfl).yd) (Ey rfl (Y.ld1 f8 rfl ((Has.hole ae42 m0).sub (cs' := [_]) 0 rfl) rfl) (Emv rfl rfl (Ey rfl ((Y.eql rfl rfl).yd) (Ent.d (fun q46 => ?_) (fun q46 => ?_))))))
    ·refine Eu (E.ct rfl (D.region (fun j => !(Nat.beq j 16) && !(Nat.beq j 18)) mixed (Dyp 0 rfl (Y.fld fo_Query_1 ty_Atoms dc rfl) (Dy 1 rfl (Y.ld1 ty_Atoms rfl ((Has.pt (mS (mS m0))).sub (cs' := [_]) 1 rfl) rfl) (Dyp 2 rfl (Y.fld fo_Query_1 ty_Atoms dc rfl) (Dy 3 rfl (Y.ld1 ty_Atoms rfl ((Has.pt (mS (mS (mS (mS (mS (mS m0))))))).sub (cs' := [_]) 1 rfl) rfl) (Dyp 4 rfl (Y.mv rfl) ?_)))))))
     obtain ⟨eb52, eo52, ec52, ea52, er52, el52, eh52⟩ := n8.elem g om
     obtain ⟨xa52_0, xc52_0, rfl, ei52_0, xh52_0⟩ := Ro.pAtom er52
     have := xh52_0.slen.2
     refine Dyp 5 rfl (Y.ix us_Atoms ty_Atom rfl ea52 rfl g rfl om) (Dyp 6 rfl (Y.fld fo_Atom_0 f8 dc rfl) (Dy 7 rfl (Y.ld1 f8 rfl ((eh52 _).sub (cs' := [_]) 0 rfl) rfl) (Dyp 8 rfl (Y.fld fo_Query_1 ty_Atoms dc rfl) (Dy 9 rfl (Y.ld1 ty_Atoms rfl ((Has.pt (mS (mS (mS (mS (mS (mS m0))))))).sub (cs' := [_]) 1 rfl) rfl) (Dyp 10 rfl (Y.mv rfl) (Dyp 11 rfl (Y.ix us_Atoms ty_Atom rfl ea52 rfl g rfl om) (Dyp 12 rfl (Y.fld fo_Atom_1 ty_Is dc rfl) (Dy 13 rfl (Y.ld1 ty_Is rfl ((eh52 _).sub (cs' := [_]) 1 rfl) rfl) ?_))))))))
     have jt3 := hqt _ (List.getElem_mem (show g < d4.length by omega))
     refine D.st 14 rfl rfl kr (fun _ => rfl) (N.call (a4s fo) rfl rfl rfl dc rfl (fun w Lp hA => ⟨ei52_0, hA.ro xh52_0⟩)) (fun k61 _ => ?_)
     obtain ⟨a61, m61, c61⟩ := k61
     refine Ent.lenow m0 fun e61 l61 => ?_
     subst e61
     refine D.st 15 rfl rfl kr (fun _ => rfl) (N.bsl (pvs := [_]) (cs := [_, _]) us_Atoms ty_Atom rfl dc dc (o6 rfl rfl) rfl dc) (fun b62 _ => (Ent.p1 (Ent.p1 (Ent.p3 (D.st 16 rfl rfl kr (fun h => by cases h) (N.push (E := P1) (ex := d4[g]) us_Atoms ty_Atom rfl rfl rfl (Own.mkAtom (x := d4[g]) ei52_0 Own.ow) rfl bn bn dc) (fun p63 _ => (Dyp 17 rfl (Y.fld fo_Query_1 ty_Atoms dc rfl) (Ent.p2 (D.st 18 rfl rfl kr (fun h => by cases h) (N.sto (vs := [_]) (cs' := [_, _]) ty_Atoms rfl rfl rfl rfl rfl bl rfl) (fun _ _ => (D.done kr (E.bln (Et (Ez Z3 (Emv rfl rfl (Ey rfl ((Y.add rfl rfl om om).yd) (Eas rfl rfl (Eu (Ent.p2 (Ent.shut (Own.mkStep (x := ((grF (exF l) d4).1)[k]) oi42_0 oi42_1) rfl (Ent.cv (congrArg (ow I8 [_]) (List.set_getElem_self om)) (Ent.p2 (Ent.cv (congrArg (ow s3 [_]) (show (E4 (d4.take g) ((grF (exF l) d4).2.1.take g) ++ (((grF (exF l) d4).1.take k).filter fun x => decide (x.1 = (g : Int))).map (fun _ => d4[g])) ++ [d4[g]] = E4 (d4.take g) ((grF (exF l) d4).2.1.take g) ++ (((grF (exF l) d4).1.take (k + 1)).filter fun x => decide (x.1 = (g : Int))).map (fun _ => d4[g]) from by first | exact b0f om q46 | exact b0K om q46)) (Ent.p6 (Ent.p6 (Ent.p6 (Ent.p4 (Ent.p6 (Ent.p6 (Ent.p6 ?_))))))))))))))))))))))))))))))
     exact Ea (k + 1, p63.1, ((E4 (d4.take g) ((grF (exF l) d4).2.1.take g) ++ (((grF (exF l) d4).1.take k).filter fun x => decide (x.1 = (g : Int))).map (fun _ => d4[g])).length + 1), p63.2) ⟨oz, trivial⟩
    ·refine Eu (E.cf rfl (E.skipc (E.bln (Et (Ez Z3 (Emv rfl rfl (Ey rfl ((Y.add rfl rfl om om).yd) (Eas rfl rfl (Eu (Ent.shut (Own.mkStep (x := ((grF (exF l) d4).1)[k]) oi42_0 oi42_1) rfl (Ent.cv (congrArg (ow I8 [_]) (List.set_getElem_self om)) (Ent.p1 (Ent.cv (congrArg (ow s3 [_]) (show E4 (d4.take g) ((grF (exF l) d4).2.1.take g) ++ (((grF (exF l) d4).1.take k).filter fun x => decide (x.1 = (g : Int))).map (fun _ => d4[g]) = E4 (d4.take g) ((grF (exF l) d4).2.1.take g) ++ (((grF (exF l) d4).1.take (k + 1)).filter fun x => decide (x.1 = (g : Int))).map (fun _ => d4[g]) from by first | exact b0f om q46 | exact b0K om q46)) (Ent.p6 (Ent.p6 (Ent.p6 (Ent.p4 (Ent.p6 (Ent.p6 (Ent.p6 ?_))))))))))))))))))))
     exact Ea (k + 1, aA1_0, (E4 (d4.take g) ((grF (exF l) d4).2.1.take g) ++ (((grF (exF l) d4).1.take k).filter fun x => decide (x.1 = (g : Int))).map (fun _ => d4[g])).length, cA1_0) ⟨oz, trivial⟩
   ·refine Eu (E.cf rfl (E.exit (E.the (E.the (E.blh (E.bln (Et (Ez Z3 (Emv rfl rfl (Ey rfl ((Y.add rfl rfl om om).yd) (Eas rfl rfl (Eu (Ent.cv (congrArg (ow s3 [_]) (show E4 (d4.take g) ((grF (exF l) d4).2.1.take g) ++ (((grF (exF l) d4).1.take k).filter fun x => decide (x.1 = (g : Int))).map (fun _ => d4[g]) = E4 (d4.take (g + 1)) ((grF (exF l) d4).2.1.take (g + 1)) from by exact b3E rfl om om)) (Ent.p6 (Ent.p6 (Ent.p6 (Ent.p6 (Ent.p6 (Ent.p6 (Ent.p6 ?_))))))))))))))))))))
    exact Ea (g + 1, aA1_0, (E4 (d4.take g) ((grF (exF l) d4).2.1.take g) ++ (((grF (exF l) d4).1.take k).filter fun x => decide (x.1 = (g : Int))).map (fun _ => d4[g])).length, cA1_0) ⟨oz, trivial⟩
  ·refine Eu (E.cf rfl (E.exit (E.the (E.the (E.blh (Et (Eq_ (Ew Z4 (Emv rfl rfl (Ey rfl (Y.ldS (cs := [_, _]) ty_Query rfl (Has.pt (mS m0)) rfl) (Est rfl (N.call0 (a0I jtp) rfl rfl rfl dc (fun w Lp hA => ⟨hA.ro hs, hA.ow (mS (mS m0)), hA.ow m0⟩)) (fun _ _ => (Ent.b (fun q67 => ?_) (fun q67 => ?_))))))))))))))
   ·rw [X2 om jd] at q67
    refine Ey rfl ((Y.not (b := true) rfl).yd) (Eu (E.cf rfl (E.skipc (Et (Ew Z3 (Ey rfl (Y.ldS (cs := [_, _]) ty_Query rfl (Has.pt (mS m0)) rfl) (Ent.p5 (Est rfl (N.sto (vs := [_, _]) (cs' := [_, _]) ty_Query rfl rfl rfl rfl rfl bl rfl) (fun _ _ => (Eas rfl rfl (Eu (E.ret (Ent.p1 (Ent.cv (congrArg (ow s3 [_]) (show _ = F5 s l (d9, d4) by first | exact (X2 om jd).trans (C4 (q := (d9, d4)) q15 q67).2.1 | first | exact (C4 (q := (d9, d4)) q15 q67).1 | exact (C4 (q := (d9, d4)) q15 q67).2.1 | exact (C4 (q := (d9, d4)) q15 q67).2.2 | exact (C4 (q := (d9, d4)) q15 q67).1.symm | exact (C4 (q := (d9, d4)) q15 q67).2.1.symm | exact (C4 (q := (d9, d4)) q15 q67).2.2.symm)) (Ent.p3 (Ent.cv (congrArg (ow eIs [_]) (show _ = G2 s l (d9, d4) by first | exact (X2 om jd).trans (C4 (q := (d9, d4)) q15 q67).2.1 | first | exact (C4 (q := (d9, d4)) q15 q67).1 | exact (C4 (q := (d9, d4)) q15 q67).2.1 | exact (C4 (q := (d9, d4)) q15 q67).2.2 | exact (C4 (q := (d9, d4)) q15 q67).1.symm | exact (C4 (q := (d9, d4)) q15 q67).2.1.symm | exact (C4 (q := (d9, d4)) q15 q67).2.2.symm)) (Ent.p1 (Ent.p1 ?_))))))))))))))))))
    exact F.c2 br rfl rfl rfl (mS (mS m0)) ty_Query rfl ((_, _, _), (_, _, _)) trivial (by rw [show (L4 s l (d9, d4)) = (true) from (by first | exact (X2 om jd).trans (C4 (q := (d9, d4)) q15 q67).2.1 | first | exact (C4 (q := (d9, d4)) q15 q67).1 | exact (C4 (q := (d9, d4)) q15 q67).2.1 | exact (C4 (q := (d9, d4)) q15 q67).2.2 | exact (C4 (q := (d9, d4)) q15 q67).1.symm | exact (C4 (q := (d9, d4)) q15 q67).2.1.symm | exact (C4 (q := (d9, d4)) q15 q67).2.2.symm)]; try rfl) (J := _) (.refl _) (.inl rfl)
   ·rw [X2 om jd] at q67
    refine Ey rfl ((Y.not (b := false) rfl).yd) (Eu (E.ct rfl (Ew Z3 (Ey rfl ((Y.bld (pvs := []) (cs := [_, _]) ty_Query a1h rfl rfl).yd) (Ent.p5 (Est rfl (N.sto (vs := [_, _]) (cs' := [_, _]) ty_Query rfl rfl rfl rfl rfl bl rfl) (fun _ _ => (Eas rfl rfl (Eu (E.ret (E.thr (Ent.mkow (A := []) (Own.nil (E := P1) (e := tAtom) (a := none)) rfl (Ent.cv (congrArg (ow s3 [_]) (show _ = F5 s l (d9, d4) by first | exact (w5 (D7 (q := (d9, d4)) q67)).1 | exact (w5 (D7 (q := (d9, d4)) q67)).2.1 | exact (w5 (D7 (q := (d9, d4)) q67)).2.2 | exact (w5 (D7 (q := (d9, d4)) q67)).1.symm | exact (w5 (D7 (q := (d9, d4)) q67)).2.1.symm | exact (w5 (D7 (q := (d9, d4)) q67)).2.2.symm)) (Ent.mkow (A := []) (Own.nil (E := Enc.int) (e := tI) (a := none)) rfl (Ent.cv (congrArg (ow eIs [_]) (show _ = G2 s l (d9, d4) by first | exact (w5 (D7 (q := (d9, d4)) q67)).1 | exact (w5 (D7 (q := (d9, d4)) q67)).2.1 | exact (w5 (D7 (q := (d9, d4)) q67)).2.2 | exact (w5 (D7 (q := (d9, d4)) q67)).1.symm | exact (w5 (D7 (q := (d9, d4)) q67)).2.1.symm | exact (w5 (D7 (q := (d9, d4)) q67)).2.2.symm)) (Ent.p1 (Ent.p1 ?_)))))))))))))))))
    exact F.c2 br rfl rfl rfl (mS (mS m0)) ty_Query rfl ((none, 0, 0), (none, 0, 0)) trivial (by rw [show (L4 s l (d9, d4)) = (false) from (by first | exact (w5 (D7 (q := (d9, d4)) q67)).1 | exact (w5 (D7 (q := (d9, d4)) q67)).2.1 | exact (w5 (D7 (q := (d9, d4)) q67)).2.2 | exact (w5 (D7 (q := (d9, d4)) q67)).1.symm | exact (w5 (D7 (q := (d9, d4)) q67)).2.1.symm | exact (w5 (D7 (q := (d9, d4)) q67)).2.2.symm)]; try rfl) (J := _) (.refl _) (.inl rfl)
 ·refine Ey rfl ((Y.not (b := false) rfl).yd) (Eu (E.ct rfl (Ew Z3 (Ey rfl ((Y.bld (pvs := []) (cs := [_, _]) ty_Query a1h rfl rfl).yd) (Est rfl (N.sto (vs := [_, _]) (cs' := [_, _]) ty_Query rfl rfl rfl rfl rfl bl rfl) (fun _ _ => (Eas rfl rfl (Eu (E.ret (E.thr (Ent.mkow (A := []) (Own.nil (E := P1) (e := tAtom) (a := none)) rfl (Ent.cv (congrArg (ow s3 [_]) (show _ = F5 s l (d9, d4) by first | exact (w5 (q := (d9, d4)) (D8 q15)).1 | exact (w5 (q := (d9, d4)) (D8 q15)).2.1 | exact (w5 (q := (d9, d4)) (D8 q15)).2.2 | exact (w5 (q := (d9, d4)) (D8 q15)).1.symm | exact (w5 (q := (d9, d4)) (D8 q15)).2.1.symm | exact (w5 (q := (d9, d4)) (D8 q15)).2.2.symm)) (Ent.mkow (A := []) (Own.nil (E := Enc.int) (e := tI) (a := none)) rfl (Ent.cv (congrArg (ow eIs [_]) (show _ = G2 s l (d9, d4) by first | exact (w5 (q := (d9, d4)) (D8 q15)).1 | exact (w5 (q := (d9, d4)) (D8 q15)).2.1 | exact (w5 (q := (d9, d4)) (D8 q15)).2.2 | exact (w5 (q := (d9, d4)) (D8 q15)).1.symm | exact (w5 (q := (d9, d4)) (D8 q15)).2.1.symm | exact (w5 (q := (d9, d4)) (D8 q15)).2.2.symm)) (Ent.p1 (Ent.p1 ?_))))))))))))))))
  exact F.c2 br rfl rfl rfl (mS (mS m0)) ty_Query rfl ((none, 0, 0), (none, 0, 0)) trivial (by rw [show (L4 s l (d9, d4)) = (false) from (by first | exact (w5 (q := (d9, d4)) (D8 q15)).1 | exact (w5 (q := (d9, d4)) (D8 q15)).2.1 | exact (w5 (q := (d9, d4)) (D8 q15)).2.2 | exact (w5 (q := (d9, d4)) (D8 q15)).1.symm | exact (w5 (q := (d9, d4)) (D8 q15)).2.1.symm | exact (w5 (q := (d9, d4)) (D8 q15)).2.2.symm)]; try rfl) (J := _) (.refl _) (.inl rfl)
end Go.Proofs.YtdopeopehgdccaaGreat
