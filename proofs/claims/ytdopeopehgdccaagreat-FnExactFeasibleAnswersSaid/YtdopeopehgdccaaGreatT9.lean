import Derived.Test.YtdopeopehgdccaaGreatBs
import Derived.Test.YtdopeopehgdccaaGreatT8
import Derived.Test.YtdopeopehgdccaaGreatT6
import Derived.Test.YtdopeopehgdccaaGreatBd
namespace Go.Proofs.YtdopeopehgdccaaGreat
open Go.RowKit
set_option linter.all false
set_option maxHeartbeats 2000000
attribute [local irreducible] Nop Yd Yp Ent Has Tr FnP FnP2 Src
variable {l3 : Int} {l : List (Int × List Int)} {f7 : List Int} {w9 s9 m_l c_l : Nat} {t6 a_l : Option Addr}
theorem a6c {a2A : Int} {P2 : Option Addr} {P3 P4 : Nat} {a0C : List Int} {b_f : Nat} : Tr Tryz.prog 214 [.agg #[.int .i64 a2A, .slice P2 P3 P4], .pointer (some ⟨b_f, 0, none⟩)] (fun w L => (I64 a2A ∧ Ro w L eIs [.slice P2 P3 P4] a0C) ∧ RoPt w L b_f [.int .i64 l3, .slice t6 w9 s9] ∧ I64 l3 ∧ Ro w L eIs [.slice t6 w9 s9] f7) [] (κ := Unit) (fun k => True) (fun k => .bool (decide (I9 (a2A, a0C) (l3, f7) = 0))) (fun k => []) := by
 refine Tr.intro Tryz.func214 rfl (n := 8) rfl (by decide +kernel) bl (fr := [(0, .agg #[.int .i64 a2A, .slice P2 P3 P4]), (1, .pointer (some ⟨b_f, 0, none⟩))]) rfl fun w L hR => ?_
 obtain ⟨⟨a8r, Y7⟩, hb_f, F0, u5⟩ := hR
 obtain ⟨rfl, a8X⟩ := Y7.slen
 obtain ⟨rfl, Q4⟩ := u5.slen
 refine Ew Z2 (Est rfl (N.box (cs := [_, _]) rfl dc rfl) (fun b2 _ => (Eas rfl rfl (Ev Z5 (Ey rfl (Y.ldS (cs := [_, _]) ty_Fact rfl (Has.pt m0) rfl) (Ey rfl (Y.ldS (cs := [_, _]) ty_Fact rfl (hb_f.has) rfl) (Est rfl (N.call0 a0k rfl rfl rfl dc (fun w Lp hA => ⟨a8r, hA.ro Y7, F0, hA.ro u5⟩)) (fun _ _ => (Ey rfl ((Y.eql rfl rfl).yd) (Eas rfl rfl ?_))))))))))
 exact Eu (E.ret (Fg rfl rfl () rfl rfl))
theorem a7E : Tr Tryz.prog 126 [.slice a_l m_l c_l, .agg #[.int .i64 l3, .slice t6 w9 s9]] (fun w L => Ro w L o2 [.slice a_l m_l c_l] l ∧ I64 l3 ∧ Ro w L eIs [.slice t6 w9 s9] f7) [] (κ := Unit) (fun k => True) (fun k => .bool (G6 l (l3, f7))) (fun k => []) := by
 refine Tr.intro Tryz.func126 rfl (n := 8) rfl (by decide +kernel) bl (fr := [(0, .slice a_l m_l c_l), (1, .agg #[.int .i64 l3, .slice t6 w9 s9])]) rfl fun w L hR => ?_
 obtain ⟨hl, F0, u5⟩ := hR
 obtain ⟨rfl, ll⟩ := hl.slen
 obtain ⟨rfl, Q4⟩ := u5.slen
 refine Ew Z2 (Est rfl (N.box (cs := [_, _]) rfl dc rfl) (fun b3 _ => (Eas rfl rfl (Ev Z4 (Emv rfl rfl (Ey rfl ((Y.fn (vs := [_]) rfl).yd) (Est rfl (N.call0 (a4E (f := (fun z => decide (I9 z (l3, f7) = 0))) (D_f := (fun _ => True)) (by intros; exact trivial)) rfl rfl rfl dc (fun w Lp hA => ⟨hA.ro hl, FnP.ofFact (D := (fun _ => True)) (fun hd => a6c) (fun w' hk => ⟨(hA.pt m0).keep hk, F0, (hA.ro u5).keep hk⟩)⟩)) (fun _ _ => (Eas rfl rfl ?_)))))))))
 exact Eu (E.ret (Fb rfl rfl (by rfl)))
theorem a7L : Tr Tryz.prog 115 [.slice a_l m_l c_l, .agg #[.int .i64 l3, .slice t6 w9 s9]] (fun w L => Ro w L o2 [.slice a_l m_l c_l] l ∧ I64 l3 ∧ Ro w L eIs [.slice t6 w9 s9] f7) [] (κ := Unit) (fun k => True) (fun k => .bool (G6 l (l3, f7))) (fun k => []) := by
 refine Tr.intro Tryz.func115 rfl (n := 19) rfl (by decide +kernel) bl (fr := [(0, .slice a_l m_l c_l), (1, .agg #[.int .i64 l3, .slice t6 w9 s9])]) rfl fun w L hR => ?_
 obtain ⟨hl, F0, u5⟩ := hR
 obtain ⟨rfl, ll⟩ := hl.slen
 obtain ⟨rfl, Q4⟩ := u5.slen
 refine Ew Z2 (Est rfl (N.box (cs := [_, _]) rfl dc rfl) (fun b3 _ => (Eas rfl rfl (Eu (Eq_ (Ew Z1 (Eas rfl rfl (Eu (E.block (E.loop (κ := Nat) (fun g => g ≤ l.length ∧ G6 l (l3, f7) = G6 (l.drop g) (l3, f7)) (fun g => [(0, .slice a_l l.length c_l), (3, .pointer (some ⟨b3, 0, none⟩)), (5, .int .i64 (g : Int))]) (fun g => [pt b3 115 [.int .i64 l3, .slice t6 f7.length s9]]) (fun g => l.length - g) 0 ⟨Nat.zero_le _, by simp⟩ ⟨rfl, rfl, rfl, trivial⟩ (.refl _) (fun g pg => ?_)))))))))))
 obtain ⟨pk, pa⟩ := pg
 refine Eq_ (Ew Z4 (Emv rfl rfl (Emv rfl rfl (Ey rfl ((Y.len us_Facts rfl).yd) (Ey rfl ((Y.lss rfl rfl).yd) (Ent.d (fun q9 => ?_) (fun q9 => ?_)))))))
 ·refine Eu (E.ct rfl (E.skipc (Et (Eq_ (E.block (Eq_ (D.region (fun j => true) mixed (Dyp 0 rfl (Y.mv rfl) (Dyp 1 rfl (Y.mv rfl) ?_)))))))))
  obtain ⟨eb14, eo14, ec14, ea14, er14, el14, eh14⟩ := hl.elem g om
  obtain ⟨xa14_0, xc14_0, rfl, ei14_0, xh14_0⟩ := Ro.pFact er14
  have := xh14_0.slen.2
  refine Dyp 2 rfl (Y.ix us_Facts ty_Fact rfl ea14 rfl g rfl om) (Dy 3 rfl (Y.ldS (cs := [_, _]) ty_Fact rfl (eh14 _) rfl) (Dy 4 rfl (Y.ldS (cs := [_, _]) ty_Fact rfl (Has.pt m0) rfl) (D.st 5 rfl rfl kr (fun _ => rfl) (N.call0 W0 rfl rfl rfl dc (fun w Lp hA => ⟨ei14_0, hA.ro xh14_0, F0, hA.ro u5⟩)) (fun _ _ => (Dyp 6 rfl (Y.eql rfl rfl) (Ent.d (fun q18 => ?_) (fun q18 => ?_)))))))
  ·refine D.done kr (Et (E.ct rfl (Ew Z1 (Eas rfl rfl ?_))))
   exact Eu (E.ret (E.blr (E.thr (E.thr (E.blr (E.thr (Fb rfl rfl (by grind [G6, d1, d2, t1, t2]))))))))
  ·refine D.done kr (Et (E.cf rfl (E.skipc (E.bln (Et (Ez Z3 (Emv rfl rfl (Ey rfl ((Y.add rfl rfl om om).yd) (Eas rfl rfl ?_)))))))))
   exact Eu (E.again br (g + 1) rs (.refl _) ⟨by omega, by grind [G6, d1, d2, t1, t2]⟩ om)
 ·refine Eu (E.cf rfl (E.exit (E.the (E.the (E.blh (Et (Ew Z1 (Eas rfl rfl ?_))))))))
  exact Eu (E.ret (Fb rfl rfl (by grind [G6, d1, d2, t1, t2])))
theorem a9h {i9 : Int} {o7 : Option Addr} {s0 o8 : Nat} {f6 : List Int} {u7 : Option Addr} {y6 u6 : Nat} {i8 : List Int} {r5 : Option Addr} {r9 o9 : Nat} {f9 : List Int} (hz : f6.length ≤ 1048576) : Tr Tryz.prog 127 [.agg #[.int .i64 i9, .slice o7 s0 o8], .agg #[.slice u7 y6 u6, .slice r5 r9 o9]] (fun w L => I64 i9 ∧ Ro w L eIs [.slice o7 s0 o8] f6 ∧ Ro w L eIs [.slice u7 y6 u6] i8 ∧ Ro w L eIs [.slice r5 r9 o9] f9) [] (κ := Option Addr × Nat × Nat) (fun k => True) (fun k => .agg #[.int .i64 ((E2 (i9, f6) (i8, f9)).1), .slice k.1 k.2.1 k.2.2]) (fun k => [ow eIs [.slice k.1 k.2.1 k.2.2] ((E2 (i9, f6) (i8, f9)).2)]) := by
 refine Tr.intro Tryz.func127 rfl (n := 29) rfl (by decide +kernel) bl (fr := [(0, .agg #[.int .i64 i9, .slice o7 s0 o8]), (1, .agg #[.slice u7 y6 u6, .slice r5 r9 o9])]) rfl fun w L hR => ?_
 obtain ⟨D9, s7, y9, s6⟩ := hR
 obtain ⟨rfl, I5⟩ := s7.slen
 obtain ⟨rfl, V5⟩ := y9.slen
 obtain ⟨rfl, H7⟩ := s6.slen
 have jv := a4O (b := (i8, f9)) (l := f6) s7.i64 y9.i64 s6.i64
 refine Ew Z3 (Est rfl (N.box (cs := [_, _]) rfl dc rfl) (fun b2 _ => (Est rfl (N.box (cs := [_, _]) rfl dc rfl) (fun b3 _ => (Est rfl (N.alloc ty_Fact dc) (fun b4 _ => (Ev Z6 (Ey rfl ((Y.fld fo_Atom_0 f8 dc rfl).yd) (Ey rfl (Y.ld1 f8 rfl ((Has.pt (mS (mS m0))).sub (cs' := [_]) 0 rfl) rfl) (Est rfl (N.bsl (pvs := []) (cs := []) us_Is f8 rfl dc dc (o6 rfl rfl) rfl dc) (fun b10 _ => (Ent.drop (Ey rfl ((Y.bld (pvs := [_, _]) (cs := [_, _]) ty_Fact a5w rfl rfl).yd) (Est rfl (N.alloc ty_Fact dc) (fun b5 _ => (Est rfl (N.sto (vs := [_, _]) (cs' := [_, _]) ty_Fact rfl rfl rfl rfl rfl bl rfl) (fun _ _ => (Eu (Eq_ (Ew Z4 (Ey rfl ((Y.fld fo_Atom_1 ty_Is dc rfl).yd) (Ey rfl (Y.ld1 ty_Is rfl ((Has.pt (mS (mS (mS m0)))).sub (cs' := [_]) 1 rfl) rfl) (Ey rfl ((Y.len us_Is rfl).yd) (Emv rfl rfl (Eu (E.block (Ent.mkow (A := []) (Own.nil (E := Enc.int) (e := tI) (a := (some ⟨b10, 0, none⟩))) rfl (Ent.cv (congrArg (ow eIs [_]) (show [] = (f6.take 0).map (w4 (i8, f9)) from by first | rfl | (simp; done) | grind [E2, d1, d2, t1, t2])) (E.loop (κ := Nat × Option Addr × Nat × Nat) (fun g => g.1 ≤ f6.length ∧ True) (fun g => [(3, .pointer (some ⟨b3, 0, none⟩)), (4, .pointer (some ⟨b4, 0, none⟩)), (5, .pointer (some ⟨b5, 0, none⟩)), (13, .slice o7 f6.length o8), (14, .int .i64 (↑f6.length : Int)), (15, .int .i64 (↑g.1 : Int))]) (fun g => [ow eIs [.slice g.2.1 g.2.2.1 g.2.2.2] ((f6.take g.1).map (w4 (i8, f9))), pt b5 115 [.int .i64 i9, .slice g.2.1 g.2.2.1 g.2.2.2], pt b4 115 [.int .i64 0, .slice none 0 0], pt b3 125 [.slice u7 i8.length u6, .slice r5 f9.length o9], pt b2 128 [.int .i64 i9, .slice o7 f6.length o8]]) (fun g => f6.length - g.1) (0, (some ⟨b10, 0, none⟩), 0, 0) ⟨Nat.zero_le _, by simp⟩ ⟨rfl, rfl, rfl, rfl, rfl, rfl, trivial⟩ (.refl _) (fun g pg => ?_))))))))))))))))))))))))))))))
 obtain ⟨g, aA0_0, mA0_0, cA0_0⟩ := g
 try dsimp only at pg
 try dsimp only
 obtain ⟨pk, pa⟩ := pg
 refine Ent.lenow m0 fun eaA0_0 laA0_0 => ?_
 subst eaA0_0
 refine Ew Z1 (Ey rfl ((Y.lss rfl rfl).yd) (Ent.d (fun q16 => ?_) (fun q16 => ?_)))
 ·obtain ⟨eb17, eo17, ea17, ei17, eh17⟩ := s7.elemI g om
  refine Eu (Eq_ (E.ct rfl (E.skipc (Et (Eq_ (E.block (Ew Z3 (Ey rfl ((Y.ix us_Is f8 rfl ea17 rfl g rfl om).yd) (Ey rfl (Y.ld1 f8 rfl (eh17 _) rfl) (Eas rfl rfl (Eu (D.region (fun j => !(Nat.beq j 6) && !(Nat.beq j 8)) mixed (Dyp 0 rfl (Y.fld fo_Fact_1 ty_Is dc rfl) (Dy 1 rfl (Y.ld1 ty_Is rfl ((Has.pt (mS m0)).sub (cs' := [_]) 1 rfl) rfl) (Dy 2 rfl (Y.ldS (cs := [_, _]) ty_Binding rfl (Has.pt (mS (mS (mS m0)))) rfl) (Dyp 3 rfl (Y.mv rfl) (D.st 4 rfl rfl kr (fun _ => rfl) (N.call0 V3 rfl rfl rfl dc (fun w Lp hA => ⟨hA.ro y9, hA.ro s6⟩)) (fun _ _ => (D.st 5 rfl rfl kr (fun _ => rfl) (N.bsl (pvs := [_]) (cs := [_]) us_Is f8 rfl dc dc (o6 rfl rfl) rfl dc) (fun b24 _ => (Ent.p1 (D.st 6 rfl rfl kr (fun h => by cases h) (N.push (E := Enc.int) (ex := w4 (i8, f9) f6[g]) us_Is f8 rfl rfl rfl (Own.int i6) rfl bn bn dc) (fun p25 _ => (Dyp 7 rfl (Y.fld fo_Fact_1 ty_Is dc rfl) (Ent.p1 (D.st 8 rfl rfl kr (fun h => by cases h) (N.sto (vs := [_]) (cs' := [_, _]) ty_Is rfl rfl rfl rfl rfl bl rfl) (fun _ _ => (D.done kr (E.bln (Et (Ez Z2 (Ey rfl ((Y.add rfl rfl om om).yd) (Emv rfl rfl (Eu (Ent.p1 (Ent.cv (congrArg (ow eIs [_]) (show ((f6.take g).map (w4 (i8, f9))) ++ [w4 (i8, f9) f6[g]] = (f6.take (g + 1)).map (w4 (i8, f9)) from by grind [E2, d1, d2, t1, t2])) (Ent.p4 (Ent.p4 (Ent.p4 (Ent.p4 (Ent.p4 ?_)))))))))))))))))))))))))))))))))))))))))
  exact Ea (g + 1, p25.1, (((f6.take g).map (w4 (i8, f9))).length + 1), p25.2) ⟨oz, trivial⟩
 ·refine Eu (Eq_ (E.cf rfl (E.exit (E.the (E.the (E.blh (Et (Ew Z2 (Ey rfl (Y.ldS (cs := [_, _]) ty_Fact rfl (Has.pt (mS m0)) rfl) (Ent.p2 (Est rfl (N.sto (vs := [_, _]) (cs' := [_, _]) ty_Fact rfl rfl rfl rfl rfl bl rfl) (fun _ _ => (Eu (E.ret (Ent.p1 (Ent.cv (congrArg (ow eIs [_]) (show _ = (E2 (i9, f6) (i8, f9)).2 by grind [E2, d1, d2, t1, t2])) ?_))))))))))))))))
  exact F.c1 br rfl rfl (mS m0) ty_Fact rfl (_, _, _) trivial (by rw [show ((E2 (i9, f6) (i8, f9)).1) = (i9) from (by grind [E2, d1, d2, t1, t2])]; try rfl) (J := _) (.refl _) (.inl rfl)
end Go.Proofs.YtdopeopehgdccaaGreat
