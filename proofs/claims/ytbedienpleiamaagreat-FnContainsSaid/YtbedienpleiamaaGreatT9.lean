import Derived.Test.YtbedienpleiamaaGreatT8
import Derived.Test.YtbedienpleiamaaGreatT6
namespace Go.Proofs.YtbedienpleiamaaGreat
open Go.RowKit
set_option linter.all false
set_option maxHeartbeats 2000000
attribute [local irreducible] Nop Yd Yp Ent Has Tr FnP FnP2 Src
variable {j5 j4 : Int} {l f0 a6 : List (Int × List Int)} {d6 d8 f7 d9 f5 head : List Int} {C3 z7 m_l c_l C8 y6 B1 w6 u4 s5 m_facts c_facts r5 k6 o1 j0 m_head c_head : Nat} {z8 a_l y7 w7 s6 a_facts l0 j3 a_head : Option Addr}
theorem a4d {a0W : Int} {U6 : Option Addr} {U7 U8 : Nat} {a1r : List Int} {b_f : Nat} : Tr Tryz.prog 135 [.agg #[.int .i64 a0W, .slice U6 U7 U8], .pointer (some ⟨b_f, 0, none⟩)] (fun w L => (I64 a0W ∧ Ro w L eIs [.slice U6 U7 U8] a1r) ∧ RoPt w L b_f [.int .i64 j5, .slice z8 C3 z7] ∧ I64 j5 ∧ Ro w L eIs [.slice z8 C3 z7] d6) [] (κ := Unit) (fun k => True) (fun k => .bool (decide (I8 (a0W, a1r) (j5, d6) = 0))) (fun k => []) := by
 refine Tr.intro Tryz.func135 rfl (n := 8) rfl (by decide +kernel) bl (fr := [(0, .agg #[.int .i64 a0W, .slice U6 U7 U8]), (1, .pointer (some ⟨b_f, 0, none⟩))]) rfl fun w L hR => ?_
 obtain ⟨⟨a5k, a0L⟩, hb_f, F3, y9⟩ := hR
 obtain ⟨rfl, a8R⟩ := a0L.slen
 obtain ⟨rfl, R9⟩ := y9.slen
 refine Ew Z2 (Est rfl (N.box (cs := [_, _]) rfl dc rfl) (fun b2 _ => (Ei rfl (Ev Z5 (Ey rfl (j6 (cs := [_, _]) ty_Fact rfl (Has.pt m0) rfl) (Ey rfl (j6 (cs := [_, _]) ty_Fact rfl (hb_f.has) rfl) (Est rfl (m6 a0o rfl rfl rfl dc (fun w Lp hA => ⟨a5k, hA.ro a0L, F3, hA.ro y9⟩)) (fun _ _ => (Ey rfl ((Y.eql rfl rfl).yd) (Ei rfl ?_))))))))))
 exact Eu (E.ret (Fg rfl rfl () rfl rfl))
theorem a2j : Tr Tryz.prog 72 [.slice a_l m_l c_l, .agg #[.int .i64 j5, .slice z8 C3 z7]] (fun w L => Ro w L u5 [.slice a_l m_l c_l] l ∧ I64 j5 ∧ Ro w L eIs [.slice z8 C3 z7] d6) [] (κ := Unit) (fun k => True) (fun k => .bool (F5 l (j5, d6))) (fun k => []) := by
 refine Tr.intro Tryz.func72 rfl (n := 8) rfl (by decide +kernel) bl (fr := [(0, .slice a_l m_l c_l), (1, .agg #[.int .i64 j5, .slice z8 C3 z7])]) rfl fun w L hR => ?_
 obtain ⟨hl, F3, y9⟩ := hR
 obtain ⟨rfl, ll⟩ := hl.slen
 obtain ⟨rfl, R9⟩ := y9.slen
 refine Ew Z2 (Est rfl (N.box (cs := [_, _]) rfl dc rfl) (fun b3 _ => (Ei rfl (Ev Z4 (Em rfl (Ey rfl ((Y.fn (vs := [_]) rfl).yd) (Est rfl (m6 (a2V (f := (fun z => decide (I8 z (j5, d6) = 0))) (D_f := (fun _ => True)) (by intros; exact trivial)) rfl rfl rfl dc (fun w Lp hA => ⟨hA.ro hl, a4T (D := (fun _ => True)) (fun hd => a4d) (fun w' hk => ⟨(hA.pt m0).keep hk, F3, (hA.ro y9).keep hk⟩)⟩)) (fun _ _ => (Ei rfl ?_)))))))))
 exact Eu (E.ret (Fb rfl rfl (by rfl)))
theorem a2g : Tr Tryz.prog 88 [.slice a_l m_l c_l, .agg #[.int .i64 j5, .slice z8 C3 z7]] (fun w L => Ro w L u5 [.slice a_l m_l c_l] l ∧ I64 j5 ∧ Ro w L eIs [.slice z8 C3 z7] d6) [] (κ := Unit) (fun k => True) (fun k => .bool (F5 l (j5, d6))) (fun k => []) := by
 refine Tr.intro Tryz.func88 rfl (n := 19) rfl (by decide +kernel) bl (fr := [(0, .slice a_l m_l c_l), (1, .agg #[.int .i64 j5, .slice z8 C3 z7])]) rfl fun w L hR => ?_
 obtain ⟨hl, F3, y9⟩ := hR
 obtain ⟨rfl, ll⟩ := hl.slen
 obtain ⟨rfl, R9⟩ := y9.slen
 refine Ew Z2 (Est rfl (N.box (cs := [_, _]) rfl dc rfl) (fun b3 _ => (Ei rfl (Eu (Eq_ (Ew Z1 (Ei rfl (Eu (E.block (E.loop (κ := Nat) (fun g => g ≤ l.length ∧ F5 l (j5, d6) = F5 (l.drop g) (j5, d6)) (fun g => [(0, .slice a_l l.length c_l), (3, .pointer (some ⟨b3, 0, none⟩)), (5, .int .i64 (g : Int))]) (fun g => [pt b3 83 [.int .i64 j5, .slice z8 d6.length z7]]) (fun g => l.length - g) 0 ⟨Nat.zero_le _, by simp⟩ ⟨rfl, rfl, rfl, trivial⟩ (.refl _) (fun g pg => ?_)))))))))))
 obtain ⟨pk, pa⟩ := pg
 refine Eq_ (Ew Z4 (Em rfl (Em rfl (Ey rfl ((Y.len us_Facts rfl).yd) (Ey rfl ((Y.lss rfl rfl).yd) (n9 (fun q9 => ?_) (fun q9 => ?_)))))))
 ·refine Eu (o0 rfl (f8 (Et (Eq_ (E.block (Eq_ (D.region (fun j => true) mixed (Dyp 0 rfl (i8 rfl) (Dyp 1 rfl (i8 rfl) ?_)))))))))
  obtain ⟨eb14, eo14, ec14, ea14, er14, el14, eh14⟩ := hl.elem g om
  obtain ⟨xa14_0, xc14_0, rfl, ei14_0, xh14_0⟩ := M4 er14
  have := xh14_0.slen.2
  refine Dyp 2 rfl (t6 us_Facts ty_Fact rfl ea14 rfl g rfl om) (Dy 3 rfl (j6 (cs := [_, _]) ty_Fact rfl (eh14 _) rfl) (Dy 4 rfl (j6 (cs := [_, _]) ty_Fact rfl (Has.pt m0) rfl) (r8 5 rfl rfl kr (fun _ => rfl) (m6 O0 rfl rfl rfl dc (fun w Lp hA => ⟨ei14_0, hA.ro xh14_0, F3, hA.ro y9⟩)) (fun _ _ => (Dyp 6 rfl (Y.eql rfl rfl) (n9 (fun q18 => ?_) (fun q18 => ?_)))))))
  ·refine r7 kr (Et (o0 rfl (Ew Z1 (Ei rfl ?_))))
   exact Eu (E.ret (B0 (o4 (o4 (B0 (o4 (Fb rfl rfl (by grind [F5, d1, d2, t1, t2]))))))))
  ·refine r7 kr (Et (n0 rfl (f8 (s4 (Et (Ez Z3 (Em rfl (Ey rfl ((Y.add rfl rfl om om).yd) (Ei rfl ?_)))))))))
   exact Eu (x3 br (g + 1) rs (.refl _) ⟨by omega, by grind [F5, d1, d2, t1, t2]⟩ om)
 ·refine Eu (n0 rfl (E.exit (o3 (o3 (x5 (Et (Ew Z1 (Ei rfl ?_))))))))
  exact Eu (E.ret (Fb rfl rfl (by grind [F5, d1, d2, t1, t2])))
theorem a2R (hz : d8.length ≤ 1048576) : Tr Tryz.prog 73 [.agg #[.int .i64 j4, .slice y7 C8 y6], .agg #[.slice w7 B1 w6, .slice s6 u4 s5]] (fun w L => I64 j4 ∧ Ro w L eIs [.slice y7 C8 y6] d8 ∧ Ro w L eIs [.slice w7 B1 w6] f7 ∧ Ro w L eIs [.slice s6 u4 s5] d9) [] (κ := Option Addr × Nat × Nat) (fun k => True) (fun k => .agg #[.int .i64 ((B2 (j4, d8) (f7, d9)).1), .slice k.1 k.2.1 k.2.2]) (fun k => [ow eIs [.slice k.1 k.2.1 k.2.2] ((B2 (j4, d8) (f7, d9)).2)]) := by
 refine Tr.intro Tryz.func73 rfl (n := 29) rfl (by decide +kernel) bl (fr := [(0, .agg #[.int .i64 j4, .slice y7 C8 y6]), (1, .agg #[.slice w7 B1 w6, .slice s6 u4 s5])]) rfl fun w L hR => ?_
 obtain ⟨N5, D8, y8, u9⟩ := hR
 obtain ⟨rfl, U5⟩ := D8.slen
 obtain ⟨rfl, P1⟩ := y8.slen
 obtain ⟨rfl, I7⟩ := u9.slen
 have jv := a3m (b := (f7, d9)) (l := d8) D8.i64 y8.i64 u9.i64
 refine Ew Z3 (Est rfl (N.box (cs := [_, _]) rfl dc rfl) (fun b2 _ => (Est rfl (N.box (cs := [_, _]) rfl dc rfl) (fun b3 _ => (Est rfl (N.alloc ty_Fact dc) (fun b4 _ => (Ev Z6 (Ey rfl ((i0 fo_Atom_0 f6 dc rfl).yd) (Ey rfl (f9 f6 rfl (Hz (mS (mS m0)) 0 rfl) rfl) (Est rfl (Nb [] [] us_Is f6 rfl rfl) (fun b10 _ => (Ent.drop (Ey rfl ((E9 (pvs := [_, _]) (cs := [_, _]) ty_Fact a0z rfl rfl).yd) (Est rfl (N.alloc ty_Fact dc) (fun b5 _ => (Est rfl (Ns [_, _] ty_Fact rfl) (fun _ _ => (Eu (Eq_ (Ew Z4 (Ey rfl ((i0 fo_Atom_1 ty_Is dc rfl).yd) (Ey rfl (f9 ty_Is rfl (Hz (mS (mS (mS m0))) 1 rfl) rfl) (Ey rfl ((Y.len us_Is rfl).yd) (Em rfl (Eu (E.block (o2 (A := []) (Own.nil (E := Enc.int) (e := tI) (a := (some ⟨b10, 0, none⟩))) rfl (i9 (congrArg (ow eIs [_]) (show [] = (d8.take 0).map (u6 (f7, d9)) from by first | rfl | (simp; done) | grind [B2, d1, d2, t1, t2])) (E.loop (κ := Nat × Option Addr × Nat × Nat) (fun g => g.1 ≤ d8.length ∧ True) (fun g => [(3, .pointer (some ⟨b3, 0, none⟩)), (4, .pointer (some ⟨b4, 0, none⟩)), (5, .pointer (some ⟨b5, 0, none⟩)), (13, .slice y7 d8.length y6), (14, .int .i64 (↑d8.length : Int)), (15, .int .i64 (↑g.1 : Int))]) (fun g => [ow eIs [.slice g.2.1 g.2.2.1 g.2.2.2] ((d8.take g.1).map (u6 (f7, d9))), pt b5 83 [.int .i64 j4, .slice g.2.1 g.2.2.1 g.2.2.2], pt b4 83 [.int .i64 0, .slice none 0 0], pt b3 39 [.slice w7 f7.length w6, .slice s6 d9.length s5], pt b2 94 [.int .i64 j4, .slice y7 d8.length y6]]) (fun g => d8.length - g.1) (0, (some ⟨b10, 0, none⟩), 0, 0) ⟨Nat.zero_le _, by simp⟩ ⟨rfl, rfl, rfl, rfl, rfl, rfl, trivial⟩ (.refl _) (fun g pg => ?_))))))))))))))))))))))))))))))
 obtain ⟨g, aA0_0, mA0_0, cA0_0⟩ := g
 try dsimp only at pg
 try dsimp only
 obtain ⟨pk, pa⟩ := pg
 refine d4 m0 fun eaA0_0 laA0_0 => ?_
 subst eaA0_0
 refine Ew Z1 (Ey rfl ((Y.lss rfl rfl).yd) (n9 (fun q16 => ?_) (fun q16 => ?_)))
 ·obtain ⟨eb17, eo17, ea17, ei17, eh17⟩ := D8.elemI g om
  refine Eu (Eq_ (o0 rfl (f8 (Et (Eq_ (E.block (Ew Z3 (Ey rfl ((t6 us_Is f6 rfl ea17 rfl g rfl om).yd) (Ey rfl (f9 f6 rfl (eh17 _) rfl) (Ei rfl (Eu (D.region (fun j => !(Nat.beq j 6) && !(Nat.beq j 8)) mixed (Dyp 0 rfl (i0 fo_Fact_1 ty_Is dc rfl) (Dy 1 rfl (f9 ty_Is rfl (Hz (mS m0) 1 rfl) rfl) (Dy 2 rfl (j6 (cs := [_, _]) ty_Binding rfl (Has.pt (mS (mS (mS m0)))) rfl) (Dyp 3 rfl (i8 rfl) (r8 4 rfl rfl kr (fun _ => rfl) (m6 S5 rfl rfl rfl dc (fun w Lp hA => ⟨hA.ro y8, hA.ro u9⟩)) (fun _ _ => (r8 5 rfl rfl kr (fun _ => rfl) (Nb [_] [_] us_Is f6 rfl rfl) (fun b24 _ => (d7 (r8 6 rfl rfl kr (fun h => by cases h) (v7 (E := Enc.int) (ex := u6 (f7, d9) d8[g]) us_Is f6 rfl rfl rfl (Own.int i6) rfl bn bn dc) (fun p25 _ => (Dyp 7 rfl (i0 fo_Fact_1 ty_Is dc rfl) (d7 (r8 8 rfl rfl kr (fun h => by cases h) (Ns [_, _] ty_Is rfl) (fun _ _ => (r7 kr (s4 (Et (Ez Z2 (Ey rfl ((Y.add rfl rfl om om).yd) (Em rfl (Eu (d7 (i9 (congrArg (ow eIs [_]) (show ((d8.take g).map (u6 (f7, d9))) ++ [u6 (f7, d9) d8[g]] = (d8.take (g + 1)).map (u6 (f7, d9)) from by grind [B2, d1, d2, t1, t2])) (i7 (i7 (i7 (i7 (i7 ?_)))))))))))))))))))))))))))))))))))))))))
  exact Ea (g + 1, p25.1, (((d8.take g).map (u6 (f7, d9))).length + 1), p25.2) ⟨oz, trivial⟩
 ·refine Eu (Eq_ (n0 rfl (E.exit (o3 (o3 (x5 (Et (Ew Z2 (Ey rfl (j6 (cs := [_, _]) ty_Fact rfl (Has.pt (mS m0)) rfl) (g9 (Est rfl (Ns [_, _] ty_Fact rfl) (fun _ _ => (Eu (E.ret (d7 (i9 (congrArg (ow eIs [_]) (show _ = (B2 (j4, d8) (f7, d9)).2 by grind [B2, d1, d2, t1, t2])) ?_))))))))))))))))
  exact H8 br rfl rfl (mS m0) ty_Fact rfl (_, _, _) trivial (by rw [show ((B2 (j4, d8) (f7, d9)).1) = (j4) from (by grind [B2, d1, d2, t1, t2])]; try rfl) (J := _) (.refl _) (.inl rfl)
theorem a3i {b_facts : Nat} {b_b : Nat} (hz : d8.length ≤ 1048576) : Tr Tryz.prog 71 [.agg #[.int .i64 j4, .slice y7 C8 y6], .pointer (some ⟨b_facts, 0, none⟩), .pointer (some ⟨b_b, 0, none⟩)] (fun w L => (I64 j4 ∧ Ro w L eIs [.slice y7 C8 y6] d8) ∧ RoPt w L b_facts [.slice a_facts m_facts c_facts] ∧ Ro w L u5 [.slice a_facts m_facts c_facts] f0 ∧ RoPt w L b_b [.slice w7 B1 w6, .slice s6 u4 s5] ∧ Ro w L eIs [.slice w7 B1 w6] f7 ∧ Ro w L eIs [.slice s6 u4 s5] d9) [] (κ := Unit) (fun k => True) (fun k => .bool (!F5 f0 (B2 (j4, d8) (f7, d9)))) (fun k => []) := by
 refine Tr.intro Tryz.func71 rfl (n := 11) rfl (by decide +kernel) bl (fr := [(0, .agg #[.int .i64 j4, .slice y7 C8 y6]), (1, .pointer (some ⟨b_facts, 0, none⟩)), (2, .pointer (some ⟨b_b, 0, none⟩))]) rfl fun w L hR => ?_
 obtain ⟨⟨N5, D8⟩, hb_facts, hfacts, hb_b, y8, u9⟩ := hR
 obtain ⟨rfl, U5⟩ := D8.slen
 obtain ⟨rfl, lfacts⟩ := hfacts.slen
 obtain ⟨rfl, P1⟩ := y8.slen
 obtain ⟨rfl, I7⟩ := u9.slen
 refine Ew Z2 (Est rfl (N.box (cs := [_, _]) rfl dc rfl) (fun b3 _ => (Ei rfl (Eu (Eq_ (D.region (fun j => true) mixed (Dy 0 rfl (f9 ty_Facts rfl (hb_facts.has) rfl) (Dy 1 rfl (j6 (cs := [_, _]) ty_Atom rfl (Has.pt m0) rfl) (Dy 2 rfl (j6 (cs := [_, _]) ty_Binding rfl (hb_b.has) rfl) (r8 3 rfl rfl kr (fun _ => rfl) (N.call (a2R fc) rfl rfl rfl dc rfl (fun w Lp hA => ⟨N5, hA.ro D8, hA.ro y8, hA.ro u9⟩)) (fun k8 _ => ?_)))))))))))
 obtain ⟨a8, m8, c8⟩ := k8
 refine d4 m0 fun e8 l8 => ?_
 subst e8
 refine r8 4 rfl rfl kr (fun _ => rfl) (m6 a2j rfl rfl rfl dc (fun w Lp hA => ⟨hA.ro hfacts, i6, hA.ow m0⟩)) (fun _ _ => (Dyp 5 rfl (Y.not rfl) (Dyp 6 rfl (C0 rfl) ?_)))
 exact r7 kr (Et (E.ret (Fb rfl rfl (by grind [d1, d2, t1, t2]))))
theorem Y5 (hz : f5.length ≤ 1048576) (hq : ∀ x ∈ a6, x.2.length ≤ 1048576) : Tr Tryz.prog 19 [.agg #[.slice l0 r5 k6, .slice j3 o1 j0], .slice a_facts m_facts c_facts, .slice a_head m_head c_head, .agg #[.slice w7 B1 w6, .slice s6 u4 s5]] (fun w L => Ro w L eIs [.slice l0 r5 k6] f5 ∧ Ro w L j8 [.slice j3 o1 j0] a6 ∧ Ro w L u5 [.slice a_facts m_facts c_facts] f0 ∧ Ro w L eIs [.slice a_head m_head c_head] head ∧ Ro w L eIs [.slice w7 B1 w6] f7 ∧ Ro w L eIs [.slice s6 u4 s5] d9) [] (κ := Unit) (fun k => True) (fun k => .bool (O5 (f5, a6) f0 head (f7, d9))) (fun k => []) := by
 refine Tr.intro Tryz.func19 rfl (n := 30) rfl (by decide +kernel) bl (fr := [(0, .agg #[.slice l0 r5 k6, .slice j3 o1 j0]), (1, .slice a_facts m_facts c_facts), (2, .slice a_head m_head c_head), (3, .agg #[.slice w7 B1 w6, .slice s6 u4 s5])]) rfl fun w L hR => ?_
 obtain ⟨o6, l4, hfacts, hhead, y8, u9⟩ := hR
 obtain ⟨rfl, F2⟩ := o6.slen
 obtain ⟨rfl, E0⟩ := l4.slen
 obtain ⟨rfl, lfacts⟩ := hfacts.slen
 obtain ⟨rfl, lhead⟩ := hhead.slen
 obtain ⟨rfl, P1⟩ := y8.slen
 obtain ⟨rfl, I7⟩ := u9.slen
 refine Ew Z4 (Est rfl (N.box (cs := [_, _]) rfl dc rfl) (fun b4 _ => (Est rfl (N.box (cs := [_]) rfl dc rfl) (fun b5 _ => (Est rfl (N.box (cs := [_, _]) rfl dc rfl) (fun b7 _ => (Ei rfl (Ev Z22 (Ey rfl ((i0 fo_Binding_0 ty_Is dc rfl).yd) (Ey rfl (f9 ty_Is rfl (Hz m0 0 rfl) rfl) (Ey rfl ((Y.len us_Is rfl).yd) (Ey rfl ((i0 fo_Binding_1 ty_Is dc rfl).yd) (Ey rfl (f9 ty_Is rfl (Hz m0 1 rfl) rfl) (Ey rfl ((Y.len us_Is rfl).yd) (Ey rfl ((Y.eql rfl rfl).yd) (n9 (fun q15 => ?_) (fun q15 => ?_)))))))))))))))))
 ·refine Em rfl (Ey rfl (j6 (cs := [_, _]) ty_Query rfl (Has.pt (mS (mS m0))) rfl) (Ey rfl (j6 (cs := [_, _]) ty_Binding rfl (Has.pt m0) rfl) (Est rfl (N.call (S6 fc) rfl rfl rfl dc rfl (fun w Lp hA => ⟨hA.ro o6, hA.ro l4, hA.ro y8, hA.ro u9⟩)) (fun k19 _ => ?_))))
  obtain ⟨a19, m19, c19⟩ := k19
  refine d4 m0 fun e19 l19 => ?_
  subst e19
  refine Em rfl (Est rfl (m6 X7 rfl rfl rfl dc (fun w Lp hA => ⟨hA.ow m0, hA.ro hhead⟩)) (fun _ _ => (t7 (fun q21 => ?_) (fun q21 => ?_))))
  ·refine Ey rfl ((v8 rfl rfl).yd) (Em rfl (Ey rfl ((i0 fo_Query_1 ty_Atoms dc rfl).yd) (Ey rfl (f9 ty_Atoms rfl (Hz (mS (mS (mS m0))) 1 rfl) rfl) (Ey rfl ((Y.fn (vs := [_, _]) rfl).yd) (Est rfl (m6 (a0p (f := (fun z => !F5 f0 (B2 z (f7, d9)))) (D_f := (fun z => (z.2.length ≤ 1048576))) (by grind)) rfl rfl rfl dc (fun w Lp hA => ⟨hA.ro l4, a4S (D := (fun z => (z.2.length ≤ 1048576))) (fun hd => a3i hd) (fun w' hk => ⟨(hA.pt (mS (mS m0))).keep hk, (hA.ro hfacts).keep hk, (hA.pt (mS m0)).keep hk, (hA.ro y8).keep hk, (hA.ro u9).keep hk⟩)⟩)) (fun _ _ => (Ey rfl ((Y.not rfl).yd) (Ey rfl ((v8 rfl rfl).yd) (Ei rfl ?_)))))))))
   exact Eu (E.ret (Fb rfl rfl (by grind [O5, d1, d2, t1, t2])))
  ·refine Ey rfl ((v8 rfl rfl).yd) (Em rfl (Es rfl (Es rfl (Es rfl (Es rfl (Es rfl (Ey rfl ((u7 rfl rfl).yd) (Ei rfl ?_))))))))
   exact Eu (E.ret (Fb rfl rfl (by grind [O5, d1, d2, t1, t2])))
 ·refine Em rfl (Es rfl (Es rfl (Es rfl (Es rfl (Es rfl (Ey rfl ((u7 rfl rfl).yd) (Em rfl (Es rfl (Es rfl (Es rfl (Es rfl (Es rfl (Ey rfl ((u7 rfl rfl).yd) (Ei rfl ?_))))))))))))))
  exact Eu (E.ret (Fb rfl rfl (by grind [O5, d1, d2, t1, t2])))
theorem a1e (hz : f5.length ≤ 1048576) (hq : ∀ x ∈ a6, x.2.length ≤ 1048576) : Tr Tryz.prog 30 [.agg #[.slice l0 r5 k6, .slice j3 o1 j0], .slice a_facts m_facts c_facts, .slice a_head m_head c_head, .agg #[.slice w7 B1 w6, .slice s6 u4 s5]] (fun w L => Ro w L eIs [.slice l0 r5 k6] f5 ∧ Ro w L j8 [.slice j3 o1 j0] a6 ∧ Ro w L u5 [.slice a_facts m_facts c_facts] f0 ∧ Ro w L eIs [.slice a_head m_head c_head] head ∧ Ro w L eIs [.slice w7 B1 w6] f7 ∧ Ro w L eIs [.slice s6 u4 s5] d9) [] (κ := Unit) (fun k => True) (fun k => .bool (O5 (f5, a6) f0 head (f7, d9))) (fun k => []) := by
 refine Tr.intro Tryz.func30 rfl (n := 72) rfl (by decide +kernel) bl (fr := [(0, .agg #[.slice l0 r5 k6, .slice j3 o1 j0]), (1, .slice a_facts m_facts c_facts), (2, .slice a_head m_head c_head), (3, .agg #[.slice w7 B1 w6, .slice s6 u4 s5])]) rfl fun w L hR => ?_
 obtain ⟨o6, l4, hfacts, hhead, y8, u9⟩ := hR
 obtain ⟨rfl, F2⟩ := o6.slen
 obtain ⟨rfl, E0⟩ := l4.slen
 obtain ⟨rfl, lfacts⟩ := hfacts.slen
 obtain ⟨rfl, lhead⟩ := hhead.slen
 obtain ⟨rfl, P1⟩ := y8.slen
 obtain ⟨rfl, I7⟩ := u9.slen
 have jv := a7Z (b := (f7, d9)) l4.i64A y8.i64 u9.i64
 refine Ew Z3 (Est rfl (N.box (cs := [_, _]) rfl dc rfl) (fun b4 _ => (Est rfl (N.box (cs := [_, _]) rfl dc rfl) (fun b7 _ => (Ei rfl (Eu (Eq_ (Ew Z15 (Ey rfl ((i0 fo_Binding_0 ty_Is dc rfl).yd) (Ey rfl (f9 ty_Is rfl (Hz m0 0 rfl) rfl) (Ey rfl ((Y.len us_Is rfl).yd) (Ey rfl ((i0 fo_Binding_1 ty_Is dc rfl).yd) (Ey rfl (f9 ty_Is rfl (Hz m0 1 rfl) rfl) (Ey rfl ((Y.len us_Is rfl).yd) (Ey rfl ((Y.neq rfl rfl).yd) (n9 (fun q18 => ?_) (fun q18 => ?_)))))))))))))))))
 ·refine Em rfl (Es rfl (Es rfl (Es rfl (Es rfl (Es rfl (Es rfl (Ey rfl ((v8 rfl rfl).yd) (Eu (o0 rfl (Ew Z1 (Ei rfl ?_)))))))))))
  exact Eu (E.ret (o4 (Fb rfl rfl (by grind [O5, B2, d1, d2, t1, t2]))))
 ·refine Em rfl (Ey rfl (j6 (cs := [_, _]) ty_Query rfl (Has.pt (mS m0)) rfl) (Ey rfl (j6 (cs := [_, _]) ty_Binding rfl (Has.pt m0) rfl) (Est rfl (N.call (X0 fc) rfl rfl rfl dc rfl (fun w Lp hA => ⟨hA.ro o6, hA.ro l4, hA.ro y8, hA.ro u9⟩)) (fun k22 _ => ?_))))
  obtain ⟨a22, m22, c22⟩ := k22
  refine d4 m0 fun e22 l22 => ?_
  subst e22
  refine Em rfl (Est rfl (m6 V1 rfl rfl rfl dc (fun w Lp hA => ⟨hA.ow m0, hA.ro hhead⟩)) (fun _ _ => (t7 (fun q24 => ?_) (fun q24 => ?_))))
  ·refine Ey rfl ((Y.not (b := true) rfl).yd) (Ey rfl ((u7 rfl rfl).yd) (Eu (n0 rfl (f8 (Et (Eq_ (Ew Z1 (Ei rfl (Eu (E.block (E.loop (κ := Nat) (fun g => g ≤ a6.length ∧ a6.any (fun a => !F5 f0 (B2 a (f7, d9))) = (a6.drop g).any (fun a => !F5 f0 (B2 a (f7, d9)))) (fun g => [(1, .slice a_facts f0.length c_facts), (4, .pointer (some ⟨b4, 0, none⟩)), (7, .pointer (some ⟨b7, 0, none⟩)), (9, .int .i64 (g : Int))]) (fun g => [ow eIs [.slice a22 (f5.map (u6 (f7, d9))).length c22] (f5.map (u6 (f7, d9))), pt b7 39 [.slice w7 f7.length w6, .slice s6 d9.length s5], pt b4 27 [.slice l0 f5.length k6, .slice j3 a6.length j0]]) (fun g => a6.length - g) 0 ⟨Nat.zero_le _, by simp⟩ ⟨rfl, rfl, rfl, rfl, trivial⟩ (.refl _) (fun g pg => ?_))))))))))))
   obtain ⟨pk, pa⟩ := pg
   refine Eq_ (Ew Z5 (Em rfl (Ey rfl ((i0 fo_Query_1 ty_Atoms dc rfl).yd) (Ey rfl (f9 ty_Atoms rfl (Hz (mS (mS m0)) 1 rfl) rfl) (Ey rfl ((Y.len us_Atoms rfl).yd) (Ey rfl ((Y.lss rfl rfl).yd) (n9 (fun q31 => ?_) (fun q31 => ?_))))))))
   ·refine Eu (o0 rfl (f8 (Et (Eq_ (E.block (Ew Z9 (Ey rfl ((i0 fo_Query_1 ty_Atoms dc rfl).yd) (Ey rfl (f9 ty_Atoms rfl (Hz (mS (mS m0)) 1 rfl) rfl) (Em rfl ?_)))))))))
    obtain ⟨eb37, eo37, ec37, ea37, er37, el37, eh37⟩ := l4.elem g om
    obtain ⟨xa37_0, xc37_0, rfl, ei37_0, xh37_0⟩ := J0 er37
    have := xh37_0.slen.2
    refine Ey rfl ((t6 us_Atoms ty_Atom rfl ea37 rfl g rfl om).yd) (Ey rfl ((i0 fo_Atom_0 f6 dc rfl).yd) (Ey rfl (f9 f6 rfl ((eh37 _).sub (cs' := [_]) 0 rfl) rfl) (Ey rfl ((E9 (pvs := [_]) (cs := [_, _]) ty_Fact a0z rfl rfl).yd) (Est rfl (N.alloc ty_Fact dc) (fun b10 _ => (Est rfl (Ns [_, _] ty_Fact rfl) (fun _ _ => (Eu (Eq_ (Ew Z1 (Ei rfl (Eu (E.block (o2 (A := []) (Own.nil (E := Enc.int) (e := tI) (a := none)) rfl (i9 (congrArg (ow eIs [_]) (show [] = (a6[g].2.take 0).map (u6 (f7, d9)) from by first | rfl | (simp; done) | grind [O5, B2, d1, d2, t1, t2])) (E.loop (κ := Nat × Option Addr × Nat × Nat) (fun h => h.1 ≤ a6[g].2.length ∧ True) (fun h => [(1, .slice a_facts f0.length c_facts), (4, .pointer (some ⟨b4, 0, none⟩)), (7, .pointer (some ⟨b7, 0, none⟩)), (9, .int .i64 (g : Int)), (10, .pointer (some ⟨b10, 0, none⟩)), (11, .int .i64 (↑h.1 : Int))]) (fun h => [ow eIs [.slice h.2.1 h.2.2.1 h.2.2.2] ((a6[g].2.take h.1).map (u6 (f7, d9))), pt b10 83 [.int .i64 a6[g].1, .slice h.2.1 h.2.2.1 h.2.2.2], ow eIs [.slice a22 (f5.map (u6 (f7, d9))).length c22] (f5.map (u6 (f7, d9))), pt b7 39 [.slice w7 f7.length w6, .slice s6 d9.length s5], pt b4 27 [.slice l0 f5.length k6, .slice j3 a6.length j0]]) (fun h => a6[g].2.length - h.1) (0, none, 0, 0) ⟨Nat.zero_le _, by simp⟩ ⟨rfl, rfl, rfl, rfl, rfl, rfl, trivial⟩ (.refl _) (fun h ph => ?_)))))))))))))))))
    obtain ⟨h, aA1_0, mA1_0, cA1_0⟩ := h
    try dsimp only at ph
    try dsimp only
    obtain ⟨pk, pa⟩ := ph
    have hq1 := hq a6[g] (List.getElem_mem om)
    have jv1 := jv a6[g] (List.getElem_mem om)
    refine d4 m0 fun eaA1_0 laA1_0 => ?_
    subst eaA1_0
    refine Eq_ (Ew Z9 (Em rfl (Ey rfl ((i0 fo_Query_1 ty_Atoms dc rfl).yd) (Ey rfl (f9 ty_Atoms rfl (Hz (mS (mS (mS (mS m0)))) 1 rfl) rfl) (Em rfl (Ey rfl ((t6 us_Atoms ty_Atom rfl ea37 rfl g rfl om).yd) (Ey rfl ((i0 fo_Atom_1 ty_Is dc rfl).yd) (Ey rfl (f9 ty_Is rfl ((eh37 _).sub (cs' := [_]) 1 rfl) rfl) (Ey rfl ((Y.len us_Is rfl).yd) (Ey rfl ((Y.lss rfl rfl).yd) (n9 (fun q49 => ?_) (fun q49 => ?_))))))))))))
    ·refine Eu (o0 rfl (f8 (Et (Eq_ (E.block (D.region (fun j => !(Nat.beq j 14) && !(Nat.beq j 16)) mixed (Dyp 0 rfl (i0 fo_Fact_1 ty_Is dc rfl) (Dy 1 rfl (f9 ty_Is rfl (Hz (mS m0) 1 rfl) rfl) (Dy 2 rfl (j6 (cs := [_, _]) ty_Binding rfl (Has.pt (mS (mS (mS m0)))) rfl) (Dyp 3 rfl (i0 fo_Query_1 ty_Atoms dc rfl) (Dy 4 rfl (f9 ty_Atoms rfl (Hz (mS (mS (mS (mS m0)))) 1 rfl) rfl) (Dyp 5 rfl (i8 rfl) (Dyp 6 rfl (t6 us_Atoms ty_Atom rfl ea37 rfl g rfl om) (Dyp 7 rfl (i0 fo_Atom_1 ty_Is dc rfl) (Dy 8 rfl (f9 ty_Is rfl ((eh37 _).sub (cs' := [_]) 1 rfl) rfl) (Dyp 9 rfl (i8 rfl) ?_))))))))))))))))
     obtain ⟨eb62, eo62, ea62, ei62, eh62⟩ := xh37_0.elemI h om
     refine Dyp 10 rfl (t6 us_Is f6 rfl ea62 rfl h rfl om) (Dy 11 rfl (f9 f6 rfl (eh62 _) rfl) (r8 12 rfl rfl kr (fun _ => rfl) (m6 T4 rfl rfl rfl dc (fun w Lp hA => ⟨hA.ro y8, hA.ro u9⟩)) (fun _ _ => (r8 13 rfl rfl kr (fun _ => rfl) (Nb [_] [_] us_Is f6 rfl rfl) (fun b65 _ => (d7 (r8 14 rfl rfl kr (fun h => by cases h) (v7 (E := Enc.int) (ex := u6 (f7, d9) a6[g].2[h]) us_Is f6 rfl rfl rfl (Own.int i6) rfl bn bn dc) (fun p66 _ => (Dyp 15 rfl (i0 fo_Fact_1 ty_Is dc rfl) (d7 (r8 16 rfl rfl kr (fun h => by cases h) (Ns [_, _] ty_Is rfl) (fun _ _ => (r7 kr (s4 (Et (Ez Z3 (Em rfl (Ey rfl ((Y.add rfl rfl om om).yd) (Ei rfl (Eu (d7 (i9 (congrArg (ow eIs [_]) (show ((a6[g].2.take h).map (u6 (f7, d9))) ++ [u6 (f7, d9) a6[g].2[h]] = (a6[g].2.take (h + 1)).map (u6 (f7, d9)) from by grind [O5, B2, d1, d2, t1, t2])) (i7 (i7 (i7 (i7 (i7 ?_)))))))))))))))))))))))))))
     exact Ea (h + 1, p66.1, (((a6[g].2.take h).map (u6 (f7, d9))).length + 1), p66.2) ⟨oz, trivial⟩
    ·refine Eu (n0 rfl (E.exit (o3 (o3 (x5 (Et (Ew Z4 (Em rfl (Ey rfl (j6 (cs := [_, _]) ty_Fact rfl (Has.pt (mS m0)) rfl) (Est rfl (m6 a2g rfl rfl rfl dc (fun w Lp hA => ⟨hA.ro hfacts, ei37_0, hA.ow m0⟩)) (fun _ _ => (t7 (fun q70 => ?_) (fun q70 => ?_)))))))))))))
     ·refine Ey rfl ((Y.not (b := true) rfl).yd) (Eu (n0 rfl (f8 (s4 (Et (Ez Z3 (Em rfl (Ey rfl ((Y.add rfl rfl om om).yd) (Ei rfl (Eu (Ent.drop (Ent.drop (g9 (g9 (g9 ?_)))))))))))))))
      exact x3 br (g + 1) rs (.refl _) ⟨by omega, by grind [B2, d1, d2, t1, t2]⟩ om
     ·refine Ey rfl ((Y.not (b := false) rfl).yd) (Eu (o0 rfl (Ew Z1 (Ei rfl ?_))))
      exact Eu (E.ret (B0 (o4 (o4 (B0 (o4 (Fb rfl rfl (by grind [O5, B2, d1, d2, t1, t2]))))))))
   ·refine Eu (n0 rfl (E.exit (o3 (o3 (x5 (Et (Ew Z1 (Ei rfl ?_))))))))
    exact Eu (E.ret (Fb rfl rfl (by grind [O5, B2, d1, d2, t1, t2])))
  ·refine Ey rfl ((Y.not (b := false) rfl).yd) (Ey rfl ((u7 rfl rfl).yd) (Eu (o0 rfl (Ew Z1 (Ei rfl ?_)))))
   exact Eu (E.ret (o4 (Fb rfl rfl (by grind [O5, B2, d1, d2, t1, t2]))))
end Go.Proofs.YtbedienpleiamaaGreat
