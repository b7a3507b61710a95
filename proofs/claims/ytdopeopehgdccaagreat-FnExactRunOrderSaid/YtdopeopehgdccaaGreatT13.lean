import Derived.Test.YtdopeopehgdccaaGreatBs
import Derived.Test.YtdopeopehgdccaaGreatT12
import Derived.Test.YtdopeopehgdccaaGreatT9
import Derived.Test.YtdopeopehgdccaaGreatT4
import Derived.Test.YtdopeopehgdccaaGreatT5
import Derived.Test.YtdopeopehgdccaaGreatBc
import Derived.Test.YtdopeopehgdccaaGreatBd
namespace Go.Proofs.YtdopeopehgdccaaGreat
open Go.RowKit
set_option linter.all false
set_option maxHeartbeats 2000000
attribute [local irreducible] Nop Yd Yp Ent Has Tr FnP FnP2 Src M5 V6 Y1 a0b D2
variable {j7 : Int} {l : List (Int × List Int)} {f6 s : List Int} {u6 r7 m_l c_l m_s c_s : Nat} {r8 a_l a_s : Option Addr}
theorem a0F (hyf : f6.length ≤ 1048576) : Tr Tryz.prog 255 [.agg #[.int .i64 j7, .slice r8 u6 r7]] (fun w L => I64 j7 ∧ Ro w L eIs [.slice r8 u6 r7] f6) [] (κ := Option Addr × Nat × Nat) (fun k => True) (fun k => .agg #[.int .i64 j7, .slice k.1 k.2.1 k.2.2]) (fun k => [ow eIs [.slice k.1 k.2.1 k.2.2] f6]) := by
 refine Tr.intro Tryz.func255 rfl (n := 9) rfl (by decide +kernel) bl (fr := [(0, .agg #[.int .i64 j7, .slice r8 u6 r7])]) rfl fun w L hR => ?_
 obtain ⟨C9, s4⟩ := hR
 obtain ⟨rfl, N9⟩ := s4.slen
 refine Ew Z2 (Est rfl (N.box (cs := [_, _]) rfl dc rfl) (fun b1 _ => (Est rfl (N.alloc ty_Fact dc) (fun b2 _ => (Eu (Eq_ (D.region (fun j => !(Nat.beq j 6)) mixed (Dyp 0 rfl (Y.fld fo_Fact_0 f8 dc rfl) (Dy 1 rfl (Y.ld1 f8 rfl ((Has.pt (mS m0)).sub (cs' := [_]) 0 rfl) rfl) (Dyp 2 rfl (Y.fld fo_Fact_1 ty_Is dc rfl) (Dy 3 rfl (Y.ld1 ty_Is rfl ((Has.pt (mS m0)).sub (cs' := [_]) 1 rfl) rfl) (D.st 4 rfl rfl kr (fun _ => rfl) (N.call (a0I fc) rfl rfl rfl dc rfl (fun w Lp hA => hA.ro s4)) (fun k7 _ => ?_)))))))))))))
 obtain ⟨a7, m7, c7⟩ := k7
 refine Ent.lenow m0 fun e7 l7 => ?_
 subst e7
 refine Dyp 5 rfl (Y.bld (pvs := [_, _]) (cs := [_, _]) ty_Fact a8B rfl rfl) (Ent.p1 (D.st 6 rfl rfl kr (fun h => by cases h) (N.sto (vs := [_, _]) (cs' := [_, _]) ty_Fact rfl rfl rfl rfl rfl bl rfl) (fun _ _ => (D.done kr (Et (E.ret (Ent.p1 ?_)))))))
 exact F.c1 br rfl rfl (mS m0) ty_Fact rfl (_, _, _) trivial rfl (J := _) (.refl _) (.inl rfl)
theorem I1 {rel : Int} {a_values : Option Addr} {m_values c_values : Nat} {D8 : List Int} (hz : D8.length ≤ 1048576) : Tr Tryz.prog 174 [.int .i64 rel, .slice a_values m_values c_values] (fun w L => I64 rel ∧ Ro w L eIs [.slice a_values m_values c_values] D8) [] (κ := Option Addr × Nat × Nat) (fun k => True) (fun k => .agg #[.int .i64 rel, .slice k.1 k.2.1 k.2.2]) (fun k => [ow eIs [.slice k.1 k.2.1 k.2.2] D8]) := by
 refine Tr.intro Tryz.func174 rfl (n := 10) rfl (by decide +kernel) bl (fr := [(0, .int .i64 rel), (1, .slice a_values m_values c_values)]) rfl fun w L hR => ?_
 obtain ⟨i6rel, hvalues⟩ := hR
 obtain ⟨rfl, lvalues⟩ := hvalues.slen
 refine Ew Z1 (Est rfl (N.alloc ty_Fact dc) (fun b4 _ => (Ev Z6 (Emv rfl rfl (Est rfl (N.bsl (pvs := []) (cs := []) us_Is f8 rfl dc dc (o8 rfl rfl) rfl dc) (fun b6 _ => (Ent.drop (Emv rfl rfl (Est rfl (N.pushR0 (E := Enc.int) Plain.int us_Is f8 rfl rfl rfl hvalues bn bn dc) (fun p8 _ => (Ey rfl ((Y.bld (pvs := [_, _]) (cs := [_, _]) ty_Fact a8B rfl rfl).yd) (Ent.p1 (Est rfl (N.sto (vs := [_, _]) (cs' := [_, _]) ty_Fact rfl rfl rfl rfl rfl bl rfl) (fun _ _ => (Eu (E.ret (Ent.p1 ?_)))))))))))))))))
 exact F.c1 br rfl rfl (mS m0) ty_Fact rfl (_, _, _) trivial rfl (J := _) (.refl _) (.inl rfl)
theorem a4c (hz : l.length ≤ 1073741824) (hyl : ∀ x ∈ l, x.2.length ≤ 1048576) : Tr Tryz.prog 206 [.slice a_l m_l c_l] (fun w L => Ro w L j9 [.slice a_l m_l c_l] l) [] (κ := Option Addr × Nat × Nat) (fun k => True) (fun k => .slice k.1 k.2.1 k.2.2) (fun k => [ow j9 [.slice k.1 k.2.1 k.2.2] l]) := by
 refine Tr.intro Tryz.func206 rfl (n := 20) rfl (by decide +kernel) bl (fr := [(0, .slice a_l m_l c_l)]) rfl fun w L hR => ?_
 have hl := hR
 obtain ⟨rfl, ll⟩ := hl.slen
 refine Ew Z1 (Eas rfl rfl (Ev Z2 (Est rfl (N.bsl (pvs := []) (cs := []) us_Facts ty_Fact rfl dc dc (o8 rfl rfl) rfl dc) (fun b6 _ => (Ent.drop (Eas rfl rfl (Eu (Eq_ (Ew Z3 (Emv rfl rfl (Ey rfl ((Y.len us_Facts rfl).yd) (Emv rfl rfl (Eu (E.block (Ent.mkow (A := []) (Own.nil (E := B2) (e := tFact) (a := (some ⟨b6, 0, none⟩))) rfl (Ent.cv (congrArg (ow j9 [_]) (show [] = l.take 0 from by first | rfl | (simp; done) | grind [d1, d2, t1, t2])) (E.loop (κ := Nat × Option Addr × Nat × Nat) (fun g => g.1 ≤ l.length ∧ True) (fun g => [(3, .slice g.2.1 g.2.2.1 g.2.2.2), (7, .slice a_l l.length c_l), (8, .int .i64 (↑l.length : Int)), (9, .int .i64 (↑g.1 : Int))]) (fun g => [ow j9 [.slice g.2.1 g.2.2.1 g.2.2.2] (l.take g.1)]) (fun g => l.length - g.1) (0, (some ⟨b6, 0, none⟩), 0, 0) ⟨Nat.zero_le _, by simp⟩ ⟨rfl, rfl, rfl, rfl, trivial⟩ (.refl _) (fun g pg => ?_))))))))))))))))))
 obtain ⟨g, aA0_0, mA0_0, cA0_0⟩ := g
 try dsimp only at pg
 try dsimp only
 obtain ⟨pk, pa⟩ := pg
 have jp := List.length_take_le g l
 refine Ent.lenow m0 fun eaA0_0 laA0_0 => ?_
 subst eaA0_0
 refine Ew Z1 (Ey rfl ((Y.lss rfl rfl).yd) (Ent.d (fun q10 => ?_) (fun q10 => ?_)))
 ·obtain ⟨eb11, eo11, ec11, ea11, er11, el11, eh11⟩ := hl.elem g om
  obtain ⟨xa11_0, xc11_0, rfl, ei11_0, xh11_0⟩ := Ro.pFact er11
  have := xh11_0.slen.2
  refine Eu (Eq_ (E.ct rfl (E.skipc (Et (Eq_ (E.block (Ew Z4 (Ey rfl ((Y.ix us_Facts ty_Fact rfl ea11 rfl g rfl om).yd) (Ey rfl (Y.ldS (cs := [_, _]) ty_Fact rfl (eh11 _) rfl) (Est rfl (N.alloc ty_Fact dc) (fun b5 _ => (Est rfl (N.sto (vs := [_, _]) (cs' := [_, _]) ty_Fact rfl rfl rfl rfl rfl bl rfl) (fun _ _ => (Eu (Ez Z6 (Emv rfl rfl (Ey rfl (Y.ldS (cs := [_, _]) ty_Fact rfl (Has.pt m0) rfl) (Est rfl (N.call (a0F (hyl _ (List.getElem_mem om))) rfl rfl rfl dc rfl (fun w Lp hA => ⟨ei11_0, hA.ro xh11_0⟩)) (fun k15 _ => ?_)))))))))))))))))))
  obtain ⟨a15, m15, c15⟩ := k15
  refine Ent.lenow m0 fun e15 l15 => ?_
  subst e15
  refine Est rfl (N.bsl (pvs := [_]) (cs := [_, _]) us_Facts ty_Fact rfl dc dc (o8 rfl rfl) rfl dc) (fun b16 _ => (Ent.p1 (Ent.p1 (Ent.p3 (Est rfl (N.push (E := B2) (ex := l[g]) us_Facts ty_Fact rfl rfl rfl (Own.mkFact (x := l[g]) ei11_0 Own.ow) rfl bn bn dc) (fun p17 _ => (Eas rfl rfl (En (E.bln (Et (Ez Z2 (Ey rfl ((Y.add rfl rfl om om).yd) (Emv rfl rfl (Eu (Ent.p1 (Ent.drop (Ent.cv (congrArg (ow j9 [_]) (show (l.take g) ++ [l[g]] = l.take (g + 1) from by grind [d1, d2, t1, t2])) ?_)))))))))))))))))
  exact Ea (g + 1, p17.1, ((l.take g).length + 1), p17.2) ⟨oz, trivial⟩
 ·refine Eu (Eq_ (E.cf rfl (E.exit (E.the (E.the (E.blh (Et (Ew Z2 (Emv rfl rfl (Eas rfl rfl (Eu (E.ret (Ent.cv (congrArg (ow j9 [_]) (show _ = l by grind [d1, d2, t1, t2])) ?_)))))))))))))
  exact Fg rfl rfl (_, _, _) rfl rfl
theorem a5C {a1f : Int} {M6 : Option Addr} {M7 M8 : Nat} {a0d : List Int} {b_f : Nat} : Tr Tryz.prog 253 [.agg #[.int .i64 a1f, .slice M6 M7 M8], .pointer (some ⟨b_f, 0, none⟩)] (fun w L => (I64 a1f ∧ Ro w L eIs [.slice M6 M7 M8] a0d) ∧ RoPt w L b_f [.int .i64 j7, .slice r8 u6 r7] ∧ I64 j7 ∧ Ro w L eIs [.slice r8 u6 r7] f6) [] (κ := Unit) (fun k => True) (fun k => .bool (decide (0 < G8 (a1f, a0d) (j7, f6)))) (fun k => []) := by
 refine Tr.intro Tryz.func253 rfl (n := 8) rfl (by decide +kernel) bl (fr := [(0, .agg #[.int .i64 a1f, .slice M6 M7 M8]), (1, .pointer (some ⟨b_f, 0, none⟩))]) rfl fun w L hR => ?_
 obtain ⟨⟨a5V, W7⟩, hb_f, C9, s4⟩ := hR
 obtain ⟨rfl, a6u⟩ := W7.slen
 obtain ⟨rfl, N9⟩ := s4.slen
 refine Ew Z2 (Est rfl (N.box (cs := [_, _]) rfl dc rfl) (fun b2 _ => (Eas rfl rfl (Ev Z5 (Ey rfl (Y.ldS (cs := [_, _]) ty_Fact rfl (Has.pt m0) rfl) (Ey rfl (Y.ldS (cs := [_, _]) ty_Fact rfl (hb_f.has) rfl) (Est rfl (N.call0 Y2 rfl rfl rfl dc (fun w Lp hA => ⟨a5V, hA.ro W7, C9, hA.ro s4⟩)) (fun _ _ => (Ey rfl ((Y.gtr rfl rfl).yd) (Eas rfl rfl ?_))))))))))
 exact Eu (E.ret (Fg rfl rfl () rfl rfl))
theorem a7O (hz : l.length ≤ 1000000000) (hyf : f6.length ≤ 1048576) : Tr Tryz.prog 179 [.slice a_l m_l c_l, .agg #[.int .i64 j7, .slice r8 u6 r7]] (fun w L => I64 j7 ∧ Ro w L eIs [.slice r8 u6 r7] f6) [ow j9 [.slice a_l m_l c_l] l] (κ := Option Addr × Nat × Nat) (fun k => True) (fun k => .slice k.1 k.2.1 k.2.2) (fun k => [ow j9 [.slice k.1 k.2.1 k.2.2] (y4 l (j7, f6))]) := by
 refine Tr.intro Tryz.func179 rfl (n := 23) rfl (by decide +kernel) bl (fr := [(0, .slice a_l m_l c_l), (1, .agg #[.int .i64 j7, .slice r8 u6 r7])]) rfl fun w L hR => ?_
 obtain ⟨C9, s4⟩ := hR
 obtain ⟨rfl, N9⟩ := s4.slen
 refine Ent.lenow m0 fun el ll => ?_
 subst el
 refine Ew Z2 (Est rfl (N.box (cs := [_, _]) rfl dc rfl) (fun b3 _ => (Eas rfl rfl (Eu (Eq_ (Ew Z3 (Emv rfl rfl (Ey rfl (Y.ldS (cs := [_, _]) ty_Fact rfl (Has.pt m0) rfl) (Est rfl (N.call0 a5e rfl rfl rfl dc (fun w Lp hA => ⟨hA.ow (mS m0), C9, hA.ro s4⟩)) (fun _ _ => (Ent.b (fun q8 => ?_) (fun q8 => ?_))))))))))))
 ·refine Eu (E.ct rfl (Ew Z2 (Emv rfl rfl (Eas rfl rfl (Eu (E.ret (E.thr (Ent.p1 (Ent.cv (congrArg (ow j9 [_]) (show _ = y4 l (j7, f6) by grind [a1j, a2u])) ?_)))))))))
  exact Fg rfl rfl (_, _, _) rfl rfl
 ·refine Eu (E.cf rfl (E.skipc (Et (Ew Z4 (Emv rfl rfl (Ey rfl ((Y.fn (vs := [_]) rfl).yd) (Est rfl (N.call0 (a0r (f := (fun z => decide (0 < G8 z (j7, f6)))) (D_f := (fun _ => True)) (by intros; exact trivial)) rfl rfl rfl dc (fun w Lp hA => ⟨hA.ow (mS m0), FnP.ofFact (D := (fun _ => True)) (fun hd => a5C) (fun w' hk => ⟨(hA.pt m0).keep hk, C9, (hA.ro s4).keep hk⟩)⟩)) (fun _ _ => (Eas rfl rfl (Eu (Eq_ (Ew Z2 (Emv rfl rfl (Ey rfl ((Y.lss rfl rfl).yd) (Ent.d (fun q14 => ?_) (fun q14 => ?_))))))))))))))))
  ·refine Eu (E.ct rfl (Ez Z3 (Emv rfl rfl (Ey rfl ((Y.len us_Facts rfl).yd) (Eas rfl rfl (Ev Z7 (Emv rfl rfl (Emv rfl rfl (Ey rfl (Y.ldS (cs := [_, _]) ty_Fact rfl (Has.pt m0) rfl) (Est rfl (N.call (a0F fc) rfl rfl rfl dc rfl (fun w Lp hA => ⟨C9, hA.ro s4⟩)) (fun k20 _ => ?_)))))))))))
   obtain ⟨a20, m20, c20⟩ := k20
   refine Ent.lenow m0 fun e20 l20 => ?_
   subst e20
   refine Est rfl (N.bsl (pvs := [_]) (cs := [_, _]) us_Facts ty_Fact rfl dc dc (o8 rfl rfl) rfl dc) (fun b21 _ => (Ent.p1 (Ent.p1 (Ent.mkow (A := _ :: _) (Own.row1 (E := B2) (e := tFact) (Own.mkFact (x := (j7, f6)) C9 Own.ow)) rfl ?_))))
   have ji := a1B (p := fun z => decide (0 < G8 z (j7, f6))) (s := l)
   refine Ent.p2 (Est rfl (N.call (pre := [_, _]) (a2B om (by simp) (by simp; omega)) rfl rfl rfl dc rfl (fun w Lp hA => trivial)) (fun k22 _ => ?_))
   obtain ⟨a22, m22, c22⟩ := k22
   refine Ent.lenow m0 fun e22 l22 => ?_
   subst e22
   refine Eas rfl rfl (Eu (E.ret (Ent.cv (congrArg (ow j9 [_]) (show _ = y4 l (j7, f6) by grind [a1j, a2u])) ?_)))
   exact Fg rfl rfl (_, _, _) rfl rfl
  ·refine Eu (E.cf rfl (E.skipc (Et (Ew Z7 (Emv rfl rfl (Emv rfl rfl (Ey rfl (Y.ldS (cs := [_, _]) ty_Fact rfl (Has.pt m0) rfl) (Est rfl (N.call (a0F fc) rfl rfl rfl dc rfl (fun w Lp hA => ⟨C9, hA.ro s4⟩)) (fun k20 _ => ?_)))))))))
   obtain ⟨a20, m20, c20⟩ := k20
   refine Ent.lenow m0 fun e20 l20 => ?_
   subst e20
   refine Est rfl (N.bsl (pvs := [_]) (cs := [_, _]) us_Facts ty_Fact rfl dc dc (o8 rfl rfl) rfl dc) (fun b21 _ => (Ent.p1 (Ent.p1 (Ent.mkow (A := _ :: _) (Own.row1 (E := B2) (e := tFact) (Own.mkFact (x := (j7, f6)) C9 Own.ow)) rfl ?_))))
   have ji := a1B (p := fun z => decide (0 < G8 z (j7, f6))) (s := l)
   refine Ent.p2 (Est rfl (N.call (pre := [_, _]) (a2B om (by simp) (by simp; omega)) rfl rfl rfl dc rfl (fun w Lp hA => trivial)) (fun k22 _ => ?_))
   obtain ⟨a22, m22, c22⟩ := k22
   refine Ent.lenow m0 fun e22 l22 => ?_
   subst e22
   refine Eas rfl rfl (Eu (E.ret (Ent.cv (congrArg (ow j9 [_]) (show _ = y4 l (j7, f6) by grind [a1j, a2u])) ?_)))
   exact Fg rfl rfl (_, _, _) rfl rfl
theorem a1I (hz : l.length ≤ 1000000000) (hyl : ∀ x ∈ l, x.2.length ≤ 1048576) (hyf : f6.length ≤ 1048576) : Tr Tryz.prog 87 [.slice a_l m_l c_l, .agg #[.int .i64 j7, .slice r8 u6 r7]] (fun w L => Ro w L j9 [.slice a_l m_l c_l] l ∧ I64 j7 ∧ Ro w L eIs [.slice r8 u6 r7] f6) [] (κ := Option Addr × Nat × Nat) (fun k => True) (fun k => .slice k.1 k.2.1 k.2.2) (fun k => [ow j9 [.slice k.1 k.2.1 k.2.2] (y4 l (j7, f6))]) := by
 refine Tr.intro Tryz.func87 rfl (n := 62) rfl (by decide +kernel) bl (fr := [(0, .slice a_l m_l c_l), (1, .agg #[.int .i64 j7, .slice r8 u6 r7])]) rfl fun w L hR => ?_
 obtain ⟨hl, C9, s4⟩ := hR
 obtain ⟨rfl, ll⟩ := hl.slen
 obtain ⟨rfl, N9⟩ := s4.slen
 refine Ew Z2 (Est rfl (N.box (cs := [_, _]) rfl dc rfl) (fun b3 _ => (Eas rfl rfl (Ev Z2 (Est rfl (N.bsl (pvs := []) (cs := []) us_Facts ty_Fact rfl dc dc (o8 rfl rfl) rfl dc) (fun b8 _ => (Ent.drop (Eas rfl rfl (Ev Z4 (Emv rfl rfl (Ey rfl (Y.ldS (cs := [_, _]) ty_Fact rfl (Has.pt m0) rfl) (Est rfl (N.call0 a5K rfl rfl rfl dc (fun w Lp hA => ⟨hA.ro hl, C9, hA.ro s4⟩)) (fun _ _ => (Eas rfl rfl (Ent.b (fun q6 => ?_) (fun q6 => ?_))))))))))))))))
 ·refine Eu (Eq_ (Ew Z1 (Eas rfl rfl (Eu (E.block (Ent.mkow (A := []) (Own.nil (E := B2) (e := tFact) (a := (some ⟨b8, 0, none⟩))) rfl (Ent.cv (congrArg (ow j9 [_]) (show [] = F6 (F1 l (j7, f6)) (ltF (j7, f6)) (j7, f6) (l.take 0) from by first | rfl | (simp; done) | grind [y4, y8, y9, B8, B9, K7, d1, d2, t1, t2])) (E.loop (κ := Nat × Option Addr × Nat × Nat) (fun g => g.1 ≤ l.length ∧ True) (fun g => [(0, .slice a_l l.length c_l), (3, .pointer (some ⟨b3, 0, none⟩)), (5, .slice g.2.1 g.2.2.1 g.2.2.2), (6, .bool (F1 l (j7, f6) || (l.take g.1).any (ltF (j7, f6)))), (7, .int .i64 (↑g.1 : Int))]) (fun g => [ow j9 [.slice g.2.1 g.2.2.1 g.2.2.2] (F6 (F1 l (j7, f6)) (ltF (j7, f6)) (j7, f6) (l.take g.1)), pt b3 115 [.int .i64 j7, .slice r8 f6.length r7]]) (fun g => l.length - g.1) (0, (some ⟨b8, 0, none⟩), 0, 0) ⟨Nat.zero_le _, by simp⟩ ⟨rfl, rfl, rfl, frB (by first | rfl | (simp; done) | grind [y4, y8, y9, B8, B9, K7, d1, d2, t1, t2]), rfl, trivial⟩ (.refl _) (fun g pg => ?_)))))))))
  obtain ⟨g, aA0_0, mA0_0, cA0_0⟩ := g
  try dsimp only at pg
  try dsimp only
  obtain ⟨pk, pa⟩ := pg
  have jp := List.length_take_le g l
  have ji := a3K (h := F1 l (j7, f6)) (p := (ltF (j7, f6))) (f := (j7, f6)) (l := l.take g)
  refine Ent.lenow m0 fun eaA0_0 laA0_0 => ?_
  subst eaA0_0
  refine Eq_ (Ew Z4 (Emv rfl rfl (Emv rfl rfl (Ey rfl ((Y.len us_Facts rfl).yd) (Ey rfl ((Y.lss rfl rfl).yd) (Ent.d (fun q15 => ?_) (fun q15 => ?_)))))))
  ·refine Eu (E.ct rfl (E.skipc (Et (Eq_ (E.block (Eq_ (Eq_ (D.region (fun j => true) mixed (Dyp 0 rfl (Y.mv rfl) (Ent.b (fun q18 => ?_) (fun q18 => ?_)))))))))))
   ·refine Dyp 1 rfl (Y.not (b := true) rfl) (Dyp 2 rfl (Y.mv rfl) (Dsk 3 rfl (Dsk 4 rfl (Dsk 5 rfl (Dsk 6 rfl (Dsk 7 rfl (Dsk 8 rfl (Dsk 9 rfl (Dyp 10 rfl (Y.pkf rfl rfl) (D.done kr (Et (E.cf rfl (E.skipc (Et (D.region (fun j => !(Nat.beq j 13)) mixed (Dyp 0 rfl (Y.mv rfl) (Dyp 1 rfl (Y.mv rfl) (Dyp 2 rfl (Y.mv rfl) ?_))))))))))))))))))
    obtain ⟨eb40, eo40, ec40, ea40, er40, el40, eh40⟩ := hl.elem g om
    obtain ⟨xa40_0, xc40_0, rfl, ei40_0, xh40_0⟩ := Ro.pFact er40
    have := xh40_0.slen.2
    refine Dyp 3 rfl (Y.ix us_Facts ty_Fact rfl ea40 rfl g rfl om) (Dyp 4 rfl (Y.fld fo_Fact_0 f8 dc rfl) (Dy 5 rfl (Y.ld1 f8 rfl ((eh40 _).sub (cs' := [_]) 0 rfl) rfl) (Dyp 6 rfl (Y.mv rfl) (Dyp 7 rfl (Y.mv rfl) (Dyp 8 rfl (Y.ix us_Facts ty_Fact rfl ea40 rfl g rfl om) (Dyp 9 rfl (Y.fld fo_Fact_1 ty_Is dc rfl) (Dy 10 rfl (Y.ld1 ty_Is rfl ((eh40 _).sub (cs' := [_]) 1 rfl) rfl) (D.st 11 rfl rfl kr (fun _ => rfl) (N.call (I1 (hyl _ (List.getElem_mem om))) rfl rfl rfl dc rfl (fun w Lp hA => ⟨ei40_0, hA.ro xh40_0⟩)) (fun k48 _ => ?_)))))))))
    obtain ⟨a48, m48, c48⟩ := k48
    refine Ent.lenow m0 fun e48 l48 => ?_
    subst e48
    refine D.st 12 rfl rfl kr (fun _ => rfl) (N.bsl (pvs := [_]) (cs := [_, _]) us_Facts ty_Fact rfl dc dc (o8 rfl rfl) rfl dc) (fun b49 _ => (Ent.p1 (Ent.p1 (Ent.p2 (D.st 13 rfl rfl kr (fun h => by cases h) (N.push (E := B2) (ex := l[g]) us_Facts ty_Fact rfl rfl rfl (Own.mkFact (x := l[g]) ei40_0 Own.ow) rfl bn bn dc) (fun p50 _ => (Dyp 14 rfl (Y.as rfl) (D.done kr (E.bln (Et (Ez Z3 (Emv rfl rfl (Ey rfl ((Y.add rfl rfl om om).yd) (Eas rfl rfl (Eu (Ent.cv (congrArg (ow j9 [_]) (show (F6 (F1 l (j7, f6)) (ltF (j7, f6)) (j7, f6) (l.take g)) ++ [l[g]] = F6 (F1 l (j7, f6)) (ltF (j7, f6)) (j7, f6) (l.take (g + 1)) from by grind [y4, y8, y9, B8, B9, K7, d1, d2, t1, t2])) (Ent.p1 (Ent.p1 ?_))))))))))))))))))
    exact E.again br (g + 1, p50.1, ((F6 (F1 l (j7, f6)) (ltF (j7, f6)) (j7, f6) (l.take g)).length + 1), p50.2) ⟨rfl, rfl, rfl, frB (by grind [y4, y8, y9, B8, B9, K7, d1, d2, t1, t2]), rfl, trivial⟩ (.refl _) ⟨oz, trivial⟩ oz
   ·refine Dyp 1 rfl (Y.not (b := false) rfl) (Dyp 2 rfl (Y.mv rfl) (Dy 3 rfl (Y.ldS (cs := [_, _]) ty_Fact rfl (Has.pt (mS m0)) rfl) (Dyp 4 rfl (Y.mv rfl) (Dyp 5 rfl (Y.mv rfl) ?_))))
    obtain ⟨eb24, eo24, ec24, ea24, er24, el24, eh24⟩ := hl.elem g om
    obtain ⟨xa24_0, xc24_0, rfl, ei24_0, xh24_0⟩ := Ro.pFact er24
    have := xh24_0.slen.2
    refine Dyp 6 rfl (Y.ix us_Facts ty_Fact rfl ea24 rfl g rfl om) (Dy 7 rfl (Y.ldS (cs := [_, _]) ty_Fact rfl (eh24 _) rfl) (D.st 8 rfl rfl kr (fun _ => rfl) (N.call0 S8 rfl rfl rfl dc (fun w Lp hA => ⟨C9, hA.ro s4, ei24_0, hA.ro xh24_0⟩)) (fun _ _ => (Dyp 9 rfl (Y.lss rfl rfl) (Ent.d (fun q27 => ?_) (fun q27 => ?_))))))
    ·refine Dyp 10 rfl (Y.pkt rfl rfl) (D.done kr (Et (E.ct rfl (Ew Z9 (Emv rfl rfl (Ey rfl ((Y.fld fo_Fact_0 f8 dc rfl).yd) (Ey rfl (Y.ld1 f8 rfl ((Has.pt (mS m0)).sub (cs' := [_]) 0 rfl) rfl) (Ey rfl ((Y.fld fo_Fact_1 ty_Is dc rfl).yd) (Ey rfl (Y.ld1 ty_Is rfl ((Has.pt (mS m0)).sub (cs' := [_]) 1 rfl) rfl) (Est rfl (N.call (I1 fc) rfl rfl rfl dc rfl (fun w Lp hA => ⟨C9, hA.ro s4⟩)) (fun k34 _ => ?_)))))))))))
     obtain ⟨a34, m34, c34⟩ := k34
     refine Ent.lenow m0 fun e34 l34 => ?_
     subst e34
     refine Est rfl (N.bsl (pvs := [_]) (cs := [_, _]) us_Facts ty_Fact rfl dc dc (o8 rfl rfl) rfl dc) (fun b35 _ => (Ent.p1 (Ent.p1 (Ent.p2 (Est rfl (N.push (E := B2) (ex := (j7, f6)) us_Facts ty_Fact rfl rfl rfl (Own.mkFact (x := (j7, f6)) C9 Own.ow) rfl bn bn dc) (fun p36 _ => (Eas rfl rfl (Eu (Ez Z1 (Eas rfl rfl (Eu (D.region (fun j => !(Nat.beq j 13)) mixed (Dyp 0 rfl (Y.mv rfl) (Dyp 1 rfl (Y.mv rfl) (Dyp 2 rfl (Y.mv rfl) (Dyp 3 rfl (Y.ix us_Facts ty_Fact rfl ea24 rfl g rfl om) (Dyp 4 rfl (Y.fld fo_Fact_0 f8 dc rfl) (Dy 5 rfl (Y.ld1 f8 rfl ((eh24 _).sub (cs' := [_]) 0 rfl) rfl) (Dyp 6 rfl (Y.mv rfl) (Dyp 7 rfl (Y.mv rfl) (Dyp 8 rfl (Y.ix us_Facts ty_Fact rfl ea24 rfl g rfl om) (Dyp 9 rfl (Y.fld fo_Fact_1 ty_Is dc rfl) (Dy 10 rfl (Y.ld1 ty_Is rfl ((eh24 _).sub (cs' := [_]) 1 rfl) rfl) (D.st 11 rfl rfl kr (fun _ => rfl) (N.call (I1 (hyl _ (List.getElem_mem om))) rfl rfl rfl dc rfl (fun w Lp hA => ⟨ei24_0, hA.ro xh24_0⟩)) (fun k48 _ => ?_)))))))))))))))))))))))))
     obtain ⟨a48, m48, c48⟩ := k48
     refine Ent.lenow m0 fun e48 l48 => ?_
     subst e48
     refine D.st 12 rfl rfl kr (fun _ => rfl) (N.bsl (pvs := [_]) (cs := [_, _]) us_Facts ty_Fact rfl dc dc (o8 rfl rfl) rfl dc) (fun b49 _ => (Ent.p1 (Ent.p1 (Ent.p2 (D.st 13 rfl rfl kr (fun h => by cases h) (N.push (E := B2) (ex := l[g]) us_Facts ty_Fact rfl rfl rfl (Own.mkFact (x := l[g]) ei24_0 Own.ow) rfl bn bn dc) (fun p50 _ => (Dyp 14 rfl (Y.as rfl) (D.done kr (E.bln (Et (Ez Z3 (Emv rfl rfl (Ey rfl ((Y.add rfl rfl om om).yd) (Eas rfl rfl (Eu (Ent.cv (congrArg (ow j9 [_]) (show ((F6 (F1 l (j7, f6)) (ltF (j7, f6)) (j7, f6) (l.take g)) ++ [(j7, f6)]) ++ [l[g]] = F6 (F1 l (j7, f6)) (ltF (j7, f6)) (j7, f6) (l.take (g + 1)) from by grind [y4, y8, y9, B8, B9, K7, d1, d2, t1, t2])) (Ent.p1 (Ent.p1 ?_))))))))))))))))))
     exact E.again br (g + 1, p50.1, (((F6 (F1 l (j7, f6)) (ltF (j7, f6)) (j7, f6) (l.take g)).length + 1) + 1), p50.2) ⟨rfl, rfl, rfl, frB (by grind [y4, y8, y9, B8, B9, K7, d1, d2, t1, t2]), rfl, trivial⟩ (.refl _) ⟨oz, trivial⟩ oz
    ·refine Dyp 10 rfl (Y.pkt rfl rfl) (D.done kr (Et (E.cf rfl (E.skipc (Et (D.region (fun j => !(Nat.beq j 13)) mixed (Dyp 0 rfl (Y.mv rfl) (Dyp 1 rfl (Y.mv rfl) (Dyp 2 rfl (Y.mv rfl) (Dyp 3 rfl (Y.ix us_Facts ty_Fact rfl ea24 rfl g rfl om) (Dyp 4 rfl (Y.fld fo_Fact_0 f8 dc rfl) (Dy 5 rfl (Y.ld1 f8 rfl ((eh24 _).sub (cs' := [_]) 0 rfl) rfl) (Dyp 6 rfl (Y.mv rfl) (Dyp 7 rfl (Y.mv rfl) (Dyp 8 rfl (Y.ix us_Facts ty_Fact rfl ea24 rfl g rfl om) (Dyp 9 rfl (Y.fld fo_Fact_1 ty_Is dc rfl) (Dy 10 rfl (Y.ld1 ty_Is rfl ((eh24 _).sub (cs' := [_]) 1 rfl) rfl) (D.st 11 rfl rfl kr (fun _ => rfl) (N.call (I1 (hyl _ (List.getElem_mem om))) rfl rfl rfl dc rfl (fun w Lp hA => ⟨ei24_0, hA.ro xh24_0⟩)) (fun k48 _ => ?_)))))))))))))))))))
     obtain ⟨a48, m48, c48⟩ := k48
     refine Ent.lenow m0 fun e48 l48 => ?_
     subst e48
     refine D.st 12 rfl rfl kr (fun _ => rfl) (N.bsl (pvs := [_]) (cs := [_, _]) us_Facts ty_Fact rfl dc dc (o8 rfl rfl) rfl dc) (fun b49 _ => (Ent.p1 (Ent.p1 (Ent.p2 (D.st 13 rfl rfl kr (fun h => by cases h) (N.push (E := B2) (ex := l[g]) us_Facts ty_Fact rfl rfl rfl (Own.mkFact (x := l[g]) ei24_0 Own.ow) rfl bn bn dc) (fun p50 _ => (Dyp 14 rfl (Y.as rfl) (D.done kr (E.bln (Et (Ez Z3 (Emv rfl rfl (Ey rfl ((Y.add rfl rfl om om).yd) (Eas rfl rfl (Eu (Ent.cv (congrArg (ow j9 [_]) (show (F6 (F1 l (j7, f6)) (ltF (j7, f6)) (j7, f6) (l.take g)) ++ [l[g]] = F6 (F1 l (j7, f6)) (ltF (j7, f6)) (j7, f6) (l.take (g + 1)) from by grind [y4, y8, y9, B8, B9, K7, d1, d2, t1, t2])) (Ent.p1 (Ent.p1 ?_))))))))))))))))))
     exact E.again br (g + 1, p50.1, ((F6 (F1 l (j7, f6)) (ltF (j7, f6)) (j7, f6) (l.take g)).length + 1), p50.2) ⟨rfl, rfl, rfl, frB (by grind [y4, y8, y9, B8, B9, K7, d1, d2, t1, t2]), rfl, trivial⟩ (.refl _) ⟨oz, trivial⟩ oz
  ·refine Eu (E.cf rfl (E.exit (E.the (E.the (E.blh (Et (Eq_ (Ew Z2 (Emv rfl rfl (Ent.b (fun q51 => ?_) (fun q51 => ?_)))))))))))
   ·refine Ey rfl ((Y.not (b := true) rfl).yd) (Eu (E.cf rfl (E.skipc (Et (Ew Z2 (Emv rfl rfl (Eas rfl rfl (Eu (E.ret (Ent.cv (congrArg (ow j9 [_]) (show _ = y4 l (j7, f6) by grind [y4, y8, y9, B8, B9, K7, d1, d2, t1, t2])) ?_))))))))))
    exact Fg rfl rfl (_, _, _) rfl rfl
   ·refine Ey rfl ((Y.not (b := false) rfl).yd) (Eu (E.ct rfl (Ez Z9 (Emv rfl rfl (Ey rfl ((Y.fld fo_Fact_0 f8 dc rfl).yd) (Ey rfl (Y.ld1 f8 rfl ((Has.pt (mS m0)).sub (cs' := [_]) 0 rfl) rfl) (Ey rfl ((Y.fld fo_Fact_1 ty_Is dc rfl).yd) (Ey rfl (Y.ld1 ty_Is rfl ((Has.pt (mS m0)).sub (cs' := [_]) 1 rfl) rfl) (Est rfl (N.call (I1 fc) rfl rfl rfl dc rfl (fun w Lp hA => ⟨C9, hA.ro s4⟩)) (fun k58 _ => ?_))))))))))
    obtain ⟨a58, m58, c58⟩ := k58
    refine Ent.lenow m0 fun e58 l58 => ?_
    subst e58
    refine Est rfl (N.bsl (pvs := [_]) (cs := [_, _]) us_Facts ty_Fact rfl dc dc (o8 rfl rfl) rfl dc) (fun b59 _ => (Ent.p1 (Ent.p1 (Ent.p2 (Est rfl (N.push (E := B2) (ex := (j7, f6)) us_Facts ty_Fact rfl rfl rfl (Own.mkFact (x := (j7, f6)) C9 Own.ow) rfl bn bn dc) (fun p60 _ => (Eas rfl rfl (Ev Z2 (Emv rfl rfl (Eas rfl rfl (Eu (E.ret (Ent.cv (congrArg (ow j9 [_]) (show _ = y4 l (j7, f6) by grind [y4, y8, y9, B8, B9, K7, d1, d2, t1, t2])) ?_)))))))))))))
    exact Fg rfl rfl (_, _, _) rfl rfl
 ·refine Eu (Eq_ (Ew Z1 (Eas rfl rfl (Eu (E.block (Ent.mkow (A := []) (Own.nil (E := B2) (e := tFact) (a := (some ⟨b8, 0, none⟩))) rfl (Ent.cv (congrArg (ow j9 [_]) (show [] = F6 (F1 l (j7, f6)) (ltF (j7, f6)) (j7, f6) (l.take 0) from by first | rfl | (simp; done) | grind [y4, y8, y9, B8, B9, K7, d1, d2, t1, t2])) (E.loop (κ := Nat × Option Addr × Nat × Nat) (fun g => g.1 ≤ l.length ∧ True) (fun g => [(0, .slice a_l l.length c_l), (3, .pointer (some ⟨b3, 0, none⟩)), (5, .slice g.2.1 g.2.2.1 g.2.2.2), (6, .bool (F1 l (j7, f6) || (l.take g.1).any (ltF (j7, f6)))), (7, .int .i64 (↑g.1 : Int))]) (fun g => [ow j9 [.slice g.2.1 g.2.2.1 g.2.2.2] (F6 (F1 l (j7, f6)) (ltF (j7, f6)) (j7, f6) (l.take g.1)), pt b3 115 [.int .i64 j7, .slice r8 f6.length r7]]) (fun g => l.length - g.1) (0, (some ⟨b8, 0, none⟩), 0, 0) ⟨Nat.zero_le _, by simp⟩ ⟨rfl, rfl, rfl, frB (by first | rfl | (simp; done) | grind [y4, y8, y9, B8, B9, K7, d1, d2, t1, t2]), rfl, trivial⟩ (.refl _) (fun g pg => ?_)))))))))
  obtain ⟨g, aA0_0, mA0_0, cA0_0⟩ := g
  try dsimp only at pg
  try dsimp only
  obtain ⟨pk, pa⟩ := pg
  have jp := List.length_take_le g l
  have ji := a3K (h := F1 l (j7, f6)) (p := (ltF (j7, f6))) (f := (j7, f6)) (l := l.take g)
  refine Ent.lenow m0 fun eaA0_0 laA0_0 => ?_
  subst eaA0_0
  refine Eq_ (Ew Z4 (Emv rfl rfl (Emv rfl rfl (Ey rfl ((Y.len us_Facts rfl).yd) (Ey rfl ((Y.lss rfl rfl).yd) (Ent.d (fun q15 => ?_) (fun q15 => ?_)))))))
  ·refine Eu (E.ct rfl (E.skipc (Et (Eq_ (E.block (Eq_ (Eq_ (D.region (fun j => true) mixed (Dyp 0 rfl (Y.mv rfl) (Ent.b (fun q18 => ?_) (fun q18 => ?_)))))))))))
   ·refine Dyp 1 rfl (Y.not (b := true) rfl) (Dyp 2 rfl (Y.mv rfl) (Dsk 3 rfl (Dsk 4 rfl (Dsk 5 rfl (Dsk 6 rfl (Dsk 7 rfl (Dsk 8 rfl (Dsk 9 rfl (Dyp 10 rfl (Y.pkf rfl rfl) (D.done kr (Et (E.cf rfl (E.skipc (Et (D.region (fun j => !(Nat.beq j 13)) mixed (Dyp 0 rfl (Y.mv rfl) (Dyp 1 rfl (Y.mv rfl) (Dyp 2 rfl (Y.mv rfl) ?_))))))))))))))))))
    obtain ⟨eb40, eo40, ec40, ea40, er40, el40, eh40⟩ := hl.elem g om
    obtain ⟨xa40_0, xc40_0, rfl, ei40_0, xh40_0⟩ := Ro.pFact er40
    have := xh40_0.slen.2
    refine Dyp 3 rfl (Y.ix us_Facts ty_Fact rfl ea40 rfl g rfl om) (Dyp 4 rfl (Y.fld fo_Fact_0 f8 dc rfl) (Dy 5 rfl (Y.ld1 f8 rfl ((eh40 _).sub (cs' := [_]) 0 rfl) rfl) (Dyp 6 rfl (Y.mv rfl) (Dyp 7 rfl (Y.mv rfl) (Dyp 8 rfl (Y.ix us_Facts ty_Fact rfl ea40 rfl g rfl om) (Dyp 9 rfl (Y.fld fo_Fact_1 ty_Is dc rfl) (Dy 10 rfl (Y.ld1 ty_Is rfl ((eh40 _).sub (cs' := [_]) 1 rfl) rfl) (D.st 11 rfl rfl kr (fun _ => rfl) (N.call (I1 (hyl _ (List.getElem_mem om))) rfl rfl rfl dc rfl (fun w Lp hA => ⟨ei40_0, hA.ro xh40_0⟩)) (fun k48 _ => ?_)))))))))
    obtain ⟨a48, m48, c48⟩ := k48
    refine Ent.lenow m0 fun e48 l48 => ?_
    subst e48
    refine D.st 12 rfl rfl kr (fun _ => rfl) (N.bsl (pvs := [_]) (cs := [_, _]) us_Facts ty_Fact rfl dc dc (o8 rfl rfl) rfl dc) (fun b49 _ => (Ent.p1 (Ent.p1 (Ent.p2 (D.st 13 rfl rfl kr (fun h => by cases h) (N.push (E := B2) (ex := l[g]) us_Facts ty_Fact rfl rfl rfl (Own.mkFact (x := l[g]) ei40_0 Own.ow) rfl bn bn dc) (fun p50 _ => (Dyp 14 rfl (Y.as rfl) (D.done kr (E.bln (Et (Ez Z3 (Emv rfl rfl (Ey rfl ((Y.add rfl rfl om om).yd) (Eas rfl rfl (Eu (Ent.cv (congrArg (ow j9 [_]) (show (F6 (F1 l (j7, f6)) (ltF (j7, f6)) (j7, f6) (l.take g)) ++ [l[g]] = F6 (F1 l (j7, f6)) (ltF (j7, f6)) (j7, f6) (l.take (g + 1)) from by grind [y4, y8, y9, B8, B9, K7, d1, d2, t1, t2])) (Ent.p1 (Ent.p1 ?_))))))))))))))))))
    exact E.again br (g + 1, p50.1, ((F6 (F1 l (j7, f6)) (ltF (j7, f6)) (j7, f6) (l.take g)).length + 1), p50.2) ⟨rfl, rfl, rfl, frB (by grind [y4, y8, y9, B8, B9, K7, d1, d2, t1, t2]), rfl, trivial⟩ (.refl _) ⟨oz, trivial⟩ oz
   ·refine Dyp 1 rfl (Y.not (b := false) rfl) (Dyp 2 rfl (Y.mv rfl) (Dy 3 rfl (Y.ldS (cs := [_, _]) ty_Fact rfl (Has.pt (mS m0)) rfl) (Dyp 4 rfl (Y.mv rfl) (Dyp 5 rfl (Y.mv rfl) ?_))))
    obtain ⟨eb24, eo24, ec24, ea24, er24, el24, eh24⟩ := hl.elem g om
    obtain ⟨xa24_0, xc24_0, rfl, ei24_0, xh24_0⟩ := Ro.pFact er24
    have := xh24_0.slen.2
    refine Dyp 6 rfl (Y.ix us_Facts ty_Fact rfl ea24 rfl g rfl om) (Dy 7 rfl (Y.ldS (cs := [_, _]) ty_Fact rfl (eh24 _) rfl) (D.st 8 rfl rfl kr (fun _ => rfl) (N.call0 S8 rfl rfl rfl dc (fun w Lp hA => ⟨C9, hA.ro s4, ei24_0, hA.ro xh24_0⟩)) (fun _ _ => (Dyp 9 rfl (Y.lss rfl rfl) (Ent.d (fun q27 => ?_) (fun q27 => ?_))))))
    ·refine Dyp 10 rfl (Y.pkt rfl rfl) (D.done kr (Et (E.ct rfl (Ew Z9 (Emv rfl rfl (Ey rfl ((Y.fld fo_Fact_0 f8 dc rfl).yd) (Ey rfl (Y.ld1 f8 rfl ((Has.pt (mS m0)).sub (cs' := [_]) 0 rfl) rfl) (Ey rfl ((Y.fld fo_Fact_1 ty_Is dc rfl).yd) (Ey rfl (Y.ld1 ty_Is rfl ((Has.pt (mS m0)).sub (cs' := [_]) 1 rfl) rfl) (Est rfl (N.call (I1 fc) rfl rfl rfl dc rfl (fun w Lp hA => ⟨C9, hA.ro s4⟩)) (fun k34 _ => ?_)))))))))))
     obtain ⟨a34, m34, c34⟩ := k34
     refine Ent.lenow m0 fun e34 l34 => ?_
     subst e34
     refine Est rfl (N.bsl (pvs := [_]) (cs := [_, _]) us_Facts ty_Fact rfl dc dc (o8 rfl rfl) rfl dc) (fun b35 _ => (Ent.p1 (Ent.p1 (Ent.p2 (Est rfl (N.push (E := B2) (ex := (j7, f6)) us_Facts ty_Fact rfl rfl rfl (Own.mkFact (x := (j7, f6)) C9 Own.ow) rfl bn bn dc) (fun p36 _ => (Eas rfl rfl (Eu (Ez Z1 (Eas rfl rfl (Eu (D.region (fun j => !(Nat.beq j 13)) mixed (Dyp 0 rfl (Y.mv rfl) (Dyp 1 rfl (Y.mv rfl) (Dyp 2 rfl (Y.mv rfl) (Dyp 3 rfl (Y.ix us_Facts ty_Fact rfl ea24 rfl g rfl om) (Dyp 4 rfl (Y.fld fo_Fact_0 f8 dc rfl) (Dy 5 rfl (Y.ld1 f8 rfl ((eh24 _).sub (cs' := [_]) 0 rfl) rfl) (Dyp 6 rfl (Y.mv rfl) (Dyp 7 rfl (Y.mv rfl) (Dyp 8 rfl (Y.ix us_Facts ty_Fact rfl ea24 rfl g rfl om) (Dyp 9 rfl (Y.fld fo_Fact_1 ty_Is dc rfl) (Dy 10 rfl (Y.ld1 ty_Is rfl ((eh24 _).sub (cs' := [_]) 1 rfl) rfl) (D.st 11 rfl rfl kr (fun _ => rfl) (N.call (I1 (hyl _ (List.getElem_mem om))) rfl rfl rfl dc rfl (fun w Lp hA => ⟨ei24_0, hA.ro xh24_0⟩)) (fun k48 _ => ?_)))))))))))))))))))))))))
     obtain ⟨a48, m48, c48⟩ := k48
     refine Ent.lenow m0 fun e48 l48 => ?_
     subst e48
     refine D.st 12 rfl rfl kr (fun _ => rfl) (N.bsl (pvs := [_]) (cs := [_, _]) us_Facts ty_Fact rfl dc dc (o8 rfl rfl) rfl dc) (fun b49 _ => (Ent.p1 (Ent.p1 (Ent.p2 (D.st 13 rfl rfl kr (fun h => by cases h) (N.push (E := B2) (ex := l[g]) us_Facts ty_Fact rfl rfl rfl (Own.mkFact (x := l[g]) ei24_0 Own.ow) rfl bn bn dc) (fun p50 _ => (Dyp 14 rfl (Y.as rfl) (D.done kr (E.bln (Et (Ez Z3 (Emv rfl rfl (Ey rfl ((Y.add rfl rfl om om).yd) (Eas rfl rfl (Eu (Ent.cv (congrArg (ow j9 [_]) (show ((F6 (F1 l (j7, f6)) (ltF (j7, f6)) (j7, f6) (l.take g)) ++ [(j7, f6)]) ++ [l[g]] = F6 (F1 l (j7, f6)) (ltF (j7, f6)) (j7, f6) (l.take (g + 1)) from by grind [y4, y8, y9, B8, B9, K7, d1, d2, t1, t2])) (Ent.p1 (Ent.p1 ?_))))))))))))))))))
     exact E.again br (g + 1, p50.1, (((F6 (F1 l (j7, f6)) (ltF (j7, f6)) (j7, f6) (l.take g)).length + 1) + 1), p50.2) ⟨rfl, rfl, rfl, frB (by grind [y4, y8, y9, B8, B9, K7, d1, d2, t1, t2]), rfl, trivial⟩ (.refl _) ⟨oz, trivial⟩ oz
    ·refine Dyp 10 rfl (Y.pkt rfl rfl) (D.done kr (Et (E.cf rfl (E.skipc (Et (D.region (fun j => !(Nat.beq j 13)) mixed (Dyp 0 rfl (Y.mv rfl) (Dyp 1 rfl (Y.mv rfl) (Dyp 2 rfl (Y.mv rfl) (Dyp 3 rfl (Y.ix us_Facts ty_Fact rfl ea24 rfl g rfl om) (Dyp 4 rfl (Y.fld fo_Fact_0 f8 dc rfl) (Dy 5 rfl (Y.ld1 f8 rfl ((eh24 _).sub (cs' := [_]) 0 rfl) rfl) (Dyp 6 rfl (Y.mv rfl) (Dyp 7 rfl (Y.mv rfl) (Dyp 8 rfl (Y.ix us_Facts ty_Fact rfl ea24 rfl g rfl om) (Dyp 9 rfl (Y.fld fo_Fact_1 ty_Is dc rfl) (Dy 10 rfl (Y.ld1 ty_Is rfl ((eh24 _).sub (cs' := [_]) 1 rfl) rfl) (D.st 11 rfl rfl kr (fun _ => rfl) (N.call (I1 (hyl _ (List.getElem_mem om))) rfl rfl rfl dc rfl (fun w Lp hA => ⟨ei24_0, hA.ro xh24_0⟩)) (fun k48 _ => ?_)))))))))))))))))))
     obtain ⟨a48, m48, c48⟩ := k48
     refine Ent.lenow m0 fun e48 l48 => ?_
     subst e48
     refine D.st 12 rfl rfl kr (fun _ => rfl) (N.bsl (pvs := [_]) (cs := [_, _]) us_Facts ty_Fact rfl dc dc (o8 rfl rfl) rfl dc) (fun b49 _ => (Ent.p1 (Ent.p1 (Ent.p2 (D.st 13 rfl rfl kr (fun h => by cases h) (N.push (E := B2) (ex := l[g]) us_Facts ty_Fact rfl rfl rfl (Own.mkFact (x := l[g]) ei24_0 Own.ow) rfl bn bn dc) (fun p50 _ => (Dyp 14 rfl (Y.as rfl) (D.done kr (E.bln (Et (Ez Z3 (Emv rfl rfl (Ey rfl ((Y.add rfl rfl om om).yd) (Eas rfl rfl (Eu (Ent.cv (congrArg (ow j9 [_]) (show (F6 (F1 l (j7, f6)) (ltF (j7, f6)) (j7, f6) (l.take g)) ++ [l[g]] = F6 (F1 l (j7, f6)) (ltF (j7, f6)) (j7, f6) (l.take (g + 1)) from by grind [y4, y8, y9, B8, B9, K7, d1, d2, t1, t2])) (Ent.p1 (Ent.p1 ?_))))))))))))))))))
     exact E.again br (g + 1, p50.1, ((F6 (F1 l (j7, f6)) (ltF (j7, f6)) (j7, f6) (l.take g)).length + 1), p50.2) ⟨rfl, rfl, rfl, frB (by grind [y4, y8, y9, B8, B9, K7, d1, d2, t1, t2]), rfl, trivial⟩ (.refl _) ⟨oz, trivial⟩ oz
  ·refine Eu (E.cf rfl (E.exit (E.the (E.the (E.blh (Et (Eq_ (Ew Z2 (Emv rfl rfl (Ent.b (fun q51 => ?_) (fun q51 => ?_)))))))))))
   ·refine Ey rfl ((Y.not (b := true) rfl).yd) (Eu (E.cf rfl (E.skipc (Et (Ew Z2 (Emv rfl rfl (Eas rfl rfl (Eu (E.ret (Ent.cv (congrArg (ow j9 [_]) (show _ = y4 l (j7, f6) by grind [y4, y8, y9, B8, B9, K7, d1, d2, t1, t2])) ?_))))))))))
    exact Fg rfl rfl (_, _, _) rfl rfl
   ·refine Ey rfl ((Y.not (b := false) rfl).yd) (Eu (E.ct rfl (Ez Z9 (Emv rfl rfl (Ey rfl ((Y.fld fo_Fact_0 f8 dc rfl).yd) (Ey rfl (Y.ld1 f8 rfl ((Has.pt (mS m0)).sub (cs' := [_]) 0 rfl) rfl) (Ey rfl ((Y.fld fo_Fact_1 ty_Is dc rfl).yd) (Ey rfl (Y.ld1 ty_Is rfl ((Has.pt (mS m0)).sub (cs' := [_]) 1 rfl) rfl) (Est rfl (N.call (I1 fc) rfl rfl rfl dc rfl (fun w Lp hA => ⟨C9, hA.ro s4⟩)) (fun k58 _ => ?_))))))))))
    obtain ⟨a58, m58, c58⟩ := k58
    refine Ent.lenow m0 fun e58 l58 => ?_
    subst e58
    refine Est rfl (N.bsl (pvs := [_]) (cs := [_, _]) us_Facts ty_Fact rfl dc dc (o8 rfl rfl) rfl dc) (fun b59 _ => (Ent.p1 (Ent.p1 (Ent.p2 (Est rfl (N.push (E := B2) (ex := (j7, f6)) us_Facts ty_Fact rfl rfl rfl (Own.mkFact (x := (j7, f6)) C9 Own.ow) rfl bn bn dc) (fun p60 _ => (Eas rfl rfl (Ev Z2 (Emv rfl rfl (Eas rfl rfl (Eu (E.ret (Ent.cv (congrArg (ow j9 [_]) (show _ = y4 l (j7, f6) by grind [y4, y8, y9, B8, B9, K7, d1, d2, t1, t2])) ?_)))))))))))))
    exact Fg rfl rfl (_, _, _) rfl rfl
theorem a4B : Tr Tryz.prog 73 [.slice a_s m_s c_s, .slice a_l m_l c_l] (fun w L => Ro w L eIs [.slice a_s m_s c_s] s ∧ Ro w L j9 [.slice a_l m_l c_l] l) [] (κ := Unit) (fun k => True) (fun k => .bool (C5 s l)) (fun k => []) := by
 refine Tr.intro Tryz.func73 rfl (n := 40) rfl (by decide +kernel) bl (fr := [(0, .slice a_s m_s c_s), (1, .slice a_l m_l c_l)]) rfl fun w L hR => ?_
 obtain ⟨hs, hl⟩ := hR
 obtain ⟨rfl, ls⟩ := hs.slen
 obtain ⟨rfl, ll⟩ := hl.slen
 refine Ew Z1 (Eas rfl rfl (Eu (Eq_ (Ew Z3 (Emv rfl rfl (Ey rfl ((Y.len us_Facts rfl).yd) (Emv rfl rfl (Eu (E.block (E.loop (κ := Nat) (fun g => g ≤ l.length ∧ X2 s l 0 = X2 s l g) (fun g => [(0, .slice a_s s.length c_s), (1, .slice a_l l.length c_l), (7, .slice a_l l.length c_l), (8, .int .i64 (↑l.length : Int)), (9, .int .i64 (g : Int))]) (fun g => []) (fun g => l.length - g) 0 ⟨Nat.zero_le _, by simp⟩ ⟨rfl, rfl, rfl, rfl, rfl, trivial⟩ (.refl _) (fun g pg => ?_)))))))))))
 obtain ⟨pk, pa⟩ := pg
 refine Ew Z1 (Ey rfl ((Y.lss rfl rfl).yd) (Ent.d (fun q10 => ?_) (fun q10 => ?_)))
 ·refine Eu (Eq_ (E.ct rfl (E.skipc (Et (Eq_ (E.block (Ew Z6 (Emv rfl rfl ?_))))))))
  obtain ⟨eb12, eo12, ec12, ea12, er12, el12, eh12⟩ := hl.elem g om
  obtain ⟨xa12_0, xc12_0, rfl, ei12_0, xh12_0⟩ := Ro.pFact er12
  have := xh12_0.slen.2
  refine Ey rfl ((Y.ix us_Facts ty_Fact rfl ea12 rfl g rfl om).yd) (Ey rfl (Y.ldS (cs := [_, _]) ty_Fact rfl (eh12 _) rfl) (Est rfl (N.alloc ty_Fact dc) (fun b6 _ => (Eas rfl rfl (Est rfl (N.sto (vs := [_, _]) (cs' := [_, _]) ty_Fact rfl rfl rfl rfl rfl bl rfl) (fun _ _ => (Eu (Eq_ (D.region (fun j => true) mixed (Dyp 0 rfl (Y.mv rfl) (Dy 1 rfl (Y.ldS (cs := [_, _]) ty_Fact rfl (Has.pt m0) rfl) (D.st 2 rfl rfl kr (fun _ => rfl) (N.call0 a6R rfl rfl rfl dc (fun w Lp hA => ⟨hA.ro hs, ei12_0, hA.ro xh12_0⟩)) (fun _ _ => (Ent.b (fun q16 => ?_) (fun q16 => ?_)))))))))))))))
  ·refine Dyp 3 rfl (Y.not (b := true) rfl) (Dyp 4 rfl (Y.mv rfl) (Dyp 5 rfl (Y.mv rfl) (Dyp 6 rfl (Y.gtr rfl rfl) (Ent.d (fun q20 => ?_) (fun q20 => ?_)))))
   ·refine Dyp 7 rfl (Y.mv rfl) (Dyp 8 rfl (Y.mv rfl) (Dyp 9 rfl (Y.mv rfl) (Dyp 10 rfl (Y.sub rfl rfl om om) ?_)))
    obtain ⟨eb25, eo25, ec25, ea25, er25, el25, eh25⟩ := hl.elem (g - 1) om
    obtain ⟨xa25_0, xc25_0, rfl, ei25_0, xh25_0⟩ := Ro.pFact er25
    have := xh25_0.slen.2
    refine Dyp 11 rfl (Y.ix us_Facts ty_Fact rfl ea25 rfl (g - 1) om om) (Dy 12 rfl (Y.ldS (cs := [_, _]) ty_Fact rfl (eh25 _) rfl) (Dy 13 rfl (Y.ldS (cs := [_, _]) ty_Fact rfl (Has.pt m0) rfl) (D.st 14 rfl rfl kr (fun _ => rfl) (N.call0 Y2 rfl rfl rfl dc (fun w Lp hA => ⟨ei25_0, hA.ro xh25_0, ei12_0, hA.ro xh12_0⟩)) (fun _ _ => (Dyp 15 rfl (Y.geq rfl rfl) (Ent.d (fun q29 => ?_) (fun q29 => ?_)))))))
    ·refine Dyp 16 rfl (Y.pkt rfl rfl) (Dyp 17 rfl (Y.pkf rfl rfl) (D.done kr (Et (E.ct rfl (Ew Z1 (Eas rfl rfl ?_))))))
     exact Eu (E.ret (E.blr (E.thr (E.thr (E.blr (E.thr (Fb rfl rfl (by grind [C5, X2, C4, C2, C8, ltF, d1, d2, t1, t2]))))))))
    ·refine Dyp 16 rfl (Y.pkt rfl rfl) (Dyp 17 rfl (Y.pkf rfl rfl) (D.done kr (Et (E.cf rfl (E.skipc (E.bln (Et (Ez Z2 (Ey rfl ((Y.add rfl rfl om om).yd) (Emv rfl rfl (Eu (Ent.drop ?_))))))))))))
     exact E.again br (g + 1) rs (.refl _) ⟨by omega, by grind [X2, C4, C2, C8, ltF, Bool.and_assoc, d1, d2, t1, t2]⟩ om
   ·refine Dyp 7 rfl (Y.mv rfl) (Dsk 8 rfl (Dsk 9 rfl (Dsk 10 rfl (Dsk 11 rfl (Dsk 12 rfl (Dsk 13 rfl (Dsk 14 rfl (Dsk 15 rfl (Dyp 16 rfl (Y.pkf rfl rfl) (Dyp 17 rfl (Y.pkf rfl rfl) (D.done kr (Et (E.cf rfl (E.skipc (E.bln (Et (Ez Z2 (Ey rfl ((Y.add rfl rfl om om).yd) (Emv rfl rfl (Eu (Ent.drop ?_)))))))))))))))))))))
    exact E.again br (g + 1) rs (.refl _) ⟨by omega, by grind [X2, C4, C2, C8, ltF, Bool.and_assoc, d1, d2, t1, t2]⟩ om
  ·refine Dyp 3 rfl (Y.not (b := false) rfl) (Dyp 4 rfl (Y.mv rfl) (Dsk 5 rfl (Dsk 6 rfl (D.sku 7 rfl rfl dc kr (Dsk 8 rfl (Dsk 9 rfl (Dsk 10 rfl (Dsk 11 rfl (Dsk 12 rfl (Dsk 13 rfl (Dsk 14 rfl (Dsk 15 rfl (Dsk 16 rfl (Dyp 17 rfl (Y.pkt rfl rfl) (D.done kr (Et (E.ct rfl (Ew Z1 (Eas rfl rfl ?_)))))))))))))))))))
   exact Eu (E.ret (E.blr (E.thr (E.thr (E.blr (E.thr (Fb rfl rfl (by grind [C5, X2, C4, C2, C8, ltF, d1, d2, t1, t2]))))))))
 ·refine Eu (Eq_ (E.cf rfl (E.exit (E.the (E.the (E.blh (Et (Ew Z8 (Emv rfl rfl (Est rfl (N.call0 Y4 rfl rfl rfl dc (fun w Lp hA => hA.ro hs)) (fun _ _ => (Ent.b (fun q34 => ?_) (fun q34 => ?_)))))))))))))
  ·refine Emv rfl rfl (Emv rfl rfl (Ey rfl ((Y.len us_Facts rfl).yd) (Ey rfl ((Y.leq rfl rfl).yd) (Ey rfl ((Y.pkt rfl rfl).yd) (Eas rfl rfl ?_)))))
   exact Eu (E.ret (Fb rfl rfl (by grind [C5, X2, C4, C2, C8, ltF, d1, d2, t1, t2])))
  ·refine Emv rfl rfl (Es rfl (Es rfl (Es rfl (Ey rfl ((Y.pkf rfl rfl).yd) (Eas rfl rfl ?_)))))
   exact Eu (E.ret (Fb rfl rfl (by grind [C5, X2, C4, C2, C8, ltF, d1, d2, t1, t2])))
theorem a1x : Tr Tryz.prog 64 [.slice a_s m_s c_s, .slice a_l m_l c_l] (fun w L => Ro w L eIs [.slice a_s m_s c_s] s ∧ Ro w L j9 [.slice a_l m_l c_l] l) [] (κ := Unit) (fun k => True) (fun k => .bool (C5 s l)) (fun k => []) := by
 refine Tr.intro Tryz.func64 rfl (n := 43) rfl (by decide +kernel) bl (fr := [(0, .slice a_s m_s c_s), (1, .slice a_l m_l c_l)]) rfl fun w L hR => ?_
 obtain ⟨hs, hl⟩ := hR
 obtain ⟨rfl, ls⟩ := hs.slen
 obtain ⟨rfl, ll⟩ := hl.slen
 refine Ew Z1 (Eas rfl rfl (Eu (Eq_ (Ew Z1 (Eas rfl rfl (Eu (E.block (E.loop (κ := Nat) (fun g => g ≤ l.length ∧ X2 s l 0 = X2 s l g) (fun g => [(0, .slice a_s s.length c_s), (1, .slice a_l l.length c_l), (5, .int .i64 (g : Int))]) (fun g => []) (fun g => l.length - g) 0 ⟨Nat.zero_le _, by simp⟩ ⟨rfl, rfl, rfl, trivial⟩ (.refl _) (fun g pg => ?_)))))))))
 obtain ⟨pk, pa⟩ := pg
 refine Eq_ (Ew Z4 (Emv rfl rfl (Emv rfl rfl (Ey rfl ((Y.len us_Facts rfl).yd) (Ey rfl ((Y.lss rfl rfl).yd) (Ent.d (fun q9 => ?_) (fun q9 => ?_)))))))
 ·refine Eu (E.ct rfl (E.skipc (Et (Eq_ (E.block (Eq_ (D.region (fun j => true) mixed (Dyp 0 rfl (Y.mv rfl) (Dyp 1 rfl (Y.mv rfl) (Dyp 2 rfl (Y.mv rfl) ?_))))))))))
  obtain ⟨eb15, eo15, ec15, ea15, er15, el15, eh15⟩ := hl.elem g om
  obtain ⟨xa15_0, xc15_0, rfl, ei15_0, xh15_0⟩ := Ro.pFact er15
  have := xh15_0.slen.2
  refine Dyp 3 rfl (Y.ix us_Facts ty_Fact rfl ea15 rfl g rfl om) (Dy 4 rfl (Y.ldS (cs := [_, _]) ty_Fact rfl (eh15 _) rfl) (D.st 5 rfl rfl kr (fun _ => rfl) (N.call0 a6O rfl rfl rfl dc (fun w Lp hA => ⟨hA.ro hs, ei15_0, hA.ro xh15_0⟩)) (fun _ _ => (Ent.b (fun q17 => ?_) (fun q17 => ?_)))))
  ·refine Dyp 6 rfl (Y.not (b := true) rfl) (Dyp 7 rfl (Y.mv rfl) (Dyp 8 rfl (Y.mv rfl) (Dyp 9 rfl (Y.gtr rfl rfl) (Ent.d (fun q21 => ?_) (fun q21 => ?_)))))
   ·refine Dyp 10 rfl (Y.mv rfl) (Dyp 11 rfl (Y.mv rfl) (Dyp 12 rfl (Y.mv rfl) (Dyp 13 rfl (Y.sub rfl rfl om om) ?_)))
    obtain ⟨eb26, eo26, ec26, ea26, er26, el26, eh26⟩ := hl.elem (g - 1) om
    obtain ⟨xa26_0, xc26_0, rfl, ei26_0, xh26_0⟩ := Ro.pFact er26
    have := xh26_0.slen.2
    refine Dyp 14 rfl (Y.ix us_Facts ty_Fact rfl ea26 rfl (g - 1) om om) (Dy 15 rfl (Y.ldS (cs := [_, _]) ty_Fact rfl (eh26 _) rfl) (Dyp 16 rfl (Y.mv rfl) (Dyp 17 rfl (Y.mv rfl) (Dyp 18 rfl (Y.ix us_Facts ty_Fact rfl ea15 rfl g rfl om) (Dy 19 rfl (Y.ldS (cs := [_, _]) ty_Fact rfl (eh15 _) rfl) (D.st 20 rfl rfl kr (fun _ => rfl) (N.call0 S8 rfl rfl rfl dc (fun w Lp hA => ⟨ei26_0, hA.ro xh26_0, ei15_0, hA.ro xh15_0⟩)) (fun _ _ => (Dyp 21 rfl (Y.geq rfl rfl) (Ent.d (fun q33 => ?_) (fun q33 => ?_))))))))))
    ·refine Dyp 22 rfl (Y.pkt rfl rfl) (Dyp 23 rfl (Y.pkf rfl rfl) (D.done kr (Et (E.ct rfl (Ew Z1 (Eas rfl rfl ?_))))))
     exact Eu (E.ret (E.blr (E.thr (E.thr (E.blr (E.thr (Fb rfl rfl (by grind [C5, X2, C4, C2, C8, ltF, d1, d2, t1, t2]))))))))
    ·refine Dyp 22 rfl (Y.pkt rfl rfl) (Dyp 23 rfl (Y.pkf rfl rfl) (D.done kr (Et (E.cf rfl (E.skipc (E.bln (Et (Ez Z3 (Emv rfl rfl (Ey rfl ((Y.add rfl rfl om om).yd) (Eas rfl rfl ?_)))))))))))
     exact Eu (E.again br (g + 1) rs (.refl _) ⟨by omega, by grind [X2, C4, C2, C8, ltF, Bool.and_assoc, d1, d2, t1, t2]⟩ om)
   ·refine Dyp 10 rfl (Y.mv rfl) (Dsk 11 rfl (Dsk 12 rfl (Dsk 13 rfl (Dsk 14 rfl (Dsk 15 rfl (Dsk 16 rfl (Dsk 17 rfl (Dsk 18 rfl (Dsk 19 rfl (Dsk 20 rfl (Dsk 21 rfl (Dyp 22 rfl (Y.pkf rfl rfl) (Dyp 23 rfl (Y.pkf rfl rfl) (D.done kr (Et (E.cf rfl (E.skipc (E.bln (Et (Ez Z3 (Emv rfl rfl (Ey rfl ((Y.add rfl rfl om om).yd) (Eas rfl rfl ?_)))))))))))))))))))))))
    exact Eu (E.again br (g + 1) rs (.refl _) ⟨by omega, by grind [X2, C4, C2, C8, ltF, Bool.and_assoc, d1, d2, t1, t2]⟩ om)
  ·refine Dyp 6 rfl (Y.not (b := false) rfl) (Dyp 7 rfl (Y.mv rfl) (Dsk 8 rfl (Dsk 9 rfl (D.sku 10 rfl rfl dc kr (Dsk 11 rfl (Dsk 12 rfl (Dsk 13 rfl (Dsk 14 rfl (Dsk 15 rfl (Dsk 16 rfl (Dsk 17 rfl (Dsk 18 rfl (Dsk 19 rfl (Dsk 20 rfl (Dsk 21 rfl (Dsk 22 rfl (Dyp 23 rfl (Y.pkt rfl rfl) (D.done kr (Et (E.ct rfl (Ew Z1 (Eas rfl rfl ?_))))))))))))))))))))))
   exact Eu (E.ret (E.blr (E.thr (E.thr (E.blr (E.thr (Fb rfl rfl (by grind [C5, X2, C4, C2, C8, ltF, d1, d2, t1, t2]))))))))
 ·refine Eu (E.cf rfl (E.exit (E.the (E.the (E.blh (Et (Ew Z8 (Emv rfl rfl (Est rfl (N.call0 P7 rfl rfl rfl dc (fun w Lp hA => hA.ro hs)) (fun _ _ => (Ent.b (fun q37 => ?_) (fun q37 => ?_))))))))))))
  ·refine Emv rfl rfl (Emv rfl rfl (Ey rfl ((Y.len us_Facts rfl).yd) (Ey rfl ((Y.leq rfl rfl).yd) (Ey rfl ((Y.pkt rfl rfl).yd) (Eas rfl rfl ?_)))))
   exact Eu (E.ret (Fb rfl rfl (by grind [C5, X2, C4, C2, C8, ltF, d1, d2, t1, t2])))
  ·refine Emv rfl rfl (Es rfl (Es rfl (Es rfl (Ey rfl ((Y.pkf rfl rfl).yd) (Eas rfl rfl ?_)))))
   exact Eu (E.ret (Fb rfl rfl (by grind [C5, X2, C4, C2, C8, ltF, d1, d2, t1, t2])))
end Go.Proofs.YtdopeopehgdccaaGreat
