import Derived.Test.YtfnbilpemdgkkaaGreatDoorT12
import Derived.Test.YtfnbilpemdgkkaaGreatDoorT9
namespace Go.Proofs.YtfnbilpemdgkkaaGreatDoor
open Go.RowKit
set_option linter.all false
set_option maxHeartbeats 2000000
attribute [local irreducible] Nop Yd Yp Ent Has Tr FnP FnP2 Src J1 P8 U7 W9 E0
variable {d6 : Int} {l : List (Int × List Int)} {c8 s : List Int} {m8 j9 m_l c_l m_s c_s : Nat} {k6 a_l a_s : Option Addr}
theorem T7 (hyf : c8.length ≤ 1048576) : Tr Tryz.prog 176 [.agg #[.int .i64 d6, .slice k6 m8 j9]] (fun w L => I64 d6 ∧ Ro w L eIs [.slice k6 m8 j9] c8) [] (κ := Option Addr × Nat × Nat) (fun k => True) (fun k => .agg #[.int .i64 d6, .slice k.1 k.2.1 k.2.2]) (fun k => [ow eIs [.slice k.1 k.2.1 k.2.2] c8]) := by
 refine f8 Tryz.func176 rfl (n := 9) rfl (by decide +kernel) bl (fr := [(0, .agg #[.int .i64 d6, .slice k6 m8 j9])]) rfl fun w L hR => ?_
 obtain ⟨t8, m6⟩ := hR
 obtain ⟨rfl, D3⟩ := m6.slen
 refine Ew Z2 (Est rfl (N.box (cs := [_, _]) rfl dc rfl) (fun b1 _ => (Est rfl (N.alloc ty_Fact dc) (fun b2 _ => (Eu (Eq_ (D.region (fun j => !(Nat.beq j 6)) mixed (Dyp 0 rfl (g9 fo_Fact_0 f4 dc rfl) (Dy 1 rfl (f7 f4 rfl (Hz (mS m0) 0 rfl) rfl) (Dyp 2 rfl (g9 fo_Fact_1 ty_Is dc rfl) (Dy 3 rfl (f7 ty_Is rfl (Hz (mS m0) 1 rfl) rfl) (w3 4 rfl rfl kr (fun _ => rfl) (N.call (a1L fc) rfl rfl rfl dc rfl (fun w Lp hA => hA.ro m6)) (fun k7 _ => ?_)))))))))))))
 obtain ⟨a7, m7, c7⟩ := k7
 refine d8 m0 fun e7 l7 => ?_
 subst e7
 refine Dyp 5 rfl (F5 (pvs := [_, _]) (cs := [_, _]) ty_Fact K4 rfl rfl) (d7 (w3 6 rfl rfl kr (fun h => by cases h) (Ns [_, _] ty_Fact rfl) (fun _ _ => (o3 kr (Et (E.ret (d7 ?_)))))))
 exact M0 br rfl rfl (mS m0) ty_Fact rfl (_, _, _) trivial rfl (J := _) (.refl _) (.inl rfl)
theorem D6 {rel : Int} {a_values : Option Addr} {m_values c_values : Nat} {L5 : List Int} (hz : L5.length ≤ 1048576) : Tr Tryz.prog 150 [.int .i64 rel, .slice a_values m_values c_values] (fun w L => I64 rel ∧ Ro w L eIs [.slice a_values m_values c_values] L5) [] (κ := Option Addr × Nat × Nat) (fun k => True) (fun k => .agg #[.int .i64 rel, .slice k.1 k.2.1 k.2.2]) (fun k => [ow eIs [.slice k.1 k.2.1 k.2.2] L5]) := by
 refine f8 Tryz.func150 rfl (n := 10) rfl (by decide +kernel) bl (fr := [(0, .int .i64 rel), (1, .slice a_values m_values c_values)]) rfl fun w L hR => ?_
 obtain ⟨i6rel, hvalues⟩ := hR
 obtain ⟨rfl, lvalues⟩ := hvalues.slen
 refine Ew Z1 (Est rfl (N.alloc ty_Fact dc) (fun b4 _ => (Ev Z6 (Em rfl (Est rfl (Nb [] [] us_Is f4 rfl rfl) (fun b6 _ => (Ent.drop (Em rfl (Est rfl (a7r (E := Enc.int) Plain.int us_Is f4 rfl rfl rfl hvalues bn bn dc) (fun p8 _ => (Ey rfl ((F5 (pvs := [_, _]) (cs := [_, _]) ty_Fact K4 rfl rfl).yd) (d7 (Est rfl (Ns [_, _] ty_Fact rfl) (fun _ _ => (Eu (E.ret (d7 ?_)))))))))))))))))
 exact M0 br rfl rfl (mS m0) ty_Fact rfl (_, _, _) trivial rfl (J := _) (.refl _) (.inl rfl)
theorem a3y (hz : l.length ≤ 1073741824) (hyl : ∀ x ∈ l, x.2.length ≤ 1048576) : Tr Tryz.prog 143 [.slice a_l m_l c_l] (fun w L => Ro w L f6 [.slice a_l m_l c_l] l) [] (κ := Option Addr × Nat × Nat) (fun k => True) (fun k => .slice k.1 k.2.1 k.2.2) (fun k => [ow f6 [.slice k.1 k.2.1 k.2.2] l]) := by
 refine f8 Tryz.func143 rfl (n := 20) rfl (by decide +kernel) bl (fr := [(0, .slice a_l m_l c_l)]) rfl fun w L hR => ?_
 have hl := hR
 obtain ⟨rfl, ll⟩ := hl.slen
 refine Ew Z1 (Ei rfl (Ev Z2 (Est rfl (Nb [] [] us_Facts ty_Fact rfl rfl) (fun b6 _ => (Ent.drop (Ei rfl (Eu (Eq_ (Ew Z3 (Em rfl (Ey rfl ((Y.len us_Facts rfl).yd) (Em rfl (Eu (E.block (o1 (A := []) (Own.nil (E := w9) (e := tFact) (a := (some ⟨b6, 0, none⟩))) rfl (f9 (congrArg (ow f6 [_]) (show [] = l.take 0 from by first | rfl | (simp; done) | grind [d1, d2, t1, t2])) (E.loop (κ := Nat × Option Addr × Nat × Nat) (fun g => g.1 ≤ l.length ∧ True) (fun g => [(3, .slice g.2.1 g.2.2.1 g.2.2.2), (7, .slice a_l l.length c_l), (8, .int .i64 (↑l.length : Int)), (9, .int .i64 (↑g.1 : Int))]) (fun g => [ow f6 [.slice g.2.1 g.2.2.1 g.2.2.2] (l.take g.1)]) (fun g => l.length - g.1) (0, (some ⟨b6, 0, none⟩), 0, 0) ⟨Nat.zero_le _, by simp⟩ ⟨rfl, rfl, rfl, rfl, trivial⟩ (.refl _) (fun g pg => ?_))))))))))))))))))
 obtain ⟨g, aA0_0, mA0_0, cA0_0⟩ := g
 try dsimp only at pg
 try dsimp only
 obtain ⟨pk, pa⟩ := pg
 have jp := List.length_take_le g l
 refine d8 m0 fun eaA0_0 laA0_0 => ?_
 subst eaA0_0
 refine Ew Z1 (Ey rfl ((Y.lss rfl rfl).yd) (j8 (fun q10 => ?_) (fun q10 => ?_)))
 ·obtain ⟨eb11, eo11, ec11, ea11, er11, el11, eh11⟩ := hl.elem g om
  obtain ⟨xa11_0, xc11_0, rfl, ei11_0, xh11_0⟩ := y8 er11
  have := xh11_0.slen.2
  refine Eu (Eq_ (l3 rfl (d9 (Et (Eq_ (E.block (Ew Z4 (Ey rfl ((r8 us_Facts ty_Fact rfl ea11 rfl g rfl om).yd) (Ey rfl (l8 (cs := [_, _]) ty_Fact rfl (eh11 _) rfl) (Est rfl (N.alloc ty_Fact dc) (fun b5 _ => (Est rfl (Ns [_, _] ty_Fact rfl) (fun _ _ => (Eu (Ez Z6 (Em rfl (Ey rfl (l8 (cs := [_, _]) ty_Fact rfl (Has.pt m0) rfl) (Est rfl (N.call (T7 (hyl _ (List.getElem_mem om))) rfl rfl rfl dc rfl (fun w Lp hA => ⟨ei11_0, hA.ro xh11_0⟩)) (fun k15 _ => ?_)))))))))))))))))))
  obtain ⟨a15, m15, c15⟩ := k15
  refine d8 m0 fun e15 l15 => ?_
  subst e15
  refine Est rfl (Nb [_] [_, _] us_Facts ty_Fact rfl rfl) (fun b16 _ => (d7 (d7 (i8 (Est rfl (N.push (E := w9) (ex := l[g]) us_Facts ty_Fact rfl rfl rfl (y6 (x := l[g]) ei11_0 Own.ow) rfl bn bn dc) (fun p17 _ => (Ei rfl (En (o2 (Et (Ez Z2 (Ey rfl ((Y.add rfl rfl om om).yd) (Em rfl (Eu (d7 (Ent.drop (f9 (congrArg (ow f6 [_]) (show (l.take g) ++ [l[g]] = l.take (g + 1) from by grind [d1, d2, t1, t2])) ?_)))))))))))))))))
  exact Ea (g + 1, p17.1, ((l.take g).length + 1), p17.2) ⟨oz, trivial⟩
 ·refine Eu (Eq_ (l4 rfl (E.exit (n8 (n8 (w7 (Et (Ew Z2 (Em rfl (Ei rfl (Eu (E.ret (f9 (congrArg (ow f6 [_]) (show _ = l by grind [d1, d2, t1, t2])) ?_)))))))))))))
  exact Fg rfl rfl (_, _, _) rfl rfl
theorem a5P (hz : l.length ≤ 1073741824) (hyl : ∀ x ∈ l, x.2.length ≤ 1048576) : Tr Tryz.prog 145 [.slice a_l m_l c_l] (fun w L => Ro w L f6 [.slice a_l m_l c_l] l) [] (κ := Option Addr × Nat × Nat) (fun k => True) (fun k => .slice k.1 k.2.1 k.2.2) (fun k => [ow f6 [.slice k.1 k.2.1 k.2.2] l]) := by
 refine f8 Tryz.func145 rfl (n := 27) rfl (by decide +kernel) bl (fr := [(0, .slice a_l m_l c_l)]) rfl fun w L hR => ?_
 have hl := hR
 obtain ⟨rfl, ll⟩ := hl.slen
 refine Ew Z1 (Ei rfl (Ev Z2 (Est rfl (Nb [] [] us_Facts ty_Fact rfl rfl) (fun b5 _ => (Ent.drop (Ei rfl (Eu (Eq_ (Ew Z1 (Ei rfl (Eu (E.block (o1 (A := []) (Own.nil (E := w9) (e := tFact) (a := (some ⟨b5, 0, none⟩))) rfl (f9 (congrArg (ow f6 [_]) (show [] = l.take 0 from by first | rfl | (simp; done) | grind [d1, d2, t1, t2])) (E.loop (κ := Nat × Option Addr × Nat × Nat) (fun g => g.1 ≤ l.length ∧ True) (fun g => [(0, .slice a_l l.length c_l), (3, .slice g.2.1 g.2.2.1 g.2.2.2), (4, .int .i64 (↑g.1 : Int))]) (fun g => [ow f6 [.slice g.2.1 g.2.2.1 g.2.2.2] (l.take g.1)]) (fun g => l.length - g.1) (0, (some ⟨b5, 0, none⟩), 0, 0) ⟨Nat.zero_le _, by simp⟩ ⟨rfl, rfl, rfl, trivial⟩ (.refl _) (fun g pg => ?_))))))))))))))))
 obtain ⟨g, aA0_0, mA0_0, cA0_0⟩ := g
 try dsimp only at pg
 try dsimp only
 obtain ⟨pk, pa⟩ := pg
 have jp := List.length_take_le g l
 refine d8 m0 fun eaA0_0 laA0_0 => ?_
 subst eaA0_0
 refine Eq_ (Ew Z4 (Em rfl (Em rfl (Ey rfl ((Y.len us_Facts rfl).yd) (Ey rfl ((Y.lss rfl rfl).yd) (j8 (fun q9 => ?_) (fun q9 => ?_)))))))
 ·refine Eu (l3 rfl (d9 (Et (Eq_ (E.block (D.region (fun j => !(Nat.beq j 13)) mixed (Dyp 0 rfl (g0 rfl) (Dyp 1 rfl (g0 rfl) (Dyp 2 rfl (g0 rfl) ?_)))))))))
  obtain ⟨eb15, eo15, ec15, ea15, er15, el15, eh15⟩ := hl.elem g om
  obtain ⟨xa15_0, xc15_0, rfl, ei15_0, xh15_0⟩ := y8 er15
  have := xh15_0.slen.2
  refine Dyp 3 rfl (r8 us_Facts ty_Fact rfl ea15 rfl g rfl om) (Dyp 4 rfl (g9 fo_Fact_0 f4 dc rfl) (Dy 5 rfl (f7 f4 rfl ((eh15 _).sub (cs' := [_]) 0 rfl) rfl) (Dyp 6 rfl (g0 rfl) (Dyp 7 rfl (g0 rfl) (Dyp 8 rfl (r8 us_Facts ty_Fact rfl ea15 rfl g rfl om) (Dyp 9 rfl (g9 fo_Fact_1 ty_Is dc rfl) (Dy 10 rfl (f7 ty_Is rfl ((eh15 _).sub (cs' := [_]) 1 rfl) rfl) (w3 11 rfl rfl kr (fun _ => rfl) (N.call (D6 (hyl _ (List.getElem_mem om))) rfl rfl rfl dc rfl (fun w Lp hA => ⟨ei15_0, hA.ro xh15_0⟩)) (fun k23 _ => ?_)))))))))
  obtain ⟨a23, m23, c23⟩ := k23
  refine d8 m0 fun e23 l23 => ?_
  subst e23
  refine w3 12 rfl rfl kr (fun _ => rfl) (Nb [_] [_, _] us_Facts ty_Fact rfl rfl) (fun b24 _ => (d7 (d7 (l6 (w3 13 rfl rfl kr (fun h => by cases h) (N.push (E := w9) (ex := l[g]) us_Facts ty_Fact rfl rfl rfl (y6 (x := l[g]) ei15_0 Own.ow) rfl bn bn dc) (fun p25 _ => (Dyp 14 rfl (F1 rfl) (o3 kr (o2 (Et (Ez Z3 (Em rfl (Ey rfl ((Y.add rfl rfl om om).yd) (Ei rfl (Eu (f9 (congrArg (ow f6 [_]) (show (l.take g) ++ [l[g]] = l.take (g + 1) from by grind [d1, d2, t1, t2])) ?_))))))))))))))))
  exact Ea (g + 1, p25.1, ((l.take g).length + 1), p25.2) ⟨oz, trivial⟩
 ·refine Eu (l4 rfl (E.exit (n8 (n8 (w7 (Et (Ew Z2 (Em rfl (Ei rfl (Eu (E.ret (f9 (congrArg (ow f6 [_]) (show _ = l by grind [d1, d2, t1, t2])) ?_))))))))))))
  exact Fg rfl rfl (_, _, _) rfl rfl
theorem a4J {a0l : Int} {N7 : Option Addr} {N8 N9 : Nat} {a0O : List Int} {b_f : Nat} : Tr Tryz.prog 178 [.agg #[.int .i64 a0l, .slice N7 N8 N9], .pointer (some ⟨b_f, 0, none⟩)] (fun w L => (I64 a0l ∧ Ro w L eIs [.slice N7 N8 N9] a0O) ∧ RoPt w L b_f [.int .i64 d6, .slice k6 m8 j9] ∧ I64 d6 ∧ Ro w L eIs [.slice k6 m8 j9] c8) [] (κ := Unit) (fun k => True) (fun k => .bool (decide (0 < C0 (a0l, a0O) (d6, c8)))) (fun k => []) := by
 refine f8 Tryz.func178 rfl (n := 8) rfl (by decide +kernel) bl (fr := [(0, .agg #[.int .i64 a0l, .slice N7 N8 N9]), (1, .pointer (some ⟨b_f, 0, none⟩))]) rfl fun w L hR => ?_
 obtain ⟨⟨a4T, Y6⟩, hb_f, t8, m6⟩ := hR
 obtain ⟨rfl, b0a⟩ := Y6.slen
 obtain ⟨rfl, D3⟩ := m6.slen
 refine Ew Z2 (Est rfl (N.box (cs := [_, _]) rfl dc rfl) (fun b2 _ => (Ei rfl (Ev Z5 (Ey rfl (l8 (cs := [_, _]) ty_Fact rfl (Has.pt m0) rfl) (Ey rfl (l8 (cs := [_, _]) ty_Fact rfl (hb_f.has) rfl) (Est rfl (f5 G2 rfl rfl rfl dc (fun w Lp hA => ⟨a4T, hA.ro Y6, t8, hA.ro m6⟩)) (fun _ _ => (Ey rfl ((Y.gtr rfl rfl).yd) (Ei rfl ?_))))))))))
 exact Eu (E.ret (Fg rfl rfl () rfl rfl))
theorem a2o (hz : l.length ≤ 1000000000) (hyf : c8.length ≤ 1048576) : Tr Tryz.prog 144 [.slice a_l m_l c_l, .agg #[.int .i64 d6, .slice k6 m8 j9]] (fun w L => I64 d6 ∧ Ro w L eIs [.slice k6 m8 j9] c8) [ow f6 [.slice a_l m_l c_l] l] (κ := Option Addr × Nat × Nat) (fun k => True) (fun k => .slice k.1 k.2.1 k.2.2) (fun k => [ow f6 [.slice k.1 k.2.1 k.2.2] (s7 l (d6, c8))]) := by
 refine f8 Tryz.func144 rfl (n := 23) rfl (by decide +kernel) bl (fr := [(0, .slice a_l m_l c_l), (1, .agg #[.int .i64 d6, .slice k6 m8 j9])]) rfl fun w L hR => ?_
 obtain ⟨t8, m6⟩ := hR
 obtain ⟨rfl, D3⟩ := m6.slen
 refine d8 m0 fun el ll => ?_
 subst el
 refine Ew Z2 (Est rfl (N.box (cs := [_, _]) rfl dc rfl) (fun b3 _ => (Ei rfl (Eu (Eq_ (Ew Z3 (Em rfl (Ey rfl (l8 (cs := [_, _]) ty_Fact rfl (Has.pt m0) rfl) (Est rfl (f5 a1w rfl rfl rfl dc (fun w Lp hA => ⟨hA.ow (mS m0), t8, hA.ro m6⟩)) (fun _ _ => (r5 (fun q8 => ?_) (fun q8 => ?_))))))))))))
 ·refine Eu (l3 rfl (Ew Z2 (Em rfl (Ei rfl (Eu (E.ret (j0 (d7 (f9 (congrArg (ow f6 [_]) (show _ = s7 l (d6, c8) by grind [W1, a0w])) ?_)))))))))
  exact Fg rfl rfl (_, _, _) rfl rfl
 ·refine Eu (l4 rfl (d9 (Et (Ew Z4 (Em rfl (Ey rfl ((Y.fn (vs := [_]) rfl).yd) (Est rfl (f5 (a0B (f := (fun z => decide (0 < C0 z (d6, c8)))) (D_f := (fun _ => True)) (by intros; exact trivial)) rfl rfl rfl dc (fun w Lp hA => ⟨hA.ow (mS m0), a4k (D := (fun _ => True)) (fun hd => a4J) (fun w' hk => ⟨(hA.pt m0).keep hk, t8, (hA.ro m6).keep hk⟩)⟩)) (fun _ _ => (Ei rfl (Eu (Eq_ (Ew Z2 (Em rfl (Ey rfl ((Y.lss rfl rfl).yd) (j8 (fun q14 => ?_) (fun q14 => ?_))))))))))))))))
  ·refine Eu (l3 rfl (Ez Z3 (Em rfl (Ey rfl ((Y.len us_Facts rfl).yd) (Ei rfl (Ev Z7 (Em rfl (Em rfl (Ey rfl (l8 (cs := [_, _]) ty_Fact rfl (Has.pt m0) rfl) (Est rfl (N.call (T7 fc) rfl rfl rfl dc rfl (fun w Lp hA => ⟨t8, hA.ro m6⟩)) (fun k20 _ => ?_)))))))))))
   obtain ⟨a20, m20, c20⟩ := k20
   refine d8 m0 fun e20 l20 => ?_
   subst e20
   refine Est rfl (Nb [_] [_, _] us_Facts ty_Fact rfl rfl) (fun b21 _ => (d7 (d7 (o1 (A := _ :: _) (J8 (E := w9) (e := tFact) (y6 (x := (d6, c8)) t8 Own.ow)) rfl ?_))))
   have ji := a2q (p := fun z => decide (0 < C0 z (d6, c8))) (s := l)
   refine l6 (Est rfl (N.call (pre := [_, _]) (a2b om (by simp) (by simp; omega)) rfl rfl rfl dc rfl tv) (fun k22 _ => ?_))
   obtain ⟨a22, m22, c22⟩ := k22
   refine d8 m0 fun e22 l22 => ?_
   subst e22
   refine Ei rfl (Eu (E.ret (f9 (congrArg (ow f6 [_]) (show _ = s7 l (d6, c8) by grind [W1, a0w])) ?_)))
   exact Fg rfl rfl (_, _, _) rfl rfl
  ·refine Eu (l4 rfl (d9 (Et (Ew Z7 (Em rfl (Em rfl (Ey rfl (l8 (cs := [_, _]) ty_Fact rfl (Has.pt m0) rfl) (Est rfl (N.call (T7 fc) rfl rfl rfl dc rfl (fun w Lp hA => ⟨t8, hA.ro m6⟩)) (fun k20 _ => ?_)))))))))
   obtain ⟨a20, m20, c20⟩ := k20
   refine d8 m0 fun e20 l20 => ?_
   subst e20
   refine Est rfl (Nb [_] [_, _] us_Facts ty_Fact rfl rfl) (fun b21 _ => (d7 (d7 (o1 (A := _ :: _) (J8 (E := w9) (e := tFact) (y6 (x := (d6, c8)) t8 Own.ow)) rfl ?_))))
   have ji := a2q (p := fun z => decide (0 < C0 z (d6, c8))) (s := l)
   refine l6 (Est rfl (N.call (pre := [_, _]) (a2b om (by simp) (by simp; omega)) rfl rfl rfl dc rfl tv) (fun k22 _ => ?_))
   obtain ⟨a22, m22, c22⟩ := k22
   refine d8 m0 fun e22 l22 => ?_
   subst e22
   refine Ei rfl (Eu (E.ret (f9 (congrArg (ow f6 [_]) (show _ = s7 l (d6, c8) by grind [W1, a0w])) ?_)))
   exact Fg rfl rfl (_, _, _) rfl rfl
theorem W5 (hz : l.length ≤ 1000000000) (hyl : ∀ x ∈ l, x.2.length ≤ 1048576) (hyf : c8.length ≤ 1048576) : Tr Tryz.prog 146 [.slice a_l m_l c_l, .agg #[.int .i64 d6, .slice k6 m8 j9]] (fun w L => Ro w L f6 [.slice a_l m_l c_l] l ∧ I64 d6 ∧ Ro w L eIs [.slice k6 m8 j9] c8) [] (κ := Option Addr × Nat × Nat) (fun k => True) (fun k => .slice k.1 k.2.1 k.2.2) (fun k => [ow f6 [.slice k.1 k.2.1 k.2.2] (s7 l (d6, c8))]) := by
 refine f8 Tryz.func146 rfl (n := 62) rfl (by decide +kernel) bl (fr := [(0, .slice a_l m_l c_l), (1, .agg #[.int .i64 d6, .slice k6 m8 j9])]) rfl fun w L hR => ?_
 obtain ⟨hl, t8, m6⟩ := hR
 obtain ⟨rfl, ll⟩ := hl.slen
 obtain ⟨rfl, D3⟩ := m6.slen
 refine Ew Z2 (Est rfl (N.box (cs := [_, _]) rfl dc rfl) (fun b3 _ => (Ei rfl (Ev Z2 (Est rfl (Nb [] [] us_Facts ty_Fact rfl rfl) (fun b8 _ => (Ent.drop (Ei rfl (Ev Z4 (Em rfl (Ey rfl (l8 (cs := [_, _]) ty_Fact rfl (Has.pt m0) rfl) (Est rfl (f5 Q7 rfl rfl rfl dc (fun w Lp hA => ⟨hA.ro hl, t8, hA.ro m6⟩)) (fun _ _ => (Ei rfl (r5 (fun q6 => ?_) (fun q6 => ?_))))))))))))))))
 ·refine Eu (Eq_ (Ew Z1 (Ei rfl (Eu (E.block (o1 (A := []) (Own.nil (E := w9) (e := tFact) (a := (some ⟨b8, 0, none⟩))) rfl (f9 (congrArg (ow f6 [_]) (show [] = addS (w5 l (d6, c8)) (ltF (d6, c8)) (d6, c8) (l.take 0) from by first | rfl | (simp; done) | grind [s7, B4, B5, C6, B7, E9, d1, d2, t1, t2])) (E.loop (κ := Nat × Option Addr × Nat × Nat) (fun g => g.1 ≤ l.length ∧ True) (fun g => [(0, .slice a_l l.length c_l), (3, .pointer (some ⟨b3, 0, none⟩)), (5, .slice g.2.1 g.2.2.1 g.2.2.2), (6, .bool (w5 l (d6, c8) || (l.take g.1).any (ltF (d6, c8)))), (7, .int .i64 (↑g.1 : Int))]) (fun g => [ow f6 [.slice g.2.1 g.2.2.1 g.2.2.2] (addS (w5 l (d6, c8)) (ltF (d6, c8)) (d6, c8) (l.take g.1)), pt b3 44 [.int .i64 d6, .slice k6 c8.length j9]]) (fun g => l.length - g.1) (0, (some ⟨b8, 0, none⟩), 0, 0) ⟨Nat.zero_le _, by simp⟩ ⟨rfl, rfl, rfl, frB (by first | rfl | (simp; done) | grind [s7, B4, B5, C6, B7, E9, d1, d2, t1, t2]), rfl, trivial⟩ (.refl _) (fun g pg => ?_)))))))))
  obtain ⟨g, aA0_0, mA0_0, cA0_0⟩ := g
  try dsimp only at pg
  try dsimp only
  obtain ⟨pk, pa⟩ := pg
  have jp := List.length_take_le g l
  have ji := a6O (h := w5 l (d6, c8)) (p := (ltF (d6, c8))) (f := (d6, c8)) (l := l.take g)
  refine d8 m0 fun eaA0_0 laA0_0 => ?_
  subst eaA0_0
  refine Eq_ (Ew Z4 (Em rfl (Em rfl (Ey rfl ((Y.len us_Facts rfl).yd) (Ey rfl ((Y.lss rfl rfl).yd) (j8 (fun q15 => ?_) (fun q15 => ?_)))))))
  ·refine Eu (l3 rfl (d9 (Et (Eq_ (E.block (Eq_ (Eq_ (D.region (fun j => true) mixed (Dyp 0 rfl (g0 rfl) (r5 (fun q18 => ?_) (fun q18 => ?_)))))))))))
   ·refine Dyp 1 rfl (Y.not (b := true) rfl) (Dyp 2 rfl (g0 rfl) (Dsk 3 rfl (Dsk 4 rfl (Dsk 5 rfl (Dsk 6 rfl (Dsk 7 rfl (Dsk 8 rfl (Dsk 9 rfl (Dyp 10 rfl (o6 rfl rfl) (o3 kr (Et (l4 rfl (d9 (Et (D.region (fun j => !(Nat.beq j 13)) mixed (Dyp 0 rfl (g0 rfl) (Dyp 1 rfl (g0 rfl) (Dyp 2 rfl (g0 rfl) ?_))))))))))))))))))
    obtain ⟨eb40, eo40, ec40, ea40, er40, el40, eh40⟩ := hl.elem g om
    obtain ⟨xa40_0, xc40_0, rfl, ei40_0, xh40_0⟩ := y8 er40
    have := xh40_0.slen.2
    refine Dyp 3 rfl (r8 us_Facts ty_Fact rfl ea40 rfl g rfl om) (Dyp 4 rfl (g9 fo_Fact_0 f4 dc rfl) (Dy 5 rfl (f7 f4 rfl ((eh40 _).sub (cs' := [_]) 0 rfl) rfl) (Dyp 6 rfl (g0 rfl) (Dyp 7 rfl (g0 rfl) (Dyp 8 rfl (r8 us_Facts ty_Fact rfl ea40 rfl g rfl om) (Dyp 9 rfl (g9 fo_Fact_1 ty_Is dc rfl) (Dy 10 rfl (f7 ty_Is rfl ((eh40 _).sub (cs' := [_]) 1 rfl) rfl) (w3 11 rfl rfl kr (fun _ => rfl) (N.call (D6 (hyl _ (List.getElem_mem om))) rfl rfl rfl dc rfl (fun w Lp hA => ⟨ei40_0, hA.ro xh40_0⟩)) (fun k48 _ => ?_)))))))))
    obtain ⟨a48, m48, c48⟩ := k48
    refine d8 m0 fun e48 l48 => ?_
    subst e48
    refine w3 12 rfl rfl kr (fun _ => rfl) (Nb [_] [_, _] us_Facts ty_Fact rfl rfl) (fun b49 _ => (d7 (d7 (l6 (w3 13 rfl rfl kr (fun h => by cases h) (N.push (E := w9) (ex := l[g]) us_Facts ty_Fact rfl rfl rfl (y6 (x := l[g]) ei40_0 Own.ow) rfl bn bn dc) (fun p50 _ => (Dyp 14 rfl (F1 rfl) (o3 kr (o2 (Et (Ez Z3 (Em rfl (Ey rfl ((Y.add rfl rfl om om).yd) (Ei rfl (Eu (f9 (congrArg (ow f6 [_]) (show (addS (w5 l (d6, c8)) (ltF (d6, c8)) (d6, c8) (l.take g)) ++ [l[g]] = addS (w5 l (d6, c8)) (ltF (d6, c8)) (d6, c8) (l.take (g + 1)) from by grind [s7, B4, B5, C6, B7, E9, d1, d2, t1, t2])) (d7 (d7 ?_))))))))))))))))))
    exact u7 br (g + 1, p50.1, ((addS (w5 l (d6, c8)) (ltF (d6, c8)) (d6, c8) (l.take g)).length + 1), p50.2) ⟨rfl, rfl, rfl, frB (by grind [s7, B4, B5, C6, B7, E9, d1, d2, t1, t2]), rfl, trivial⟩ (.refl _) ⟨oz, trivial⟩ oz
   ·refine Dyp 1 rfl (Y.not (b := false) rfl) (Dyp 2 rfl (g0 rfl) (Dy 3 rfl (l8 (cs := [_, _]) ty_Fact rfl (Has.pt (mS m0)) rfl) (Dyp 4 rfl (g0 rfl) (Dyp 5 rfl (g0 rfl) ?_))))
    obtain ⟨eb24, eo24, ec24, ea24, er24, el24, eh24⟩ := hl.elem g om
    obtain ⟨xa24_0, xc24_0, rfl, ei24_0, xh24_0⟩ := y8 er24
    have := xh24_0.slen.2
    refine Dyp 6 rfl (r8 us_Facts ty_Fact rfl ea24 rfl g rfl om) (Dy 7 rfl (l8 (cs := [_, _]) ty_Fact rfl (eh24 _) rfl) (w3 8 rfl rfl kr (fun _ => rfl) (f5 B3 rfl rfl rfl dc (fun w Lp hA => ⟨t8, hA.ro m6, ei24_0, hA.ro xh24_0⟩)) (fun _ _ => (Dyp 9 rfl (Y.lss rfl rfl) (j8 (fun q27 => ?_) (fun q27 => ?_))))))
    ·refine Dyp 10 rfl (o0 rfl rfl) (o3 kr (Et (l3 rfl (Ew Z9 (Em rfl (Ey rfl ((g9 fo_Fact_0 f4 dc rfl).yd) (Ey rfl (f7 f4 rfl (Hz (mS m0) 0 rfl) rfl) (Ey rfl ((g9 fo_Fact_1 ty_Is dc rfl).yd) (Ey rfl (f7 ty_Is rfl (Hz (mS m0) 1 rfl) rfl) (Est rfl (N.call (D6 fc) rfl rfl rfl dc rfl (fun w Lp hA => ⟨t8, hA.ro m6⟩)) (fun k34 _ => ?_)))))))))))
     obtain ⟨a34, m34, c34⟩ := k34
     refine d8 m0 fun e34 l34 => ?_
     subst e34
     refine Est rfl (Nb [_] [_, _] us_Facts ty_Fact rfl rfl) (fun b35 _ => (d7 (d7 (l6 (Est rfl (N.push (E := w9) (ex := (d6, c8)) us_Facts ty_Fact rfl rfl rfl (y6 (x := (d6, c8)) t8 Own.ow) rfl bn bn dc) (fun p36 _ => (Ei rfl (Eu (Ez Z1 (Ei rfl (Eu (D.region (fun j => !(Nat.beq j 13)) mixed (Dyp 0 rfl (g0 rfl) (Dyp 1 rfl (g0 rfl) (Dyp 2 rfl (g0 rfl) (Dyp 3 rfl (r8 us_Facts ty_Fact rfl ea24 rfl g rfl om) (Dyp 4 rfl (g9 fo_Fact_0 f4 dc rfl) (Dy 5 rfl (f7 f4 rfl ((eh24 _).sub (cs' := [_]) 0 rfl) rfl) (Dyp 6 rfl (g0 rfl) (Dyp 7 rfl (g0 rfl) ?_))))))))))))))))))))
     refine Dyp 8 rfl (r8 us_Facts ty_Fact rfl ea24 rfl g rfl om) (Dyp 9 rfl (g9 fo_Fact_1 ty_Is dc rfl) (Dy 10 rfl (f7 ty_Is rfl ((eh24 _).sub (cs' := [_]) 1 rfl) rfl) (w3 11 rfl rfl kr (fun _ => rfl) (N.call (D6 (hyl _ (List.getElem_mem om))) rfl rfl rfl dc rfl (fun w Lp hA => ⟨ei24_0, hA.ro xh24_0⟩)) (fun k48 _ => ?_))))
     obtain ⟨a48, m48, c48⟩ := k48
     refine d8 m0 fun e48 l48 => ?_
     subst e48
     refine w3 12 rfl rfl kr (fun _ => rfl) (Nb [_] [_, _] us_Facts ty_Fact rfl rfl) (fun b49 _ => (d7 (d7 (l6 (w3 13 rfl rfl kr (fun h => by cases h) (N.push (E := w9) (ex := l[g]) us_Facts ty_Fact rfl rfl rfl (y6 (x := l[g]) ei24_0 Own.ow) rfl bn bn dc) (fun p50 _ => (Dyp 14 rfl (F1 rfl) (o3 kr (o2 (Et (Ez Z3 (Em rfl (Ey rfl ((Y.add rfl rfl om om).yd) (Ei rfl (Eu (f9 (congrArg (ow f6 [_]) (show ((addS (w5 l (d6, c8)) (ltF (d6, c8)) (d6, c8) (l.take g)) ++ [(d6, c8)]) ++ [l[g]] = addS (w5 l (d6, c8)) (ltF (d6, c8)) (d6, c8) (l.take (g + 1)) from by grind [s7, B4, B5, C6, B7, E9, d1, d2, t1, t2])) (d7 (d7 ?_))))))))))))))))))
     exact u7 br (g + 1, p50.1, (((addS (w5 l (d6, c8)) (ltF (d6, c8)) (d6, c8) (l.take g)).length + 1) + 1), p50.2) ⟨rfl, rfl, rfl, frB (by grind [s7, B4, B5, C6, B7, E9, d1, d2, t1, t2]), rfl, trivial⟩ (.refl _) ⟨oz, trivial⟩ oz
    ·refine Dyp 10 rfl (o0 rfl rfl) (o3 kr (Et (l4 rfl (d9 (Et (D.region (fun j => !(Nat.beq j 13)) mixed (Dyp 0 rfl (g0 rfl) (Dyp 1 rfl (g0 rfl) (Dyp 2 rfl (g0 rfl) (Dyp 3 rfl (r8 us_Facts ty_Fact rfl ea24 rfl g rfl om) (Dyp 4 rfl (g9 fo_Fact_0 f4 dc rfl) (Dy 5 rfl (f7 f4 rfl ((eh24 _).sub (cs' := [_]) 0 rfl) rfl) (Dyp 6 rfl (g0 rfl) (Dyp 7 rfl (g0 rfl) (Dyp 8 rfl (r8 us_Facts ty_Fact rfl ea24 rfl g rfl om) (Dyp 9 rfl (g9 fo_Fact_1 ty_Is dc rfl) (Dy 10 rfl (f7 ty_Is rfl ((eh24 _).sub (cs' := [_]) 1 rfl) rfl) (w3 11 rfl rfl kr (fun _ => rfl) (N.call (D6 (hyl _ (List.getElem_mem om))) rfl rfl rfl dc rfl (fun w Lp hA => ⟨ei24_0, hA.ro xh24_0⟩)) (fun k48 _ => ?_)))))))))))))))))))
     obtain ⟨a48, m48, c48⟩ := k48
     refine d8 m0 fun e48 l48 => ?_
     subst e48
     refine w3 12 rfl rfl kr (fun _ => rfl) (Nb [_] [_, _] us_Facts ty_Fact rfl rfl) (fun b49 _ => (d7 (d7 (l6 (w3 13 rfl rfl kr (fun h => by cases h) (N.push (E := w9) (ex := l[g]) us_Facts ty_Fact rfl rfl rfl (y6 (x := l[g]) ei24_0 Own.ow) rfl bn bn dc) (fun p50 _ => (Dyp 14 rfl (F1 rfl) (o3 kr (o2 (Et (Ez Z3 (Em rfl (Ey rfl ((Y.add rfl rfl om om).yd) (Ei rfl (Eu (f9 (congrArg (ow f6 [_]) (show (addS (w5 l (d6, c8)) (ltF (d6, c8)) (d6, c8) (l.take g)) ++ [l[g]] = addS (w5 l (d6, c8)) (ltF (d6, c8)) (d6, c8) (l.take (g + 1)) from by grind [s7, B4, B5, C6, B7, E9, d1, d2, t1, t2])) (d7 (d7 ?_))))))))))))))))))
     exact u7 br (g + 1, p50.1, ((addS (w5 l (d6, c8)) (ltF (d6, c8)) (d6, c8) (l.take g)).length + 1), p50.2) ⟨rfl, rfl, rfl, frB (by grind [s7, B4, B5, C6, B7, E9, d1, d2, t1, t2]), rfl, trivial⟩ (.refl _) ⟨oz, trivial⟩ oz
  ·refine Eu (l4 rfl (E.exit (n8 (n8 (w7 (Et (Eq_ (Ew Z2 (Em rfl (r5 (fun q51 => ?_) (fun q51 => ?_)))))))))))
   ·refine Ey rfl ((Y.not (b := true) rfl).yd) (Eu (l4 rfl (d9 (Et (Ew Z2 (Em rfl (Ei rfl (Eu (E.ret (f9 (congrArg (ow f6 [_]) (show _ = s7 l (d6, c8) by grind [s7, B4, B5, C6, B7, E9, d1, d2, t1, t2])) ?_))))))))))
    exact Fg rfl rfl (_, _, _) rfl rfl
   ·refine Ey rfl ((Y.not (b := false) rfl).yd) (Eu (l3 rfl (Ez Z9 (Em rfl (Ey rfl ((g9 fo_Fact_0 f4 dc rfl).yd) (Ey rfl (f7 f4 rfl (Hz (mS m0) 0 rfl) rfl) (Ey rfl ((g9 fo_Fact_1 ty_Is dc rfl).yd) (Ey rfl (f7 ty_Is rfl (Hz (mS m0) 1 rfl) rfl) (Est rfl (N.call (D6 fc) rfl rfl rfl dc rfl (fun w Lp hA => ⟨t8, hA.ro m6⟩)) (fun k58 _ => ?_))))))))))
    obtain ⟨a58, m58, c58⟩ := k58
    refine d8 m0 fun e58 l58 => ?_
    subst e58
    refine Est rfl (Nb [_] [_, _] us_Facts ty_Fact rfl rfl) (fun b59 _ => (d7 (d7 (l6 (Est rfl (N.push (E := w9) (ex := (d6, c8)) us_Facts ty_Fact rfl rfl rfl (y6 (x := (d6, c8)) t8 Own.ow) rfl bn bn dc) (fun p60 _ => (Ei rfl (Ev Z2 (Em rfl (Ei rfl (Eu (E.ret (f9 (congrArg (ow f6 [_]) (show _ = s7 l (d6, c8) by grind [s7, B4, B5, C6, B7, E9, d1, d2, t1, t2])) ?_)))))))))))))
    exact Fg rfl rfl (_, _, _) rfl rfl
 ·refine Eu (Eq_ (Ew Z1 (Ei rfl (Eu (E.block (o1 (A := []) (Own.nil (E := w9) (e := tFact) (a := (some ⟨b8, 0, none⟩))) rfl (f9 (congrArg (ow f6 [_]) (show [] = addS (w5 l (d6, c8)) (ltF (d6, c8)) (d6, c8) (l.take 0) from by first | rfl | (simp; done) | grind [s7, B4, B5, C6, B7, E9, d1, d2, t1, t2])) (E.loop (κ := Nat × Option Addr × Nat × Nat) (fun g => g.1 ≤ l.length ∧ True) (fun g => [(0, .slice a_l l.length c_l), (3, .pointer (some ⟨b3, 0, none⟩)), (5, .slice g.2.1 g.2.2.1 g.2.2.2), (6, .bool (w5 l (d6, c8) || (l.take g.1).any (ltF (d6, c8)))), (7, .int .i64 (↑g.1 : Int))]) (fun g => [ow f6 [.slice g.2.1 g.2.2.1 g.2.2.2] (addS (w5 l (d6, c8)) (ltF (d6, c8)) (d6, c8) (l.take g.1)), pt b3 44 [.int .i64 d6, .slice k6 c8.length j9]]) (fun g => l.length - g.1) (0, (some ⟨b8, 0, none⟩), 0, 0) ⟨Nat.zero_le _, by simp⟩ ⟨rfl, rfl, rfl, frB (by first | rfl | (simp; done) | grind [s7, B4, B5, C6, B7, E9, d1, d2, t1, t2]), rfl, trivial⟩ (.refl _) (fun g pg => ?_)))))))))
  obtain ⟨g, aA0_0, mA0_0, cA0_0⟩ := g
  try dsimp only at pg
  try dsimp only
  obtain ⟨pk, pa⟩ := pg
  have jp := List.length_take_le g l
  have ji := a6O (h := w5 l (d6, c8)) (p := (ltF (d6, c8))) (f := (d6, c8)) (l := l.take g)
  refine d8 m0 fun eaA0_0 laA0_0 => ?_
  subst eaA0_0
  refine Eq_ (Ew Z4 (Em rfl (Em rfl (Ey rfl ((Y.len us_Facts rfl).yd) (Ey rfl ((Y.lss rfl rfl).yd) (j8 (fun q15 => ?_) (fun q15 => ?_)))))))
  ·refine Eu (l3 rfl (d9 (Et (Eq_ (E.block (Eq_ (Eq_ (D.region (fun j => true) mixed (Dyp 0 rfl (g0 rfl) (r5 (fun q18 => ?_) (fun q18 => ?_)))))))))))
   ·refine Dyp 1 rfl (Y.not (b := true) rfl) (Dyp 2 rfl (g0 rfl) (Dsk 3 rfl (Dsk 4 rfl (Dsk 5 rfl (Dsk 6 rfl (Dsk 7 rfl (Dsk 8 rfl (Dsk 9 rfl (Dyp 10 rfl (o6 rfl rfl) (o3 kr (Et (l4 rfl (d9 (Et (D.region (fun j => !(Nat.beq j 13)) mixed (Dyp 0 rfl (g0 rfl) (Dyp 1 rfl (g0 rfl) (Dyp 2 rfl (g0 rfl) ?_))))))))))))))))))
    obtain ⟨eb40, eo40, ec40, ea40, er40, el40, eh40⟩ := hl.elem g om
    obtain ⟨xa40_0, xc40_0, rfl, ei40_0, xh40_0⟩ := y8 er40
    have := xh40_0.slen.2
    refine Dyp 3 rfl (r8 us_Facts ty_Fact rfl ea40 rfl g rfl om) (Dyp 4 rfl (g9 fo_Fact_0 f4 dc rfl) (Dy 5 rfl (f7 f4 rfl ((eh40 _).sub (cs' := [_]) 0 rfl) rfl) (Dyp 6 rfl (g0 rfl) (Dyp 7 rfl (g0 rfl) (Dyp 8 rfl (r8 us_Facts ty_Fact rfl ea40 rfl g rfl om) (Dyp 9 rfl (g9 fo_Fact_1 ty_Is dc rfl) (Dy 10 rfl (f7 ty_Is rfl ((eh40 _).sub (cs' := [_]) 1 rfl) rfl) (w3 11 rfl rfl kr (fun _ => rfl) (N.call (D6 (hyl _ (List.getElem_mem om))) rfl rfl rfl dc rfl (fun w Lp hA => ⟨ei40_0, hA.ro xh40_0⟩)) (fun k48 _ => ?_)))))))))
    obtain ⟨a48, m48, c48⟩ := k48
    refine d8 m0 fun e48 l48 => ?_
    subst e48
    refine w3 12 rfl rfl kr (fun _ => rfl) (Nb [_] [_, _] us_Facts ty_Fact rfl rfl) (fun b49 _ => (d7 (d7 (l6 (w3 13 rfl rfl kr (fun h => by cases h) (N.push (E := w9) (ex := l[g]) us_Facts ty_Fact rfl rfl rfl (y6 (x := l[g]) ei40_0 Own.ow) rfl bn bn dc) (fun p50 _ => (Dyp 14 rfl (F1 rfl) (o3 kr (o2 (Et (Ez Z3 (Em rfl (Ey rfl ((Y.add rfl rfl om om).yd) (Ei rfl (Eu (f9 (congrArg (ow f6 [_]) (show (addS (w5 l (d6, c8)) (ltF (d6, c8)) (d6, c8) (l.take g)) ++ [l[g]] = addS (w5 l (d6, c8)) (ltF (d6, c8)) (d6, c8) (l.take (g + 1)) from by grind [s7, B4, B5, C6, B7, E9, d1, d2, t1, t2])) (d7 (d7 ?_))))))))))))))))))
    exact u7 br (g + 1, p50.1, ((addS (w5 l (d6, c8)) (ltF (d6, c8)) (d6, c8) (l.take g)).length + 1), p50.2) ⟨rfl, rfl, rfl, frB (by grind [s7, B4, B5, C6, B7, E9, d1, d2, t1, t2]), rfl, trivial⟩ (.refl _) ⟨oz, trivial⟩ oz
   ·refine Dyp 1 rfl (Y.not (b := false) rfl) (Dyp 2 rfl (g0 rfl) (Dy 3 rfl (l8 (cs := [_, _]) ty_Fact rfl (Has.pt (mS m0)) rfl) (Dyp 4 rfl (g0 rfl) (Dyp 5 rfl (g0 rfl) ?_))))
    obtain ⟨eb24, eo24, ec24, ea24, er24, el24, eh24⟩ := hl.elem g om
    obtain ⟨xa24_0, xc24_0, rfl, ei24_0, xh24_0⟩ := y8 er24
    have := xh24_0.slen.2
    refine Dyp 6 rfl (r8 us_Facts ty_Fact rfl ea24 rfl g rfl om) (Dy 7 rfl (l8 (cs := [_, _]) ty_Fact rfl (eh24 _) rfl) (w3 8 rfl rfl kr (fun _ => rfl) (f5 B3 rfl rfl rfl dc (fun w Lp hA => ⟨t8, hA.ro m6, ei24_0, hA.ro xh24_0⟩)) (fun _ _ => (Dyp 9 rfl (Y.lss rfl rfl) (j8 (fun q27 => ?_) (fun q27 => ?_))))))
    ·refine Dyp 10 rfl (o0 rfl rfl) (o3 kr (Et (l3 rfl (Ew Z9 (Em rfl (Ey rfl ((g9 fo_Fact_0 f4 dc rfl).yd) (Ey rfl (f7 f4 rfl (Hz (mS m0) 0 rfl) rfl) (Ey rfl ((g9 fo_Fact_1 ty_Is dc rfl).yd) (Ey rfl (f7 ty_Is rfl (Hz (mS m0) 1 rfl) rfl) (Est rfl (N.call (D6 fc) rfl rfl rfl dc rfl (fun w Lp hA => ⟨t8, hA.ro m6⟩)) (fun k34 _ => ?_)))))))))))
     obtain ⟨a34, m34, c34⟩ := k34
     refine d8 m0 fun e34 l34 => ?_
     subst e34
     refine Est rfl (Nb [_] [_, _] us_Facts ty_Fact rfl rfl) (fun b35 _ => (d7 (d7 (l6 (Est rfl (N.push (E := w9) (ex := (d6, c8)) us_Facts ty_Fact rfl rfl rfl (y6 (x := (d6, c8)) t8 Own.ow) rfl bn bn dc) (fun p36 _ => (Ei rfl (Eu (Ez Z1 (Ei rfl (Eu (D.region (fun j => !(Nat.beq j 13)) mixed (Dyp 0 rfl (g0 rfl) (Dyp 1 rfl (g0 rfl) (Dyp 2 rfl (g0 rfl) (Dyp 3 rfl (r8 us_Facts ty_Fact rfl ea24 rfl g rfl om) (Dyp 4 rfl (g9 fo_Fact_0 f4 dc rfl) (Dy 5 rfl (f7 f4 rfl ((eh24 _).sub (cs' := [_]) 0 rfl) rfl) (Dyp 6 rfl (g0 rfl) (Dyp 7 rfl (g0 rfl) ?_))))))))))))))))))))
     refine Dyp 8 rfl (r8 us_Facts ty_Fact rfl ea24 rfl g rfl om) (Dyp 9 rfl (g9 fo_Fact_1 ty_Is dc rfl) (Dy 10 rfl (f7 ty_Is rfl ((eh24 _).sub (cs' := [_]) 1 rfl) rfl) (w3 11 rfl rfl kr (fun _ => rfl) (N.call (D6 (hyl _ (List.getElem_mem om))) rfl rfl rfl dc rfl (fun w Lp hA => ⟨ei24_0, hA.ro xh24_0⟩)) (fun k48 _ => ?_))))
     obtain ⟨a48, m48, c48⟩ := k48
     refine d8 m0 fun e48 l48 => ?_
     subst e48
     refine w3 12 rfl rfl kr (fun _ => rfl) (Nb [_] [_, _] us_Facts ty_Fact rfl rfl) (fun b49 _ => (d7 (d7 (l6 (w3 13 rfl rfl kr (fun h => by cases h) (N.push (E := w9) (ex := l[g]) us_Facts ty_Fact rfl rfl rfl (y6 (x := l[g]) ei24_0 Own.ow) rfl bn bn dc) (fun p50 _ => (Dyp 14 rfl (F1 rfl) (o3 kr (o2 (Et (Ez Z3 (Em rfl (Ey rfl ((Y.add rfl rfl om om).yd) (Ei rfl (Eu (f9 (congrArg (ow f6 [_]) (show ((addS (w5 l (d6, c8)) (ltF (d6, c8)) (d6, c8) (l.take g)) ++ [(d6, c8)]) ++ [l[g]] = addS (w5 l (d6, c8)) (ltF (d6, c8)) (d6, c8) (l.take (g + 1)) from by grind [s7, B4, B5, C6, B7, E9, d1, d2, t1, t2])) (d7 (d7 ?_))))))))))))))))))
     exact u7 br (g + 1, p50.1, (((addS (w5 l (d6, c8)) (ltF (d6, c8)) (d6, c8) (l.take g)).length + 1) + 1), p50.2) ⟨rfl, rfl, rfl, frB (by grind [s7, B4, B5, C6, B7, E9, d1, d2, t1, t2]), rfl, trivial⟩ (.refl _) ⟨oz, trivial⟩ oz
    ·refine Dyp 10 rfl (o0 rfl rfl) (o3 kr (Et (l4 rfl (d9 (Et (D.region (fun j => !(Nat.beq j 13)) mixed (Dyp 0 rfl (g0 rfl) (Dyp 1 rfl (g0 rfl) (Dyp 2 rfl (g0 rfl) (Dyp 3 rfl (r8 us_Facts ty_Fact rfl ea24 rfl g rfl om) (Dyp 4 rfl (g9 fo_Fact_0 f4 dc rfl) (Dy 5 rfl (f7 f4 rfl ((eh24 _).sub (cs' := [_]) 0 rfl) rfl) (Dyp 6 rfl (g0 rfl) (Dyp 7 rfl (g0 rfl) (Dyp 8 rfl (r8 us_Facts ty_Fact rfl ea24 rfl g rfl om) (Dyp 9 rfl (g9 fo_Fact_1 ty_Is dc rfl) (Dy 10 rfl (f7 ty_Is rfl ((eh24 _).sub (cs' := [_]) 1 rfl) rfl) (w3 11 rfl rfl kr (fun _ => rfl) (N.call (D6 (hyl _ (List.getElem_mem om))) rfl rfl rfl dc rfl (fun w Lp hA => ⟨ei24_0, hA.ro xh24_0⟩)) (fun k48 _ => ?_)))))))))))))))))))
     obtain ⟨a48, m48, c48⟩ := k48
     refine d8 m0 fun e48 l48 => ?_
     subst e48
     refine w3 12 rfl rfl kr (fun _ => rfl) (Nb [_] [_, _] us_Facts ty_Fact rfl rfl) (fun b49 _ => (d7 (d7 (l6 (w3 13 rfl rfl kr (fun h => by cases h) (N.push (E := w9) (ex := l[g]) us_Facts ty_Fact rfl rfl rfl (y6 (x := l[g]) ei24_0 Own.ow) rfl bn bn dc) (fun p50 _ => (Dyp 14 rfl (F1 rfl) (o3 kr (o2 (Et (Ez Z3 (Em rfl (Ey rfl ((Y.add rfl rfl om om).yd) (Ei rfl (Eu (f9 (congrArg (ow f6 [_]) (show (addS (w5 l (d6, c8)) (ltF (d6, c8)) (d6, c8) (l.take g)) ++ [l[g]] = addS (w5 l (d6, c8)) (ltF (d6, c8)) (d6, c8) (l.take (g + 1)) from by grind [s7, B4, B5, C6, B7, E9, d1, d2, t1, t2])) (d7 (d7 ?_))))))))))))))))))
     exact u7 br (g + 1, p50.1, ((addS (w5 l (d6, c8)) (ltF (d6, c8)) (d6, c8) (l.take g)).length + 1), p50.2) ⟨rfl, rfl, rfl, frB (by grind [s7, B4, B5, C6, B7, E9, d1, d2, t1, t2]), rfl, trivial⟩ (.refl _) ⟨oz, trivial⟩ oz
  ·refine Eu (l4 rfl (E.exit (n8 (n8 (w7 (Et (Eq_ (Ew Z2 (Em rfl (r5 (fun q51 => ?_) (fun q51 => ?_)))))))))))
   ·refine Ey rfl ((Y.not (b := true) rfl).yd) (Eu (l4 rfl (d9 (Et (Ew Z2 (Em rfl (Ei rfl (Eu (E.ret (f9 (congrArg (ow f6 [_]) (show _ = s7 l (d6, c8) by grind [s7, B4, B5, C6, B7, E9, d1, d2, t1, t2])) ?_))))))))))
    exact Fg rfl rfl (_, _, _) rfl rfl
   ·refine Ey rfl ((Y.not (b := false) rfl).yd) (Eu (l3 rfl (Ez Z9 (Em rfl (Ey rfl ((g9 fo_Fact_0 f4 dc rfl).yd) (Ey rfl (f7 f4 rfl (Hz (mS m0) 0 rfl) rfl) (Ey rfl ((g9 fo_Fact_1 ty_Is dc rfl).yd) (Ey rfl (f7 ty_Is rfl (Hz (mS m0) 1 rfl) rfl) (Est rfl (N.call (D6 fc) rfl rfl rfl dc rfl (fun w Lp hA => ⟨t8, hA.ro m6⟩)) (fun k58 _ => ?_))))))))))
    obtain ⟨a58, m58, c58⟩ := k58
    refine d8 m0 fun e58 l58 => ?_
    subst e58
    refine Est rfl (Nb [_] [_, _] us_Facts ty_Fact rfl rfl) (fun b59 _ => (d7 (d7 (l6 (Est rfl (N.push (E := w9) (ex := (d6, c8)) us_Facts ty_Fact rfl rfl rfl (y6 (x := (d6, c8)) t8 Own.ow) rfl bn bn dc) (fun p60 _ => (Ei rfl (Ev Z2 (Em rfl (Ei rfl (Eu (E.ret (f9 (congrArg (ow f6 [_]) (show _ = s7 l (d6, c8) by grind [s7, B4, B5, C6, B7, E9, d1, d2, t1, t2])) ?_)))))))))))))
    exact Fg rfl rfl (_, _, _) rfl rfl
theorem a3H : Tr Tryz.prog 56 [.slice a_s m_s c_s, .slice a_l m_l c_l] (fun w L => Ro w L eIs [.slice a_s m_s c_s] s ∧ Ro w L f6 [.slice a_l m_l c_l] l) [] (κ := Unit) (fun k => True) (fun k => .bool (r7 s l)) (fun k => []) := by
 refine f8 Tryz.func56 rfl (n := 40) rfl (by decide +kernel) bl (fr := [(0, .slice a_s m_s c_s), (1, .slice a_l m_l c_l)]) rfl fun w L hR => ?_
 obtain ⟨hs, hl⟩ := hR
 obtain ⟨rfl, ls⟩ := hs.slen
 obtain ⟨rfl, ll⟩ := hl.slen
 refine Ew Z1 (Ei rfl (Eu (Eq_ (Ew Z3 (Em rfl (Ey rfl ((Y.len us_Facts rfl).yd) (Em rfl (Eu (E.block (E.loop (κ := Nat) (fun g => g ≤ l.length ∧ O9 s l 0 = O9 s l g) (fun g => [(0, .slice a_s s.length c_s), (1, .slice a_l l.length c_l), (7, .slice a_l l.length c_l), (8, .int .i64 (↑l.length : Int)), (9, .int .i64 (g : Int))]) (fun g => []) (fun g => l.length - g) 0 ⟨Nat.zero_le _, by simp⟩ ⟨rfl, rfl, rfl, rfl, rfl, trivial⟩ (.refl _) (fun g pg => ?_)))))))))))
 obtain ⟨pk, pa⟩ := pg
 refine Ew Z1 (Ey rfl ((Y.lss rfl rfl).yd) (j8 (fun q10 => ?_) (fun q10 => ?_)))
 ·refine Eu (Eq_ (l3 rfl (d9 (Et (Eq_ (E.block (Ew Z6 (Em rfl ?_))))))))
  obtain ⟨eb12, eo12, ec12, ea12, er12, el12, eh12⟩ := hl.elem g om
  obtain ⟨xa12_0, xc12_0, rfl, ei12_0, xh12_0⟩ := y8 er12
  have := xh12_0.slen.2
  refine Ey rfl ((r8 us_Facts ty_Fact rfl ea12 rfl g rfl om).yd) (Ey rfl (l8 (cs := [_, _]) ty_Fact rfl (eh12 _) rfl) (Est rfl (N.alloc ty_Fact dc) (fun b6 _ => (Ei rfl (Est rfl (Ns [_, _] ty_Fact rfl) (fun _ _ => (Eu (Eq_ (D.region (fun j => true) mixed (Dyp 0 rfl (g0 rfl) (Dy 1 rfl (l8 (cs := [_, _]) ty_Fact rfl (Has.pt m0) rfl) (w3 2 rfl rfl kr (fun _ => rfl) (f5 a1Y rfl rfl rfl dc (fun w Lp hA => ⟨hA.ro hs, ei12_0, hA.ro xh12_0⟩)) (fun _ _ => (r5 (fun q16 => ?_) (fun q16 => ?_)))))))))))))))
  ·refine Dyp 3 rfl (Y.not (b := true) rfl) (Dyp 4 rfl (g0 rfl) (Dyp 5 rfl (g0 rfl) (Dyp 6 rfl (Y.gtr rfl rfl) (j8 (fun q20 => ?_) (fun q20 => ?_)))))
   ·refine Dyp 7 rfl (g0 rfl) (Dyp 8 rfl (g0 rfl) (Dyp 9 rfl (g0 rfl) (Dyp 10 rfl (Y.sub rfl rfl om om) ?_)))
    obtain ⟨eb25, eo25, ec25, ea25, er25, el25, eh25⟩ := hl.elem (g - 1) om
    obtain ⟨xa25_0, xc25_0, rfl, ei25_0, xh25_0⟩ := y8 er25
    have := xh25_0.slen.2
    refine Dyp 11 rfl (r8 us_Facts ty_Fact rfl ea25 rfl (g - 1) om om) (Dy 12 rfl (l8 (cs := [_, _]) ty_Fact rfl (eh25 _) rfl) (Dy 13 rfl (l8 (cs := [_, _]) ty_Fact rfl (Has.pt m0) rfl) (w3 14 rfl rfl kr (fun _ => rfl) (f5 G2 rfl rfl rfl dc (fun w Lp hA => ⟨ei25_0, hA.ro xh25_0, ei12_0, hA.ro xh12_0⟩)) (fun _ _ => (Dyp 15 rfl (Y.geq rfl rfl) (j8 (fun q29 => ?_) (fun q29 => ?_)))))))
    ·refine Dyp 16 rfl (o0 rfl rfl) (Dyp 17 rfl (o6 rfl rfl) (o3 kr (Et (l3 rfl (Ew Z1 (Ei rfl ?_))))))
     exact Eu (E.ret (w8 (j0 (j0 (w8 (j0 (Fb rfl rfl (by grind [r7, O9, E6, E7, G1, ltF, d1, d2, t1, t2]))))))))
    ·refine Dyp 16 rfl (o0 rfl rfl) (Dyp 17 rfl (o6 rfl rfl) (o3 kr (Et (l4 rfl (d9 (o2 (Et (Ez Z2 (Ey rfl ((Y.add rfl rfl om om).yd) (Em rfl (Eu (Ent.drop ?_))))))))))))
     exact u7 br (g + 1) rs (.refl _) ⟨by omega, by grind [O9, E6, E7, G1, ltF, Bool.and_assoc, d1, d2, t1, t2]⟩ om
   ·refine Dyp 7 rfl (g0 rfl) (Dsk 8 rfl (Dsk 9 rfl (Dsk 10 rfl (Dsk 11 rfl (Dsk 12 rfl (Dsk 13 rfl (Dsk 14 rfl (Dsk 15 rfl (Dyp 16 rfl (o6 rfl rfl) (Dyp 17 rfl (o6 rfl rfl) (o3 kr (Et (l4 rfl (d9 (o2 (Et (Ez Z2 (Ey rfl ((Y.add rfl rfl om om).yd) (Em rfl (Eu (Ent.drop ?_)))))))))))))))))))))
    exact u7 br (g + 1) rs (.refl _) ⟨by omega, by grind [O9, E6, E7, G1, ltF, Bool.and_assoc, d1, d2, t1, t2]⟩ om
  ·refine Dyp 3 rfl (Y.not (b := false) rfl) (Dyp 4 rfl (g0 rfl) (Dsk 5 rfl (Dsk 6 rfl (b2i 7 rfl rfl dc kr (Dsk 8 rfl (Dsk 9 rfl (Dsk 10 rfl (Dsk 11 rfl (Dsk 12 rfl (Dsk 13 rfl (Dsk 14 rfl (Dsk 15 rfl (Dsk 16 rfl (Dyp 17 rfl (o0 rfl rfl) ?_))))))))))))))
   refine o3 kr (Et (l3 rfl (Ew Z1 (Ei rfl ?_))))
   exact Eu (E.ret (w8 (j0 (j0 (w8 (j0 (Fb rfl rfl (by grind [r7, O9, E6, E7, G1, ltF, d1, d2, t1, t2]))))))))
 ·refine Eu (Eq_ (l4 rfl (E.exit (n8 (n8 (w7 (Et (Ew Z8 (Em rfl (Est rfl (f5 S9 rfl rfl rfl dc (fun w Lp hA => hA.ro hs)) (fun _ _ => (r5 (fun q34 => ?_) (fun q34 => ?_)))))))))))))
  ·refine Em rfl (Em rfl (Ey rfl ((Y.len us_Facts rfl).yd) (Ey rfl ((Y.leq rfl rfl).yd) (Ey rfl ((o0 rfl rfl).yd) (Ei rfl ?_)))))
   exact Eu (E.ret (Fb rfl rfl (by grind [r7, O9, E6, E7, G1, ltF, d1, d2, t1, t2])))
  ·refine Em rfl (Es rfl (Es rfl (Es rfl (Ey rfl ((o6 rfl rfl).yd) (Ei rfl ?_)))))
   exact Eu (E.ret (Fb rfl rfl (by grind [r7, O9, E6, E7, G1, ltF, d1, d2, t1, t2])))
theorem P1 : Tr Tryz.prog 14 [.slice a_s m_s c_s, .slice a_l m_l c_l] (fun w L => Ro w L eIs [.slice a_s m_s c_s] s ∧ Ro w L f6 [.slice a_l m_l c_l] l) [] (κ := Unit) (fun k => True) (fun k => .bool (r7 s l)) (fun k => []) := by
 refine f8 Tryz.func14 rfl (n := 43) rfl (by decide +kernel) bl (fr := [(0, .slice a_s m_s c_s), (1, .slice a_l m_l c_l)]) rfl fun w L hR => ?_
 obtain ⟨hs, hl⟩ := hR
 obtain ⟨rfl, ls⟩ := hs.slen
 obtain ⟨rfl, ll⟩ := hl.slen
 refine Ew Z1 (Ei rfl (Eu (Eq_ (Ew Z1 (Ei rfl (Eu (E.block (E.loop (κ := Nat) (fun g => g ≤ l.length ∧ O9 s l 0 = O9 s l g) (fun g => [(0, .slice a_s s.length c_s), (1, .slice a_l l.length c_l), (5, .int .i64 (g : Int))]) (fun g => []) (fun g => l.length - g) 0 ⟨Nat.zero_le _, by simp⟩ ⟨rfl, rfl, rfl, trivial⟩ (.refl _) (fun g pg => ?_)))))))))
 obtain ⟨pk, pa⟩ := pg
 refine Eq_ (Ew Z4 (Em rfl (Em rfl (Ey rfl ((Y.len us_Facts rfl).yd) (Ey rfl ((Y.lss rfl rfl).yd) (j8 (fun q9 => ?_) (fun q9 => ?_)))))))
 ·refine Eu (l3 rfl (d9 (Et (Eq_ (E.block (Eq_ (D.region (fun j => true) mixed (Dyp 0 rfl (g0 rfl) (Dyp 1 rfl (g0 rfl) (Dyp 2 rfl (g0 rfl) ?_))))))))))
  obtain ⟨eb15, eo15, ec15, ea15, er15, el15, eh15⟩ := hl.elem g om
  obtain ⟨xa15_0, xc15_0, rfl, ei15_0, xh15_0⟩ := y8 er15
  have := xh15_0.slen.2
  refine Dyp 3 rfl (r8 us_Facts ty_Fact rfl ea15 rfl g rfl om) (Dy 4 rfl (l8 (cs := [_, _]) ty_Fact rfl (eh15 _) rfl) (w3 5 rfl rfl kr (fun _ => rfl) (f5 a1X rfl rfl rfl dc (fun w Lp hA => ⟨hA.ro hs, ei15_0, hA.ro xh15_0⟩)) (fun _ _ => (r5 (fun q17 => ?_) (fun q17 => ?_)))))
  ·refine Dyp 6 rfl (Y.not (b := true) rfl) (Dyp 7 rfl (g0 rfl) (Dyp 8 rfl (g0 rfl) (Dyp 9 rfl (Y.gtr rfl rfl) (j8 (fun q21 => ?_) (fun q21 => ?_)))))
   ·refine Dyp 10 rfl (g0 rfl) (Dyp 11 rfl (g0 rfl) (Dyp 12 rfl (g0 rfl) (Dyp 13 rfl (Y.sub rfl rfl om om) ?_)))
    obtain ⟨eb26, eo26, ec26, ea26, er26, el26, eh26⟩ := hl.elem (g - 1) om
    obtain ⟨xa26_0, xc26_0, rfl, ei26_0, xh26_0⟩ := y8 er26
    have := xh26_0.slen.2
    refine Dyp 14 rfl (r8 us_Facts ty_Fact rfl ea26 rfl (g - 1) om om) (Dy 15 rfl (l8 (cs := [_, _]) ty_Fact rfl (eh26 _) rfl) (Dyp 16 rfl (g0 rfl) (Dyp 17 rfl (g0 rfl) (Dyp 18 rfl (r8 us_Facts ty_Fact rfl ea15 rfl g rfl om) (Dy 19 rfl (l8 (cs := [_, _]) ty_Fact rfl (eh15 _) rfl) (w3 20 rfl rfl kr (fun _ => rfl) (f5 B3 rfl rfl rfl dc (fun w Lp hA => ⟨ei26_0, hA.ro xh26_0, ei15_0, hA.ro xh15_0⟩)) (fun _ _ => (Dyp 21 rfl (Y.geq rfl rfl) (j8 (fun q33 => ?_) (fun q33 => ?_))))))))))
    ·refine Dyp 22 rfl (o0 rfl rfl) (Dyp 23 rfl (o6 rfl rfl) (o3 kr (Et (l3 rfl (Ew Z1 (Ei rfl ?_))))))
     exact Eu (E.ret (w8 (j0 (j0 (w8 (j0 (Fb rfl rfl (by grind [r7, O9, E6, E7, G1, ltF, d1, d2, t1, t2]))))))))
    ·refine Dyp 22 rfl (o0 rfl rfl) (Dyp 23 rfl (o6 rfl rfl) (o3 kr (Et (l4 rfl (d9 (o2 (Et (Ez Z3 (Em rfl (Ey rfl ((Y.add rfl rfl om om).yd) (Ei rfl ?_)))))))))))
     exact Eu (u7 br (g + 1) rs (.refl _) ⟨by omega, by grind [O9, E6, E7, G1, ltF, Bool.and_assoc, d1, d2, t1, t2]⟩ om)
   ·refine Dyp 10 rfl (g0 rfl) (Dsk 11 rfl (Dsk 12 rfl (Dsk 13 rfl (Dsk 14 rfl (Dsk 15 rfl (Dsk 16 rfl (Dsk 17 rfl (Dsk 18 rfl (Dsk 19 rfl (Dsk 20 rfl (Dsk 21 rfl (Dyp 22 rfl (o6 rfl rfl) (Dyp 23 rfl (o6 rfl rfl) (o3 kr (Et (l4 rfl (d9 (o2 (Et (Ez Z3 (Em rfl ?_)))))))))))))))))))))
    refine Ey rfl ((Y.add rfl rfl om om).yd) (Ei rfl ?_)
    exact Eu (u7 br (g + 1) rs (.refl _) ⟨by omega, by grind [O9, E6, E7, G1, ltF, Bool.and_assoc, d1, d2, t1, t2]⟩ om)
  ·refine Dyp 6 rfl (Y.not (b := false) rfl) (Dyp 7 rfl (g0 rfl) (Dsk 8 rfl (Dsk 9 rfl (b2i 10 rfl rfl dc kr (Dsk 11 rfl (Dsk 12 rfl (Dsk 13 rfl (Dsk 14 rfl (Dsk 15 rfl (Dsk 16 rfl (Dsk 17 rfl (Dsk 18 rfl (Dsk 19 rfl (Dsk 20 rfl ?_))))))))))))))
   refine Dsk 21 rfl (Dsk 22 rfl (Dyp 23 rfl (o0 rfl rfl) (o3 kr (Et (l3 rfl (Ew Z1 (Ei rfl ?_)))))))
   exact Eu (E.ret (w8 (j0 (j0 (w8 (j0 (Fb rfl rfl (by grind [r7, O9, E6, E7, G1, ltF, d1, d2, t1, t2]))))))))
 ·refine Eu (l4 rfl (E.exit (n8 (n8 (w7 (Et (Ew Z8 (Em rfl (Est rfl (f5 F3 rfl rfl rfl dc (fun w Lp hA => hA.ro hs)) (fun _ _ => (r5 (fun q37 => ?_) (fun q37 => ?_))))))))))))
  ·refine Em rfl (Em rfl (Ey rfl ((Y.len us_Facts rfl).yd) (Ey rfl ((Y.leq rfl rfl).yd) (Ey rfl ((o0 rfl rfl).yd) (Ei rfl ?_)))))
   exact Eu (E.ret (Fb rfl rfl (by grind [r7, O9, E6, E7, G1, ltF, d1, d2, t1, t2])))
  ·refine Em rfl (Es rfl (Es rfl (Es rfl (Ey rfl ((o6 rfl rfl).yd) (Ei rfl ?_)))))
   exact Eu (E.ret (Fb rfl rfl (by grind [r7, O9, E6, E7, G1, ltF, d1, d2, t1, t2])))
theorem P4 {l : List (Int × Int × List Int)} {a_facts : Option Addr} {m_facts c_facts : Nat} {a6 : List (Int × List Int)} : Tr Tryz.prog 91 [.slice a_s m_s c_s, .slice a_l m_l c_l, .slice a_facts m_facts c_facts] (fun w L => Ro w L eIs [.slice a_s m_s c_s] s ∧ Ro w L D0 [.slice a_l m_l c_l] l ∧ Ro w L f6 [.slice a_facts m_facts c_facts] a6) [] (κ := Unit) (fun k => True) (fun k => .bool (o4 s l && r7 s a6)) (fun k => []) := by
 refine f8 Tryz.func91 rfl (n := 15) rfl (by decide +kernel) bl (fr := [(0, .slice a_s m_s c_s), (1, .slice a_l m_l c_l), (2, .slice a_facts m_facts c_facts)]) rfl fun w L hR => ?_
 obtain ⟨hs, hl, hfacts⟩ := hR
 obtain ⟨rfl, ls⟩ := hs.slen
 obtain ⟨rfl, ll⟩ := hl.slen
 obtain ⟨rfl, lfacts⟩ := hfacts.slen
 refine Ew Z1 (Ei rfl (Ev Z9 (Em rfl (Em rfl (Est rfl (f5 U1 rfl rfl rfl dc (fun w Lp hA => ⟨hA.ro hs, hA.ro hl⟩)) (fun _ _ => (r5 (fun q9 => ?_) (fun q9 => ?_))))))))
 ·refine Em rfl (Em rfl (Em rfl (Est rfl (f5 a3H rfl rfl rfl dc (fun w Lp hA => ⟨hA.ro hs, hA.ro hfacts⟩)) (fun _ _ => (Ey rfl ((o0 rfl rfl).yd) (Ei rfl ?_))))))
  exact Eu (E.ret (Fb rfl rfl (by grind [d1, d2, t1, t2])))
 ·refine Em rfl (Es rfl (Es rfl (Es rfl (Ey rfl ((o6 rfl rfl).yd) (Ei rfl ?_)))))
  exact Eu (E.ret (Fb rfl rfl (by grind [d1, d2, t1, t2])))
end Go.Proofs.YtfnbilpemdgkkaaGreatDoor
