import Derived.Test.YtlfhopooaejpfaaGreatT12
import Derived.Test.YtlfhopooaejpfaaGreatT9
import Derived.Test.YtlfhopooaejpfaaGreatT7
namespace Go.Proofs.YtlfhopooaejpfaaGreat
open Go.RowKit
set_option linter.all false
set_option maxHeartbeats 2000000
attribute [local irreducible] Nop Yd Yp Ent Has Tr FnP FnP2 Src o6 d7 O0 a0h H2
variable {l0 : Int} {l : List (Int × List Int)} {d9 : List Int} {B7 y5 m_l c_l : Nat} {y6 a_l : Option Addr}
theorem a3p (hyf : d9.length ≤ 1048576) : Tr Tryz.prog 189 [.agg #[.int .i64 l0, .slice y6 B7 y5]] (fun w L => I64 l0 ∧ Ro w L eIs [.slice y6 B7 y5] d9) [] (κ := Option Addr × Nat × Nat) (fun k => True) (fun k => .agg #[.int .i64 l0, .slice k.1 k.2.1 k.2.2]) (fun k => [ow eIs [.slice k.1 k.2.1 k.2.2] d9]) := by
 refine Tr.intro Tryz.func189 rfl (n := 9) rfl (by decide +kernel) bl (fr := [(0, .agg #[.int .i64 l0, .slice y6 B7 y5])]) rfl fun w L hR => ?_
 obtain ⟨H5, B4⟩ := hR
 obtain ⟨rfl, R4⟩ := B4.slen
 refine Ew Z2 (Est rfl (N.box (cs := [_, _]) rfl dc rfl) (fun b1 _ => (Est rfl (N.alloc ty_Fact dc) (fun b2 _ => (Eu (Eq_ (D.region (fun j => !(Nat.beq j 6)) mixed (Dyp 0 rfl (i8 fo_Fact_0 f5 dc rfl) (Dy 1 rfl (g9 f5 rfl (Hz (mS m0) 0 rfl) rfl) (Dyp 2 rfl (i8 fo_Fact_1 ty_Is dc rfl) (Dy 3 rfl (g9 ty_Is rfl (Hz (mS m0) 1 rfl) rfl) (u7 4 rfl rfl kr (fun _ => rfl) (N.call (a2l fc) rfl rfl rfl dc rfl (fun w Lp hA => hA.ro B4)) (fun k7 _ => ?_)))))))))))))
 obtain ⟨a7, m7, c7⟩ := k7
 refine d6 m0 fun e7 l7 => ?_
 subst e7
 refine Dyp 5 rfl (I3 (pvs := [_, _]) (cs := [_, _]) ty_Fact a3Q rfl rfl) (d8 (u7 6 rfl rfl kr (fun h => by cases h) (Ns [_, _] ty_Fact rfl) (fun _ _ => (t6 kr (Et (E.ret (d8 ?_)))))))
 exact O7 br rfl rfl (mS m0) ty_Fact rfl (_, _, _) trivial rfl (J := _) (.refl _) (.inl rfl)
theorem R1 {rel : Int} {a_values : Option Addr} {m_values c_values : Nat} {j6 : List Int} (hz : j6.length ≤ 1048576) : Tr Tryz.prog 128 [.int .i64 rel, .slice a_values m_values c_values] (fun w L => I64 rel ∧ Ro w L eIs [.slice a_values m_values c_values] j6) [] (κ := Option Addr × Nat × Nat) (fun k => True) (fun k => .agg #[.int .i64 rel, .slice k.1 k.2.1 k.2.2]) (fun k => [ow eIs [.slice k.1 k.2.1 k.2.2] j6]) := by
 refine Tr.intro Tryz.func128 rfl (n := 10) rfl (by decide +kernel) bl (fr := [(0, .int .i64 rel), (1, .slice a_values m_values c_values)]) rfl fun w L hR => ?_
 obtain ⟨i6rel, hvalues⟩ := hR
 obtain ⟨rfl, lvalues⟩ := hvalues.slen
 refine Ew Z1 (Est rfl (N.alloc ty_Fact dc) (fun b4 _ => (Ev Z6 (Em rfl (Est rfl (Nb [] [] us_Is f5 rfl rfl) (fun b6 _ => (Ent.drop (Em rfl (Est rfl (P8 (E := Enc.int) Plain.int us_Is f5 rfl rfl rfl hvalues bn bn dc) (fun p8 _ => (Ey rfl ((I3 (pvs := [_, _]) (cs := [_, _]) ty_Fact a3Q rfl rfl).yd) (d8 (Est rfl (Ns [_, _] ty_Fact rfl) (fun _ _ => (Eu (E.ret (d8 ?_)))))))))))))))))
 exact O7 br rfl rfl (mS m0) ty_Fact rfl (_, _, _) trivial rfl (J := _) (.refl _) (.inl rfl)
theorem a4Q (hz : l.length ≤ 1073741824) (hyl : ∀ x ∈ l, x.2.length ≤ 1048576) : Tr Tryz.prog 156 [.slice a_l m_l c_l] (fun w L => Ro w L s6 [.slice a_l m_l c_l] l) [] (κ := Option Addr × Nat × Nat) (fun k => True) (fun k => .slice k.1 k.2.1 k.2.2) (fun k => [ow s6 [.slice k.1 k.2.1 k.2.2] l]) := by
 refine Tr.intro Tryz.func156 rfl (n := 20) rfl (by decide +kernel) bl (fr := [(0, .slice a_l m_l c_l)]) rfl fun w L hR => ?_
 have hl := hR
 obtain ⟨rfl, ll⟩ := hl.slen
 refine Ew Z1 (Ei rfl (Ev Z2 (Est rfl (Nb [] [] us_Facts ty_Fact rfl rfl) (fun b6 _ => (Ent.drop (Ei rfl (Eu (Eq_ (Ew Z3 (Em rfl (Ey rfl ((Y.len us_Facts rfl).yd) (Em rfl (Eu (E.block (s7 (A := []) (Own.nil (E := F6) (e := tFact) (a := (some ⟨b6, 0, none⟩))) rfl (f6 (congrArg (ow s6 [_]) (show [] = l.take 0 from by first | rfl | (simp; done) | grind [d1, d2, t1, t2])) (E.loop (κ := Nat × Option Addr × Nat × Nat) (fun g => g.1 ≤ l.length ∧ True) (fun g => [(3, .slice g.2.1 g.2.2.1 g.2.2.2), (7, .slice a_l l.length c_l), (8, .int .i64 (↑l.length : Int)), (9, .int .i64 (↑g.1 : Int))]) (fun g => [ow s6 [.slice g.2.1 g.2.2.1 g.2.2.2] (l.take g.1)]) (fun g => l.length - g.1) (0, (some ⟨b6, 0, none⟩), 0, 0) ⟨Nat.zero_le _, by simp⟩ ⟨rfl, rfl, rfl, rfl, trivial⟩ (.refl _) (fun g pg => ?_))))))))))))))))))
 obtain ⟨g, aA0_0, mA0_0, cA0_0⟩ := g
 try dsimp only at pg
 try dsimp only
 obtain ⟨pk, pa⟩ := pg
 have jp := List.length_take_le g l
 refine d6 m0 fun eaA0_0 laA0_0 => ?_
 subst eaA0_0
 refine Ew Z1 (Ey rfl ((Y.lss rfl rfl).yd) (n9 (fun q10 => ?_) (fun q10 => ?_)))
 ·obtain ⟨eb11, eo11, ec11, ea11, er11, el11, eh11⟩ := hl.elem g om
  obtain ⟨xa11_0, xc11_0, rfl, ei11_0, xh11_0⟩ := R0 er11
  have := xh11_0.slen.2
  refine Eu (Eq_ (o0 rfl (f9 (Et (Eq_ (E.block (Ew Z4 (Ey rfl ((w3 us_Facts ty_Fact rfl ea11 rfl g rfl om).yd) (Ey rfl (r9 (cs := [_, _]) ty_Fact rfl (eh11 _) rfl) (Est rfl (N.alloc ty_Fact dc) (fun b5 _ => (Est rfl (Ns [_, _] ty_Fact rfl) (fun _ _ => (Eu (Ez Z6 (Em rfl (Ey rfl (r9 (cs := [_, _]) ty_Fact rfl (Has.pt m0) rfl) (Est rfl (N.call (a3p (hyl _ (List.getElem_mem om))) rfl rfl rfl dc rfl (fun w Lp hA => ⟨ei11_0, hA.ro xh11_0⟩)) (fun k15 _ => ?_)))))))))))))))))))
  obtain ⟨a15, m15, c15⟩ := k15
  refine d6 m0 fun e15 l15 => ?_
  subst e15
  refine Est rfl (Nb [_] [_, _] us_Facts ty_Fact rfl rfl) (fun b16 _ => (d8 (d8 (o2 (Est rfl (B2 (E := F6) (ex := l[g]) us_Facts ty_Fact rfl rfl rfl (M8 (x := l[g]) ei11_0 Own.ow) rfl bn bn dc) (fun p17 _ => (Ei rfl (En (s8 (Et (Ez Z2 (Ey rfl ((Y.add rfl rfl om om).yd) (Em rfl (Eu (d8 (Ent.drop (f6 (congrArg (ow s6 [_]) (show (l.take g) ++ [l[g]] = l.take (g + 1) from by grind [d1, d2, t1, t2])) ?_)))))))))))))))))
  exact Ea (g + 1, p17.1, ((l.take g).length + 1), p17.2) ⟨oz, trivial⟩
 ·refine Eu (Eq_ (n8 rfl (E.exit (l3 (l3 (y4 (Et (Ew Z2 (Em rfl (Ei rfl (Eu (E.ret (f6 (congrArg (ow s6 [_]) (show _ = l by grind [d1, d2, t1, t2])) ?_)))))))))))))
  exact Fg rfl rfl (_, _, _) rfl rfl
theorem b1O (hz : l.length ≤ 1073741824) (hyl : ∀ x ∈ l, x.2.length ≤ 1048576) : Tr Tryz.prog 168 [.slice a_l m_l c_l] (fun w L => Ro w L s6 [.slice a_l m_l c_l] l) [] (κ := Option Addr × Nat × Nat) (fun k => True) (fun k => .slice k.1 k.2.1 k.2.2) (fun k => [ow s6 [.slice k.1 k.2.1 k.2.2] l]) := by
 refine Tr.intro Tryz.func168 rfl (n := 27) rfl (by decide +kernel) bl (fr := [(0, .slice a_l m_l c_l)]) rfl fun w L hR => ?_
 have hl := hR
 obtain ⟨rfl, ll⟩ := hl.slen
 refine Ew Z1 (Ei rfl (Ev Z2 (Est rfl (Nb [] [] us_Facts ty_Fact rfl rfl) (fun b5 _ => (Ent.drop (Ei rfl (Eu (Eq_ (Ew Z1 (Ei rfl (Eu (E.block (s7 (A := []) (Own.nil (E := F6) (e := tFact) (a := (some ⟨b5, 0, none⟩))) rfl (f6 (congrArg (ow s6 [_]) (show [] = l.take 0 from by first | rfl | (simp; done) | grind [d1, d2, t1, t2])) (E.loop (κ := Nat × Option Addr × Nat × Nat) (fun g => g.1 ≤ l.length ∧ True) (fun g => [(0, .slice a_l l.length c_l), (3, .slice g.2.1 g.2.2.1 g.2.2.2), (4, .int .i64 (↑g.1 : Int))]) (fun g => [ow s6 [.slice g.2.1 g.2.2.1 g.2.2.2] (l.take g.1)]) (fun g => l.length - g.1) (0, (some ⟨b5, 0, none⟩), 0, 0) ⟨Nat.zero_le _, by simp⟩ ⟨rfl, rfl, rfl, trivial⟩ (.refl _) (fun g pg => ?_))))))))))))))))
 obtain ⟨g, aA0_0, mA0_0, cA0_0⟩ := g
 try dsimp only at pg
 try dsimp only
 obtain ⟨pk, pa⟩ := pg
 have jp := List.length_take_le g l
 refine d6 m0 fun eaA0_0 laA0_0 => ?_
 subst eaA0_0
 refine Eq_ (Ew Z4 (Em rfl (Em rfl (Ey rfl ((Y.len us_Facts rfl).yd) (Ey rfl ((Y.lss rfl rfl).yd) (n9 (fun q9 => ?_) (fun q9 => ?_)))))))
 ·refine Eu (o0 rfl (f9 (Et (Eq_ (E.block (D.region (fun j => !(Nat.beq j 13)) mixed (Dyp 0 rfl (k6 rfl) (Dyp 1 rfl (k6 rfl) (Dyp 2 rfl (k6 rfl) ?_)))))))))
  obtain ⟨eb15, eo15, ec15, ea15, er15, el15, eh15⟩ := hl.elem g om
  obtain ⟨xa15_0, xc15_0, rfl, ei15_0, xh15_0⟩ := R0 er15
  have := xh15_0.slen.2
  refine Dyp 3 rfl (w3 us_Facts ty_Fact rfl ea15 rfl g rfl om) (Dyp 4 rfl (i8 fo_Fact_0 f5 dc rfl) (Dy 5 rfl (g9 f5 rfl ((eh15 _).sub (cs' := [_]) 0 rfl) rfl) (Dyp 6 rfl (k6 rfl) (Dyp 7 rfl (k6 rfl) (Dyp 8 rfl (w3 us_Facts ty_Fact rfl ea15 rfl g rfl om) (Dyp 9 rfl (i8 fo_Fact_1 ty_Is dc rfl) (Dy 10 rfl (g9 ty_Is rfl ((eh15 _).sub (cs' := [_]) 1 rfl) rfl) (u7 11 rfl rfl kr (fun _ => rfl) (N.call (R1 (hyl _ (List.getElem_mem om))) rfl rfl rfl dc rfl (fun w Lp hA => ⟨ei15_0, hA.ro xh15_0⟩)) (fun k23 _ => ?_)))))))))
  obtain ⟨a23, m23, c23⟩ := k23
  refine d6 m0 fun e23 l23 => ?_
  subst e23
  refine u7 12 rfl rfl kr (fun _ => rfl) (Nb [_] [_, _] us_Facts ty_Fact rfl rfl) (fun b24 _ => (d8 (d8 (j7 (u7 13 rfl rfl kr (fun h => by cases h) (B2 (E := F6) (ex := l[g]) us_Facts ty_Fact rfl rfl rfl (M8 (x := l[g]) ei15_0 Own.ow) rfl bn bn dc) (fun p25 _ => (Dyp 14 rfl (F1 rfl) (t6 kr (s8 (Et (Ez Z3 (Em rfl (Ey rfl ((Y.add rfl rfl om om).yd) (Ei rfl (Eu (f6 (congrArg (ow s6 [_]) (show (l.take g) ++ [l[g]] = l.take (g + 1) from by grind [d1, d2, t1, t2])) ?_))))))))))))))))
  exact Ea (g + 1, p25.1, ((l.take g).length + 1), p25.2) ⟨oz, trivial⟩
 ·refine Eu (n8 rfl (E.exit (l3 (l3 (y4 (Et (Ew Z2 (Em rfl (Ei rfl (Eu (E.ret (f6 (congrArg (ow s6 [_]) (show _ = l by grind [d1, d2, t1, t2])) ?_))))))))))))
  exact Fg rfl rfl (_, _, _) rfl rfl
theorem b0o {a1y : Int} {Q7 : Option Addr} {Q8 Q9 : Nat} {a0l : List Int} {b_f : Nat} : Tr Tryz.prog 187 [.agg #[.int .i64 a1y, .slice Q7 Q8 Q9], .pointer (some ⟨b_f, 0, none⟩)] (fun w L => (I64 a1y ∧ Ro w L eIs [.slice Q7 Q8 Q9] a0l) ∧ RoPt w L b_f [.int .i64 l0, .slice y6 B7 y5] ∧ I64 l0 ∧ Ro w L eIs [.slice y6 B7 y5] d9) [] (κ := Unit) (fun k => True) (fun k => .bool (decide (0 < Q0 (a1y, a0l) (l0, d9)))) (fun k => []) := by
 refine Tr.intro Tryz.func187 rfl (n := 8) rfl (by decide +kernel) bl (fr := [(0, .agg #[.int .i64 a1y, .slice Q7 Q8 Q9]), (1, .pointer (some ⟨b_f, 0, none⟩))]) rfl fun w L hR => ?_
 obtain ⟨⟨a6h, a0c⟩, hb_f, H5, B4⟩ := hR
 obtain ⟨rfl, a7S⟩ := a0c.slen
 obtain ⟨rfl, R4⟩ := B4.slen
 refine Ew Z2 (Est rfl (N.box (cs := [_, _]) rfl dc rfl) (fun b2 _ => (Ei rfl (Ev Z5 (Ey rfl (r9 (cs := [_, _]) ty_Fact rfl (Has.pt m0) rfl) (Ey rfl (r9 (cs := [_, _]) ty_Fact rfl (hb_f.has) rfl) (Est rfl (o4 a1P rfl rfl rfl dc (fun w Lp hA => ⟨a6h, hA.ro a0c, H5, hA.ro B4⟩)) (fun _ _ => (Ey rfl ((Y.gtr rfl rfl).yd) (Ei rfl ?_))))))))))
 exact Eu (E.ret (Fg rfl rfl () rfl rfl))
theorem a3k (hz : l.length ≤ 1000000000) (hyf : d9.length ≤ 1048576) : Tr Tryz.prog 122 [.slice a_l m_l c_l, .agg #[.int .i64 l0, .slice y6 B7 y5]] (fun w L => I64 l0 ∧ Ro w L eIs [.slice y6 B7 y5] d9) [ow s6 [.slice a_l m_l c_l] l] (κ := Option Addr × Nat × Nat) (fun k => True) (fun k => .slice k.1 k.2.1 k.2.2) (fun k => [ow s6 [.slice k.1 k.2.1 k.2.2] (w6 l (l0, d9))]) := by
 refine Tr.intro Tryz.func122 rfl (n := 23) rfl (by decide +kernel) bl (fr := [(0, .slice a_l m_l c_l), (1, .agg #[.int .i64 l0, .slice y6 B7 y5])]) rfl fun w L hR => ?_
 obtain ⟨H5, B4⟩ := hR
 obtain ⟨rfl, R4⟩ := B4.slen
 refine d6 m0 fun el ll => ?_
 subst el
 refine Ew Z2 (Est rfl (N.box (cs := [_, _]) rfl dc rfl) (fun b3 _ => (Ei rfl (Eu (Eq_ (Ew Z3 (Em rfl (Ey rfl (r9 (cs := [_, _]) ty_Fact rfl (Has.pt m0) rfl) (Est rfl (o4 a3L rfl rfl rfl dc (fun w Lp hA => ⟨hA.ow (mS m0), H5, hA.ro B4⟩)) (fun _ _ => (Ent.b (fun q8 => ?_) (fun q8 => ?_))))))))))))
 ·refine Eu (o0 rfl (Ew Z2 (Em rfl (Ei rfl (Eu (E.ret (s9 (d8 (f6 (congrArg (ow s6 [_]) (show _ = w6 l (l0, d9) by grind [a4O, a8B])) ?_)))))))))
  exact Fg rfl rfl (_, _, _) rfl rfl
 ·refine Eu (n8 rfl (f9 (Et (Ew Z4 (Em rfl (Ey rfl ((Y.fn (vs := [_]) rfl).yd) (Est rfl (o4 (a2J (f := (fun z => decide (0 < Q0 z (l0, d9)))) (D_f := (fun _ => True)) (by intros; exact trivial)) rfl rfl rfl dc (fun w Lp hA => ⟨hA.ow (mS m0), a4r (D := (fun _ => True)) (fun hd => b0o) (fun w' hk => ⟨(hA.pt m0).keep hk, H5, (hA.ro B4).keep hk⟩)⟩)) (fun _ _ => (Ei rfl (Eu (Eq_ (Ew Z2 (Em rfl (Ey rfl ((Y.lss rfl rfl).yd) (n9 (fun q14 => ?_) (fun q14 => ?_))))))))))))))))
  ·refine Eu (o0 rfl (Ez Z3 (Em rfl (Ey rfl ((Y.len us_Facts rfl).yd) (Ei rfl (Ev Z7 (Em rfl (Em rfl (Ey rfl (r9 (cs := [_, _]) ty_Fact rfl (Has.pt m0) rfl) (Est rfl (N.call (a3p fc) rfl rfl rfl dc rfl (fun w Lp hA => ⟨H5, hA.ro B4⟩)) (fun k20 _ => ?_)))))))))))
   obtain ⟨a20, m20, c20⟩ := k20
   refine d6 m0 fun e20 l20 => ?_
   subst e20
   refine Est rfl (Nb [_] [_, _] us_Facts ty_Fact rfl rfl) (fun b21 _ => (d8 (d8 (s7 (A := _ :: _) (a1A (E := F6) (e := tFact) (M8 (x := (l0, d9)) H5 Own.ow)) rfl ?_))))
   have ji := a5v (p := fun z => decide (0 < Q0 z (l0, d9))) (s := l)
   refine j7 (Est rfl (N.call (pre := [_, _]) (a6R om (by simp) (by simp; omega)) rfl rfl rfl dc rfl tv) (fun k22 _ => ?_))
   obtain ⟨a22, m22, c22⟩ := k22
   refine d6 m0 fun e22 l22 => ?_
   subst e22
   refine Ei rfl (Eu (E.ret (f6 (congrArg (ow s6 [_]) (show _ = w6 l (l0, d9) by grind [a4O, a8B])) ?_)))
   exact Fg rfl rfl (_, _, _) rfl rfl
  ·refine Eu (n8 rfl (f9 (Et (Ew Z7 (Em rfl (Em rfl (Ey rfl (r9 (cs := [_, _]) ty_Fact rfl (Has.pt m0) rfl) (Est rfl (N.call (a3p fc) rfl rfl rfl dc rfl (fun w Lp hA => ⟨H5, hA.ro B4⟩)) (fun k20 _ => ?_)))))))))
   obtain ⟨a20, m20, c20⟩ := k20
   refine d6 m0 fun e20 l20 => ?_
   subst e20
   refine Est rfl (Nb [_] [_, _] us_Facts ty_Fact rfl rfl) (fun b21 _ => (d8 (d8 (s7 (A := _ :: _) (a1A (E := F6) (e := tFact) (M8 (x := (l0, d9)) H5 Own.ow)) rfl ?_))))
   have ji := a5v (p := fun z => decide (0 < Q0 z (l0, d9))) (s := l)
   refine j7 (Est rfl (N.call (pre := [_, _]) (a6R om (by simp) (by simp; omega)) rfl rfl rfl dc rfl tv) (fun k22 _ => ?_))
   obtain ⟨a22, m22, c22⟩ := k22
   refine d6 m0 fun e22 l22 => ?_
   subst e22
   refine Ei rfl (Eu (E.ret (f6 (congrArg (ow s6 [_]) (show _ = w6 l (l0, d9) by grind [a4O, a8B])) ?_)))
   exact Fg rfl rfl (_, _, _) rfl rfl
theorem a0v (hz : l.length ≤ 1000000000) (hyl : ∀ x ∈ l, x.2.length ≤ 1048576) (hyf : d9.length ≤ 1048576) : Tr Tryz.prog 52 [.slice a_l m_l c_l, .agg #[.int .i64 l0, .slice y6 B7 y5]] (fun w L => Ro w L s6 [.slice a_l m_l c_l] l ∧ I64 l0 ∧ Ro w L eIs [.slice y6 B7 y5] d9) [] (κ := Option Addr × Nat × Nat) (fun k => True) (fun k => .slice k.1 k.2.1 k.2.2) (fun k => [ow s6 [.slice k.1 k.2.1 k.2.2] (w6 l (l0, d9))]) := by
 refine Tr.intro Tryz.func52 rfl (n := 62) rfl (by decide +kernel) bl (fr := [(0, .slice a_l m_l c_l), (1, .agg #[.int .i64 l0, .slice y6 B7 y5])]) rfl fun w L hR => ?_
 obtain ⟨hl, H5, B4⟩ := hR
 obtain ⟨rfl, ll⟩ := hl.slen
 obtain ⟨rfl, R4⟩ := B4.slen
 refine Ew Z2 (Est rfl (N.box (cs := [_, _]) rfl dc rfl) (fun b3 _ => (Ei rfl (Ev Z2 (Est rfl (Nb [] [] us_Facts ty_Fact rfl rfl) (fun b8 _ => (Ent.drop (Ei rfl (Ev Z4 (Em rfl (Ey rfl (r9 (cs := [_, _]) ty_Fact rfl (Has.pt m0) rfl) (Est rfl (o4 a3M rfl rfl rfl dc (fun w Lp hA => ⟨hA.ro hl, H5, hA.ro B4⟩)) (fun _ _ => (Ei rfl (Ent.b (fun q6 => ?_) (fun q6 => ?_))))))))))))))))
 ·refine Eu (Eq_ (Ew Z1 (Ei rfl (Eu (E.block (s7 (A := []) (Own.nil (E := F6) (e := tFact) (a := (some ⟨b8, 0, none⟩))) rfl (f6 (congrArg (ow s6 [_]) (show [] = U1 (I5 l (l0, d9)) (ltF (l0, d9)) (l0, d9) (l.take 0) from by first | rfl | (simp; done) | grind [w6, N3, N0, P5, P3, V9, d1, d2, t1, t2])) (E.loop (κ := Nat × Option Addr × Nat × Nat) (fun g => g.1 ≤ l.length ∧ True) (fun g => [(0, .slice a_l l.length c_l), (3, .pointer (some ⟨b3, 0, none⟩)), (5, .slice g.2.1 g.2.2.1 g.2.2.2), (6, .bool (I5 l (l0, d9) || (l.take g.1).any (ltF (l0, d9)))), (7, .int .i64 (↑g.1 : Int))]) (fun g => [ow s6 [.slice g.2.1 g.2.2.1 g.2.2.2] (U1 (I5 l (l0, d9)) (ltF (l0, d9)) (l0, d9) (l.take g.1)), pt b3 91 [.int .i64 l0, .slice y6 d9.length y5]]) (fun g => l.length - g.1) (0, (some ⟨b8, 0, none⟩), 0, 0) ⟨Nat.zero_le _, by simp⟩ ⟨rfl, rfl, rfl, frB (by first | rfl | (simp; done) | grind [w6, N3, N0, P5, P3, V9, d1, d2, t1, t2]), rfl, trivial⟩ (.refl _) (fun g pg => ?_)))))))))
  obtain ⟨g, aA0_0, mA0_0, cA0_0⟩ := g
  try dsimp only at pg
  try dsimp only
  obtain ⟨pk, pa⟩ := pg
  have jp := List.length_take_le g l
  have ji := b2q (h := I5 l (l0, d9)) (p := (ltF (l0, d9))) (f := (l0, d9)) (l := l.take g)
  refine d6 m0 fun eaA0_0 laA0_0 => ?_
  subst eaA0_0
  refine Eq_ (Ew Z4 (Em rfl (Em rfl (Ey rfl ((Y.len us_Facts rfl).yd) (Ey rfl ((Y.lss rfl rfl).yd) (n9 (fun q15 => ?_) (fun q15 => ?_)))))))
  ·refine Eu (o0 rfl (f9 (Et (Eq_ (E.block (Eq_ (Eq_ (D.region (fun j => true) mixed (Dyp 0 rfl (k6 rfl) (Ent.b (fun q18 => ?_) (fun q18 => ?_)))))))))))
   ·refine Dyp 1 rfl (Y.not (b := true) rfl) (Dyp 2 rfl (k6 rfl) (Dsk 3 rfl (Dsk 4 rfl (Dsk 5 rfl (Dsk 6 rfl (Dsk 7 rfl (Dsk 8 rfl (Dsk 9 rfl (Dyp 10 rfl (z7 rfl rfl) (t6 kr (Et (n8 rfl (f9 (Et (D.region (fun j => !(Nat.beq j 13)) mixed (Dyp 0 rfl (k6 rfl) (Dyp 1 rfl (k6 rfl) (Dyp 2 rfl (k6 rfl) ?_))))))))))))))))))
    obtain ⟨eb40, eo40, ec40, ea40, er40, el40, eh40⟩ := hl.elem g om
    obtain ⟨xa40_0, xc40_0, rfl, ei40_0, xh40_0⟩ := R0 er40
    have := xh40_0.slen.2
    refine Dyp 3 rfl (w3 us_Facts ty_Fact rfl ea40 rfl g rfl om) (Dyp 4 rfl (i8 fo_Fact_0 f5 dc rfl) (Dy 5 rfl (g9 f5 rfl ((eh40 _).sub (cs' := [_]) 0 rfl) rfl) (Dyp 6 rfl (k6 rfl) (Dyp 7 rfl (k6 rfl) (Dyp 8 rfl (w3 us_Facts ty_Fact rfl ea40 rfl g rfl om) (Dyp 9 rfl (i8 fo_Fact_1 ty_Is dc rfl) (Dy 10 rfl (g9 ty_Is rfl ((eh40 _).sub (cs' := [_]) 1 rfl) rfl) (u7 11 rfl rfl kr (fun _ => rfl) (N.call (R1 (hyl _ (List.getElem_mem om))) rfl rfl rfl dc rfl (fun w Lp hA => ⟨ei40_0, hA.ro xh40_0⟩)) (fun k48 _ => ?_)))))))))
    obtain ⟨a48, m48, c48⟩ := k48
    refine d6 m0 fun e48 l48 => ?_
    subst e48
    refine u7 12 rfl rfl kr (fun _ => rfl) (Nb [_] [_, _] us_Facts ty_Fact rfl rfl) (fun b49 _ => (d8 (d8 (j7 (u7 13 rfl rfl kr (fun h => by cases h) (B2 (E := F6) (ex := l[g]) us_Facts ty_Fact rfl rfl rfl (M8 (x := l[g]) ei40_0 Own.ow) rfl bn bn dc) (fun p50 _ => (Dyp 14 rfl (F1 rfl) (t6 kr (s8 (Et (Ez Z3 (Em rfl (Ey rfl ((Y.add rfl rfl om om).yd) (Ei rfl (Eu (f6 (congrArg (ow s6 [_]) (show (U1 (I5 l (l0, d9)) (ltF (l0, d9)) (l0, d9) (l.take g)) ++ [l[g]] = U1 (I5 l (l0, d9)) (ltF (l0, d9)) (l0, d9) (l.take (g + 1)) from by grind [w6, N3, N0, P5, P3, V9, d1, d2, t1, t2])) (d8 (d8 ?_))))))))))))))))))
    exact B0 br (g + 1, p50.1, ((U1 (I5 l (l0, d9)) (ltF (l0, d9)) (l0, d9) (l.take g)).length + 1), p50.2) ⟨rfl, rfl, rfl, frB (by grind [w6, N3, N0, P5, P3, V9, d1, d2, t1, t2]), rfl, trivial⟩ (.refl _) ⟨oz, trivial⟩ oz
   ·refine Dyp 1 rfl (Y.not (b := false) rfl) (Dyp 2 rfl (k6 rfl) (Dy 3 rfl (r9 (cs := [_, _]) ty_Fact rfl (Has.pt (mS m0)) rfl) (Dyp 4 rfl (k6 rfl) (Dyp 5 rfl (k6 rfl) ?_))))
    obtain ⟨eb24, eo24, ec24, ea24, er24, el24, eh24⟩ := hl.elem g om
    obtain ⟨xa24_0, xc24_0, rfl, ei24_0, xh24_0⟩ := R0 er24
    have := xh24_0.slen.2
    refine Dyp 6 rfl (w3 us_Facts ty_Fact rfl ea24 rfl g rfl om) (Dy 7 rfl (r9 (cs := [_, _]) ty_Fact rfl (eh24 _) rfl) (u7 8 rfl rfl kr (fun _ => rfl) (o4 a0H rfl rfl rfl dc (fun w Lp hA => ⟨H5, hA.ro B4, ei24_0, hA.ro xh24_0⟩)) (fun _ _ => (Dyp 9 rfl (Y.lss rfl rfl) (n9 (fun q27 => ?_) (fun q27 => ?_))))))
    ·refine Dyp 10 rfl (x6 rfl rfl) (t6 kr (Et (o0 rfl (Ew Z9 (Em rfl (Ey rfl ((i8 fo_Fact_0 f5 dc rfl).yd) (Ey rfl (g9 f5 rfl (Hz (mS m0) 0 rfl) rfl) (Ey rfl ((i8 fo_Fact_1 ty_Is dc rfl).yd) (Ey rfl (g9 ty_Is rfl (Hz (mS m0) 1 rfl) rfl) (Est rfl (N.call (R1 fc) rfl rfl rfl dc rfl (fun w Lp hA => ⟨H5, hA.ro B4⟩)) (fun k34 _ => ?_)))))))))))
     obtain ⟨a34, m34, c34⟩ := k34
     refine d6 m0 fun e34 l34 => ?_
     subst e34
     refine Est rfl (Nb [_] [_, _] us_Facts ty_Fact rfl rfl) (fun b35 _ => (d8 (d8 (j7 (Est rfl (B2 (E := F6) (ex := (l0, d9)) us_Facts ty_Fact rfl rfl rfl (M8 (x := (l0, d9)) H5 Own.ow) rfl bn bn dc) (fun p36 _ => (Ei rfl (Eu (Ez Z1 (Ei rfl (Eu (D.region (fun j => !(Nat.beq j 13)) mixed (Dyp 0 rfl (k6 rfl) (Dyp 1 rfl (k6 rfl) (Dyp 2 rfl (k6 rfl) (Dyp 3 rfl (w3 us_Facts ty_Fact rfl ea24 rfl g rfl om) (Dyp 4 rfl (i8 fo_Fact_0 f5 dc rfl) (Dy 5 rfl (g9 f5 rfl ((eh24 _).sub (cs' := [_]) 0 rfl) rfl) (Dyp 6 rfl (k6 rfl) (Dyp 7 rfl (k6 rfl) ?_))))))))))))))))))))
     refine Dyp 8 rfl (w3 us_Facts ty_Fact rfl ea24 rfl g rfl om) (Dyp 9 rfl (i8 fo_Fact_1 ty_Is dc rfl) (Dy 10 rfl (g9 ty_Is rfl ((eh24 _).sub (cs' := [_]) 1 rfl) rfl) (u7 11 rfl rfl kr (fun _ => rfl) (N.call (R1 (hyl _ (List.getElem_mem om))) rfl rfl rfl dc rfl (fun w Lp hA => ⟨ei24_0, hA.ro xh24_0⟩)) (fun k48 _ => ?_))))
     obtain ⟨a48, m48, c48⟩ := k48
     refine d6 m0 fun e48 l48 => ?_
     subst e48
     refine u7 12 rfl rfl kr (fun _ => rfl) (Nb [_] [_, _] us_Facts ty_Fact rfl rfl) (fun b49 _ => (d8 (d8 (j7 (u7 13 rfl rfl kr (fun h => by cases h) (B2 (E := F6) (ex := l[g]) us_Facts ty_Fact rfl rfl rfl (M8 (x := l[g]) ei24_0 Own.ow) rfl bn bn dc) (fun p50 _ => (Dyp 14 rfl (F1 rfl) (t6 kr (s8 (Et (Ez Z3 (Em rfl (Ey rfl ((Y.add rfl rfl om om).yd) (Ei rfl (Eu (f6 (congrArg (ow s6 [_]) (show ((U1 (I5 l (l0, d9)) (ltF (l0, d9)) (l0, d9) (l.take g)) ++ [(l0, d9)]) ++ [l[g]] = U1 (I5 l (l0, d9)) (ltF (l0, d9)) (l0, d9) (l.take (g + 1)) from by grind [w6, N3, N0, P5, P3, V9, d1, d2, t1, t2])) (d8 (d8 ?_))))))))))))))))))
     exact B0 br (g + 1, p50.1, (((U1 (I5 l (l0, d9)) (ltF (l0, d9)) (l0, d9) (l.take g)).length + 1) + 1), p50.2) ⟨rfl, rfl, rfl, frB (by grind [w6, N3, N0, P5, P3, V9, d1, d2, t1, t2]), rfl, trivial⟩ (.refl _) ⟨oz, trivial⟩ oz
    ·refine Dyp 10 rfl (x6 rfl rfl) (t6 kr (Et (n8 rfl (f9 (Et (D.region (fun j => !(Nat.beq j 13)) mixed (Dyp 0 rfl (k6 rfl) (Dyp 1 rfl (k6 rfl) (Dyp 2 rfl (k6 rfl) (Dyp 3 rfl (w3 us_Facts ty_Fact rfl ea24 rfl g rfl om) (Dyp 4 rfl (i8 fo_Fact_0 f5 dc rfl) (Dy 5 rfl (g9 f5 rfl ((eh24 _).sub (cs' := [_]) 0 rfl) rfl) (Dyp 6 rfl (k6 rfl) (Dyp 7 rfl (k6 rfl) (Dyp 8 rfl (w3 us_Facts ty_Fact rfl ea24 rfl g rfl om) (Dyp 9 rfl (i8 fo_Fact_1 ty_Is dc rfl) (Dy 10 rfl (g9 ty_Is rfl ((eh24 _).sub (cs' := [_]) 1 rfl) rfl) (u7 11 rfl rfl kr (fun _ => rfl) (N.call (R1 (hyl _ (List.getElem_mem om))) rfl rfl rfl dc rfl (fun w Lp hA => ⟨ei24_0, hA.ro xh24_0⟩)) (fun k48 _ => ?_)))))))))))))))))))
     obtain ⟨a48, m48, c48⟩ := k48
     refine d6 m0 fun e48 l48 => ?_
     subst e48
     refine u7 12 rfl rfl kr (fun _ => rfl) (Nb [_] [_, _] us_Facts ty_Fact rfl rfl) (fun b49 _ => (d8 (d8 (j7 (u7 13 rfl rfl kr (fun h => by cases h) (B2 (E := F6) (ex := l[g]) us_Facts ty_Fact rfl rfl rfl (M8 (x := l[g]) ei24_0 Own.ow) rfl bn bn dc) (fun p50 _ => (Dyp 14 rfl (F1 rfl) (t6 kr (s8 (Et (Ez Z3 (Em rfl (Ey rfl ((Y.add rfl rfl om om).yd) (Ei rfl (Eu (f6 (congrArg (ow s6 [_]) (show (U1 (I5 l (l0, d9)) (ltF (l0, d9)) (l0, d9) (l.take g)) ++ [l[g]] = U1 (I5 l (l0, d9)) (ltF (l0, d9)) (l0, d9) (l.take (g + 1)) from by grind [w6, N3, N0, P5, P3, V9, d1, d2, t1, t2])) (d8 (d8 ?_))))))))))))))))))
     exact B0 br (g + 1, p50.1, ((U1 (I5 l (l0, d9)) (ltF (l0, d9)) (l0, d9) (l.take g)).length + 1), p50.2) ⟨rfl, rfl, rfl, frB (by grind [w6, N3, N0, P5, P3, V9, d1, d2, t1, t2]), rfl, trivial⟩ (.refl _) ⟨oz, trivial⟩ oz
  ·refine Eu (n8 rfl (E.exit (l3 (l3 (y4 (Et (Eq_ (Ew Z2 (Em rfl (Ent.b (fun q51 => ?_) (fun q51 => ?_)))))))))))
   ·refine Ey rfl ((Y.not (b := true) rfl).yd) (Eu (n8 rfl (f9 (Et (Ew Z2 (Em rfl (Ei rfl (Eu (E.ret (f6 (congrArg (ow s6 [_]) (show _ = w6 l (l0, d9) by grind [w6, N3, N0, P5, P3, V9, d1, d2, t1, t2])) ?_))))))))))
    exact Fg rfl rfl (_, _, _) rfl rfl
   ·refine Ey rfl ((Y.not (b := false) rfl).yd) (Eu (o0 rfl (Ez Z9 (Em rfl (Ey rfl ((i8 fo_Fact_0 f5 dc rfl).yd) (Ey rfl (g9 f5 rfl (Hz (mS m0) 0 rfl) rfl) (Ey rfl ((i8 fo_Fact_1 ty_Is dc rfl).yd) (Ey rfl (g9 ty_Is rfl (Hz (mS m0) 1 rfl) rfl) (Est rfl (N.call (R1 fc) rfl rfl rfl dc rfl (fun w Lp hA => ⟨H5, hA.ro B4⟩)) (fun k58 _ => ?_))))))))))
    obtain ⟨a58, m58, c58⟩ := k58
    refine d6 m0 fun e58 l58 => ?_
    subst e58
    refine Est rfl (Nb [_] [_, _] us_Facts ty_Fact rfl rfl) (fun b59 _ => (d8 (d8 (j7 (Est rfl (B2 (E := F6) (ex := (l0, d9)) us_Facts ty_Fact rfl rfl rfl (M8 (x := (l0, d9)) H5 Own.ow) rfl bn bn dc) (fun p60 _ => (Ei rfl (Ev Z2 (Em rfl (Ei rfl (Eu (E.ret (f6 (congrArg (ow s6 [_]) (show _ = w6 l (l0, d9) by grind [w6, N3, N0, P5, P3, V9, d1, d2, t1, t2])) ?_)))))))))))))
    exact Fg rfl rfl (_, _, _) rfl rfl
 ·refine Eu (Eq_ (Ew Z1 (Ei rfl (Eu (E.block (s7 (A := []) (Own.nil (E := F6) (e := tFact) (a := (some ⟨b8, 0, none⟩))) rfl (f6 (congrArg (ow s6 [_]) (show [] = U1 (I5 l (l0, d9)) (ltF (l0, d9)) (l0, d9) (l.take 0) from by first | rfl | (simp; done) | grind [w6, N3, N0, P5, P3, V9, d1, d2, t1, t2])) (E.loop (κ := Nat × Option Addr × Nat × Nat) (fun g => g.1 ≤ l.length ∧ True) (fun g => [(0, .slice a_l l.length c_l), (3, .pointer (some ⟨b3, 0, none⟩)), (5, .slice g.2.1 g.2.2.1 g.2.2.2), (6, .bool (I5 l (l0, d9) || (l.take g.1).any (ltF (l0, d9)))), (7, .int .i64 (↑g.1 : Int))]) (fun g => [ow s6 [.slice g.2.1 g.2.2.1 g.2.2.2] (U1 (I5 l (l0, d9)) (ltF (l0, d9)) (l0, d9) (l.take g.1)), pt b3 91 [.int .i64 l0, .slice y6 d9.length y5]]) (fun g => l.length - g.1) (0, (some ⟨b8, 0, none⟩), 0, 0) ⟨Nat.zero_le _, by simp⟩ ⟨rfl, rfl, rfl, frB (by first | rfl | (simp; done) | grind [w6, N3, N0, P5, P3, V9, d1, d2, t1, t2]), rfl, trivial⟩ (.refl _) (fun g pg => ?_)))))))))
  obtain ⟨g, aA0_0, mA0_0, cA0_0⟩ := g
  try dsimp only at pg
  try dsimp only
  obtain ⟨pk, pa⟩ := pg
  have jp := List.length_take_le g l
  have ji := b2q (h := I5 l (l0, d9)) (p := (ltF (l0, d9))) (f := (l0, d9)) (l := l.take g)
  refine d6 m0 fun eaA0_0 laA0_0 => ?_
  subst eaA0_0
  refine Eq_ (Ew Z4 (Em rfl (Em rfl (Ey rfl ((Y.len us_Facts rfl).yd) (Ey rfl ((Y.lss rfl rfl).yd) (n9 (fun q15 => ?_) (fun q15 => ?_)))))))
  ·refine Eu (o0 rfl (f9 (Et (Eq_ (E.block (Eq_ (Eq_ (D.region (fun j => true) mixed (Dyp 0 rfl (k6 rfl) (Ent.b (fun q18 => ?_) (fun q18 => ?_)))))))))))
   ·refine Dyp 1 rfl (Y.not (b := true) rfl) (Dyp 2 rfl (k6 rfl) (Dsk 3 rfl (Dsk 4 rfl (Dsk 5 rfl (Dsk 6 rfl (Dsk 7 rfl (Dsk 8 rfl (Dsk 9 rfl (Dyp 10 rfl (z7 rfl rfl) (t6 kr (Et (n8 rfl (f9 (Et (D.region (fun j => !(Nat.beq j 13)) mixed (Dyp 0 rfl (k6 rfl) (Dyp 1 rfl (k6 rfl) (Dyp 2 rfl (k6 rfl) ?_))))))))))))))))))
    obtain ⟨eb40, eo40, ec40, ea40, er40, el40, eh40⟩ := hl.elem g om
    obtain ⟨xa40_0, xc40_0, rfl, ei40_0, xh40_0⟩ := R0 er40
    have := xh40_0.slen.2
    refine Dyp 3 rfl (w3 us_Facts ty_Fact rfl ea40 rfl g rfl om) (Dyp 4 rfl (i8 fo_Fact_0 f5 dc rfl) (Dy 5 rfl (g9 f5 rfl ((eh40 _).sub (cs' := [_]) 0 rfl) rfl) (Dyp 6 rfl (k6 rfl) (Dyp 7 rfl (k6 rfl) (Dyp 8 rfl (w3 us_Facts ty_Fact rfl ea40 rfl g rfl om) (Dyp 9 rfl (i8 fo_Fact_1 ty_Is dc rfl) (Dy 10 rfl (g9 ty_Is rfl ((eh40 _).sub (cs' := [_]) 1 rfl) rfl) (u7 11 rfl rfl kr (fun _ => rfl) (N.call (R1 (hyl _ (List.getElem_mem om))) rfl rfl rfl dc rfl (fun w Lp hA => ⟨ei40_0, hA.ro xh40_0⟩)) (fun k48 _ => ?_)))))))))
    obtain ⟨a48, m48, c48⟩ := k48
    refine d6 m0 fun e48 l48 => ?_
    subst e48
    refine u7 12 rfl rfl kr (fun _ => rfl) (Nb [_] [_, _] us_Facts ty_Fact rfl rfl) (fun b49 _ => (d8 (d8 (j7 (u7 13 rfl rfl kr (fun h => by cases h) (B2 (E := F6) (ex := l[g]) us_Facts ty_Fact rfl rfl rfl (M8 (x := l[g]) ei40_0 Own.ow) rfl bn bn dc) (fun p50 _ => (Dyp 14 rfl (F1 rfl) (t6 kr (s8 (Et (Ez Z3 (Em rfl (Ey rfl ((Y.add rfl rfl om om).yd) (Ei rfl (Eu (f6 (congrArg (ow s6 [_]) (show (U1 (I5 l (l0, d9)) (ltF (l0, d9)) (l0, d9) (l.take g)) ++ [l[g]] = U1 (I5 l (l0, d9)) (ltF (l0, d9)) (l0, d9) (l.take (g + 1)) from by grind [w6, N3, N0, P5, P3, V9, d1, d2, t1, t2])) (d8 (d8 ?_))))))))))))))))))
    exact B0 br (g + 1, p50.1, ((U1 (I5 l (l0, d9)) (ltF (l0, d9)) (l0, d9) (l.take g)).length + 1), p50.2) ⟨rfl, rfl, rfl, frB (by grind [w6, N3, N0, P5, P3, V9, d1, d2, t1, t2]), rfl, trivial⟩ (.refl _) ⟨oz, trivial⟩ oz
   ·refine Dyp 1 rfl (Y.not (b := false) rfl) (Dyp 2 rfl (k6 rfl) (Dy 3 rfl (r9 (cs := [_, _]) ty_Fact rfl (Has.pt (mS m0)) rfl) (Dyp 4 rfl (k6 rfl) (Dyp 5 rfl (k6 rfl) ?_))))
    obtain ⟨eb24, eo24, ec24, ea24, er24, el24, eh24⟩ := hl.elem g om
    obtain ⟨xa24_0, xc24_0, rfl, ei24_0, xh24_0⟩ := R0 er24
    have := xh24_0.slen.2
    refine Dyp 6 rfl (w3 us_Facts ty_Fact rfl ea24 rfl g rfl om) (Dy 7 rfl (r9 (cs := [_, _]) ty_Fact rfl (eh24 _) rfl) (u7 8 rfl rfl kr (fun _ => rfl) (o4 a0H rfl rfl rfl dc (fun w Lp hA => ⟨H5, hA.ro B4, ei24_0, hA.ro xh24_0⟩)) (fun _ _ => (Dyp 9 rfl (Y.lss rfl rfl) (n9 (fun q27 => ?_) (fun q27 => ?_))))))
    ·refine Dyp 10 rfl (x6 rfl rfl) (t6 kr (Et (o0 rfl (Ew Z9 (Em rfl (Ey rfl ((i8 fo_Fact_0 f5 dc rfl).yd) (Ey rfl (g9 f5 rfl (Hz (mS m0) 0 rfl) rfl) (Ey rfl ((i8 fo_Fact_1 ty_Is dc rfl).yd) (Ey rfl (g9 ty_Is rfl (Hz (mS m0) 1 rfl) rfl) (Est rfl (N.call (R1 fc) rfl rfl rfl dc rfl (fun w Lp hA => ⟨H5, hA.ro B4⟩)) (fun k34 _ => ?_)))))))))))
     obtain ⟨a34, m34, c34⟩ := k34
     refine d6 m0 fun e34 l34 => ?_
     subst e34
     refine Est rfl (Nb [_] [_, _] us_Facts ty_Fact rfl rfl) (fun b35 _ => (d8 (d8 (j7 (Est rfl (B2 (E := F6) (ex := (l0, d9)) us_Facts ty_Fact rfl rfl rfl (M8 (x := (l0, d9)) H5 Own.ow) rfl bn bn dc) (fun p36 _ => (Ei rfl (Eu (Ez Z1 (Ei rfl (Eu (D.region (fun j => !(Nat.beq j 13)) mixed (Dyp 0 rfl (k6 rfl) (Dyp 1 rfl (k6 rfl) (Dyp 2 rfl (k6 rfl) (Dyp 3 rfl (w3 us_Facts ty_Fact rfl ea24 rfl g rfl om) (Dyp 4 rfl (i8 fo_Fact_0 f5 dc rfl) (Dy 5 rfl (g9 f5 rfl ((eh24 _).sub (cs' := [_]) 0 rfl) rfl) (Dyp 6 rfl (k6 rfl) (Dyp 7 rfl (k6 rfl) ?_))))))))))))))))))))
     refine Dyp 8 rfl (w3 us_Facts ty_Fact rfl ea24 rfl g rfl om) (Dyp 9 rfl (i8 fo_Fact_1 ty_Is dc rfl) (Dy 10 rfl (g9 ty_Is rfl ((eh24 _).sub (cs' := [_]) 1 rfl) rfl) (u7 11 rfl rfl kr (fun _ => rfl) (N.call (R1 (hyl _ (List.getElem_mem om))) rfl rfl rfl dc rfl (fun w Lp hA => ⟨ei24_0, hA.ro xh24_0⟩)) (fun k48 _ => ?_))))
     obtain ⟨a48, m48, c48⟩ := k48
     refine d6 m0 fun e48 l48 => ?_
     subst e48
     refine u7 12 rfl rfl kr (fun _ => rfl) (Nb [_] [_, _] us_Facts ty_Fact rfl rfl) (fun b49 _ => (d8 (d8 (j7 (u7 13 rfl rfl kr (fun h => by cases h) (B2 (E := F6) (ex := l[g]) us_Facts ty_Fact rfl rfl rfl (M8 (x := l[g]) ei24_0 Own.ow) rfl bn bn dc) (fun p50 _ => (Dyp 14 rfl (F1 rfl) (t6 kr (s8 (Et (Ez Z3 (Em rfl (Ey rfl ((Y.add rfl rfl om om).yd) (Ei rfl (Eu (f6 (congrArg (ow s6 [_]) (show ((U1 (I5 l (l0, d9)) (ltF (l0, d9)) (l0, d9) (l.take g)) ++ [(l0, d9)]) ++ [l[g]] = U1 (I5 l (l0, d9)) (ltF (l0, d9)) (l0, d9) (l.take (g + 1)) from by grind [w6, N3, N0, P5, P3, V9, d1, d2, t1, t2])) (d8 (d8 ?_))))))))))))))))))
     exact B0 br (g + 1, p50.1, (((U1 (I5 l (l0, d9)) (ltF (l0, d9)) (l0, d9) (l.take g)).length + 1) + 1), p50.2) ⟨rfl, rfl, rfl, frB (by grind [w6, N3, N0, P5, P3, V9, d1, d2, t1, t2]), rfl, trivial⟩ (.refl _) ⟨oz, trivial⟩ oz
    ·refine Dyp 10 rfl (x6 rfl rfl) (t6 kr (Et (n8 rfl (f9 (Et (D.region (fun j => !(Nat.beq j 13)) mixed (Dyp 0 rfl (k6 rfl) (Dyp 1 rfl (k6 rfl) (Dyp 2 rfl (k6 rfl) (Dyp 3 rfl (w3 us_Facts ty_Fact rfl ea24 rfl g rfl om) (Dyp 4 rfl (i8 fo_Fact_0 f5 dc rfl) (Dy 5 rfl (g9 f5 rfl ((eh24 _).sub (cs' := [_]) 0 rfl) rfl) (Dyp 6 rfl (k6 rfl) (Dyp 7 rfl (k6 rfl) (Dyp 8 rfl (w3 us_Facts ty_Fact rfl ea24 rfl g rfl om) (Dyp 9 rfl (i8 fo_Fact_1 ty_Is dc rfl) (Dy 10 rfl (g9 ty_Is rfl ((eh24 _).sub (cs' := [_]) 1 rfl) rfl) (u7 11 rfl rfl kr (fun _ => rfl) (N.call (R1 (hyl _ (List.getElem_mem om))) rfl rfl rfl dc rfl (fun w Lp hA => ⟨ei24_0, hA.ro xh24_0⟩)) (fun k48 _ => ?_)))))))))))))))))))
     obtain ⟨a48, m48, c48⟩ := k48
     refine d6 m0 fun e48 l48 => ?_
     subst e48
     refine u7 12 rfl rfl kr (fun _ => rfl) (Nb [_] [_, _] us_Facts ty_Fact rfl rfl) (fun b49 _ => (d8 (d8 (j7 (u7 13 rfl rfl kr (fun h => by cases h) (B2 (E := F6) (ex := l[g]) us_Facts ty_Fact rfl rfl rfl (M8 (x := l[g]) ei24_0 Own.ow) rfl bn bn dc) (fun p50 _ => (Dyp 14 rfl (F1 rfl) (t6 kr (s8 (Et (Ez Z3 (Em rfl (Ey rfl ((Y.add rfl rfl om om).yd) (Ei rfl (Eu (f6 (congrArg (ow s6 [_]) (show (U1 (I5 l (l0, d9)) (ltF (l0, d9)) (l0, d9) (l.take g)) ++ [l[g]] = U1 (I5 l (l0, d9)) (ltF (l0, d9)) (l0, d9) (l.take (g + 1)) from by grind [w6, N3, N0, P5, P3, V9, d1, d2, t1, t2])) (d8 (d8 ?_))))))))))))))))))
     exact B0 br (g + 1, p50.1, ((U1 (I5 l (l0, d9)) (ltF (l0, d9)) (l0, d9) (l.take g)).length + 1), p50.2) ⟨rfl, rfl, rfl, frB (by grind [w6, N3, N0, P5, P3, V9, d1, d2, t1, t2]), rfl, trivial⟩ (.refl _) ⟨oz, trivial⟩ oz
  ·refine Eu (n8 rfl (E.exit (l3 (l3 (y4 (Et (Eq_ (Ew Z2 (Em rfl (Ent.b (fun q51 => ?_) (fun q51 => ?_)))))))))))
   ·refine Ey rfl ((Y.not (b := true) rfl).yd) (Eu (n8 rfl (f9 (Et (Ew Z2 (Em rfl (Ei rfl (Eu (E.ret (f6 (congrArg (ow s6 [_]) (show _ = w6 l (l0, d9) by grind [w6, N3, N0, P5, P3, V9, d1, d2, t1, t2])) ?_))))))))))
    exact Fg rfl rfl (_, _, _) rfl rfl
   ·refine Ey rfl ((Y.not (b := false) rfl).yd) (Eu (o0 rfl (Ez Z9 (Em rfl (Ey rfl ((i8 fo_Fact_0 f5 dc rfl).yd) (Ey rfl (g9 f5 rfl (Hz (mS m0) 0 rfl) rfl) (Ey rfl ((i8 fo_Fact_1 ty_Is dc rfl).yd) (Ey rfl (g9 ty_Is rfl (Hz (mS m0) 1 rfl) rfl) (Est rfl (N.call (R1 fc) rfl rfl rfl dc rfl (fun w Lp hA => ⟨H5, hA.ro B4⟩)) (fun k58 _ => ?_))))))))))
    obtain ⟨a58, m58, c58⟩ := k58
    refine d6 m0 fun e58 l58 => ?_
    subst e58
    refine Est rfl (Nb [_] [_, _] us_Facts ty_Fact rfl rfl) (fun b59 _ => (d8 (d8 (j7 (Est rfl (B2 (E := F6) (ex := (l0, d9)) us_Facts ty_Fact rfl rfl rfl (M8 (x := (l0, d9)) H5 Own.ow) rfl bn bn dc) (fun p60 _ => (Ei rfl (Ev Z2 (Em rfl (Ei rfl (Eu (E.ret (f6 (congrArg (ow s6 [_]) (show _ = w6 l (l0, d9) by grind [w6, N3, N0, P5, P3, V9, d1, d2, t1, t2])) ?_)))))))))))))
    exact Fg rfl rfl (_, _, _) rfl rfl
end Go.Proofs.YtlfhopooaejpfaaGreat
