import Derived.Test.YthapcdhdfaibkaaGreatDoorT12
import Derived.Test.YthapcdhdfaibkaaGreatDoorT11
namespace Go.Proofs.YthapcdhdfaibkaaGreatDoor
open Go.RowKit
set_option linter.all false
set_option maxHeartbeats 2000000
attribute [local irreducible] Nop Yd Yp Ent Has Tr FnP FnP2 Src o2 c8 N0 a0b E6
variable {l8 : Int} {l : List (Int × List Int)} {f0 s : List Int} {w3 s7 m_l c_l m_s c_s : Nat} {s8 a_l a_s : Option Addr}
theorem a1K (hyf : f0.length ≤ 1048576) : Tr Tryz.prog 165 [.agg #[.int .i64 l8, .slice s8 w3 s7]] (fun w L => I64 l8 ∧ Ro w L eIs [.slice s8 w3 s7] f0) [] (κ := Option Addr × Nat × Nat) (fun k => True) (fun k => .agg #[.int .i64 l8, .slice k.1 k.2.1 k.2.2]) (fun k => [ow eIs [.slice k.1 k.2.1 k.2.2] f0]) := by
 refine Tr.intro Tryz.func165 rfl (n := 9) rfl (by decide +kernel) bl (fr := [(0, .agg #[.int .i64 l8, .slice s8 w3 s7])]) rfl fun w L hR => ?_
 obtain ⟨C3, v6⟩ := hR
 obtain ⟨rfl, J1⟩ := v6.slen
 refine Ew Z2 (Est rfl (N.box (cs := [_, _]) rfl dc rfl) (fun b1 _ => (Est rfl (N.alloc ty_Fact dc) (fun b2 _ => (Eu (Eq_ (D.region (fun j => !(Nat.beq j 6)) mixed (Dyp 0 rfl (f5 fo_Fact_0 f9 dc rfl) (Dy 1 rfl (g9 f9 rfl (Hz (mS m0) 0 rfl) rfl) (Dyp 2 rfl (f5 fo_Fact_1 ty_Is dc rfl) (Dy 3 rfl (g9 ty_Is rfl (Hz (mS m0) 1 rfl) rfl) (t6 4 rfl rfl kr (fun _ => rfl) (N.call (a5Y fc) rfl rfl rfl dc rfl (fun w Lp hA => hA.ro v6)) (fun k7 _ => ?_)))))))))))))
 obtain ⟨a7, m7, c7⟩ := k7
 refine d7 m0 fun e7 l7 => ?_
 subst e7
 refine Dyp 5 rfl (I2 (pvs := [_, _]) (cs := [_, _]) ty_Fact a2j rfl rfl) (d9 (t6 6 rfl rfl kr (fun h => by cases h) (Ns [_, _] ty_Fact rfl) (fun _ _ => (r9 kr (Et (E.ret (d9 ?_)))))))
 exact O2 br rfl rfl (mS m0) ty_Fact rfl (_, _, _) trivial rfl (J := _) (.refl _) (.inl rfl)
theorem R1 {rel : Int} {a_values : Option Addr} {m_values c_values : Nat} {j5 : List Int} (hz : j5.length ≤ 1048576) : Tr Tryz.prog 209 [.int .i64 rel, .slice a_values m_values c_values] (fun w L => I64 rel ∧ Ro w L eIs [.slice a_values m_values c_values] j5) [] (κ := Option Addr × Nat × Nat) (fun k => True) (fun k => .agg #[.int .i64 rel, .slice k.1 k.2.1 k.2.2]) (fun k => [ow eIs [.slice k.1 k.2.1 k.2.2] j5]) := by
 refine Tr.intro Tryz.func209 rfl (n := 10) rfl (by decide +kernel) bl (fr := [(0, .int .i64 rel), (1, .slice a_values m_values c_values)]) rfl fun w L hR => ?_
 obtain ⟨i6rel, hvalues⟩ := hR
 obtain ⟨rfl, lvalues⟩ := hvalues.slen
 refine Ew Z1 (Est rfl (N.alloc ty_Fact dc) (fun b4 _ => (Ev Z6 (Em rfl (Est rfl (Nb [] [] us_Is f9 rfl rfl) (fun b6 _ => (Ent.drop (Em rfl (Est rfl (W1 (E := Enc.int) Plain.int us_Is f9 rfl rfl rfl hvalues bn bn dc) (fun p8 _ => (Ey rfl ((I2 (pvs := [_, _]) (cs := [_, _]) ty_Fact a2j rfl rfl).yd) (d9 (Est rfl (Ns [_, _] ty_Fact rfl) (fun _ _ => (Eu (E.ret (d9 ?_)))))))))))))))))
 exact O2 br rfl rfl (mS m0) ty_Fact rfl (_, _, _) trivial rfl (J := _) (.refl _) (.inl rfl)
theorem a4g (hz : l.length ≤ 1073741824) (hyl : ∀ x ∈ l, x.2.length ≤ 1048576) : Tr Tryz.prog 156 [.slice a_l m_l c_l] (fun w L => Ro w L m8 [.slice a_l m_l c_l] l) [] (κ := Option Addr × Nat × Nat) (fun k => True) (fun k => .slice k.1 k.2.1 k.2.2) (fun k => [ow m8 [.slice k.1 k.2.1 k.2.2] l]) := by
 refine Tr.intro Tryz.func156 rfl (n := 20) rfl (by decide +kernel) bl (fr := [(0, .slice a_l m_l c_l)]) rfl fun w L hR => ?_
 have hl := hR
 obtain ⟨rfl, ll⟩ := hl.slen
 refine Ew Z1 (Ei rfl (Ev Z2 (Est rfl (Nb [] [] us_Facts ty_Fact rfl rfl) (fun b6 _ => (Ent.drop (Ei rfl (Eu (Eq_ (Ew Z3 (Em rfl (Ey rfl ((Y.len us_Facts rfl).yd) (Em rfl (Eu (E.block (u9 (A := []) (Own.nil (E := C9) (e := tFact) (a := (some ⟨b6, 0, none⟩))) rfl (j4 (congrArg (ow m8 [_]) (show [] = l.take 0 from by first | rfl | (simp; done) | grind [d1, d2, t1, t2])) (E.loop (κ := Nat × Option Addr × Nat × Nat) (fun g => g.1 ≤ l.length ∧ True) (fun g => [(3, .slice g.2.1 g.2.2.1 g.2.2.2), (7, .slice a_l l.length c_l), (8, .int .i64 (↑l.length : Int)), (9, .int .i64 (↑g.1 : Int))]) (fun g => [ow m8 [.slice g.2.1 g.2.2.1 g.2.2.2] (l.take g.1)]) (fun g => l.length - g.1) (0, (some ⟨b6, 0, none⟩), 0, 0) ⟨Nat.zero_le _, by simp⟩ ⟨rfl, rfl, rfl, rfl, trivial⟩ (.refl _) (fun g pg => ?_))))))))))))))))))
 obtain ⟨g, aA0_0, mA0_0, cA0_0⟩ := g
 try dsimp only at pg
 try dsimp only
 obtain ⟨pk, pa⟩ := pg
 have jp := List.length_take_le g l
 refine d7 m0 fun eaA0_0 laA0_0 => ?_
 subst eaA0_0
 refine Ew Z1 (Ey rfl ((Y.lss rfl rfl).yd) (o3 (fun q10 => ?_) (fun q10 => ?_)))
 ·obtain ⟨eb11, eo11, ec11, ea11, er11, el11, eh11⟩ := hl.elem g om
  obtain ⟨xa11_0, xc11_0, rfl, ei11_0, xh11_0⟩ := K8 er11
  have := xh11_0.slen.2
  refine Eu (Eq_ (n8 rfl (i7 (Et (Eq_ (E.block (Ew Z4 (Ey rfl ((v8 us_Facts ty_Fact rfl ea11 rfl g rfl om).yd) (Ey rfl (o6 (cs := [_, _]) ty_Fact rfl (eh11 _) rfl) (Est rfl (N.alloc ty_Fact dc) (fun b5 _ => (Est rfl (Ns [_, _] ty_Fact rfl) (fun _ _ => (Eu (Ez Z6 (Em rfl (Ey rfl (o6 (cs := [_, _]) ty_Fact rfl (Has.pt m0) rfl) (Est rfl (N.call (a1K (hyl _ (List.getElem_mem om))) rfl rfl rfl dc rfl (fun w Lp hA => ⟨ei11_0, hA.ro xh11_0⟩)) (fun k15 _ => ?_)))))))))))))))))))
  obtain ⟨a15, m15, c15⟩ := k15
  refine d7 m0 fun e15 l15 => ?_
  subst e15
  refine Est rfl (Nb [_] [_, _] us_Facts ty_Fact rfl rfl) (fun b16 _ => (d9 (d9 (o4 (Est rfl (C7 (E := C9) (ex := l[g]) us_Facts ty_Fact rfl rfl rfl (M3 (x := l[g]) ei11_0 Own.ow) rfl bn bn dc) (fun p17 _ => (Ei rfl (En (s9 (Et (Ez Z2 (Ey rfl ((Y.add rfl rfl om om).yd) (Em rfl (Eu (d9 (Ent.drop (j4 (congrArg (ow m8 [_]) (show (l.take g) ++ [l[g]] = l.take (g + 1) from by grind [d1, d2, t1, t2])) ?_)))))))))))))))))
  exact Ea (g + 1, p17.1, ((l.take g).length + 1), p17.2) ⟨oz, trivial⟩
 ·refine Eu (Eq_ (o0 rfl (E.exit (q1 (q1 (y4 (Et (Ew Z2 (Em rfl (Ei rfl (Eu (E.ret (j4 (congrArg (ow m8 [_]) (show _ = l by grind [d1, d2, t1, t2])) ?_)))))))))))))
  exact Fg rfl rfl (_, _, _) rfl rfl
theorem a0N (hz : l.length ≤ 1073741824) (hyl : ∀ x ∈ l, x.2.length ≤ 1048576) : Tr Tryz.prog 339 [.slice a_l m_l c_l] (fun w L => Ro w L m8 [.slice a_l m_l c_l] l) [] (κ := Option Addr × Nat × Nat) (fun k => True) (fun k => .slice k.1 k.2.1 k.2.2) (fun k => [ow m8 [.slice k.1 k.2.1 k.2.2] l]) := by
 refine Tr.intro Tryz.func339 rfl (n := 27) rfl (by decide +kernel) bl (fr := [(0, .slice a_l m_l c_l)]) rfl fun w L hR => ?_
 have hl := hR
 obtain ⟨rfl, ll⟩ := hl.slen
 refine Ew Z1 (Ei rfl (Ev Z2 (Est rfl (Nb [] [] us_Facts ty_Fact rfl rfl) (fun b5 _ => (Ent.drop (Ei rfl (Eu (Eq_ (Ew Z1 (Ei rfl (Eu (E.block (u9 (A := []) (Own.nil (E := C9) (e := tFact) (a := (some ⟨b5, 0, none⟩))) rfl (j4 (congrArg (ow m8 [_]) (show [] = l.take 0 from by first | rfl | (simp; done) | grind [d1, d2, t1, t2])) (E.loop (κ := Nat × Option Addr × Nat × Nat) (fun g => g.1 ≤ l.length ∧ True) (fun g => [(0, .slice a_l l.length c_l), (3, .slice g.2.1 g.2.2.1 g.2.2.2), (4, .int .i64 (↑g.1 : Int))]) (fun g => [ow m8 [.slice g.2.1 g.2.2.1 g.2.2.2] (l.take g.1)]) (fun g => l.length - g.1) (0, (some ⟨b5, 0, none⟩), 0, 0) ⟨Nat.zero_le _, by simp⟩ ⟨rfl, rfl, rfl, trivial⟩ (.refl _) (fun g pg => ?_))))))))))))))))
 obtain ⟨g, aA0_0, mA0_0, cA0_0⟩ := g
 try dsimp only at pg
 try dsimp only
 obtain ⟨pk, pa⟩ := pg
 have jp := List.length_take_le g l
 refine d7 m0 fun eaA0_0 laA0_0 => ?_
 subst eaA0_0
 refine Eq_ (Ew Z4 (Em rfl (Em rfl (Ey rfl ((Y.len us_Facts rfl).yd) (Ey rfl ((Y.lss rfl rfl).yd) (o3 (fun q9 => ?_) (fun q9 => ?_)))))))
 ·refine Eu (n8 rfl (i7 (Et (Eq_ (E.block (D.region (fun j => !(Nat.beq j 13)) mixed (Dyp 0 rfl (i8 rfl) (Dyp 1 rfl (i8 rfl) (Dyp 2 rfl (i8 rfl) ?_)))))))))
  obtain ⟨eb15, eo15, ec15, ea15, er15, el15, eh15⟩ := hl.elem g om
  obtain ⟨xa15_0, xc15_0, rfl, ei15_0, xh15_0⟩ := K8 er15
  have := xh15_0.slen.2
  refine Dyp 3 rfl (v8 us_Facts ty_Fact rfl ea15 rfl g rfl om) (Dyp 4 rfl (f5 fo_Fact_0 f9 dc rfl) (Dy 5 rfl (g9 f9 rfl ((eh15 _).sub (cs' := [_]) 0 rfl) rfl) (Dyp 6 rfl (i8 rfl) (Dyp 7 rfl (i8 rfl) (Dyp 8 rfl (v8 us_Facts ty_Fact rfl ea15 rfl g rfl om) (Dyp 9 rfl (f5 fo_Fact_1 ty_Is dc rfl) (Dy 10 rfl (g9 ty_Is rfl ((eh15 _).sub (cs' := [_]) 1 rfl) rfl) (t6 11 rfl rfl kr (fun _ => rfl) (N.call (R1 (hyl _ (List.getElem_mem om))) rfl rfl rfl dc rfl (fun w Lp hA => ⟨ei15_0, hA.ro xh15_0⟩)) (fun k23 _ => ?_)))))))))
  obtain ⟨a23, m23, c23⟩ := k23
  refine d7 m0 fun e23 l23 => ?_
  subst e23
  refine t6 12 rfl rfl kr (fun _ => rfl) (Nb [_] [_, _] us_Facts ty_Fact rfl rfl) (fun b24 _ => (d9 (d9 (j8 (t6 13 rfl rfl kr (fun h => by cases h) (C7 (E := C9) (ex := l[g]) us_Facts ty_Fact rfl rfl rfl (M3 (x := l[g]) ei15_0 Own.ow) rfl bn bn dc) (fun p25 _ => (Dyp 14 rfl (C2 rfl) (r9 kr (s9 (Et (Ez Z3 (Em rfl (Ey rfl ((Y.add rfl rfl om om).yd) (Ei rfl (Eu (j4 (congrArg (ow m8 [_]) (show (l.take g) ++ [l[g]] = l.take (g + 1) from by grind [d1, d2, t1, t2])) ?_))))))))))))))))
  exact Ea (g + 1, p25.1, ((l.take g).length + 1), p25.2) ⟨oz, trivial⟩
 ·refine Eu (o0 rfl (E.exit (q1 (q1 (y4 (Et (Ew Z2 (Em rfl (Ei rfl (Eu (E.ret (j4 (congrArg (ow m8 [_]) (show _ = l by grind [d1, d2, t1, t2])) ?_))))))))))))
  exact Fg rfl rfl (_, _, _) rfl rfl
theorem a9B {a1u : Int} {Q7 : Option Addr} {Q8 Q9 : Nat} {a0q : List Int} {b_f : Nat} : Tr Tryz.prog 293 [.agg #[.int .i64 a1u, .slice Q7 Q8 Q9], .pointer (some ⟨b_f, 0, none⟩)] (fun w L => (I64 a1u ∧ Ro w L eIs [.slice Q7 Q8 Q9] a0q) ∧ RoPt w L b_f [.int .i64 l8, .slice s8 w3 s7] ∧ I64 l8 ∧ Ro w L eIs [.slice s8 w3 s7] f0) [] (κ := Unit) (fun k => True) (fun k => .bool (decide (0 < J2 (a1u, a0q) (l8, f0)))) (fun k => []) := by
 refine Tr.intro Tryz.func293 rfl (n := 8) rfl (by decide +kernel) bl (fr := [(0, .agg #[.int .i64 a1u, .slice Q7 Q8 Q9]), (1, .pointer (some ⟨b_f, 0, none⟩))]) rfl fun w L hR => ?_
 obtain ⟨⟨a5A, a0g⟩, hb_f, C3, v6⟩ := hR
 obtain ⟨rfl, a7a⟩ := a0g.slen
 obtain ⟨rfl, J1⟩ := v6.slen
 refine Ew Z2 (Est rfl (N.box (cs := [_, _]) rfl dc rfl) (fun b2 _ => (Ei rfl (Ev Z5 (Ey rfl (o6 (cs := [_, _]) ty_Fact rfl (Has.pt m0) rfl) (Ey rfl (o6 (cs := [_, _]) ty_Fact rfl (hb_f.has) rfl) (Est rfl (l0 R8 rfl rfl rfl dc (fun w Lp hA => ⟨a5A, hA.ro a0g, C3, hA.ro v6⟩)) (fun _ _ => (Ey rfl ((Y.gtr rfl rfl).yd) (Ei rfl ?_))))))))))
 exact Eu (E.ret (Fg rfl rfl () rfl rfl))
theorem a6S (hz : l.length ≤ 1000000000) (hyf : f0.length ≤ 1048576) : Tr Tryz.prog 189 [.slice a_l m_l c_l, .agg #[.int .i64 l8, .slice s8 w3 s7]] (fun w L => I64 l8 ∧ Ro w L eIs [.slice s8 w3 s7] f0) [ow m8 [.slice a_l m_l c_l] l] (κ := Option Addr × Nat × Nat) (fun k => True) (fun k => .slice k.1 k.2.1 k.2.2) (fun k => [ow m8 [.slice k.1 k.2.1 k.2.2] (w4 l (l8, f0))]) := by
 refine Tr.intro Tryz.func189 rfl (n := 23) rfl (by decide +kernel) bl (fr := [(0, .slice a_l m_l c_l), (1, .agg #[.int .i64 l8, .slice s8 w3 s7])]) rfl fun w L hR => ?_
 obtain ⟨C3, v6⟩ := hR
 obtain ⟨rfl, J1⟩ := v6.slen
 refine d7 m0 fun el ll => ?_
 subst el
 refine Ew Z2 (Est rfl (N.box (cs := [_, _]) rfl dc rfl) (fun b3 _ => (Ei rfl (Eu (Eq_ (Ew Z3 (Em rfl (Ey rfl (o6 (cs := [_, _]) ty_Fact rfl (Has.pt m0) rfl) (Est rfl (l0 a2f rfl rfl rfl dc (fun w Lp hA => ⟨hA.ow (mS m0), C3, hA.ro v6⟩)) (fun _ _ => (Ent.b (fun q8 => ?_) (fun q8 => ?_))))))))))))
 ·refine Eu (n8 rfl (Ew Z2 (Em rfl (Ei rfl (Eu (E.ret (n0 (d9 (j4 (congrArg (ow m8 [_]) (show _ = w4 l (l8, f0) by grind [a4q, a7P])) ?_)))))))))
  exact Fg rfl rfl (_, _, _) rfl rfl
 ·refine Eu (o0 rfl (i7 (Et (Ew Z4 (Em rfl (Ey rfl ((Y.fn (vs := [_]) rfl).yd) (Est rfl (l0 (a2E (f := (fun z => decide (0 < J2 z (l8, f0)))) (D_f := (fun _ => True)) (by intros; exact trivial)) rfl rfl rfl dc (fun w Lp hA => ⟨hA.ow (mS m0), a3Z (D := (fun _ => True)) (fun hd => a9B) (fun w' hk => ⟨(hA.pt m0).keep hk, C3, (hA.ro v6).keep hk⟩)⟩)) (fun _ _ => (Ei rfl (Eu (Eq_ (Ew Z2 (Em rfl (Ey rfl ((Y.lss rfl rfl).yd) (o3 (fun q14 => ?_) (fun q14 => ?_))))))))))))))))
  ·refine Eu (n8 rfl (Ez Z3 (Em rfl (Ey rfl ((Y.len us_Facts rfl).yd) (Ei rfl (Ev Z7 (Em rfl (Em rfl (Ey rfl (o6 (cs := [_, _]) ty_Fact rfl (Has.pt m0) rfl) (Est rfl (N.call (a1K fc) rfl rfl rfl dc rfl (fun w Lp hA => ⟨C3, hA.ro v6⟩)) (fun k20 _ => ?_)))))))))))
   obtain ⟨a20, m20, c20⟩ := k20
   refine d7 m0 fun e20 l20 => ?_
   subst e20
   refine Est rfl (Nb [_] [_, _] us_Facts ty_Fact rfl rfl) (fun b21 _ => (d9 (d9 (u9 (A := _ :: _) (a2a (E := C9) (e := tFact) (M3 (x := (l8, f0)) C3 Own.ow)) rfl ?_))))
   have ji := a4O (p := fun z => decide (0 < J2 z (l8, f0))) (s := l)
   refine j8 (Est rfl (N.call (pre := [_, _]) (a6n om (by simp) (by simp; omega)) rfl rfl rfl dc rfl tv) (fun k22 _ => ?_))
   obtain ⟨a22, m22, c22⟩ := k22
   refine d7 m0 fun e22 l22 => ?_
   subst e22
   refine Ei rfl (Eu (E.ret (j4 (congrArg (ow m8 [_]) (show _ = w4 l (l8, f0) by grind [a4q, a7P])) ?_)))
   exact Fg rfl rfl (_, _, _) rfl rfl
  ·refine Eu (o0 rfl (i7 (Et (Ew Z7 (Em rfl (Em rfl (Ey rfl (o6 (cs := [_, _]) ty_Fact rfl (Has.pt m0) rfl) (Est rfl (N.call (a1K fc) rfl rfl rfl dc rfl (fun w Lp hA => ⟨C3, hA.ro v6⟩)) (fun k20 _ => ?_)))))))))
   obtain ⟨a20, m20, c20⟩ := k20
   refine d7 m0 fun e20 l20 => ?_
   subst e20
   refine Est rfl (Nb [_] [_, _] us_Facts ty_Fact rfl rfl) (fun b21 _ => (d9 (d9 (u9 (A := _ :: _) (a2a (E := C9) (e := tFact) (M3 (x := (l8, f0)) C3 Own.ow)) rfl ?_))))
   have ji := a4O (p := fun z => decide (0 < J2 z (l8, f0))) (s := l)
   refine j8 (Est rfl (N.call (pre := [_, _]) (a6n om (by simp) (by simp; omega)) rfl rfl rfl dc rfl tv) (fun k22 _ => ?_))
   obtain ⟨a22, m22, c22⟩ := k22
   refine d7 m0 fun e22 l22 => ?_
   subst e22
   refine Ei rfl (Eu (E.ret (j4 (congrArg (ow m8 [_]) (show _ = w4 l (l8, f0) by grind [a4q, a7P])) ?_)))
   exact Fg rfl rfl (_, _, _) rfl rfl
theorem T9 (hz : l.length ≤ 1000000000) (hyl : ∀ x ∈ l, x.2.length ≤ 1048576) (hyf : f0.length ≤ 1048576) : Tr Tryz.prog 160 [.slice a_l m_l c_l, .agg #[.int .i64 l8, .slice s8 w3 s7]] (fun w L => Ro w L m8 [.slice a_l m_l c_l] l ∧ I64 l8 ∧ Ro w L eIs [.slice s8 w3 s7] f0) [] (κ := Option Addr × Nat × Nat) (fun k => True) (fun k => .slice k.1 k.2.1 k.2.2) (fun k => [ow m8 [.slice k.1 k.2.1 k.2.2] (w4 l (l8, f0))]) := by
 refine Tr.intro Tryz.func160 rfl (n := 62) rfl (by decide +kernel) bl (fr := [(0, .slice a_l m_l c_l), (1, .agg #[.int .i64 l8, .slice s8 w3 s7])]) rfl fun w L hR => ?_
 obtain ⟨hl, C3, v6⟩ := hR
 obtain ⟨rfl, ll⟩ := hl.slen
 obtain ⟨rfl, J1⟩ := v6.slen
 refine Ew Z2 (Est rfl (N.box (cs := [_, _]) rfl dc rfl) (fun b3 _ => (Ei rfl (Ev Z2 (Est rfl (Nb [] [] us_Facts ty_Fact rfl rfl) (fun b8 _ => (Ent.drop (Ei rfl (Ev Z4 (Em rfl (Ey rfl (o6 (cs := [_, _]) ty_Fact rfl (Has.pt m0) rfl) (Est rfl (l0 a0B rfl rfl rfl dc (fun w Lp hA => ⟨hA.ro hl, C3, hA.ro v6⟩)) (fun _ _ => (Ei rfl (Ent.b (fun q6 => ?_) (fun q6 => ?_))))))))))))))))
 ·refine Eu (Eq_ (Ew Z1 (Ei rfl (Eu (E.block (u9 (A := []) (Own.nil (E := C9) (e := tFact) (a := (some ⟨b8, 0, none⟩))) rfl (j4 (congrArg (ow m8 [_]) (show [] = addS (F3 l (l8, f0)) (ltF (l8, f0)) (l8, f0) (l.take 0) from by first | rfl | (simp; done) | grind [w4, N7, N8, P8, O1, W5, d1, d2, t1, t2])) (E.loop (κ := Nat × Option Addr × Nat × Nat) (fun g => g.1 ≤ l.length ∧ True) (fun g => [(0, .slice a_l l.length c_l), (3, .pointer (some ⟨b3, 0, none⟩)), (5, .slice g.2.1 g.2.2.1 g.2.2.2), (6, .bool (F3 l (l8, f0) || (l.take g.1).any (ltF (l8, f0)))), (7, .int .i64 (↑g.1 : Int))]) (fun g => [ow m8 [.slice g.2.1 g.2.2.1 g.2.2.2] (addS (F3 l (l8, f0)) (ltF (l8, f0)) (l8, f0) (l.take g.1)), pt b3 85 [.int .i64 l8, .slice s8 f0.length s7]]) (fun g => l.length - g.1) (0, (some ⟨b8, 0, none⟩), 0, 0) ⟨Nat.zero_le _, by simp⟩ ⟨rfl, rfl, rfl, frB (by first | rfl | (simp; done) | grind [w4, N7, N8, P8, O1, W5, d1, d2, t1, t2]), rfl, trivial⟩ (.refl _) (fun g pg => ?_)))))))))
  obtain ⟨g, aA0_0, mA0_0, cA0_0⟩ := g
  try dsimp only at pg
  try dsimp only
  obtain ⟨pk, pa⟩ := pg
  have jp := List.length_take_le g l
  have ji := b0W (h := F3 l (l8, f0)) (p := (ltF (l8, f0))) (f := (l8, f0)) (l := l.take g)
  refine d7 m0 fun eaA0_0 laA0_0 => ?_
  subst eaA0_0
  refine Eq_ (Ew Z4 (Em rfl (Em rfl (Ey rfl ((Y.len us_Facts rfl).yd) (Ey rfl ((Y.lss rfl rfl).yd) (o3 (fun q15 => ?_) (fun q15 => ?_)))))))
  ·refine Eu (n8 rfl (i7 (Et (Eq_ (E.block (Eq_ (Eq_ (D.region (fun j => true) mixed (Dyp 0 rfl (i8 rfl) (Ent.b (fun q18 => ?_) (fun q18 => ?_)))))))))))
   ·refine Dyp 1 rfl (Y.not (b := true) rfl) (Dyp 2 rfl (i8 rfl) (Dsk 3 rfl (Dsk 4 rfl (Dsk 5 rfl (Dsk 6 rfl (Dsk 7 rfl (Dsk 8 rfl (Dsk 9 rfl (Dyp 10 rfl (t7 rfl rfl) (r9 kr (Et (o0 rfl (i7 (Et (D.region (fun j => !(Nat.beq j 13)) mixed (Dyp 0 rfl (i8 rfl) (Dyp 1 rfl (i8 rfl) (Dyp 2 rfl (i8 rfl) ?_))))))))))))))))))
    obtain ⟨eb40, eo40, ec40, ea40, er40, el40, eh40⟩ := hl.elem g om
    obtain ⟨xa40_0, xc40_0, rfl, ei40_0, xh40_0⟩ := K8 er40
    have := xh40_0.slen.2
    refine Dyp 3 rfl (v8 us_Facts ty_Fact rfl ea40 rfl g rfl om) (Dyp 4 rfl (f5 fo_Fact_0 f9 dc rfl) (Dy 5 rfl (g9 f9 rfl ((eh40 _).sub (cs' := [_]) 0 rfl) rfl) (Dyp 6 rfl (i8 rfl) (Dyp 7 rfl (i8 rfl) (Dyp 8 rfl (v8 us_Facts ty_Fact rfl ea40 rfl g rfl om) (Dyp 9 rfl (f5 fo_Fact_1 ty_Is dc rfl) (Dy 10 rfl (g9 ty_Is rfl ((eh40 _).sub (cs' := [_]) 1 rfl) rfl) (t6 11 rfl rfl kr (fun _ => rfl) (N.call (R1 (hyl _ (List.getElem_mem om))) rfl rfl rfl dc rfl (fun w Lp hA => ⟨ei40_0, hA.ro xh40_0⟩)) (fun k48 _ => ?_)))))))))
    obtain ⟨a48, m48, c48⟩ := k48
    refine d7 m0 fun e48 l48 => ?_
    subst e48
    refine t6 12 rfl rfl kr (fun _ => rfl) (Nb [_] [_, _] us_Facts ty_Fact rfl rfl) (fun b49 _ => (d9 (d9 (j8 (t6 13 rfl rfl kr (fun h => by cases h) (C7 (E := C9) (ex := l[g]) us_Facts ty_Fact rfl rfl rfl (M3 (x := l[g]) ei40_0 Own.ow) rfl bn bn dc) (fun p50 _ => (Dyp 14 rfl (C2 rfl) (r9 kr (s9 (Et (Ez Z3 (Em rfl (Ey rfl ((Y.add rfl rfl om om).yd) (Ei rfl (Eu (j4 (congrArg (ow m8 [_]) (show (addS (F3 l (l8, f0)) (ltF (l8, f0)) (l8, f0) (l.take g)) ++ [l[g]] = addS (F3 l (l8, f0)) (ltF (l8, f0)) (l8, f0) (l.take (g + 1)) from by grind [w4, N7, N8, P8, O1, W5, d1, d2, t1, t2])) (d9 (d9 ?_))))))))))))))))))
    exact x6 br (g + 1, p50.1, ((addS (F3 l (l8, f0)) (ltF (l8, f0)) (l8, f0) (l.take g)).length + 1), p50.2) ⟨rfl, rfl, rfl, frB (by grind [w4, N7, N8, P8, O1, W5, d1, d2, t1, t2]), rfl, trivial⟩ (.refl _) ⟨oz, trivial⟩ oz
   ·refine Dyp 1 rfl (Y.not (b := false) rfl) (Dyp 2 rfl (i8 rfl) (Dy 3 rfl (o6 (cs := [_, _]) ty_Fact rfl (Has.pt (mS m0)) rfl) (Dyp 4 rfl (i8 rfl) (Dyp 5 rfl (i8 rfl) ?_))))
    obtain ⟨eb24, eo24, ec24, ea24, er24, el24, eh24⟩ := hl.elem g om
    obtain ⟨xa24_0, xc24_0, rfl, ei24_0, xh24_0⟩ := K8 er24
    have := xh24_0.slen.2
    refine Dyp 6 rfl (v8 us_Facts ty_Fact rfl ea24 rfl g rfl om) (Dy 7 rfl (o6 (cs := [_, _]) ty_Fact rfl (eh24 _) rfl) (t6 8 rfl rfl kr (fun _ => rfl) (l0 P0 rfl rfl rfl dc (fun w Lp hA => ⟨C3, hA.ro v6, ei24_0, hA.ro xh24_0⟩)) (fun _ _ => (Dyp 9 rfl (Y.lss rfl rfl) (o3 (fun q27 => ?_) (fun q27 => ?_))))))
    ·refine Dyp 10 rfl (t8 rfl rfl) (r9 kr (Et (n8 rfl (Ew Z9 (Em rfl (Ey rfl ((f5 fo_Fact_0 f9 dc rfl).yd) (Ey rfl (g9 f9 rfl (Hz (mS m0) 0 rfl) rfl) (Ey rfl ((f5 fo_Fact_1 ty_Is dc rfl).yd) (Ey rfl (g9 ty_Is rfl (Hz (mS m0) 1 rfl) rfl) (Est rfl (N.call (R1 fc) rfl rfl rfl dc rfl (fun w Lp hA => ⟨C3, hA.ro v6⟩)) (fun k34 _ => ?_)))))))))))
     obtain ⟨a34, m34, c34⟩ := k34
     refine d7 m0 fun e34 l34 => ?_
     subst e34
     refine Est rfl (Nb [_] [_, _] us_Facts ty_Fact rfl rfl) (fun b35 _ => (d9 (d9 (j8 (Est rfl (C7 (E := C9) (ex := (l8, f0)) us_Facts ty_Fact rfl rfl rfl (M3 (x := (l8, f0)) C3 Own.ow) rfl bn bn dc) (fun p36 _ => (Ei rfl (Eu (Ez Z1 (Ei rfl (Eu (D.region (fun j => !(Nat.beq j 13)) mixed (Dyp 0 rfl (i8 rfl) (Dyp 1 rfl (i8 rfl) (Dyp 2 rfl (i8 rfl) (Dyp 3 rfl (v8 us_Facts ty_Fact rfl ea24 rfl g rfl om) (Dyp 4 rfl (f5 fo_Fact_0 f9 dc rfl) (Dy 5 rfl (g9 f9 rfl ((eh24 _).sub (cs' := [_]) 0 rfl) rfl) (Dyp 6 rfl (i8 rfl) (Dyp 7 rfl (i8 rfl) (Dyp 8 rfl (v8 us_Facts ty_Fact rfl ea24 rfl g rfl om) (Dyp 9 rfl (f5 fo_Fact_1 ty_Is dc rfl) (Dy 10 rfl (g9 ty_Is rfl ((eh24 _).sub (cs' := [_]) 1 rfl) rfl) (t6 11 rfl rfl kr (fun _ => rfl) (N.call (R1 (hyl _ (List.getElem_mem om))) rfl rfl rfl dc rfl (fun w Lp hA => ⟨ei24_0, hA.ro xh24_0⟩)) (fun k48 _ => ?_)))))))))))))))))))))))))
     obtain ⟨a48, m48, c48⟩ := k48
     refine d7 m0 fun e48 l48 => ?_
     subst e48
     refine t6 12 rfl rfl kr (fun _ => rfl) (Nb [_] [_, _] us_Facts ty_Fact rfl rfl) (fun b49 _ => (d9 (d9 (j8 (t6 13 rfl rfl kr (fun h => by cases h) (C7 (E := C9) (ex := l[g]) us_Facts ty_Fact rfl rfl rfl (M3 (x := l[g]) ei24_0 Own.ow) rfl bn bn dc) (fun p50 _ => (Dyp 14 rfl (C2 rfl) (r9 kr (s9 (Et (Ez Z3 (Em rfl (Ey rfl ((Y.add rfl rfl om om).yd) (Ei rfl (Eu (j4 (congrArg (ow m8 [_]) (show ((addS (F3 l (l8, f0)) (ltF (l8, f0)) (l8, f0) (l.take g)) ++ [(l8, f0)]) ++ [l[g]] = addS (F3 l (l8, f0)) (ltF (l8, f0)) (l8, f0) (l.take (g + 1)) from by grind [w4, N7, N8, P8, O1, W5, d1, d2, t1, t2])) (d9 (d9 ?_))))))))))))))))))
     exact x6 br (g + 1, p50.1, (((addS (F3 l (l8, f0)) (ltF (l8, f0)) (l8, f0) (l.take g)).length + 1) + 1), p50.2) ⟨rfl, rfl, rfl, frB (by grind [w4, N7, N8, P8, O1, W5, d1, d2, t1, t2]), rfl, trivial⟩ (.refl _) ⟨oz, trivial⟩ oz
    ·refine Dyp 10 rfl (t8 rfl rfl) (r9 kr (Et (o0 rfl (i7 (Et (D.region (fun j => !(Nat.beq j 13)) mixed (Dyp 0 rfl (i8 rfl) (Dyp 1 rfl (i8 rfl) (Dyp 2 rfl (i8 rfl) (Dyp 3 rfl (v8 us_Facts ty_Fact rfl ea24 rfl g rfl om) (Dyp 4 rfl (f5 fo_Fact_0 f9 dc rfl) (Dy 5 rfl (g9 f9 rfl ((eh24 _).sub (cs' := [_]) 0 rfl) rfl) (Dyp 6 rfl (i8 rfl) (Dyp 7 rfl (i8 rfl) (Dyp 8 rfl (v8 us_Facts ty_Fact rfl ea24 rfl g rfl om) (Dyp 9 rfl (f5 fo_Fact_1 ty_Is dc rfl) (Dy 10 rfl (g9 ty_Is rfl ((eh24 _).sub (cs' := [_]) 1 rfl) rfl) (t6 11 rfl rfl kr (fun _ => rfl) (N.call (R1 (hyl _ (List.getElem_mem om))) rfl rfl rfl dc rfl (fun w Lp hA => ⟨ei24_0, hA.ro xh24_0⟩)) (fun k48 _ => ?_)))))))))))))))))))
     obtain ⟨a48, m48, c48⟩ := k48
     refine d7 m0 fun e48 l48 => ?_
     subst e48
     refine t6 12 rfl rfl kr (fun _ => rfl) (Nb [_] [_, _] us_Facts ty_Fact rfl rfl) (fun b49 _ => (d9 (d9 (j8 (t6 13 rfl rfl kr (fun h => by cases h) (C7 (E := C9) (ex := l[g]) us_Facts ty_Fact rfl rfl rfl (M3 (x := l[g]) ei24_0 Own.ow) rfl bn bn dc) (fun p50 _ => (Dyp 14 rfl (C2 rfl) (r9 kr (s9 (Et (Ez Z3 (Em rfl (Ey rfl ((Y.add rfl rfl om om).yd) (Ei rfl (Eu (j4 (congrArg (ow m8 [_]) (show (addS (F3 l (l8, f0)) (ltF (l8, f0)) (l8, f0) (l.take g)) ++ [l[g]] = addS (F3 l (l8, f0)) (ltF (l8, f0)) (l8, f0) (l.take (g + 1)) from by grind [w4, N7, N8, P8, O1, W5, d1, d2, t1, t2])) (d9 (d9 ?_))))))))))))))))))
     exact x6 br (g + 1, p50.1, ((addS (F3 l (l8, f0)) (ltF (l8, f0)) (l8, f0) (l.take g)).length + 1), p50.2) ⟨rfl, rfl, rfl, frB (by grind [w4, N7, N8, P8, O1, W5, d1, d2, t1, t2]), rfl, trivial⟩ (.refl _) ⟨oz, trivial⟩ oz
  ·refine Eu (o0 rfl (E.exit (q1 (q1 (y4 (Et (Eq_ (Ew Z2 (Em rfl (Ent.b (fun q51 => ?_) (fun q51 => ?_)))))))))))
   ·refine Ey rfl ((Y.not (b := true) rfl).yd) (Eu (o0 rfl (i7 (Et (Ew Z2 (Em rfl (Ei rfl (Eu (E.ret (j4 (congrArg (ow m8 [_]) (show _ = w4 l (l8, f0) by grind [w4, N7, N8, P8, O1, W5, d1, d2, t1, t2])) ?_))))))))))
    exact Fg rfl rfl (_, _, _) rfl rfl
   ·refine Ey rfl ((Y.not (b := false) rfl).yd) (Eu (n8 rfl (Ez Z9 (Em rfl (Ey rfl ((f5 fo_Fact_0 f9 dc rfl).yd) (Ey rfl (g9 f9 rfl (Hz (mS m0) 0 rfl) rfl) (Ey rfl ((f5 fo_Fact_1 ty_Is dc rfl).yd) (Ey rfl (g9 ty_Is rfl (Hz (mS m0) 1 rfl) rfl) (Est rfl (N.call (R1 fc) rfl rfl rfl dc rfl (fun w Lp hA => ⟨C3, hA.ro v6⟩)) (fun k58 _ => ?_))))))))))
    obtain ⟨a58, m58, c58⟩ := k58
    refine d7 m0 fun e58 l58 => ?_
    subst e58
    refine Est rfl (Nb [_] [_, _] us_Facts ty_Fact rfl rfl) (fun b59 _ => (d9 (d9 (j8 (Est rfl (C7 (E := C9) (ex := (l8, f0)) us_Facts ty_Fact rfl rfl rfl (M3 (x := (l8, f0)) C3 Own.ow) rfl bn bn dc) (fun p60 _ => (Ei rfl (Ev Z2 (Em rfl (Ei rfl (Eu (E.ret (j4 (congrArg (ow m8 [_]) (show _ = w4 l (l8, f0) by grind [w4, N7, N8, P8, O1, W5, d1, d2, t1, t2])) ?_)))))))))))))
    exact Fg rfl rfl (_, _, _) rfl rfl
 ·refine Eu (Eq_ (Ew Z1 (Ei rfl (Eu (E.block (u9 (A := []) (Own.nil (E := C9) (e := tFact) (a := (some ⟨b8, 0, none⟩))) rfl (j4 (congrArg (ow m8 [_]) (show [] = addS (F3 l (l8, f0)) (ltF (l8, f0)) (l8, f0) (l.take 0) from by first | rfl | (simp; done) | grind [w4, N7, N8, P8, O1, W5, d1, d2, t1, t2])) (E.loop (κ := Nat × Option Addr × Nat × Nat) (fun g => g.1 ≤ l.length ∧ True) (fun g => [(0, .slice a_l l.length c_l), (3, .pointer (some ⟨b3, 0, none⟩)), (5, .slice g.2.1 g.2.2.1 g.2.2.2), (6, .bool (F3 l (l8, f0) || (l.take g.1).any (ltF (l8, f0)))), (7, .int .i64 (↑g.1 : Int))]) (fun g => [ow m8 [.slice g.2.1 g.2.2.1 g.2.2.2] (addS (F3 l (l8, f0)) (ltF (l8, f0)) (l8, f0) (l.take g.1)), pt b3 85 [.int .i64 l8, .slice s8 f0.length s7]]) (fun g => l.length - g.1) (0, (some ⟨b8, 0, none⟩), 0, 0) ⟨Nat.zero_le _, by simp⟩ ⟨rfl, rfl, rfl, frB (by first | rfl | (simp; done) | grind [w4, N7, N8, P8, O1, W5, d1, d2, t1, t2]), rfl, trivial⟩ (.refl _) (fun g pg => ?_)))))))))
  obtain ⟨g, aA0_0, mA0_0, cA0_0⟩ := g
  try dsimp only at pg
  try dsimp only
  obtain ⟨pk, pa⟩ := pg
  have jp := List.length_take_le g l
  have ji := b0W (h := F3 l (l8, f0)) (p := (ltF (l8, f0))) (f := (l8, f0)) (l := l.take g)
  refine d7 m0 fun eaA0_0 laA0_0 => ?_
  subst eaA0_0
  refine Eq_ (Ew Z4 (Em rfl (Em rfl (Ey rfl ((Y.len us_Facts rfl).yd) (Ey rfl ((Y.lss rfl rfl).yd) (o3 (fun q15 => ?_) (fun q15 => ?_)))))))
  ·refine Eu (n8 rfl (i7 (Et (Eq_ (E.block (Eq_ (Eq_ (D.region (fun j => true) mixed (Dyp 0 rfl (i8 rfl) (Ent.b (fun q18 => ?_) (fun q18 => ?_)))))))))))
   ·refine Dyp 1 rfl (Y.not (b := true) rfl) (Dyp 2 rfl (i8 rfl) (Dsk 3 rfl (Dsk 4 rfl (Dsk 5 rfl (Dsk 6 rfl (Dsk 7 rfl (Dsk 8 rfl (Dsk 9 rfl (Dyp 10 rfl (t7 rfl rfl) (r9 kr (Et (o0 rfl (i7 (Et (D.region (fun j => !(Nat.beq j 13)) mixed (Dyp 0 rfl (i8 rfl) (Dyp 1 rfl (i8 rfl) (Dyp 2 rfl (i8 rfl) ?_))))))))))))))))))
    obtain ⟨eb40, eo40, ec40, ea40, er40, el40, eh40⟩ := hl.elem g om
    obtain ⟨xa40_0, xc40_0, rfl, ei40_0, xh40_0⟩ := K8 er40
    have := xh40_0.slen.2
    refine Dyp 3 rfl (v8 us_Facts ty_Fact rfl ea40 rfl g rfl om) (Dyp 4 rfl (f5 fo_Fact_0 f9 dc rfl) (Dy 5 rfl (g9 f9 rfl ((eh40 _).sub (cs' := [_]) 0 rfl) rfl) (Dyp 6 rfl (i8 rfl) (Dyp 7 rfl (i8 rfl) (Dyp 8 rfl (v8 us_Facts ty_Fact rfl ea40 rfl g rfl om) (Dyp 9 rfl (f5 fo_Fact_1 ty_Is dc rfl) (Dy 10 rfl (g9 ty_Is rfl ((eh40 _).sub (cs' := [_]) 1 rfl) rfl) (t6 11 rfl rfl kr (fun _ => rfl) (N.call (R1 (hyl _ (List.getElem_mem om))) rfl rfl rfl dc rfl (fun w Lp hA => ⟨ei40_0, hA.ro xh40_0⟩)) (fun k48 _ => ?_)))))))))
    obtain ⟨a48, m48, c48⟩ := k48
    refine d7 m0 fun e48 l48 => ?_
    subst e48
    refine t6 12 rfl rfl kr (fun _ => rfl) (Nb [_] [_, _] us_Facts ty_Fact rfl rfl) (fun b49 _ => (d9 (d9 (j8 (t6 13 rfl rfl kr (fun h => by cases h) (C7 (E := C9) (ex := l[g]) us_Facts ty_Fact rfl rfl rfl (M3 (x := l[g]) ei40_0 Own.ow) rfl bn bn dc) (fun p50 _ => (Dyp 14 rfl (C2 rfl) (r9 kr (s9 (Et (Ez Z3 (Em rfl (Ey rfl ((Y.add rfl rfl om om).yd) (Ei rfl (Eu (j4 (congrArg (ow m8 [_]) (show (addS (F3 l (l8, f0)) (ltF (l8, f0)) (l8, f0) (l.take g)) ++ [l[g]] = addS (F3 l (l8, f0)) (ltF (l8, f0)) (l8, f0) (l.take (g + 1)) from by grind [w4, N7, N8, P8, O1, W5, d1, d2, t1, t2])) (d9 (d9 ?_))))))))))))))))))
    exact x6 br (g + 1, p50.1, ((addS (F3 l (l8, f0)) (ltF (l8, f0)) (l8, f0) (l.take g)).length + 1), p50.2) ⟨rfl, rfl, rfl, frB (by grind [w4, N7, N8, P8, O1, W5, d1, d2, t1, t2]), rfl, trivial⟩ (.refl _) ⟨oz, trivial⟩ oz
   ·refine Dyp 1 rfl (Y.not (b := false) rfl) (Dyp 2 rfl (i8 rfl) (Dy 3 rfl (o6 (cs := [_, _]) ty_Fact rfl (Has.pt (mS m0)) rfl) (Dyp 4 rfl (i8 rfl) (Dyp 5 rfl (i8 rfl) ?_))))
    obtain ⟨eb24, eo24, ec24, ea24, er24, el24, eh24⟩ := hl.elem g om
    obtain ⟨xa24_0, xc24_0, rfl, ei24_0, xh24_0⟩ := K8 er24
    have := xh24_0.slen.2
    refine Dyp 6 rfl (v8 us_Facts ty_Fact rfl ea24 rfl g rfl om) (Dy 7 rfl (o6 (cs := [_, _]) ty_Fact rfl (eh24 _) rfl) (t6 8 rfl rfl kr (fun _ => rfl) (l0 P0 rfl rfl rfl dc (fun w Lp hA => ⟨C3, hA.ro v6, ei24_0, hA.ro xh24_0⟩)) (fun _ _ => (Dyp 9 rfl (Y.lss rfl rfl) (o3 (fun q27 => ?_) (fun q27 => ?_))))))
    ·refine Dyp 10 rfl (t8 rfl rfl) (r9 kr (Et (n8 rfl (Ew Z9 (Em rfl (Ey rfl ((f5 fo_Fact_0 f9 dc rfl).yd) (Ey rfl (g9 f9 rfl (Hz (mS m0) 0 rfl) rfl) (Ey rfl ((f5 fo_Fact_1 ty_Is dc rfl).yd) (Ey rfl (g9 ty_Is rfl (Hz (mS m0) 1 rfl) rfl) (Est rfl (N.call (R1 fc) rfl rfl rfl dc rfl (fun w Lp hA => ⟨C3, hA.ro v6⟩)) (fun k34 _ => ?_)))))))))))
     obtain ⟨a34, m34, c34⟩ := k34
     refine d7 m0 fun e34 l34 => ?_
     subst e34
     refine Est rfl (Nb [_] [_, _] us_Facts ty_Fact rfl rfl) (fun b35 _ => (d9 (d9 (j8 (Est rfl (C7 (E := C9) (ex := (l8, f0)) us_Facts ty_Fact rfl rfl rfl (M3 (x := (l8, f0)) C3 Own.ow) rfl bn bn dc) (fun p36 _ => (Ei rfl (Eu (Ez Z1 (Ei rfl (Eu (D.region (fun j => !(Nat.beq j 13)) mixed (Dyp 0 rfl (i8 rfl) (Dyp 1 rfl (i8 rfl) (Dyp 2 rfl (i8 rfl) (Dyp 3 rfl (v8 us_Facts ty_Fact rfl ea24 rfl g rfl om) (Dyp 4 rfl (f5 fo_Fact_0 f9 dc rfl) (Dy 5 rfl (g9 f9 rfl ((eh24 _).sub (cs' := [_]) 0 rfl) rfl) (Dyp 6 rfl (i8 rfl) (Dyp 7 rfl (i8 rfl) (Dyp 8 rfl (v8 us_Facts ty_Fact rfl ea24 rfl g rfl om) (Dyp 9 rfl (f5 fo_Fact_1 ty_Is dc rfl) (Dy 10 rfl (g9 ty_Is rfl ((eh24 _).sub (cs' := [_]) 1 rfl) rfl) (t6 11 rfl rfl kr (fun _ => rfl) (N.call (R1 (hyl _ (List.getElem_mem om))) rfl rfl rfl dc rfl (fun w Lp hA => ⟨ei24_0, hA.ro xh24_0⟩)) (fun k48 _ => ?_)))))))))))))))))))))))))
     obtain ⟨a48, m48, c48⟩ := k48
     refine d7 m0 fun e48 l48 => ?_
     subst e48
     refine t6 12 rfl rfl kr (fun _ => rfl) (Nb [_] [_, _] us_Facts ty_Fact rfl rfl) (fun b49 _ => (d9 (d9 (j8 (t6 13 rfl rfl kr (fun h => by cases h) (C7 (E := C9) (ex := l[g]) us_Facts ty_Fact rfl rfl rfl (M3 (x := l[g]) ei24_0 Own.ow) rfl bn bn dc) (fun p50 _ => (Dyp 14 rfl (C2 rfl) (r9 kr (s9 (Et (Ez Z3 (Em rfl (Ey rfl ((Y.add rfl rfl om om).yd) (Ei rfl (Eu (j4 (congrArg (ow m8 [_]) (show ((addS (F3 l (l8, f0)) (ltF (l8, f0)) (l8, f0) (l.take g)) ++ [(l8, f0)]) ++ [l[g]] = addS (F3 l (l8, f0)) (ltF (l8, f0)) (l8, f0) (l.take (g + 1)) from by grind [w4, N7, N8, P8, O1, W5, d1, d2, t1, t2])) (d9 (d9 ?_))))))))))))))))))
     exact x6 br (g + 1, p50.1, (((addS (F3 l (l8, f0)) (ltF (l8, f0)) (l8, f0) (l.take g)).length + 1) + 1), p50.2) ⟨rfl, rfl, rfl, frB (by grind [w4, N7, N8, P8, O1, W5, d1, d2, t1, t2]), rfl, trivial⟩ (.refl _) ⟨oz, trivial⟩ oz
    ·refine Dyp 10 rfl (t8 rfl rfl) (r9 kr (Et (o0 rfl (i7 (Et (D.region (fun j => !(Nat.beq j 13)) mixed (Dyp 0 rfl (i8 rfl) (Dyp 1 rfl (i8 rfl) (Dyp 2 rfl (i8 rfl) (Dyp 3 rfl (v8 us_Facts ty_Fact rfl ea24 rfl g rfl om) (Dyp 4 rfl (f5 fo_Fact_0 f9 dc rfl) (Dy 5 rfl (g9 f9 rfl ((eh24 _).sub (cs' := [_]) 0 rfl) rfl) (Dyp 6 rfl (i8 rfl) (Dyp 7 rfl (i8 rfl) (Dyp 8 rfl (v8 us_Facts ty_Fact rfl ea24 rfl g rfl om) (Dyp 9 rfl (f5 fo_Fact_1 ty_Is dc rfl) (Dy 10 rfl (g9 ty_Is rfl ((eh24 _).sub (cs' := [_]) 1 rfl) rfl) (t6 11 rfl rfl kr (fun _ => rfl) (N.call (R1 (hyl _ (List.getElem_mem om))) rfl rfl rfl dc rfl (fun w Lp hA => ⟨ei24_0, hA.ro xh24_0⟩)) (fun k48 _ => ?_)))))))))))))))))))
     obtain ⟨a48, m48, c48⟩ := k48
     refine d7 m0 fun e48 l48 => ?_
     subst e48
     refine t6 12 rfl rfl kr (fun _ => rfl) (Nb [_] [_, _] us_Facts ty_Fact rfl rfl) (fun b49 _ => (d9 (d9 (j8 (t6 13 rfl rfl kr (fun h => by cases h) (C7 (E := C9) (ex := l[g]) us_Facts ty_Fact rfl rfl rfl (M3 (x := l[g]) ei24_0 Own.ow) rfl bn bn dc) (fun p50 _ => (Dyp 14 rfl (C2 rfl) (r9 kr (s9 (Et (Ez Z3 (Em rfl (Ey rfl ((Y.add rfl rfl om om).yd) (Ei rfl (Eu (j4 (congrArg (ow m8 [_]) (show (addS (F3 l (l8, f0)) (ltF (l8, f0)) (l8, f0) (l.take g)) ++ [l[g]] = addS (F3 l (l8, f0)) (ltF (l8, f0)) (l8, f0) (l.take (g + 1)) from by grind [w4, N7, N8, P8, O1, W5, d1, d2, t1, t2])) (d9 (d9 ?_))))))))))))))))))
     exact x6 br (g + 1, p50.1, ((addS (F3 l (l8, f0)) (ltF (l8, f0)) (l8, f0) (l.take g)).length + 1), p50.2) ⟨rfl, rfl, rfl, frB (by grind [w4, N7, N8, P8, O1, W5, d1, d2, t1, t2]), rfl, trivial⟩ (.refl _) ⟨oz, trivial⟩ oz
  ·refine Eu (o0 rfl (E.exit (q1 (q1 (y4 (Et (Eq_ (Ew Z2 (Em rfl (Ent.b (fun q51 => ?_) (fun q51 => ?_)))))))))))
   ·refine Ey rfl ((Y.not (b := true) rfl).yd) (Eu (o0 rfl (i7 (Et (Ew Z2 (Em rfl (Ei rfl (Eu (E.ret (j4 (congrArg (ow m8 [_]) (show _ = w4 l (l8, f0) by grind [w4, N7, N8, P8, O1, W5, d1, d2, t1, t2])) ?_))))))))))
    exact Fg rfl rfl (_, _, _) rfl rfl
   ·refine Ey rfl ((Y.not (b := false) rfl).yd) (Eu (n8 rfl (Ez Z9 (Em rfl (Ey rfl ((f5 fo_Fact_0 f9 dc rfl).yd) (Ey rfl (g9 f9 rfl (Hz (mS m0) 0 rfl) rfl) (Ey rfl ((f5 fo_Fact_1 ty_Is dc rfl).yd) (Ey rfl (g9 ty_Is rfl (Hz (mS m0) 1 rfl) rfl) (Est rfl (N.call (R1 fc) rfl rfl rfl dc rfl (fun w Lp hA => ⟨C3, hA.ro v6⟩)) (fun k58 _ => ?_))))))))))
    obtain ⟨a58, m58, c58⟩ := k58
    refine d7 m0 fun e58 l58 => ?_
    subst e58
    refine Est rfl (Nb [_] [_, _] us_Facts ty_Fact rfl rfl) (fun b59 _ => (d9 (d9 (j8 (Est rfl (C7 (E := C9) (ex := (l8, f0)) us_Facts ty_Fact rfl rfl rfl (M3 (x := (l8, f0)) C3 Own.ow) rfl bn bn dc) (fun p60 _ => (Ei rfl (Ev Z2 (Em rfl (Ei rfl (Eu (E.ret (j4 (congrArg (ow m8 [_]) (show _ = w4 l (l8, f0) by grind [w4, N7, N8, P8, O1, W5, d1, d2, t1, t2])) ?_)))))))))))))
    exact Fg rfl rfl (_, _, _) rfl rfl
theorem a2U : Tr Tryz.prog 69 [.slice a_s m_s c_s, .slice a_l m_l c_l] (fun w L => Ro w L eIs [.slice a_s m_s c_s] s ∧ Ro w L m8 [.slice a_l m_l c_l] l) [] (κ := Unit) (fun k => True) (fun k => .bool (D7 s l)) (fun k => []) := by
 refine Tr.intro Tryz.func69 rfl (n := 40) rfl (by decide +kernel) bl (fr := [(0, .slice a_s m_s c_s), (1, .slice a_l m_l c_l)]) rfl fun w L hR => ?_
 obtain ⟨hs, hl⟩ := hR
 obtain ⟨rfl, ls⟩ := hs.slen
 obtain ⟨rfl, ll⟩ := hl.slen
 refine Ew Z1 (Ei rfl (Eu (Eq_ (Ew Z3 (Em rfl (Ey rfl ((Y.len us_Facts rfl).yd) (Em rfl (Eu (E.block (E.loop (κ := Nat) (fun g => g ≤ l.length ∧ a1I s l 0 = a1I s l g) (fun g => [(0, .slice a_s s.length c_s), (1, .slice a_l l.length c_l), (7, .slice a_l l.length c_l), (8, .int .i64 (↑l.length : Int)), (9, .int .i64 (g : Int))]) (fun g => []) (fun g => l.length - g) 0 ⟨Nat.zero_le _, by simp⟩ ⟨rfl, rfl, rfl, rfl, rfl, trivial⟩ (.refl _) (fun g pg => ?_)))))))))))
 obtain ⟨pk, pa⟩ := pg
 refine Ew Z1 (Ey rfl ((Y.lss rfl rfl).yd) (o3 (fun q10 => ?_) (fun q10 => ?_)))
 ·refine Eu (Eq_ (n8 rfl (i7 (Et (Eq_ (E.block (Ew Z6 (Em rfl ?_))))))))
  obtain ⟨eb12, eo12, ec12, ea12, er12, el12, eh12⟩ := hl.elem g om
  obtain ⟨xa12_0, xc12_0, rfl, ei12_0, xh12_0⟩ := K8 er12
  have := xh12_0.slen.2
  refine Ey rfl ((v8 us_Facts ty_Fact rfl ea12 rfl g rfl om).yd) (Ey rfl (o6 (cs := [_, _]) ty_Fact rfl (eh12 _) rfl) (Est rfl (N.alloc ty_Fact dc) (fun b6 _ => (Ei rfl (Est rfl (Ns [_, _] ty_Fact rfl) (fun _ _ => (Eu (Eq_ (D.region (fun j => true) mixed (Dyp 0 rfl (i8 rfl) (Dy 1 rfl (o6 (cs := [_, _]) ty_Fact rfl (Has.pt m0) rfl) (t6 2 rfl rfl kr (fun _ => rfl) (l0 a3G rfl rfl rfl dc (fun w Lp hA => ⟨hA.ro hs, ei12_0, hA.ro xh12_0⟩)) (fun _ _ => (Ent.b (fun q16 => ?_) (fun q16 => ?_)))))))))))))))
  ·refine Dyp 3 rfl (Y.not (b := true) rfl) (Dyp 4 rfl (i8 rfl) (Dyp 5 rfl (i8 rfl) (Dyp 6 rfl (Y.gtr rfl rfl) (o3 (fun q20 => ?_) (fun q20 => ?_)))))
   ·refine Dyp 7 rfl (i8 rfl) (Dyp 8 rfl (i8 rfl) (Dyp 9 rfl (i8 rfl) (Dyp 10 rfl (Y.sub rfl rfl om om) ?_)))
    obtain ⟨eb25, eo25, ec25, ea25, er25, el25, eh25⟩ := hl.elem (g - 1) om
    obtain ⟨xa25_0, xc25_0, rfl, ei25_0, xh25_0⟩ := K8 er25
    have := xh25_0.slen.2
    refine Dyp 11 rfl (v8 us_Facts ty_Fact rfl ea25 rfl (g - 1) om om) (Dy 12 rfl (o6 (cs := [_, _]) ty_Fact rfl (eh25 _) rfl) (Dy 13 rfl (o6 (cs := [_, _]) ty_Fact rfl (Has.pt m0) rfl) (t6 14 rfl rfl kr (fun _ => rfl) (l0 R8 rfl rfl rfl dc (fun w Lp hA => ⟨ei25_0, hA.ro xh25_0, ei12_0, hA.ro xh12_0⟩)) (fun _ _ => (Dyp 15 rfl (Y.geq rfl rfl) (o3 (fun q29 => ?_) (fun q29 => ?_)))))))
    ·refine Dyp 16 rfl (t8 rfl rfl) (Dyp 17 rfl (t7 rfl rfl) (r9 kr (Et (n8 rfl (Ew Z1 (Ei rfl ?_))))))
     exact Eu (E.ret (y8 (n0 (n0 (y8 (n0 (Fb rfl rfl (by grind [D7, a1I, E5, E3, F2, ltF, d1, d2, t1, t2]))))))))
    ·refine Dyp 16 rfl (t8 rfl rfl) (Dyp 17 rfl (t7 rfl rfl) (r9 kr (Et (o0 rfl (i7 (s9 (Et (Ez Z2 (Ey rfl ((Y.add rfl rfl om om).yd) (Em rfl (Eu (Ent.drop ?_))))))))))))
     exact x6 br (g + 1) rs (.refl _) ⟨by omega, by grind [a1I, E5, E3, F2, ltF, Bool.and_assoc, d1, d2, t1, t2]⟩ om
   ·refine Dyp 7 rfl (i8 rfl) (Dsk 8 rfl (Dsk 9 rfl (Dsk 10 rfl (Dsk 11 rfl (Dsk 12 rfl (Dsk 13 rfl (Dsk 14 rfl (Dsk 15 rfl (Dyp 16 rfl (t7 rfl rfl) (Dyp 17 rfl (t7 rfl rfl) (r9 kr (Et (o0 rfl (i7 (s9 (Et (Ez Z2 (Ey rfl ((Y.add rfl rfl om om).yd) (Em rfl (Eu (Ent.drop ?_)))))))))))))))))))))
    exact x6 br (g + 1) rs (.refl _) ⟨by omega, by grind [a1I, E5, E3, F2, ltF, Bool.and_assoc, d1, d2, t1, t2]⟩ om
  ·refine Dyp 3 rfl (Y.not (b := false) rfl) (Dyp 4 rfl (i8 rfl) (Dsk 5 rfl (Dsk 6 rfl (b0O 7 rfl rfl dc kr (Dsk 8 rfl (Dsk 9 rfl (Dsk 10 rfl (Dsk 11 rfl (Dsk 12 rfl (Dsk 13 rfl (Dsk 14 rfl (Dsk 15 rfl (Dsk 16 rfl (Dyp 17 rfl (t8 rfl rfl) (r9 kr (Et (n8 rfl (Ew Z1 (Ei rfl ?_)))))))))))))))))))
   exact Eu (E.ret (y8 (n0 (n0 (y8 (n0 (Fb rfl rfl (by grind [D7, a1I, E5, E3, F2, ltF, d1, d2, t1, t2]))))))))
 ·refine Eu (Eq_ (o0 rfl (E.exit (q1 (q1 (y4 (Et (Ew Z8 (Em rfl (Est rfl (l0 a1O rfl rfl rfl dc (fun w Lp hA => hA.ro hs)) (fun _ _ => (Ent.b (fun q34 => ?_) (fun q34 => ?_)))))))))))))
  ·refine Em rfl (Em rfl (Ey rfl ((Y.len us_Facts rfl).yd) (Ey rfl ((Y.leq rfl rfl).yd) (Ey rfl ((t8 rfl rfl).yd) (Ei rfl ?_)))))
   exact Eu (E.ret (Fb rfl rfl (by grind [D7, a1I, E5, E3, F2, ltF, d1, d2, t1, t2])))
  ·refine Em rfl (Es rfl (Es rfl (Es rfl (Ey rfl ((t7 rfl rfl).yd) (Ei rfl ?_)))))
   exact Eu (E.ret (Fb rfl rfl (by grind [D7, a1I, E5, E3, F2, ltF, d1, d2, t1, t2])))
theorem S2 : Tr Tryz.prog 16 [.slice a_s m_s c_s, .slice a_l m_l c_l] (fun w L => Ro w L eIs [.slice a_s m_s c_s] s ∧ Ro w L m8 [.slice a_l m_l c_l] l) [] (κ := Unit) (fun k => True) (fun k => .bool (D7 s l)) (fun k => []) := by
 refine Tr.intro Tryz.func16 rfl (n := 43) rfl (by decide +kernel) bl (fr := [(0, .slice a_s m_s c_s), (1, .slice a_l m_l c_l)]) rfl fun w L hR => ?_
 obtain ⟨hs, hl⟩ := hR
 obtain ⟨rfl, ls⟩ := hs.slen
 obtain ⟨rfl, ll⟩ := hl.slen
 refine Ew Z1 (Ei rfl (Eu (Eq_ (Ew Z1 (Ei rfl (Eu (E.block (E.loop (κ := Nat) (fun g => g ≤ l.length ∧ a1I s l 0 = a1I s l g) (fun g => [(0, .slice a_s s.length c_s), (1, .slice a_l l.length c_l), (5, .int .i64 (g : Int))]) (fun g => []) (fun g => l.length - g) 0 ⟨Nat.zero_le _, by simp⟩ ⟨rfl, rfl, rfl, trivial⟩ (.refl _) (fun g pg => ?_)))))))))
 obtain ⟨pk, pa⟩ := pg
 refine Eq_ (Ew Z4 (Em rfl (Em rfl (Ey rfl ((Y.len us_Facts rfl).yd) (Ey rfl ((Y.lss rfl rfl).yd) (o3 (fun q9 => ?_) (fun q9 => ?_)))))))
 ·refine Eu (n8 rfl (i7 (Et (Eq_ (E.block (Eq_ (D.region (fun j => true) mixed (Dyp 0 rfl (i8 rfl) (Dyp 1 rfl (i8 rfl) (Dyp 2 rfl (i8 rfl) ?_))))))))))
  obtain ⟨eb15, eo15, ec15, ea15, er15, el15, eh15⟩ := hl.elem g om
  obtain ⟨xa15_0, xc15_0, rfl, ei15_0, xh15_0⟩ := K8 er15
  have := xh15_0.slen.2
  refine Dyp 3 rfl (v8 us_Facts ty_Fact rfl ea15 rfl g rfl om) (Dy 4 rfl (o6 (cs := [_, _]) ty_Fact rfl (eh15 _) rfl) (t6 5 rfl rfl kr (fun _ => rfl) (l0 a6m rfl rfl rfl dc (fun w Lp hA => ⟨hA.ro hs, ei15_0, hA.ro xh15_0⟩)) (fun _ _ => (Ent.b (fun q17 => ?_) (fun q17 => ?_)))))
  ·refine Dyp 6 rfl (Y.not (b := true) rfl) (Dyp 7 rfl (i8 rfl) (Dyp 8 rfl (i8 rfl) (Dyp 9 rfl (Y.gtr rfl rfl) (o3 (fun q21 => ?_) (fun q21 => ?_)))))
   ·refine Dyp 10 rfl (i8 rfl) (Dyp 11 rfl (i8 rfl) (Dyp 12 rfl (i8 rfl) (Dyp 13 rfl (Y.sub rfl rfl om om) ?_)))
    obtain ⟨eb26, eo26, ec26, ea26, er26, el26, eh26⟩ := hl.elem (g - 1) om
    obtain ⟨xa26_0, xc26_0, rfl, ei26_0, xh26_0⟩ := K8 er26
    have := xh26_0.slen.2
    refine Dyp 14 rfl (v8 us_Facts ty_Fact rfl ea26 rfl (g - 1) om om) (Dy 15 rfl (o6 (cs := [_, _]) ty_Fact rfl (eh26 _) rfl) (Dyp 16 rfl (i8 rfl) (Dyp 17 rfl (i8 rfl) (Dyp 18 rfl (v8 us_Facts ty_Fact rfl ea15 rfl g rfl om) (Dy 19 rfl (o6 (cs := [_, _]) ty_Fact rfl (eh15 _) rfl) (t6 20 rfl rfl kr (fun _ => rfl) (l0 P0 rfl rfl rfl dc (fun w Lp hA => ⟨ei26_0, hA.ro xh26_0, ei15_0, hA.ro xh15_0⟩)) (fun _ _ => (Dyp 21 rfl (Y.geq rfl rfl) (o3 (fun q33 => ?_) (fun q33 => ?_))))))))))
    ·refine Dyp 22 rfl (t8 rfl rfl) (Dyp 23 rfl (t7 rfl rfl) (r9 kr (Et (n8 rfl (Ew Z1 (Ei rfl ?_))))))
     exact Eu (E.ret (y8 (n0 (n0 (y8 (n0 (Fb rfl rfl (by grind [D7, a1I, E5, E3, F2, ltF, d1, d2, t1, t2]))))))))
    ·refine Dyp 22 rfl (t8 rfl rfl) (Dyp 23 rfl (t7 rfl rfl) (r9 kr (Et (o0 rfl (i7 (s9 (Et (Ez Z3 (Em rfl (Ey rfl ((Y.add rfl rfl om om).yd) (Ei rfl ?_)))))))))))
     exact Eu (x6 br (g + 1) rs (.refl _) ⟨by omega, by grind [a1I, E5, E3, F2, ltF, Bool.and_assoc, d1, d2, t1, t2]⟩ om)
   ·refine Dyp 10 rfl (i8 rfl) (Dsk 11 rfl (Dsk 12 rfl (Dsk 13 rfl (Dsk 14 rfl (Dsk 15 rfl (Dsk 16 rfl (Dsk 17 rfl (Dsk 18 rfl (Dsk 19 rfl (Dsk 20 rfl (Dsk 21 rfl (Dyp 22 rfl (t7 rfl rfl) (Dyp 23 rfl (t7 rfl rfl) (r9 kr (Et (o0 rfl (i7 (s9 (Et (Ez Z3 (Em rfl (Ey rfl ((Y.add rfl rfl om om).yd) (Ei rfl ?_)))))))))))))))))))))))
    exact Eu (x6 br (g + 1) rs (.refl _) ⟨by omega, by grind [a1I, E5, E3, F2, ltF, Bool.and_assoc, d1, d2, t1, t2]⟩ om)
  ·refine Dyp 6 rfl (Y.not (b := false) rfl) (Dyp 7 rfl (i8 rfl) (Dsk 8 rfl (Dsk 9 rfl (b0O 10 rfl rfl dc kr (Dsk 11 rfl (Dsk 12 rfl (Dsk 13 rfl (Dsk 14 rfl (Dsk 15 rfl (Dsk 16 rfl (Dsk 17 rfl (Dsk 18 rfl (Dsk 19 rfl (Dsk 20 rfl (Dsk 21 rfl (Dsk 22 rfl (Dyp 23 rfl (t8 rfl rfl) (r9 kr (Et (n8 rfl (Ew Z1 (Ei rfl ?_))))))))))))))))))))))
   exact Eu (E.ret (y8 (n0 (n0 (y8 (n0 (Fb rfl rfl (by grind [D7, a1I, E5, E3, F2, ltF, d1, d2, t1, t2]))))))))
 ·refine Eu (o0 rfl (E.exit (q1 (q1 (y4 (Et (Ew Z8 (Em rfl (Est rfl (l0 M9 rfl rfl rfl dc (fun w Lp hA => hA.ro hs)) (fun _ _ => (Ent.b (fun q37 => ?_) (fun q37 => ?_))))))))))))
  ·refine Em rfl (Em rfl (Ey rfl ((Y.len us_Facts rfl).yd) (Ey rfl ((Y.leq rfl rfl).yd) (Ey rfl ((t8 rfl rfl).yd) (Ei rfl ?_)))))
   exact Eu (E.ret (Fb rfl rfl (by grind [D7, a1I, E5, E3, F2, ltF, d1, d2, t1, t2])))
  ·refine Em rfl (Es rfl (Es rfl (Es rfl (Ey rfl ((t7 rfl rfl).yd) (Ei rfl ?_)))))
   exact Eu (E.ret (Fb rfl rfl (by grind [D7, a1I, E5, E3, F2, ltF, d1, d2, t1, t2])))
end Go.Proofs.YthapcdhdfaibkaaGreatDoor
