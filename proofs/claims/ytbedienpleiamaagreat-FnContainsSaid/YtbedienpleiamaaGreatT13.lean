import Derived.Test.YtbedienpleiamaaGreatT12
import Derived.Test.YtbedienpleiamaaGreatT9
namespace Go.Proofs.YtbedienpleiamaaGreat
open Go.RowKit
set_option linter.all false
set_option maxHeartbeats 2000000
attribute [local irreducible] Nop Yd Yp Ent Has Tr FnP FnP2 Src O1 S7 W5 X5 I0
variable {j5 : Int} {l : List (Int × List Int)} {d6 : List Int} {C3 z7 m_l c_l : Nat} {z8 a_l : Option Addr}
theorem a1H (hyf : d6.length ≤ 1048576) : Tr Tryz.prog 178 [.agg #[.int .i64 j5, .slice z8 C3 z7]] (fun w L => I64 j5 ∧ Ro w L eIs [.slice z8 C3 z7] d6) [] (κ := Option Addr × Nat × Nat) (fun k => True) (fun k => .agg #[.int .i64 j5, .slice k.1 k.2.1 k.2.2]) (fun k => [ow eIs [.slice k.1 k.2.1 k.2.2] d6]) := by
 refine Tr.intro Tryz.func178 rfl (n := 9) rfl (by decide +kernel) bl (fr := [(0, .agg #[.int .i64 j5, .slice z8 C3 z7])]) rfl fun w L hR => ?_
 obtain ⟨F3, y9⟩ := hR
 obtain ⟨rfl, R9⟩ := y9.slen
 refine Ew Z2 (Est rfl (N.box (cs := [_, _]) rfl dc rfl) (fun b1 _ => (Est rfl (N.alloc ty_Fact dc) (fun b2 _ => (Eu (Eq_ (D.region (fun j => !(Nat.beq j 6)) mixed (Dyp 0 rfl (i0 fo_Fact_0 f6 dc rfl) (Dy 1 rfl (f9 f6 rfl (Hz (mS m0) 0 rfl) rfl) (Dyp 2 rfl (i0 fo_Fact_1 ty_Is dc rfl) (Dy 3 rfl (f9 ty_Is rfl (Hz (mS m0) 1 rfl) rfl) (r8 4 rfl rfl kr (fun _ => rfl) (N.call (a0k fc) rfl rfl rfl dc rfl (fun w Lp hA => hA.ro y9)) (fun k7 _ => ?_)))))))))))))
 obtain ⟨a7, m7, c7⟩ := k7
 refine d4 m0 fun e7 l7 => ?_
 subst e7
 refine Dyp 5 rfl (E9 (pvs := [_, _]) (cs := [_, _]) ty_Fact a0z rfl rfl) (d7 (r8 6 rfl rfl kr (fun h => by cases h) (Ns [_, _] ty_Fact rfl) (fun _ _ => (r7 kr (Et (E.ret (d7 ?_)))))))
 exact H8 br rfl rfl (mS m0) ty_Fact rfl (_, _, _) trivial rfl (J := _) (.refl _) (.inl rfl)
theorem K7 {rel : Int} {a_values : Option Addr} {m_values c_values : Nat} {S0 : List Int} (hz : S0.length ≤ 1048576) : Tr Tryz.prog 131 [.int .i64 rel, .slice a_values m_values c_values] (fun w L => I64 rel ∧ Ro w L eIs [.slice a_values m_values c_values] S0) [] (κ := Option Addr × Nat × Nat) (fun k => True) (fun k => .agg #[.int .i64 rel, .slice k.1 k.2.1 k.2.2]) (fun k => [ow eIs [.slice k.1 k.2.1 k.2.2] S0]) := by
 refine Tr.intro Tryz.func131 rfl (n := 10) rfl (by decide +kernel) bl (fr := [(0, .int .i64 rel), (1, .slice a_values m_values c_values)]) rfl fun w L hR => ?_
 obtain ⟨i6rel, hvalues⟩ := hR
 obtain ⟨rfl, lvalues⟩ := hvalues.slen
 refine Ew Z1 (Est rfl (N.alloc ty_Fact dc) (fun b4 _ => (Ev Z6 (Em rfl (Est rfl (Nb [] [] us_Is f6 rfl rfl) (fun b6 _ => (Ent.drop (Em rfl (Est rfl (G9 (E := Enc.int) Plain.int us_Is f6 rfl rfl rfl hvalues bn bn dc) (fun p8 _ => (Ey rfl ((E9 (pvs := [_, _]) (cs := [_, _]) ty_Fact a0z rfl rfl).yd) (d7 (Est rfl (Ns [_, _] ty_Fact rfl) (fun _ _ => (Eu (E.ret (d7 ?_)))))))))))))))))
 exact H8 br rfl rfl (mS m0) ty_Fact rfl (_, _, _) trivial rfl (J := _) (.refl _) (.inl rfl)
theorem a5b {a0W : Int} {U6 : Option Addr} {U7 U8 : Nat} {a1r : List Int} {b_f : Nat} : Tr Tryz.prog 176 [.agg #[.int .i64 a0W, .slice U6 U7 U8], .pointer (some ⟨b_f, 0, none⟩)] (fun w L => (I64 a0W ∧ Ro w L eIs [.slice U6 U7 U8] a1r) ∧ RoPt w L b_f [.int .i64 j5, .slice z8 C3 z7] ∧ I64 j5 ∧ Ro w L eIs [.slice z8 C3 z7] d6) [] (κ := Unit) (fun k => True) (fun k => .bool (decide (0 < I8 (a0W, a1r) (j5, d6)))) (fun k => []) := by
 refine Tr.intro Tryz.func176 rfl (n := 8) rfl (by decide +kernel) bl (fr := [(0, .agg #[.int .i64 a0W, .slice U6 U7 U8]), (1, .pointer (some ⟨b_f, 0, none⟩))]) rfl fun w L hR => ?_
 obtain ⟨⟨a5k, a0L⟩, hb_f, F3, y9⟩ := hR
 obtain ⟨rfl, a8R⟩ := a0L.slen
 obtain ⟨rfl, R9⟩ := y9.slen
 refine Ew Z2 (Est rfl (N.box (cs := [_, _]) rfl dc rfl) (fun b2 _ => (Ei rfl (Ev Z5 (Ey rfl (j6 (cs := [_, _]) ty_Fact rfl (Has.pt m0) rfl) (Ey rfl (j6 (cs := [_, _]) ty_Fact rfl (hb_f.has) rfl) (Est rfl (m6 a0o rfl rfl rfl dc (fun w Lp hA => ⟨a5k, hA.ro a0L, F3, hA.ro y9⟩)) (fun _ _ => (Ey rfl ((Y.gtr rfl rfl).yd) (Ei rfl ?_))))))))))
 exact Eu (E.ret (Fg rfl rfl () rfl rfl))
theorem a6y (hz : l.length ≤ 1000000000) (hyf : d6.length ≤ 1048576) : Tr Tryz.prog 127 [.slice a_l m_l c_l, .agg #[.int .i64 j5, .slice z8 C3 z7]] (fun w L => I64 j5 ∧ Ro w L eIs [.slice z8 C3 z7] d6) [ow u5 [.slice a_l m_l c_l] l] (κ := Option Addr × Nat × Nat) (fun k => True) (fun k => .slice k.1 k.2.1 k.2.2) (fun k => [ow u5 [.slice k.1 k.2.1 k.2.2] (D1 l (j5, d6))]) := by
 refine Tr.intro Tryz.func127 rfl (n := 23) rfl (by decide +kernel) bl (fr := [(0, .slice a_l m_l c_l), (1, .agg #[.int .i64 j5, .slice z8 C3 z7])]) rfl fun w L hR => ?_
 obtain ⟨F3, y9⟩ := hR
 obtain ⟨rfl, R9⟩ := y9.slen
 refine d4 m0 fun el ll => ?_
 subst el
 refine Ew Z2 (Est rfl (N.box (cs := [_, _]) rfl dc rfl) (fun b3 _ => (Ei rfl (Eu (Eq_ (Ew Z3 (Em rfl (Ey rfl (j6 (cs := [_, _]) ty_Fact rfl (Has.pt m0) rfl) (Est rfl (m6 a2j rfl rfl rfl dc (fun w Lp hA => ⟨hA.ow (mS m0), F3, hA.ro y9⟩)) (fun _ _ => (t7 (fun q8 => ?_) (fun q8 => ?_))))))))))))
 ·refine Eu (o0 rfl (Ew Z2 (Em rfl (Ei rfl (Eu (E.ret (o4 (d7 (i9 (congrArg (ow u5 [_]) (show _ = D1 l (j5, d6) by grind [a3Y, a3X])) ?_)))))))))
  exact Fg rfl rfl (_, _, _) rfl rfl
 ·refine Eu (n0 rfl (f8 (Et (Ew Z4 (Em rfl (Ey rfl ((Y.fn (vs := [_]) rfl).yd) (Est rfl (m6 (a1a (f := (fun z => decide (0 < I8 z (j5, d6)))) (D_f := (fun _ => True)) (by intros; exact trivial)) rfl rfl rfl dc (fun w Lp hA => ⟨hA.ow (mS m0), a4T (D := (fun _ => True)) (fun hd => a5b) (fun w' hk => ⟨(hA.pt m0).keep hk, F3, (hA.ro y9).keep hk⟩)⟩)) (fun _ _ => (Ei rfl (Eu (Eq_ (Ew Z2 (Em rfl (Ey rfl ((Y.lss rfl rfl).yd) (n9 (fun q14 => ?_) (fun q14 => ?_))))))))))))))))
  ·refine Eu (o0 rfl (Ez Z3 (Em rfl (Ey rfl ((Y.len us_Facts rfl).yd) (Ei rfl (Ev Z7 (Em rfl (Em rfl (Ey rfl (j6 (cs := [_, _]) ty_Fact rfl (Has.pt m0) rfl) (Est rfl (N.call (a1H fc) rfl rfl rfl dc rfl (fun w Lp hA => ⟨F3, hA.ro y9⟩)) (fun k20 _ => ?_)))))))))))
   obtain ⟨a20, m20, c20⟩ := k20
   refine d4 m0 fun e20 l20 => ?_
   subst e20
   refine Est rfl (Nb [_] [_, _] us_Facts ty_Fact rfl rfl) (fun b21 _ => (d7 (d7 (o2 (A := _ :: _) (W7 (E := G0) (e := tFact) (I4 (x := (j5, d6)) F3 Own.ow)) rfl ?_))))
   have ji := a5L (p := fun z => decide (0 < I8 z (j5, d6))) (s := l)
   refine g9 (Est rfl (N.call (pre := [_, _]) (a2P om (by simp) (by simp; omega)) rfl rfl rfl dc rfl tv) (fun k22 _ => ?_))
   obtain ⟨a22, m22, c22⟩ := k22
   refine d4 m0 fun e22 l22 => ?_
   subst e22
   refine Ei rfl (Eu (E.ret (i9 (congrArg (ow u5 [_]) (show _ = D1 l (j5, d6) by grind [a3Y, a3X])) ?_)))
   exact Fg rfl rfl (_, _, _) rfl rfl
  ·refine Eu (n0 rfl (f8 (Et (Ew Z7 (Em rfl (Em rfl (Ey rfl (j6 (cs := [_, _]) ty_Fact rfl (Has.pt m0) rfl) (Est rfl (N.call (a1H fc) rfl rfl rfl dc rfl (fun w Lp hA => ⟨F3, hA.ro y9⟩)) (fun k20 _ => ?_)))))))))
   obtain ⟨a20, m20, c20⟩ := k20
   refine d4 m0 fun e20 l20 => ?_
   subst e20
   refine Est rfl (Nb [_] [_, _] us_Facts ty_Fact rfl rfl) (fun b21 _ => (d7 (d7 (o2 (A := _ :: _) (W7 (E := G0) (e := tFact) (I4 (x := (j5, d6)) F3 Own.ow)) rfl ?_))))
   have ji := a5L (p := fun z => decide (0 < I8 z (j5, d6))) (s := l)
   refine g9 (Est rfl (N.call (pre := [_, _]) (a2P om (by simp) (by simp; omega)) rfl rfl rfl dc rfl tv) (fun k22 _ => ?_))
   obtain ⟨a22, m22, c22⟩ := k22
   refine d4 m0 fun e22 l22 => ?_
   subst e22
   refine Ei rfl (Eu (E.ret (i9 (congrArg (ow u5 [_]) (show _ = D1 l (j5, d6) by grind [a3Y, a3X])) ?_)))
   exact Fg rfl rfl (_, _, _) rfl rfl
theorem a2b (hz : l.length ≤ 1000000000) (hyl : ∀ x ∈ l, x.2.length ≤ 1048576) (hyf : d6.length ≤ 1048576) : Tr Tryz.prog 66 [.slice a_l m_l c_l, .agg #[.int .i64 j5, .slice z8 C3 z7]] (fun w L => Ro w L u5 [.slice a_l m_l c_l] l ∧ I64 j5 ∧ Ro w L eIs [.slice z8 C3 z7] d6) [] (κ := Option Addr × Nat × Nat) (fun k => True) (fun k => .slice k.1 k.2.1 k.2.2) (fun k => [ow u5 [.slice k.1 k.2.1 k.2.2] (D1 l (j5, d6))]) := by
 refine Tr.intro Tryz.func66 rfl (n := 62) rfl (by decide +kernel) bl (fr := [(0, .slice a_l m_l c_l), (1, .agg #[.int .i64 j5, .slice z8 C3 z7])]) rfl fun w L hR => ?_
 obtain ⟨hl, F3, y9⟩ := hR
 obtain ⟨rfl, ll⟩ := hl.slen
 obtain ⟨rfl, R9⟩ := y9.slen
 refine Ew Z2 (Est rfl (N.box (cs := [_, _]) rfl dc rfl) (fun b3 _ => (Ei rfl (Ev Z2 (Est rfl (Nb [] [] us_Facts ty_Fact rfl rfl) (fun b8 _ => (Ent.drop (Ei rfl (Ev Z4 (Em rfl (Ey rfl (j6 (cs := [_, _]) ty_Fact rfl (Has.pt m0) rfl) (Est rfl (m6 a2g rfl rfl rfl dc (fun w Lp hA => ⟨hA.ro hl, F3, hA.ro y9⟩)) (fun _ _ => (Ei rfl (t7 (fun q6 => ?_) (fun q6 => ?_))))))))))))))))
 ·refine Eu (Eq_ (Ew Z1 (Ei rfl (Eu (E.block (o2 (A := []) (Own.nil (E := G0) (e := tFact) (a := (some ⟨b8, 0, none⟩))) rfl (i9 (congrArg (ow u5 [_]) (show [] = G8 (F5 l (j5, d6)) (ltF (j5, d6)) (j5, d6) (l.take 0) from by first | rfl | (simp; done) | grind [D1, C5, C6, D2, B9, M7, d1, d2, t1, t2])) (E.loop (κ := Nat × Option Addr × Nat × Nat) (fun g => g.1 ≤ l.length ∧ True) (fun g => [(0, .slice a_l l.length c_l), (3, .pointer (some ⟨b3, 0, none⟩)), (5, .slice g.2.1 g.2.2.1 g.2.2.2), (6, .bool (F5 l (j5, d6) || (l.take g.1).any (ltF (j5, d6)))), (7, .int .i64 (↑g.1 : Int))]) (fun g => [ow u5 [.slice g.2.1 g.2.2.1 g.2.2.2] (G8 (F5 l (j5, d6)) (ltF (j5, d6)) (j5, d6) (l.take g.1)), pt b3 83 [.int .i64 j5, .slice z8 d6.length z7]]) (fun g => l.length - g.1) (0, (some ⟨b8, 0, none⟩), 0, 0) ⟨Nat.zero_le _, by simp⟩ ⟨rfl, rfl, rfl, frB (by first | rfl | (simp; done) | grind [D1, C5, C6, D2, B9, M7, d1, d2, t1, t2]), rfl, trivial⟩ (.refl _) (fun g pg => ?_)))))))))
  obtain ⟨g, aA0_0, mA0_0, cA0_0⟩ := g
  try dsimp only at pg
  try dsimp only
  obtain ⟨pk, pa⟩ := pg
  have jp := List.length_take_le g l
  have ji := a3U (h := F5 l (j5, d6)) (p := (ltF (j5, d6))) (f := (j5, d6)) (l := l.take g)
  refine d4 m0 fun eaA0_0 laA0_0 => ?_
  subst eaA0_0
  refine Eq_ (Ew Z4 (Em rfl (Em rfl (Ey rfl ((Y.len us_Facts rfl).yd) (Ey rfl ((Y.lss rfl rfl).yd) (n9 (fun q15 => ?_) (fun q15 => ?_)))))))
  ·refine Eu (o0 rfl (f8 (Et (Eq_ (E.block (Eq_ (Eq_ (D.region (fun j => true) mixed (Dyp 0 rfl (i8 rfl) (t7 (fun q18 => ?_) (fun q18 => ?_)))))))))))
   ·refine Dyp 1 rfl (Y.not (b := true) rfl) (Dyp 2 rfl (i8 rfl) (Dsk 3 rfl (Dsk 4 rfl (Dsk 5 rfl (Dsk 6 rfl (Dsk 7 rfl (Dsk 8 rfl (Dsk 9 rfl (Dyp 10 rfl (u7 rfl rfl) (r7 kr (Et (n0 rfl (f8 (Et (D.region (fun j => !(Nat.beq j 13)) mixed (Dyp 0 rfl (i8 rfl) (Dyp 1 rfl (i8 rfl) (Dyp 2 rfl (i8 rfl) ?_))))))))))))))))))
    obtain ⟨eb40, eo40, ec40, ea40, er40, el40, eh40⟩ := hl.elem g om
    obtain ⟨xa40_0, xc40_0, rfl, ei40_0, xh40_0⟩ := M4 er40
    have := xh40_0.slen.2
    refine Dyp 3 rfl (t6 us_Facts ty_Fact rfl ea40 rfl g rfl om) (Dyp 4 rfl (i0 fo_Fact_0 f6 dc rfl) (Dy 5 rfl (f9 f6 rfl ((eh40 _).sub (cs' := [_]) 0 rfl) rfl) (Dyp 6 rfl (i8 rfl) (Dyp 7 rfl (i8 rfl) (Dyp 8 rfl (t6 us_Facts ty_Fact rfl ea40 rfl g rfl om) (Dyp 9 rfl (i0 fo_Fact_1 ty_Is dc rfl) (Dy 10 rfl (f9 ty_Is rfl ((eh40 _).sub (cs' := [_]) 1 rfl) rfl) (r8 11 rfl rfl kr (fun _ => rfl) (N.call (K7 (hyl _ (List.getElem_mem om))) rfl rfl rfl dc rfl (fun w Lp hA => ⟨ei40_0, hA.ro xh40_0⟩)) (fun k48 _ => ?_)))))))))
    obtain ⟨a48, m48, c48⟩ := k48
    refine d4 m0 fun e48 l48 => ?_
    subst e48
    refine r8 12 rfl rfl kr (fun _ => rfl) (Nb [_] [_, _] us_Facts ty_Fact rfl rfl) (fun b49 _ => (d7 (d7 (g9 (r8 13 rfl rfl kr (fun h => by cases h) (v7 (E := G0) (ex := l[g]) us_Facts ty_Fact rfl rfl rfl (I4 (x := l[g]) ei40_0 Own.ow) rfl bn bn dc) (fun p50 _ => (Dyp 14 rfl (C0 rfl) (r7 kr (s4 (Et (Ez Z3 (Em rfl (Ey rfl ((Y.add rfl rfl om om).yd) (Ei rfl (Eu (i9 (congrArg (ow u5 [_]) (show (G8 (F5 l (j5, d6)) (ltF (j5, d6)) (j5, d6) (l.take g)) ++ [l[g]] = G8 (F5 l (j5, d6)) (ltF (j5, d6)) (j5, d6) (l.take (g + 1)) from by grind [D1, C5, C6, D2, B9, M7, d1, d2, t1, t2])) (d7 (d7 ?_))))))))))))))))))
    exact x3 br (g + 1, p50.1, ((G8 (F5 l (j5, d6)) (ltF (j5, d6)) (j5, d6) (l.take g)).length + 1), p50.2) ⟨rfl, rfl, rfl, frB (by grind [D1, C5, C6, D2, B9, M7, d1, d2, t1, t2]), rfl, trivial⟩ (.refl _) ⟨oz, trivial⟩ oz
   ·refine Dyp 1 rfl (Y.not (b := false) rfl) (Dyp 2 rfl (i8 rfl) (Dy 3 rfl (j6 (cs := [_, _]) ty_Fact rfl (Has.pt (mS m0)) rfl) (Dyp 4 rfl (i8 rfl) (Dyp 5 rfl (i8 rfl) ?_))))
    obtain ⟨eb24, eo24, ec24, ea24, er24, el24, eh24⟩ := hl.elem g om
    obtain ⟨xa24_0, xc24_0, rfl, ei24_0, xh24_0⟩ := M4 er24
    have := xh24_0.slen.2
    refine Dyp 6 rfl (t6 us_Facts ty_Fact rfl ea24 rfl g rfl om) (Dy 7 rfl (j6 (cs := [_, _]) ty_Fact rfl (eh24 _) rfl) (r8 8 rfl rfl kr (fun _ => rfl) (m6 O0 rfl rfl rfl dc (fun w Lp hA => ⟨F3, hA.ro y9, ei24_0, hA.ro xh24_0⟩)) (fun _ _ => (Dyp 9 rfl (Y.lss rfl rfl) (n9 (fun q27 => ?_) (fun q27 => ?_))))))
    ·refine Dyp 10 rfl (v8 rfl rfl) (r7 kr (Et (o0 rfl (Ew Z9 (Em rfl (Ey rfl ((i0 fo_Fact_0 f6 dc rfl).yd) (Ey rfl (f9 f6 rfl (Hz (mS m0) 0 rfl) rfl) (Ey rfl ((i0 fo_Fact_1 ty_Is dc rfl).yd) (Ey rfl (f9 ty_Is rfl (Hz (mS m0) 1 rfl) rfl) (Est rfl (N.call (K7 fc) rfl rfl rfl dc rfl (fun w Lp hA => ⟨F3, hA.ro y9⟩)) (fun k34 _ => ?_)))))))))))
     obtain ⟨a34, m34, c34⟩ := k34
     refine d4 m0 fun e34 l34 => ?_
     subst e34
     refine Est rfl (Nb [_] [_, _] us_Facts ty_Fact rfl rfl) (fun b35 _ => (d7 (d7 (g9 (Est rfl (v7 (E := G0) (ex := (j5, d6)) us_Facts ty_Fact rfl rfl rfl (I4 (x := (j5, d6)) F3 Own.ow) rfl bn bn dc) (fun p36 _ => (Ei rfl (Eu (Ez Z1 (Ei rfl (Eu (D.region (fun j => !(Nat.beq j 13)) mixed (Dyp 0 rfl (i8 rfl) (Dyp 1 rfl (i8 rfl) (Dyp 2 rfl (i8 rfl) (Dyp 3 rfl (t6 us_Facts ty_Fact rfl ea24 rfl g rfl om) (Dyp 4 rfl (i0 fo_Fact_0 f6 dc rfl) (Dy 5 rfl (f9 f6 rfl ((eh24 _).sub (cs' := [_]) 0 rfl) rfl) (Dyp 6 rfl (i8 rfl) (Dyp 7 rfl (i8 rfl) (Dyp 8 rfl (t6 us_Facts ty_Fact rfl ea24 rfl g rfl om) (Dyp 9 rfl (i0 fo_Fact_1 ty_Is dc rfl) (Dy 10 rfl (f9 ty_Is rfl ((eh24 _).sub (cs' := [_]) 1 rfl) rfl) (r8 11 rfl rfl kr (fun _ => rfl) (N.call (K7 (hyl _ (List.getElem_mem om))) rfl rfl rfl dc rfl (fun w Lp hA => ⟨ei24_0, hA.ro xh24_0⟩)) (fun k48 _ => ?_)))))))))))))))))))))))))
     obtain ⟨a48, m48, c48⟩ := k48
     refine d4 m0 fun e48 l48 => ?_
     subst e48
     refine r8 12 rfl rfl kr (fun _ => rfl) (Nb [_] [_, _] us_Facts ty_Fact rfl rfl) (fun b49 _ => (d7 (d7 (g9 (r8 13 rfl rfl kr (fun h => by cases h) (v7 (E := G0) (ex := l[g]) us_Facts ty_Fact rfl rfl rfl (I4 (x := l[g]) ei24_0 Own.ow) rfl bn bn dc) (fun p50 _ => (Dyp 14 rfl (C0 rfl) (r7 kr (s4 (Et (Ez Z3 (Em rfl (Ey rfl ((Y.add rfl rfl om om).yd) (Ei rfl (Eu (i9 (congrArg (ow u5 [_]) (show ((G8 (F5 l (j5, d6)) (ltF (j5, d6)) (j5, d6) (l.take g)) ++ [(j5, d6)]) ++ [l[g]] = G8 (F5 l (j5, d6)) (ltF (j5, d6)) (j5, d6) (l.take (g + 1)) from by grind [D1, C5, C6, D2, B9, M7, d1, d2, t1, t2])) (d7 (d7 ?_))))))))))))))))))
     exact x3 br (g + 1, p50.1, (((G8 (F5 l (j5, d6)) (ltF (j5, d6)) (j5, d6) (l.take g)).length + 1) + 1), p50.2) ⟨rfl, rfl, rfl, frB (by grind [D1, C5, C6, D2, B9, M7, d1, d2, t1, t2]), rfl, trivial⟩ (.refl _) ⟨oz, trivial⟩ oz
    ·refine Dyp 10 rfl (v8 rfl rfl) (r7 kr (Et (n0 rfl (f8 (Et (D.region (fun j => !(Nat.beq j 13)) mixed (Dyp 0 rfl (i8 rfl) (Dyp 1 rfl (i8 rfl) (Dyp 2 rfl (i8 rfl) (Dyp 3 rfl (t6 us_Facts ty_Fact rfl ea24 rfl g rfl om) (Dyp 4 rfl (i0 fo_Fact_0 f6 dc rfl) (Dy 5 rfl (f9 f6 rfl ((eh24 _).sub (cs' := [_]) 0 rfl) rfl) (Dyp 6 rfl (i8 rfl) (Dyp 7 rfl (i8 rfl) (Dyp 8 rfl (t6 us_Facts ty_Fact rfl ea24 rfl g rfl om) (Dyp 9 rfl (i0 fo_Fact_1 ty_Is dc rfl) (Dy 10 rfl (f9 ty_Is rfl ((eh24 _).sub (cs' := [_]) 1 rfl) rfl) (r8 11 rfl rfl kr (fun _ => rfl) (N.call (K7 (hyl _ (List.getElem_mem om))) rfl rfl rfl dc rfl (fun w Lp hA => ⟨ei24_0, hA.ro xh24_0⟩)) (fun k48 _ => ?_)))))))))))))))))))
     obtain ⟨a48, m48, c48⟩ := k48
     refine d4 m0 fun e48 l48 => ?_
     subst e48
     refine r8 12 rfl rfl kr (fun _ => rfl) (Nb [_] [_, _] us_Facts ty_Fact rfl rfl) (fun b49 _ => (d7 (d7 (g9 (r8 13 rfl rfl kr (fun h => by cases h) (v7 (E := G0) (ex := l[g]) us_Facts ty_Fact rfl rfl rfl (I4 (x := l[g]) ei24_0 Own.ow) rfl bn bn dc) (fun p50 _ => (Dyp 14 rfl (C0 rfl) (r7 kr (s4 (Et (Ez Z3 (Em rfl (Ey rfl ((Y.add rfl rfl om om).yd) (Ei rfl (Eu (i9 (congrArg (ow u5 [_]) (show (G8 (F5 l (j5, d6)) (ltF (j5, d6)) (j5, d6) (l.take g)) ++ [l[g]] = G8 (F5 l (j5, d6)) (ltF (j5, d6)) (j5, d6) (l.take (g + 1)) from by grind [D1, C5, C6, D2, B9, M7, d1, d2, t1, t2])) (d7 (d7 ?_))))))))))))))))))
     exact x3 br (g + 1, p50.1, ((G8 (F5 l (j5, d6)) (ltF (j5, d6)) (j5, d6) (l.take g)).length + 1), p50.2) ⟨rfl, rfl, rfl, frB (by grind [D1, C5, C6, D2, B9, M7, d1, d2, t1, t2]), rfl, trivial⟩ (.refl _) ⟨oz, trivial⟩ oz
  ·refine Eu (n0 rfl (E.exit (o3 (o3 (x5 (Et (Eq_ (Ew Z2 (Em rfl (t7 (fun q51 => ?_) (fun q51 => ?_)))))))))))
   ·refine Ey rfl ((Y.not (b := true) rfl).yd) (Eu (n0 rfl (f8 (Et (Ew Z2 (Em rfl (Ei rfl (Eu (E.ret (i9 (congrArg (ow u5 [_]) (show _ = D1 l (j5, d6) by grind [D1, C5, C6, D2, B9, M7, d1, d2, t1, t2])) ?_))))))))))
    exact Fg rfl rfl (_, _, _) rfl rfl
   ·refine Ey rfl ((Y.not (b := false) rfl).yd) (Eu (o0 rfl (Ez Z9 (Em rfl (Ey rfl ((i0 fo_Fact_0 f6 dc rfl).yd) (Ey rfl (f9 f6 rfl (Hz (mS m0) 0 rfl) rfl) (Ey rfl ((i0 fo_Fact_1 ty_Is dc rfl).yd) (Ey rfl (f9 ty_Is rfl (Hz (mS m0) 1 rfl) rfl) (Est rfl (N.call (K7 fc) rfl rfl rfl dc rfl (fun w Lp hA => ⟨F3, hA.ro y9⟩)) (fun k58 _ => ?_))))))))))
    obtain ⟨a58, m58, c58⟩ := k58
    refine d4 m0 fun e58 l58 => ?_
    subst e58
    refine Est rfl (Nb [_] [_, _] us_Facts ty_Fact rfl rfl) (fun b59 _ => (d7 (d7 (g9 (Est rfl (v7 (E := G0) (ex := (j5, d6)) us_Facts ty_Fact rfl rfl rfl (I4 (x := (j5, d6)) F3 Own.ow) rfl bn bn dc) (fun p60 _ => (Ei rfl (Ev Z2 (Em rfl (Ei rfl (Eu (E.ret (i9 (congrArg (ow u5 [_]) (show _ = D1 l (j5, d6) by grind [D1, C5, C6, D2, B9, M7, d1, d2, t1, t2])) ?_)))))))))))))
    exact Fg rfl rfl (_, _, _) rfl rfl
 ·refine Eu (Eq_ (Ew Z1 (Ei rfl (Eu (E.block (o2 (A := []) (Own.nil (E := G0) (e := tFact) (a := (some ⟨b8, 0, none⟩))) rfl (i9 (congrArg (ow u5 [_]) (show [] = G8 (F5 l (j5, d6)) (ltF (j5, d6)) (j5, d6) (l.take 0) from by first | rfl | (simp; done) | grind [D1, C5, C6, D2, B9, M7, d1, d2, t1, t2])) (E.loop (κ := Nat × Option Addr × Nat × Nat) (fun g => g.1 ≤ l.length ∧ True) (fun g => [(0, .slice a_l l.length c_l), (3, .pointer (some ⟨b3, 0, none⟩)), (5, .slice g.2.1 g.2.2.1 g.2.2.2), (6, .bool (F5 l (j5, d6) || (l.take g.1).any (ltF (j5, d6)))), (7, .int .i64 (↑g.1 : Int))]) (fun g => [ow u5 [.slice g.2.1 g.2.2.1 g.2.2.2] (G8 (F5 l (j5, d6)) (ltF (j5, d6)) (j5, d6) (l.take g.1)), pt b3 83 [.int .i64 j5, .slice z8 d6.length z7]]) (fun g => l.length - g.1) (0, (some ⟨b8, 0, none⟩), 0, 0) ⟨Nat.zero_le _, by simp⟩ ⟨rfl, rfl, rfl, frB (by first | rfl | (simp; done) | grind [D1, C5, C6, D2, B9, M7, d1, d2, t1, t2]), rfl, trivial⟩ (.refl _) (fun g pg => ?_)))))))))
  obtain ⟨g, aA0_0, mA0_0, cA0_0⟩ := g
  try dsimp only at pg
  try dsimp only
  obtain ⟨pk, pa⟩ := pg
  have jp := List.length_take_le g l
  have ji := a3U (h := F5 l (j5, d6)) (p := (ltF (j5, d6))) (f := (j5, d6)) (l := l.take g)
  refine d4 m0 fun eaA0_0 laA0_0 => ?_
  subst eaA0_0
  refine Eq_ (Ew Z4 (Em rfl (Em rfl (Ey rfl ((Y.len us_Facts rfl).yd) (Ey rfl ((Y.lss rfl rfl).yd) (n9 (fun q15 => ?_) (fun q15 => ?_)))))))
  ·refine Eu (o0 rfl (f8 (Et (Eq_ (E.block (Eq_ (Eq_ (D.region (fun j => true) mixed (Dyp 0 rfl (i8 rfl) (t7 (fun q18 => ?_) (fun q18 => ?_)))))))))))
   ·refine Dyp 1 rfl (Y.not (b := true) rfl) (Dyp 2 rfl (i8 rfl) (Dsk 3 rfl (Dsk 4 rfl (Dsk 5 rfl (Dsk 6 rfl (Dsk 7 rfl (Dsk 8 rfl (Dsk 9 rfl (Dyp 10 rfl (u7 rfl rfl) (r7 kr (Et (n0 rfl (f8 (Et (D.region (fun j => !(Nat.beq j 13)) mixed (Dyp 0 rfl (i8 rfl) (Dyp 1 rfl (i8 rfl) (Dyp 2 rfl (i8 rfl) ?_))))))))))))))))))
    obtain ⟨eb40, eo40, ec40, ea40, er40, el40, eh40⟩ := hl.elem g om
    obtain ⟨xa40_0, xc40_0, rfl, ei40_0, xh40_0⟩ := M4 er40
    have := xh40_0.slen.2
    refine Dyp 3 rfl (t6 us_Facts ty_Fact rfl ea40 rfl g rfl om) (Dyp 4 rfl (i0 fo_Fact_0 f6 dc rfl) (Dy 5 rfl (f9 f6 rfl ((eh40 _).sub (cs' := [_]) 0 rfl) rfl) (Dyp 6 rfl (i8 rfl) (Dyp 7 rfl (i8 rfl) (Dyp 8 rfl (t6 us_Facts ty_Fact rfl ea40 rfl g rfl om) (Dyp 9 rfl (i0 fo_Fact_1 ty_Is dc rfl) (Dy 10 rfl (f9 ty_Is rfl ((eh40 _).sub (cs' := [_]) 1 rfl) rfl) (r8 11 rfl rfl kr (fun _ => rfl) (N.call (K7 (hyl _ (List.getElem_mem om))) rfl rfl rfl dc rfl (fun w Lp hA => ⟨ei40_0, hA.ro xh40_0⟩)) (fun k48 _ => ?_)))))))))
    obtain ⟨a48, m48, c48⟩ := k48
    refine d4 m0 fun e48 l48 => ?_
    subst e48
    refine r8 12 rfl rfl kr (fun _ => rfl) (Nb [_] [_, _] us_Facts ty_Fact rfl rfl) (fun b49 _ => (d7 (d7 (g9 (r8 13 rfl rfl kr (fun h => by cases h) (v7 (E := G0) (ex := l[g]) us_Facts ty_Fact rfl rfl rfl (I4 (x := l[g]) ei40_0 Own.ow) rfl bn bn dc) (fun p50 _ => (Dyp 14 rfl (C0 rfl) (r7 kr (s4 (Et (Ez Z3 (Em rfl (Ey rfl ((Y.add rfl rfl om om).yd) (Ei rfl (Eu (i9 (congrArg (ow u5 [_]) (show (G8 (F5 l (j5, d6)) (ltF (j5, d6)) (j5, d6) (l.take g)) ++ [l[g]] = G8 (F5 l (j5, d6)) (ltF (j5, d6)) (j5, d6) (l.take (g + 1)) from by grind [D1, C5, C6, D2, B9, M7, d1, d2, t1, t2])) (d7 (d7 ?_))))))))))))))))))
    exact x3 br (g + 1, p50.1, ((G8 (F5 l (j5, d6)) (ltF (j5, d6)) (j5, d6) (l.take g)).length + 1), p50.2) ⟨rfl, rfl, rfl, frB (by grind [D1, C5, C6, D2, B9, M7, d1, d2, t1, t2]), rfl, trivial⟩ (.refl _) ⟨oz, trivial⟩ oz
   ·refine Dyp 1 rfl (Y.not (b := false) rfl) (Dyp 2 rfl (i8 rfl) (Dy 3 rfl (j6 (cs := [_, _]) ty_Fact rfl (Has.pt (mS m0)) rfl) (Dyp 4 rfl (i8 rfl) (Dyp 5 rfl (i8 rfl) ?_))))
    obtain ⟨eb24, eo24, ec24, ea24, er24, el24, eh24⟩ := hl.elem g om
    obtain ⟨xa24_0, xc24_0, rfl, ei24_0, xh24_0⟩ := M4 er24
    have := xh24_0.slen.2
    refine Dyp 6 rfl (t6 us_Facts ty_Fact rfl ea24 rfl g rfl om) (Dy 7 rfl (j6 (cs := [_, _]) ty_Fact rfl (eh24 _) rfl) (r8 8 rfl rfl kr (fun _ => rfl) (m6 O0 rfl rfl rfl dc (fun w Lp hA => ⟨F3, hA.ro y9, ei24_0, hA.ro xh24_0⟩)) (fun _ _ => (Dyp 9 rfl (Y.lss rfl rfl) (n9 (fun q27 => ?_) (fun q27 => ?_))))))
    ·refine Dyp 10 rfl (v8 rfl rfl) (r7 kr (Et (o0 rfl (Ew Z9 (Em rfl (Ey rfl ((i0 fo_Fact_0 f6 dc rfl).yd) (Ey rfl (f9 f6 rfl (Hz (mS m0) 0 rfl) rfl) (Ey rfl ((i0 fo_Fact_1 ty_Is dc rfl).yd) (Ey rfl (f9 ty_Is rfl (Hz (mS m0) 1 rfl) rfl) (Est rfl (N.call (K7 fc) rfl rfl rfl dc rfl (fun w Lp hA => ⟨F3, hA.ro y9⟩)) (fun k34 _ => ?_)))))))))))
     obtain ⟨a34, m34, c34⟩ := k34
     refine d4 m0 fun e34 l34 => ?_
     subst e34
     refine Est rfl (Nb [_] [_, _] us_Facts ty_Fact rfl rfl) (fun b35 _ => (d7 (d7 (g9 (Est rfl (v7 (E := G0) (ex := (j5, d6)) us_Facts ty_Fact rfl rfl rfl (I4 (x := (j5, d6)) F3 Own.ow) rfl bn bn dc) (fun p36 _ => (Ei rfl (Eu (Ez Z1 (Ei rfl (Eu (D.region (fun j => !(Nat.beq j 13)) mixed (Dyp 0 rfl (i8 rfl) (Dyp 1 rfl (i8 rfl) (Dyp 2 rfl (i8 rfl) (Dyp 3 rfl (t6 us_Facts ty_Fact rfl ea24 rfl g rfl om) (Dyp 4 rfl (i0 fo_Fact_0 f6 dc rfl) (Dy 5 rfl (f9 f6 rfl ((eh24 _).sub (cs' := [_]) 0 rfl) rfl) (Dyp 6 rfl (i8 rfl) (Dyp 7 rfl (i8 rfl) (Dyp 8 rfl (t6 us_Facts ty_Fact rfl ea24 rfl g rfl om) (Dyp 9 rfl (i0 fo_Fact_1 ty_Is dc rfl) (Dy 10 rfl (f9 ty_Is rfl ((eh24 _).sub (cs' := [_]) 1 rfl) rfl) (r8 11 rfl rfl kr (fun _ => rfl) (N.call (K7 (hyl _ (List.getElem_mem om))) rfl rfl rfl dc rfl (fun w Lp hA => ⟨ei24_0, hA.ro xh24_0⟩)) (fun k48 _ => ?_)))))))))))))))))))))))))
     obtain ⟨a48, m48, c48⟩ := k48
     refine d4 m0 fun e48 l48 => ?_
     subst e48
     refine r8 12 rfl rfl kr (fun _ => rfl) (Nb [_] [_, _] us_Facts ty_Fact rfl rfl) (fun b49 _ => (d7 (d7 (g9 (r8 13 rfl rfl kr (fun h => by cases h) (v7 (E := G0) (ex := l[g]) us_Facts ty_Fact rfl rfl rfl (I4 (x := l[g]) ei24_0 Own.ow) rfl bn bn dc) (fun p50 _ => (Dyp 14 rfl (C0 rfl) (r7 kr (s4 (Et (Ez Z3 (Em rfl (Ey rfl ((Y.add rfl rfl om om).yd) (Ei rfl (Eu (i9 (congrArg (ow u5 [_]) (show ((G8 (F5 l (j5, d6)) (ltF (j5, d6)) (j5, d6) (l.take g)) ++ [(j5, d6)]) ++ [l[g]] = G8 (F5 l (j5, d6)) (ltF (j5, d6)) (j5, d6) (l.take (g + 1)) from by grind [D1, C5, C6, D2, B9, M7, d1, d2, t1, t2])) (d7 (d7 ?_))))))))))))))))))
     exact x3 br (g + 1, p50.1, (((G8 (F5 l (j5, d6)) (ltF (j5, d6)) (j5, d6) (l.take g)).length + 1) + 1), p50.2) ⟨rfl, rfl, rfl, frB (by grind [D1, C5, C6, D2, B9, M7, d1, d2, t1, t2]), rfl, trivial⟩ (.refl _) ⟨oz, trivial⟩ oz
    ·refine Dyp 10 rfl (v8 rfl rfl) (r7 kr (Et (n0 rfl (f8 (Et (D.region (fun j => !(Nat.beq j 13)) mixed (Dyp 0 rfl (i8 rfl) (Dyp 1 rfl (i8 rfl) (Dyp 2 rfl (i8 rfl) (Dyp 3 rfl (t6 us_Facts ty_Fact rfl ea24 rfl g rfl om) (Dyp 4 rfl (i0 fo_Fact_0 f6 dc rfl) (Dy 5 rfl (f9 f6 rfl ((eh24 _).sub (cs' := [_]) 0 rfl) rfl) (Dyp 6 rfl (i8 rfl) (Dyp 7 rfl (i8 rfl) (Dyp 8 rfl (t6 us_Facts ty_Fact rfl ea24 rfl g rfl om) (Dyp 9 rfl (i0 fo_Fact_1 ty_Is dc rfl) (Dy 10 rfl (f9 ty_Is rfl ((eh24 _).sub (cs' := [_]) 1 rfl) rfl) (r8 11 rfl rfl kr (fun _ => rfl) (N.call (K7 (hyl _ (List.getElem_mem om))) rfl rfl rfl dc rfl (fun w Lp hA => ⟨ei24_0, hA.ro xh24_0⟩)) (fun k48 _ => ?_)))))))))))))))))))
     obtain ⟨a48, m48, c48⟩ := k48
     refine d4 m0 fun e48 l48 => ?_
     subst e48
     refine r8 12 rfl rfl kr (fun _ => rfl) (Nb [_] [_, _] us_Facts ty_Fact rfl rfl) (fun b49 _ => (d7 (d7 (g9 (r8 13 rfl rfl kr (fun h => by cases h) (v7 (E := G0) (ex := l[g]) us_Facts ty_Fact rfl rfl rfl (I4 (x := l[g]) ei24_0 Own.ow) rfl bn bn dc) (fun p50 _ => (Dyp 14 rfl (C0 rfl) (r7 kr (s4 (Et (Ez Z3 (Em rfl (Ey rfl ((Y.add rfl rfl om om).yd) (Ei rfl (Eu (i9 (congrArg (ow u5 [_]) (show (G8 (F5 l (j5, d6)) (ltF (j5, d6)) (j5, d6) (l.take g)) ++ [l[g]] = G8 (F5 l (j5, d6)) (ltF (j5, d6)) (j5, d6) (l.take (g + 1)) from by grind [D1, C5, C6, D2, B9, M7, d1, d2, t1, t2])) (d7 (d7 ?_))))))))))))))))))
     exact x3 br (g + 1, p50.1, ((G8 (F5 l (j5, d6)) (ltF (j5, d6)) (j5, d6) (l.take g)).length + 1), p50.2) ⟨rfl, rfl, rfl, frB (by grind [D1, C5, C6, D2, B9, M7, d1, d2, t1, t2]), rfl, trivial⟩ (.refl _) ⟨oz, trivial⟩ oz
  ·refine Eu (n0 rfl (E.exit (o3 (o3 (x5 (Et (Eq_ (Ew Z2 (Em rfl (t7 (fun q51 => ?_) (fun q51 => ?_)))))))))))
   ·refine Ey rfl ((Y.not (b := true) rfl).yd) (Eu (n0 rfl (f8 (Et (Ew Z2 (Em rfl (Ei rfl (Eu (E.ret (i9 (congrArg (ow u5 [_]) (show _ = D1 l (j5, d6) by grind [D1, C5, C6, D2, B9, M7, d1, d2, t1, t2])) ?_))))))))))
    exact Fg rfl rfl (_, _, _) rfl rfl
   ·refine Ey rfl ((Y.not (b := false) rfl).yd) (Eu (o0 rfl (Ez Z9 (Em rfl (Ey rfl ((i0 fo_Fact_0 f6 dc rfl).yd) (Ey rfl (f9 f6 rfl (Hz (mS m0) 0 rfl) rfl) (Ey rfl ((i0 fo_Fact_1 ty_Is dc rfl).yd) (Ey rfl (f9 ty_Is rfl (Hz (mS m0) 1 rfl) rfl) (Est rfl (N.call (K7 fc) rfl rfl rfl dc rfl (fun w Lp hA => ⟨F3, hA.ro y9⟩)) (fun k58 _ => ?_))))))))))
    obtain ⟨a58, m58, c58⟩ := k58
    refine d4 m0 fun e58 l58 => ?_
    subst e58
    refine Est rfl (Nb [_] [_, _] us_Facts ty_Fact rfl rfl) (fun b59 _ => (d7 (d7 (g9 (Est rfl (v7 (E := G0) (ex := (j5, d6)) us_Facts ty_Fact rfl rfl rfl (I4 (x := (j5, d6)) F3 Own.ow) rfl bn bn dc) (fun p60 _ => (Ei rfl (Ev Z2 (Em rfl (Ei rfl (Eu (E.ret (i9 (congrArg (ow u5 [_]) (show _ = D1 l (j5, d6) by grind [D1, C5, C6, D2, B9, M7, d1, d2, t1, t2])) ?_)))))))))))))
    exact Fg rfl rfl (_, _, _) rfl rfl
theorem a1x {a_s : Option Addr} {m_s c_s : Nat} {s : List Int} : Tr Tryz.prog 10 [.slice a_s m_s c_s, .slice a_l m_l c_l] (fun w L => Ro w L eIs [.slice a_s m_s c_s] s ∧ Ro w L u5 [.slice a_l m_l c_l] l) [] (κ := Unit) (fun k => True) (fun k => .bool (J6 s l)) (fun k => []) := by
 refine Tr.intro Tryz.func10 rfl (n := 43) rfl (by decide +kernel) bl (fr := [(0, .slice a_s m_s c_s), (1, .slice a_l m_l c_l)]) rfl fun w L hR => ?_
 obtain ⟨hs, hl⟩ := hR
 obtain ⟨rfl, ls⟩ := hs.slen
 obtain ⟨rfl, ll⟩ := hl.slen
 refine Ew Z1 (Ei rfl (Eu (Eq_ (Ew Z1 (Ei rfl (Eu (E.block (E.loop (κ := Nat) (fun g => g ≤ l.length ∧ a1W s l 0 = a1W s l g) (fun g => [(0, .slice a_s s.length c_s), (1, .slice a_l l.length c_l), (5, .int .i64 (g : Int))]) (fun g => []) (fun g => l.length - g) 0 ⟨Nat.zero_le _, by simp⟩ ⟨rfl, rfl, rfl, trivial⟩ (.refl _) (fun g pg => ?_)))))))))
 obtain ⟨pk, pa⟩ := pg
 refine Eq_ (Ew Z4 (Em rfl (Em rfl (Ey rfl ((Y.len us_Facts rfl).yd) (Ey rfl ((Y.lss rfl rfl).yd) (n9 (fun q9 => ?_) (fun q9 => ?_)))))))
 ·refine Eu (o0 rfl (f8 (Et (Eq_ (E.block (Eq_ (D.region (fun j => true) mixed (Dyp 0 rfl (i8 rfl) (Dyp 1 rfl (i8 rfl) (Dyp 2 rfl (i8 rfl) ?_))))))))))
  obtain ⟨eb15, eo15, ec15, ea15, er15, el15, eh15⟩ := hl.elem g om
  obtain ⟨xa15_0, xc15_0, rfl, ei15_0, xh15_0⟩ := M4 er15
  have := xh15_0.slen.2
  refine Dyp 3 rfl (t6 us_Facts ty_Fact rfl ea15 rfl g rfl om) (Dy 4 rfl (j6 (cs := [_, _]) ty_Fact rfl (eh15 _) rfl) (r8 5 rfl rfl kr (fun _ => rfl) (m6 a6e rfl rfl rfl dc (fun w Lp hA => ⟨hA.ro hs, ei15_0, hA.ro xh15_0⟩)) (fun _ _ => (t7 (fun q17 => ?_) (fun q17 => ?_)))))
  ·refine Dyp 6 rfl (Y.not (b := true) rfl) (Dyp 7 rfl (i8 rfl) (Dyp 8 rfl (i8 rfl) (Dyp 9 rfl (Y.gtr rfl rfl) (n9 (fun q21 => ?_) (fun q21 => ?_)))))
   ·refine Dyp 10 rfl (i8 rfl) (Dyp 11 rfl (i8 rfl) (Dyp 12 rfl (i8 rfl) (Dyp 13 rfl (Y.sub rfl rfl om om) ?_)))
    obtain ⟨eb26, eo26, ec26, ea26, er26, el26, eh26⟩ := hl.elem (g - 1) om
    obtain ⟨xa26_0, xc26_0, rfl, ei26_0, xh26_0⟩ := M4 er26
    have := xh26_0.slen.2
    refine Dyp 14 rfl (t6 us_Facts ty_Fact rfl ea26 rfl (g - 1) om om) (Dy 15 rfl (j6 (cs := [_, _]) ty_Fact rfl (eh26 _) rfl) (Dyp 16 rfl (i8 rfl) (Dyp 17 rfl (i8 rfl) (Dyp 18 rfl (t6 us_Facts ty_Fact rfl ea15 rfl g rfl om) (Dy 19 rfl (j6 (cs := [_, _]) ty_Fact rfl (eh15 _) rfl) (r8 20 rfl rfl kr (fun _ => rfl) (m6 O0 rfl rfl rfl dc (fun w Lp hA => ⟨ei26_0, hA.ro xh26_0, ei15_0, hA.ro xh15_0⟩)) (fun _ _ => (Dyp 21 rfl (Y.geq rfl rfl) (n9 (fun q33 => ?_) (fun q33 => ?_))))))))))
    ·refine Dyp 22 rfl (v8 rfl rfl) (Dyp 23 rfl (u7 rfl rfl) (r7 kr (Et (o0 rfl (Ew Z1 (Ei rfl ?_))))))
     exact Eu (E.ret (B0 (o4 (o4 (B0 (o4 (Fb rfl rfl (by grind [J6, a1W, X1, X3, Y9, ltF, d1, d2, t1, t2]))))))))
    ·refine Dyp 22 rfl (v8 rfl rfl) (Dyp 23 rfl (u7 rfl rfl) (r7 kr (Et (n0 rfl (f8 (s4 (Et (Ez Z3 (Em rfl (Ey rfl ((Y.add rfl rfl om om).yd) (Ei rfl ?_)))))))))))
     exact Eu (x3 br (g + 1) rs (.refl _) ⟨by omega, by grind [a1W, X1, X3, Y9, ltF, Bool.and_assoc, d1, d2, t1, t2]⟩ om)
   ·refine Dyp 10 rfl (i8 rfl) (Dsk 11 rfl (Dsk 12 rfl (Dsk 13 rfl (Dsk 14 rfl (Dsk 15 rfl (Dsk 16 rfl (Dsk 17 rfl (Dsk 18 rfl (Dsk 19 rfl (Dsk 20 rfl (Dsk 21 rfl (Dyp 22 rfl (u7 rfl rfl) (Dyp 23 rfl (u7 rfl rfl) (r7 kr (Et (n0 rfl (f8 (s4 (Et (Ez Z3 (Em rfl (Ey rfl ((Y.add rfl rfl om om).yd) (Ei rfl ?_)))))))))))))))))))))))
    exact Eu (x3 br (g + 1) rs (.refl _) ⟨by omega, by grind [a1W, X1, X3, Y9, ltF, Bool.and_assoc, d1, d2, t1, t2]⟩ om)
  ·refine Dyp 6 rfl (Y.not (b := false) rfl) (Dyp 7 rfl (i8 rfl) (Dsk 8 rfl (Dsk 9 rfl (b2b 10 rfl rfl dc kr (Dsk 11 rfl (Dsk 12 rfl (Dsk 13 rfl (Dsk 14 rfl (Dsk 15 rfl (Dsk 16 rfl (Dsk 17 rfl (Dsk 18 rfl (Dsk 19 rfl (Dsk 20 rfl (Dsk 21 rfl (Dsk 22 rfl (Dyp 23 rfl (v8 rfl rfl) (r7 kr (Et (o0 rfl (Ew Z1 (Ei rfl ?_))))))))))))))))))))))
   exact Eu (E.ret (B0 (o4 (o4 (B0 (o4 (Fb rfl rfl (by grind [J6, a1W, X1, X3, Y9, ltF, d1, d2, t1, t2]))))))))
 ·refine Eu (n0 rfl (E.exit (o3 (o3 (x5 (Et (Ew Z8 (Em rfl (Est rfl (m6 N0 rfl rfl rfl dc (fun w Lp hA => hA.ro hs)) (fun _ _ => (t7 (fun q37 => ?_) (fun q37 => ?_))))))))))))
  ·refine Em rfl (Em rfl (Ey rfl ((Y.len us_Facts rfl).yd) (Ey rfl ((Y.leq rfl rfl).yd) (Ey rfl ((v8 rfl rfl).yd) (Ei rfl ?_)))))
   exact Eu (E.ret (Fb rfl rfl (by grind [J6, a1W, X1, X3, Y9, ltF, d1, d2, t1, t2])))
  ·refine Em rfl (Es rfl (Es rfl (Es rfl (Ey rfl ((u7 rfl rfl).yd) (Ei rfl ?_)))))
   exact Eu (E.ret (Fb rfl rfl (by grind [J6, a1W, X1, X3, Y9, ltF, d1, d2, t1, t2])))
end Go.Proofs.YtbedienpleiamaaGreat
