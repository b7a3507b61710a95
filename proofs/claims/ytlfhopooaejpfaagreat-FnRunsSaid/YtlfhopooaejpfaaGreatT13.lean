import Derived.Test.YtlfhopooaejpfaaGreatT20
import Derived.Test.YtlfhopooaejpfaaGreatT132
namespace Go.Proofs.YtlfhopooaejpfaaGreat
open Go.RowKit
set_option linter.all false
set_option maxHeartbeats 2000000
attribute [local irreducible] Nop Yd Yp Ent Has Tr FnP FnP2 Src M0 S8 V1 W0 G4
variable {l3 : Int} {l : List (Int × List Int)} {f6 s : List Int} {B8 x6 m_l c_l m_s c_s : Nat} {y4 a_l a_s : Option Addr}
theorem a1w (hyf : f6.length ≤ 1048576) : Tr Tryz.prog 189 [.agg #[.int .i64 l3, .slice y4 B8 x6]] (fun w L => I64 l3 ∧ Ro w L eIs [.slice y4 B8 x6] f6) [] (κ := Option Addr × Nat × Nat) (fun k => True) (fun k => .agg #[.int .i64 l3, .slice k.1 k.2.1 k.2.2]) (fun k => [ow eIs [.slice k.1 k.2.1 k.2.2] f6]) := by
 refine Tr.intro Tryz.func189 rfl (n := 9) rfl (by decide +kernel) bl (fr := [(0, .agg #[.int .i64 l3, .slice y4 B8 x6])]) rfl fun w L hR => ?_
 obtain ⟨H7, y9⟩ := hR
 obtain ⟨rfl, S1⟩ := y9.slen
 refine Ew Z2 (Est rfl (N.box (cs := [_, _]) rfl dc rfl) (fun b1 _ => (Est rfl (N.alloc ty_Fact dc) (fun b2 _ => (Eu (Eq_ (D.region (fun j => !(Nat.beq j 6)) mixed (Dyp 0 rfl (i7 fo_Fact_0 f0 dc rfl) (Dy 1 rfl (f8 f0 rfl (Hz (mS m0) 0 rfl) rfl) (Dyp 2 rfl (i7 fo_Fact_1 ty_Is dc rfl) (Dy 3 rfl (f8 ty_Is rfl (Hz (mS m0) 1 rfl) rfl) (u7 4 rfl rfl kr (fun _ => rfl) (N.call (a1A fc) rfl rfl rfl dc rfl (fun w Lp hA => hA.ro y9)) (fun k7 _ => ?_)))))))))))))
 obtain ⟨a7, m7, c7⟩ := k7
 refine i9 m0 fun e7 l7 => ?_
 subst e7
 refine Dyp 5 rfl (I6 (pvs := [_, _]) (cs := [_, _]) ty_Fact a5t rfl rfl) (f7 (u7 6 rfl rfl kr (fun h => by cases h) (Ns [_, _] ty_Fact rfl) (fun _ _ => (o3 kr (Et (E.ret (f7 ?_)))))))
 exact J2 br rfl rfl (mS m0) ty_Fact rfl (_, _, _) trivial rfl (J := _) (.refl _) (.inl rfl)
theorem N8 {rel : Int} {a_values : Option Addr} {m_values c_values : Nat} {I4 : List Int} (hz : I4.length ≤ 1048576) : Tr Tryz.prog 128 [.int .i64 rel, .slice a_values m_values c_values] (fun w L => I64 rel ∧ Ro w L eIs [.slice a_values m_values c_values] I4) [] (κ := Option Addr × Nat × Nat) (fun k => True) (fun k => .agg #[.int .i64 rel, .slice k.1 k.2.1 k.2.2]) (fun k => [ow eIs [.slice k.1 k.2.1 k.2.2] I4]) := by
 refine Tr.intro Tryz.func128 rfl (n := 10) rfl (by decide +kernel) bl (fr := [(0, .int .i64 rel), (1, .slice a_values m_values c_values)]) rfl fun w L hR => ?_
 obtain ⟨i6rel, hvalues⟩ := hR
 obtain ⟨rfl, lvalues⟩ := hvalues.slen
 refine Ew Z1 (Est rfl (N.alloc ty_Fact dc) (fun b4 _ => (Ev Z6 (Em rfl (Est rfl (Nb [] [] us_Is f0 rfl rfl) (fun b6 _ => (Ent.drop (Em rfl (Est rfl (J3 (E := Enc.int) Plain.int us_Is f0 rfl rfl rfl hvalues bn bn dc) (fun p8 _ => (Ey rfl ((I6 (pvs := [_, _]) (cs := [_, _]) ty_Fact a5t rfl rfl).yd) (f7 (Est rfl (Ns [_, _] ty_Fact rfl) (fun _ _ => (Eu (E.ret (f7 ?_)))))))))))))))))
 exact J2 br rfl rfl (mS m0) ty_Fact rfl (_, _, _) trivial rfl (J := _) (.refl _) (.inl rfl)
theorem a6m (hz : l.length ≤ 1073741824) (hyl : ∀ x ∈ l, x.2.length ≤ 1048576) : Tr Tryz.prog 156 [.slice a_l m_l c_l] (fun w L => Ro w L r7 [.slice a_l m_l c_l] l) [] (κ := Option Addr × Nat × Nat) (fun k => True) (fun k => .slice k.1 k.2.1 k.2.2) (fun k => [ow r7 [.slice k.1 k.2.1 k.2.2] l]) := by
 refine Tr.intro Tryz.func156 rfl (n := 20) rfl (by decide +kernel) bl (fr := [(0, .slice a_l m_l c_l)]) rfl fun w L hR => ?_
 have hl := hR
 obtain ⟨rfl, ll⟩ := hl.slen
 refine Ew Z1 (Ei rfl (Ev Z2 (Est rfl (Nb [] [] us_Facts ty_Fact rfl rfl) (fun b6 _ => (Ent.drop (Ei rfl (Eu (Eq_ (Ew Z3 (Em rfl (Ey rfl ((Y.len us_Facts rfl).yd) (Em rfl (Eu (E.block (n9 (A := []) (Own.nil (E := F0) (e := tFact) (a := (some ⟨b6, 0, none⟩))) rfl (j8 (congrArg (ow r7 [_]) (show [] = l.take 0 from by first | rfl | (simp; done) | grind [d1, d2, t1, t2])) (E.loop (κ := Nat × Option Addr × Nat × Nat) (fun g => g.1 ≤ l.length ∧ True) (fun g => [(3, .slice g.2.1 g.2.2.1 g.2.2.2), (7, .slice a_l l.length c_l), (8, .int .i64 (↑l.length : Int)), (9, .int .i64 (↑g.1 : Int))]) (fun g => [ow r7 [.slice g.2.1 g.2.2.1 g.2.2.2] (l.take g.1)]) (fun g => l.length - g.1) (0, (some ⟨b6, 0, none⟩), 0, 0) ⟨Nat.zero_le _, by simp⟩ ⟨rfl, rfl, rfl, rfl, trivial⟩ (.refl _) (fun g pg => ?_))))))))))))))))))
 obtain ⟨g, aA0_0, mA0_0, cA0_0⟩ := g
 try dsimp only at pg
 try dsimp only
 obtain ⟨pk, pa⟩ := pg
 have jp := List.length_take_le g l
 refine i9 m0 fun eaA0_0 laA0_0 => ?_
 subst eaA0_0
 refine Ew Z1 (Ey rfl ((Y.lss rfl rfl).yd) (n0 (fun q10 => ?_) (fun q10 => ?_)))
 ·obtain ⟨eb11, eo11, ec11, ea11, er11, el11, eh11⟩ := hl.elem g om
  obtain ⟨xa11_0, xc11_0, rfl, ei11_0, xh11_0⟩ := L4 er11
  have := xh11_0.slen.2
  refine Eu (Eq_ (l4 rfl (i8 (Et (Eq_ (E.block (Ew Z4 (Ey rfl ((o6 us_Facts ty_Fact rfl ea11 rfl g rfl om).yd) (Ey rfl (o0 (cs := [_, _]) ty_Fact rfl (eh11 _) rfl) (Est rfl (N.alloc ty_Fact dc) (fun b5 _ => (Est rfl (Ns [_, _] ty_Fact rfl) (fun _ _ => (Eu (Ez Z6 (Em rfl (Ey rfl (o0 (cs := [_, _]) ty_Fact rfl (Has.pt m0) rfl) (Est rfl (N.call (a1w (hyl _ (List.getElem_mem om))) rfl rfl rfl dc rfl (fun w Lp hA => ⟨ei11_0, hA.ro xh11_0⟩)) (fun k15 _ => ?_)))))))))))))))))))
  obtain ⟨a15, m15, c15⟩ := k15
  refine i9 m0 fun e15 l15 => ?_
  subst e15
  refine Est rfl (Nb [_] [_, _] us_Facts ty_Fact rfl rfl) (fun b16 _ => (f7 (f7 (m6 (Est rfl (y6 (E := F0) (ex := l[g]) us_Facts ty_Fact rfl rfl rfl (I9 (x := l[g]) ei11_0 Own.ow) rfl bn bn dc) (fun p17 _ => (Ei rfl (En (o4 (Et (Ez Z2 (Ey rfl ((Y.add rfl rfl om om).yd) (Em rfl (Eu (f7 (Ent.drop (j8 (congrArg (ow r7 [_]) (show (l.take g) ++ [l[g]] = l.take (g + 1) from by grind [d1, d2, t1, t2])) ?_)))))))))))))))))
  exact Ea (g + 1, p17.1, ((l.take g).length + 1), p17.2) ⟨oz, trivial⟩
 ·refine Eu (Eq_ (l6 rfl (E.exit (n8 (n8 (w5 (Et (Ew Z2 (Em rfl (Ei rfl (Eu (E.ret (j8 (congrArg (ow r7 [_]) (show _ = l by grind [d1, d2, t1, t2])) ?_)))))))))))))
  exact Fg rfl rfl (_, _, _) rfl rfl
theorem a7o {a2j : Int} {Q9 : Option Addr} {R0 R1 : Nat} {a0L : List Int} {b_f : Nat} : Tr Tryz.prog 187 [.agg #[.int .i64 a2j, .slice Q9 R0 R1], .pointer (some ⟨b_f, 0, none⟩)] (fun w L => (I64 a2j ∧ Ro w L eIs [.slice Q9 R0 R1] a0L) ∧ RoPt w L b_f [.int .i64 l3, .slice y4 B8 x6] ∧ I64 l3 ∧ Ro w L eIs [.slice y4 B8 x6] f6) [] (κ := Unit) (fun k => True) (fun k => .bool (decide (0 < K4 (a2j, a0L) (l3, f6)))) (fun k => []) := by
 refine Tr.intro Tryz.func187 rfl (n := 8) rfl (by decide +kernel) bl (fr := [(0, .agg #[.int .i64 a2j, .slice Q9 R0 R1]), (1, .pointer (some ⟨b_f, 0, none⟩))]) rfl fun w L hR => ?_
 obtain ⟨⟨a7T, a0i⟩, hb_f, H7, y9⟩ := hR
 obtain ⟨rfl, a8E⟩ := a0i.slen
 obtain ⟨rfl, S1⟩ := y9.slen
 refine Ew Z2 (Est rfl (N.box (cs := [_, _]) rfl dc rfl) (fun b2 _ => (Ei rfl (Ev Z5 (Ey rfl (o0 (cs := [_, _]) ty_Fact rfl (Has.pt m0) rfl) (Ey rfl (o0 (cs := [_, _]) ty_Fact rfl (hb_f.has) rfl) (Est rfl (k6 a0v rfl rfl rfl dc (fun w Lp hA => ⟨a7T, hA.ro a0i, H7, hA.ro y9⟩)) (fun _ _ => (Ey rfl ((Y.gtr rfl rfl).yd) (Ei rfl ?_))))))))))
 exact Eu (E.ret (Fg rfl rfl () rfl rfl))
theorem b0z (hz : l.length ≤ 1000000000) (hyf : f6.length ≤ 1048576) : Tr Tryz.prog 122 [.slice a_l m_l c_l, .agg #[.int .i64 l3, .slice y4 B8 x6]] (fun w L => I64 l3 ∧ Ro w L eIs [.slice y4 B8 x6] f6) [ow r7 [.slice a_l m_l c_l] l] (κ := Option Addr × Nat × Nat) (fun k => True) (fun k => .slice k.1 k.2.1 k.2.2) (fun k => [ow r7 [.slice k.1 k.2.1 k.2.2] (D1 l (l3, f6))]) := by
 refine Tr.intro Tryz.func122 rfl (n := 23) rfl (by decide +kernel) bl (fr := [(0, .slice a_l m_l c_l), (1, .agg #[.int .i64 l3, .slice y4 B8 x6])]) rfl fun w L hR => ?_
 obtain ⟨H7, y9⟩ := hR
 obtain ⟨rfl, S1⟩ := y9.slen
 refine i9 m0 fun el ll => ?_
 subst el
 refine Ew Z2 (Est rfl (N.box (cs := [_, _]) rfl dc rfl) (fun b3 _ => (Ei rfl (Eu (Eq_ (Ew Z3 (Em rfl (Ey rfl (o0 (cs := [_, _]) ty_Fact rfl (Has.pt m0) rfl) (Est rfl (k6 a7D rfl rfl rfl dc (fun w Lp hA => ⟨hA.ow (mS m0), H7, hA.ro y9⟩)) (fun _ _ => (Ent.b (fun q8 => ?_) (fun q8 => ?_))))))))))))
 ·refine Eu (l4 rfl (Ew Z2 (Em rfl (Ei rfl (Eu (E.ret (l0 (f7 (j8 (congrArg (ow r7 [_]) (show _ = D1 l (l3, f6) by grind [a2u, a4j])) ?_)))))))))
  exact Fg rfl rfl (_, _, _) rfl rfl
 ·refine Eu (l6 rfl (i8 (Et (Ew Z4 (Em rfl (Ey rfl ((Y.fn (vs := [_]) rfl).yd) (Est rfl (k6 (a0Y (f := (fun z => decide (0 < K4 z (l3, f6)))) (D_f := (fun _ => True)) (by intros; exact trivial)) rfl rfl rfl dc (fun w Lp hA => ⟨hA.ow (mS m0), a4m (D := (fun _ => True)) (fun hd => a7o) (fun w' hk => ⟨(hA.pt m0).keep hk, H7, (hA.ro y9).keep hk⟩)⟩)) (fun _ _ => (Ei rfl (Eu (Eq_ (Ew Z2 (Em rfl (Ey rfl ((Y.lss rfl rfl).yd) (n0 (fun q14 => ?_) (fun q14 => ?_))))))))))))))))
  ·refine Eu (l4 rfl (Ez Z3 (Em rfl (Ey rfl ((Y.len us_Facts rfl).yd) (Ei rfl (Ev Z7 (Em rfl (Em rfl (Ey rfl (o0 (cs := [_, _]) ty_Fact rfl (Has.pt m0) rfl) (Est rfl (N.call (a1w fc) rfl rfl rfl dc rfl (fun w Lp hA => ⟨H7, hA.ro y9⟩)) (fun k20 _ => ?_)))))))))))
   obtain ⟨a20, m20, c20⟩ := k20
   refine i9 m0 fun e20 l20 => ?_
   subst e20
   refine Est rfl (Nb [_] [_, _] us_Facts ty_Fact rfl rfl) (fun b21 _ => (f7 (f7 (n9 (A := _ :: _) (R3 (E := F0) (e := tFact) (I9 (x := (l3, f6)) H7 Own.ow)) rfl ?_))))
   have ji := a1U (p := fun z => decide (0 < K4 z (l3, f6))) (s := l)
   refine j6 (Est rfl (N.call (pre := [_, _]) (a4q om (by simp) (by simp; omega)) rfl rfl rfl dc rfl tv) (fun k22 _ => ?_))
   obtain ⟨a22, m22, c22⟩ := k22
   refine i9 m0 fun e22 l22 => ?_
   subst e22
   refine Ei rfl (Eu (E.ret (j8 (congrArg (ow r7 [_]) (show _ = D1 l (l3, f6) by grind [a2u, a4j])) ?_)))
   exact Fg rfl rfl (_, _, _) rfl rfl
  ·refine Eu (l6 rfl (i8 (Et (Ew Z7 (Em rfl (Em rfl (Ey rfl (o0 (cs := [_, _]) ty_Fact rfl (Has.pt m0) rfl) (Est rfl (N.call (a1w fc) rfl rfl rfl dc rfl (fun w Lp hA => ⟨H7, hA.ro y9⟩)) (fun k20 _ => ?_)))))))))
   obtain ⟨a20, m20, c20⟩ := k20
   refine i9 m0 fun e20 l20 => ?_
   subst e20
   refine Est rfl (Nb [_] [_, _] us_Facts ty_Fact rfl rfl) (fun b21 _ => (f7 (f7 (n9 (A := _ :: _) (R3 (E := F0) (e := tFact) (I9 (x := (l3, f6)) H7 Own.ow)) rfl ?_))))
   have ji := a1U (p := fun z => decide (0 < K4 z (l3, f6))) (s := l)
   refine j6 (Est rfl (N.call (pre := [_, _]) (a4q om (by simp) (by simp; omega)) rfl rfl rfl dc rfl tv) (fun k22 _ => ?_))
   obtain ⟨a22, m22, c22⟩ := k22
   refine i9 m0 fun e22 l22 => ?_
   subst e22
   refine Ei rfl (Eu (E.ret (j8 (congrArg (ow r7 [_]) (show _ = D1 l (l3, f6) by grind [a2u, a4j])) ?_)))
   exact Fg rfl rfl (_, _, _) rfl rfl
theorem a1I (hz : l.length ≤ 1000000000) (hyl : ∀ x ∈ l, x.2.length ≤ 1048576) (hyf : f6.length ≤ 1048576) : Tr Tryz.prog 52 [.slice a_l m_l c_l, .agg #[.int .i64 l3, .slice y4 B8 x6]] (fun w L => Ro w L r7 [.slice a_l m_l c_l] l ∧ I64 l3 ∧ Ro w L eIs [.slice y4 B8 x6] f6) [] (κ := Option Addr × Nat × Nat) (fun k => True) (fun k => .slice k.1 k.2.1 k.2.2) (fun k => [ow r7 [.slice k.1 k.2.1 k.2.2] (D1 l (l3, f6))]) := by
 refine Tr.intro Tryz.func52 rfl (n := 62) rfl (by decide +kernel) bl (fr := [(0, .slice a_l m_l c_l), (1, .agg #[.int .i64 l3, .slice y4 B8 x6])]) rfl fun w L hR => ?_
 obtain ⟨hl, H7, y9⟩ := hR
 obtain ⟨rfl, ll⟩ := hl.slen
 obtain ⟨rfl, S1⟩ := y9.slen
 refine Ew Z2 (Est rfl (N.box (cs := [_, _]) rfl dc rfl) (fun b3 _ => (Ei rfl (Ev Z2 (Est rfl (Nb [] [] us_Facts ty_Fact rfl rfl) (fun b8 _ => (Ent.drop (Ei rfl (Ev Z4 (Em rfl (Ey rfl (o0 (cs := [_, _]) ty_Fact rfl (Has.pt m0) rfl) (Est rfl (k6 a3k rfl rfl rfl dc (fun w Lp hA => ⟨hA.ro hl, H7, hA.ro y9⟩)) (fun _ _ => (Ei rfl (Ent.b (fun q6 => ?_) (fun q6 => ?_))))))))))))))))
 ·refine Eu (Eq_ (Ew Z1 (Ei rfl (Eu (E.block (n9 (A := []) (Own.nil (E := F0) (e := tFact) (a := (some ⟨b8, 0, none⟩))) rfl (j8 (congrArg (ow r7 [_]) (show [] = J7 (I2 l (l3, f6)) (ltF (l3, f6)) (l3, f6) (l.take 0) from by first | rfl | (simp; done) | grind [D1, E8, E9, F8, D9, Q0, d1, d2, t1, t2])) (E.loop (κ := Nat × Option Addr × Nat × Nat) (fun g => g.1 ≤ l.length ∧ True) (fun g => [(0, .slice a_l l.length c_l), (3, .pointer (some ⟨b3, 0, none⟩)), (5, .slice g.2.1 g.2.2.1 g.2.2.2), (6, .bool (I2 l (l3, f6) || (l.take g.1).any (ltF (l3, f6)))), (7, .int .i64 (↑g.1 : Int))]) (fun g => [ow r7 [.slice g.2.1 g.2.2.1 g.2.2.2] (J7 (I2 l (l3, f6)) (ltF (l3, f6)) (l3, f6) (l.take g.1)), pt b3 91 [.int .i64 l3, .slice y4 f6.length x6]]) (fun g => l.length - g.1) (0, (some ⟨b8, 0, none⟩), 0, 0) ⟨Nat.zero_le _, by simp⟩ ⟨rfl, rfl, rfl, frB (by first | rfl | (simp; done) | grind [D1, E8, E9, F8, D9, Q0, d1, d2, t1, t2]), rfl, trivial⟩ (.refl _) (fun g pg => ?_)))))))))
  obtain ⟨g, aA0_0, mA0_0, cA0_0⟩ := g
  try dsimp only at pg
  try dsimp only
  obtain ⟨pk, pa⟩ := pg
  have jp := List.length_take_le g l
  have ji := a5U (h := I2 l (l3, f6)) (p := (ltF (l3, f6))) (f := (l3, f6)) (l := l.take g)
  refine i9 m0 fun eaA0_0 laA0_0 => ?_
  subst eaA0_0
  refine Eq_ (Ew Z4 (Em rfl (Em rfl (Ey rfl ((Y.len us_Facts rfl).yd) (Ey rfl ((Y.lss rfl rfl).yd) (n0 (fun q15 => ?_) (fun q15 => ?_)))))))
  ·refine Eu (l4 rfl (i8 (Et (Eq_ (E.block (Eq_ (Eq_ (D.region (fun j => true) mixed (Dyp 0 rfl (j4 rfl) (Ent.b (fun q18 => ?_) (fun q18 => ?_)))))))))))
   ·refine Dyp 1 rfl (Y.not (b := true) rfl) (Dyp 2 rfl (j4 rfl) (Dsk 3 rfl (Dsk 4 rfl (Dsk 5 rfl (Dsk 6 rfl (Dsk 7 rfl (Dsk 8 rfl (Dsk 9 rfl (Dyp 10 rfl (r9 rfl rfl) (o3 kr (Et (l6 rfl (i8 (Et (D.region (fun j => !(Nat.beq j 13)) mixed (Dyp 0 rfl (j4 rfl) (Dyp 1 rfl (j4 rfl) (Dyp 2 rfl (j4 rfl) ?_))))))))))))))))))
    obtain ⟨eb40, eo40, ec40, ea40, er40, el40, eh40⟩ := hl.elem g om
    obtain ⟨xa40_0, xc40_0, rfl, ei40_0, xh40_0⟩ := L4 er40
    have := xh40_0.slen.2
    refine Dyp 3 rfl (o6 us_Facts ty_Fact rfl ea40 rfl g rfl om) (Dyp 4 rfl (i7 fo_Fact_0 f0 dc rfl) (Dy 5 rfl (f8 f0 rfl ((eh40 _).sub (cs' := [_]) 0 rfl) rfl) (Dyp 6 rfl (j4 rfl) (Dyp 7 rfl (j4 rfl) (Dyp 8 rfl (o6 us_Facts ty_Fact rfl ea40 rfl g rfl om) (Dyp 9 rfl (i7 fo_Fact_1 ty_Is dc rfl) (Dy 10 rfl (f8 ty_Is rfl ((eh40 _).sub (cs' := [_]) 1 rfl) rfl) (u7 11 rfl rfl kr (fun _ => rfl) (N.call (N8 (hyl _ (List.getElem_mem om))) rfl rfl rfl dc rfl (fun w Lp hA => ⟨ei40_0, hA.ro xh40_0⟩)) (fun k48 _ => ?_)))))))))
    obtain ⟨a48, m48, c48⟩ := k48
    refine i9 m0 fun e48 l48 => ?_
    subst e48
    refine u7 12 rfl rfl kr (fun _ => rfl) (Nb [_] [_, _] us_Facts ty_Fact rfl rfl) (fun b49 _ => (f7 (f7 (j6 (u7 13 rfl rfl kr (fun h => by cases h) (y6 (E := F0) (ex := l[g]) us_Facts ty_Fact rfl rfl rfl (I9 (x := l[g]) ei40_0 Own.ow) rfl bn bn dc) (fun p50 _ => (Dyp 14 rfl (G1 rfl) (o3 kr (o4 (Et (Ez Z3 (Em rfl (Ey rfl ((Y.add rfl rfl om om).yd) (Ei rfl (Eu (j8 (congrArg (ow r7 [_]) (show (J7 (I2 l (l3, f6)) (ltF (l3, f6)) (l3, f6) (l.take g)) ++ [l[g]] = J7 (I2 l (l3, f6)) (ltF (l3, f6)) (l3, f6) (l.take (g + 1)) from by grind [D1, E8, E9, F8, D9, Q0, d1, d2, t1, t2])) (f7 (f7 ?_))))))))))))))))))
    exact u9 br (g + 1, p50.1, ((J7 (I2 l (l3, f6)) (ltF (l3, f6)) (l3, f6) (l.take g)).length + 1), p50.2) ⟨rfl, rfl, rfl, frB (by grind [D1, E8, E9, F8, D9, Q0, d1, d2, t1, t2]), rfl, trivial⟩ (.refl _) ⟨oz, trivial⟩ oz
   ·refine Dyp 1 rfl (Y.not (b := false) rfl) (Dyp 2 rfl (j4 rfl) (Dy 3 rfl (o0 (cs := [_, _]) ty_Fact rfl (Has.pt (mS m0)) rfl) (Dyp 4 rfl (j4 rfl) (Dyp 5 rfl (j4 rfl) ?_))))
    obtain ⟨eb24, eo24, ec24, ea24, er24, el24, eh24⟩ := hl.elem g om
    obtain ⟨xa24_0, xc24_0, rfl, ei24_0, xh24_0⟩ := L4 er24
    have := xh24_0.slen.2
    refine Dyp 6 rfl (o6 us_Facts ty_Fact rfl ea24 rfl g rfl om) (Dy 7 rfl (o0 (cs := [_, _]) ty_Fact rfl (eh24 _) rfl) (u7 8 rfl rfl kr (fun _ => rfl) (k6 S5 rfl rfl rfl dc (fun w Lp hA => ⟨H7, hA.ro y9, ei24_0, hA.ro xh24_0⟩)) (fun _ _ => (Dyp 9 rfl (Y.lss rfl rfl) (n0 (fun q27 => ?_) (fun q27 => ?_))))))
    ·refine Dyp 10 rfl (s6 rfl rfl) (o3 kr (Et (l4 rfl (Ew Z9 (Em rfl (Ey rfl ((i7 fo_Fact_0 f0 dc rfl).yd) (Ey rfl (f8 f0 rfl (Hz (mS m0) 0 rfl) rfl) (Ey rfl ((i7 fo_Fact_1 ty_Is dc rfl).yd) (Ey rfl (f8 ty_Is rfl (Hz (mS m0) 1 rfl) rfl) (Est rfl (N.call (N8 fc) rfl rfl rfl dc rfl (fun w Lp hA => ⟨H7, hA.ro y9⟩)) (fun k34 _ => ?_)))))))))))
     obtain ⟨a34, m34, c34⟩ := k34
     refine i9 m0 fun e34 l34 => ?_
     subst e34
     refine Est rfl (Nb [_] [_, _] us_Facts ty_Fact rfl rfl) (fun b35 _ => (f7 (f7 (j6 (Est rfl (y6 (E := F0) (ex := (l3, f6)) us_Facts ty_Fact rfl rfl rfl (I9 (x := (l3, f6)) H7 Own.ow) rfl bn bn dc) (fun p36 _ => (Ei rfl (Eu (Ez Z1 (Ei rfl (Eu (D.region (fun j => !(Nat.beq j 13)) mixed (Dyp 0 rfl (j4 rfl) (Dyp 1 rfl (j4 rfl) (Dyp 2 rfl (j4 rfl) (Dyp 3 rfl (o6 us_Facts ty_Fact rfl ea24 rfl g rfl om) (Dyp 4 rfl (i7 fo_Fact_0 f0 dc rfl) (Dy 5 rfl (f8 f0 rfl ((eh24 _).sub (cs' := [_]) 0 rfl) rfl) (Dyp 6 rfl (j4 rfl) (Dyp 7 rfl (j4 rfl) ?_))))))))))))))))))))
     refine Dyp 8 rfl (o6 us_Facts ty_Fact rfl ea24 rfl g rfl om) (Dyp 9 rfl (i7 fo_Fact_1 ty_Is dc rfl) (Dy 10 rfl (f8 ty_Is rfl ((eh24 _).sub (cs' := [_]) 1 rfl) rfl) (u7 11 rfl rfl kr (fun _ => rfl) (N.call (N8 (hyl _ (List.getElem_mem om))) rfl rfl rfl dc rfl (fun w Lp hA => ⟨ei24_0, hA.ro xh24_0⟩)) (fun k48 _ => ?_))))
     obtain ⟨a48, m48, c48⟩ := k48
     refine i9 m0 fun e48 l48 => ?_
     subst e48
     refine u7 12 rfl rfl kr (fun _ => rfl) (Nb [_] [_, _] us_Facts ty_Fact rfl rfl) (fun b49 _ => (f7 (f7 (j6 (u7 13 rfl rfl kr (fun h => by cases h) (y6 (E := F0) (ex := l[g]) us_Facts ty_Fact rfl rfl rfl (I9 (x := l[g]) ei24_0 Own.ow) rfl bn bn dc) (fun p50 _ => (Dyp 14 rfl (G1 rfl) (o3 kr (o4 (Et (Ez Z3 (Em rfl (Ey rfl ((Y.add rfl rfl om om).yd) (Ei rfl (Eu (j8 (congrArg (ow r7 [_]) (show ((J7 (I2 l (l3, f6)) (ltF (l3, f6)) (l3, f6) (l.take g)) ++ [(l3, f6)]) ++ [l[g]] = J7 (I2 l (l3, f6)) (ltF (l3, f6)) (l3, f6) (l.take (g + 1)) from by grind [D1, E8, E9, F8, D9, Q0, d1, d2, t1, t2])) (f7 (f7 ?_))))))))))))))))))
     exact u9 br (g + 1, p50.1, (((J7 (I2 l (l3, f6)) (ltF (l3, f6)) (l3, f6) (l.take g)).length + 1) + 1), p50.2) ⟨rfl, rfl, rfl, frB (by grind [D1, E8, E9, F8, D9, Q0, d1, d2, t1, t2]), rfl, trivial⟩ (.refl _) ⟨oz, trivial⟩ oz
    ·refine Dyp 10 rfl (s6 rfl rfl) (o3 kr (Et (l6 rfl (i8 (Et (D.region (fun j => !(Nat.beq j 13)) mixed (Dyp 0 rfl (j4 rfl) (Dyp 1 rfl (j4 rfl) (Dyp 2 rfl (j4 rfl) (Dyp 3 rfl (o6 us_Facts ty_Fact rfl ea24 rfl g rfl om) (Dyp 4 rfl (i7 fo_Fact_0 f0 dc rfl) (Dy 5 rfl (f8 f0 rfl ((eh24 _).sub (cs' := [_]) 0 rfl) rfl) (Dyp 6 rfl (j4 rfl) (Dyp 7 rfl (j4 rfl) (Dyp 8 rfl (o6 us_Facts ty_Fact rfl ea24 rfl g rfl om) (Dyp 9 rfl (i7 fo_Fact_1 ty_Is dc rfl) (Dy 10 rfl (f8 ty_Is rfl ((eh24 _).sub (cs' := [_]) 1 rfl) rfl) (u7 11 rfl rfl kr (fun _ => rfl) (N.call (N8 (hyl _ (List.getElem_mem om))) rfl rfl rfl dc rfl (fun w Lp hA => ⟨ei24_0, hA.ro xh24_0⟩)) (fun k48 _ => ?_)))))))))))))))))))
     obtain ⟨a48, m48, c48⟩ := k48
     refine i9 m0 fun e48 l48 => ?_
     subst e48
     refine u7 12 rfl rfl kr (fun _ => rfl) (Nb [_] [_, _] us_Facts ty_Fact rfl rfl) (fun b49 _ => (f7 (f7 (j6 (u7 13 rfl rfl kr (fun h => by cases h) (y6 (E := F0) (ex := l[g]) us_Facts ty_Fact rfl rfl rfl (I9 (x := l[g]) ei24_0 Own.ow) rfl bn bn dc) (fun p50 _ => (Dyp 14 rfl (G1 rfl) (o3 kr (o4 (Et (Ez Z3 (Em rfl (Ey rfl ((Y.add rfl rfl om om).yd) (Ei rfl (Eu (j8 (congrArg (ow r7 [_]) (show (J7 (I2 l (l3, f6)) (ltF (l3, f6)) (l3, f6) (l.take g)) ++ [l[g]] = J7 (I2 l (l3, f6)) (ltF (l3, f6)) (l3, f6) (l.take (g + 1)) from by grind [D1, E8, E9, F8, D9, Q0, d1, d2, t1, t2])) (f7 (f7 ?_))))))))))))))))))
     exact u9 br (g + 1, p50.1, ((J7 (I2 l (l3, f6)) (ltF (l3, f6)) (l3, f6) (l.take g)).length + 1), p50.2) ⟨rfl, rfl, rfl, frB (by grind [D1, E8, E9, F8, D9, Q0, d1, d2, t1, t2]), rfl, trivial⟩ (.refl _) ⟨oz, trivial⟩ oz
  ·refine Eu (l6 rfl (E.exit (n8 (n8 (w5 (Et (Eq_ (Ew Z2 (Em rfl (Ent.b (fun q51 => ?_) (fun q51 => ?_)))))))))))
   ·refine Ey rfl ((Y.not (b := true) rfl).yd) (Eu (l6 rfl (i8 (Et (Ew Z2 (Em rfl (Ei rfl (Eu (E.ret (j8 (congrArg (ow r7 [_]) (show _ = D1 l (l3, f6) by grind [D1, E8, E9, F8, D9, Q0, d1, d2, t1, t2])) ?_))))))))))
    exact Fg rfl rfl (_, _, _) rfl rfl
   ·refine Ey rfl ((Y.not (b := false) rfl).yd) (Eu (l4 rfl (Ez Z9 (Em rfl (Ey rfl ((i7 fo_Fact_0 f0 dc rfl).yd) (Ey rfl (f8 f0 rfl (Hz (mS m0) 0 rfl) rfl) (Ey rfl ((i7 fo_Fact_1 ty_Is dc rfl).yd) (Ey rfl (f8 ty_Is rfl (Hz (mS m0) 1 rfl) rfl) (Est rfl (N.call (N8 fc) rfl rfl rfl dc rfl (fun w Lp hA => ⟨H7, hA.ro y9⟩)) (fun k58 _ => ?_))))))))))
    obtain ⟨a58, m58, c58⟩ := k58
    refine i9 m0 fun e58 l58 => ?_
    subst e58
    refine Est rfl (Nb [_] [_, _] us_Facts ty_Fact rfl rfl) (fun b59 _ => (f7 (f7 (j6 (Est rfl (y6 (E := F0) (ex := (l3, f6)) us_Facts ty_Fact rfl rfl rfl (I9 (x := (l3, f6)) H7 Own.ow) rfl bn bn dc) (fun p60 _ => (Ei rfl (Ev Z2 (Em rfl (Ei rfl (Eu (E.ret (j8 (congrArg (ow r7 [_]) (show _ = D1 l (l3, f6) by grind [D1, E8, E9, F8, D9, Q0, d1, d2, t1, t2])) ?_)))))))))))))
    exact Fg rfl rfl (_, _, _) rfl rfl
 ·refine Eu (Eq_ (Ew Z1 (Ei rfl (Eu (E.block (n9 (A := []) (Own.nil (E := F0) (e := tFact) (a := (some ⟨b8, 0, none⟩))) rfl (j8 (congrArg (ow r7 [_]) (show [] = J7 (I2 l (l3, f6)) (ltF (l3, f6)) (l3, f6) (l.take 0) from by first | rfl | (simp; done) | grind [D1, E8, E9, F8, D9, Q0, d1, d2, t1, t2])) (E.loop (κ := Nat × Option Addr × Nat × Nat) (fun g => g.1 ≤ l.length ∧ True) (fun g => [(0, .slice a_l l.length c_l), (3, .pointer (some ⟨b3, 0, none⟩)), (5, .slice g.2.1 g.2.2.1 g.2.2.2), (6, .bool (I2 l (l3, f6) || (l.take g.1).any (ltF (l3, f6)))), (7, .int .i64 (↑g.1 : Int))]) (fun g => [ow r7 [.slice g.2.1 g.2.2.1 g.2.2.2] (J7 (I2 l (l3, f6)) (ltF (l3, f6)) (l3, f6) (l.take g.1)), pt b3 91 [.int .i64 l3, .slice y4 f6.length x6]]) (fun g => l.length - g.1) (0, (some ⟨b8, 0, none⟩), 0, 0) ⟨Nat.zero_le _, by simp⟩ ⟨rfl, rfl, rfl, frB (by first | rfl | (simp; done) | grind [D1, E8, E9, F8, D9, Q0, d1, d2, t1, t2]), rfl, trivial⟩ (.refl _) (fun g pg => ?_)))))))))
  obtain ⟨g, aA0_0, mA0_0, cA0_0⟩ := g
  try dsimp only at pg
  try dsimp only
  obtain ⟨pk, pa⟩ := pg
  have jp := List.length_take_le g l
  have ji := a5U (h := I2 l (l3, f6)) (p := (ltF (l3, f6))) (f := (l3, f6)) (l := l.take g)
  refine i9 m0 fun eaA0_0 laA0_0 => ?_
  subst eaA0_0
  refine Eq_ (Ew Z4 (Em rfl (Em rfl (Ey rfl ((Y.len us_Facts rfl).yd) (Ey rfl ((Y.lss rfl rfl).yd) (n0 (fun q15 => ?_) (fun q15 => ?_)))))))
  ·refine Eu (l4 rfl (i8 (Et (Eq_ (E.block (Eq_ (Eq_ (D.region (fun j => true) mixed (Dyp 0 rfl (j4 rfl) (Ent.b (fun q18 => ?_) (fun q18 => ?_)))))))))))
   ·refine Dyp 1 rfl (Y.not (b := true) rfl) (Dyp 2 rfl (j4 rfl) (Dsk 3 rfl (Dsk 4 rfl (Dsk 5 rfl (Dsk 6 rfl (Dsk 7 rfl (Dsk 8 rfl (Dsk 9 rfl (Dyp 10 rfl (r9 rfl rfl) (o3 kr (Et (l6 rfl (i8 (Et (D.region (fun j => !(Nat.beq j 13)) mixed (Dyp 0 rfl (j4 rfl) (Dyp 1 rfl (j4 rfl) (Dyp 2 rfl (j4 rfl) ?_))))))))))))))))))
    obtain ⟨eb40, eo40, ec40, ea40, er40, el40, eh40⟩ := hl.elem g om
    obtain ⟨xa40_0, xc40_0, rfl, ei40_0, xh40_0⟩ := L4 er40
    have := xh40_0.slen.2
    refine Dyp 3 rfl (o6 us_Facts ty_Fact rfl ea40 rfl g rfl om) (Dyp 4 rfl (i7 fo_Fact_0 f0 dc rfl) (Dy 5 rfl (f8 f0 rfl ((eh40 _).sub (cs' := [_]) 0 rfl) rfl) (Dyp 6 rfl (j4 rfl) (Dyp 7 rfl (j4 rfl) (Dyp 8 rfl (o6 us_Facts ty_Fact rfl ea40 rfl g rfl om) (Dyp 9 rfl (i7 fo_Fact_1 ty_Is dc rfl) (Dy 10 rfl (f8 ty_Is rfl ((eh40 _).sub (cs' := [_]) 1 rfl) rfl) (u7 11 rfl rfl kr (fun _ => rfl) (N.call (N8 (hyl _ (List.getElem_mem om))) rfl rfl rfl dc rfl (fun w Lp hA => ⟨ei40_0, hA.ro xh40_0⟩)) (fun k48 _ => ?_)))))))))
    obtain ⟨a48, m48, c48⟩ := k48
    refine i9 m0 fun e48 l48 => ?_
    subst e48
    refine u7 12 rfl rfl kr (fun _ => rfl) (Nb [_] [_, _] us_Facts ty_Fact rfl rfl) (fun b49 _ => (f7 (f7 (j6 (u7 13 rfl rfl kr (fun h => by cases h) (y6 (E := F0) (ex := l[g]) us_Facts ty_Fact rfl rfl rfl (I9 (x := l[g]) ei40_0 Own.ow) rfl bn bn dc) (fun p50 _ => (Dyp 14 rfl (G1 rfl) (o3 kr (o4 (Et (Ez Z3 (Em rfl (Ey rfl ((Y.add rfl rfl om om).yd) (Ei rfl (Eu (j8 (congrArg (ow r7 [_]) (show (J7 (I2 l (l3, f6)) (ltF (l3, f6)) (l3, f6) (l.take g)) ++ [l[g]] = J7 (I2 l (l3, f6)) (ltF (l3, f6)) (l3, f6) (l.take (g + 1)) from by grind [D1, E8, E9, F8, D9, Q0, d1, d2, t1, t2])) (f7 (f7 ?_))))))))))))))))))
    exact u9 br (g + 1, p50.1, ((J7 (I2 l (l3, f6)) (ltF (l3, f6)) (l3, f6) (l.take g)).length + 1), p50.2) ⟨rfl, rfl, rfl, frB (by grind [D1, E8, E9, F8, D9, Q0, d1, d2, t1, t2]), rfl, trivial⟩ (.refl _) ⟨oz, trivial⟩ oz
   ·refine Dyp 1 rfl (Y.not (b := false) rfl) (Dyp 2 rfl (j4 rfl) (Dy 3 rfl (o0 (cs := [_, _]) ty_Fact rfl (Has.pt (mS m0)) rfl) (Dyp 4 rfl (j4 rfl) (Dyp 5 rfl (j4 rfl) ?_))))
    obtain ⟨eb24, eo24, ec24, ea24, er24, el24, eh24⟩ := hl.elem g om
    obtain ⟨xa24_0, xc24_0, rfl, ei24_0, xh24_0⟩ := L4 er24
    have := xh24_0.slen.2
    refine Dyp 6 rfl (o6 us_Facts ty_Fact rfl ea24 rfl g rfl om) (Dy 7 rfl (o0 (cs := [_, _]) ty_Fact rfl (eh24 _) rfl) (u7 8 rfl rfl kr (fun _ => rfl) (k6 S5 rfl rfl rfl dc (fun w Lp hA => ⟨H7, hA.ro y9, ei24_0, hA.ro xh24_0⟩)) (fun _ _ => (Dyp 9 rfl (Y.lss rfl rfl) (n0 (fun q27 => ?_) (fun q27 => ?_))))))
    ·refine Dyp 10 rfl (s6 rfl rfl) (o3 kr (Et (l4 rfl (Ew Z9 (Em rfl (Ey rfl ((i7 fo_Fact_0 f0 dc rfl).yd) (Ey rfl (f8 f0 rfl (Hz (mS m0) 0 rfl) rfl) (Ey rfl ((i7 fo_Fact_1 ty_Is dc rfl).yd) (Ey rfl (f8 ty_Is rfl (Hz (mS m0) 1 rfl) rfl) (Est rfl (N.call (N8 fc) rfl rfl rfl dc rfl (fun w Lp hA => ⟨H7, hA.ro y9⟩)) (fun k34 _ => ?_)))))))))))
     obtain ⟨a34, m34, c34⟩ := k34
     refine i9 m0 fun e34 l34 => ?_
     subst e34
     refine Est rfl (Nb [_] [_, _] us_Facts ty_Fact rfl rfl) (fun b35 _ => (f7 (f7 (j6 (Est rfl (y6 (E := F0) (ex := (l3, f6)) us_Facts ty_Fact rfl rfl rfl (I9 (x := (l3, f6)) H7 Own.ow) rfl bn bn dc) (fun p36 _ => (Ei rfl (Eu (Ez Z1 (Ei rfl (Eu (D.region (fun j => !(Nat.beq j 13)) mixed (Dyp 0 rfl (j4 rfl) (Dyp 1 rfl (j4 rfl) (Dyp 2 rfl (j4 rfl) (Dyp 3 rfl (o6 us_Facts ty_Fact rfl ea24 rfl g rfl om) (Dyp 4 rfl (i7 fo_Fact_0 f0 dc rfl) (Dy 5 rfl (f8 f0 rfl ((eh24 _).sub (cs' := [_]) 0 rfl) rfl) (Dyp 6 rfl (j4 rfl) (Dyp 7 rfl (j4 rfl) ?_))))))))))))))))))))
     refine Dyp 8 rfl (o6 us_Facts ty_Fact rfl ea24 rfl g rfl om) (Dyp 9 rfl (i7 fo_Fact_1 ty_Is dc rfl) (Dy 10 rfl (f8 ty_Is rfl ((eh24 _).sub (cs' := [_]) 1 rfl) rfl) (u7 11 rfl rfl kr (fun _ => rfl) (N.call (N8 (hyl _ (List.getElem_mem om))) rfl rfl rfl dc rfl (fun w Lp hA => ⟨ei24_0, hA.ro xh24_0⟩)) (fun k48 _ => ?_))))
     obtain ⟨a48, m48, c48⟩ := k48
     refine i9 m0 fun e48 l48 => ?_
     subst e48
     refine u7 12 rfl rfl kr (fun _ => rfl) (Nb [_] [_, _] us_Facts ty_Fact rfl rfl) (fun b49 _ => (f7 (f7 (j6 (u7 13 rfl rfl kr (fun h => by cases h) (y6 (E := F0) (ex := l[g]) us_Facts ty_Fact rfl rfl rfl (I9 (x := l[g]) ei24_0 Own.ow) rfl bn bn dc) (fun p50 _ => (Dyp 14 rfl (G1 rfl) (o3 kr (o4 (Et (Ez Z3 (Em rfl (Ey rfl ((Y.add rfl rfl om om).yd) (Ei rfl (Eu (j8 (congrArg (ow r7 [_]) (show ((J7 (I2 l (l3, f6)) (ltF (l3, f6)) (l3, f6) (l.take g)) ++ [(l3, f6)]) ++ [l[g]] = J7 (I2 l (l3, f6)) (ltF (l3, f6)) (l3, f6) (l.take (g + 1)) from by grind [D1, E8, E9, F8, D9, Q0, d1, d2, t1, t2])) (f7 (f7 ?_))))))))))))))))))
     exact u9 br (g + 1, p50.1, (((J7 (I2 l (l3, f6)) (ltF (l3, f6)) (l3, f6) (l.take g)).length + 1) + 1), p50.2) ⟨rfl, rfl, rfl, frB (by grind [D1, E8, E9, F8, D9, Q0, d1, d2, t1, t2]), rfl, trivial⟩ (.refl _) ⟨oz, trivial⟩ oz
    ·refine Dyp 10 rfl (s6 rfl rfl) (o3 kr (Et (l6 rfl (i8 (Et (D.region (fun j => !(Nat.beq j 13)) mixed (Dyp 0 rfl (j4 rfl) (Dyp 1 rfl (j4 rfl) (Dyp 2 rfl (j4 rfl) (Dyp 3 rfl (o6 us_Facts ty_Fact rfl ea24 rfl g rfl om) (Dyp 4 rfl (i7 fo_Fact_0 f0 dc rfl) (Dy 5 rfl (f8 f0 rfl ((eh24 _).sub (cs' := [_]) 0 rfl) rfl) (Dyp 6 rfl (j4 rfl) (Dyp 7 rfl (j4 rfl) (Dyp 8 rfl (o6 us_Facts ty_Fact rfl ea24 rfl g rfl om) (Dyp 9 rfl (i7 fo_Fact_1 ty_Is dc rfl) (Dy 10 rfl (f8 ty_Is rfl ((eh24 _).sub (cs' := [_]) 1 rfl) rfl) (u7 11 rfl rfl kr (fun _ => rfl) (N.call (N8 (hyl _ (List.getElem_mem om))) rfl rfl rfl dc rfl (fun w Lp hA => ⟨ei24_0, hA.ro xh24_0⟩)) (fun k48 _ => ?_)))))))))))))))))))
     obtain ⟨a48, m48, c48⟩ := k48
     refine i9 m0 fun e48 l48 => ?_
     subst e48
     refine u7 12 rfl rfl kr (fun _ => rfl) (Nb [_] [_, _] us_Facts ty_Fact rfl rfl) (fun b49 _ => (f7 (f7 (j6 (u7 13 rfl rfl kr (fun h => by cases h) (y6 (E := F0) (ex := l[g]) us_Facts ty_Fact rfl rfl rfl (I9 (x := l[g]) ei24_0 Own.ow) rfl bn bn dc) (fun p50 _ => (Dyp 14 rfl (G1 rfl) (o3 kr (o4 (Et (Ez Z3 (Em rfl (Ey rfl ((Y.add rfl rfl om om).yd) (Ei rfl (Eu (j8 (congrArg (ow r7 [_]) (show (J7 (I2 l (l3, f6)) (ltF (l3, f6)) (l3, f6) (l.take g)) ++ [l[g]] = J7 (I2 l (l3, f6)) (ltF (l3, f6)) (l3, f6) (l.take (g + 1)) from by grind [D1, E8, E9, F8, D9, Q0, d1, d2, t1, t2])) (f7 (f7 ?_))))))))))))))))))
     exact u9 br (g + 1, p50.1, ((J7 (I2 l (l3, f6)) (ltF (l3, f6)) (l3, f6) (l.take g)).length + 1), p50.2) ⟨rfl, rfl, rfl, frB (by grind [D1, E8, E9, F8, D9, Q0, d1, d2, t1, t2]), rfl, trivial⟩ (.refl _) ⟨oz, trivial⟩ oz
  ·refine Eu (l6 rfl (E.exit (n8 (n8 (w5 (Et (Eq_ (Ew Z2 (Em rfl (Ent.b (fun q51 => ?_) (fun q51 => ?_)))))))))))
   ·refine Ey rfl ((Y.not (b := true) rfl).yd) (Eu (l6 rfl (i8 (Et (Ew Z2 (Em rfl (Ei rfl (Eu (E.ret (j8 (congrArg (ow r7 [_]) (show _ = D1 l (l3, f6) by grind [D1, E8, E9, F8, D9, Q0, d1, d2, t1, t2])) ?_))))))))))
    exact Fg rfl rfl (_, _, _) rfl rfl
   ·refine Ey rfl ((Y.not (b := false) rfl).yd) (Eu (l4 rfl (Ez Z9 (Em rfl (Ey rfl ((i7 fo_Fact_0 f0 dc rfl).yd) (Ey rfl (f8 f0 rfl (Hz (mS m0) 0 rfl) rfl) (Ey rfl ((i7 fo_Fact_1 ty_Is dc rfl).yd) (Ey rfl (f8 ty_Is rfl (Hz (mS m0) 1 rfl) rfl) (Est rfl (N.call (N8 fc) rfl rfl rfl dc rfl (fun w Lp hA => ⟨H7, hA.ro y9⟩)) (fun k58 _ => ?_))))))))))
    obtain ⟨a58, m58, c58⟩ := k58
    refine i9 m0 fun e58 l58 => ?_
    subst e58
    refine Est rfl (Nb [_] [_, _] us_Facts ty_Fact rfl rfl) (fun b59 _ => (f7 (f7 (j6 (Est rfl (y6 (E := F0) (ex := (l3, f6)) us_Facts ty_Fact rfl rfl rfl (I9 (x := (l3, f6)) H7 Own.ow) rfl bn bn dc) (fun p60 _ => (Ei rfl (Ev Z2 (Em rfl (Ei rfl (Eu (E.ret (j8 (congrArg (ow r7 [_]) (show _ = D1 l (l3, f6) by grind [D1, E8, E9, F8, D9, Q0, d1, d2, t1, t2])) ?_)))))))))))))
    exact Fg rfl rfl (_, _, _) rfl rfl
theorem a6M : Tr Tryz.prog 45 [.slice a_s m_s c_s, .slice a_l m_l c_l] (fun w L => Ro w L eIs [.slice a_s m_s c_s] s ∧ Ro w L r7 [.slice a_l m_l c_l] l) [] (κ := Unit) (fun k => True) (fun k => .bool (E0 s l)) (fun k => []) := by
 refine Tr.intro Tryz.func45 rfl (n := 40) rfl (by decide +kernel) bl (fr := [(0, .slice a_s m_s c_s), (1, .slice a_l m_l c_l)]) rfl fun w L hR => ?_
 obtain ⟨hs, hl⟩ := hR
 obtain ⟨rfl, ls⟩ := hs.slen
 obtain ⟨rfl, ll⟩ := hl.slen
 refine Ew Z1 (Ei rfl (Eu (Eq_ (Ew Z3 (Em rfl (Ey rfl ((Y.len us_Facts rfl).yd) (Em rfl (Eu (E.block (E.loop (κ := Nat) (fun g => g ≤ l.length ∧ a0n s l 0 = a0n s l g) (fun g => [(0, .slice a_s s.length c_s), (1, .slice a_l l.length c_l), (7, .slice a_l l.length c_l), (8, .int .i64 (↑l.length : Int)), (9, .int .i64 (g : Int))]) (fun g => []) (fun g => l.length - g) 0 ⟨Nat.zero_le _, by simp⟩ ⟨rfl, rfl, rfl, rfl, rfl, trivial⟩ (.refl _) (fun g pg => ?_)))))))))))
 obtain ⟨pk, pa⟩ := pg
 refine Ew Z1 (Ey rfl ((Y.lss rfl rfl).yd) (n0 (fun q10 => ?_) (fun q10 => ?_)))
 ·refine Eu (Eq_ (l4 rfl (i8 (Et (Eq_ (E.block (Ew Z6 (Em rfl ?_))))))))
  obtain ⟨eb12, eo12, ec12, ea12, er12, el12, eh12⟩ := hl.elem g om
  obtain ⟨xa12_0, xc12_0, rfl, ei12_0, xh12_0⟩ := L4 er12
  have := xh12_0.slen.2
  refine Ey rfl ((o6 us_Facts ty_Fact rfl ea12 rfl g rfl om).yd) (Ey rfl (o0 (cs := [_, _]) ty_Fact rfl (eh12 _) rfl) (Est rfl (N.alloc ty_Fact dc) (fun b6 _ => (Ei rfl (Est rfl (Ns [_, _] ty_Fact rfl) (fun _ _ => (Eu (Eq_ (D.region (fun j => true) mixed (Dyp 0 rfl (j4 rfl) (Dy 1 rfl (o0 (cs := [_, _]) ty_Fact rfl (Has.pt m0) rfl) (u7 2 rfl rfl kr (fun _ => rfl) (k6 a8Q rfl rfl rfl dc (fun w Lp hA => ⟨hA.ro hs, ei12_0, hA.ro xh12_0⟩)) (fun _ _ => (Ent.b (fun q16 => ?_) (fun q16 => ?_)))))))))))))))
  ·refine Dyp 3 rfl (Y.not (b := true) rfl) (Dyp 4 rfl (j4 rfl) (Dyp 5 rfl (j4 rfl) (Dyp 6 rfl (Y.gtr rfl rfl) (n0 (fun q20 => ?_) (fun q20 => ?_)))))
   ·refine Dyp 7 rfl (j4 rfl) (Dyp 8 rfl (j4 rfl) (Dyp 9 rfl (j4 rfl) (Dyp 10 rfl (Y.sub rfl rfl om om) ?_)))
    obtain ⟨eb25, eo25, ec25, ea25, er25, el25, eh25⟩ := hl.elem (g - 1) om
    obtain ⟨xa25_0, xc25_0, rfl, ei25_0, xh25_0⟩ := L4 er25
    have := xh25_0.slen.2
    refine Dyp 11 rfl (o6 us_Facts ty_Fact rfl ea25 rfl (g - 1) om om) (Dy 12 rfl (o0 (cs := [_, _]) ty_Fact rfl (eh25 _) rfl) (Dy 13 rfl (o0 (cs := [_, _]) ty_Fact rfl (Has.pt m0) rfl) (u7 14 rfl rfl kr (fun _ => rfl) (k6 a0v rfl rfl rfl dc (fun w Lp hA => ⟨ei25_0, hA.ro xh25_0, ei12_0, hA.ro xh12_0⟩)) (fun _ _ => (Dyp 15 rfl (Y.geq rfl rfl) (n0 (fun q29 => ?_) (fun q29 => ?_)))))))
    ·refine Dyp 16 rfl (s6 rfl rfl) (Dyp 17 rfl (r9 rfl rfl) (o3 kr (Et (l4 rfl (Ew Z1 (Ei rfl ?_))))))
     exact Eu (E.ret (t7 (l0 (l0 (t7 (l0 (Fb rfl rfl (by grind [E0, a0n, G3, G2, H4, ltF, d1, d2, t1, t2]))))))))
    ·refine Dyp 16 rfl (s6 rfl rfl) (Dyp 17 rfl (r9 rfl rfl) (o3 kr (Et (l6 rfl (i8 (o4 (Et (Ez Z2 (Ey rfl ((Y.add rfl rfl om om).yd) (Em rfl (Eu (Ent.drop ?_))))))))))))
     exact u9 br (g + 1) rs (.refl _) ⟨by omega, by grind [a0n, G3, G2, H4, ltF, Bool.and_assoc, d1, d2, t1, t2]⟩ om
   ·refine Dyp 7 rfl (j4 rfl) (Dsk 8 rfl (Dsk 9 rfl (Dsk 10 rfl (Dsk 11 rfl (Dsk 12 rfl (Dsk 13 rfl (Dsk 14 rfl (Dsk 15 rfl (Dyp 16 rfl (r9 rfl rfl) (Dyp 17 rfl (r9 rfl rfl) (o3 kr (Et (l6 rfl (i8 (o4 (Et (Ez Z2 (Ey rfl ((Y.add rfl rfl om om).yd) (Em rfl (Eu (Ent.drop ?_)))))))))))))))))))))
    exact u9 br (g + 1) rs (.refl _) ⟨by omega, by grind [a0n, G3, G2, H4, ltF, Bool.and_assoc, d1, d2, t1, t2]⟩ om
  ·refine Dyp 3 rfl (Y.not (b := false) rfl) (Dyp 4 rfl (j4 rfl) (Dsk 5 rfl (Dsk 6 rfl (a9g 7 rfl rfl dc kr (Dsk 8 rfl (Dsk 9 rfl (Dsk 10 rfl (Dsk 11 rfl (Dsk 12 rfl (Dsk 13 rfl (Dsk 14 rfl (Dsk 15 rfl (Dsk 16 rfl (Dyp 17 rfl (s6 rfl rfl) ?_))))))))))))))
   refine o3 kr (Et (l4 rfl (Ew Z1 (Ei rfl ?_))))
   exact Eu (E.ret (t7 (l0 (l0 (t7 (l0 (Fb rfl rfl (by grind [E0, a0n, G3, G2, H4, ltF, d1, d2, t1, t2]))))))))
 ·refine Eu (Eq_ (l6 rfl (E.exit (n8 (n8 (w5 (Et (Ew Z8 (Em rfl (Est rfl (k6 a0y rfl rfl rfl dc (fun w Lp hA => hA.ro hs)) (fun _ _ => (Ent.b (fun q34 => ?_) (fun q34 => ?_)))))))))))))
  ·refine Em rfl (Em rfl (Ey rfl ((Y.len us_Facts rfl).yd) (Ey rfl ((Y.leq rfl rfl).yd) (Ey rfl ((s6 rfl rfl).yd) (Ei rfl ?_)))))
   exact Eu (E.ret (Fb rfl rfl (by grind [E0, a0n, G3, G2, H4, ltF, d1, d2, t1, t2])))
  ·refine Em rfl (Es rfl (Es rfl (Es rfl (Ey rfl ((r9 rfl rfl).yd) (Ei rfl ?_)))))
   exact Eu (E.ret (Fb rfl rfl (by grind [E0, a0n, G3, G2, H4, ltF, d1, d2, t1, t2])))
theorem a0z : Tr Tryz.prog 13 [.slice a_s m_s c_s, .slice a_l m_l c_l] (fun w L => Ro w L eIs [.slice a_s m_s c_s] s ∧ Ro w L r7 [.slice a_l m_l c_l] l) [] (κ := Unit) (fun k => True) (fun k => .bool (E0 s l)) (fun k => []) := by
 refine Tr.intro Tryz.func13 rfl (n := 43) rfl (by decide +kernel) bl (fr := [(0, .slice a_s m_s c_s), (1, .slice a_l m_l c_l)]) rfl fun w L hR => ?_
 obtain ⟨hs, hl⟩ := hR
 obtain ⟨rfl, ls⟩ := hs.slen
 obtain ⟨rfl, ll⟩ := hl.slen
 refine Ew Z1 (Ei rfl (Eu (Eq_ (Ew Z1 (Ei rfl (Eu (E.block (E.loop (κ := Nat) (fun g => g ≤ l.length ∧ a0n s l 0 = a0n s l g) (fun g => [(0, .slice a_s s.length c_s), (1, .slice a_l l.length c_l), (5, .int .i64 (g : Int))]) (fun g => []) (fun g => l.length - g) 0 ⟨Nat.zero_le _, by simp⟩ ⟨rfl, rfl, rfl, trivial⟩ (.refl _) (fun g pg => ?_)))))))))
 obtain ⟨pk, pa⟩ := pg
 refine Eq_ (Ew Z4 (Em rfl (Em rfl (Ey rfl ((Y.len us_Facts rfl).yd) (Ey rfl ((Y.lss rfl rfl).yd) (n0 (fun q9 => ?_) (fun q9 => ?_)))))))
 ·refine Eu (l4 rfl (i8 (Et (Eq_ (E.block (Eq_ (D.region (fun j => true) mixed (Dyp 0 rfl (j4 rfl) (Dyp 1 rfl (j4 rfl) (Dyp 2 rfl (j4 rfl) ?_))))))))))
  obtain ⟨eb15, eo15, ec15, ea15, er15, el15, eh15⟩ := hl.elem g om
  obtain ⟨xa15_0, xc15_0, rfl, ei15_0, xh15_0⟩ := L4 er15
  have := xh15_0.slen.2
  refine Dyp 3 rfl (o6 us_Facts ty_Fact rfl ea15 rfl g rfl om) (Dy 4 rfl (o0 (cs := [_, _]) ty_Fact rfl (eh15 _) rfl) (u7 5 rfl rfl kr (fun _ => rfl) (k6 a8R rfl rfl rfl dc (fun w Lp hA => ⟨hA.ro hs, ei15_0, hA.ro xh15_0⟩)) (fun _ _ => (Ent.b (fun q17 => ?_) (fun q17 => ?_)))))
  ·refine Dyp 6 rfl (Y.not (b := true) rfl) (Dyp 7 rfl (j4 rfl) (Dyp 8 rfl (j4 rfl) (Dyp 9 rfl (Y.gtr rfl rfl) (n0 (fun q21 => ?_) (fun q21 => ?_)))))
   ·refine Dyp 10 rfl (j4 rfl) (Dyp 11 rfl (j4 rfl) (Dyp 12 rfl (j4 rfl) (Dyp 13 rfl (Y.sub rfl rfl om om) ?_)))
    obtain ⟨eb26, eo26, ec26, ea26, er26, el26, eh26⟩ := hl.elem (g - 1) om
    obtain ⟨xa26_0, xc26_0, rfl, ei26_0, xh26_0⟩ := L4 er26
    have := xh26_0.slen.2
    refine Dyp 14 rfl (o6 us_Facts ty_Fact rfl ea26 rfl (g - 1) om om) (Dy 15 rfl (o0 (cs := [_, _]) ty_Fact rfl (eh26 _) rfl) (Dyp 16 rfl (j4 rfl) (Dyp 17 rfl (j4 rfl) (Dyp 18 rfl (o6 us_Facts ty_Fact rfl ea15 rfl g rfl om) (Dy 19 rfl (o0 (cs := [_, _]) ty_Fact rfl (eh15 _) rfl) (u7 20 rfl rfl kr (fun _ => rfl) (k6 S5 rfl rfl rfl dc (fun w Lp hA => ⟨ei26_0, hA.ro xh26_0, ei15_0, hA.ro xh15_0⟩)) (fun _ _ => (Dyp 21 rfl (Y.geq rfl rfl) (n0 (fun q33 => ?_) (fun q33 => ?_))))))))))
    ·refine Dyp 22 rfl (s6 rfl rfl) (Dyp 23 rfl (r9 rfl rfl) (o3 kr (Et (l4 rfl (Ew Z1 (Ei rfl ?_))))))
     exact Eu (E.ret (t7 (l0 (l0 (t7 (l0 (Fb rfl rfl (by grind [E0, a0n, G3, G2, H4, ltF, d1, d2, t1, t2]))))))))
    ·refine Dyp 22 rfl (s6 rfl rfl) (Dyp 23 rfl (r9 rfl rfl) (o3 kr (Et (l6 rfl (i8 (o4 (Et (Ez Z3 (Em rfl (Ey rfl ((Y.add rfl rfl om om).yd) (Ei rfl ?_)))))))))))
     exact Eu (u9 br (g + 1) rs (.refl _) ⟨by omega, by grind [a0n, G3, G2, H4, ltF, Bool.and_assoc, d1, d2, t1, t2]⟩ om)
   ·refine Dyp 10 rfl (j4 rfl) (Dsk 11 rfl (Dsk 12 rfl (Dsk 13 rfl (Dsk 14 rfl (Dsk 15 rfl (Dsk 16 rfl (Dsk 17 rfl (Dsk 18 rfl (Dsk 19 rfl (Dsk 20 rfl (Dsk 21 rfl (Dyp 22 rfl (r9 rfl rfl) (Dyp 23 rfl (r9 rfl rfl) (o3 kr (Et (l6 rfl (i8 (o4 (Et (Ez Z3 (Em rfl ?_)))))))))))))))))))))
    refine Ey rfl ((Y.add rfl rfl om om).yd) (Ei rfl ?_)
    exact Eu (u9 br (g + 1) rs (.refl _) ⟨by omega, by grind [a0n, G3, G2, H4, ltF, Bool.and_assoc, d1, d2, t1, t2]⟩ om)
  ·refine Dyp 6 rfl (Y.not (b := false) rfl) (Dyp 7 rfl (j4 rfl) (Dsk 8 rfl (Dsk 9 rfl (a9g 10 rfl rfl dc kr (Dsk 11 rfl (Dsk 12 rfl (Dsk 13 rfl (Dsk 14 rfl (Dsk 15 rfl (Dsk 16 rfl (Dsk 17 rfl (Dsk 18 rfl (Dsk 19 rfl (Dsk 20 rfl ?_))))))))))))))
   refine Dsk 21 rfl (Dsk 22 rfl (Dyp 23 rfl (s6 rfl rfl) (o3 kr (Et (l4 rfl (Ew Z1 (Ei rfl ?_)))))))
   exact Eu (E.ret (t7 (l0 (l0 (t7 (l0 (Fb rfl rfl (by grind [E0, a0n, G3, G2, H4, ltF, d1, d2, t1, t2]))))))))
 ·refine Eu (l6 rfl (E.exit (n8 (n8 (w5 (Et (Ew Z8 (Em rfl (Est rfl (k6 L6 rfl rfl rfl dc (fun w Lp hA => hA.ro hs)) (fun _ _ => (Ent.b (fun q37 => ?_) (fun q37 => ?_))))))))))))
  ·refine Em rfl (Em rfl (Ey rfl ((Y.len us_Facts rfl).yd) (Ey rfl ((Y.leq rfl rfl).yd) (Ey rfl ((s6 rfl rfl).yd) (Ei rfl ?_)))))
   exact Eu (E.ret (Fb rfl rfl (by grind [E0, a0n, G3, G2, H4, ltF, d1, d2, t1, t2])))
  ·refine Em rfl (Es rfl (Es rfl (Es rfl (Ey rfl ((r9 rfl rfl).yd) (Ei rfl ?_)))))
   exact Eu (E.ret (Fb rfl rfl (by grind [E0, a0n, G3, G2, H4, ltF, d1, d2, t1, t2])))
end Go.Proofs.YtlfhopooaejpfaaGreat
