import Derived.Test.YtdopeopehgdccaaGreatT12
import Derived.Test.YtdopeopehgdccaaGreatT9
namespace Go.Proofs.YtdopeopehgdccaaGreat
open Go.RowKit
set_option linter.all false
set_option maxHeartbeats 2000000
attribute [local irreducible] Nop Yd Yp Ent Has Tr FnP FnP2 Src R6 a0d a0I a1c H6
variable {o5 : Int} {l : List (Int × List Int)} {f9 s : List Int} {D3 y8 m_l c_l m_s c_s : Nat} {y9 a_l a_s : Option Addr}
theorem a3q (hyf : f9.length ≤ 1048576) : Tr Tryz.prog 255 [.agg #[.int .i64 o5, .slice y9 D3 y8]] (fun w L => I64 o5 ∧ Ro w L eIs [.slice y9 D3 y8] f9) [] (κ := Option Addr × Nat × Nat) (fun k => True) (fun k => .agg #[.int .i64 o5, .slice k.1 k.2.1 k.2.2]) (fun k => [ow eIs [.slice k.1 k.2.1 k.2.2] f9]) := by
 refine n9 Tryz.func255 rfl (n := 9) rfl (by decide +kernel) bl (fr := [(0, .agg #[.int .i64 o5, .slice y9 D3 y8])]) rfl fun w L hR => ?_
 obtain ⟨J6, B4⟩ := hR
 obtain ⟨rfl, Y9⟩ := B4.slen
 refine Ew Z2 (Est rfl (N.box (cs := [_, _]) rfl dc rfl) (fun b1 _ => (Est rfl (N.alloc ty_Fact dc) (fun b2 _ => (Eu (Eq_ (D.region (fun j => !(Nat.beq j 6)) mixed (Dyp 0 rfl (j7 fo_Fact_0 i8 dc rfl) (Dy 1 rfl (g9 i8 rfl (Hz (mS m0) 0 rfl) rfl) (Dyp 2 rfl (j7 fo_Fact_1 ty_Is dc rfl) (Dy 3 rfl (g9 ty_Is rfl (Hz (mS m0) 1 rfl) rfl) (t8 4 rfl rfl kr (fun _ => rfl) (N.call (a3y fc) rfl rfl rfl dc rfl (fun w Lp hA => hA.ro B4)) (fun k7 _ => ?_)))))))))))))
 obtain ⟨a7, m7, c7⟩ := k7
 refine i9 m0 fun e7 l7 => ?_
 subst e7
 refine Dyp 5 rfl (Q3 (pvs := [_, _]) (cs := [_, _]) ty_Fact a7S rfl rfl) (i7 (t8 6 rfl rfl kr (fun h => by cases h) (Ns [_, _] ty_Fact rfl) (fun _ _ => (r8 kr (Et (E.ret (i7 ?_)))))))
 exact a2k br rfl rfl (mS m0) ty_Fact rfl (_, _, _) trivial rfl (J := _) (.refl _) (.inl rfl)
theorem T4 {rel : Int} {a_values : Option Addr} {m_values c_values : Nat} {J4 : List Int} (hz : J4.length ≤ 1048576) : Tr Tryz.prog 174 [.int .i64 rel, .slice a_values m_values c_values] (fun w L => I64 rel ∧ Ro w L eIs [.slice a_values m_values c_values] J4) [] (κ := Option Addr × Nat × Nat) (fun k => True) (fun k => .agg #[.int .i64 rel, .slice k.1 k.2.1 k.2.2]) (fun k => [ow eIs [.slice k.1 k.2.1 k.2.2] J4]) := by
 refine n9 Tryz.func174 rfl (n := 10) rfl (by decide +kernel) bl (fr := [(0, .int .i64 rel), (1, .slice a_values m_values c_values)]) rfl fun w L hR => ?_
 obtain ⟨i6rel, hvalues⟩ := hR
 obtain ⟨rfl, lvalues⟩ := hvalues.slen
 refine Ew Z1 (Est rfl (N.alloc ty_Fact dc) (fun b4 _ => (Ev Z6 (Em rfl (Est rfl (Nb [] [] us_Is i8 rfl rfl) (fun b6 _ => (Ent.drop (Em rfl (Est rfl (O6 (E := Enc.int) Plain.int us_Is i8 rfl rfl rfl hvalues bn bn dc) (fun p8 _ => (Ey rfl ((Q3 (pvs := [_, _]) (cs := [_, _]) ty_Fact a7S rfl rfl).yd) (i7 (Est rfl (Ns [_, _] ty_Fact rfl) (fun _ _ => (Eu (E.ret (i7 ?_)))))))))))))))))
 exact a2k br rfl rfl (mS m0) ty_Fact rfl (_, _, _) trivial rfl (J := _) (.refl _) (.inl rfl)
theorem a8O (hz : l.length ≤ 1073741824) (hyl : ∀ x ∈ l, x.2.length ≤ 1048576) : Tr Tryz.prog 206 [.slice a_l m_l c_l] (fun w L => Ro w L s8 [.slice a_l m_l c_l] l) [] (κ := Option Addr × Nat × Nat) (fun k => True) (fun k => .slice k.1 k.2.1 k.2.2) (fun k => [ow s8 [.slice k.1 k.2.1 k.2.2] l]) := by
 refine n9 Tryz.func206 rfl (n := 20) rfl (by decide +kernel) bl (fr := [(0, .slice a_l m_l c_l)]) rfl fun w L hR => ?_
 have hl := hR
 obtain ⟨rfl, ll⟩ := hl.slen
 refine Ew Z1 (Ei rfl (Ev Z2 (Est rfl (Nb [] [] us_Facts ty_Fact rfl rfl) (fun b6 _ => (Ent.drop (Ei rfl (Eu (Eq_ (Ew Z3 (Em rfl (Ey rfl ((Y.len us_Facts rfl).yd) (Em rfl (Eu (E.block (s3 (A := []) (Own.nil (E := H7) (e := tFact) (a := (some ⟨b6, 0, none⟩))) rfl (j6 (congrArg (ow s8 [_]) (show [] = l.take 0 from by first | rfl | (simp; done) | grind [d1, d2, t1, t2])) (E.loop (κ := Nat × Option Addr × Nat × Nat) (fun g => g.1 ≤ l.length ∧ True) (fun g => [(3, .slice g.2.1 g.2.2.1 g.2.2.2), (7, .slice a_l l.length c_l), (8, .int .i64 (↑l.length : Int)), (9, .int .i64 (↑g.1 : Int))]) (fun g => [ow s8 [.slice g.2.1 g.2.2.1 g.2.2.2] (l.take g.1)]) (fun g => l.length - g.1) (0, (some ⟨b6, 0, none⟩), 0, 0) ⟨Nat.zero_le _, by simp⟩ ⟨rfl, rfl, rfl, rfl, trivial⟩ (.refl _) (fun g pg => ?_))))))))))))))))))
 obtain ⟨g, aA0_0, mA0_0, cA0_0⟩ := g
 try dsimp only at pg
 try dsimp only
 obtain ⟨pk, pa⟩ := pg
 have jp := List.length_take_le g l
 refine i9 m0 fun eaA0_0 laA0_0 => ?_
 subst eaA0_0
 refine Ew Z1 (Ey rfl ((Y.lss rfl rfl).yd) (o6 (fun q10 => ?_) (fun q10 => ?_)))
 ·obtain ⟨eb11, eo11, ec11, ea11, er11, el11, eh11⟩ := hl.elem g om
  obtain ⟨xa11_0, xc11_0, rfl, ei11_0, xh11_0⟩ := P2 er11
  have := xh11_0.slen.2
  refine Eu (Eq_ (o2 rfl (j5 (Et (Eq_ (E.block (Ew Z4 (Ey rfl ((r7 us_Facts ty_Fact rfl ea11 rfl g rfl om).yd) (Ey rfl (o9 (cs := [_, _]) ty_Fact rfl (eh11 _) rfl) (Est rfl (N.alloc ty_Fact dc) (fun b5 _ => (Est rfl (Ns [_, _] ty_Fact rfl) (fun _ _ => (Eu (Ez Z6 (Em rfl (Ey rfl (o9 (cs := [_, _]) ty_Fact rfl (Has.pt m0) rfl) (Est rfl (N.call (a3q (hyl _ (List.getElem_mem om))) rfl rfl rfl dc rfl (fun w Lp hA => ⟨ei11_0, hA.ro xh11_0⟩)) (fun k15 _ => ?_)))))))))))))))))))
  obtain ⟨a15, m15, c15⟩ := k15
  refine i9 m0 fun e15 l15 => ?_
  subst e15
  refine Est rfl (Nb [_] [_, _] us_Facts ty_Fact rfl rfl) (fun b16 _ => (i7 (i7 (w7 (Est rfl (D6 (E := H7) (ex := l[g]) us_Facts ty_Fact rfl rfl rfl (N0 (x := l[g]) ei11_0 Own.ow) rfl bn bn dc) (fun p17 _ => (Ei rfl (En (t7 (Et (Ez Z2 (Ey rfl ((Y.add rfl rfl om om).yd) (Em rfl (Eu (i7 (Ent.drop (j6 (congrArg (ow s8 [_]) (show (l.take g) ++ [l[g]] = l.take (g + 1) from by grind [d1, d2, t1, t2])) ?_)))))))))))))))))
  exact Ea (g + 1, p17.1, ((l.take g).length + 1), p17.2) ⟨oz, trivial⟩
 ·refine Eu (Eq_ (o3 rfl (E.exit (o8 (o8 (x9 (Et (Ew Z2 (Em rfl (Ei rfl (Eu (E.ret (j6 (congrArg (ow s8 [_]) (show _ = l by grind [d1, d2, t1, t2])) ?_)))))))))))))
  exact Fg rfl rfl (_, _, _) rfl rfl
theorem b0k {a4t : Int} {X7 : Option Addr} {X8 X9 : Nat} {a2w : List Int} {b_f : Nat} : Tr Tryz.prog 253 [.agg #[.int .i64 a4t, .slice X7 X8 X9], .pointer (some ⟨b_f, 0, none⟩)] (fun w L => (I64 a4t ∧ Ro w L eIs [.slice X7 X8 X9] a2w) ∧ RoPt w L b_f [.int .i64 o5, .slice y9 D3 y8] ∧ I64 o5 ∧ Ro w L eIs [.slice y9 D3 y8] f9) [] (κ := Unit) (fun k => True) (fun k => .bool (decide (0 < R4 (a4t, a2w) (o5, f9)))) (fun k => []) := by
 refine n9 Tryz.func253 rfl (n := 8) rfl (by decide +kernel) bl (fr := [(0, .agg #[.int .i64 a4t, .slice X7 X8 X9]), (1, .pointer (some ⟨b_f, 0, none⟩))]) rfl fun w L hR => ?_
 obtain ⟨⟨b0M, a1T⟩, hb_f, J6, B4⟩ := hR
 obtain ⟨rfl, b1r⟩ := a1T.slen
 obtain ⟨rfl, Y9⟩ := B4.slen
 refine Ew Z2 (Est rfl (N.box (cs := [_, _]) rfl dc rfl) (fun b2 _ => (Ei rfl (Ev Z5 (Ey rfl (o9 (cs := [_, _]) ty_Fact rfl (Has.pt m0) rfl) (Ey rfl (o9 (cs := [_, _]) ty_Fact rfl (hb_f.has) rfl) (Est rfl (n0 a2j rfl rfl rfl dc (fun w Lp hA => ⟨b0M, hA.ro a1T, J6, hA.ro B4⟩)) (fun _ _ => (Ey rfl ((Y.gtr rfl rfl).yd) (Ei rfl ?_))))))))))
 exact Eu (E.ret (Fg rfl rfl () rfl rfl))
theorem b2F (hz : l.length ≤ 1000000000) (hyf : f9.length ≤ 1048576) : Tr Tryz.prog 179 [.slice a_l m_l c_l, .agg #[.int .i64 o5, .slice y9 D3 y8]] (fun w L => I64 o5 ∧ Ro w L eIs [.slice y9 D3 y8] f9) [ow s8 [.slice a_l m_l c_l] l] (κ := Option Addr × Nat × Nat) (fun k => True) (fun k => .slice k.1 k.2.1 k.2.2) (fun k => [ow s8 [.slice k.1 k.2.1 k.2.2] (F0 l (o5, f9))]) := by
 refine n9 Tryz.func179 rfl (n := 23) rfl (by decide +kernel) bl (fr := [(0, .slice a_l m_l c_l), (1, .agg #[.int .i64 o5, .slice y9 D3 y8])]) rfl fun w L hR => ?_
 obtain ⟨J6, B4⟩ := hR
 obtain ⟨rfl, Y9⟩ := B4.slen
 refine i9 m0 fun el ll => ?_
 subst el
 refine Ew Z2 (Est rfl (N.box (cs := [_, _]) rfl dc rfl) (fun b3 _ => (Ei rfl (Eu (Eq_ (Ew Z3 (Em rfl (Ey rfl (o9 (cs := [_, _]) ty_Fact rfl (Has.pt m0) rfl) (Est rfl (n0 a3L rfl rfl rfl dc (fun w Lp hA => ⟨hA.ow (mS m0), J6, hA.ro B4⟩)) (fun _ _ => (Ent.b (fun q8 => ?_) (fun q8 => ?_))))))))))))
 ·refine Eu (o2 rfl (Ew Z2 (Em rfl (Ei rfl (Eu (E.ret (l4 (i7 (j6 (congrArg (ow s8 [_]) (show _ = F0 l (o5, f9) by grind [a4z, a6q])) ?_)))))))))
  exact Fg rfl rfl (_, _, _) rfl rfl
 ·refine Eu (o3 rfl (j5 (Et (Ew Z4 (Em rfl (Ey rfl ((Y.fn (vs := [_]) rfl).yd) (Est rfl (n0 (a2U (f := (fun z => decide (0 < R4 z (o5, f9)))) (D_f := (fun _ => True)) (by intros; exact trivial)) rfl rfl rfl dc (fun w Lp hA => ⟨hA.ow (mS m0), a6G (D := (fun _ => True)) (fun hd => b0k) (fun w' hk => ⟨(hA.pt m0).keep hk, J6, (hA.ro B4).keep hk⟩)⟩)) (fun _ _ => (Ei rfl (Eu (Eq_ (Ew Z2 (Em rfl (Ey rfl ((Y.lss rfl rfl).yd) (o6 (fun q14 => ?_) (fun q14 => ?_))))))))))))))))
  ·refine Eu (o2 rfl (Ez Z3 (Em rfl (Ey rfl ((Y.len us_Facts rfl).yd) (Ei rfl (Ev Z7 (Em rfl (Em rfl (Ey rfl (o9 (cs := [_, _]) ty_Fact rfl (Has.pt m0) rfl) (Est rfl (N.call (a3q fc) rfl rfl rfl dc rfl (fun w Lp hA => ⟨J6, hA.ro B4⟩)) (fun k20 _ => ?_)))))))))))
   obtain ⟨a20, m20, c20⟩ := k20
   refine i9 m0 fun e20 l20 => ?_
   subst e20
   refine Est rfl (Nb [_] [_, _] us_Facts ty_Fact rfl rfl) (fun b21 _ => (i7 (i7 (s3 (A := _ :: _) (a0H (E := H7) (e := tFact) (N0 (x := (o5, f9)) J6 Own.ow)) rfl ?_))))
   have ji := a0O (p := fun z => decide (0 < R4 z (o5, f9))) (s := l)
   refine r5 (Est rfl (N.call (pre := [_, _]) (a6M om (by simp) (by simp; omega)) rfl rfl rfl dc rfl tv) (fun k22 _ => ?_))
   obtain ⟨a22, m22, c22⟩ := k22
   refine i9 m0 fun e22 l22 => ?_
   subst e22
   refine Ei rfl (Eu (E.ret (j6 (congrArg (ow s8 [_]) (show _ = F0 l (o5, f9) by grind [a4z, a6q])) ?_)))
   exact Fg rfl rfl (_, _, _) rfl rfl
  ·refine Eu (o3 rfl (j5 (Et (Ew Z7 (Em rfl (Em rfl (Ey rfl (o9 (cs := [_, _]) ty_Fact rfl (Has.pt m0) rfl) (Est rfl (N.call (a3q fc) rfl rfl rfl dc rfl (fun w Lp hA => ⟨J6, hA.ro B4⟩)) (fun k20 _ => ?_)))))))))
   obtain ⟨a20, m20, c20⟩ := k20
   refine i9 m0 fun e20 l20 => ?_
   subst e20
   refine Est rfl (Nb [_] [_, _] us_Facts ty_Fact rfl rfl) (fun b21 _ => (i7 (i7 (s3 (A := _ :: _) (a0H (E := H7) (e := tFact) (N0 (x := (o5, f9)) J6 Own.ow)) rfl ?_))))
   have ji := a0O (p := fun z => decide (0 < R4 z (o5, f9))) (s := l)
   refine r5 (Est rfl (N.call (pre := [_, _]) (a6M om (by simp) (by simp; omega)) rfl rfl rfl dc rfl tv) (fun k22 _ => ?_))
   obtain ⟨a22, m22, c22⟩ := k22
   refine i9 m0 fun e22 l22 => ?_
   subst e22
   refine Ei rfl (Eu (E.ret (j6 (congrArg (ow s8 [_]) (show _ = F0 l (o5, f9) by grind [a4z, a6q])) ?_)))
   exact Fg rfl rfl (_, _, _) rfl rfl
theorem a5N (hz : l.length ≤ 1000000000) (hyl : ∀ x ∈ l, x.2.length ≤ 1048576) (hyf : f9.length ≤ 1048576) : Tr Tryz.prog 87 [.slice a_l m_l c_l, .agg #[.int .i64 o5, .slice y9 D3 y8]] (fun w L => Ro w L s8 [.slice a_l m_l c_l] l ∧ I64 o5 ∧ Ro w L eIs [.slice y9 D3 y8] f9) [] (κ := Option Addr × Nat × Nat) (fun k => True) (fun k => .slice k.1 k.2.1 k.2.2) (fun k => [ow s8 [.slice k.1 k.2.1 k.2.2] (F0 l (o5, f9))]) := by
 refine n9 Tryz.func87 rfl (n := 62) rfl (by decide +kernel) bl (fr := [(0, .slice a_l m_l c_l), (1, .agg #[.int .i64 o5, .slice y9 D3 y8])]) rfl fun w L hR => ?_
 obtain ⟨hl, J6, B4⟩ := hR
 obtain ⟨rfl, ll⟩ := hl.slen
 obtain ⟨rfl, Y9⟩ := B4.slen
 refine Ew Z2 (Est rfl (N.box (cs := [_, _]) rfl dc rfl) (fun b3 _ => (Ei rfl (Ev Z2 (Est rfl (Nb [] [] us_Facts ty_Fact rfl rfl) (fun b8 _ => (Ent.drop (Ei rfl (Ev Z4 (Em rfl (Ey rfl (o9 (cs := [_, _]) ty_Fact rfl (Has.pt m0) rfl) (Est rfl (n0 a3O rfl rfl rfl dc (fun w Lp hA => ⟨hA.ro hl, J6, hA.ro B4⟩)) (fun _ _ => (Ei rfl (Ent.b (fun q6 => ?_) (fun q6 => ?_))))))))))))))))
 ·refine Eu (Eq_ (Ew Z1 (Ei rfl (Eu (E.block (s3 (A := []) (Own.nil (E := H7) (e := tFact) (a := (some ⟨b8, 0, none⟩))) rfl (j6 (congrArg (ow s8 [_]) (show [] = O5 (K6 l (o5, f9)) (ltF (o5, f9)) (o5, f9) (l.take 0) from by first | rfl | (simp; done) | grind [F0, F9, F8, H1, H3, W3, d1, d2, t1, t2])) (E.loop (κ := Nat × Option Addr × Nat × Nat) (fun g => g.1 ≤ l.length ∧ True) (fun g => [(0, .slice a_l l.length c_l), (3, .pointer (some ⟨b3, 0, none⟩)), (5, .slice g.2.1 g.2.2.1 g.2.2.2), (6, .bool (K6 l (o5, f9) || (l.take g.1).any (ltF (o5, f9)))), (7, .int .i64 (↑g.1 : Int))]) (fun g => [ow s8 [.slice g.2.1 g.2.2.1 g.2.2.2] (O5 (K6 l (o5, f9)) (ltF (o5, f9)) (o5, f9) (l.take g.1)), pt b3 115 [.int .i64 o5, .slice y9 f9.length y8]]) (fun g => l.length - g.1) (0, (some ⟨b8, 0, none⟩), 0, 0) ⟨Nat.zero_le _, by simp⟩ ⟨rfl, rfl, rfl, frB (by first | rfl | (simp; done) | grind [F0, F9, F8, H1, H3, W3, d1, d2, t1, t2]), rfl, trivial⟩ (.refl _) (fun g pg => ?_)))))))))
  obtain ⟨g, aA0_0, mA0_0, cA0_0⟩ := g
  try dsimp only at pg
  try dsimp only
  obtain ⟨pk, pa⟩ := pg
  have jp := List.length_take_le g l
  have ji := a8V (h := K6 l (o5, f9)) (p := (ltF (o5, f9))) (f := (o5, f9)) (l := l.take g)
  refine i9 m0 fun eaA0_0 laA0_0 => ?_
  subst eaA0_0
  refine Eq_ (Ew Z4 (Em rfl (Em rfl (Ey rfl ((Y.len us_Facts rfl).yd) (Ey rfl ((Y.lss rfl rfl).yd) (o6 (fun q15 => ?_) (fun q15 => ?_)))))))
  ·refine Eu (o2 rfl (j5 (Et (Eq_ (E.block (Eq_ (Eq_ (D.region (fun j => true) mixed (Dyp 0 rfl (l3 rfl) (Ent.b (fun q18 => ?_) (fun q18 => ?_)))))))))))
   ·refine Dyp 1 rfl (Y.not (b := true) rfl) (Dyp 2 rfl (l3 rfl) (Dsk 3 rfl (Dsk 4 rfl (Dsk 5 rfl (Dsk 6 rfl (Dsk 7 rfl (Dsk 8 rfl (Dsk 9 rfl (Dyp 10 rfl (u0 rfl rfl) (r8 kr (Et (o3 rfl (j5 (Et (D.region (fun j => !(Nat.beq j 13)) mixed (Dyp 0 rfl (l3 rfl) (Dyp 1 rfl (l3 rfl) (Dyp 2 rfl (l3 rfl) ?_))))))))))))))))))
    obtain ⟨eb40, eo40, ec40, ea40, er40, el40, eh40⟩ := hl.elem g om
    obtain ⟨xa40_0, xc40_0, rfl, ei40_0, xh40_0⟩ := P2 er40
    have := xh40_0.slen.2
    refine Dyp 3 rfl (r7 us_Facts ty_Fact rfl ea40 rfl g rfl om) (Dyp 4 rfl (j7 fo_Fact_0 i8 dc rfl) (Dy 5 rfl (g9 i8 rfl ((eh40 _).sub (cs' := [_]) 0 rfl) rfl) (Dyp 6 rfl (l3 rfl) (Dyp 7 rfl (l3 rfl) (Dyp 8 rfl (r7 us_Facts ty_Fact rfl ea40 rfl g rfl om) (Dyp 9 rfl (j7 fo_Fact_1 ty_Is dc rfl) (Dy 10 rfl (g9 ty_Is rfl ((eh40 _).sub (cs' := [_]) 1 rfl) rfl) (t8 11 rfl rfl kr (fun _ => rfl) (N.call (T4 (hyl _ (List.getElem_mem om))) rfl rfl rfl dc rfl (fun w Lp hA => ⟨ei40_0, hA.ro xh40_0⟩)) (fun k48 _ => ?_)))))))))
    obtain ⟨a48, m48, c48⟩ := k48
    refine i9 m0 fun e48 l48 => ?_
    subst e48
    refine t8 12 rfl rfl kr (fun _ => rfl) (Nb [_] [_, _] us_Facts ty_Fact rfl rfl) (fun b49 _ => (i7 (i7 (r5 (t8 13 rfl rfl kr (fun h => by cases h) (D6 (E := H7) (ex := l[g]) us_Facts ty_Fact rfl rfl rfl (N0 (x := l[g]) ei40_0 Own.ow) rfl bn bn dc) (fun p50 _ => (Dyp 14 rfl (F7 rfl) (r8 kr (t7 (Et (Ez Z3 (Em rfl (Ey rfl ((Y.add rfl rfl om om).yd) (Ei rfl (Eu (j6 (congrArg (ow s8 [_]) (show (O5 (K6 l (o5, f9)) (ltF (o5, f9)) (o5, f9) (l.take g)) ++ [l[g]] = O5 (K6 l (o5, f9)) (ltF (o5, f9)) (o5, f9) (l.take (g + 1)) from by grind [F0, F9, F8, H1, H3, W3, d1, d2, t1, t2])) (i7 (i7 ?_))))))))))))))))))
    exact v8 br (g + 1, p50.1, ((O5 (K6 l (o5, f9)) (ltF (o5, f9)) (o5, f9) (l.take g)).length + 1), p50.2) ⟨rfl, rfl, rfl, frB (by grind [F0, F9, F8, H1, H3, W3, d1, d2, t1, t2]), rfl, trivial⟩ (.refl _) ⟨oz, trivial⟩ oz
   ·refine Dyp 1 rfl (Y.not (b := false) rfl) (Dyp 2 rfl (l3 rfl) (Dy 3 rfl (o9 (cs := [_, _]) ty_Fact rfl (Has.pt (mS m0)) rfl) (Dyp 4 rfl (l3 rfl) (Dyp 5 rfl (l3 rfl) ?_))))
    obtain ⟨eb24, eo24, ec24, ea24, er24, el24, eh24⟩ := hl.elem g om
    obtain ⟨xa24_0, xc24_0, rfl, ei24_0, xh24_0⟩ := P2 er24
    have := xh24_0.slen.2
    refine Dyp 6 rfl (r7 us_Facts ty_Fact rfl ea24 rfl g rfl om) (Dy 7 rfl (o9 (cs := [_, _]) ty_Fact rfl (eh24 _) rfl) (t8 8 rfl rfl kr (fun _ => rfl) (n0 a1k rfl rfl rfl dc (fun w Lp hA => ⟨J6, hA.ro B4, ei24_0, hA.ro xh24_0⟩)) (fun _ _ => (Dyp 9 rfl (Y.lss rfl rfl) (o6 (fun q27 => ?_) (fun q27 => ?_))))))
    ·refine Dyp 10 rfl (u7 rfl rfl) (r8 kr (Et (o2 rfl (Ew Z9 (Em rfl (Ey rfl ((j7 fo_Fact_0 i8 dc rfl).yd) (Ey rfl (g9 i8 rfl (Hz (mS m0) 0 rfl) rfl) (Ey rfl ((j7 fo_Fact_1 ty_Is dc rfl).yd) (Ey rfl (g9 ty_Is rfl (Hz (mS m0) 1 rfl) rfl) (Est rfl (N.call (T4 fc) rfl rfl rfl dc rfl (fun w Lp hA => ⟨J6, hA.ro B4⟩)) (fun k34 _ => ?_)))))))))))
     obtain ⟨a34, m34, c34⟩ := k34
     refine i9 m0 fun e34 l34 => ?_
     subst e34
     refine Est rfl (Nb [_] [_, _] us_Facts ty_Fact rfl rfl) (fun b35 _ => (i7 (i7 (r5 (Est rfl (D6 (E := H7) (ex := (o5, f9)) us_Facts ty_Fact rfl rfl rfl (N0 (x := (o5, f9)) J6 Own.ow) rfl bn bn dc) (fun p36 _ => (Ei rfl (Eu (Ez Z1 (Ei rfl (Eu (D.region (fun j => !(Nat.beq j 13)) mixed (Dyp 0 rfl (l3 rfl) (Dyp 1 rfl (l3 rfl) (Dyp 2 rfl (l3 rfl) (Dyp 3 rfl (r7 us_Facts ty_Fact rfl ea24 rfl g rfl om) (Dyp 4 rfl (j7 fo_Fact_0 i8 dc rfl) (Dy 5 rfl (g9 i8 rfl ((eh24 _).sub (cs' := [_]) 0 rfl) rfl) (Dyp 6 rfl (l3 rfl) (Dyp 7 rfl (l3 rfl) (Dyp 8 rfl (r7 us_Facts ty_Fact rfl ea24 rfl g rfl om) (Dyp 9 rfl (j7 fo_Fact_1 ty_Is dc rfl) (Dy 10 rfl (g9 ty_Is rfl ((eh24 _).sub (cs' := [_]) 1 rfl) rfl) (t8 11 rfl rfl kr (fun _ => rfl) (N.call (T4 (hyl _ (List.getElem_mem om))) rfl rfl rfl dc rfl (fun w Lp hA => ⟨ei24_0, hA.ro xh24_0⟩)) (fun k48 _ => ?_)))))))))))))))))))))))))
     obtain ⟨a48, m48, c48⟩ := k48
     refine i9 m0 fun e48 l48 => ?_
     subst e48
     refine t8 12 rfl rfl kr (fun _ => rfl) (Nb [_] [_, _] us_Facts ty_Fact rfl rfl) (fun b49 _ => (i7 (i7 (r5 (t8 13 rfl rfl kr (fun h => by cases h) (D6 (E := H7) (ex := l[g]) us_Facts ty_Fact rfl rfl rfl (N0 (x := l[g]) ei24_0 Own.ow) rfl bn bn dc) (fun p50 _ => (Dyp 14 rfl (F7 rfl) (r8 kr (t7 (Et (Ez Z3 (Em rfl (Ey rfl ((Y.add rfl rfl om om).yd) (Ei rfl (Eu (j6 (congrArg (ow s8 [_]) (show ((O5 (K6 l (o5, f9)) (ltF (o5, f9)) (o5, f9) (l.take g)) ++ [(o5, f9)]) ++ [l[g]] = O5 (K6 l (o5, f9)) (ltF (o5, f9)) (o5, f9) (l.take (g + 1)) from by grind [F0, F9, F8, H1, H3, W3, d1, d2, t1, t2])) (i7 (i7 ?_))))))))))))))))))
     exact v8 br (g + 1, p50.1, (((O5 (K6 l (o5, f9)) (ltF (o5, f9)) (o5, f9) (l.take g)).length + 1) + 1), p50.2) ⟨rfl, rfl, rfl, frB (by grind [F0, F9, F8, H1, H3, W3, d1, d2, t1, t2]), rfl, trivial⟩ (.refl _) ⟨oz, trivial⟩ oz
    ·refine Dyp 10 rfl (u7 rfl rfl) (r8 kr (Et (o3 rfl (j5 (Et (D.region (fun j => !(Nat.beq j 13)) mixed (Dyp 0 rfl (l3 rfl) (Dyp 1 rfl (l3 rfl) (Dyp 2 rfl (l3 rfl) (Dyp 3 rfl (r7 us_Facts ty_Fact rfl ea24 rfl g rfl om) (Dyp 4 rfl (j7 fo_Fact_0 i8 dc rfl) (Dy 5 rfl (g9 i8 rfl ((eh24 _).sub (cs' := [_]) 0 rfl) rfl) (Dyp 6 rfl (l3 rfl) (Dyp 7 rfl (l3 rfl) (Dyp 8 rfl (r7 us_Facts ty_Fact rfl ea24 rfl g rfl om) (Dyp 9 rfl (j7 fo_Fact_1 ty_Is dc rfl) (Dy 10 rfl (g9 ty_Is rfl ((eh24 _).sub (cs' := [_]) 1 rfl) rfl) (t8 11 rfl rfl kr (fun _ => rfl) (N.call (T4 (hyl _ (List.getElem_mem om))) rfl rfl rfl dc rfl (fun w Lp hA => ⟨ei24_0, hA.ro xh24_0⟩)) (fun k48 _ => ?_)))))))))))))))))))
     obtain ⟨a48, m48, c48⟩ := k48
     refine i9 m0 fun e48 l48 => ?_
     subst e48
     refine t8 12 rfl rfl kr (fun _ => rfl) (Nb [_] [_, _] us_Facts ty_Fact rfl rfl) (fun b49 _ => (i7 (i7 (r5 (t8 13 rfl rfl kr (fun h => by cases h) (D6 (E := H7) (ex := l[g]) us_Facts ty_Fact rfl rfl rfl (N0 (x := l[g]) ei24_0 Own.ow) rfl bn bn dc) (fun p50 _ => (Dyp 14 rfl (F7 rfl) (r8 kr (t7 (Et (Ez Z3 (Em rfl (Ey rfl ((Y.add rfl rfl om om).yd) (Ei rfl (Eu (j6 (congrArg (ow s8 [_]) (show (O5 (K6 l (o5, f9)) (ltF (o5, f9)) (o5, f9) (l.take g)) ++ [l[g]] = O5 (K6 l (o5, f9)) (ltF (o5, f9)) (o5, f9) (l.take (g + 1)) from by grind [F0, F9, F8, H1, H3, W3, d1, d2, t1, t2])) (i7 (i7 ?_))))))))))))))))))
     exact v8 br (g + 1, p50.1, ((O5 (K6 l (o5, f9)) (ltF (o5, f9)) (o5, f9) (l.take g)).length + 1), p50.2) ⟨rfl, rfl, rfl, frB (by grind [F0, F9, F8, H1, H3, W3, d1, d2, t1, t2]), rfl, trivial⟩ (.refl _) ⟨oz, trivial⟩ oz
  ·refine Eu (o3 rfl (E.exit (o8 (o8 (x9 (Et (Eq_ (Ew Z2 (Em rfl (Ent.b (fun q51 => ?_) (fun q51 => ?_)))))))))))
   ·refine Ey rfl ((Y.not (b := true) rfl).yd) (Eu (o3 rfl (j5 (Et (Ew Z2 (Em rfl (Ei rfl (Eu (E.ret (j6 (congrArg (ow s8 [_]) (show _ = F0 l (o5, f9) by grind [F0, F9, F8, H1, H3, W3, d1, d2, t1, t2])) ?_))))))))))
    exact Fg rfl rfl (_, _, _) rfl rfl
   ·refine Ey rfl ((Y.not (b := false) rfl).yd) (Eu (o2 rfl (Ez Z9 (Em rfl (Ey rfl ((j7 fo_Fact_0 i8 dc rfl).yd) (Ey rfl (g9 i8 rfl (Hz (mS m0) 0 rfl) rfl) (Ey rfl ((j7 fo_Fact_1 ty_Is dc rfl).yd) (Ey rfl (g9 ty_Is rfl (Hz (mS m0) 1 rfl) rfl) (Est rfl (N.call (T4 fc) rfl rfl rfl dc rfl (fun w Lp hA => ⟨J6, hA.ro B4⟩)) (fun k58 _ => ?_))))))))))
    obtain ⟨a58, m58, c58⟩ := k58
    refine i9 m0 fun e58 l58 => ?_
    subst e58
    refine Est rfl (Nb [_] [_, _] us_Facts ty_Fact rfl rfl) (fun b59 _ => (i7 (i7 (r5 (Est rfl (D6 (E := H7) (ex := (o5, f9)) us_Facts ty_Fact rfl rfl rfl (N0 (x := (o5, f9)) J6 Own.ow) rfl bn bn dc) (fun p60 _ => (Ei rfl (Ev Z2 (Em rfl (Ei rfl (Eu (E.ret (j6 (congrArg (ow s8 [_]) (show _ = F0 l (o5, f9) by grind [F0, F9, F8, H1, H3, W3, d1, d2, t1, t2])) ?_)))))))))))))
    exact Fg rfl rfl (_, _, _) rfl rfl
 ·refine Eu (Eq_ (Ew Z1 (Ei rfl (Eu (E.block (s3 (A := []) (Own.nil (E := H7) (e := tFact) (a := (some ⟨b8, 0, none⟩))) rfl (j6 (congrArg (ow s8 [_]) (show [] = O5 (K6 l (o5, f9)) (ltF (o5, f9)) (o5, f9) (l.take 0) from by first | rfl | (simp; done) | grind [F0, F9, F8, H1, H3, W3, d1, d2, t1, t2])) (E.loop (κ := Nat × Option Addr × Nat × Nat) (fun g => g.1 ≤ l.length ∧ True) (fun g => [(0, .slice a_l l.length c_l), (3, .pointer (some ⟨b3, 0, none⟩)), (5, .slice g.2.1 g.2.2.1 g.2.2.2), (6, .bool (K6 l (o5, f9) || (l.take g.1).any (ltF (o5, f9)))), (7, .int .i64 (↑g.1 : Int))]) (fun g => [ow s8 [.slice g.2.1 g.2.2.1 g.2.2.2] (O5 (K6 l (o5, f9)) (ltF (o5, f9)) (o5, f9) (l.take g.1)), pt b3 115 [.int .i64 o5, .slice y9 f9.length y8]]) (fun g => l.length - g.1) (0, (some ⟨b8, 0, none⟩), 0, 0) ⟨Nat.zero_le _, by simp⟩ ⟨rfl, rfl, rfl, frB (by first | rfl | (simp; done) | grind [F0, F9, F8, H1, H3, W3, d1, d2, t1, t2]), rfl, trivial⟩ (.refl _) (fun g pg => ?_)))))))))
  obtain ⟨g, aA0_0, mA0_0, cA0_0⟩ := g
  try dsimp only at pg
  try dsimp only
  obtain ⟨pk, pa⟩ := pg
  have jp := List.length_take_le g l
  have ji := a8V (h := K6 l (o5, f9)) (p := (ltF (o5, f9))) (f := (o5, f9)) (l := l.take g)
  refine i9 m0 fun eaA0_0 laA0_0 => ?_
  subst eaA0_0
  refine Eq_ (Ew Z4 (Em rfl (Em rfl (Ey rfl ((Y.len us_Facts rfl).yd) (Ey rfl ((Y.lss rfl rfl).yd) (o6 (fun q15 => ?_) (fun q15 => ?_)))))))
  ·refine Eu (o2 rfl (j5 (Et (Eq_ (E.block (Eq_ (Eq_ (D.region (fun j => true) mixed (Dyp 0 rfl (l3 rfl) (Ent.b (fun q18 => ?_) (fun q18 => ?_)))))))))))
   ·refine Dyp 1 rfl (Y.not (b := true) rfl) (Dyp 2 rfl (l3 rfl) (Dsk 3 rfl (Dsk 4 rfl (Dsk 5 rfl (Dsk 6 rfl (Dsk 7 rfl (Dsk 8 rfl (Dsk 9 rfl (Dyp 10 rfl (u0 rfl rfl) (r8 kr (Et (o3 rfl (j5 (Et (D.region (fun j => !(Nat.beq j 13)) mixed (Dyp 0 rfl (l3 rfl) (Dyp 1 rfl (l3 rfl) (Dyp 2 rfl (l3 rfl) ?_))))))))))))))))))
    obtain ⟨eb40, eo40, ec40, ea40, er40, el40, eh40⟩ := hl.elem g om
    obtain ⟨xa40_0, xc40_0, rfl, ei40_0, xh40_0⟩ := P2 er40
    have := xh40_0.slen.2
    refine Dyp 3 rfl (r7 us_Facts ty_Fact rfl ea40 rfl g rfl om) (Dyp 4 rfl (j7 fo_Fact_0 i8 dc rfl) (Dy 5 rfl (g9 i8 rfl ((eh40 _).sub (cs' := [_]) 0 rfl) rfl) (Dyp 6 rfl (l3 rfl) (Dyp 7 rfl (l3 rfl) (Dyp 8 rfl (r7 us_Facts ty_Fact rfl ea40 rfl g rfl om) (Dyp 9 rfl (j7 fo_Fact_1 ty_Is dc rfl) (Dy 10 rfl (g9 ty_Is rfl ((eh40 _).sub (cs' := [_]) 1 rfl) rfl) (t8 11 rfl rfl kr (fun _ => rfl) (N.call (T4 (hyl _ (List.getElem_mem om))) rfl rfl rfl dc rfl (fun w Lp hA => ⟨ei40_0, hA.ro xh40_0⟩)) (fun k48 _ => ?_)))))))))
    obtain ⟨a48, m48, c48⟩ := k48
    refine i9 m0 fun e48 l48 => ?_
    subst e48
    refine t8 12 rfl rfl kr (fun _ => rfl) (Nb [_] [_, _] us_Facts ty_Fact rfl rfl) (fun b49 _ => (i7 (i7 (r5 (t8 13 rfl rfl kr (fun h => by cases h) (D6 (E := H7) (ex := l[g]) us_Facts ty_Fact rfl rfl rfl (N0 (x := l[g]) ei40_0 Own.ow) rfl bn bn dc) (fun p50 _ => (Dyp 14 rfl (F7 rfl) (r8 kr (t7 (Et (Ez Z3 (Em rfl (Ey rfl ((Y.add rfl rfl om om).yd) (Ei rfl (Eu (j6 (congrArg (ow s8 [_]) (show (O5 (K6 l (o5, f9)) (ltF (o5, f9)) (o5, f9) (l.take g)) ++ [l[g]] = O5 (K6 l (o5, f9)) (ltF (o5, f9)) (o5, f9) (l.take (g + 1)) from by grind [F0, F9, F8, H1, H3, W3, d1, d2, t1, t2])) (i7 (i7 ?_))))))))))))))))))
    exact v8 br (g + 1, p50.1, ((O5 (K6 l (o5, f9)) (ltF (o5, f9)) (o5, f9) (l.take g)).length + 1), p50.2) ⟨rfl, rfl, rfl, frB (by grind [F0, F9, F8, H1, H3, W3, d1, d2, t1, t2]), rfl, trivial⟩ (.refl _) ⟨oz, trivial⟩ oz
   ·refine Dyp 1 rfl (Y.not (b := false) rfl) (Dyp 2 rfl (l3 rfl) (Dy 3 rfl (o9 (cs := [_, _]) ty_Fact rfl (Has.pt (mS m0)) rfl) (Dyp 4 rfl (l3 rfl) (Dyp 5 rfl (l3 rfl) ?_))))
    obtain ⟨eb24, eo24, ec24, ea24, er24, el24, eh24⟩ := hl.elem g om
    obtain ⟨xa24_0, xc24_0, rfl, ei24_0, xh24_0⟩ := P2 er24
    have := xh24_0.slen.2
    refine Dyp 6 rfl (r7 us_Facts ty_Fact rfl ea24 rfl g rfl om) (Dy 7 rfl (o9 (cs := [_, _]) ty_Fact rfl (eh24 _) rfl) (t8 8 rfl rfl kr (fun _ => rfl) (n0 a1k rfl rfl rfl dc (fun w Lp hA => ⟨J6, hA.ro B4, ei24_0, hA.ro xh24_0⟩)) (fun _ _ => (Dyp 9 rfl (Y.lss rfl rfl) (o6 (fun q27 => ?_) (fun q27 => ?_))))))
    ·refine Dyp 10 rfl (u7 rfl rfl) (r8 kr (Et (o2 rfl (Ew Z9 (Em rfl (Ey rfl ((j7 fo_Fact_0 i8 dc rfl).yd) (Ey rfl (g9 i8 rfl (Hz (mS m0) 0 rfl) rfl) (Ey rfl ((j7 fo_Fact_1 ty_Is dc rfl).yd) (Ey rfl (g9 ty_Is rfl (Hz (mS m0) 1 rfl) rfl) (Est rfl (N.call (T4 fc) rfl rfl rfl dc rfl (fun w Lp hA => ⟨J6, hA.ro B4⟩)) (fun k34 _ => ?_)))))))))))
     obtain ⟨a34, m34, c34⟩ := k34
     refine i9 m0 fun e34 l34 => ?_
     subst e34
     refine Est rfl (Nb [_] [_, _] us_Facts ty_Fact rfl rfl) (fun b35 _ => (i7 (i7 (r5 (Est rfl (D6 (E := H7) (ex := (o5, f9)) us_Facts ty_Fact rfl rfl rfl (N0 (x := (o5, f9)) J6 Own.ow) rfl bn bn dc) (fun p36 _ => (Ei rfl (Eu (Ez Z1 (Ei rfl (Eu (D.region (fun j => !(Nat.beq j 13)) mixed (Dyp 0 rfl (l3 rfl) (Dyp 1 rfl (l3 rfl) (Dyp 2 rfl (l3 rfl) (Dyp 3 rfl (r7 us_Facts ty_Fact rfl ea24 rfl g rfl om) (Dyp 4 rfl (j7 fo_Fact_0 i8 dc rfl) (Dy 5 rfl (g9 i8 rfl ((eh24 _).sub (cs' := [_]) 0 rfl) rfl) (Dyp 6 rfl (l3 rfl) (Dyp 7 rfl (l3 rfl) (Dyp 8 rfl (r7 us_Facts ty_Fact rfl ea24 rfl g rfl om) (Dyp 9 rfl (j7 fo_Fact_1 ty_Is dc rfl) (Dy 10 rfl (g9 ty_Is rfl ((eh24 _).sub (cs' := [_]) 1 rfl) rfl) (t8 11 rfl rfl kr (fun _ => rfl) (N.call (T4 (hyl _ (List.getElem_mem om))) rfl rfl rfl dc rfl (fun w Lp hA => ⟨ei24_0, hA.ro xh24_0⟩)) (fun k48 _ => ?_)))))))))))))))))))))))))
     obtain ⟨a48, m48, c48⟩ := k48
     refine i9 m0 fun e48 l48 => ?_
     subst e48
     refine t8 12 rfl rfl kr (fun _ => rfl) (Nb [_] [_, _] us_Facts ty_Fact rfl rfl) (fun b49 _ => (i7 (i7 (r5 (t8 13 rfl rfl kr (fun h => by cases h) (D6 (E := H7) (ex := l[g]) us_Facts ty_Fact rfl rfl rfl (N0 (x := l[g]) ei24_0 Own.ow) rfl bn bn dc) (fun p50 _ => (Dyp 14 rfl (F7 rfl) (r8 kr (t7 (Et (Ez Z3 (Em rfl (Ey rfl ((Y.add rfl rfl om om).yd) (Ei rfl (Eu (j6 (congrArg (ow s8 [_]) (show ((O5 (K6 l (o5, f9)) (ltF (o5, f9)) (o5, f9) (l.take g)) ++ [(o5, f9)]) ++ [l[g]] = O5 (K6 l (o5, f9)) (ltF (o5, f9)) (o5, f9) (l.take (g + 1)) from by grind [F0, F9, F8, H1, H3, W3, d1, d2, t1, t2])) (i7 (i7 ?_))))))))))))))))))
     exact v8 br (g + 1, p50.1, (((O5 (K6 l (o5, f9)) (ltF (o5, f9)) (o5, f9) (l.take g)).length + 1) + 1), p50.2) ⟨rfl, rfl, rfl, frB (by grind [F0, F9, F8, H1, H3, W3, d1, d2, t1, t2]), rfl, trivial⟩ (.refl _) ⟨oz, trivial⟩ oz
    ·refine Dyp 10 rfl (u7 rfl rfl) (r8 kr (Et (o3 rfl (j5 (Et (D.region (fun j => !(Nat.beq j 13)) mixed (Dyp 0 rfl (l3 rfl) (Dyp 1 rfl (l3 rfl) (Dyp 2 rfl (l3 rfl) (Dyp 3 rfl (r7 us_Facts ty_Fact rfl ea24 rfl g rfl om) (Dyp 4 rfl (j7 fo_Fact_0 i8 dc rfl) (Dy 5 rfl (g9 i8 rfl ((eh24 _).sub (cs' := [_]) 0 rfl) rfl) (Dyp 6 rfl (l3 rfl) (Dyp 7 rfl (l3 rfl) (Dyp 8 rfl (r7 us_Facts ty_Fact rfl ea24 rfl g rfl om) (Dyp 9 rfl (j7 fo_Fact_1 ty_Is dc rfl) (Dy 10 rfl (g9 ty_Is rfl ((eh24 _).sub (cs' := [_]) 1 rfl) rfl) (t8 11 rfl rfl kr (fun _ => rfl) (N.call (T4 (hyl _ (List.getElem_mem om))) rfl rfl rfl dc rfl (fun w Lp hA => ⟨ei24_0, hA.ro xh24_0⟩)) (fun k48 _ => ?_)))))))))))))))))))
     obtain ⟨a48, m48, c48⟩ := k48
     refine i9 m0 fun e48 l48 => ?_
     subst e48
     refine t8 12 rfl rfl kr (fun _ => rfl) (Nb [_] [_, _] us_Facts ty_Fact rfl rfl) (fun b49 _ => (i7 (i7 (r5 (t8 13 rfl rfl kr (fun h => by cases h) (D6 (E := H7) (ex := l[g]) us_Facts ty_Fact rfl rfl rfl (N0 (x := l[g]) ei24_0 Own.ow) rfl bn bn dc) (fun p50 _ => (Dyp 14 rfl (F7 rfl) (r8 kr (t7 (Et (Ez Z3 (Em rfl (Ey rfl ((Y.add rfl rfl om om).yd) (Ei rfl (Eu (j6 (congrArg (ow s8 [_]) (show (O5 (K6 l (o5, f9)) (ltF (o5, f9)) (o5, f9) (l.take g)) ++ [l[g]] = O5 (K6 l (o5, f9)) (ltF (o5, f9)) (o5, f9) (l.take (g + 1)) from by grind [F0, F9, F8, H1, H3, W3, d1, d2, t1, t2])) (i7 (i7 ?_))))))))))))))))))
     exact v8 br (g + 1, p50.1, ((O5 (K6 l (o5, f9)) (ltF (o5, f9)) (o5, f9) (l.take g)).length + 1), p50.2) ⟨rfl, rfl, rfl, frB (by grind [F0, F9, F8, H1, H3, W3, d1, d2, t1, t2]), rfl, trivial⟩ (.refl _) ⟨oz, trivial⟩ oz
  ·refine Eu (o3 rfl (E.exit (o8 (o8 (x9 (Et (Eq_ (Ew Z2 (Em rfl (Ent.b (fun q51 => ?_) (fun q51 => ?_)))))))))))
   ·refine Ey rfl ((Y.not (b := true) rfl).yd) (Eu (o3 rfl (j5 (Et (Ew Z2 (Em rfl (Ei rfl (Eu (E.ret (j6 (congrArg (ow s8 [_]) (show _ = F0 l (o5, f9) by grind [F0, F9, F8, H1, H3, W3, d1, d2, t1, t2])) ?_))))))))))
    exact Fg rfl rfl (_, _, _) rfl rfl
   ·refine Ey rfl ((Y.not (b := false) rfl).yd) (Eu (o2 rfl (Ez Z9 (Em rfl (Ey rfl ((j7 fo_Fact_0 i8 dc rfl).yd) (Ey rfl (g9 i8 rfl (Hz (mS m0) 0 rfl) rfl) (Ey rfl ((j7 fo_Fact_1 ty_Is dc rfl).yd) (Ey rfl (g9 ty_Is rfl (Hz (mS m0) 1 rfl) rfl) (Est rfl (N.call (T4 fc) rfl rfl rfl dc rfl (fun w Lp hA => ⟨J6, hA.ro B4⟩)) (fun k58 _ => ?_))))))))))
    obtain ⟨a58, m58, c58⟩ := k58
    refine i9 m0 fun e58 l58 => ?_
    subst e58
    refine Est rfl (Nb [_] [_, _] us_Facts ty_Fact rfl rfl) (fun b59 _ => (i7 (i7 (r5 (Est rfl (D6 (E := H7) (ex := (o5, f9)) us_Facts ty_Fact rfl rfl rfl (N0 (x := (o5, f9)) J6 Own.ow) rfl bn bn dc) (fun p60 _ => (Ei rfl (Ev Z2 (Em rfl (Ei rfl (Eu (E.ret (j6 (congrArg (ow s8 [_]) (show _ = F0 l (o5, f9) by grind [F0, F9, F8, H1, H3, W3, d1, d2, t1, t2])) ?_)))))))))))))
    exact Fg rfl rfl (_, _, _) rfl rfl
theorem a9L : Tr Tryz.prog 73 [.slice a_s m_s c_s, .slice a_l m_l c_l] (fun w L => Ro w L eIs [.slice a_s m_s c_s] s ∧ Ro w L s8 [.slice a_l m_l c_l] l) [] (κ := Unit) (fun k => True) (fun k => .bool (F2 s l)) (fun k => []) := by
 refine n9 Tryz.func73 rfl (n := 40) rfl (by decide +kernel) bl (fr := [(0, .slice a_s m_s c_s), (1, .slice a_l m_l c_l)]) rfl fun w L hR => ?_
 obtain ⟨hs, hl⟩ := hR
 obtain ⟨rfl, ls⟩ := hs.slen
 obtain ⟨rfl, ll⟩ := hl.slen
 refine Ew Z1 (Ei rfl (Eu (Eq_ (Ew Z3 (Em rfl (Ey rfl ((Y.len us_Facts rfl).yd) (Em rfl (Eu (E.block (E.loop (κ := Nat) (fun g => g ≤ l.length ∧ a1X s l 0 = a1X s l g) (fun g => [(0, .slice a_s s.length c_s), (1, .slice a_l l.length c_l), (7, .slice a_l l.length c_l), (8, .int .i64 (↑l.length : Int)), (9, .int .i64 (g : Int))]) (fun g => []) (fun g => l.length - g) 0 ⟨Nat.zero_le _, by simp⟩ ⟨rfl, rfl, rfl, rfl, rfl, trivial⟩ (.refl _) (fun g pg => ?_)))))))))))
 obtain ⟨pk, pa⟩ := pg
 refine Ew Z1 (Ey rfl ((Y.lss rfl rfl).yd) (o6 (fun q10 => ?_) (fun q10 => ?_)))
 ·refine Eu (Eq_ (o2 rfl (j5 (Et (Eq_ (E.block (Ew Z6 (Em rfl ?_))))))))
  obtain ⟨eb12, eo12, ec12, ea12, er12, el12, eh12⟩ := hl.elem g om
  obtain ⟨xa12_0, xc12_0, rfl, ei12_0, xh12_0⟩ := P2 er12
  have := xh12_0.slen.2
  refine Ey rfl ((r7 us_Facts ty_Fact rfl ea12 rfl g rfl om).yd) (Ey rfl (o9 (cs := [_, _]) ty_Fact rfl (eh12 _) rfl) (Est rfl (N.alloc ty_Fact dc) (fun b6 _ => (Ei rfl (Est rfl (Ns [_, _] ty_Fact rfl) (fun _ _ => (Eu (Eq_ (D.region (fun j => true) mixed (Dyp 0 rfl (l3 rfl) (Dy 1 rfl (o9 (cs := [_, _]) ty_Fact rfl (Has.pt m0) rfl) (t8 2 rfl rfl kr (fun _ => rfl) (n0 b1N rfl rfl rfl dc (fun w Lp hA => ⟨hA.ro hs, ei12_0, hA.ro xh12_0⟩)) (fun _ _ => (Ent.b (fun q16 => ?_) (fun q16 => ?_)))))))))))))))
  ·refine Dyp 3 rfl (Y.not (b := true) rfl) (Dyp 4 rfl (l3 rfl) (Dyp 5 rfl (l3 rfl) (Dyp 6 rfl (Y.gtr rfl rfl) (o6 (fun q20 => ?_) (fun q20 => ?_)))))
   ·refine Dyp 7 rfl (l3 rfl) (Dyp 8 rfl (l3 rfl) (Dyp 9 rfl (l3 rfl) (Dyp 10 rfl (Y.sub rfl rfl om om) ?_)))
    obtain ⟨eb25, eo25, ec25, ea25, er25, el25, eh25⟩ := hl.elem (g - 1) om
    obtain ⟨xa25_0, xc25_0, rfl, ei25_0, xh25_0⟩ := P2 er25
    have := xh25_0.slen.2
    refine Dyp 11 rfl (r7 us_Facts ty_Fact rfl ea25 rfl (g - 1) om om) (Dy 12 rfl (o9 (cs := [_, _]) ty_Fact rfl (eh25 _) rfl) (Dy 13 rfl (o9 (cs := [_, _]) ty_Fact rfl (Has.pt m0) rfl) (t8 14 rfl rfl kr (fun _ => rfl) (n0 a2j rfl rfl rfl dc (fun w Lp hA => ⟨ei25_0, hA.ro xh25_0, ei12_0, hA.ro xh12_0⟩)) (fun _ _ => (Dyp 15 rfl (Y.geq rfl rfl) (o6 (fun q29 => ?_) (fun q29 => ?_)))))))
    ·refine Dyp 16 rfl (u7 rfl rfl) (Dyp 17 rfl (u0 rfl rfl) (r8 kr (Et (o2 rfl (Ew Z1 (Ei rfl ?_))))))
     exact Eu (E.ret (w5 (l4 (l4 (w5 (l4 (Fb rfl rfl (by grind [F2, a1X, H8, H5, J1, ltF, d1, d2, t1, t2]))))))))
    ·refine Dyp 16 rfl (u7 rfl rfl) (Dyp 17 rfl (u0 rfl rfl) (r8 kr (Et (o3 rfl (j5 (t7 (Et (Ez Z2 (Ey rfl ((Y.add rfl rfl om om).yd) (Em rfl (Eu (Ent.drop ?_))))))))))))
     exact v8 br (g + 1) rs (.refl _) ⟨by omega, by grind [a1X, H8, H5, J1, ltF, Bool.and_assoc, d1, d2, t1, t2]⟩ om
   ·refine Dyp 7 rfl (l3 rfl) (Dsk 8 rfl (Dsk 9 rfl (Dsk 10 rfl (Dsk 11 rfl (Dsk 12 rfl (Dsk 13 rfl (Dsk 14 rfl (Dsk 15 rfl (Dyp 16 rfl (u0 rfl rfl) (Dyp 17 rfl (u0 rfl rfl) (r8 kr (Et (o3 rfl (j5 (t7 (Et (Ez Z2 (Ey rfl ((Y.add rfl rfl om om).yd) (Em rfl (Eu (Ent.drop ?_)))))))))))))))))))))
    exact v8 br (g + 1) rs (.refl _) ⟨by omega, by grind [a1X, H8, H5, J1, ltF, Bool.and_assoc, d1, d2, t1, t2]⟩ om
  ·refine Dyp 3 rfl (Y.not (b := false) rfl) (Dyp 4 rfl (l3 rfl) (Dsk 5 rfl (Dsk 6 rfl (b2b 7 rfl rfl dc kr (Dsk 8 rfl (Dsk 9 rfl (Dsk 10 rfl (Dsk 11 rfl (Dsk 12 rfl (Dsk 13 rfl (Dsk 14 rfl (Dsk 15 rfl (Dsk 16 rfl (Dyp 17 rfl (u7 rfl rfl) (r8 kr (Et (o2 rfl (Ew Z1 (Ei rfl ?_)))))))))))))))))))
   exact Eu (E.ret (w5 (l4 (l4 (w5 (l4 (Fb rfl rfl (by grind [F2, a1X, H8, H5, J1, ltF, d1, d2, t1, t2]))))))))
 ·refine Eu (Eq_ (o3 rfl (E.exit (o8 (o8 (x9 (Et (Ew Z8 (Em rfl (Est rfl (n0 a2o rfl rfl rfl dc (fun w Lp hA => hA.ro hs)) (fun _ _ => (Ent.b (fun q34 => ?_) (fun q34 => ?_)))))))))))))
  ·refine Em rfl (Em rfl (Ey rfl ((Y.len us_Facts rfl).yd) (Ey rfl ((Y.leq rfl rfl).yd) (Ey rfl ((u7 rfl rfl).yd) (Ei rfl ?_)))))
   exact Eu (E.ret (Fb rfl rfl (by grind [F2, a1X, H8, H5, J1, ltF, d1, d2, t1, t2])))
  ·refine Em rfl (Es rfl (Es rfl (Es rfl (Ey rfl ((u0 rfl rfl).yd) (Ei rfl ?_)))))
   exact Eu (E.ret (Fb rfl rfl (by grind [F2, a1X, H8, H5, J1, ltF, d1, d2, t1, t2])))
theorem a3w : Tr Tryz.prog 64 [.slice a_s m_s c_s, .slice a_l m_l c_l] (fun w L => Ro w L eIs [.slice a_s m_s c_s] s ∧ Ro w L s8 [.slice a_l m_l c_l] l) [] (κ := Unit) (fun k => True) (fun k => .bool (F2 s l)) (fun k => []) := by
 refine n9 Tryz.func64 rfl (n := 43) rfl (by decide +kernel) bl (fr := [(0, .slice a_s m_s c_s), (1, .slice a_l m_l c_l)]) rfl fun w L hR => ?_
 obtain ⟨hs, hl⟩ := hR
 obtain ⟨rfl, ls⟩ := hs.slen
 obtain ⟨rfl, ll⟩ := hl.slen
 refine Ew Z1 (Ei rfl (Eu (Eq_ (Ew Z1 (Ei rfl (Eu (E.block (E.loop (κ := Nat) (fun g => g ≤ l.length ∧ a1X s l 0 = a1X s l g) (fun g => [(0, .slice a_s s.length c_s), (1, .slice a_l l.length c_l), (5, .int .i64 (g : Int))]) (fun g => []) (fun g => l.length - g) 0 ⟨Nat.zero_le _, by simp⟩ ⟨rfl, rfl, rfl, trivial⟩ (.refl _) (fun g pg => ?_)))))))))
 obtain ⟨pk, pa⟩ := pg
 refine Eq_ (Ew Z4 (Em rfl (Em rfl (Ey rfl ((Y.len us_Facts rfl).yd) (Ey rfl ((Y.lss rfl rfl).yd) (o6 (fun q9 => ?_) (fun q9 => ?_)))))))
 ·refine Eu (o2 rfl (j5 (Et (Eq_ (E.block (Eq_ (D.region (fun j => true) mixed (Dyp 0 rfl (l3 rfl) (Dyp 1 rfl (l3 rfl) (Dyp 2 rfl (l3 rfl) ?_))))))))))
  obtain ⟨eb15, eo15, ec15, ea15, er15, el15, eh15⟩ := hl.elem g om
  obtain ⟨xa15_0, xc15_0, rfl, ei15_0, xh15_0⟩ := P2 er15
  have := xh15_0.slen.2
  refine Dyp 3 rfl (r7 us_Facts ty_Fact rfl ea15 rfl g rfl om) (Dy 4 rfl (o9 (cs := [_, _]) ty_Fact rfl (eh15 _) rfl) (t8 5 rfl rfl kr (fun _ => rfl) (n0 b1O rfl rfl rfl dc (fun w Lp hA => ⟨hA.ro hs, ei15_0, hA.ro xh15_0⟩)) (fun _ _ => (Ent.b (fun q17 => ?_) (fun q17 => ?_)))))
  ·refine Dyp 6 rfl (Y.not (b := true) rfl) (Dyp 7 rfl (l3 rfl) (Dyp 8 rfl (l3 rfl) (Dyp 9 rfl (Y.gtr rfl rfl) (o6 (fun q21 => ?_) (fun q21 => ?_)))))
   ·refine Dyp 10 rfl (l3 rfl) (Dyp 11 rfl (l3 rfl) (Dyp 12 rfl (l3 rfl) (Dyp 13 rfl (Y.sub rfl rfl om om) ?_)))
    obtain ⟨eb26, eo26, ec26, ea26, er26, el26, eh26⟩ := hl.elem (g - 1) om
    obtain ⟨xa26_0, xc26_0, rfl, ei26_0, xh26_0⟩ := P2 er26
    have := xh26_0.slen.2
    refine Dyp 14 rfl (r7 us_Facts ty_Fact rfl ea26 rfl (g - 1) om om) (Dy 15 rfl (o9 (cs := [_, _]) ty_Fact rfl (eh26 _) rfl) (Dyp 16 rfl (l3 rfl) (Dyp 17 rfl (l3 rfl) (Dyp 18 rfl (r7 us_Facts ty_Fact rfl ea15 rfl g rfl om) (Dy 19 rfl (o9 (cs := [_, _]) ty_Fact rfl (eh15 _) rfl) (t8 20 rfl rfl kr (fun _ => rfl) (n0 a1k rfl rfl rfl dc (fun w Lp hA => ⟨ei26_0, hA.ro xh26_0, ei15_0, hA.ro xh15_0⟩)) (fun _ _ => (Dyp 21 rfl (Y.geq rfl rfl) (o6 (fun q33 => ?_) (fun q33 => ?_))))))))))
    ·refine Dyp 22 rfl (u7 rfl rfl) (Dyp 23 rfl (u0 rfl rfl) (r8 kr (Et (o2 rfl (Ew Z1 (Ei rfl ?_))))))
     exact Eu (E.ret (w5 (l4 (l4 (w5 (l4 (Fb rfl rfl (by grind [F2, a1X, H8, H5, J1, ltF, d1, d2, t1, t2]))))))))
    ·refine Dyp 22 rfl (u7 rfl rfl) (Dyp 23 rfl (u0 rfl rfl) (r8 kr (Et (o3 rfl (j5 (t7 (Et (Ez Z3 (Em rfl (Ey rfl ((Y.add rfl rfl om om).yd) (Ei rfl ?_)))))))))))
     exact Eu (v8 br (g + 1) rs (.refl _) ⟨by omega, by grind [a1X, H8, H5, J1, ltF, Bool.and_assoc, d1, d2, t1, t2]⟩ om)
   ·refine Dyp 10 rfl (l3 rfl) (Dsk 11 rfl (Dsk 12 rfl (Dsk 13 rfl (Dsk 14 rfl (Dsk 15 rfl (Dsk 16 rfl (Dsk 17 rfl (Dsk 18 rfl (Dsk 19 rfl (Dsk 20 rfl (Dsk 21 rfl (Dyp 22 rfl (u0 rfl rfl) (Dyp 23 rfl (u0 rfl rfl) (r8 kr (Et (o3 rfl (j5 (t7 (Et (Ez Z3 (Em rfl (Ey rfl ((Y.add rfl rfl om om).yd) (Ei rfl ?_)))))))))))))))))))))))
    exact Eu (v8 br (g + 1) rs (.refl _) ⟨by omega, by grind [a1X, H8, H5, J1, ltF, Bool.and_assoc, d1, d2, t1, t2]⟩ om)
  ·refine Dyp 6 rfl (Y.not (b := false) rfl) (Dyp 7 rfl (l3 rfl) (Dsk 8 rfl (Dsk 9 rfl (b2b 10 rfl rfl dc kr (Dsk 11 rfl (Dsk 12 rfl (Dsk 13 rfl (Dsk 14 rfl (Dsk 15 rfl (Dsk 16 rfl (Dsk 17 rfl (Dsk 18 rfl (Dsk 19 rfl (Dsk 20 rfl (Dsk 21 rfl (Dsk 22 rfl (Dyp 23 rfl (u7 rfl rfl) (r8 kr (Et (o2 rfl (Ew Z1 (Ei rfl ?_))))))))))))))))))))))
   exact Eu (E.ret (w5 (l4 (l4 (w5 (l4 (Fb rfl rfl (by grind [F2, a1X, H8, H5, J1, ltF, d1, d2, t1, t2]))))))))
 ·refine Eu (o3 rfl (E.exit (o8 (o8 (x9 (Et (Ew Z8 (Em rfl (Est rfl (n0 a0s rfl rfl rfl dc (fun w Lp hA => hA.ro hs)) (fun _ _ => (Ent.b (fun q37 => ?_) (fun q37 => ?_))))))))))))
  ·refine Em rfl (Em rfl (Ey rfl ((Y.len us_Facts rfl).yd) (Ey rfl ((Y.leq rfl rfl).yd) (Ey rfl ((u7 rfl rfl).yd) (Ei rfl ?_)))))
   exact Eu (E.ret (Fb rfl rfl (by grind [F2, a1X, H8, H5, J1, ltF, d1, d2, t1, t2])))
  ·refine Em rfl (Es rfl (Es rfl (Es rfl (Ey rfl ((u0 rfl rfl).yd) (Ei rfl ?_)))))
   exact Eu (E.ret (Fb rfl rfl (by grind [F2, a1X, H8, H5, J1, ltF, d1, d2, t1, t2])))
end Go.Proofs.YtdopeopehgdccaaGreat
