import Derived.Test.YtfnbilpemdgkkaaGreatDoorT9
namespace Go.Proofs.YtfnbilpemdgkkaaGreatDoor
open Go.RowKit
set_option linter.all false
set_option maxHeartbeats 2000000
attribute [local irreducible] Nop Yd Yp Ent Has Tr FnP FnP2 Src J8 P6 S7 U6 E7
variable {l : List (Int × List Int)} {s : List Int} {m_l c_l m_s c_s : Nat} {a_l a_s : Option Addr}
theorem F7 {rel : Int} {a_values : Option Addr} {m_values c_values : Nat} {M5 : List Int} (hz : M5.length ≤ 1048576) : Tr Tryz.prog 150 [.int .i64 rel, .slice a_values m_values c_values] (fun w L => I64 rel ∧ Ro w L eIs [.slice a_values m_values c_values] M5) [] (κ := Option Addr × Nat × Nat) (fun k => True) (fun k => .agg #[.int .i64 rel, .slice k.1 k.2.1 k.2.2]) (fun k => [ow eIs [.slice k.1 k.2.1 k.2.2] M5]) := by
 refine Tr.intro Tryz.func150 rfl (n := 10) rfl (by decide +kernel) bl (fr := [(0, .int .i64 rel), (1, .slice a_values m_values c_values)]) rfl fun w L hR => ?_
 obtain ⟨i6rel, hvalues⟩ := hR
 obtain ⟨rfl, lvalues⟩ := hvalues.slen
 refine Ew Z1 (Est rfl (N.alloc ty_Fact dc) (fun b4 _ => (Ev Z6 (Em rfl (Est rfl (Nb [] [] us_Is d9 rfl rfl) (fun b6 _ => (Ent.drop (Em rfl (Est rfl (E0 (E := Enc.int) Plain.int us_Is d9 rfl rfl rfl hvalues bn bn dc) (fun p8 _ => (Ey rfl ((E3 (pvs := [_, _]) (cs := [_, _]) ty_Fact a1K rfl rfl).yd) (d7 (Est rfl (Ns [_, _] ty_Fact rfl) (fun _ _ => (Eu (E.ret (d7 ?_)))))))))))))))))
 exact J7 br rfl rfl (mS m0) ty_Fact rfl (_, _, _) trivial rfl (J := _) (.refl _) (.inl rfl)
theorem a3h {f8 : Int} {z8 : Option Addr} {C4 B0 : Nat} {a7 : List Int} (hz : l.length ≤ 1000000000) (hyl : ∀ x ∈ l, x.2.length ≤ 1048576) (hyf : a7.length ≤ 1048576) : Tr Tryz.prog 146 [.slice a_l m_l c_l, .agg #[.int .i64 f8, .slice z8 C4 B0]] (fun w L => Ro w L B9 [.slice a_l m_l c_l] l ∧ I64 f8 ∧ Ro w L eIs [.slice z8 C4 B0] a7) [] (κ := Option Addr × Nat × Nat) (fun k => True) (fun k => .slice k.1 k.2.1 k.2.2) (fun k => [ow B9 [.slice k.1 k.2.1 k.2.2] (C8 l (f8, a7))]) := by
 refine Tr.intro Tryz.func146 rfl (n := 62) rfl (by decide +kernel) bl (fr := [(0, .slice a_l m_l c_l), (1, .agg #[.int .i64 f8, .slice z8 C4 B0])]) rfl fun w L hR => ?_
 obtain ⟨hl, G9, B4⟩ := hR
 obtain ⟨rfl, ll⟩ := hl.slen
 obtain ⟨rfl, W8⟩ := B4.slen
 refine Ew Z2 (Est rfl (N.box (cs := [_, _]) rfl dc rfl) (fun b3 _ => (Ei rfl (Ev Z2 (Est rfl (Nb [] [] us_Facts ty_Fact rfl rfl) (fun b8 _ => (Ent.drop (Ei rfl (Ev Z4 (Em rfl (Ey rfl (o1 (cs := [_, _]) ty_Fact rfl (Has.pt m0) rfl) (Est rfl (i8 a0D rfl rfl rfl dc (fun w Lp hA => ⟨hA.ro hl, G9, hA.ro B4⟩)) (fun _ _ => (Ei rfl (u5 (fun q6 => ?_) (fun q6 => ?_))))))))))))))))
 ·refine Eu (Eq_ (Ew Z1 (Ei rfl (Eu (E.block (l3 (A := []) (Own.nil (E := F2) (e := tFact) (a := (some ⟨b8, 0, none⟩))) rfl (i9 (congrArg (ow B9 [_]) (show [] = addS (D0 l (f8, a7)) (ltF (f8, a7)) (f8, a7) (l.take 0) from by first | rfl | (simp; done) | grind [C8, y6, y7, B3, x6, G8, d1, d2, t1, t2])) (E.loop (κ := Nat × Option Addr × Nat × Nat) (fun g => g.1 ≤ l.length ∧ True) (fun g => [(0, .slice a_l l.length c_l), (3, .pointer (some ⟨b3, 0, none⟩)), (5, .slice g.2.1 g.2.2.1 g.2.2.2), (6, .bool (D0 l (f8, a7) || (l.take g.1).any (ltF (f8, a7)))), (7, .int .i64 (↑g.1 : Int))]) (fun g => [ow B9 [.slice g.2.1 g.2.2.1 g.2.2.2] (addS (D0 l (f8, a7)) (ltF (f8, a7)) (f8, a7) (l.take g.1)), pt b3 44 [.int .i64 f8, .slice z8 a7.length B0]]) (fun g => l.length - g.1) (0, (some ⟨b8, 0, none⟩), 0, 0) ⟨Nat.zero_le _, by simp⟩ ⟨rfl, rfl, rfl, frB (by first | rfl | (simp; done) | grind [C8, y6, y7, B3, x6, G8, d1, d2, t1, t2]), rfl, trivial⟩ (.refl _) (fun g pg => ?_)))))))))
  obtain ⟨g, aA0_0, mA0_0, cA0_0⟩ := g
  try dsimp only at pg
  try dsimp only
  obtain ⟨pk, pa⟩ := pg
  have jp := List.length_take_le g l
  have ji := a2r (h := D0 l (f8, a7)) (p := (ltF (f8, a7))) (f := (f8, a7)) (l := l.take g)
  refine f0 m0 fun eaA0_0 laA0_0 => ?_
  subst eaA0_0
  refine Eq_ (Ew Z4 (Em rfl (Em rfl (Ey rfl ((Y.len us_Facts rfl).yd) (Ey rfl ((Y.lss rfl rfl).yd) (j4 (fun q15 => ?_) (fun q15 => ?_)))))))
  ·refine Eu (j9 rfl (f5 (Et (Eq_ (E.block (Eq_ (Eq_ (D.region (fun j => true) mixed (Dyp 0 rfl (i0 rfl) (u5 (fun q18 => ?_) (fun q18 => ?_)))))))))))
   ·refine Dyp 1 rfl (Y.not (b := true) rfl) (Dyp 2 rfl (i0 rfl) (Dsk 3 rfl (Dsk 4 rfl (Dsk 5 rfl (Dsk 6 rfl (Dsk 7 rfl (Dsk 8 rfl (Dsk 9 rfl (Dyp 10 rfl (w7 rfl rfl) (o0 kr (Et (j8 rfl (f5 (Et (D.region (fun j => !(Nat.beq j 13)) mixed (Dyp 0 rfl (i0 rfl) (Dyp 1 rfl (i0 rfl) (Dyp 2 rfl (i0 rfl) ?_))))))))))))))))))
    obtain ⟨eb40, eo40, ec40, ea40, er40, el40, eh40⟩ := hl.elem g om
    obtain ⟨xa40_0, xc40_0, rfl, ei40_0, xh40_0⟩ := K7 er40
    have := xh40_0.slen.2
    refine Dyp 3 rfl (o6 us_Facts ty_Fact rfl ea40 rfl g rfl om) (Dyp 4 rfl (f9 fo_Fact_0 d9 dc rfl) (Dy 5 rfl (f6 d9 rfl ((eh40 _).sub (cs' := [_]) 0 rfl) rfl) (Dyp 6 rfl (i0 rfl) (Dyp 7 rfl (i0 rfl) (Dyp 8 rfl (o6 us_Facts ty_Fact rfl ea40 rfl g rfl om) (Dyp 9 rfl (f9 fo_Fact_1 ty_Is dc rfl) (Dy 10 rfl (f6 ty_Is rfl ((eh40 _).sub (cs' := [_]) 1 rfl) rfl) (t7 11 rfl rfl kr (fun _ => rfl) (N.call (F7 (hyl _ (List.getElem_mem om))) rfl rfl rfl dc rfl (fun w Lp hA => ⟨ei40_0, hA.ro xh40_0⟩)) (fun k48 _ => ?_)))))))))
    obtain ⟨a48, m48, c48⟩ := k48
    refine f0 m0 fun e48 l48 => ?_
    subst e48
    refine t7 12 rfl rfl kr (fun _ => rfl) (Nb [_] [_, _] us_Facts ty_Fact rfl rfl) (fun b49 _ => (d7 (d7 (g9 (t7 13 rfl rfl kr (fun h => by cases h) (u4 (E := F2) (ex := l[g]) us_Facts ty_Fact rfl rfl rfl (G1 (x := l[g]) ei40_0 Own.ow) rfl bn bn dc) (fun p50 _ => (Dyp 14 rfl (D8 rfl) (o0 kr (n9 (Et (Ez Z3 (Em rfl (Ey rfl ((Y.add rfl rfl om om).yd) (Ei rfl (Eu (i9 (congrArg (ow B9 [_]) (show (addS (D0 l (f8, a7)) (ltF (f8, a7)) (f8, a7) (l.take g)) ++ [l[g]] = addS (D0 l (f8, a7)) (ltF (f8, a7)) (f8, a7) (l.take (g + 1)) from by grind [C8, y6, y7, B3, x6, G8, d1, d2, t1, t2])) (d7 (d7 ?_))))))))))))))))))
    exact t8 br (g + 1, p50.1, ((addS (D0 l (f8, a7)) (ltF (f8, a7)) (f8, a7) (l.take g)).length + 1), p50.2) ⟨rfl, rfl, rfl, frB (by grind [C8, y6, y7, B3, x6, G8, d1, d2, t1, t2]), rfl, trivial⟩ (.refl _) ⟨oz, trivial⟩ oz
   ·refine Dyp 1 rfl (Y.not (b := false) rfl) (Dyp 2 rfl (i0 rfl) (Dy 3 rfl (o1 (cs := [_, _]) ty_Fact rfl (Has.pt (mS m0)) rfl) (Dyp 4 rfl (i0 rfl) (Dyp 5 rfl (i0 rfl) ?_))))
    obtain ⟨eb24, eo24, ec24, ea24, er24, el24, eh24⟩ := hl.elem g om
    obtain ⟨xa24_0, xc24_0, rfl, ei24_0, xh24_0⟩ := K7 er24
    have := xh24_0.slen.2
    refine Dyp 6 rfl (o6 us_Facts ty_Fact rfl ea24 rfl g rfl om) (Dy 7 rfl (o1 (cs := [_, _]) ty_Fact rfl (eh24 _) rfl) (t7 8 rfl rfl kr (fun _ => rfl) (i8 L6 rfl rfl rfl dc (fun w Lp hA => ⟨G9, hA.ro B4, ei24_0, hA.ro xh24_0⟩)) (fun _ _ => (Dyp 9 rfl (Y.lss rfl rfl) (j4 (fun q27 => ?_) (fun q27 => ?_))))))
    ·refine Dyp 10 rfl (v6 rfl rfl) (o0 kr (Et (j9 rfl (Ew Z9 (Em rfl (Ey rfl ((f9 fo_Fact_0 d9 dc rfl).yd) (Ey rfl (f6 d9 rfl (Hz (mS m0) 0 rfl) rfl) (Ey rfl ((f9 fo_Fact_1 ty_Is dc rfl).yd) (Ey rfl (f6 ty_Is rfl (Hz (mS m0) 1 rfl) rfl) (Est rfl (N.call (F7 fc) rfl rfl rfl dc rfl (fun w Lp hA => ⟨G9, hA.ro B4⟩)) (fun k34 _ => ?_)))))))))))
     obtain ⟨a34, m34, c34⟩ := k34
     refine f0 m0 fun e34 l34 => ?_
     subst e34
     refine Est rfl (Nb [_] [_, _] us_Facts ty_Fact rfl rfl) (fun b35 _ => (d7 (d7 (g9 (Est rfl (u4 (E := F2) (ex := (f8, a7)) us_Facts ty_Fact rfl rfl rfl (G1 (x := (f8, a7)) G9 Own.ow) rfl bn bn dc) (fun p36 _ => (Ei rfl (Eu (Ez Z1 (Ei rfl (Eu (D.region (fun j => !(Nat.beq j 13)) mixed (Dyp 0 rfl (i0 rfl) (Dyp 1 rfl (i0 rfl) (Dyp 2 rfl (i0 rfl) (Dyp 3 rfl (o6 us_Facts ty_Fact rfl ea24 rfl g rfl om) (Dyp 4 rfl (f9 fo_Fact_0 d9 dc rfl) (Dy 5 rfl (f6 d9 rfl ((eh24 _).sub (cs' := [_]) 0 rfl) rfl) (Dyp 6 rfl (i0 rfl) (Dyp 7 rfl (i0 rfl) ?_))))))))))))))))))))
     refine Dyp 8 rfl (o6 us_Facts ty_Fact rfl ea24 rfl g rfl om) (Dyp 9 rfl (f9 fo_Fact_1 ty_Is dc rfl) (Dy 10 rfl (f6 ty_Is rfl ((eh24 _).sub (cs' := [_]) 1 rfl) rfl) (t7 11 rfl rfl kr (fun _ => rfl) (N.call (F7 (hyl _ (List.getElem_mem om))) rfl rfl rfl dc rfl (fun w Lp hA => ⟨ei24_0, hA.ro xh24_0⟩)) (fun k48 _ => ?_))))
     obtain ⟨a48, m48, c48⟩ := k48
     refine f0 m0 fun e48 l48 => ?_
     subst e48
     refine t7 12 rfl rfl kr (fun _ => rfl) (Nb [_] [_, _] us_Facts ty_Fact rfl rfl) (fun b49 _ => (d7 (d7 (g9 (t7 13 rfl rfl kr (fun h => by cases h) (u4 (E := F2) (ex := l[g]) us_Facts ty_Fact rfl rfl rfl (G1 (x := l[g]) ei24_0 Own.ow) rfl bn bn dc) (fun p50 _ => (Dyp 14 rfl (D8 rfl) (o0 kr (n9 (Et (Ez Z3 (Em rfl (Ey rfl ((Y.add rfl rfl om om).yd) (Ei rfl (Eu (i9 (congrArg (ow B9 [_]) (show ((addS (D0 l (f8, a7)) (ltF (f8, a7)) (f8, a7) (l.take g)) ++ [(f8, a7)]) ++ [l[g]] = addS (D0 l (f8, a7)) (ltF (f8, a7)) (f8, a7) (l.take (g + 1)) from by grind [C8, y6, y7, B3, x6, G8, d1, d2, t1, t2])) (d7 (d7 ?_))))))))))))))))))
     exact t8 br (g + 1, p50.1, (((addS (D0 l (f8, a7)) (ltF (f8, a7)) (f8, a7) (l.take g)).length + 1) + 1), p50.2) ⟨rfl, rfl, rfl, frB (by grind [C8, y6, y7, B3, x6, G8, d1, d2, t1, t2]), rfl, trivial⟩ (.refl _) ⟨oz, trivial⟩ oz
    ·refine Dyp 10 rfl (v6 rfl rfl) (o0 kr (Et (j8 rfl (f5 (Et (D.region (fun j => !(Nat.beq j 13)) mixed (Dyp 0 rfl (i0 rfl) (Dyp 1 rfl (i0 rfl) (Dyp 2 rfl (i0 rfl) (Dyp 3 rfl (o6 us_Facts ty_Fact rfl ea24 rfl g rfl om) (Dyp 4 rfl (f9 fo_Fact_0 d9 dc rfl) (Dy 5 rfl (f6 d9 rfl ((eh24 _).sub (cs' := [_]) 0 rfl) rfl) (Dyp 6 rfl (i0 rfl) (Dyp 7 rfl (i0 rfl) (Dyp 8 rfl (o6 us_Facts ty_Fact rfl ea24 rfl g rfl om) (Dyp 9 rfl (f9 fo_Fact_1 ty_Is dc rfl) (Dy 10 rfl (f6 ty_Is rfl ((eh24 _).sub (cs' := [_]) 1 rfl) rfl) (t7 11 rfl rfl kr (fun _ => rfl) (N.call (F7 (hyl _ (List.getElem_mem om))) rfl rfl rfl dc rfl (fun w Lp hA => ⟨ei24_0, hA.ro xh24_0⟩)) (fun k48 _ => ?_)))))))))))))))))))
     obtain ⟨a48, m48, c48⟩ := k48
     refine f0 m0 fun e48 l48 => ?_
     subst e48
     refine t7 12 rfl rfl kr (fun _ => rfl) (Nb [_] [_, _] us_Facts ty_Fact rfl rfl) (fun b49 _ => (d7 (d7 (g9 (t7 13 rfl rfl kr (fun h => by cases h) (u4 (E := F2) (ex := l[g]) us_Facts ty_Fact rfl rfl rfl (G1 (x := l[g]) ei24_0 Own.ow) rfl bn bn dc) (fun p50 _ => (Dyp 14 rfl (D8 rfl) (o0 kr (n9 (Et (Ez Z3 (Em rfl (Ey rfl ((Y.add rfl rfl om om).yd) (Ei rfl (Eu (i9 (congrArg (ow B9 [_]) (show (addS (D0 l (f8, a7)) (ltF (f8, a7)) (f8, a7) (l.take g)) ++ [l[g]] = addS (D0 l (f8, a7)) (ltF (f8, a7)) (f8, a7) (l.take (g + 1)) from by grind [C8, y6, y7, B3, x6, G8, d1, d2, t1, t2])) (d7 (d7 ?_))))))))))))))))))
     exact t8 br (g + 1, p50.1, ((addS (D0 l (f8, a7)) (ltF (f8, a7)) (f8, a7) (l.take g)).length + 1), p50.2) ⟨rfl, rfl, rfl, frB (by grind [C8, y6, y7, B3, x6, G8, d1, d2, t1, t2]), rfl, trivial⟩ (.refl _) ⟨oz, trivial⟩ oz
  ·refine Eu (j8 rfl (E.exit (l2 (l2 (w8 (Et (Eq_ (Ew Z2 (Em rfl (u5 (fun q51 => ?_) (fun q51 => ?_)))))))))))
   ·refine Ey rfl ((Y.not (b := true) rfl).yd) (Eu (j8 rfl (f5 (Et (Ew Z2 (Em rfl (Ei rfl (Eu (E.ret (i9 (congrArg (ow B9 [_]) (show _ = C8 l (f8, a7) by grind [C8, y6, y7, B3, x6, G8, d1, d2, t1, t2])) ?_))))))))))
    exact Fg rfl rfl (_, _, _) rfl rfl
   ·refine Ey rfl ((Y.not (b := false) rfl).yd) (Eu (j9 rfl (Ez Z9 (Em rfl (Ey rfl ((f9 fo_Fact_0 d9 dc rfl).yd) (Ey rfl (f6 d9 rfl (Hz (mS m0) 0 rfl) rfl) (Ey rfl ((f9 fo_Fact_1 ty_Is dc rfl).yd) (Ey rfl (f6 ty_Is rfl (Hz (mS m0) 1 rfl) rfl) (Est rfl (N.call (F7 fc) rfl rfl rfl dc rfl (fun w Lp hA => ⟨G9, hA.ro B4⟩)) (fun k58 _ => ?_))))))))))
    obtain ⟨a58, m58, c58⟩ := k58
    refine f0 m0 fun e58 l58 => ?_
    subst e58
    refine Est rfl (Nb [_] [_, _] us_Facts ty_Fact rfl rfl) (fun b59 _ => (d7 (d7 (g9 (Est rfl (u4 (E := F2) (ex := (f8, a7)) us_Facts ty_Fact rfl rfl rfl (G1 (x := (f8, a7)) G9 Own.ow) rfl bn bn dc) (fun p60 _ => (Ei rfl (Ev Z2 (Em rfl (Ei rfl (Eu (E.ret (i9 (congrArg (ow B9 [_]) (show _ = C8 l (f8, a7) by grind [C8, y6, y7, B3, x6, G8, d1, d2, t1, t2])) ?_)))))))))))))
    exact Fg rfl rfl (_, _, _) rfl rfl
 ·refine Eu (Eq_ (Ew Z1 (Ei rfl (Eu (E.block (l3 (A := []) (Own.nil (E := F2) (e := tFact) (a := (some ⟨b8, 0, none⟩))) rfl (i9 (congrArg (ow B9 [_]) (show [] = addS (D0 l (f8, a7)) (ltF (f8, a7)) (f8, a7) (l.take 0) from by first | rfl | (simp; done) | grind [C8, y6, y7, B3, x6, G8, d1, d2, t1, t2])) (E.loop (κ := Nat × Option Addr × Nat × Nat) (fun g => g.1 ≤ l.length ∧ True) (fun g => [(0, .slice a_l l.length c_l), (3, .pointer (some ⟨b3, 0, none⟩)), (5, .slice g.2.1 g.2.2.1 g.2.2.2), (6, .bool (D0 l (f8, a7) || (l.take g.1).any (ltF (f8, a7)))), (7, .int .i64 (↑g.1 : Int))]) (fun g => [ow B9 [.slice g.2.1 g.2.2.1 g.2.2.2] (addS (D0 l (f8, a7)) (ltF (f8, a7)) (f8, a7) (l.take g.1)), pt b3 44 [.int .i64 f8, .slice z8 a7.length B0]]) (fun g => l.length - g.1) (0, (some ⟨b8, 0, none⟩), 0, 0) ⟨Nat.zero_le _, by simp⟩ ⟨rfl, rfl, rfl, frB (by first | rfl | (simp; done) | grind [C8, y6, y7, B3, x6, G8, d1, d2, t1, t2]), rfl, trivial⟩ (.refl _) (fun g pg => ?_)))))))))
  obtain ⟨g, aA0_0, mA0_0, cA0_0⟩ := g
  try dsimp only at pg
  try dsimp only
  obtain ⟨pk, pa⟩ := pg
  have jp := List.length_take_le g l
  have ji := a2r (h := D0 l (f8, a7)) (p := (ltF (f8, a7))) (f := (f8, a7)) (l := l.take g)
  refine f0 m0 fun eaA0_0 laA0_0 => ?_
  subst eaA0_0
  refine Eq_ (Ew Z4 (Em rfl (Em rfl (Ey rfl ((Y.len us_Facts rfl).yd) (Ey rfl ((Y.lss rfl rfl).yd) (j4 (fun q15 => ?_) (fun q15 => ?_)))))))
  ·refine Eu (j9 rfl (f5 (Et (Eq_ (E.block (Eq_ (Eq_ (D.region (fun j => true) mixed (Dyp 0 rfl (i0 rfl) (u5 (fun q18 => ?_) (fun q18 => ?_)))))))))))
   ·refine Dyp 1 rfl (Y.not (b := true) rfl) (Dyp 2 rfl (i0 rfl) (Dsk 3 rfl (Dsk 4 rfl (Dsk 5 rfl (Dsk 6 rfl (Dsk 7 rfl (Dsk 8 rfl (Dsk 9 rfl (Dyp 10 rfl (w7 rfl rfl) (o0 kr (Et (j8 rfl (f5 (Et (D.region (fun j => !(Nat.beq j 13)) mixed (Dyp 0 rfl (i0 rfl) (Dyp 1 rfl (i0 rfl) (Dyp 2 rfl (i0 rfl) ?_))))))))))))))))))
    obtain ⟨eb40, eo40, ec40, ea40, er40, el40, eh40⟩ := hl.elem g om
    obtain ⟨xa40_0, xc40_0, rfl, ei40_0, xh40_0⟩ := K7 er40
    have := xh40_0.slen.2
    refine Dyp 3 rfl (o6 us_Facts ty_Fact rfl ea40 rfl g rfl om) (Dyp 4 rfl (f9 fo_Fact_0 d9 dc rfl) (Dy 5 rfl (f6 d9 rfl ((eh40 _).sub (cs' := [_]) 0 rfl) rfl) (Dyp 6 rfl (i0 rfl) (Dyp 7 rfl (i0 rfl) (Dyp 8 rfl (o6 us_Facts ty_Fact rfl ea40 rfl g rfl om) (Dyp 9 rfl (f9 fo_Fact_1 ty_Is dc rfl) (Dy 10 rfl (f6 ty_Is rfl ((eh40 _).sub (cs' := [_]) 1 rfl) rfl) (t7 11 rfl rfl kr (fun _ => rfl) (N.call (F7 (hyl _ (List.getElem_mem om))) rfl rfl rfl dc rfl (fun w Lp hA => ⟨ei40_0, hA.ro xh40_0⟩)) (fun k48 _ => ?_)))))))))
    obtain ⟨a48, m48, c48⟩ := k48
    refine f0 m0 fun e48 l48 => ?_
    subst e48
    refine t7 12 rfl rfl kr (fun _ => rfl) (Nb [_] [_, _] us_Facts ty_Fact rfl rfl) (fun b49 _ => (d7 (d7 (g9 (t7 13 rfl rfl kr (fun h => by cases h) (u4 (E := F2) (ex := l[g]) us_Facts ty_Fact rfl rfl rfl (G1 (x := l[g]) ei40_0 Own.ow) rfl bn bn dc) (fun p50 _ => (Dyp 14 rfl (D8 rfl) (o0 kr (n9 (Et (Ez Z3 (Em rfl (Ey rfl ((Y.add rfl rfl om om).yd) (Ei rfl (Eu (i9 (congrArg (ow B9 [_]) (show (addS (D0 l (f8, a7)) (ltF (f8, a7)) (f8, a7) (l.take g)) ++ [l[g]] = addS (D0 l (f8, a7)) (ltF (f8, a7)) (f8, a7) (l.take (g + 1)) from by grind [C8, y6, y7, B3, x6, G8, d1, d2, t1, t2])) (d7 (d7 ?_))))))))))))))))))
    exact t8 br (g + 1, p50.1, ((addS (D0 l (f8, a7)) (ltF (f8, a7)) (f8, a7) (l.take g)).length + 1), p50.2) ⟨rfl, rfl, rfl, frB (by grind [C8, y6, y7, B3, x6, G8, d1, d2, t1, t2]), rfl, trivial⟩ (.refl _) ⟨oz, trivial⟩ oz
   ·refine Dyp 1 rfl (Y.not (b := false) rfl) (Dyp 2 rfl (i0 rfl) (Dy 3 rfl (o1 (cs := [_, _]) ty_Fact rfl (Has.pt (mS m0)) rfl) (Dyp 4 rfl (i0 rfl) (Dyp 5 rfl (i0 rfl) ?_))))
    obtain ⟨eb24, eo24, ec24, ea24, er24, el24, eh24⟩ := hl.elem g om
    obtain ⟨xa24_0, xc24_0, rfl, ei24_0, xh24_0⟩ := K7 er24
    have := xh24_0.slen.2
    refine Dyp 6 rfl (o6 us_Facts ty_Fact rfl ea24 rfl g rfl om) (Dy 7 rfl (o1 (cs := [_, _]) ty_Fact rfl (eh24 _) rfl) (t7 8 rfl rfl kr (fun _ => rfl) (i8 L6 rfl rfl rfl dc (fun w Lp hA => ⟨G9, hA.ro B4, ei24_0, hA.ro xh24_0⟩)) (fun _ _ => (Dyp 9 rfl (Y.lss rfl rfl) (j4 (fun q27 => ?_) (fun q27 => ?_))))))
    ·refine Dyp 10 rfl (v6 rfl rfl) (o0 kr (Et (j9 rfl (Ew Z9 (Em rfl (Ey rfl ((f9 fo_Fact_0 d9 dc rfl).yd) (Ey rfl (f6 d9 rfl (Hz (mS m0) 0 rfl) rfl) (Ey rfl ((f9 fo_Fact_1 ty_Is dc rfl).yd) (Ey rfl (f6 ty_Is rfl (Hz (mS m0) 1 rfl) rfl) (Est rfl (N.call (F7 fc) rfl rfl rfl dc rfl (fun w Lp hA => ⟨G9, hA.ro B4⟩)) (fun k34 _ => ?_)))))))))))
     obtain ⟨a34, m34, c34⟩ := k34
     refine f0 m0 fun e34 l34 => ?_
     subst e34
     refine Est rfl (Nb [_] [_, _] us_Facts ty_Fact rfl rfl) (fun b35 _ => (d7 (d7 (g9 (Est rfl (u4 (E := F2) (ex := (f8, a7)) us_Facts ty_Fact rfl rfl rfl (G1 (x := (f8, a7)) G9 Own.ow) rfl bn bn dc) (fun p36 _ => (Ei rfl (Eu (Ez Z1 (Ei rfl (Eu (D.region (fun j => !(Nat.beq j 13)) mixed (Dyp 0 rfl (i0 rfl) (Dyp 1 rfl (i0 rfl) (Dyp 2 rfl (i0 rfl) (Dyp 3 rfl (o6 us_Facts ty_Fact rfl ea24 rfl g rfl om) (Dyp 4 rfl (f9 fo_Fact_0 d9 dc rfl) (Dy 5 rfl (f6 d9 rfl ((eh24 _).sub (cs' := [_]) 0 rfl) rfl) (Dyp 6 rfl (i0 rfl) (Dyp 7 rfl (i0 rfl) ?_))))))))))))))))))))
     refine Dyp 8 rfl (o6 us_Facts ty_Fact rfl ea24 rfl g rfl om) (Dyp 9 rfl (f9 fo_Fact_1 ty_Is dc rfl) (Dy 10 rfl (f6 ty_Is rfl ((eh24 _).sub (cs' := [_]) 1 rfl) rfl) (t7 11 rfl rfl kr (fun _ => rfl) (N.call (F7 (hyl _ (List.getElem_mem om))) rfl rfl rfl dc rfl (fun w Lp hA => ⟨ei24_0, hA.ro xh24_0⟩)) (fun k48 _ => ?_))))
     obtain ⟨a48, m48, c48⟩ := k48
     refine f0 m0 fun e48 l48 => ?_
     subst e48
     refine t7 12 rfl rfl kr (fun _ => rfl) (Nb [_] [_, _] us_Facts ty_Fact rfl rfl) (fun b49 _ => (d7 (d7 (g9 (t7 13 rfl rfl kr (fun h => by cases h) (u4 (E := F2) (ex := l[g]) us_Facts ty_Fact rfl rfl rfl (G1 (x := l[g]) ei24_0 Own.ow) rfl bn bn dc) (fun p50 _ => (Dyp 14 rfl (D8 rfl) (o0 kr (n9 (Et (Ez Z3 (Em rfl (Ey rfl ((Y.add rfl rfl om om).yd) (Ei rfl (Eu (i9 (congrArg (ow B9 [_]) (show ((addS (D0 l (f8, a7)) (ltF (f8, a7)) (f8, a7) (l.take g)) ++ [(f8, a7)]) ++ [l[g]] = addS (D0 l (f8, a7)) (ltF (f8, a7)) (f8, a7) (l.take (g + 1)) from by grind [C8, y6, y7, B3, x6, G8, d1, d2, t1, t2])) (d7 (d7 ?_))))))))))))))))))
     exact t8 br (g + 1, p50.1, (((addS (D0 l (f8, a7)) (ltF (f8, a7)) (f8, a7) (l.take g)).length + 1) + 1), p50.2) ⟨rfl, rfl, rfl, frB (by grind [C8, y6, y7, B3, x6, G8, d1, d2, t1, t2]), rfl, trivial⟩ (.refl _) ⟨oz, trivial⟩ oz
    ·refine Dyp 10 rfl (v6 rfl rfl) (o0 kr (Et (j8 rfl (f5 (Et (D.region (fun j => !(Nat.beq j 13)) mixed (Dyp 0 rfl (i0 rfl) (Dyp 1 rfl (i0 rfl) (Dyp 2 rfl (i0 rfl) (Dyp 3 rfl (o6 us_Facts ty_Fact rfl ea24 rfl g rfl om) (Dyp 4 rfl (f9 fo_Fact_0 d9 dc rfl) (Dy 5 rfl (f6 d9 rfl ((eh24 _).sub (cs' := [_]) 0 rfl) rfl) (Dyp 6 rfl (i0 rfl) (Dyp 7 rfl (i0 rfl) (Dyp 8 rfl (o6 us_Facts ty_Fact rfl ea24 rfl g rfl om) (Dyp 9 rfl (f9 fo_Fact_1 ty_Is dc rfl) (Dy 10 rfl (f6 ty_Is rfl ((eh24 _).sub (cs' := [_]) 1 rfl) rfl) (t7 11 rfl rfl kr (fun _ => rfl) (N.call (F7 (hyl _ (List.getElem_mem om))) rfl rfl rfl dc rfl (fun w Lp hA => ⟨ei24_0, hA.ro xh24_0⟩)) (fun k48 _ => ?_)))))))))))))))))))
     obtain ⟨a48, m48, c48⟩ := k48
     refine f0 m0 fun e48 l48 => ?_
     subst e48
     refine t7 12 rfl rfl kr (fun _ => rfl) (Nb [_] [_, _] us_Facts ty_Fact rfl rfl) (fun b49 _ => (d7 (d7 (g9 (t7 13 rfl rfl kr (fun h => by cases h) (u4 (E := F2) (ex := l[g]) us_Facts ty_Fact rfl rfl rfl (G1 (x := l[g]) ei24_0 Own.ow) rfl bn bn dc) (fun p50 _ => (Dyp 14 rfl (D8 rfl) (o0 kr (n9 (Et (Ez Z3 (Em rfl (Ey rfl ((Y.add rfl rfl om om).yd) (Ei rfl (Eu (i9 (congrArg (ow B9 [_]) (show (addS (D0 l (f8, a7)) (ltF (f8, a7)) (f8, a7) (l.take g)) ++ [l[g]] = addS (D0 l (f8, a7)) (ltF (f8, a7)) (f8, a7) (l.take (g + 1)) from by grind [C8, y6, y7, B3, x6, G8, d1, d2, t1, t2])) (d7 (d7 ?_))))))))))))))))))
     exact t8 br (g + 1, p50.1, ((addS (D0 l (f8, a7)) (ltF (f8, a7)) (f8, a7) (l.take g)).length + 1), p50.2) ⟨rfl, rfl, rfl, frB (by grind [C8, y6, y7, B3, x6, G8, d1, d2, t1, t2]), rfl, trivial⟩ (.refl _) ⟨oz, trivial⟩ oz
  ·refine Eu (j8 rfl (E.exit (l2 (l2 (w8 (Et (Eq_ (Ew Z2 (Em rfl (u5 (fun q51 => ?_) (fun q51 => ?_)))))))))))
   ·refine Ey rfl ((Y.not (b := true) rfl).yd) (Eu (j8 rfl (f5 (Et (Ew Z2 (Em rfl (Ei rfl (Eu (E.ret (i9 (congrArg (ow B9 [_]) (show _ = C8 l (f8, a7) by grind [C8, y6, y7, B3, x6, G8, d1, d2, t1, t2])) ?_))))))))))
    exact Fg rfl rfl (_, _, _) rfl rfl
   ·refine Ey rfl ((Y.not (b := false) rfl).yd) (Eu (j9 rfl (Ez Z9 (Em rfl (Ey rfl ((f9 fo_Fact_0 d9 dc rfl).yd) (Ey rfl (f6 d9 rfl (Hz (mS m0) 0 rfl) rfl) (Ey rfl ((f9 fo_Fact_1 ty_Is dc rfl).yd) (Ey rfl (f6 ty_Is rfl (Hz (mS m0) 1 rfl) rfl) (Est rfl (N.call (F7 fc) rfl rfl rfl dc rfl (fun w Lp hA => ⟨G9, hA.ro B4⟩)) (fun k58 _ => ?_))))))))))
    obtain ⟨a58, m58, c58⟩ := k58
    refine f0 m0 fun e58 l58 => ?_
    subst e58
    refine Est rfl (Nb [_] [_, _] us_Facts ty_Fact rfl rfl) (fun b59 _ => (d7 (d7 (g9 (Est rfl (u4 (E := F2) (ex := (f8, a7)) us_Facts ty_Fact rfl rfl rfl (G1 (x := (f8, a7)) G9 Own.ow) rfl bn bn dc) (fun p60 _ => (Ei rfl (Ev Z2 (Em rfl (Ei rfl (Eu (E.ret (i9 (congrArg (ow B9 [_]) (show _ = C8 l (f8, a7) by grind [C8, y6, y7, B3, x6, G8, d1, d2, t1, t2])) ?_)))))))))))))
    exact Fg rfl rfl (_, _, _) rfl rfl
theorem a2M : Tr Tryz.prog 56 [.slice a_s m_s c_s, .slice a_l m_l c_l] (fun w L => Ro w L eIs [.slice a_s m_s c_s] s ∧ Ro w L B9 [.slice a_l m_l c_l] l) [] (κ := Unit) (fun k => True) (fun k => .bool (C9 s l)) (fun k => []) := by
 refine Tr.intro Tryz.func56 rfl (n := 40) rfl (by decide +kernel) bl (fr := [(0, .slice a_s m_s c_s), (1, .slice a_l m_l c_l)]) rfl fun w L hR => ?_
 obtain ⟨hs, hl⟩ := hR
 obtain ⟨rfl, ls⟩ := hs.slen
 obtain ⟨rfl, ll⟩ := hl.slen
 refine Ew Z1 (Ei rfl (Eu (Eq_ (Ew Z3 (Em rfl (Ey rfl ((Y.len us_Facts rfl).yd) (Em rfl (Eu (E.block (E.loop (κ := Nat) (fun g => g ≤ l.length ∧ P5 s l 0 = P5 s l g) (fun g => [(0, .slice a_s s.length c_s), (1, .slice a_l l.length c_l), (7, .slice a_l l.length c_l), (8, .int .i64 (↑l.length : Int)), (9, .int .i64 (g : Int))]) (fun g => []) (fun g => l.length - g) 0 ⟨Nat.zero_le _, by simp⟩ ⟨rfl, rfl, rfl, rfl, rfl, trivial⟩ (.refl _) (fun g pg => ?_)))))))))))
 obtain ⟨pk, pa⟩ := pg
 refine Ew Z1 (Ey rfl ((Y.lss rfl rfl).yd) (j4 (fun q10 => ?_) (fun q10 => ?_)))
 ·refine Eu (Eq_ (j9 rfl (f5 (Et (Eq_ (E.block (Ew Z6 (Em rfl ?_))))))))
  obtain ⟨eb12, eo12, ec12, ea12, er12, el12, eh12⟩ := hl.elem g om
  obtain ⟨xa12_0, xc12_0, rfl, ei12_0, xh12_0⟩ := K7 er12
  have := xh12_0.slen.2
  refine Ey rfl ((o6 us_Facts ty_Fact rfl ea12 rfl g rfl om).yd) (Ey rfl (o1 (cs := [_, _]) ty_Fact rfl (eh12 _) rfl) (Est rfl (N.alloc ty_Fact dc) (fun b6 _ => (Ei rfl (Est rfl (Ns [_, _] ty_Fact rfl) (fun _ _ => (Eu (Eq_ (D.region (fun j => true) mixed (Dyp 0 rfl (i0 rfl) (Dy 1 rfl (o1 (cs := [_, _]) ty_Fact rfl (Has.pt m0) rfl) (t7 2 rfl rfl kr (fun _ => rfl) (i8 a4m rfl rfl rfl dc (fun w Lp hA => ⟨hA.ro hs, ei12_0, hA.ro xh12_0⟩)) (fun _ _ => (u5 (fun q16 => ?_) (fun q16 => ?_)))))))))))))))
  ·refine Dyp 3 rfl (Y.not (b := true) rfl) (Dyp 4 rfl (i0 rfl) (Dyp 5 rfl (i0 rfl) (Dyp 6 rfl (Y.gtr rfl rfl) (j4 (fun q20 => ?_) (fun q20 => ?_)))))
   ·refine Dyp 7 rfl (i0 rfl) (Dyp 8 rfl (i0 rfl) (Dyp 9 rfl (i0 rfl) (Dyp 10 rfl (Y.sub rfl rfl om om) ?_)))
    obtain ⟨eb25, eo25, ec25, ea25, er25, el25, eh25⟩ := hl.elem (g - 1) om
    obtain ⟨xa25_0, xc25_0, rfl, ei25_0, xh25_0⟩ := K7 er25
    have := xh25_0.slen.2
    refine Dyp 11 rfl (o6 us_Facts ty_Fact rfl ea25 rfl (g - 1) om om) (Dy 12 rfl (o1 (cs := [_, _]) ty_Fact rfl (eh25 _) rfl) (Dy 13 rfl (o1 (cs := [_, _]) ty_Fact rfl (Has.pt m0) rfl) (t7 14 rfl rfl kr (fun _ => rfl) (i8 a1e rfl rfl rfl dc (fun w Lp hA => ⟨ei25_0, hA.ro xh25_0, ei12_0, hA.ro xh12_0⟩)) (fun _ _ => (Dyp 15 rfl (Y.geq rfl rfl) (j4 (fun q29 => ?_) (fun q29 => ?_)))))))
    ·refine Dyp 16 rfl (v6 rfl rfl) (Dyp 17 rfl (w7 rfl rfl) (o0 kr (Et (j9 rfl (Ew Z1 (Ei rfl ?_))))))
     exact Eu (E.ret (w9 (j5 (j5 (w9 (j5 (Fb rfl rfl (by grind [C9, P5, F8, G0, H8, ltF, d1, d2, t1, t2]))))))))
    ·refine Dyp 16 rfl (v6 rfl rfl) (Dyp 17 rfl (w7 rfl rfl) (o0 kr (Et (j8 rfl (f5 (n9 (Et (Ez Z2 (Ey rfl ((Y.add rfl rfl om om).yd) (Em rfl (Eu (Ent.drop ?_))))))))))))
     exact t8 br (g + 1) rs (.refl _) ⟨by omega, by grind [P5, F8, G0, H8, ltF, Bool.and_assoc, d1, d2, t1, t2]⟩ om
   ·refine Dyp 7 rfl (i0 rfl) (Dsk 8 rfl (Dsk 9 rfl (Dsk 10 rfl (Dsk 11 rfl (Dsk 12 rfl (Dsk 13 rfl (Dsk 14 rfl (Dsk 15 rfl (Dyp 16 rfl (w7 rfl rfl) (Dyp 17 rfl (w7 rfl rfl) (o0 kr (Et (j8 rfl (f5 (n9 (Et (Ez Z2 (Ey rfl ((Y.add rfl rfl om om).yd) (Em rfl (Eu (Ent.drop ?_)))))))))))))))))))))
    exact t8 br (g + 1) rs (.refl _) ⟨by omega, by grind [P5, F8, G0, H8, ltF, Bool.and_assoc, d1, d2, t1, t2]⟩ om
  ·refine Dyp 3 rfl (Y.not (b := false) rfl) (Dyp 4 rfl (i0 rfl) (Dsk 5 rfl (Dsk 6 rfl (a8J 7 rfl rfl dc kr (Dsk 8 rfl (Dsk 9 rfl (Dsk 10 rfl (Dsk 11 rfl (Dsk 12 rfl (Dsk 13 rfl (Dsk 14 rfl (Dsk 15 rfl (Dsk 16 rfl (Dyp 17 rfl (v6 rfl rfl) ?_))))))))))))))
   refine o0 kr (Et (j9 rfl (Ew Z1 (Ei rfl ?_))))
   exact Eu (E.ret (w9 (j5 (j5 (w9 (j5 (Fb rfl rfl (by grind [C9, P5, F8, G0, H8, ltF, d1, d2, t1, t2]))))))))
 ·refine Eu (Eq_ (j8 rfl (E.exit (l2 (l2 (w8 (Et (Ew Z8 (Em rfl (Est rfl (i8 U3 rfl rfl rfl dc (fun w Lp hA => hA.ro hs)) (fun _ _ => (u5 (fun q34 => ?_) (fun q34 => ?_)))))))))))))
  ·refine Em rfl (Em rfl (Ey rfl ((Y.len us_Facts rfl).yd) (Ey rfl ((Y.leq rfl rfl).yd) (Ey rfl ((v6 rfl rfl).yd) (Ei rfl ?_)))))
   exact Eu (E.ret (Fb rfl rfl (by grind [C9, P5, F8, G0, H8, ltF, d1, d2, t1, t2])))
  ·refine Em rfl (Es rfl (Es rfl (Es rfl (Ey rfl ((w7 rfl rfl).yd) (Ei rfl ?_)))))
   exact Eu (E.ret (Fb rfl rfl (by grind [C9, P5, F8, G0, H8, ltF, d1, d2, t1, t2])))
theorem a0i : Tr Tryz.prog 14 [.slice a_s m_s c_s, .slice a_l m_l c_l] (fun w L => Ro w L eIs [.slice a_s m_s c_s] s ∧ Ro w L B9 [.slice a_l m_l c_l] l) [] (κ := Unit) (fun k => True) (fun k => .bool (C9 s l)) (fun k => []) := by
 refine Tr.intro Tryz.func14 rfl (n := 43) rfl (by decide +kernel) bl (fr := [(0, .slice a_s m_s c_s), (1, .slice a_l m_l c_l)]) rfl fun w L hR => ?_
 obtain ⟨hs, hl⟩ := hR
 obtain ⟨rfl, ls⟩ := hs.slen
 obtain ⟨rfl, ll⟩ := hl.slen
 refine Ew Z1 (Ei rfl (Eu (Eq_ (Ew Z1 (Ei rfl (Eu (E.block (E.loop (κ := Nat) (fun g => g ≤ l.length ∧ P5 s l 0 = P5 s l g) (fun g => [(0, .slice a_s s.length c_s), (1, .slice a_l l.length c_l), (5, .int .i64 (g : Int))]) (fun g => []) (fun g => l.length - g) 0 ⟨Nat.zero_le _, by simp⟩ ⟨rfl, rfl, rfl, trivial⟩ (.refl _) (fun g pg => ?_)))))))))
 obtain ⟨pk, pa⟩ := pg
 refine Eq_ (Ew Z4 (Em rfl (Em rfl (Ey rfl ((Y.len us_Facts rfl).yd) (Ey rfl ((Y.lss rfl rfl).yd) (j4 (fun q9 => ?_) (fun q9 => ?_)))))))
 ·refine Eu (j9 rfl (f5 (Et (Eq_ (E.block (Eq_ (D.region (fun j => true) mixed (Dyp 0 rfl (i0 rfl) (Dyp 1 rfl (i0 rfl) (Dyp 2 rfl (i0 rfl) ?_))))))))))
  obtain ⟨eb15, eo15, ec15, ea15, er15, el15, eh15⟩ := hl.elem g om
  obtain ⟨xa15_0, xc15_0, rfl, ei15_0, xh15_0⟩ := K7 er15
  have := xh15_0.slen.2
  refine Dyp 3 rfl (o6 us_Facts ty_Fact rfl ea15 rfl g rfl om) (Dy 4 rfl (o1 (cs := [_, _]) ty_Fact rfl (eh15 _) rfl) (t7 5 rfl rfl kr (fun _ => rfl) (i8 a4c rfl rfl rfl dc (fun w Lp hA => ⟨hA.ro hs, ei15_0, hA.ro xh15_0⟩)) (fun _ _ => (u5 (fun q17 => ?_) (fun q17 => ?_)))))
  ·refine Dyp 6 rfl (Y.not (b := true) rfl) (Dyp 7 rfl (i0 rfl) (Dyp 8 rfl (i0 rfl) (Dyp 9 rfl (Y.gtr rfl rfl) (j4 (fun q21 => ?_) (fun q21 => ?_)))))
   ·refine Dyp 10 rfl (i0 rfl) (Dyp 11 rfl (i0 rfl) (Dyp 12 rfl (i0 rfl) (Dyp 13 rfl (Y.sub rfl rfl om om) ?_)))
    obtain ⟨eb26, eo26, ec26, ea26, er26, el26, eh26⟩ := hl.elem (g - 1) om
    obtain ⟨xa26_0, xc26_0, rfl, ei26_0, xh26_0⟩ := K7 er26
    have := xh26_0.slen.2
    refine Dyp 14 rfl (o6 us_Facts ty_Fact rfl ea26 rfl (g - 1) om om) (Dy 15 rfl (o1 (cs := [_, _]) ty_Fact rfl (eh26 _) rfl) (Dyp 16 rfl (i0 rfl) (Dyp 17 rfl (i0 rfl) (Dyp 18 rfl (o6 us_Facts ty_Fact rfl ea15 rfl g rfl om) (Dy 19 rfl (o1 (cs := [_, _]) ty_Fact rfl (eh15 _) rfl) (t7 20 rfl rfl kr (fun _ => rfl) (i8 L6 rfl rfl rfl dc (fun w Lp hA => ⟨ei26_0, hA.ro xh26_0, ei15_0, hA.ro xh15_0⟩)) (fun _ _ => (Dyp 21 rfl (Y.geq rfl rfl) (j4 (fun q33 => ?_) (fun q33 => ?_))))))))))
    ·refine Dyp 22 rfl (v6 rfl rfl) (Dyp 23 rfl (w7 rfl rfl) (o0 kr (Et (j9 rfl (Ew Z1 (Ei rfl ?_))))))
     exact Eu (E.ret (w9 (j5 (j5 (w9 (j5 (Fb rfl rfl (by grind [C9, P5, F8, G0, H8, ltF, d1, d2, t1, t2]))))))))
    ·refine Dyp 22 rfl (v6 rfl rfl) (Dyp 23 rfl (w7 rfl rfl) (o0 kr (Et (j8 rfl (f5 (n9 (Et (Ez Z3 (Em rfl (Ey rfl ((Y.add rfl rfl om om).yd) (Ei rfl ?_)))))))))))
     exact Eu (t8 br (g + 1) rs (.refl _) ⟨by omega, by grind [P5, F8, G0, H8, ltF, Bool.and_assoc, d1, d2, t1, t2]⟩ om)
   ·refine Dyp 10 rfl (i0 rfl) (Dsk 11 rfl (Dsk 12 rfl (Dsk 13 rfl (Dsk 14 rfl (Dsk 15 rfl (Dsk 16 rfl (Dsk 17 rfl (Dsk 18 rfl (Dsk 19 rfl (Dsk 20 rfl (Dsk 21 rfl (Dyp 22 rfl (w7 rfl rfl) (Dyp 23 rfl (w7 rfl rfl) (o0 kr (Et (j8 rfl (f5 (n9 (Et (Ez Z3 (Em rfl ?_)))))))))))))))))))))
    refine Ey rfl ((Y.add rfl rfl om om).yd) (Ei rfl ?_)
    exact Eu (t8 br (g + 1) rs (.refl _) ⟨by omega, by grind [P5, F8, G0, H8, ltF, Bool.and_assoc, d1, d2, t1, t2]⟩ om)
  ·refine Dyp 6 rfl (Y.not (b := false) rfl) (Dyp 7 rfl (i0 rfl) (Dsk 8 rfl (Dsk 9 rfl (a8J 10 rfl rfl dc kr (Dsk 11 rfl (Dsk 12 rfl (Dsk 13 rfl (Dsk 14 rfl (Dsk 15 rfl (Dsk 16 rfl (Dsk 17 rfl (Dsk 18 rfl (Dsk 19 rfl (Dsk 20 rfl ?_))))))))))))))
   refine Dsk 21 rfl (Dsk 22 rfl (Dyp 23 rfl (v6 rfl rfl) (o0 kr (Et (j9 rfl (Ew Z1 (Ei rfl ?_)))))))
   exact Eu (E.ret (w9 (j5 (j5 (w9 (j5 (Fb rfl rfl (by grind [C9, P5, F8, G0, H8, ltF, d1, d2, t1, t2]))))))))
 ·refine Eu (j8 rfl (E.exit (l2 (l2 (w8 (Et (Ew Z8 (Em rfl (Est rfl (i8 H5 rfl rfl rfl dc (fun w Lp hA => hA.ro hs)) (fun _ _ => (u5 (fun q37 => ?_) (fun q37 => ?_))))))))))))
  ·refine Em rfl (Em rfl (Ey rfl ((Y.len us_Facts rfl).yd) (Ey rfl ((Y.leq rfl rfl).yd) (Ey rfl ((v6 rfl rfl).yd) (Ei rfl ?_)))))
   exact Eu (E.ret (Fb rfl rfl (by grind [C9, P5, F8, G0, H8, ltF, d1, d2, t1, t2])))
  ·refine Em rfl (Es rfl (Es rfl (Es rfl (Ey rfl ((w7 rfl rfl).yd) (Ei rfl ?_)))))
   exact Eu (E.ret (Fb rfl rfl (by grind [C9, P5, F8, G0, H8, ltF, d1, d2, t1, t2])))
end Go.Proofs.YtfnbilpemdgkkaaGreatDoor
