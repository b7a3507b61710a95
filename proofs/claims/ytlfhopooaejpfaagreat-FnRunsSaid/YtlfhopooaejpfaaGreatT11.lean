import Derived.Test.YtlfhopooaejpfaaGreatT6
import Derived.Test.YtlfhopooaejpfaaGreatBf
namespace Go.Proofs.YtlfhopooaejpfaaGreat
open Go.RowKit
set_option linter.all false
set_option maxHeartbeats 2000000
attribute [local irreducible] Nop Yd Yp Ent Has Tr FnP FnP2 Src M0 S8 V1 W0 G4
variable {x t l2 : Int} {a6 : List (Int × List Int)} {f9 l s d9 : List Int} {t6 r5 s7 o1 m_l c_l m_s c_s C6 w6 : Nat} {r6 o2 a_l a_s w7 : Option Addr}
theorem a7B {a_atoms : Option Addr} {m_atoms c_atoms : Nat} {d8 : List (Int × List Int)} {is_g : FuncId} {is_c : List Value} {D_is : Int → Prop} {is : Int → Bool} (hz : O5 (fun x => x.2.length) d8 ≤ 1048576) (hD_is : ∀ a ∈ d8, ∀ x ∈ a.2, D_is x) : Tr Tryz.prog 158 [.slice a_atoms m_atoms c_atoms, .func (.func is_g) #[] is_c.toArray] (fun w L => Ro w L G8 [.slice a_atoms m_atoms c_atoms] d8 ∧ FnP Tryz.prog w L is_g is_c Enc.int a5d D_is is) [] (κ := Option Addr × Nat × Nat) (fun k => True) (fun k => .slice k.1 k.2.1 k.2.2) (fun k => [ow eIs [.slice k.1 k.2.1 k.2.2] (B7 is d8)]) := by
 refine Tr.intro Tryz.func158 rfl (n := 37) rfl (by decide +kernel) bl (fr := [(0, .slice a_atoms m_atoms c_atoms), (1, .func (.func is_g) #[] is_c.toArray)]) rfl fun w L hR => ?_
 obtain ⟨hatoms, his⟩ := hR
 obtain ⟨rfl, latoms⟩ := hatoms.slen
 refine Ew Z1 (Ei rfl (Ev Z2 (Est rfl (Nb [] [] us_Is f0 rfl rfl) (fun b10 _ => (Ent.drop (Ei rfl (Eu (Eq_ (Ew Z3 (Em rfl (Ey rfl ((Y.len us_Atoms rfl).yd) (Em rfl (Eu (E.block (n9 (A := []) (Own.nil (E := Enc.int) (e := tI) (a := (some ⟨b10, 0, none⟩))) rfl (j8 (congrArg (ow eIs [_]) (show [] = ((d8.take 0).flatMap (fun a : Int × List Int => a.2)).filter is from by first | rfl | (simp; done) | grind [B7, a0c, d1, d2, t1, t2])) (E.loop (κ := Nat × Option Addr × Nat × Nat) (fun g => g.1 ≤ d8.length ∧ True) (fun g => [(1, .func (.func is_g) #[] is_c.toArray), (5, .slice g.2.1 g.2.2.1 g.2.2.2), (11, .slice a_atoms d8.length c_atoms), (12, .int .i64 (↑d8.length : Int)), (13, .int .i64 (↑g.1 : Int))]) (fun g => [ow eIs [.slice g.2.1 g.2.2.1 g.2.2.2] (((d8.take g.1).flatMap (fun a : Int × List Int => a.2)).filter is)]) (fun g => d8.length - g.1) (0, (some ⟨b10, 0, none⟩), 0, 0) ⟨Nat.zero_le _, by simp⟩ ⟨rfl, rfl, rfl, rfl, rfl, trivial⟩ (.refl _) (fun g pg => ?_))))))))))))))))))
 obtain ⟨g, aA0_0, mA0_0, cA0_0⟩ := g
 try dsimp only at pg
 try dsimp only
 obtain ⟨pk, pa⟩ := pg
 have jt := b3h (is := is) (g := g) hz
 refine i9 m0 fun eaA0_0 laA0_0 => ?_
 subst eaA0_0
 refine Ew Z1 (Ey rfl ((Y.lss rfl rfl).yd) (n0 (fun q14 => ?_) (fun q14 => ?_)))
 ·obtain ⟨eb15, eo15, ec15, ea15, er15, el15, eh15⟩ := hatoms.elem g om
  obtain ⟨xa15_0, xc15_0, rfl, ei15_0, xh15_0⟩ := P1 er15
  have := xh15_0.slen.2
  refine Eu (Eq_ (l4 rfl (i8 (Et (Eq_ (E.block (Ew Z4 (Ey rfl ((o6 us_Atoms ty_Atom rfl ea15 rfl g rfl om).yd) (Ey rfl (o0 (cs := [_, _]) ty_Atom rfl (eh15 _) rfl) (Est rfl (N.alloc ty_Atom dc) (fun b7 _ => (Est rfl (Ns [_, _] ty_Atom rfl) (fun _ _ => (Ev Z4 (Ey rfl ((i7 fo_Atom_1 ty_Is dc rfl).yd) (Ey rfl (f8 ty_Is rfl (Hz m0 1 rfl) rfl) (Ey rfl ((Y.len us_Is rfl).yd) (Em rfl (Eu (E.block (f7 (j8 (congrArg (ow eIs [_]) (show ((d8.take g).flatMap (fun a : Int × List Int => a.2)).filter is = ((d8.take g).flatMap (fun a : Int × List Int => a.2)).filter is ++ (d8[g].2.take 0).filter is from by first | rfl | (simp; done) | grind [B7, a0c, d1, d2, t1, t2])) (E.loop (κ := Nat × Option Addr × Nat × Nat) (fun h => h.1 ≤ d8[g].2.length ∧ True) (fun h => [(1, .func (.func is_g) #[] is_c.toArray), (5, .slice h.2.1 h.2.2.1 h.2.2.2), (11, .slice a_atoms d8.length c_atoms), (12, .int .i64 (↑d8.length : Int)), (13, .int .i64 (g : Int)), (18, .slice xa15_0 d8[g].2.length xc15_0), (19, .int .i64 (↑d8[g].2.length : Int)), (20, .int .i64 (↑h.1 : Int))]) (fun h => [ow eIs [.slice h.2.1 h.2.2.1 h.2.2.2] (((d8.take g).flatMap (fun a : Int × List Int => a.2)).filter is ++ (d8[g].2.take h.1).filter is), pt b7 81 [.int .i64 d8[g].1, .slice xa15_0 d8[g].2.length xc15_0]]) (fun h => d8[g].2.length - h.1) (0, aA0_0, (((d8.take g).flatMap (fun a : Int × List Int => a.2)).filter is).length, cA0_0) ⟨Nat.zero_le _, by simp⟩ ⟨rfl, rfl, rfl, rfl, rfl, rfl, rfl, rfl, trivial⟩ (.refl _) (fun h ph => ?_))))))))))))))))))))))))
  obtain ⟨h, aA1_0, mA1_0, cA1_0⟩ := h
  try dsimp only at ph
  try dsimp only
  obtain ⟨pk, pa⟩ := ph
  have ju := a6R (is := is) (g := g) (h := h) hz om
  refine i9 m0 fun eaA1_0 laA1_0 => ?_
  subst eaA1_0
  refine Ew Z1 (Ey rfl ((Y.lss rfl rfl).yd) (n0 (fun q21 => ?_) (fun q21 => ?_)))
  ·obtain ⟨eb22, eo22, ea22, ei22, eh22⟩ := xh15_0.elemI h om
   refine Eu (Eq_ (l4 rfl (i8 (Et (Eq_ (E.block (Ew Z3 (Ey rfl ((o6 us_Is f0 rfl ea22 rfl h rfl om).yd) (Ey rfl (f8 f0 rfl (eh22 _) rfl) (Ei rfl (Ev Z3 (Em rfl (Em rfl (Est rfl (N.fn (cs := [_]) his rfl rfl rfl dc (fun w Lp hA => W2 ei22) (hD_is d8[g] (List.getElem_mem om) _ (List.getElem_mem om))) (fun _ _ => (Ent.b (fun q26 => ?_) (fun q26 => ?_)))))))))))))))))
   ·refine Eu (l4 rfl (Ez Z5 (Em rfl (Em rfl (Est rfl (Nb [_] [_] us_Is f0 rfl rfl) (fun b29 _ => (f7 (Est rfl (y6 (E := Enc.int) (ex := d8[g].2[h]) us_Is f0 rfl rfl rfl (Own.int ei22) rfl bn bn dc) (fun p30 _ => (Ei rfl (En (o4 (Et (Ez Z2 (Ey rfl ((Y.add rfl rfl om om).yd) (Em rfl (Eu (j8 (congrArg (ow eIs [_]) (show (((d8.take g).flatMap (fun a : Int × List Int => a.2)).filter is ++ (d8[g].2.take h).filter is) ++ [d8[g].2[h]] = ((d8.take g).flatMap (fun a : Int × List Int => a.2)).filter is ++ (d8[g].2.take (h + 1)).filter is from by grind [B7, a0c, d1, d2, t1, t2])) (f7 (f7 ?_))))))))))))))))))))
    exact Ea (h + 1, p30.1, ((((d8.take g).flatMap (fun a : Int × List Int => a.2)).filter is ++ (d8[g].2.take h).filter is).length + 1), p30.2) ⟨oz, trivial⟩
   ·refine Eu (l6 rfl (i8 (o4 (Et (Ez Z2 (Ey rfl ((Y.add rfl rfl om om).yd) (Em rfl (Eu (j8 (congrArg (ow eIs [_]) (show ((d8.take g).flatMap (fun a : Int × List Int => a.2)).filter is ++ (d8[g].2.take h).filter is = ((d8.take g).flatMap (fun a : Int × List Int => a.2)).filter is ++ (d8[g].2.take (h + 1)).filter is from by grind [B7, a0c, d1, d2, t1, t2])) (f7 (f7 ?_)))))))))))
    exact Ea (h + 1, aA1_0, (((d8.take g).flatMap (fun a : Int × List Int => a.2)).filter is ++ (d8[g].2.take h).filter is).length, cA1_0) ⟨oz, trivial⟩
  ·refine Eu (Eq_ (l6 rfl (E.exit (n8 (n8 (w5 (o4 (Et (Ez Z2 (Ey rfl ((Y.add rfl rfl om om).yd) (Em rfl (Eu (f7 (Ent.drop (j8 (congrArg (ow eIs [_]) (show ((d8.take g).flatMap (fun a : Int × List Int => a.2)).filter is ++ (d8[g].2.take h).filter is = ((d8.take (g + 1)).flatMap (fun a : Int × List Int => a.2)).filter is from by grind [B7, a0c, d1, d2, t1, t2])) ?_)))))))))))))))
   exact Ea (g + 1, aA1_0, (((d8.take g).flatMap (fun a : Int × List Int => a.2)).filter is ++ (d8[g].2.take h).filter is).length, cA1_0) ⟨oz, trivial⟩
 ·refine Eu (Eq_ (l6 rfl (E.exit (n8 (n8 (w5 (Et (Ew Z2 (Em rfl (Est rfl (N.call (pre := [_]) (b5R fc) rfl rfl rfl dc rfl tv) (fun _ _ => (Ev Z3 (Em rfl (Est rfl (N.call (pre := [_]) b1V rfl rfl rfl dc rfl tv) (fun k36 _ => ?_)))))))))))))))
  obtain ⟨a36, m36, c36⟩ := k36
  refine i9 m0 fun e36 l36 => ?_
  subst e36
  refine Ei rfl (Eu (E.ret (j8 (congrArg (ow eIs [_]) (show _ = B7 is d8 by rw [a0c]; grind [B7, d1, d2, t1, t2])) ?_)))
  exact Fg rfl rfl (_, _, _) rfl rfl
theorem a8Y (hz : O5 (fun x => x.2.length) a6 ≤ 1048576) : Tr Tryz.prog 207 [.agg #[.slice r6 t6 r5, .slice o2 s7 o1]] (fun w L => Ro w L eIs [.slice r6 t6 r5] f9 ∧ Ro w L G8 [.slice o2 s7 o1] a6) [] (κ := Option Addr × Nat × Nat) (fun k => True) (fun k => .slice k.1 k.2.1 k.2.2) (fun k => [ow eIs [.slice k.1 k.2.1 k.2.2] (B7 (fun t => inR t 10 17) a6)]) := by
 refine Tr.intro Tryz.func207 rfl (n := 6) rfl (by decide +kernel) bl (fr := [(0, .agg #[.slice r6 t6 r5, .slice o2 s7 o1])]) rfl fun w L hR => ?_
 obtain ⟨y8, v6⟩ := hR
 obtain ⟨rfl, N5⟩ := y8.slen
 obtain ⟨rfl, K9⟩ := v6.slen
 refine Ew Z2 (Est rfl (N.box (cs := [_, _]) rfl dc rfl) (fun b1 _ => (Ei rfl (Ev Z4 (Ey rfl ((i7 fo_Query_1 ty_Atoms dc rfl).yd) (Ey rfl (f8 ty_Atoms rfl (Hz m0 1 rfl) rfl) (Est rfl (N.call (a7B (is := (fun t => inR t 10 17)) (D_is := (fun _ => True)) fc (by intros; exact trivial)) rfl rfl rfl dc rfl (fun w Lp hA => ⟨hA.ro v6, a1N (D := (fun _ => True)) (RR := fun _ _ => True) (fun hd => b7B a0A (fun _ _ _ => trivial)) (fun w' hk => trivial)⟩)) (fun k5 _ => ?_))))))))
 obtain ⟨a5, m5, c5⟩ := k5
 refine i9 m0 fun e5 l5 => ?_
 subst e5
 refine Ei rfl ?_
 exact Eu (E.ret (Fg rfl rfl (_, _, _) rfl rfl))
theorem a0K : Tr Tryz.prog 61 [.slice a_l m_l c_l, .int .i64 x] (fun w L => Ro w L eIs [.slice a_l m_l c_l] l) [] (κ := Unit) (fun k => True) (fun k => .bool (G7 l x)) (fun k => []) := by
 refine Tr.intro Tryz.func61 rfl (n := 18) rfl (by decide +kernel) bl (fr := [(0, .slice a_l m_l c_l), (1, .int .i64 x)]) rfl fun w L hR => ?_
 have hl := hR
 obtain ⟨rfl, ll⟩ := hl.slen
 refine Ew Z1 (Ei rfl (Eu (Eq_ (Ew Z1 (Ei rfl (Eu (E.block (E.loop (κ := Nat) (fun g => g ≤ l.length ∧ G7 l x = G7 (l.drop g) x) (fun g => [(0, .slice a_l l.length c_l), (1, .int .i64 x), (5, .int .i64 (g : Int))]) (fun g => []) (fun g => l.length - g) 0 ⟨Nat.zero_le _, by simp⟩ ⟨rfl, rfl, rfl, trivial⟩ (.refl _) (fun g pg => ?_)))))))))
 obtain ⟨pk, pa⟩ := pg
 refine Eq_ (Ew Z4 (Em rfl (Em rfl (Ey rfl ((Y.len us_Is rfl).yd) (Ey rfl ((Y.lss rfl rfl).yd) (n0 (fun q9 => ?_) (fun q9 => ?_)))))))
 ·refine Eu (l4 rfl (i8 (Et (Eq_ (E.block (Ew Z6 (Em rfl (Em rfl ?_))))))))
  obtain ⟨eb14, eo14, ea14, ei14, eh14⟩ := hl.elemI g om
  refine Ey rfl ((o6 us_Is f0 rfl ea14 rfl g rfl om).yd) (Ey rfl (f8 f0 rfl (eh14 _) rfl) (Em rfl (Ey rfl ((Y.eql rfl rfl).yd) (n0 (fun q17 => ?_) (fun q17 => ?_)))))
  ·refine Eu (l4 rfl (Ew Z1 (Ei rfl ?_)))
   exact Eu (E.ret (t7 (l0 (l0 (t7 (l0 (Fb rfl rfl (by grind [G7, d1, d2, t1, t2]))))))))
  ·refine Eu (l6 rfl (i8 (o4 (Et (Ez Z3 (Em rfl (Ey rfl ((Y.add rfl rfl om om).yd) (Ei rfl ?_))))))))
   exact Eu (u9 br (g + 1) rs (.refl _) ⟨by omega, by grind [G7, d1, d2, t1, t2]⟩ om)
 ·refine Eu (l6 rfl (E.exit (n8 (n8 (w5 (Et (Ew Z1 (Ei rfl ?_))))))))
  exact Eu (E.ret (Fb rfl rfl (by grind [G7, d1, d2, t1, t2])))
theorem a4J (hz : l.length ≤ 1073741824) : Tr Tryz.prog 132 [.slice a_l m_l c_l, .int .i64 x] (fun w L => I64 x) [ow eIs [.slice a_l m_l c_l] l] (κ := Option Addr × Nat × Nat) (fun k => True) (fun k => .slice k.1 k.2.1 k.2.2) (fun k => [ow eIs [.slice k.1 k.2.1 k.2.2] (I7 l x)]) := by
 refine Tr.intro Tryz.func132 rfl (n := 47) rfl (by decide +kernel) bl (fr := [(0, .slice a_l m_l c_l), (1, .int .i64 x)]) rfl fun w L hR => ?_
 have i6x := hR
 refine i9 m0 fun el ll => ?_
 subst el
 refine Ew Z1 (Ei rfl (Eu (Eq_ (Ew Z3 (Em rfl (Em rfl (Est rfl (k6 a0K rfl rfl rfl dc (fun w Lp hA => hA.ow m0)) (fun _ _ => (Ent.b (fun q10 => ?_) (fun q10 => ?_))))))))))
 ·refine Eu (l4 rfl (Ew Z2 (Em rfl (Ei rfl (Eu (E.ret (l0 (j8 (congrArg (ow eIs [_]) (show _ = I7 l x by grind [I7, P4, P9, U5, d1, d2, t1, t2])) ?_))))))))
  exact Fg rfl rfl (_, _, _) rfl rfl
 ·refine O6 (A := [_]) rfl fun wb1 Lb1 hB1 hA1 => ?_
  have rb1 : Ro wb1 Lb1 eIs [.slice a_l l.length c_l] l := hA1.ow m0
  refine Eu (l6 rfl (i8 (Et (Ew Z2 (Est rfl (Nb [] [] us_Is f0 rfl rfl) (fun b12 _ => (Ent.drop (Ei rfl (Ev Z1 (Ei rfl (Eu (Eq_ (Ew Z1 (Ei rfl (Eu (E.block (n9 (A := []) (Own.nil (E := Enc.int) (e := tI) (a := (some ⟨b12, 0, none⟩))) rfl (j8 (congrArg (ow eIs [_]) (show [] = J4 (fun y => decide (x < y)) x (l.take 0) from by first | rfl | (simp; done) | grind [I7, P4, P9, U5, d1, d2, t1, t2])) (E.loop (κ := Nat × Option Addr × Nat × Nat) (fun g => g.1 ≤ l.length ∧ True) (fun g => [(0, .slice a_l l.length c_l), (1, .int .i64 x), (5, .slice g.2.1 g.2.2.1 g.2.2.2), (6, .bool ((l.take g.1).any (fun y => decide (x < y)))), (7, .int .i64 (↑g.1 : Int))]) (fun g => [ow eIs [.slice g.2.1 g.2.2.1 g.2.2.2] (J4 (fun y => decide (x < y)) x (l.take g.1))]) (fun g => l.length - g.1) (0, (some ⟨b12, 0, none⟩), 0, 0) ⟨Nat.zero_le _, by simp⟩ ⟨rfl, rfl, rfl, frB (by first | rfl | (simp; done) | grind [I7, P4, P9, U5, d1, d2, t1, t2]), rfl, trivial⟩ (.refl _) (fun g pg => ?_))))))))))))))))))))
  obtain ⟨g, aA0_0, mA0_0, cA0_0⟩ := g
  try dsimp only at pg
  try dsimp only
  obtain ⟨pk, pa⟩ := pg
  have jp := List.length_take_le g l
  have ji := a3Q (p := (fun y => decide (x < y))) (f := x) (l := l.take g)
  refine i9 m0 fun eaA0_0 laA0_0 => ?_
  subst eaA0_0
  refine Eq_ (Ew Z4 (Em rfl (Em rfl (Ey rfl ((Y.len us_Is rfl).yd) (Ey rfl ((Y.lss rfl rfl).yd) (n0 (fun q16 => ?_) (fun q16 => ?_)))))))
  ·refine Eu (l4 rfl (i8 (Et (Eq_ (E.block (Eq_ (Ew Z10 (Em rfl (Ent.b (fun q19 => ?_) (fun q19 => ?_))))))))))
   ·refine Ey rfl ((Y.not (b := true) rfl).yd) (Em rfl (Es rfl (Es rfl (Es rfl (Es rfl (Es rfl (Es rfl (Ey rfl ((r9 rfl rfl).yd) (Eu (l6 rfl (i8 (Et (Ez Z8 (Em rfl (Em rfl (Em rfl ?_))))))))))))))))
    obtain ⟨eb36, eo36, ea36, ei36, eh36⟩ := rb1.elemI g om
    refine Ey rfl ((o6 us_Is f0 rfl ea36 rfl g rfl om).yd) (Ey rfl (f8 f0 rfl (eh36 _) rfl) (Est rfl (Nb [_] [_] us_Is f0 rfl rfl) (fun b38 _ => (f7 (Est rfl (y6 (E := Enc.int) (ex := l[g]) us_Is f0 rfl rfl rfl (Own.int ei36) rfl bn bn dc) (fun p39 _ => (Ei rfl (En (o4 (Et (Ez Z3 (Em rfl (Ey rfl ((Y.add rfl rfl om om).yd) (Ei rfl (Eu (j8 (congrArg (ow eIs [_]) (show (J4 (fun y => decide (x < y)) x (l.take g)) ++ [l[g]] = J4 (fun y => decide (x < y)) x (l.take (g + 1)) from by grind [I7, P4, P9, U5, d1, d2, t1, t2])) ?_))))))))))))))))
    exact u9 br (g + 1, p39.1, ((J4 (fun y => decide (x < y)) x (l.take g)).length + 1), p39.2) ⟨rfl, rfl, rfl, frB (by grind [I7, P4, P9, U5, d1, d2, t1, t2]), rfl, trivial⟩ (.refl _) ⟨oz, trivial⟩ oz
   ·refine Ey rfl ((Y.not (b := false) rfl).yd) (Em rfl (Em rfl (Em rfl ?_)))
    obtain ⟨eb24, eo24, ea24, ei24, eh24⟩ := rb1.elemI g om
    refine Ey rfl ((o6 us_Is f0 rfl ea24 rfl g rfl om).yd) (Ey rfl (f8 f0 rfl (eh24 _) rfl) (Em rfl (Ey rfl ((Y.gtr rfl rfl).yd) (n0 (fun q27 => ?_) (fun q27 => ?_)))))
    ·refine Ey rfl ((s6 rfl rfl).yd) (Eu (l4 rfl (Ew Z5 (Em rfl (Em rfl (Est rfl (Nb [_] [_] us_Is f0 rfl rfl) (fun b31 _ => (f7 (Est rfl (y6 (E := Enc.int) (ex := x) us_Is f0 rfl rfl rfl (Own.int i6x) rfl bn bn dc) (fun p32 _ => (Ei rfl (Eu (Ez Z1 (Ei rfl (Eu (Ez Z8 (Em rfl (Em rfl (Em rfl (Ey rfl ((o6 us_Is f0 rfl ea24 rfl g rfl om).yd) (Ey rfl (f8 f0 rfl (eh24 _) rfl) (Est rfl (Nb [_] [_] us_Is f0 rfl rfl) (fun b38 _ => (f7 ?_))))))))))))))))))))))))
     refine Est rfl (y6 (E := Enc.int) (ex := l[g]) us_Is f0 rfl rfl rfl (Own.int ei24) rfl bn bn dc) (fun p39 _ => (Ei rfl (En (o4 (Et (Ez Z3 (Em rfl (Ey rfl ((Y.add rfl rfl om om).yd) (Ei rfl (Eu (j8 (congrArg (ow eIs [_]) (show ((J4 (fun y => decide (x < y)) x (l.take g)) ++ [x]) ++ [l[g]] = J4 (fun y => decide (x < y)) x (l.take (g + 1)) from by grind [I7, P4, P9, U5, d1, d2, t1, t2])) ?_)))))))))))
     exact u9 br (g + 1, p39.1, (((J4 (fun y => decide (x < y)) x (l.take g)).length + 1) + 1), p39.2) ⟨rfl, rfl, rfl, frB (by grind [I7, P4, P9, U5, d1, d2, t1, t2]), rfl, trivial⟩ (.refl _) ⟨oz, trivial⟩ oz
    ·refine Ey rfl ((s6 rfl rfl).yd) (Eu (l6 rfl (i8 (Et (Ez Z8 (Em rfl (Em rfl (Em rfl (Ey rfl ((o6 us_Is f0 rfl ea24 rfl g rfl om).yd) (Ey rfl (f8 f0 rfl (eh24 _) rfl) (Est rfl (Nb [_] [_] us_Is f0 rfl rfl) (fun b38 _ => (f7 (Est rfl (y6 (E := Enc.int) (ex := l[g]) us_Is f0 rfl rfl rfl (Own.int ei24) rfl bn bn dc) (fun p39 _ => (Ei rfl (En (o4 (Et (Ez Z3 (Em rfl (Ey rfl ((Y.add rfl rfl om om).yd) (Ei rfl (Eu (j8 (congrArg (ow eIs [_]) (show (J4 (fun y => decide (x < y)) x (l.take g)) ++ [l[g]] = J4 (fun y => decide (x < y)) x (l.take (g + 1)) from by grind [I7, P4, P9, U5, d1, d2, t1, t2])) ?_)))))))))))))))))))))))))
     exact u9 br (g + 1, p39.1, ((J4 (fun y => decide (x < y)) x (l.take g)).length + 1), p39.2) ⟨rfl, rfl, rfl, frB (by grind [I7, P4, P9, U5, d1, d2, t1, t2]), rfl, trivial⟩ (.refl _) ⟨oz, trivial⟩ oz
  ·refine Eu (l6 rfl (E.exit (n8 (n8 (w5 (Et (Eq_ (Ew Z2 (Em rfl (Ent.b (fun q40 => ?_) (fun q40 => ?_)))))))))))
   ·refine Ey rfl ((Y.not (b := true) rfl).yd) (Eu (l6 rfl (i8 (Et (Ew Z2 (Em rfl (Ei rfl (Eu (E.ret (j8 (congrArg (ow eIs [_]) (show _ = I7 l x by grind [I7, P4, P9, U5, d1, d2, t1, t2])) ?_))))))))))
    exact F.r1 hB1 rfl rfl (_, _, _) trivial rfl (J := _) (.refl _) (.inl rfl)
   ·refine Ey rfl ((Y.not (b := false) rfl).yd) (Eu (l4 rfl (Ez Z5 (Em rfl (Em rfl (Est rfl (Nb [_] [_] us_Is f0 rfl rfl) (fun b44 _ => (f7 (Est rfl (y6 (E := Enc.int) (ex := x) us_Is f0 rfl rfl rfl (Own.int i6x) rfl bn bn dc) (fun p45 _ => (Ei rfl (Ev Z2 (Em rfl (Ei rfl (Eu (E.ret (j8 (congrArg (ow eIs [_]) (show _ = I7 l x by grind [I7, P4, P9, U5, d1, d2, t1, t2])) ?_)))))))))))))))))
    exact F.r1 hB1 rfl rfl (_, _, _) trivial rfl (J := _) (.refl _) (.inl rfl)
theorem a4u (hz : O5 (fun x => x.2.length) a6 ≤ 1048576) : Tr Tryz.prog 134 [.agg #[.slice r6 t6 r5, .slice o2 s7 o1]] (fun w L => Ro w L eIs [.slice r6 t6 r5] f9 ∧ Ro w L G8 [.slice o2 s7 o1] a6) [] (κ := Option Addr × Nat × Nat) (fun k => True) (fun k => .slice k.1 k.2.1 k.2.2) (fun k => [ow eIs [.slice k.1 k.2.1 k.2.2] (B7 (fun t => inR t 10 17) a6)]) := by
 refine Tr.intro Tryz.func134 rfl (n := 47) rfl (by decide +kernel) bl (fr := [(0, .agg #[.slice r6 t6 r5, .slice o2 s7 o1])]) rfl fun w L hR => ?_
 obtain ⟨y8, v6⟩ := hR
 obtain ⟨rfl, N5⟩ := y8.slen
 obtain ⟨rfl, K9⟩ := v6.slen
 have jv := v6.i64A
 refine Ew Z2 (Est rfl (N.box (cs := [_, _]) rfl dc rfl) (fun b1 _ => (Ei rfl (Ev Z2 (Est rfl (Nb [] [] us_Is f0 rfl rfl) (fun b6 _ => (Ent.drop (Ei rfl (Eu (Eq_ (Ew Z1 (Ei rfl (Eu (E.block (n9 (A := []) (Own.nil (E := Enc.int) (e := tI) (a := (some ⟨b6, 0, none⟩))) rfl (j8 (congrArg (ow eIs [_]) (show [] = P7 (((a6.take 0).flatMap (fun a : Int × List Int => a.2)).filter (fun t => inR t 10 17)) from by first | rfl | (simp; done) | grind [B7, a1e, a1g, d1, d2, t1, t2])) (E.loop (κ := Nat × Option Addr × Nat × Nat) (fun g => g.1 ≤ a6.length ∧ True) (fun g => [(1, .pointer (some ⟨b1, 0, none⟩)), (3, .slice g.2.1 g.2.2.1 g.2.2.2), (4, .int .i64 (↑g.1 : Int))]) (fun g => [ow eIs [.slice g.2.1 g.2.2.1 g.2.2.2] (P7 (((a6.take g.1).flatMap (fun a : Int × List Int => a.2)).filter (fun t => inR t 10 17))), pt b1 28 [.slice r6 f9.length r5, .slice o2 a6.length o1]]) (fun g => a6.length - g.1) (0, (some ⟨b6, 0, none⟩), 0, 0) ⟨Nat.zero_le _, by simp⟩ ⟨rfl, rfl, rfl, trivial⟩ (.refl _) (fun g pg => ?_))))))))))))))))))
 obtain ⟨g, aA0_0, mA0_0, cA0_0⟩ := g
 try dsimp only at pg
 try dsimp only
 obtain ⟨pk, pa⟩ := pg
 refine i9 m0 fun eaA0_0 laA0_0 => ?_
 subst eaA0_0
 refine Eq_ (Ew Z5 (Em rfl (Ey rfl ((i7 fo_Query_1 ty_Atoms dc rfl).yd) (Ey rfl (f8 ty_Atoms rfl (Hz (mS m0) 1 rfl) rfl) (Ey rfl ((Y.len us_Atoms rfl).yd) (Ey rfl ((Y.lss rfl rfl).yd) (n0 (fun q11 => ?_) (fun q11 => ?_))))))))
 ·refine Eu (l4 rfl (i8 (Et (Eq_ (E.block (Ew Z1 (Ei rfl (Eu (E.block (j8 (congrArg (ow eIs [_]) (show P7 (((a6.take g).flatMap (fun a : Int × List Int => a.2)).filter (fun t => inR t 10 17)) = P7 (((a6.take g).flatMap (fun a : Int × List Int => a.2)).filter (fun t => inR t 10 17) ++ (a6[g].2.take 0).filter (fun t => inR t 10 17)) from by first | rfl | (simp; done) | grind [B7, a1e, a1g, d1, d2, t1, t2])) (E.loop (κ := Nat × Option Addr × Nat × Nat) (fun h => h.1 ≤ a6[g].2.length ∧ True) (fun h => [(1, .pointer (some ⟨b1, 0, none⟩)), (3, .slice h.2.1 h.2.2.1 h.2.2.2), (4, .int .i64 (g : Int)), (5, .int .i64 (↑h.1 : Int))]) (fun h => [ow eIs [.slice h.2.1 h.2.2.1 h.2.2.2] (P7 (((a6.take g).flatMap (fun a : Int × List Int => a.2)).filter (fun t => inR t 10 17) ++ (a6[g].2.take h.1).filter (fun t => inR t 10 17))), pt b1 28 [.slice r6 f9.length r5, .slice o2 a6.length o1]]) (fun h => a6[g].2.length - h.1) (0, aA0_0, (P7 (((a6.take g).flatMap (fun a : Int × List Int => a.2)).filter (fun t => inR t 10 17))).length, cA0_0) ⟨Nat.zero_le _, by simp⟩ ⟨rfl, rfl, rfl, rfl, trivial⟩ (.refl _) (fun h ph => ?_))))))))))))
  obtain ⟨h, aA1_0, mA1_0, cA1_0⟩ := h
  try dsimp only at ph
  try dsimp only
  obtain ⟨pk, pa⟩ := ph
  have ju := a6R (is := (fun t => inR t 10 17)) (g := g) (h := h) hz om
  have jw := a9U (l := ((a6.take g).flatMap (fun a : Int × List Int => a.2)).filter (fun t => inR t 10 17) ++ (a6[g].2.take h).filter (fun t => inR t 10 17))
  refine i9 m0 fun eaA1_0 laA1_0 => ?_
  subst eaA1_0
  refine Eq_ (Ew Z9 (Em rfl (Ey rfl ((i7 fo_Query_1 ty_Atoms dc rfl).yd) (Ey rfl (f8 ty_Atoms rfl (Hz (mS m0) 1 rfl) rfl) (Em rfl ?_)))))
  obtain ⟨eb18, eo18, ec18, ea18, er18, el18, eh18⟩ := v6.elem g om
  obtain ⟨xa18_0, xc18_0, rfl, ei18_0, xh18_0⟩ := P1 er18
  have := xh18_0.slen.2
  refine Ey rfl ((o6 us_Atoms ty_Atom rfl ea18 rfl g rfl om).yd) (Ey rfl ((i7 fo_Atom_1 ty_Is dc rfl).yd) (Ey rfl (f8 ty_Is rfl ((eh18 _).sub (cs' := [_]) 1 rfl) rfl) (Ey rfl ((Y.len us_Is rfl).yd) (Ey rfl ((Y.lss rfl rfl).yd) (n0 (fun q22 => ?_) (fun q22 => ?_))))))
  ·refine Eu (l4 rfl (i8 (Et (Eq_ (E.block (Ew Z10 (Ey rfl ((i7 fo_Query_1 ty_Atoms dc rfl).yd) (Ey rfl (f8 ty_Atoms rfl (Hz (mS m0) 1 rfl) rfl) (Em rfl (Ey rfl ((o6 us_Atoms ty_Atom rfl ea18 rfl g rfl om).yd) (Ey rfl ((i7 fo_Atom_1 ty_Is dc rfl).yd) (Ey rfl (f8 ty_Is rfl ((eh18 _).sub (cs' := [_]) 1 rfl) rfl) (Em rfl ?_)))))))))))))
   obtain ⟨eb32, eo32, ea32, ei32, eh32⟩ := xh18_0.elemI h om
   refine Ey rfl ((o6 us_Is f0 rfl ea32 rfl h rfl om).yd) (Ey rfl (f8 f0 rfl (eh32 _) rfl) (Est rfl (k6 a0e rfl rfl rfl dc tv) (fun _ _ => (Ent.b (fun q34 => ?_) (fun q34 => ?_)))))
   ·refine Eu (l4 rfl (Ez Z12 (Em rfl (Ey rfl ((i7 fo_Query_1 ty_Atoms dc rfl).yd) (Ey rfl (f8 ty_Atoms rfl (Hz (mS m0) 1 rfl) rfl) (Em rfl (Ey rfl ((o6 us_Atoms ty_Atom rfl ea18 rfl g rfl om).yd) (Ey rfl ((i7 fo_Atom_1 ty_Is dc rfl).yd) (Ey rfl (f8 ty_Is rfl ((eh18 _).sub (cs' := [_]) 1 rfl) rfl) (Em rfl (Ey rfl ((o6 us_Is f0 rfl ea32 rfl h rfl om).yd) (Ey rfl (f8 f0 rfl (eh32 _) rfl) (Est rfl (N.call (pre := [_]) (a4J fc) rfl rfl rfl dc rfl (fun w Lp hA => ei32)) (fun k45 _ => ?_))))))))))))))
    obtain ⟨a45, m45, c45⟩ := k45
    refine i9 m0 fun e45 l45 => ?_
    subst e45
    refine Ei rfl (En (o4 (Et (Ez Z3 (Em rfl (Ey rfl ((Y.add rfl rfl om om).yd) (Ei rfl (Eu (j8 (congrArg (ow eIs [_]) (show I7 (P7 (((a6.take g).flatMap (fun a : Int × List Int => a.2)).filter (fun t => inR t 10 17) ++ (a6[g].2.take h).filter (fun t => inR t 10 17))) a6[g].2[h] = P7 (((a6.take g).flatMap (fun a : Int × List Int => a.2)).filter (fun t => inR t 10 17) ++ (a6[g].2.take (h + 1)).filter (fun t => inR t 10 17)) from by grind [B7, a1e, a1g, d1, d2, t1, t2])) (f7 (f7 ?_)))))))))))
    exact Ea (h + 1, a45, (I7 (P7 (((a6.take g).flatMap (fun a : Int × List Int => a.2)).filter (fun t => inR t 10 17) ++ (a6[g].2.take h).filter (fun t => inR t 10 17))) a6[g].2[h]).length, c45) ⟨oz, trivial⟩
   ·refine Eu (l6 rfl (i8 (o4 (Et (Ez Z3 (Em rfl (Ey rfl ((Y.add rfl rfl om om).yd) (Ei rfl (Eu (j8 (congrArg (ow eIs [_]) (show P7 (((a6.take g).flatMap (fun a : Int × List Int => a.2)).filter (fun t => inR t 10 17) ++ (a6[g].2.take h).filter (fun t => inR t 10 17)) = P7 (((a6.take g).flatMap (fun a : Int × List Int => a.2)).filter (fun t => inR t 10 17) ++ (a6[g].2.take (h + 1)).filter (fun t => inR t 10 17)) from by grind [B7, a1e, a1g, d1, d2, t1, t2])) (f7 (f7 ?_))))))))))))
    exact Ea (h + 1, aA1_0, (P7 (((a6.take g).flatMap (fun a : Int × List Int => a.2)).filter (fun t => inR t 10 17) ++ (a6[g].2.take h).filter (fun t => inR t 10 17))).length, cA1_0) ⟨oz, trivial⟩
  ·refine Eu (l6 rfl (E.exit (n8 (n8 (w5 (o4 (Et (Ez Z3 (Em rfl (Ey rfl ((Y.add rfl rfl om om).yd) (Ei rfl (Eu (j8 (congrArg (ow eIs [_]) (show P7 (((a6.take g).flatMap (fun a : Int × List Int => a.2)).filter (fun t => inR t 10 17) ++ (a6[g].2.take h).filter (fun t => inR t 10 17)) = P7 (((a6.take (g + 1)).flatMap (fun a : Int × List Int => a.2)).filter (fun t => inR t 10 17)) from by grind [B7, a1e, a1g, d1, d2, t1, t2])) (f7 (f7 ?_)))))))))))))))
   exact Ea (g + 1, aA1_0, (P7 (((a6.take g).flatMap (fun a : Int × List Int => a.2)).filter (fun t => inR t 10 17) ++ (a6[g].2.take h).filter (fun t => inR t 10 17))).length, cA1_0) ⟨oz, trivial⟩
 ·refine Eu (l6 rfl (E.exit (n8 (n8 (w5 (Et (Ew Z2 (Em rfl (Ei rfl (Eu (E.ret (j8 (congrArg (ow eIs [_]) (show _ = B7 (fun t => inR t 10 17) a6 by grind [B7, a1e, a1g, d1, d2, t1, t2])) ?_))))))))))))
  exact Fg rfl rfl (_, _, _) rfl rfl
theorem a8M : Tr Tryz.prog 241 [.int .i64 t] (fun w L => True) [] (κ := Unit) (fun k => True) (fun k => .bool (O8 t)) (fun k => []) := by
 refine Tr.intro Tryz.func241 rfl (n := 9) rfl (by decide +kernel) bl (fr := [(0, .int .i64 t)]) rfl fun w L hR => (Ew Z1 (Ei rfl (Ev Z7 (Em rfl (Est rfl (k6 a3I rfl rfl rfl dc tv) (fun _ _ => (Ent.b (fun q4 => ?_) (fun q4 => ?_))))))))
 ·refine Em rfl (Es rfl (Es rfl (Ey rfl ((s6 rfl rfl).yd) (Ei rfl ?_))))
  exact Eu (E.ret (Fb rfl rfl (by grind [O8, d1, d2, t1, t2])))
 ·refine Em rfl (Em rfl (Est rfl (k6 a0A rfl rfl rfl dc tv) (fun _ _ => (Ey rfl ((r9 rfl rfl).yd) (Ei rfl ?_)))))
  exact Eu (E.ret (Fb rfl rfl (by grind [O8, d1, d2, t1, t2])))
theorem a8X : Tr Tryz.prog 196 [.int .i64 t] (fun w L => True) [] (κ := Unit) (fun k => True) (fun k => .bool (O8 t)) (fun k => []) := by
 refine Tr.intro Tryz.func196 rfl (n := 9) rfl (by decide +kernel) bl (fr := [(0, .int .i64 t)]) rfl fun w L hR => (Ew Z1 (Ei rfl (Ev Z7 (Em rfl (Est rfl (k6 F9 rfl rfl rfl dc tv) (fun _ _ => (Ent.b (fun q4 => ?_) (fun q4 => ?_))))))))
 ·refine Em rfl (Es rfl (Es rfl (Ey rfl ((s6 rfl rfl).yd) (Ei rfl ?_))))
  exact Eu (E.ret (Fb rfl rfl (by grind [O8, d1, d2, t1, t2])))
 ·refine Em rfl (Em rfl (Est rfl (k6 a0e rfl rfl rfl dc tv) (fun _ _ => (Ey rfl ((r9 rfl rfl).yd) (Ei rfl ?_)))))
  exact Eu (E.ret (Fb rfl rfl (by grind [O8, d1, d2, t1, t2])))
theorem a5w : Tr Tryz.prog 240 [.int .i64 t] (fun w L => (I64 t) ∧ True) [] (κ := Unit) (fun k => True) (fun k => .bool (!O8 t)) (fun k => []) := by
 refine Tr.intro Tryz.func240 rfl (n := 6) rfl (by decide +kernel) bl (fr := [(0, .int .i64 t)]) rfl fun w L hR => ?_
 obtain ⟨i6t, _⟩ := hR
 refine Ew Z1 (Ei rfl (Ev Z4 (Em rfl (Est rfl (k6 a8M rfl rfl rfl dc tv) (fun _ _ => (Ey rfl ((Y.not rfl).yd) (Ei rfl ?_)))))))
 exact Eu (E.ret (Fb rfl rfl (by grind [d1, d2, t1, t2])))
theorem a6X : Tr Tryz.prog 206 [.slice a_l m_l c_l] (fun w L => Ro w L eIs [.slice a_l m_l c_l] l) [] (κ := Unit) (fun k => True) (fun k => .bool (!l.any fun t => !O8 t)) (fun k => []) := by
 refine Tr.intro Tryz.func206 rfl (n := 6) rfl (by decide +kernel) bl (fr := [(0, .slice a_l m_l c_l)]) rfl fun w L hR => ?_
 have hl := hR
 obtain ⟨rfl, ll⟩ := hl.slen
 refine Ew Z1 (Ei rfl (Ev Z4 (Em rfl (Est rfl (k6 (S6 (f := (fun t => !O8 t)) (D_f := (fun _ => True)) (by intros; exact trivial)) rfl rfl rfl dc (fun w Lp hA => ⟨hA.ro hl, a1N (D := (fun _ => True)) (fun hd => a5w) (fun w' hk => trivial)⟩)) (fun _ _ => (Ey rfl ((Y.not rfl).yd) (Ei rfl ?_)))))))
 exact Eu (E.ret (Fb rfl rfl (by grind [d1, d2, t1, t2])))
theorem a8L : Tr Tryz.prog 149 [.slice a_s m_s c_s, .agg #[.int .i64 l2, .slice w7 C6 w6]] (fun w L => Ro w L eIs [.slice a_s m_s c_s] s ∧ I64 l2 ∧ Ro w L eIs [.slice w7 C6 w6] d9) [] (κ := Unit) (fun k => True) (fun k => .bool (M8 s (l2, d9))) (fun k => []) := by
 refine Tr.intro Tryz.func149 rfl (n := 25) rfl (by decide +kernel) bl (fr := [(0, .slice a_s m_s c_s), (1, .agg #[.int .i64 l2, .slice w7 C6 w6])]) rfl fun w L hR => ?_
 obtain ⟨hs, M4, D6⟩ := hR
 obtain ⟨rfl, ls⟩ := hs.slen
 obtain ⟨rfl, T7⟩ := D6.slen
 refine Ew Z2 (Est rfl (N.box (cs := [_, _]) rfl dc rfl) (fun b3 _ => (Ei rfl (Eu (Eq_ (D.region (fun j => true) mixed (Dyp 0 rfl (j4 rfl) (Dyp 1 rfl (i7 fo_Atom_0 f0 dc rfl) (Dy 2 rfl (f8 f0 rfl (Hz m0 0 rfl) rfl) (u7 3 rfl rfl kr (fun _ => rfl) (k6 a2f rfl rfl rfl dc (fun w Lp hA => hA.ro hs)) (fun _ _ => (Ent.b (fun q8 => ?_) (fun q8 => ?_)))))))))))))
 ·obtain ⟨z1, z2, _, _⟩ := Y4 q8
  refine Dyp 4 rfl (j4 rfl) (Dyp 5 rfl (i7 fo_Atom_1 ty_Is dc rfl) (Dy 6 rfl (f8 ty_Is rfl (Hz m0 1 rfl) rfl) (Dyp 7 rfl (Y.len us_Is rfl) (Dyp 8 rfl (j4 rfl) (Dyp 9 rfl (i7 fo_Atom_0 f0 dc rfl) (Dy 10 rfl (f8 f0 rfl (Hz m0 0 rfl) rfl) ?_))))))
  obtain ⟨eb16, eo16, ea16, ei16, eh16⟩ := hs.elemI l2.toNat om
  refine Dyp 11 rfl (o6 us_Is f0 rfl ea16 rfl l2.toNat om om) (Dy 12 rfl (f8 f0 rfl (eh16 _) rfl) (Dyp 13 rfl (Y.eql rfl rfl) (n0 (fun q18 => ?_) (fun q18 => ?_))))
  ·refine Dyp 14 rfl (s6 rfl rfl) (Dyp 15 rfl (j4 rfl) (Dyp 16 rfl (i7 fo_Atom_1 ty_Is dc rfl) (Dy 17 rfl (f8 ty_Is rfl (Hz m0 1 rfl) rfl) (u7 18 rfl rfl kr (fun _ => rfl) (k6 a6X rfl rfl rfl dc (fun w Lp hA => hA.ro D6)) (fun _ _ => (Dyp 19 rfl (s6 rfl rfl) (Dyp 20 rfl (G1 rfl) ?_)))))))
   exact o3 kr (Et (E.ret (Fb rfl rfl (by grind [M8, E6, d1, d2, t1, t2]))))
  ·refine Dyp 14 rfl (s6 rfl rfl) (Dyp 15 rfl (j4 rfl) (Dsk 16 rfl (Dsk 17 rfl (Dsk 18 rfl (Dyp 19 rfl (r9 rfl rfl) (Dyp 20 rfl (G1 rfl) ?_))))))
   exact o3 kr (Et (E.ret (Fb rfl rfl (by grind [M8, E6, d1, d2, t1, t2]))))
 ·refine Dyp 4 rfl (j4 rfl) (Dsk 5 rfl (Dsk 6 rfl (Dsk 7 rfl (Dsk 8 rfl (Dsk 9 rfl (Dsk 10 rfl (Dsk 11 rfl (Dsk 12 rfl (Dsk 13 rfl (Dyp 14 rfl (r9 rfl rfl) (Dyp 15 rfl (j4 rfl) (Dsk 16 rfl (Dsk 17 rfl (Dsk 18 rfl ?_))))))))))))))
  refine Dyp 19 rfl (r9 rfl rfl) (Dyp 20 rfl (G1 rfl) ?_)
  exact o3 kr (Et (E.ret (Fb rfl rfl (by grind [M8, E6, d1, d2, t1, t2]))))
theorem a8I : Tr Tryz.prog 133 [.slice a_s m_s c_s, .agg #[.int .i64 l2, .slice w7 C6 w6]] (fun w L => Ro w L eIs [.slice a_s m_s c_s] s ∧ I64 l2 ∧ Ro w L eIs [.slice w7 C6 w6] d9) [] (κ := Unit) (fun k => True) (fun k => .bool (M8 s (l2, d9))) (fun k => []) := by
 refine Tr.intro Tryz.func133 rfl (n := 43) rfl (by decide +kernel) bl (fr := [(0, .slice a_s m_s c_s), (1, .agg #[.int .i64 l2, .slice w7 C6 w6])]) rfl fun w L hR => ?_
 obtain ⟨hs, M4, D6⟩ := hR
 obtain ⟨rfl, ls⟩ := hs.slen
 obtain ⟨rfl, T7⟩ := D6.slen
 refine Ew Z2 (Est rfl (N.box (cs := [_, _]) rfl dc rfl) (fun b3 _ => (Ei rfl (Eu (Eq_ (Eq_ (D.region (fun j => true) mixed (Dyp 0 rfl (j4 rfl) (u7 1 rfl rfl kr (fun _ => rfl) (k6 L6 rfl rfl rfl dc (fun w Lp hA => hA.ro hs)) (fun _ _ => (Ent.b (fun q7 => ?_) (fun q7 => ?_))))))))))))
 ·refine Dyp 2 rfl (Y.not (b := true) rfl) (Dyp 3 rfl (j4 rfl) (Dyp 4 rfl (i7 fo_Atom_0 f0 dc rfl) (Dy 5 rfl (f8 f0 rfl (Hz m0 0 rfl) rfl) (Dyp 6 rfl (j4 rfl) (Dyp 7 rfl (Y.len us_Is rfl) (Dyp 8 rfl (Y.sub rfl rfl om om) (u7 9 rfl rfl kr (fun _ => rfl) (k6 F9 rfl rfl rfl dc tv) (fun _ _ => (Ent.b (fun q15 => ?_) (fun q15 => ?_))))))))))
  ·have y1 : J5 s l2 = true := by rw [J5, q7, q15]; rfl
   obtain ⟨z1, z2, _, _⟩ := Y4 y1
   refine Dyp 10 rfl (Y.not (b := true) rfl) (Dyp 11 rfl (r9 rfl rfl) (Dyp 12 rfl (j4 rfl) (Dyp 13 rfl (i7 fo_Atom_1 ty_Is dc rfl) (Dy 14 rfl (f8 ty_Is rfl (Hz m0 1 rfl) rfl) (Dyp 15 rfl (Y.len us_Is rfl) (Dyp 16 rfl (j4 rfl) (Dyp 17 rfl (i7 fo_Atom_0 f0 dc rfl) (Dy 18 rfl (f8 f0 rfl (Hz m0 0 rfl) rfl) ?_))))))))
   obtain ⟨eb25, eo25, ea25, ei25, eh25⟩ := hs.elemI l2.toNat om
   refine Dyp 19 rfl (o6 us_Is f0 rfl ea25 rfl l2.toNat om om) (Dy 20 rfl (f8 f0 rfl (eh25 _) rfl) (Dyp 21 rfl (Y.neq rfl rfl) (n0 (fun q27 => ?_) (fun q27 => ?_))))
   ·refine Dyp 22 rfl (r9 rfl rfl) (o3 kr (Et (l4 rfl (Ew Z1 (Ei rfl ?_)))))
    exact Eu (E.ret (l0 (Fb rfl rfl (by grind [M8, J5, E6, d1, d2, t1, t2]))))
   ·refine Dyp 22 rfl (r9 rfl rfl) (o3 kr (Et (l6 rfl (i8 (Et (Eq_ (Ew Z1 (Ei rfl (Eu (E.block (E.loop (κ := Nat) (fun g => g ≤ d9.length ∧ (d9.any fun t => !O8 t) = ((d9.drop g).any fun t => !O8 t)) (fun g => [(3, .pointer (some ⟨b3, 0, none⟩)), (5, .int .i64 (g : Int))]) (fun g => [pt b3 81 [.int .i64 l2, .slice w7 d9.length w6]]) (fun g => d9.length - g) 0 ⟨Nat.zero_le _, by simp⟩ ⟨rfl, rfl, trivial⟩ (.refl _) (fun g pg => ?_))))))))))))
    obtain ⟨pk, pa⟩ := pg
    refine Eq_ (Ew Z5 (Em rfl (Ey rfl ((i7 fo_Atom_1 ty_Is dc rfl).yd) (Ey rfl (f8 ty_Is rfl (Hz m0 1 rfl) rfl) (Ey rfl ((Y.len us_Is rfl).yd) (Ey rfl ((Y.lss rfl rfl).yd) (n0 (fun q33 => ?_) (fun q33 => ?_))))))))
    ·refine Eu (l4 rfl (i8 (Et (Eq_ (E.block (Ew Z7 (Ey rfl ((i7 fo_Atom_1 ty_Is dc rfl).yd) (Ey rfl (f8 ty_Is rfl (Hz m0 1 rfl) rfl) (Em rfl ?_)))))))))
     obtain ⟨eb39, eo39, ea39, ei39, eh39⟩ := D6.elemI g om
     refine Ey rfl ((o6 us_Is f0 rfl ea39 rfl g rfl om).yd) (Ey rfl (f8 f0 rfl (eh39 _) rfl) (Est rfl (k6 a8X rfl rfl rfl dc tv) (fun _ _ => (Ent.b (fun q41 => ?_) (fun q41 => ?_)))))
     ·refine Ey rfl ((Y.not (b := true) rfl).yd) (Eu (l6 rfl (i8 (o4 (Et (Ez Z3 (Em rfl (Ey rfl ((Y.add rfl rfl om om).yd) (Ei rfl ?_)))))))))
      exact Eu (u9 br (g + 1) ⟨rfl, rfl, trivial⟩ (.refl _) ⟨by omega, by grind [d1, d2, t1, t2]⟩ om)
     ·refine Ey rfl ((Y.not (b := false) rfl).yd) (Eu (l4 rfl (Ew Z1 (Ei rfl ?_))))
      exact Eu (E.ret (t7 (l0 (l0 (t7 (l0 (Fb rfl rfl (by grind [M8, J5, E6, d1, d2, t1, t2]))))))))
    ·refine Eu (l6 rfl (E.exit (n8 (n8 (w5 (Et (Ew Z1 (Ei rfl ?_))))))))
     exact Eu (E.ret (Fb rfl rfl (by grind [M8, J5, E6, d1, d2, t1, t2])))
  ·refine Dyp 10 rfl (Y.not (b := false) rfl) (Dyp 11 rfl (r9 rfl rfl) (Dyp 12 rfl (j4 rfl) (Dsk 13 rfl (Dsk 14 rfl (Dsk 15 rfl (Dsk 16 rfl (Dsk 17 rfl (Dsk 18 rfl (Dsk 19 rfl (Dsk 20 rfl (Dsk 21 rfl (Dyp 22 rfl (s6 rfl rfl) (o3 kr (Et (l4 rfl (Ew Z1 (Ei rfl ?_)))))))))))))))))
   exact Eu (E.ret (l0 (Fb rfl rfl (by grind [M8, J5, E6, d1, d2, t1, t2]))))
 ·refine Dyp 2 rfl (Y.not (b := false) rfl) (Dyp 3 rfl (j4 rfl) (Dsk 4 rfl (Dsk 5 rfl (Dsk 6 rfl (Dsk 7 rfl (Dsk 8 rfl (Dsk 9 rfl (Dsk 10 rfl (Dyp 11 rfl (s6 rfl rfl) (Dyp 12 rfl (j4 rfl) (Dsk 13 rfl (Dsk 14 rfl (Dsk 15 rfl (Dsk 16 rfl ?_))))))))))))))
  refine Dsk 17 rfl (Dsk 18 rfl (Dsk 19 rfl (Dsk 20 rfl (Dsk 21 rfl (Dyp 22 rfl (s6 rfl rfl) (o3 kr (Et (l4 rfl (Ew Z1 (Ei rfl ?_))))))))))
  exact Eu (E.ret (l0 (Fb rfl rfl (by grind [M8, J5, E6, d1, d2, t1, t2]))))
theorem a0x {v : Int} : Tr Tryz.prog 177 [.slice a_s m_s c_s, .int .i64 v] (fun w L => Ro w L eIs [.slice a_s m_s c_s] s) [] (κ := Unit) (fun k => True) (fun k => .bool (G7 s v)) (fun k => []) := by
 refine Tr.intro Tryz.func177 rfl (n := 9) rfl (by decide +kernel) bl (fr := [(0, .slice a_s m_s c_s), (1, .int .i64 v)]) rfl fun w L hR => ?_
 have hs := hR
 obtain ⟨rfl, ls⟩ := hs.slen
 refine Ew Z1 (Ei rfl (Ev Z5 (Em rfl (Em rfl (Est rfl (k6 a8B rfl rfl rfl dc (fun w Lp hA => hA.ro hs)) (fun _ _ => (Ey rfl ((Y.geq rfl rfl).yd) (Ei rfl ?_))))))))
 exact Eu (E.ret (Fb rfl rfl (by exact V5)))
theorem a6d {b_vars : Nat} {a_vars : Option Addr} {m_vars c_vars : Nat} {vars : List Int} : Tr Tryz.prog 208 [.int .i64 t, .pointer (some ⟨b_vars, 0, none⟩)] (fun w L => (I64 t) ∧ RoPt w L b_vars [.slice a_vars m_vars c_vars] ∧ Ro w L eIs [.slice a_vars m_vars c_vars] vars) [] (κ := Unit) (fun k => True) (fun k => .bool (!G7 vars t)) (fun k => []) := by
 refine Tr.intro Tryz.func208 rfl (n := 8) rfl (by decide +kernel) bl (fr := [(0, .int .i64 t), (1, .pointer (some ⟨b_vars, 0, none⟩))]) rfl fun w L hR => ?_
 obtain ⟨i6t, hb_vars, hvars⟩ := hR
 obtain ⟨rfl, lvars⟩ := hvars.slen
 refine Ew Z1 (Ei rfl (Ev Z5 (Ey rfl (f8 ty_Is rfl (hb_vars.has) rfl) (Em rfl (Est rfl (k6 a0x rfl rfl rfl dc (fun w Lp hA => hA.ro hvars)) (fun _ _ => (Ey rfl ((Y.not rfl).yd) (Ei rfl ?_))))))))
 exact Eu (E.ret (Fb rfl rfl (by grind [d1, d2, t1, t2])))
theorem a7N (hz : O5 (fun x => x.2.length) a6 ≤ 1048576) : Tr Tryz.prog 150 [.agg #[.slice r6 t6 r5, .slice o2 s7 o1]] (fun w L => Ro w L eIs [.slice r6 t6 r5] f9 ∧ Ro w L G8 [.slice o2 s7 o1] a6) [] (κ := Unit) (fun k => True) (fun k => .bool (a0r (f9, a6))) (fun k => []) := by
 refine Tr.intro Tryz.func150 rfl (n := 17) rfl (by decide +kernel) bl (fr := [(0, .agg #[.slice r6 t6 r5, .slice o2 s7 o1])]) rfl fun w L hR => ?_
 obtain ⟨y8, v6⟩ := hR
 obtain ⟨rfl, N5⟩ := y8.slen
 obtain ⟨rfl, K9⟩ := v6.slen
 refine Ew Z2 (Est rfl (N.box (cs := [_, _]) rfl dc rfl) (fun b1 _ => (Ei rfl (Ev Z4 (Ey rfl (o0 (cs := [_, _]) ty_Query rfl (Has.pt m0) rfl) (Est rfl (N.call (a8Y fc) rfl rfl rfl dc rfl (fun w Lp hA => ⟨hA.ro y8, hA.ro v6⟩)) (fun k5 _ => ?_)))))))
 obtain ⟨a5, m5, c5⟩ := k5
 refine i9 m0 fun e5 l5 => ?_
 subst e5
 refine Est rfl (N.alloc ty_Is dc) (fun b3 _ => (Est rfl (Ns [_] ty_Is rfl) (fun _ _ => (Ev Z12 (Ey rfl ((i7 fo_Query_0 ty_Is dc rfl).yd) (Ey rfl (f8 ty_Is rfl (Hz (mS (mS m0)) 0 rfl) rfl) (Ey rfl ((Y.len us_Is rfl).yd) (Ey rfl ((Y.leq rfl rfl).yd) (n0 (fun q9 => ?_) (fun q9 => ?_))))))))))
 ·refine Em rfl (Ey rfl ((i7 fo_Query_0 ty_Is dc rfl).yd) (Ey rfl (f8 ty_Is rfl (Hz (mS (mS m0)) 0 rfl) rfl) (Ey rfl ((Y.fn (vs := [_]) rfl).yd) (Est rfl (k6 (S6 (f := (fun t => !G7 (B7 (fun t => inR t 10 17) a6) t)) (D_f := (fun _ => True)) (by intros; exact trivial)) rfl rfl rfl dc (fun w Lp hA => ⟨hA.ro y8, a1N (D := (fun _ => True)) (fun hd => a6d) (fun w' hk => ⟨(hA.pt m0).keep hk, (hA.ow (mS m0)).keep hk⟩)⟩)) (fun _ _ => (Ey rfl ((Y.not rfl).yd) (Ey rfl ((s6 rfl rfl).yd) (Ei rfl ?_))))))))
  exact Eu (E.ret (Fb rfl rfl (by grind [a0r, d1, d2, t1, t2])))
 ·refine Em rfl (Es rfl (Es rfl (Es rfl (Es rfl (Es rfl (Ey rfl ((r9 rfl rfl).yd) (Ei rfl ?_)))))))
  exact Eu (E.ret (Fb rfl rfl (by grind [a0r, d1, d2, t1, t2])))
theorem a5R {b_s : Nat} : Tr Tryz.prog 148 [.agg #[.int .i64 l2, .slice w7 C6 w6], .pointer (some ⟨b_s, 0, none⟩)] (fun w L => (I64 l2 ∧ Ro w L eIs [.slice w7 C6 w6] d9) ∧ RoPt w L b_s [.slice a_s m_s c_s] ∧ Ro w L eIs [.slice a_s m_s c_s] s) [] (κ := Unit) (fun k => True) (fun k => .bool (!M8 s (l2, d9))) (fun k => []) := by
 refine Tr.intro Tryz.func148 rfl (n := 8) rfl (by decide +kernel) bl (fr := [(0, .agg #[.int .i64 l2, .slice w7 C6 w6]), (1, .pointer (some ⟨b_s, 0, none⟩))]) rfl fun w L hR => ?_
 obtain ⟨⟨M4, D6⟩, hb_s, hs⟩ := hR
 obtain ⟨rfl, T7⟩ := D6.slen
 obtain ⟨rfl, ls⟩ := hs.slen
 refine Ew Z2 (Est rfl (N.box (cs := [_, _]) rfl dc rfl) (fun b2 _ => (Ei rfl (Ev Z5 (Ey rfl (f8 ty_Is rfl (hb_s.has) rfl) (Ey rfl (o0 (cs := [_, _]) ty_Atom rfl (Has.pt m0) rfl) (Est rfl (k6 a8L rfl rfl rfl dc (fun w Lp hA => ⟨hA.ro hs, M4, hA.ro D6⟩)) (fun _ _ => (Ey rfl ((Y.not rfl).yd) (Ei rfl ?_))))))))))
 exact Eu (E.ret (Fb rfl rfl (by grind [d1, d2, t1, t2])))
theorem a7n (hz : O5 (fun x => x.2.length) a6 ≤ 1048576) : Tr Tryz.prog 88 [.slice a_s m_s c_s, .agg #[.slice r6 t6 r5, .slice o2 s7 o1]] (fun w L => Ro w L eIs [.slice a_s m_s c_s] s ∧ Ro w L eIs [.slice r6 t6 r5] f9 ∧ Ro w L G8 [.slice o2 s7 o1] a6) [] (κ := Unit) (fun k => True) (fun k => .bool (z8 s (f9, a6))) (fun k => []) := by
 refine Tr.intro Tryz.func88 rfl (n := 24) rfl (by decide +kernel) bl (fr := [(0, .slice a_s m_s c_s), (1, .agg #[.slice r6 t6 r5, .slice o2 s7 o1])]) rfl fun w L hR => ?_
 obtain ⟨hs, y8, v6⟩ := hR
 obtain ⟨rfl, ls⟩ := hs.slen
 obtain ⟨rfl, N5⟩ := y8.slen
 obtain ⟨rfl, K9⟩ := v6.slen
 refine Ew Z3 (Est rfl (N.box (cs := [_]) rfl dc rfl) (fun b2 _ => (Est rfl (N.box (cs := [_, _]) rfl dc rfl) (fun b3 _ => (Ei rfl (Ev Z20 (Ey rfl (f8 ty_Is rfl (Has.pt (mS m0)) rfl) (Est rfl (k6 a0y rfl rfl rfl dc (fun w Lp hA => hA.ro hs)) (fun _ _ => (Ent.b (fun q6 => ?_) (fun q6 => ?_)))))))))))
 ·refine Em rfl (Ey rfl ((i7 fo_Query_1 ty_Atoms dc rfl).yd) (Ey rfl (f8 ty_Atoms rfl (Hz m0 1 rfl) rfl) (Ey rfl ((Y.len us_Atoms rfl).yd) (Est rfl (k6 I1 rfl rfl rfl dc tv) (fun _ _ => (Ent.b (fun q11 => ?_) (fun q11 => ?_)))))))
  ·refine Ey rfl ((s6 rfl rfl).yd) (Em rfl (Ey rfl ((i7 fo_Query_1 ty_Atoms dc rfl).yd) (Ey rfl (f8 ty_Atoms rfl (Hz m0 1 rfl) rfl) (Ey rfl ((Y.fn (vs := [_]) rfl).yd) (Est rfl (k6 (a4C (f := (fun z => !M8 s z)) (D_f := (fun _ => True)) (by intros; exact trivial)) rfl rfl rfl dc (fun w Lp hA => ⟨hA.ro v6, b2m (D := (fun _ => True)) (fun hd => a5R) (fun w' hk => ⟨(hA.pt (mS m0)).keep hk, (hA.ro hs).keep hk⟩)⟩)) (fun _ _ => (Ent.b (fun q17 => ?_) (fun q17 => ?_))))))))
   ·refine Ey rfl ((Y.not (b := true) rfl).yd) (Ey rfl ((s6 rfl rfl).yd) (Em rfl (Es rfl (Es rfl (Ey rfl ((r9 rfl rfl).yd) (Ei rfl ?_))))))
    exact Eu (E.ret (Fb rfl rfl (by grind [z8, d1, d2, t1, t2])))
   ·refine Ey rfl ((Y.not (b := false) rfl).yd) (Ey rfl ((s6 rfl rfl).yd) (Em rfl (Ey rfl (o0 (cs := [_, _]) ty_Query rfl (Has.pt m0) rfl) (Est rfl (k6 (a7N fc) rfl rfl rfl dc (fun w Lp hA => ⟨hA.ro y8, hA.ro v6⟩)) (fun _ _ => (Ey rfl ((s6 rfl rfl).yd) (Ei rfl ?_)))))))
    exact Eu (E.ret (Fb rfl rfl (by grind [z8, d1, d2, t1, t2])))
  ·refine Ey rfl ((s6 rfl rfl).yd) (Em rfl (Es rfl (Es rfl (Es rfl (Es rfl (Es rfl (Ey rfl ((r9 rfl rfl).yd) (Em rfl (Es rfl (Es rfl (Ey rfl ((r9 rfl rfl).yd) (Ei rfl ?_))))))))))))
   exact Eu (E.ret (Fb rfl rfl (by grind [z8, d1, d2, t1, t2])))
 ·refine Em rfl (Es rfl (Es rfl (Es rfl (Es rfl (Ey rfl ((r9 rfl rfl).yd) (Em rfl (Es rfl (Es rfl (Es rfl (Es rfl (Es rfl (Ey rfl ((r9 rfl rfl).yd) (Em rfl (Es rfl ?_))))))))))))))
  refine Es rfl (Ey rfl ((r9 rfl rfl).yd) (Ei rfl ?_))
  exact Eu (E.ret (Fb rfl rfl (by grind [z8, d1, d2, t1, t2])))
theorem a3F (hz : O5 (fun x => x.2.length) a6 ≤ 1048576) : Tr Tryz.prog 66 [.slice a_s m_s c_s, .agg #[.slice r6 t6 r5, .slice o2 s7 o1]] (fun w L => Ro w L eIs [.slice a_s m_s c_s] s ∧ Ro w L eIs [.slice r6 t6 r5] f9 ∧ Ro w L G8 [.slice o2 s7 o1] a6) [] (κ := Unit) (fun k => True) (fun k => .bool (z8 s (f9, a6))) (fun k => []) := by
 refine Tr.intro Tryz.func66 rfl (n := 54) rfl (by decide +kernel) bl (fr := [(0, .slice a_s m_s c_s), (1, .agg #[.slice r6 t6 r5, .slice o2 s7 o1])]) rfl fun w L hR => ?_
 obtain ⟨hs, y8, v6⟩ := hR
 obtain ⟨rfl, ls⟩ := hs.slen
 obtain ⟨rfl, N5⟩ := y8.slen
 obtain ⟨rfl, K9⟩ := v6.slen
 refine Ew Z2 (Est rfl (N.box (cs := [_, _]) rfl dc rfl) (fun b3 _ => (Ei rfl (Eu (Eq_ (Ew Z1 (Ei rfl (Eu (E.block (E.loop (κ := Nat) (fun g => g ≤ a6.length ∧ (a6.any fun a => !M8 s a) = ((a6.drop g).any fun a => !M8 s a)) (fun g => [(0, .slice a_s s.length c_s), (3, .pointer (some ⟨b3, 0, none⟩)), (5, .int .i64 (g : Int))]) (fun g => [pt b3 28 [.slice r6 f9.length r5, .slice o2 a6.length o1]]) (fun g => a6.length - g) 0 ⟨Nat.zero_le _, by simp⟩ ⟨rfl, rfl, rfl, trivial⟩ (.refl _) (fun g pg => ?_)))))))))))
 obtain ⟨pk, pa⟩ := pg
 refine Eq_ (Ew Z5 (Em rfl (Ey rfl ((i7 fo_Query_1 ty_Atoms dc rfl).yd) (Ey rfl (f8 ty_Atoms rfl (Hz m0 1 rfl) rfl) (Ey rfl ((Y.len us_Atoms rfl).yd) (Ey rfl ((Y.lss rfl rfl).yd) (n0 (fun q12 => ?_) (fun q12 => ?_))))))))
 ·refine Eu (l4 rfl (i8 (Et (Eq_ (E.block (Ew Z8 (Em rfl (Ey rfl ((i7 fo_Query_1 ty_Atoms dc rfl).yd) (Ey rfl (f8 ty_Atoms rfl (Hz m0 1 rfl) rfl) (Em rfl ?_))))))))))
  obtain ⟨eb19, eo19, ec19, ea19, er19, el19, eh19⟩ := v6.elem g om
  obtain ⟨xa19_0, xc19_0, rfl, ei19_0, xh19_0⟩ := P1 er19
  have := xh19_0.slen.2
  refine Ey rfl ((o6 us_Atoms ty_Atom rfl ea19 rfl g rfl om).yd) (Ey rfl (o0 (cs := [_, _]) ty_Atom rfl (eh19 _) rfl) (Est rfl (k6 a8I rfl rfl rfl dc (fun w Lp hA => ⟨hA.ro hs, ei19_0, hA.ro xh19_0⟩)) (fun _ _ => (Ent.b (fun q21 => ?_) (fun q21 => ?_)))))
  ·refine Ey rfl ((Y.not (b := true) rfl).yd) (Eu (l6 rfl (i8 (o4 (Et (Ez Z3 (Em rfl (Ey rfl ((Y.add rfl rfl om om).yd) (Ei rfl ?_)))))))))
   exact Eu (u9 br (g + 1) rs (.refl _) ⟨by omega, by grind [d1, d2, t1, t2]⟩ om)
  ·refine Ey rfl ((Y.not (b := false) rfl).yd) (Eu (l4 rfl (Ew Z1 (Ei rfl ?_))))
   exact Eu (E.ret (t7 (l0 (l0 (t7 (l0 (Fb rfl rfl (by grind [z8, a0r, d1, d2, t1, t2]))))))))
 ·refine Eu (l6 rfl (E.exit (n8 (n8 (w5 (Et (Ew Z3 (Ey rfl (o0 (cs := [_, _]) ty_Query rfl (Has.pt m0) rfl) (Est rfl (N.call (a4u fc) rfl rfl rfl dc rfl (fun w Lp hA => ⟨hA.ro y8, hA.ro v6⟩)) (fun k24 _ => ?_))))))))))
  obtain ⟨a24, m24, c24⟩ := k24
  refine i9 m0 fun e24 l24 => ?_
  subst e24
  refine Ei rfl (Eu (Eq_ (Ew Z1 (Ei rfl (Eu (E.block (E.loop (κ := Nat) (fun g => g ≤ f9.length ∧ (f9.any (fun t => !G7 (B7 (fun t => inR t 10 17) a6) t)) = ((f9.drop g).any (fun t => !G7 (B7 (fun t => inR t 10 17) a6) t))) (fun g => [(0, .slice a_s s.length c_s), (3, .pointer (some ⟨b3, 0, none⟩)), (6, .slice a24 (B7 (fun t => inR t 10 17) a6).length c24), (7, .int .i64 (g : Int))]) (fun g => [ow eIs [.slice a24 (B7 (fun t => inR t 10 17) a6).length c24] (B7 (fun t => inR t 10 17) a6), pt b3 28 [.slice r6 f9.length r5, .slice o2 a6.length o1]]) (fun g => f9.length - g) 0 ⟨Nat.zero_le _, by simp⟩ ⟨rfl, rfl, rfl, rfl, trivial⟩ (.refl _) (fun g pg => ?_))))))))
  obtain ⟨pk, pa⟩ := pg
  refine Eq_ (Ew Z5 (Em rfl (Ey rfl ((i7 fo_Query_0 ty_Is dc rfl).yd) (Ey rfl (f8 ty_Is rfl (Hz (mS m0) 0 rfl) rfl) (Ey rfl ((Y.len us_Is rfl).yd) (Ey rfl ((Y.lss rfl rfl).yd) (n0 (fun q29 => ?_) (fun q29 => ?_))))))))
  ·refine Eu (l4 rfl (i8 (Et (Eq_ (E.block (Ew Z8 (Em rfl (Ey rfl ((i7 fo_Query_0 ty_Is dc rfl).yd) (Ey rfl (f8 ty_Is rfl (Hz (mS m0) 0 rfl) rfl) (Em rfl ?_))))))))))
   obtain ⟨eb36, eo36, ea36, ei36, eh36⟩ := y8.elemI g om
   refine Ey rfl ((o6 us_Is f0 rfl ea36 rfl g rfl om).yd) (Ey rfl (f8 f0 rfl (eh36 _) rfl) (Est rfl (k6 a0K rfl rfl rfl dc (fun w Lp hA => hA.ow m0)) (fun _ _ => (Ent.b (fun q38 => ?_) (fun q38 => ?_)))))
   ·refine Ey rfl ((Y.not (b := true) rfl).yd) (Eu (l6 rfl (i8 (o4 (Et (Ez Z3 (Em rfl (Ey rfl ((Y.add rfl rfl om om).yd) (Ei rfl (Eu (f7 (f7 ?_))))))))))))
    exact u9 br (g + 1) rs (.refl _) ⟨by omega, by grind [d1, d2, t1, t2]⟩ om
   ·refine Ey rfl ((Y.not (b := false) rfl).yd) (Eu (l4 rfl (Ew Z1 (Ei rfl ?_))))
    exact Eu (E.ret (t7 (l0 (l0 (t7 (l0 (Fb rfl rfl (by grind [z8, a0r, d1, d2, t1, t2]))))))))
  ·refine Eu (l6 rfl (E.exit (n8 (n8 (w5 (Et (Ew Z15 (Em rfl (Est rfl (k6 L6 rfl rfl rfl dc (fun w Lp hA => hA.ro hs)) (fun _ _ => (Ent.b (fun q41 => ?_) (fun q41 => ?_))))))))))))
   ·refine Em rfl (Ey rfl ((i7 fo_Query_1 ty_Atoms dc rfl).yd) (Ey rfl (f8 ty_Atoms rfl (Hz (mS m0) 1 rfl) rfl) (Ey rfl ((Y.len us_Atoms rfl).yd) (Est rfl (k6 F9 rfl rfl rfl dc tv) (fun _ _ => (Ent.b (fun q46 => ?_) (fun q46 => ?_)))))))
    ·refine Ey rfl ((s6 rfl rfl).yd) (Em rfl (Ey rfl ((i7 fo_Query_0 ty_Is dc rfl).yd) (Ey rfl (f8 ty_Is rfl (Hz (mS m0) 0 rfl) rfl) (Ey rfl ((Y.len us_Is rfl).yd) (Ey rfl ((Y.leq rfl rfl).yd) (Ey rfl ((s6 rfl rfl).yd) (Ei rfl ?_)))))))
     exact Eu (E.ret (Fb rfl rfl (by grind [z8, a0r, d1, d2, t1, t2])))
    ·refine Ey rfl ((s6 rfl rfl).yd) (Em rfl (Es rfl (Es rfl (Es rfl (Es rfl (Ey rfl ((r9 rfl rfl).yd) (Ei rfl ?_)))))))
     exact Eu (E.ret (Fb rfl rfl (by grind [z8, a0r, d1, d2, t1, t2])))
   ·refine Em rfl (Es rfl (Es rfl (Es rfl (Es rfl (Ey rfl ((r9 rfl rfl).yd) (Em rfl (Es rfl (Es rfl (Es rfl (Es rfl (Ey rfl ((r9 rfl rfl).yd) (Ei rfl ?_))))))))))))
    exact Eu (E.ret (Fb rfl rfl (by grind [z8, a0r, d1, d2, t1, t2])))
end Go.Proofs.YtlfhopooaejpfaaGreat
