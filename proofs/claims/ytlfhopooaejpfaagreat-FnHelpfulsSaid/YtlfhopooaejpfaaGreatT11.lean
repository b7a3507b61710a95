import Derived.Test.YtlfhopooaejpfaaGreatT6
import Derived.Test.YtlfhopooaejpfaaGreatBf
namespace Go.Proofs.YtlfhopooaejpfaaGreat
open Go.RowKit
set_option linter.all false
set_option maxHeartbeats 2000000
attribute [local irreducible] Nop Yd Yp Ent Has Tr FnP FnP2 Src o6 d7 O0 a0h H2
variable {x t o3 : Int} {a6 : List (Int × List Int)} {i9 l s f7 : List Int} {y9 u9 w9 t7 m_l c_l m_s c_s J6 F2 : Nat} {v6 t8 a_l a_s F3 : Option Addr}
theorem a5V {a_atoms : Option Addr} {m_atoms c_atoms : Nat} {i7 : List (Int × List Int)} {is_g : FuncId} {is_c : List Value} {D_is : Int → Prop} {is : Int → Bool} (hz : K2 (fun x => x.2.length) i7 ≤ 1048576) (hD_is : ∀ a ∈ i7, ∀ x ∈ a.2, D_is x) : Tr Tryz.prog 158 [.slice a_atoms m_atoms c_atoms, .func (.func is_g) #[] is_c.toArray] (fun w L => Ro w L H9 [.slice a_atoms m_atoms c_atoms] i7 ∧ FnP Tryz.prog w L is_g is_c Enc.int a8D D_is is) [] (κ := Option Addr × Nat × Nat) (fun k => True) (fun k => .slice k.1 k.2.1 k.2.2) (fun k => [ow eIs [.slice k.1 k.2.1 k.2.2] (f0 is i7)]) := by
 refine Tr.intro Tryz.func158 rfl (n := 37) rfl (by decide +kernel) bl (fr := [(0, .slice a_atoms m_atoms c_atoms), (1, .func (.func is_g) #[] is_c.toArray)]) rfl fun w L hR => ?_
 obtain ⟨hatoms, his⟩ := hR
 obtain ⟨rfl, latoms⟩ := hatoms.slen
 refine Ew Z1 (Ei rfl (Ev Z2 (Est rfl (Nb [] [] us_Is f5 rfl rfl) (fun b10 _ => (Ent.drop (Ei rfl (Eu (Eq_ (Ew Z3 (Em rfl (Ey rfl ((Y.len us_Atoms rfl).yd) (Em rfl (Eu (E.block (s7 (A := []) (Own.nil (E := Enc.int) (e := tI) (a := (some ⟨b10, 0, none⟩))) rfl (f6 (congrArg (ow eIs [_]) (show [] = ((i7.take 0).flatMap (fun a : Int × List Int => a.2)).filter is from by first | rfl | (simp; done) | grind [f0, a0C, d1, d2, t1, t2])) (E.loop (κ := Nat × Option Addr × Nat × Nat) (fun g => g.1 ≤ i7.length ∧ True) (fun g => [(1, .func (.func is_g) #[] is_c.toArray), (5, .slice g.2.1 g.2.2.1 g.2.2.2), (11, .slice a_atoms i7.length c_atoms), (12, .int .i64 (↑i7.length : Int)), (13, .int .i64 (↑g.1 : Int))]) (fun g => [ow eIs [.slice g.2.1 g.2.2.1 g.2.2.2] (((i7.take g.1).flatMap (fun a : Int × List Int => a.2)).filter is)]) (fun g => i7.length - g.1) (0, (some ⟨b10, 0, none⟩), 0, 0) ⟨Nat.zero_le _, by simp⟩ ⟨rfl, rfl, rfl, rfl, rfl, trivial⟩ (.refl _) (fun g pg => ?_))))))))))))))))))
 obtain ⟨g, aA0_0, mA0_0, cA0_0⟩ := g
 try dsimp only at pg
 try dsimp only
 obtain ⟨pk, pa⟩ := pg
 have jt := b6H (is := is) (g := g) hz
 refine d6 m0 fun eaA0_0 laA0_0 => ?_
 subst eaA0_0
 refine Ew Z1 (Ey rfl ((Y.lss rfl rfl).yd) (n9 (fun q14 => ?_) (fun q14 => ?_)))
 ·obtain ⟨eb15, eo15, ec15, ea15, er15, el15, eh15⟩ := hatoms.elem g om
  obtain ⟨xa15_0, xc15_0, rfl, ei15_0, xh15_0⟩ := a0m er15
  have := xh15_0.slen.2
  refine Eu (Eq_ (o0 rfl (f9 (Et (Eq_ (E.block (Ew Z4 (Ey rfl ((w3 us_Atoms ty_Atom rfl ea15 rfl g rfl om).yd) (Ey rfl (r9 (cs := [_, _]) ty_Atom rfl (eh15 _) rfl) (Est rfl (N.alloc ty_Atom dc) (fun b7 _ => (Est rfl (Ns [_, _] ty_Atom rfl) (fun _ _ => (Ev Z4 (Ey rfl ((i8 fo_Atom_1 ty_Is dc rfl).yd) (Ey rfl (g9 ty_Is rfl (Hz m0 1 rfl) rfl) (Ey rfl ((Y.len us_Is rfl).yd) (Em rfl (Eu (E.block (d8 (f6 (congrArg (ow eIs [_]) (show ((i7.take g).flatMap (fun a : Int × List Int => a.2)).filter is = ((i7.take g).flatMap (fun a : Int × List Int => a.2)).filter is ++ (i7[g].2.take 0).filter is from by first | rfl | (simp; done) | grind [f0, a0C, d1, d2, t1, t2])) (E.loop (κ := Nat × Option Addr × Nat × Nat) (fun h => h.1 ≤ i7[g].2.length ∧ True) (fun h => [(1, .func (.func is_g) #[] is_c.toArray), (5, .slice h.2.1 h.2.2.1 h.2.2.2), (11, .slice a_atoms i7.length c_atoms), (12, .int .i64 (↑i7.length : Int)), (13, .int .i64 (g : Int)), (18, .slice xa15_0 i7[g].2.length xc15_0), (19, .int .i64 (↑i7[g].2.length : Int)), (20, .int .i64 (↑h.1 : Int))]) (fun h => [ow eIs [.slice h.2.1 h.2.2.1 h.2.2.2] (((i7.take g).flatMap (fun a : Int × List Int => a.2)).filter is ++ (i7[g].2.take h.1).filter is), pt b7 81 [.int .i64 i7[g].1, .slice xa15_0 i7[g].2.length xc15_0]]) (fun h => i7[g].2.length - h.1) (0, aA0_0, (((i7.take g).flatMap (fun a : Int × List Int => a.2)).filter is).length, cA0_0) ⟨Nat.zero_le _, by simp⟩ ⟨rfl, rfl, rfl, rfl, rfl, rfl, rfl, rfl, trivial⟩ (.refl _) (fun h ph => ?_))))))))))))))))))))))))
  obtain ⟨h, aA1_0, mA1_0, cA1_0⟩ := h
  try dsimp only at ph
  try dsimp only
  obtain ⟨pk, pa⟩ := ph
  have ju := a6k (is := is) (g := g) (h := h) hz om
  refine d6 m0 fun eaA1_0 laA1_0 => ?_
  subst eaA1_0
  refine Ew Z1 (Ey rfl ((Y.lss rfl rfl).yd) (n9 (fun q21 => ?_) (fun q21 => ?_)))
  ·obtain ⟨eb22, eo22, ea22, ei22, eh22⟩ := xh15_0.elemI h om
   refine Eu (Eq_ (o0 rfl (f9 (Et (Eq_ (E.block (Ew Z3 (Ey rfl ((w3 us_Is f5 rfl ea22 rfl h rfl om).yd) (Ey rfl (g9 f5 rfl (eh22 _) rfl) (Ei rfl (Ev Z3 (Em rfl (Em rfl (Est rfl (N.fn (cs := [_]) his rfl rfl rfl dc (fun w Lp hA => P7 ei22) (hD_is i7[g] (List.getElem_mem om) _ (List.getElem_mem om))) (fun _ _ => (Ent.b (fun q26 => ?_) (fun q26 => ?_)))))))))))))))))
   ·refine Eu (o0 rfl (Ez Z5 (Em rfl (Em rfl (Est rfl (Nb [_] [_] us_Is f5 rfl rfl) (fun b29 _ => (d8 (Est rfl (B2 (E := Enc.int) (ex := i7[g].2[h]) us_Is f5 rfl rfl rfl (Own.int ei22) rfl bn bn dc) (fun p30 _ => (Ei rfl (En (s8 (Et (Ez Z2 (Ey rfl ((Y.add rfl rfl om om).yd) (Em rfl (Eu (f6 (congrArg (ow eIs [_]) (show (((i7.take g).flatMap (fun a : Int × List Int => a.2)).filter is ++ (i7[g].2.take h).filter is) ++ [i7[g].2[h]] = ((i7.take g).flatMap (fun a : Int × List Int => a.2)).filter is ++ (i7[g].2.take (h + 1)).filter is from by grind [f0, a0C, d1, d2, t1, t2])) (d8 (d8 ?_))))))))))))))))))))
    exact Ea (h + 1, p30.1, ((((i7.take g).flatMap (fun a : Int × List Int => a.2)).filter is ++ (i7[g].2.take h).filter is).length + 1), p30.2) ⟨oz, trivial⟩
   ·refine Eu (n8 rfl (f9 (s8 (Et (Ez Z2 (Ey rfl ((Y.add rfl rfl om om).yd) (Em rfl (Eu (f6 (congrArg (ow eIs [_]) (show ((i7.take g).flatMap (fun a : Int × List Int => a.2)).filter is ++ (i7[g].2.take h).filter is = ((i7.take g).flatMap (fun a : Int × List Int => a.2)).filter is ++ (i7[g].2.take (h + 1)).filter is from by grind [f0, a0C, d1, d2, t1, t2])) (d8 (d8 ?_)))))))))))
    exact Ea (h + 1, aA1_0, (((i7.take g).flatMap (fun a : Int × List Int => a.2)).filter is ++ (i7[g].2.take h).filter is).length, cA1_0) ⟨oz, trivial⟩
  ·refine Eu (Eq_ (n8 rfl (E.exit (l3 (l3 (y4 (s8 (Et (Ez Z2 (Ey rfl ((Y.add rfl rfl om om).yd) (Em rfl (Eu (d8 (Ent.drop (f6 (congrArg (ow eIs [_]) (show ((i7.take g).flatMap (fun a : Int × List Int => a.2)).filter is ++ (i7[g].2.take h).filter is = ((i7.take (g + 1)).flatMap (fun a : Int × List Int => a.2)).filter is from by grind [f0, a0C, d1, d2, t1, t2])) ?_)))))))))))))))
   exact Ea (g + 1, aA1_0, (((i7.take g).flatMap (fun a : Int × List Int => a.2)).filter is ++ (i7[g].2.take h).filter is).length, cA1_0) ⟨oz, trivial⟩
 ·refine Eu (Eq_ (n8 rfl (E.exit (l3 (l3 (y4 (Et (Ew Z2 (Em rfl (Est rfl (N.call (pre := [_]) (b4O fc) rfl rfl rfl dc rfl tv) (fun _ _ => (Ev Z3 (Em rfl (Est rfl (N.call (pre := [_]) a9D rfl rfl rfl dc rfl tv) (fun k36 _ => ?_)))))))))))))))
  obtain ⟨a36, m36, c36⟩ := k36
  refine d6 m0 fun e36 l36 => ?_
  subst e36
  refine Ei rfl (Eu (E.ret (f6 (congrArg (ow eIs [_]) (show _ = f0 is i7 by rw [a0C]; grind [f0, d1, d2, t1, t2])) ?_)))
  exact Fg rfl rfl (_, _, _) rfl rfl
theorem a6P (hz : K2 (fun x => x.2.length) a6 ≤ 1048576) : Tr Tryz.prog 207 [.agg #[.slice v6 y9 u9, .slice t8 w9 t7]] (fun w L => Ro w L eIs [.slice v6 y9 u9] i9 ∧ Ro w L H9 [.slice t8 w9 t7] a6) [] (κ := Option Addr × Nat × Nat) (fun k => True) (fun k => .slice k.1 k.2.1 k.2.2) (fun k => [ow eIs [.slice k.1 k.2.1 k.2.2] (f0 (fun t => inR t 10 17) a6)]) := by
 refine Tr.intro Tryz.func207 rfl (n := 6) rfl (by decide +kernel) bl (fr := [(0, .agg #[.slice v6 y9 u9, .slice t8 w9 t7])]) rfl fun w L hR => ?_
 obtain ⟨w7, u6⟩ := hR
 obtain ⟨rfl, P6⟩ := w7.slen
 obtain ⟨rfl, M4⟩ := u6.slen
 refine Ew Z2 (Est rfl (N.box (cs := [_, _]) rfl dc rfl) (fun b1 _ => (Ei rfl (Ev Z4 (Ey rfl ((i8 fo_Query_1 ty_Atoms dc rfl).yd) (Ey rfl (g9 ty_Atoms rfl (Hz m0 1 rfl) rfl) (Est rfl (N.call (a5V (is := (fun t => inR t 10 17)) (D_is := (fun _ => True)) fc (by intros; exact trivial)) rfl rfl rfl dc rfl (fun w Lp hA => ⟨hA.ro u6, a3R (D := (fun _ => True)) (RR := fun _ _ => True) (fun hd => b8B a3n (fun _ _ _ => trivial)) (fun w' hk => trivial)⟩)) (fun k5 _ => ?_))))))))
 obtain ⟨a5, m5, c5⟩ := k5
 refine d6 m0 fun e5 l5 => ?_
 subst e5
 refine Ei rfl ?_
 exact Eu (E.ret (Fg rfl rfl (_, _, _) rfl rfl))
theorem a4L : Tr Tryz.prog 61 [.slice a_l m_l c_l, .int .i64 x] (fun w L => Ro w L eIs [.slice a_l m_l c_l] l) [] (κ := Unit) (fun k => True) (fun k => .bool (R5 l x)) (fun k => []) := by
 refine Tr.intro Tryz.func61 rfl (n := 18) rfl (by decide +kernel) bl (fr := [(0, .slice a_l m_l c_l), (1, .int .i64 x)]) rfl fun w L hR => ?_
 have hl := hR
 obtain ⟨rfl, ll⟩ := hl.slen
 refine Ew Z1 (Ei rfl (Eu (Eq_ (Ew Z1 (Ei rfl (Eu (E.block (E.loop (κ := Nat) (fun g => g ≤ l.length ∧ R5 l x = R5 (l.drop g) x) (fun g => [(0, .slice a_l l.length c_l), (1, .int .i64 x), (5, .int .i64 (g : Int))]) (fun g => []) (fun g => l.length - g) 0 ⟨Nat.zero_le _, by simp⟩ ⟨rfl, rfl, rfl, trivial⟩ (.refl _) (fun g pg => ?_)))))))))
 obtain ⟨pk, pa⟩ := pg
 refine Eq_ (Ew Z4 (Em rfl (Em rfl (Ey rfl ((Y.len us_Is rfl).yd) (Ey rfl ((Y.lss rfl rfl).yd) (n9 (fun q9 => ?_) (fun q9 => ?_)))))))
 ·refine Eu (o0 rfl (f9 (Et (Eq_ (E.block (Ew Z6 (Em rfl (Em rfl ?_))))))))
  obtain ⟨eb14, eo14, ea14, ei14, eh14⟩ := hl.elemI g om
  refine Ey rfl ((w3 us_Is f5 rfl ea14 rfl g rfl om).yd) (Ey rfl (g9 f5 rfl (eh14 _) rfl) (Em rfl (Ey rfl ((Y.eql rfl rfl).yd) (n9 (fun q17 => ?_) (fun q17 => ?_)))))
  ·refine Eu (o0 rfl (Ew Z1 (Ei rfl ?_)))
   exact Eu (E.ret (C9 (s9 (s9 (C9 (s9 (Fb rfl rfl (by grind [R5, d1, d2, t1, t2]))))))))
  ·refine Eu (n8 rfl (f9 (s8 (Et (Ez Z3 (Em rfl (Ey rfl ((Y.add rfl rfl om om).yd) (Ei rfl ?_))))))))
   exact Eu (B0 br (g + 1) rs (.refl _) ⟨by omega, by grind [R5, d1, d2, t1, t2]⟩ om)
 ·refine Eu (n8 rfl (E.exit (l3 (l3 (y4 (Et (Ew Z1 (Ei rfl ?_))))))))
  exact Eu (E.ret (Fb rfl rfl (by grind [R5, d1, d2, t1, t2])))
theorem a3a (hz : l.length ≤ 1073741824) : Tr Tryz.prog 132 [.slice a_l m_l c_l, .int .i64 x] (fun w L => I64 x) [ow eIs [.slice a_l m_l c_l] l] (κ := Option Addr × Nat × Nat) (fun k => True) (fun k => .slice k.1 k.2.1 k.2.2) (fun k => [ow eIs [.slice k.1 k.2.1 k.2.2] (M3 l x)]) := by
 refine Tr.intro Tryz.func132 rfl (n := 47) rfl (by decide +kernel) bl (fr := [(0, .slice a_l m_l c_l), (1, .int .i64 x)]) rfl fun w L hR => ?_
 have i6x := hR
 refine d6 m0 fun el ll => ?_
 subst el
 refine Ew Z1 (Ei rfl (Eu (Eq_ (Ew Z3 (Em rfl (Em rfl (Est rfl (o4 a4L rfl rfl rfl dc (fun w Lp hA => hA.ow m0)) (fun _ _ => (Ent.b (fun q10 => ?_) (fun q10 => ?_))))))))))
 ·refine Eu (o0 rfl (Ew Z2 (Em rfl (Ei rfl (Eu (E.ret (s9 (f6 (congrArg (ow eIs [_]) (show _ = M3 l x by grind [M3, W3, V8, a0e, d1, d2, t1, t2])) ?_))))))))
  exact Fg rfl rfl (_, _, _) rfl rfl
 ·refine H7 (A := [_]) rfl fun wb1 Lb1 hB1 hA1 => ?_
  have rb1 : Ro wb1 Lb1 eIs [.slice a_l l.length c_l] l := hA1.ow m0
  refine Eu (n8 rfl (f9 (Et (Ew Z2 (Est rfl (Nb [] [] us_Is f5 rfl rfl) (fun b12 _ => (Ent.drop (Ei rfl (Ev Z1 (Ei rfl (Eu (Eq_ (Ew Z1 (Ei rfl (Eu (E.block (s7 (A := []) (Own.nil (E := Enc.int) (e := tI) (a := (some ⟨b12, 0, none⟩))) rfl (f6 (congrArg (ow eIs [_]) (show [] = O6 (fun y => decide (x < y)) x (l.take 0) from by first | rfl | (simp; done) | grind [M3, W3, V8, a0e, d1, d2, t1, t2])) (E.loop (κ := Nat × Option Addr × Nat × Nat) (fun g => g.1 ≤ l.length ∧ True) (fun g => [(0, .slice a_l l.length c_l), (1, .int .i64 x), (5, .slice g.2.1 g.2.2.1 g.2.2.2), (6, .bool ((l.take g.1).any (fun y => decide (x < y)))), (7, .int .i64 (↑g.1 : Int))]) (fun g => [ow eIs [.slice g.2.1 g.2.2.1 g.2.2.2] (O6 (fun y => decide (x < y)) x (l.take g.1))]) (fun g => l.length - g.1) (0, (some ⟨b12, 0, none⟩), 0, 0) ⟨Nat.zero_le _, by simp⟩ ⟨rfl, rfl, rfl, frB (by first | rfl | (simp; done) | grind [M3, W3, V8, a0e, d1, d2, t1, t2]), rfl, trivial⟩ (.refl _) (fun g pg => ?_))))))))))))))))))))
  obtain ⟨g, aA0_0, mA0_0, cA0_0⟩ := g
  try dsimp only at pg
  try dsimp only
  obtain ⟨pk, pa⟩ := pg
  have jp := List.length_take_le g l
  have ji := a6D (p := (fun y => decide (x < y))) (f := x) (l := l.take g)
  refine d6 m0 fun eaA0_0 laA0_0 => ?_
  subst eaA0_0
  refine Eq_ (Ew Z4 (Em rfl (Em rfl (Ey rfl ((Y.len us_Is rfl).yd) (Ey rfl ((Y.lss rfl rfl).yd) (n9 (fun q16 => ?_) (fun q16 => ?_)))))))
  ·refine Eu (o0 rfl (f9 (Et (Eq_ (E.block (Eq_ (Ew Z10 (Em rfl (Ent.b (fun q19 => ?_) (fun q19 => ?_))))))))))
   ·refine Ey rfl ((Y.not (b := true) rfl).yd) (Em rfl (Es rfl (Es rfl (Es rfl (Es rfl (Es rfl (Es rfl (Ey rfl ((z7 rfl rfl).yd) (Eu (n8 rfl (f9 (Et (Ez Z8 (Em rfl (Em rfl (Em rfl ?_))))))))))))))))
    obtain ⟨eb36, eo36, ea36, ei36, eh36⟩ := rb1.elemI g om
    refine Ey rfl ((w3 us_Is f5 rfl ea36 rfl g rfl om).yd) (Ey rfl (g9 f5 rfl (eh36 _) rfl) (Est rfl (Nb [_] [_] us_Is f5 rfl rfl) (fun b38 _ => (d8 (Est rfl (B2 (E := Enc.int) (ex := l[g]) us_Is f5 rfl rfl rfl (Own.int ei36) rfl bn bn dc) (fun p39 _ => (Ei rfl (En (s8 (Et (Ez Z3 (Em rfl (Ey rfl ((Y.add rfl rfl om om).yd) (Ei rfl (Eu (f6 (congrArg (ow eIs [_]) (show (O6 (fun y => decide (x < y)) x (l.take g)) ++ [l[g]] = O6 (fun y => decide (x < y)) x (l.take (g + 1)) from by grind [M3, W3, V8, a0e, d1, d2, t1, t2])) ?_))))))))))))))))
    exact B0 br (g + 1, p39.1, ((O6 (fun y => decide (x < y)) x (l.take g)).length + 1), p39.2) ⟨rfl, rfl, rfl, frB (by grind [M3, W3, V8, a0e, d1, d2, t1, t2]), rfl, trivial⟩ (.refl _) ⟨oz, trivial⟩ oz
   ·refine Ey rfl ((Y.not (b := false) rfl).yd) (Em rfl (Em rfl (Em rfl ?_)))
    obtain ⟨eb24, eo24, ea24, ei24, eh24⟩ := rb1.elemI g om
    refine Ey rfl ((w3 us_Is f5 rfl ea24 rfl g rfl om).yd) (Ey rfl (g9 f5 rfl (eh24 _) rfl) (Em rfl (Ey rfl ((Y.gtr rfl rfl).yd) (n9 (fun q27 => ?_) (fun q27 => ?_)))))
    ·refine Ey rfl ((x6 rfl rfl).yd) (Eu (o0 rfl (Ew Z5 (Em rfl (Em rfl (Est rfl (Nb [_] [_] us_Is f5 rfl rfl) (fun b31 _ => (d8 (Est rfl (B2 (E := Enc.int) (ex := x) us_Is f5 rfl rfl rfl (Own.int i6x) rfl bn bn dc) (fun p32 _ => (Ei rfl (Eu (Ez Z1 (Ei rfl (Eu (Ez Z8 (Em rfl (Em rfl (Em rfl (Ey rfl ((w3 us_Is f5 rfl ea24 rfl g rfl om).yd) (Ey rfl (g9 f5 rfl (eh24 _) rfl) (Est rfl (Nb [_] [_] us_Is f5 rfl rfl) (fun b38 _ => (d8 ?_))))))))))))))))))))))))
     refine Est rfl (B2 (E := Enc.int) (ex := l[g]) us_Is f5 rfl rfl rfl (Own.int ei24) rfl bn bn dc) (fun p39 _ => (Ei rfl (En (s8 (Et (Ez Z3 (Em rfl (Ey rfl ((Y.add rfl rfl om om).yd) (Ei rfl (Eu (f6 (congrArg (ow eIs [_]) (show ((O6 (fun y => decide (x < y)) x (l.take g)) ++ [x]) ++ [l[g]] = O6 (fun y => decide (x < y)) x (l.take (g + 1)) from by grind [M3, W3, V8, a0e, d1, d2, t1, t2])) ?_)))))))))))
     exact B0 br (g + 1, p39.1, (((O6 (fun y => decide (x < y)) x (l.take g)).length + 1) + 1), p39.2) ⟨rfl, rfl, rfl, frB (by grind [M3, W3, V8, a0e, d1, d2, t1, t2]), rfl, trivial⟩ (.refl _) ⟨oz, trivial⟩ oz
    ·refine Ey rfl ((x6 rfl rfl).yd) (Eu (n8 rfl (f9 (Et (Ez Z8 (Em rfl (Em rfl (Em rfl (Ey rfl ((w3 us_Is f5 rfl ea24 rfl g rfl om).yd) (Ey rfl (g9 f5 rfl (eh24 _) rfl) (Est rfl (Nb [_] [_] us_Is f5 rfl rfl) (fun b38 _ => (d8 (Est rfl (B2 (E := Enc.int) (ex := l[g]) us_Is f5 rfl rfl rfl (Own.int ei24) rfl bn bn dc) (fun p39 _ => (Ei rfl (En (s8 (Et (Ez Z3 (Em rfl (Ey rfl ((Y.add rfl rfl om om).yd) (Ei rfl (Eu (f6 (congrArg (ow eIs [_]) (show (O6 (fun y => decide (x < y)) x (l.take g)) ++ [l[g]] = O6 (fun y => decide (x < y)) x (l.take (g + 1)) from by grind [M3, W3, V8, a0e, d1, d2, t1, t2])) ?_)))))))))))))))))))))))))
     exact B0 br (g + 1, p39.1, ((O6 (fun y => decide (x < y)) x (l.take g)).length + 1), p39.2) ⟨rfl, rfl, rfl, frB (by grind [M3, W3, V8, a0e, d1, d2, t1, t2]), rfl, trivial⟩ (.refl _) ⟨oz, trivial⟩ oz
  ·refine Eu (n8 rfl (E.exit (l3 (l3 (y4 (Et (Eq_ (Ew Z2 (Em rfl (Ent.b (fun q40 => ?_) (fun q40 => ?_)))))))))))
   ·refine Ey rfl ((Y.not (b := true) rfl).yd) (Eu (n8 rfl (f9 (Et (Ew Z2 (Em rfl (Ei rfl (Eu (E.ret (f6 (congrArg (ow eIs [_]) (show _ = M3 l x by grind [M3, W3, V8, a0e, d1, d2, t1, t2])) ?_))))))))))
    exact F.r1 hB1 rfl rfl (_, _, _) trivial rfl (J := _) (.refl _) (.inl rfl)
   ·refine Ey rfl ((Y.not (b := false) rfl).yd) (Eu (o0 rfl (Ez Z5 (Em rfl (Em rfl (Est rfl (Nb [_] [_] us_Is f5 rfl rfl) (fun b44 _ => (d8 (Est rfl (B2 (E := Enc.int) (ex := x) us_Is f5 rfl rfl rfl (Own.int i6x) rfl bn bn dc) (fun p45 _ => (Ei rfl (Ev Z2 (Em rfl (Ei rfl (Eu (E.ret (f6 (congrArg (ow eIs [_]) (show _ = M3 l x by grind [M3, W3, V8, a0e, d1, d2, t1, t2])) ?_)))))))))))))))))
    exact F.r1 hB1 rfl rfl (_, _, _) trivial rfl (J := _) (.refl _) (.inl rfl)
theorem a4c (hz : K2 (fun x => x.2.length) a6 ≤ 1048576) : Tr Tryz.prog 134 [.agg #[.slice v6 y9 u9, .slice t8 w9 t7]] (fun w L => Ro w L eIs [.slice v6 y9 u9] i9 ∧ Ro w L H9 [.slice t8 w9 t7] a6) [] (κ := Option Addr × Nat × Nat) (fun k => True) (fun k => .slice k.1 k.2.1 k.2.2) (fun k => [ow eIs [.slice k.1 k.2.1 k.2.2] (f0 (fun t => inR t 10 17) a6)]) := by
 refine Tr.intro Tryz.func134 rfl (n := 47) rfl (by decide +kernel) bl (fr := [(0, .agg #[.slice v6 y9 u9, .slice t8 w9 t7])]) rfl fun w L hR => ?_
 obtain ⟨w7, u6⟩ := hR
 obtain ⟨rfl, P6⟩ := w7.slen
 obtain ⟨rfl, M4⟩ := u6.slen
 have jv := u6.i64A
 refine Ew Z2 (Est rfl (N.box (cs := [_, _]) rfl dc rfl) (fun b1 _ => (Ei rfl (Ev Z2 (Est rfl (Nb [] [] us_Is f5 rfl rfl) (fun b6 _ => (Ent.drop (Ei rfl (Eu (Eq_ (Ew Z1 (Ei rfl (Eu (E.block (s7 (A := []) (Own.nil (E := Enc.int) (e := tI) (a := (some ⟨b6, 0, none⟩))) rfl (f6 (congrArg (ow eIs [_]) (show [] = I2 (((a6.take 0).flatMap (fun a : Int × List Int => a.2)).filter (fun t => inR t 10 17)) from by first | rfl | (simp; done) | grind [f0, Y2, O8, d1, d2, t1, t2])) (E.loop (κ := Nat × Option Addr × Nat × Nat) (fun g => g.1 ≤ a6.length ∧ True) (fun g => [(1, .pointer (some ⟨b1, 0, none⟩)), (3, .slice g.2.1 g.2.2.1 g.2.2.2), (4, .int .i64 (↑g.1 : Int))]) (fun g => [ow eIs [.slice g.2.1 g.2.2.1 g.2.2.2] (I2 (((a6.take g.1).flatMap (fun a : Int × List Int => a.2)).filter (fun t => inR t 10 17))), pt b1 28 [.slice v6 i9.length u9, .slice t8 a6.length t7]]) (fun g => a6.length - g.1) (0, (some ⟨b6, 0, none⟩), 0, 0) ⟨Nat.zero_le _, by simp⟩ ⟨rfl, rfl, rfl, trivial⟩ (.refl _) (fun g pg => ?_))))))))))))))))))
 obtain ⟨g, aA0_0, mA0_0, cA0_0⟩ := g
 try dsimp only at pg
 try dsimp only
 obtain ⟨pk, pa⟩ := pg
 refine d6 m0 fun eaA0_0 laA0_0 => ?_
 subst eaA0_0
 refine Eq_ (Ew Z5 (Em rfl (Ey rfl ((i8 fo_Query_1 ty_Atoms dc rfl).yd) (Ey rfl (g9 ty_Atoms rfl (Hz (mS m0) 1 rfl) rfl) (Ey rfl ((Y.len us_Atoms rfl).yd) (Ey rfl ((Y.lss rfl rfl).yd) (n9 (fun q11 => ?_) (fun q11 => ?_))))))))
 ·refine Eu (o0 rfl (f9 (Et (Eq_ (E.block (Ew Z1 (Ei rfl (Eu (E.block (f6 (congrArg (ow eIs [_]) (show I2 (((a6.take g).flatMap (fun a : Int × List Int => a.2)).filter (fun t => inR t 10 17)) = I2 (((a6.take g).flatMap (fun a : Int × List Int => a.2)).filter (fun t => inR t 10 17) ++ (a6[g].2.take 0).filter (fun t => inR t 10 17)) from by first | rfl | (simp; done) | grind [f0, Y2, O8, d1, d2, t1, t2])) (E.loop (κ := Nat × Option Addr × Nat × Nat) (fun h => h.1 ≤ a6[g].2.length ∧ True) (fun h => [(1, .pointer (some ⟨b1, 0, none⟩)), (3, .slice h.2.1 h.2.2.1 h.2.2.2), (4, .int .i64 (g : Int)), (5, .int .i64 (↑h.1 : Int))]) (fun h => [ow eIs [.slice h.2.1 h.2.2.1 h.2.2.2] (I2 (((a6.take g).flatMap (fun a : Int × List Int => a.2)).filter (fun t => inR t 10 17) ++ (a6[g].2.take h.1).filter (fun t => inR t 10 17))), pt b1 28 [.slice v6 i9.length u9, .slice t8 a6.length t7]]) (fun h => a6[g].2.length - h.1) (0, aA0_0, (I2 (((a6.take g).flatMap (fun a : Int × List Int => a.2)).filter (fun t => inR t 10 17))).length, cA0_0) ⟨Nat.zero_le _, by simp⟩ ⟨rfl, rfl, rfl, rfl, trivial⟩ (.refl _) (fun h ph => ?_))))))))))))
  obtain ⟨h, aA1_0, mA1_0, cA1_0⟩ := h
  try dsimp only at ph
  try dsimp only
  obtain ⟨pk, pa⟩ := ph
  have ju := a6k (is := (fun t => inR t 10 17)) (g := g) (h := h) hz om
  have jw := a6p (l := ((a6.take g).flatMap (fun a : Int × List Int => a.2)).filter (fun t => inR t 10 17) ++ (a6[g].2.take h).filter (fun t => inR t 10 17))
  refine d6 m0 fun eaA1_0 laA1_0 => ?_
  subst eaA1_0
  refine Eq_ (Ew Z9 (Em rfl (Ey rfl ((i8 fo_Query_1 ty_Atoms dc rfl).yd) (Ey rfl (g9 ty_Atoms rfl (Hz (mS m0) 1 rfl) rfl) (Em rfl ?_)))))
  obtain ⟨eb18, eo18, ec18, ea18, er18, el18, eh18⟩ := u6.elem g om
  obtain ⟨xa18_0, xc18_0, rfl, ei18_0, xh18_0⟩ := a0m er18
  have := xh18_0.slen.2
  refine Ey rfl ((w3 us_Atoms ty_Atom rfl ea18 rfl g rfl om).yd) (Ey rfl ((i8 fo_Atom_1 ty_Is dc rfl).yd) (Ey rfl (g9 ty_Is rfl ((eh18 _).sub (cs' := [_]) 1 rfl) rfl) (Ey rfl ((Y.len us_Is rfl).yd) (Ey rfl ((Y.lss rfl rfl).yd) (n9 (fun q22 => ?_) (fun q22 => ?_))))))
  ·refine Eu (o0 rfl (f9 (Et (Eq_ (E.block (Ew Z10 (Ey rfl ((i8 fo_Query_1 ty_Atoms dc rfl).yd) (Ey rfl (g9 ty_Atoms rfl (Hz (mS m0) 1 rfl) rfl) (Em rfl (Ey rfl ((w3 us_Atoms ty_Atom rfl ea18 rfl g rfl om).yd) (Ey rfl ((i8 fo_Atom_1 ty_Is dc rfl).yd) (Ey rfl (g9 ty_Is rfl ((eh18 _).sub (cs' := [_]) 1 rfl) rfl) (Em rfl ?_)))))))))))))
   obtain ⟨eb32, eo32, ea32, ei32, eh32⟩ := xh18_0.elemI h om
   refine Ey rfl ((w3 us_Is f5 rfl ea32 rfl h rfl om).yd) (Ey rfl (g9 f5 rfl (eh32 _) rfl) (Est rfl (o4 a3t rfl rfl rfl dc tv) (fun _ _ => (Ent.b (fun q34 => ?_) (fun q34 => ?_)))))
   ·refine Eu (o0 rfl (Ez Z12 (Em rfl (Ey rfl ((i8 fo_Query_1 ty_Atoms dc rfl).yd) (Ey rfl (g9 ty_Atoms rfl (Hz (mS m0) 1 rfl) rfl) (Em rfl (Ey rfl ((w3 us_Atoms ty_Atom rfl ea18 rfl g rfl om).yd) (Ey rfl ((i8 fo_Atom_1 ty_Is dc rfl).yd) (Ey rfl (g9 ty_Is rfl ((eh18 _).sub (cs' := [_]) 1 rfl) rfl) (Em rfl (Ey rfl ((w3 us_Is f5 rfl ea32 rfl h rfl om).yd) (Ey rfl (g9 f5 rfl (eh32 _) rfl) (Est rfl (N.call (pre := [_]) (a3a fc) rfl rfl rfl dc rfl (fun w Lp hA => ei32)) (fun k45 _ => ?_))))))))))))))
    obtain ⟨a45, m45, c45⟩ := k45
    refine d6 m0 fun e45 l45 => ?_
    subst e45
    refine Ei rfl (En (s8 (Et (Ez Z3 (Em rfl (Ey rfl ((Y.add rfl rfl om om).yd) (Ei rfl (Eu (f6 (congrArg (ow eIs [_]) (show M3 (I2 (((a6.take g).flatMap (fun a : Int × List Int => a.2)).filter (fun t => inR t 10 17) ++ (a6[g].2.take h).filter (fun t => inR t 10 17))) a6[g].2[h] = I2 (((a6.take g).flatMap (fun a : Int × List Int => a.2)).filter (fun t => inR t 10 17) ++ (a6[g].2.take (h + 1)).filter (fun t => inR t 10 17)) from by grind [f0, Y2, O8, d1, d2, t1, t2])) (d8 (d8 ?_)))))))))))
    exact Ea (h + 1, a45, (M3 (I2 (((a6.take g).flatMap (fun a : Int × List Int => a.2)).filter (fun t => inR t 10 17) ++ (a6[g].2.take h).filter (fun t => inR t 10 17))) a6[g].2[h]).length, c45) ⟨oz, trivial⟩
   ·refine Eu (n8 rfl (f9 (s8 (Et (Ez Z3 (Em rfl (Ey rfl ((Y.add rfl rfl om om).yd) (Ei rfl (Eu (f6 (congrArg (ow eIs [_]) (show I2 (((a6.take g).flatMap (fun a : Int × List Int => a.2)).filter (fun t => inR t 10 17) ++ (a6[g].2.take h).filter (fun t => inR t 10 17)) = I2 (((a6.take g).flatMap (fun a : Int × List Int => a.2)).filter (fun t => inR t 10 17) ++ (a6[g].2.take (h + 1)).filter (fun t => inR t 10 17)) from by grind [f0, Y2, O8, d1, d2, t1, t2])) (d8 (d8 ?_))))))))))))
    exact Ea (h + 1, aA1_0, (I2 (((a6.take g).flatMap (fun a : Int × List Int => a.2)).filter (fun t => inR t 10 17) ++ (a6[g].2.take h).filter (fun t => inR t 10 17))).length, cA1_0) ⟨oz, trivial⟩
  ·refine Eu (n8 rfl (E.exit (l3 (l3 (y4 (s8 (Et (Ez Z3 (Em rfl (Ey rfl ((Y.add rfl rfl om om).yd) (Ei rfl (Eu (f6 (congrArg (ow eIs [_]) (show I2 (((a6.take g).flatMap (fun a : Int × List Int => a.2)).filter (fun t => inR t 10 17) ++ (a6[g].2.take h).filter (fun t => inR t 10 17)) = I2 (((a6.take (g + 1)).flatMap (fun a : Int × List Int => a.2)).filter (fun t => inR t 10 17)) from by grind [f0, Y2, O8, d1, d2, t1, t2])) (d8 (d8 ?_)))))))))))))))
   exact Ea (g + 1, aA1_0, (I2 (((a6.take g).flatMap (fun a : Int × List Int => a.2)).filter (fun t => inR t 10 17) ++ (a6[g].2.take h).filter (fun t => inR t 10 17))).length, cA1_0) ⟨oz, trivial⟩
 ·refine Eu (n8 rfl (E.exit (l3 (l3 (y4 (Et (Ew Z2 (Em rfl (Ei rfl (Eu (E.ret (f6 (congrArg (ow eIs [_]) (show _ = f0 (fun t => inR t 10 17) a6 by grind [f0, Y2, O8, d1, d2, t1, t2])) ?_))))))))))))
  exact Fg rfl rfl (_, _, _) rfl rfl
theorem b1K : Tr Tryz.prog 241 [.int .i64 t] (fun w L => True) [] (κ := Unit) (fun k => True) (fun k => .bool (S0 t)) (fun k => []) := by
 refine Tr.intro Tryz.func241 rfl (n := 9) rfl (by decide +kernel) bl (fr := [(0, .int .i64 t)]) rfl fun w L hR => (Ew Z1 (Ei rfl (Ev Z7 (Em rfl (Est rfl (o4 a2u rfl rfl rfl dc tv) (fun _ _ => (Ent.b (fun q4 => ?_) (fun q4 => ?_))))))))
 ·refine Em rfl (Es rfl (Es rfl (Ey rfl ((x6 rfl rfl).yd) (Ei rfl ?_))))
  exact Eu (E.ret (Fb rfl rfl (by grind [S0, d1, d2, t1, t2])))
 ·refine Em rfl (Em rfl (Est rfl (o4 a3n rfl rfl rfl dc tv) (fun _ _ => (Ey rfl ((z7 rfl rfl).yd) (Ei rfl ?_)))))
  exact Eu (E.ret (Fb rfl rfl (by grind [S0, d1, d2, t1, t2])))
theorem b1U : Tr Tryz.prog 196 [.int .i64 t] (fun w L => True) [] (κ := Unit) (fun k => True) (fun k => .bool (S0 t)) (fun k => []) := by
 refine Tr.intro Tryz.func196 rfl (n := 9) rfl (by decide +kernel) bl (fr := [(0, .int .i64 t)]) rfl fun w L hR => (Ew Z1 (Ei rfl (Ev Z7 (Em rfl (Est rfl (o4 N7 rfl rfl rfl dc tv) (fun _ _ => (Ent.b (fun q4 => ?_) (fun q4 => ?_))))))))
 ·refine Em rfl (Es rfl (Es rfl (Ey rfl ((x6 rfl rfl).yd) (Ei rfl ?_))))
  exact Eu (E.ret (Fb rfl rfl (by grind [S0, d1, d2, t1, t2])))
 ·refine Em rfl (Em rfl (Est rfl (o4 a3t rfl rfl rfl dc tv) (fun _ _ => (Ey rfl ((z7 rfl rfl).yd) (Ei rfl ?_)))))
  exact Eu (E.ret (Fb rfl rfl (by grind [S0, d1, d2, t1, t2])))
theorem a8k : Tr Tryz.prog 240 [.int .i64 t] (fun w L => (I64 t) ∧ True) [] (κ := Unit) (fun k => True) (fun k => .bool (!S0 t)) (fun k => []) := by
 refine Tr.intro Tryz.func240 rfl (n := 6) rfl (by decide +kernel) bl (fr := [(0, .int .i64 t)]) rfl fun w L hR => ?_
 obtain ⟨i6t, _⟩ := hR
 refine Ew Z1 (Ei rfl (Ev Z4 (Em rfl (Est rfl (o4 b1K rfl rfl rfl dc tv) (fun _ _ => (Ey rfl ((Y.not rfl).yd) (Ei rfl ?_)))))))
 exact Eu (E.ret (Fb rfl rfl (by grind [d1, d2, t1, t2])))
theorem a9l : Tr Tryz.prog 206 [.slice a_l m_l c_l] (fun w L => Ro w L eIs [.slice a_l m_l c_l] l) [] (κ := Unit) (fun k => True) (fun k => .bool (!l.any fun t => !S0 t)) (fun k => []) := by
 refine Tr.intro Tryz.func206 rfl (n := 6) rfl (by decide +kernel) bl (fr := [(0, .slice a_l m_l c_l)]) rfl fun w L hR => ?_
 have hl := hR
 obtain ⟨rfl, ll⟩ := hl.slen
 refine Ew Z1 (Ei rfl (Ev Z4 (Em rfl (Est rfl (o4 (a0D (f := (fun t => !S0 t)) (D_f := (fun _ => True)) (by intros; exact trivial)) rfl rfl rfl dc (fun w Lp hA => ⟨hA.ro hl, a3R (D := (fun _ => True)) (fun hd => a8k) (fun w' hk => trivial)⟩)) (fun _ _ => (Ey rfl ((Y.not rfl).yd) (Ei rfl ?_)))))))
 exact Eu (E.ret (Fb rfl rfl (by grind [d1, d2, t1, t2])))
theorem b1R : Tr Tryz.prog 149 [.slice a_s m_s c_s, .agg #[.int .i64 o3, .slice F3 J6 F2]] (fun w L => Ro w L eIs [.slice a_s m_s c_s] s ∧ I64 o3 ∧ Ro w L eIs [.slice F3 J6 F2] f7) [] (κ := Unit) (fun k => True) (fun k => .bool (Q3 s (o3, f7))) (fun k => []) := by
 refine Tr.intro Tryz.func149 rfl (n := 25) rfl (by decide +kernel) bl (fr := [(0, .slice a_s m_s c_s), (1, .agg #[.int .i64 o3, .slice F3 J6 F2])]) rfl fun w L hR => ?_
 obtain ⟨hs, a0y, K8⟩ := hR
 obtain ⟨rfl, ls⟩ := hs.slen
 obtain ⟨rfl, a2R⟩ := K8.slen
 refine Ew Z2 (Est rfl (N.box (cs := [_, _]) rfl dc rfl) (fun b3 _ => (Ei rfl (Eu (Eq_ (D.region (fun j => true) mixed (Dyp 0 rfl (k6 rfl) (Dyp 1 rfl (i8 fo_Atom_0 f5 dc rfl) (Dy 2 rfl (g9 f5 rfl (Hz m0 0 rfl) rfl) (u7 3 rfl rfl kr (fun _ => rfl) (o4 a2G rfl rfl rfl dc (fun w Lp hA => hA.ro hs)) (fun _ _ => (Ent.b (fun q8 => ?_) (fun q8 => ?_)))))))))))))
 ·obtain ⟨z1, z2, _, _⟩ := Y0 q8
  refine Dyp 4 rfl (k6 rfl) (Dyp 5 rfl (i8 fo_Atom_1 ty_Is dc rfl) (Dy 6 rfl (g9 ty_Is rfl (Hz m0 1 rfl) rfl) (Dyp 7 rfl (Y.len us_Is rfl) (Dyp 8 rfl (k6 rfl) (Dyp 9 rfl (i8 fo_Atom_0 f5 dc rfl) (Dy 10 rfl (g9 f5 rfl (Hz m0 0 rfl) rfl) ?_))))))
  obtain ⟨eb16, eo16, ea16, ei16, eh16⟩ := hs.elemI o3.toNat om
  refine Dyp 11 rfl (w3 us_Is f5 rfl ea16 rfl o3.toNat om om) (Dy 12 rfl (g9 f5 rfl (eh16 _) rfl) (Dyp 13 rfl (Y.eql rfl rfl) (n9 (fun q18 => ?_) (fun q18 => ?_))))
  ·refine Dyp 14 rfl (x6 rfl rfl) (Dyp 15 rfl (k6 rfl) (Dyp 16 rfl (i8 fo_Atom_1 ty_Is dc rfl) (Dy 17 rfl (g9 ty_Is rfl (Hz m0 1 rfl) rfl) (u7 18 rfl rfl kr (fun _ => rfl) (o4 a9l rfl rfl rfl dc (fun w Lp hA => hA.ro K8)) (fun _ _ => (Dyp 19 rfl (x6 rfl rfl) (Dyp 20 rfl (F1 rfl) ?_)))))))
   exact t6 kr (Et (E.ret (Fb rfl rfl (by grind [Q3, G3, d1, d2, t1, t2]))))
  ·refine Dyp 14 rfl (x6 rfl rfl) (Dyp 15 rfl (k6 rfl) (Dsk 16 rfl (Dsk 17 rfl (Dsk 18 rfl (Dyp 19 rfl (z7 rfl rfl) (Dyp 20 rfl (F1 rfl) ?_))))))
   exact t6 kr (Et (E.ret (Fb rfl rfl (by grind [Q3, G3, d1, d2, t1, t2]))))
 ·refine Dyp 4 rfl (k6 rfl) (Dsk 5 rfl (Dsk 6 rfl (Dsk 7 rfl (Dsk 8 rfl (Dsk 9 rfl (Dsk 10 rfl (Dsk 11 rfl (Dsk 12 rfl (Dsk 13 rfl (Dyp 14 rfl (z7 rfl rfl) (Dyp 15 rfl (k6 rfl) (Dsk 16 rfl (Dsk 17 rfl (Dsk 18 rfl ?_))))))))))))))
  refine Dyp 19 rfl (z7 rfl rfl) (Dyp 20 rfl (F1 rfl) ?_)
  exact t6 kr (Et (E.ret (Fb rfl rfl (by grind [Q3, G3, d1, d2, t1, t2]))))
theorem b1L : Tr Tryz.prog 133 [.slice a_s m_s c_s, .agg #[.int .i64 o3, .slice F3 J6 F2]] (fun w L => Ro w L eIs [.slice a_s m_s c_s] s ∧ I64 o3 ∧ Ro w L eIs [.slice F3 J6 F2] f7) [] (κ := Unit) (fun k => True) (fun k => .bool (Q3 s (o3, f7))) (fun k => []) := by
 refine Tr.intro Tryz.func133 rfl (n := 43) rfl (by decide +kernel) bl (fr := [(0, .slice a_s m_s c_s), (1, .agg #[.int .i64 o3, .slice F3 J6 F2])]) rfl fun w L hR => ?_
 obtain ⟨hs, a0y, K8⟩ := hR
 obtain ⟨rfl, ls⟩ := hs.slen
 obtain ⟨rfl, a2R⟩ := K8.slen
 refine Ew Z2 (Est rfl (N.box (cs := [_, _]) rfl dc rfl) (fun b3 _ => (Ei rfl (Eu (Eq_ (Eq_ (D.region (fun j => true) mixed (Dyp 0 rfl (k6 rfl) (u7 1 rfl rfl kr (fun _ => rfl) (o4 O3 rfl rfl rfl dc (fun w Lp hA => hA.ro hs)) (fun _ _ => (Ent.b (fun q7 => ?_) (fun q7 => ?_))))))))))))
 ·refine Dyp 2 rfl (Y.not (b := true) rfl) (Dyp 3 rfl (k6 rfl) (Dyp 4 rfl (i8 fo_Atom_0 f5 dc rfl) (Dy 5 rfl (g9 f5 rfl (Hz m0 0 rfl) rfl) (Dyp 6 rfl (k6 rfl) (Dyp 7 rfl (Y.len us_Is rfl) (Dyp 8 rfl (Y.sub rfl rfl om om) (u7 9 rfl rfl kr (fun _ => rfl) (o4 N7 rfl rfl rfl dc tv) (fun _ _ => (Ent.b (fun q15 => ?_) (fun q15 => ?_))))))))))
  ·have y1 : L8 s o3 = true := by rw [L8, q7, q15]; rfl
   obtain ⟨z1, z2, _, _⟩ := Y0 y1
   refine Dyp 10 rfl (Y.not (b := true) rfl) (Dyp 11 rfl (z7 rfl rfl) (Dyp 12 rfl (k6 rfl) (Dyp 13 rfl (i8 fo_Atom_1 ty_Is dc rfl) (Dy 14 rfl (g9 ty_Is rfl (Hz m0 1 rfl) rfl) (Dyp 15 rfl (Y.len us_Is rfl) (Dyp 16 rfl (k6 rfl) (Dyp 17 rfl (i8 fo_Atom_0 f5 dc rfl) (Dy 18 rfl (g9 f5 rfl (Hz m0 0 rfl) rfl) ?_))))))))
   obtain ⟨eb25, eo25, ea25, ei25, eh25⟩ := hs.elemI o3.toNat om
   refine Dyp 19 rfl (w3 us_Is f5 rfl ea25 rfl o3.toNat om om) (Dy 20 rfl (g9 f5 rfl (eh25 _) rfl) (Dyp 21 rfl (Y.neq rfl rfl) (n9 (fun q27 => ?_) (fun q27 => ?_))))
   ·refine Dyp 22 rfl (z7 rfl rfl) (t6 kr (Et (o0 rfl (Ew Z1 (Ei rfl ?_)))))
    exact Eu (E.ret (s9 (Fb rfl rfl (by grind [Q3, L8, G3, d1, d2, t1, t2]))))
   ·refine Dyp 22 rfl (z7 rfl rfl) (t6 kr (Et (n8 rfl (f9 (Et (Eq_ (Ew Z1 (Ei rfl (Eu (E.block (E.loop (κ := Nat) (fun g => g ≤ f7.length ∧ (f7.any fun t => !S0 t) = ((f7.drop g).any fun t => !S0 t)) (fun g => [(3, .pointer (some ⟨b3, 0, none⟩)), (5, .int .i64 (g : Int))]) (fun g => [pt b3 81 [.int .i64 o3, .slice F3 f7.length F2]]) (fun g => f7.length - g) 0 ⟨Nat.zero_le _, by simp⟩ ⟨rfl, rfl, trivial⟩ (.refl _) (fun g pg => ?_))))))))))))
    obtain ⟨pk, pa⟩ := pg
    refine Eq_ (Ew Z5 (Em rfl (Ey rfl ((i8 fo_Atom_1 ty_Is dc rfl).yd) (Ey rfl (g9 ty_Is rfl (Hz m0 1 rfl) rfl) (Ey rfl ((Y.len us_Is rfl).yd) (Ey rfl ((Y.lss rfl rfl).yd) (n9 (fun q33 => ?_) (fun q33 => ?_))))))))
    ·refine Eu (o0 rfl (f9 (Et (Eq_ (E.block (Ew Z7 (Ey rfl ((i8 fo_Atom_1 ty_Is dc rfl).yd) (Ey rfl (g9 ty_Is rfl (Hz m0 1 rfl) rfl) (Em rfl ?_)))))))))
     obtain ⟨eb39, eo39, ea39, ei39, eh39⟩ := K8.elemI g om
     refine Ey rfl ((w3 us_Is f5 rfl ea39 rfl g rfl om).yd) (Ey rfl (g9 f5 rfl (eh39 _) rfl) (Est rfl (o4 b1U rfl rfl rfl dc tv) (fun _ _ => (Ent.b (fun q41 => ?_) (fun q41 => ?_)))))
     ·refine Ey rfl ((Y.not (b := true) rfl).yd) (Eu (n8 rfl (f9 (s8 (Et (Ez Z3 (Em rfl (Ey rfl ((Y.add rfl rfl om om).yd) (Ei rfl ?_)))))))))
      exact Eu (B0 br (g + 1) ⟨rfl, rfl, trivial⟩ (.refl _) ⟨by omega, by grind [d1, d2, t1, t2]⟩ om)
     ·refine Ey rfl ((Y.not (b := false) rfl).yd) (Eu (o0 rfl (Ew Z1 (Ei rfl ?_))))
      exact Eu (E.ret (C9 (s9 (s9 (C9 (s9 (Fb rfl rfl (by grind [Q3, L8, G3, d1, d2, t1, t2]))))))))
    ·refine Eu (n8 rfl (E.exit (l3 (l3 (y4 (Et (Ew Z1 (Ei rfl ?_))))))))
     exact Eu (E.ret (Fb rfl rfl (by grind [Q3, L8, G3, d1, d2, t1, t2])))
  ·refine Dyp 10 rfl (Y.not (b := false) rfl) (Dyp 11 rfl (z7 rfl rfl) (Dyp 12 rfl (k6 rfl) (Dsk 13 rfl (Dsk 14 rfl (Dsk 15 rfl (Dsk 16 rfl (Dsk 17 rfl (Dsk 18 rfl (Dsk 19 rfl (Dsk 20 rfl (Dsk 21 rfl (Dyp 22 rfl (x6 rfl rfl) (t6 kr (Et (o0 rfl (Ew Z1 (Ei rfl ?_)))))))))))))))))
   exact Eu (E.ret (s9 (Fb rfl rfl (by grind [Q3, L8, G3, d1, d2, t1, t2]))))
 ·refine Dyp 2 rfl (Y.not (b := false) rfl) (Dyp 3 rfl (k6 rfl) (Dsk 4 rfl (Dsk 5 rfl (Dsk 6 rfl (Dsk 7 rfl (Dsk 8 rfl (Dsk 9 rfl (Dsk 10 rfl (Dyp 11 rfl (x6 rfl rfl) (Dyp 12 rfl (k6 rfl) (Dsk 13 rfl (Dsk 14 rfl (Dsk 15 rfl (Dsk 16 rfl ?_))))))))))))))
  refine Dsk 17 rfl (Dsk 18 rfl (Dsk 19 rfl (Dsk 20 rfl (Dsk 21 rfl (Dyp 22 rfl (x6 rfl rfl) (t6 kr (Et (o0 rfl (Ew Z1 (Ei rfl ?_))))))))))
  exact Eu (E.ret (s9 (Fb rfl rfl (by grind [Q3, L8, G3, d1, d2, t1, t2]))))
theorem a1S {v : Int} : Tr Tryz.prog 177 [.slice a_s m_s c_s, .int .i64 v] (fun w L => Ro w L eIs [.slice a_s m_s c_s] s) [] (κ := Unit) (fun k => True) (fun k => .bool (R5 s v)) (fun k => []) := by
 refine Tr.intro Tryz.func177 rfl (n := 9) rfl (by decide +kernel) bl (fr := [(0, .slice a_s m_s c_s), (1, .int .i64 v)]) rfl fun w L hR => ?_
 have hs := hR
 obtain ⟨rfl, ls⟩ := hs.slen
 refine Ew Z1 (Ei rfl (Ev Z5 (Em rfl (Em rfl (Est rfl (o4 b1r rfl rfl rfl dc (fun w Lp hA => hA.ro hs)) (fun _ _ => (Ey rfl ((Y.geq rfl rfl).yd) (Ei rfl ?_))))))))
 exact Eu (E.ret (Fb rfl rfl (by exact a0X)))
theorem a8C {b_vars : Nat} {a_vars : Option Addr} {m_vars c_vars : Nat} {vars : List Int} : Tr Tryz.prog 208 [.int .i64 t, .pointer (some ⟨b_vars, 0, none⟩)] (fun w L => (I64 t) ∧ RoPt w L b_vars [.slice a_vars m_vars c_vars] ∧ Ro w L eIs [.slice a_vars m_vars c_vars] vars) [] (κ := Unit) (fun k => True) (fun k => .bool (!R5 vars t)) (fun k => []) := by
 refine Tr.intro Tryz.func208 rfl (n := 8) rfl (by decide +kernel) bl (fr := [(0, .int .i64 t), (1, .pointer (some ⟨b_vars, 0, none⟩))]) rfl fun w L hR => ?_
 obtain ⟨i6t, hb_vars, hvars⟩ := hR
 obtain ⟨rfl, lvars⟩ := hvars.slen
 refine Ew Z1 (Ei rfl (Ev Z5 (Ey rfl (g9 ty_Is rfl (hb_vars.has) rfl) (Em rfl (Est rfl (o4 a1S rfl rfl rfl dc (fun w Lp hA => hA.ro hvars)) (fun _ _ => (Ey rfl ((Y.not rfl).yd) (Ei rfl ?_))))))))
 exact Eu (E.ret (Fb rfl rfl (by grind [d1, d2, t1, t2])))
theorem b0e (hz : K2 (fun x => x.2.length) a6 ≤ 1048576) : Tr Tryz.prog 150 [.agg #[.slice v6 y9 u9, .slice t8 w9 t7]] (fun w L => Ro w L eIs [.slice v6 y9 u9] i9 ∧ Ro w L H9 [.slice t8 w9 t7] a6) [] (κ := Unit) (fun k => True) (fun k => .bool (a1C (i9, a6))) (fun k => []) := by
 refine Tr.intro Tryz.func150 rfl (n := 17) rfl (by decide +kernel) bl (fr := [(0, .agg #[.slice v6 y9 u9, .slice t8 w9 t7])]) rfl fun w L hR => ?_
 obtain ⟨w7, u6⟩ := hR
 obtain ⟨rfl, P6⟩ := w7.slen
 obtain ⟨rfl, M4⟩ := u6.slen
 refine Ew Z2 (Est rfl (N.box (cs := [_, _]) rfl dc rfl) (fun b1 _ => (Ei rfl (Ev Z4 (Ey rfl (r9 (cs := [_, _]) ty_Query rfl (Has.pt m0) rfl) (Est rfl (N.call (a6P fc) rfl rfl rfl dc rfl (fun w Lp hA => ⟨hA.ro w7, hA.ro u6⟩)) (fun k5 _ => ?_)))))))
 obtain ⟨a5, m5, c5⟩ := k5
 refine d6 m0 fun e5 l5 => ?_
 subst e5
 refine Est rfl (N.alloc ty_Is dc) (fun b3 _ => (Est rfl (Ns [_] ty_Is rfl) (fun _ _ => (Ev Z12 (Ey rfl ((i8 fo_Query_0 ty_Is dc rfl).yd) (Ey rfl (g9 ty_Is rfl (Hz (mS (mS m0)) 0 rfl) rfl) (Ey rfl ((Y.len us_Is rfl).yd) (Ey rfl ((Y.leq rfl rfl).yd) (n9 (fun q9 => ?_) (fun q9 => ?_))))))))))
 ·refine Em rfl (Ey rfl ((i8 fo_Query_0 ty_Is dc rfl).yd) (Ey rfl (g9 ty_Is rfl (Hz (mS (mS m0)) 0 rfl) rfl) (Ey rfl ((Y.fn (vs := [_]) rfl).yd) (Est rfl (o4 (a0D (f := (fun t => !R5 (f0 (fun t => inR t 10 17) a6) t)) (D_f := (fun _ => True)) (by intros; exact trivial)) rfl rfl rfl dc (fun w Lp hA => ⟨hA.ro w7, a3R (D := (fun _ => True)) (fun hd => a8C) (fun w' hk => ⟨(hA.pt m0).keep hk, (hA.ow (mS m0)).keep hk⟩)⟩)) (fun _ _ => (Ey rfl ((Y.not rfl).yd) (Ey rfl ((x6 rfl rfl).yd) (Ei rfl ?_))))))))
  exact Eu (E.ret (Fb rfl rfl (by grind [a1C, d1, d2, t1, t2])))
 ·refine Em rfl (Es rfl (Es rfl (Es rfl (Es rfl (Es rfl (Ey rfl ((z7 rfl rfl).yd) (Ei rfl ?_)))))))
  exact Eu (E.ret (Fb rfl rfl (by grind [a1C, d1, d2, t1, t2])))
theorem a8L {b_s : Nat} : Tr Tryz.prog 148 [.agg #[.int .i64 o3, .slice F3 J6 F2], .pointer (some ⟨b_s, 0, none⟩)] (fun w L => (I64 o3 ∧ Ro w L eIs [.slice F3 J6 F2] f7) ∧ RoPt w L b_s [.slice a_s m_s c_s] ∧ Ro w L eIs [.slice a_s m_s c_s] s) [] (κ := Unit) (fun k => True) (fun k => .bool (!Q3 s (o3, f7))) (fun k => []) := by
 refine Tr.intro Tryz.func148 rfl (n := 8) rfl (by decide +kernel) bl (fr := [(0, .agg #[.int .i64 o3, .slice F3 J6 F2]), (1, .pointer (some ⟨b_s, 0, none⟩))]) rfl fun w L hR => ?_
 obtain ⟨⟨a0y, K8⟩, hb_s, hs⟩ := hR
 obtain ⟨rfl, a2R⟩ := K8.slen
 obtain ⟨rfl, ls⟩ := hs.slen
 refine Ew Z2 (Est rfl (N.box (cs := [_, _]) rfl dc rfl) (fun b2 _ => (Ei rfl (Ev Z5 (Ey rfl (g9 ty_Is rfl (hb_s.has) rfl) (Ey rfl (r9 (cs := [_, _]) ty_Atom rfl (Has.pt m0) rfl) (Est rfl (o4 b1R rfl rfl rfl dc (fun w Lp hA => ⟨hA.ro hs, a0y, hA.ro K8⟩)) (fun _ _ => (Ey rfl ((Y.not rfl).yd) (Ei rfl ?_))))))))))
 exact Eu (E.ret (Fb rfl rfl (by grind [d1, d2, t1, t2])))
theorem b0D (hz : K2 (fun x => x.2.length) a6 ≤ 1048576) : Tr Tryz.prog 88 [.slice a_s m_s c_s, .agg #[.slice v6 y9 u9, .slice t8 w9 t7]] (fun w L => Ro w L eIs [.slice a_s m_s c_s] s ∧ Ro w L eIs [.slice v6 y9 u9] i9 ∧ Ro w L H9 [.slice t8 w9 t7] a6) [] (κ := Unit) (fun k => True) (fun k => .bool (C8 s (i9, a6))) (fun k => []) := by
 refine Tr.intro Tryz.func88 rfl (n := 24) rfl (by decide +kernel) bl (fr := [(0, .slice a_s m_s c_s), (1, .agg #[.slice v6 y9 u9, .slice t8 w9 t7])]) rfl fun w L hR => ?_
 obtain ⟨hs, w7, u6⟩ := hR
 obtain ⟨rfl, ls⟩ := hs.slen
 obtain ⟨rfl, P6⟩ := w7.slen
 obtain ⟨rfl, M4⟩ := u6.slen
 refine Ew Z3 (Est rfl (N.box (cs := [_]) rfl dc rfl) (fun b2 _ => (Est rfl (N.box (cs := [_, _]) rfl dc rfl) (fun b3 _ => (Ei rfl (Ev Z20 (Ey rfl (g9 ty_Is rfl (Has.pt (mS m0)) rfl) (Est rfl (o4 a1V rfl rfl rfl dc (fun w Lp hA => hA.ro hs)) (fun _ _ => (Ent.b (fun q6 => ?_) (fun q6 => ?_)))))))))))
 ·refine Em rfl (Ey rfl ((i8 fo_Query_1 ty_Atoms dc rfl).yd) (Ey rfl (g9 ty_Atoms rfl (Hz m0 1 rfl) rfl) (Ey rfl ((Y.len us_Atoms rfl).yd) (Est rfl (o4 R2 rfl rfl rfl dc tv) (fun _ _ => (Ent.b (fun q11 => ?_) (fun q11 => ?_)))))))
  ·refine Ey rfl ((x6 rfl rfl).yd) (Em rfl (Ey rfl ((i8 fo_Query_1 ty_Atoms dc rfl).yd) (Ey rfl (g9 ty_Atoms rfl (Hz m0 1 rfl) rfl) (Ey rfl ((Y.fn (vs := [_]) rfl).yd) (Est rfl (o4 (a7b (f := (fun z => !Q3 s z)) (D_f := (fun _ => True)) (by intros; exact trivial)) rfl rfl rfl dc (fun w Lp hA => ⟨hA.ro u6, b5J (D := (fun _ => True)) (fun hd => a8L) (fun w' hk => ⟨(hA.pt (mS m0)).keep hk, (hA.ro hs).keep hk⟩)⟩)) (fun _ _ => (Ent.b (fun q17 => ?_) (fun q17 => ?_))))))))
   ·refine Ey rfl ((Y.not (b := true) rfl).yd) (Ey rfl ((x6 rfl rfl).yd) (Em rfl (Es rfl (Es rfl (Ey rfl ((z7 rfl rfl).yd) (Ei rfl ?_))))))
    exact Eu (E.ret (Fb rfl rfl (by grind [C8, d1, d2, t1, t2])))
   ·refine Ey rfl ((Y.not (b := false) rfl).yd) (Ey rfl ((x6 rfl rfl).yd) (Em rfl (Ey rfl (r9 (cs := [_, _]) ty_Query rfl (Has.pt m0) rfl) (Est rfl (o4 (b0e fc) rfl rfl rfl dc (fun w Lp hA => ⟨hA.ro w7, hA.ro u6⟩)) (fun _ _ => (Ey rfl ((x6 rfl rfl).yd) (Ei rfl ?_)))))))
    exact Eu (E.ret (Fb rfl rfl (by grind [C8, d1, d2, t1, t2])))
  ·refine Ey rfl ((x6 rfl rfl).yd) (Em rfl (Es rfl (Es rfl (Es rfl (Es rfl (Es rfl (Ey rfl ((z7 rfl rfl).yd) (Em rfl (Es rfl (Es rfl (Ey rfl ((z7 rfl rfl).yd) (Ei rfl ?_))))))))))))
   exact Eu (E.ret (Fb rfl rfl (by grind [C8, d1, d2, t1, t2])))
 ·refine Em rfl (Es rfl (Es rfl (Es rfl (Es rfl (Ey rfl ((z7 rfl rfl).yd) (Em rfl (Es rfl (Es rfl (Es rfl (Es rfl (Es rfl (Ey rfl ((z7 rfl rfl).yd) (Em rfl (Es rfl ?_))))))))))))))
  refine Es rfl (Ey rfl ((z7 rfl rfl).yd) (Ei rfl ?_))
  exact Eu (E.ret (Fb rfl rfl (by grind [C8, d1, d2, t1, t2])))
theorem b0x (hz : K2 (fun x => x.2.length) a6 ≤ 1048576) : Tr Tryz.prog 66 [.slice a_s m_s c_s, .agg #[.slice v6 y9 u9, .slice t8 w9 t7]] (fun w L => Ro w L eIs [.slice a_s m_s c_s] s ∧ Ro w L eIs [.slice v6 y9 u9] i9 ∧ Ro w L H9 [.slice t8 w9 t7] a6) [] (κ := Unit) (fun k => True) (fun k => .bool (C8 s (i9, a6))) (fun k => []) := by
 refine Tr.intro Tryz.func66 rfl (n := 54) rfl (by decide +kernel) bl (fr := [(0, .slice a_s m_s c_s), (1, .agg #[.slice v6 y9 u9, .slice t8 w9 t7])]) rfl fun w L hR => ?_
 obtain ⟨hs, w7, u6⟩ := hR
 obtain ⟨rfl, ls⟩ := hs.slen
 obtain ⟨rfl, P6⟩ := w7.slen
 obtain ⟨rfl, M4⟩ := u6.slen
 refine Ew Z2 (Est rfl (N.box (cs := [_, _]) rfl dc rfl) (fun b3 _ => (Ei rfl (Eu (Eq_ (Ew Z1 (Ei rfl (Eu (E.block (E.loop (κ := Nat) (fun g => g ≤ a6.length ∧ (a6.any fun a => !Q3 s a) = ((a6.drop g).any fun a => !Q3 s a)) (fun g => [(0, .slice a_s s.length c_s), (3, .pointer (some ⟨b3, 0, none⟩)), (5, .int .i64 (g : Int))]) (fun g => [pt b3 28 [.slice v6 i9.length u9, .slice t8 a6.length t7]]) (fun g => a6.length - g) 0 ⟨Nat.zero_le _, by simp⟩ ⟨rfl, rfl, rfl, trivial⟩ (.refl _) (fun g pg => ?_)))))))))))
 obtain ⟨pk, pa⟩ := pg
 refine Eq_ (Ew Z5 (Em rfl (Ey rfl ((i8 fo_Query_1 ty_Atoms dc rfl).yd) (Ey rfl (g9 ty_Atoms rfl (Hz m0 1 rfl) rfl) (Ey rfl ((Y.len us_Atoms rfl).yd) (Ey rfl ((Y.lss rfl rfl).yd) (n9 (fun q12 => ?_) (fun q12 => ?_))))))))
 ·refine Eu (o0 rfl (f9 (Et (Eq_ (E.block (Ew Z8 (Em rfl (Ey rfl ((i8 fo_Query_1 ty_Atoms dc rfl).yd) (Ey rfl (g9 ty_Atoms rfl (Hz m0 1 rfl) rfl) (Em rfl ?_))))))))))
  obtain ⟨eb19, eo19, ec19, ea19, er19, el19, eh19⟩ := u6.elem g om
  obtain ⟨xa19_0, xc19_0, rfl, ei19_0, xh19_0⟩ := a0m er19
  have := xh19_0.slen.2
  refine Ey rfl ((w3 us_Atoms ty_Atom rfl ea19 rfl g rfl om).yd) (Ey rfl (r9 (cs := [_, _]) ty_Atom rfl (eh19 _) rfl) (Est rfl (o4 b1L rfl rfl rfl dc (fun w Lp hA => ⟨hA.ro hs, ei19_0, hA.ro xh19_0⟩)) (fun _ _ => (Ent.b (fun q21 => ?_) (fun q21 => ?_)))))
  ·refine Ey rfl ((Y.not (b := true) rfl).yd) (Eu (n8 rfl (f9 (s8 (Et (Ez Z3 (Em rfl (Ey rfl ((Y.add rfl rfl om om).yd) (Ei rfl ?_)))))))))
   exact Eu (B0 br (g + 1) rs (.refl _) ⟨by omega, by grind [d1, d2, t1, t2]⟩ om)
  ·refine Ey rfl ((Y.not (b := false) rfl).yd) (Eu (o0 rfl (Ew Z1 (Ei rfl ?_))))
   exact Eu (E.ret (C9 (s9 (s9 (C9 (s9 (Fb rfl rfl (by grind [C8, a1C, d1, d2, t1, t2]))))))))
 ·refine Eu (n8 rfl (E.exit (l3 (l3 (y4 (Et (Ew Z3 (Ey rfl (r9 (cs := [_, _]) ty_Query rfl (Has.pt m0) rfl) (Est rfl (N.call (a4c fc) rfl rfl rfl dc rfl (fun w Lp hA => ⟨hA.ro w7, hA.ro u6⟩)) (fun k24 _ => ?_))))))))))
  obtain ⟨a24, m24, c24⟩ := k24
  refine d6 m0 fun e24 l24 => ?_
  subst e24
  refine Ei rfl (Eu (Eq_ (Ew Z1 (Ei rfl (Eu (E.block (E.loop (κ := Nat) (fun g => g ≤ i9.length ∧ (i9.any (fun t => !R5 (f0 (fun t => inR t 10 17) a6) t)) = ((i9.drop g).any (fun t => !R5 (f0 (fun t => inR t 10 17) a6) t))) (fun g => [(0, .slice a_s s.length c_s), (3, .pointer (some ⟨b3, 0, none⟩)), (6, .slice a24 (f0 (fun t => inR t 10 17) a6).length c24), (7, .int .i64 (g : Int))]) (fun g => [ow eIs [.slice a24 (f0 (fun t => inR t 10 17) a6).length c24] (f0 (fun t => inR t 10 17) a6), pt b3 28 [.slice v6 i9.length u9, .slice t8 a6.length t7]]) (fun g => i9.length - g) 0 ⟨Nat.zero_le _, by simp⟩ ⟨rfl, rfl, rfl, rfl, trivial⟩ (.refl _) (fun g pg => ?_))))))))
  obtain ⟨pk, pa⟩ := pg
  refine Eq_ (Ew Z5 (Em rfl (Ey rfl ((i8 fo_Query_0 ty_Is dc rfl).yd) (Ey rfl (g9 ty_Is rfl (Hz (mS m0) 0 rfl) rfl) (Ey rfl ((Y.len us_Is rfl).yd) (Ey rfl ((Y.lss rfl rfl).yd) (n9 (fun q29 => ?_) (fun q29 => ?_))))))))
  ·refine Eu (o0 rfl (f9 (Et (Eq_ (E.block (Ew Z8 (Em rfl (Ey rfl ((i8 fo_Query_0 ty_Is dc rfl).yd) (Ey rfl (g9 ty_Is rfl (Hz (mS m0) 0 rfl) rfl) (Em rfl ?_))))))))))
   obtain ⟨eb36, eo36, ea36, ei36, eh36⟩ := w7.elemI g om
   refine Ey rfl ((w3 us_Is f5 rfl ea36 rfl g rfl om).yd) (Ey rfl (g9 f5 rfl (eh36 _) rfl) (Est rfl (o4 a4L rfl rfl rfl dc (fun w Lp hA => hA.ow m0)) (fun _ _ => (Ent.b (fun q38 => ?_) (fun q38 => ?_)))))
   ·refine Ey rfl ((Y.not (b := true) rfl).yd) (Eu (n8 rfl (f9 (s8 (Et (Ez Z3 (Em rfl (Ey rfl ((Y.add rfl rfl om om).yd) (Ei rfl (Eu (d8 (d8 ?_))))))))))))
    exact B0 br (g + 1) rs (.refl _) ⟨by omega, by grind [d1, d2, t1, t2]⟩ om
   ·refine Ey rfl ((Y.not (b := false) rfl).yd) (Eu (o0 rfl (Ew Z1 (Ei rfl ?_))))
    exact Eu (E.ret (C9 (s9 (s9 (C9 (s9 (Fb rfl rfl (by grind [C8, a1C, d1, d2, t1, t2]))))))))
  ·refine Eu (n8 rfl (E.exit (l3 (l3 (y4 (Et (Ew Z15 (Em rfl (Est rfl (o4 O3 rfl rfl rfl dc (fun w Lp hA => hA.ro hs)) (fun _ _ => (Ent.b (fun q41 => ?_) (fun q41 => ?_))))))))))))
   ·refine Em rfl (Ey rfl ((i8 fo_Query_1 ty_Atoms dc rfl).yd) (Ey rfl (g9 ty_Atoms rfl (Hz (mS m0) 1 rfl) rfl) (Ey rfl ((Y.len us_Atoms rfl).yd) (Est rfl (o4 N7 rfl rfl rfl dc tv) (fun _ _ => (Ent.b (fun q46 => ?_) (fun q46 => ?_)))))))
    ·refine Ey rfl ((x6 rfl rfl).yd) (Em rfl (Ey rfl ((i8 fo_Query_0 ty_Is dc rfl).yd) (Ey rfl (g9 ty_Is rfl (Hz (mS m0) 0 rfl) rfl) (Ey rfl ((Y.len us_Is rfl).yd) (Ey rfl ((Y.leq rfl rfl).yd) (Ey rfl ((x6 rfl rfl).yd) (Ei rfl ?_)))))))
     exact Eu (E.ret (Fb rfl rfl (by grind [C8, a1C, d1, d2, t1, t2])))
    ·refine Ey rfl ((x6 rfl rfl).yd) (Em rfl (Es rfl (Es rfl (Es rfl (Es rfl (Ey rfl ((z7 rfl rfl).yd) (Ei rfl ?_)))))))
     exact Eu (E.ret (Fb rfl rfl (by grind [C8, a1C, d1, d2, t1, t2])))
   ·refine Em rfl (Es rfl (Es rfl (Es rfl (Es rfl (Ey rfl ((z7 rfl rfl).yd) (Em rfl (Es rfl (Es rfl (Es rfl (Es rfl (Ey rfl ((z7 rfl rfl).yd) (Ei rfl ?_))))))))))))
    exact Eu (E.ret (Fb rfl rfl (by grind [C8, a1C, d1, d2, t1, t2])))
end Go.Proofs.YtlfhopooaejpfaaGreat
