import Derived.Test.YtfnbilpemdgkkaaGreatDoorT6
import Derived.Test.YtfnbilpemdgkkaaGreatDoorBf
namespace Go.Proofs.YtfnbilpemdgkkaaGreatDoor
open Go.RowKit
set_option linter.all false
set_option maxHeartbeats 2000000
attribute [local irreducible] Nop Yd Yp Ent Has Tr FnP FnP2 Src J8 P6 S7 U6 E7
variable {x t f7 : Int} {f4 : List (Int × List Int)} {i7 l s d6 : List Int} {s9 o2 r6 l7 m_l c_l m_s c_s C7 y9 : Nat} {o3 m7 a_l a_s z6 : Option Addr}
theorem a2V {a_atoms : Option Addr} {m_atoms c_atoms : Nat} {l0 : List (Int × List Int)} {is_g : FuncId} {is_c : List Value} {D_is : Int → Prop} {is : Int → Bool} (hz : I3 (fun x => x.2.length) l0 ≤ 1048576) (hD_is : ∀ a ∈ l0, ∀ x ∈ a.2, D_is x) : Tr Tryz.prog 195 [.slice a_atoms m_atoms c_atoms, .func (.func is_g) #[] is_c.toArray] (fun w L => Ro w L C2 [.slice a_atoms m_atoms c_atoms] l0 ∧ FnP Tryz.prog w L is_g is_c Enc.int a0L D_is is) [] (κ := Option Addr × Nat × Nat) (fun k => True) (fun k => .slice k.1 k.2.1 k.2.2) (fun k => [ow eIs [.slice k.1 k.2.1 k.2.2] (u6 is l0)]) := by
 refine Tr.intro Tryz.func195 rfl (n := 37) rfl (by decide +kernel) bl (fr := [(0, .slice a_atoms m_atoms c_atoms), (1, .func (.func is_g) #[] is_c.toArray)]) rfl fun w L hR => ?_
 obtain ⟨hatoms, his⟩ := hR
 obtain ⟨rfl, latoms⟩ := hatoms.slen
 refine Ew Z1 (Ei rfl (Ev Z2 (Est rfl (Nb [] [] us_Is d9 rfl rfl) (fun b10 _ => (Ent.drop (Ei rfl (Eu (Eq_ (Ew Z3 (Em rfl (Ey rfl ((Y.len us_Atoms rfl).yd) (Em rfl (Eu (E.block (l3 (A := []) (Own.nil (E := Enc.int) (e := tI) (a := (some ⟨b10, 0, none⟩))) rfl (i9 (congrArg (ow eIs [_]) (show [] = ((l0.take 0).flatMap (fun a : Int × List Int => a.2)).filter is from by first | rfl | (simp; done) | grind [u6, N7, d1, d2, t1, t2])) (E.loop (κ := Nat × Option Addr × Nat × Nat) (fun g => g.1 ≤ l0.length ∧ True) (fun g => [(1, .func (.func is_g) #[] is_c.toArray), (5, .slice g.2.1 g.2.2.1 g.2.2.2), (11, .slice a_atoms l0.length c_atoms), (12, .int .i64 (↑l0.length : Int)), (13, .int .i64 (↑g.1 : Int))]) (fun g => [ow eIs [.slice g.2.1 g.2.2.1 g.2.2.2] (((l0.take g.1).flatMap (fun a : Int × List Int => a.2)).filter is)]) (fun g => l0.length - g.1) (0, (some ⟨b10, 0, none⟩), 0, 0) ⟨Nat.zero_le _, by simp⟩ ⟨rfl, rfl, rfl, rfl, rfl, trivial⟩ (.refl _) (fun g pg => ?_))))))))))))))))))
 obtain ⟨g, aA0_0, mA0_0, cA0_0⟩ := g
 try dsimp only at pg
 try dsimp only
 obtain ⟨pk, pa⟩ := pg
 have jt := a7i (is := is) (g := g) hz
 refine f0 m0 fun eaA0_0 laA0_0 => ?_
 subst eaA0_0
 refine Ew Z1 (Ey rfl ((Y.lss rfl rfl).yd) (j4 (fun q14 => ?_) (fun q14 => ?_)))
 ·obtain ⟨eb15, eo15, ec15, ea15, er15, el15, eh15⟩ := hatoms.elem g om
  obtain ⟨xa15_0, xc15_0, rfl, ei15_0, xh15_0⟩ := M8 er15
  have := xh15_0.slen.2
  refine Eu (Eq_ (j9 rfl (f5 (Et (Eq_ (E.block (Ew Z4 (Ey rfl ((o6 us_Atoms ty_Atom rfl ea15 rfl g rfl om).yd) (Ey rfl (o1 (cs := [_, _]) ty_Atom rfl (eh15 _) rfl) (Est rfl (N.alloc ty_Atom dc) (fun b7 _ => (Est rfl (Ns [_, _] ty_Atom rfl) (fun _ _ => (Ev Z4 (Ey rfl ((f9 fo_Atom_1 ty_Is dc rfl).yd) (Ey rfl (f6 ty_Is rfl (Hz m0 1 rfl) rfl) (Ey rfl ((Y.len us_Is rfl).yd) (Em rfl (Eu (E.block (d7 (i9 (congrArg (ow eIs [_]) (show ((l0.take g).flatMap (fun a : Int × List Int => a.2)).filter is = ((l0.take g).flatMap (fun a : Int × List Int => a.2)).filter is ++ (l0[g].2.take 0).filter is from by first | rfl | (simp; done) | grind [u6, N7, d1, d2, t1, t2])) (E.loop (κ := Nat × Option Addr × Nat × Nat) (fun h => h.1 ≤ l0[g].2.length ∧ True) (fun h => [(1, .func (.func is_g) #[] is_c.toArray), (5, .slice h.2.1 h.2.2.1 h.2.2.2), (11, .slice a_atoms l0.length c_atoms), (12, .int .i64 (↑l0.length : Int)), (13, .int .i64 (g : Int)), (18, .slice xa15_0 l0[g].2.length xc15_0), (19, .int .i64 (↑l0[g].2.length : Int)), (20, .int .i64 (↑h.1 : Int))]) (fun h => [ow eIs [.slice h.2.1 h.2.2.1 h.2.2.2] (((l0.take g).flatMap (fun a : Int × List Int => a.2)).filter is ++ (l0[g].2.take h.1).filter is), pt b7 42 [.int .i64 l0[g].1, .slice xa15_0 l0[g].2.length xc15_0]]) (fun h => l0[g].2.length - h.1) (0, aA0_0, (((l0.take g).flatMap (fun a : Int × List Int => a.2)).filter is).length, cA0_0) ⟨Nat.zero_le _, by simp⟩ ⟨rfl, rfl, rfl, rfl, rfl, rfl, rfl, rfl, trivial⟩ (.refl _) (fun h ph => ?_))))))))))))))))))))))))
  obtain ⟨h, aA1_0, mA1_0, cA1_0⟩ := h
  try dsimp only at ph
  try dsimp only
  obtain ⟨pk, pa⟩ := ph
  have ju := a2B (is := is) (g := g) (h := h) hz om
  refine f0 m0 fun eaA1_0 laA1_0 => ?_
  subst eaA1_0
  refine Ew Z1 (Ey rfl ((Y.lss rfl rfl).yd) (j4 (fun q21 => ?_) (fun q21 => ?_)))
  ·obtain ⟨eb22, eo22, ea22, ei22, eh22⟩ := xh15_0.elemI h om
   refine Eu (Eq_ (j9 rfl (f5 (Et (Eq_ (E.block (Ew Z3 (Ey rfl ((o6 us_Is d9 rfl ea22 rfl h rfl om).yd) (Ey rfl (f6 d9 rfl (eh22 _) rfl) (Ei rfl (Ev Z3 (Em rfl (Em rfl (Est rfl (N.fn (cs := [_]) his rfl rfl rfl dc (fun w Lp hA => a0X ei22) (hD_is l0[g] (List.getElem_mem om) _ (List.getElem_mem om))) (fun _ _ => (u5 (fun q26 => ?_) (fun q26 => ?_)))))))))))))))))
   ·refine Eu (j9 rfl (Ez Z5 (Em rfl (Em rfl (Est rfl (Nb [_] [_] us_Is d9 rfl rfl) (fun b29 _ => (d7 (Est rfl (u4 (E := Enc.int) (ex := l0[g].2[h]) us_Is d9 rfl rfl rfl (Own.int ei22) rfl bn bn dc) (fun p30 _ => (Ei rfl (En (n9 (Et (Ez Z2 (Ey rfl ((Y.add rfl rfl om om).yd) (Em rfl (Eu (i9 (congrArg (ow eIs [_]) (show (((l0.take g).flatMap (fun a : Int × List Int => a.2)).filter is ++ (l0[g].2.take h).filter is) ++ [l0[g].2[h]] = ((l0.take g).flatMap (fun a : Int × List Int => a.2)).filter is ++ (l0[g].2.take (h + 1)).filter is from by grind [u6, N7, d1, d2, t1, t2])) (d7 (d7 ?_))))))))))))))))))))
    exact Ea (h + 1, p30.1, ((((l0.take g).flatMap (fun a : Int × List Int => a.2)).filter is ++ (l0[g].2.take h).filter is).length + 1), p30.2) ⟨oz, trivial⟩
   ·refine Eu (j8 rfl (f5 (n9 (Et (Ez Z2 (Ey rfl ((Y.add rfl rfl om om).yd) (Em rfl (Eu (i9 (congrArg (ow eIs [_]) (show ((l0.take g).flatMap (fun a : Int × List Int => a.2)).filter is ++ (l0[g].2.take h).filter is = ((l0.take g).flatMap (fun a : Int × List Int => a.2)).filter is ++ (l0[g].2.take (h + 1)).filter is from by grind [u6, N7, d1, d2, t1, t2])) (d7 (d7 ?_)))))))))))
    exact Ea (h + 1, aA1_0, (((l0.take g).flatMap (fun a : Int × List Int => a.2)).filter is ++ (l0[g].2.take h).filter is).length, cA1_0) ⟨oz, trivial⟩
  ·refine Eu (Eq_ (j8 rfl (E.exit (l2 (l2 (w8 (n9 (Et (Ez Z2 (Ey rfl ((Y.add rfl rfl om om).yd) (Em rfl (Eu (d7 (Ent.drop (i9 (congrArg (ow eIs [_]) (show ((l0.take g).flatMap (fun a : Int × List Int => a.2)).filter is ++ (l0[g].2.take h).filter is = ((l0.take (g + 1)).flatMap (fun a : Int × List Int => a.2)).filter is from by grind [u6, N7, d1, d2, t1, t2])) ?_)))))))))))))))
   exact Ea (g + 1, aA1_0, (((l0.take g).flatMap (fun a : Int × List Int => a.2)).filter is ++ (l0[g].2.take h).filter is).length, cA1_0) ⟨oz, trivial⟩
 ·refine Eu (Eq_ (j8 rfl (E.exit (l2 (l2 (w8 (Et (Ew Z2 (Em rfl (Est rfl (N.call (pre := [_]) (a9m fc) rfl rfl rfl dc rfl tv) (fun _ _ => (Ev Z3 (Em rfl (Est rfl (N.call (pre := [_]) a6o rfl rfl rfl dc rfl tv) (fun k36 _ => ?_)))))))))))))))
  obtain ⟨a36, m36, c36⟩ := k36
  refine f0 m0 fun e36 l36 => ?_
  subst e36
  refine Ei rfl (Eu (E.ret (i9 (congrArg (ow eIs [_]) (show _ = u6 is l0 by rw [N7]; grind [u6, d1, d2, t1, t2])) ?_)))
  exact Fg rfl rfl (_, _, _) rfl rfl
theorem a4q (hz : I3 (fun x => x.2.length) f4 ≤ 1048576) : Tr Tryz.prog 163 [.agg #[.slice o3 s9 o2, .slice m7 r6 l7]] (fun w L => Ro w L eIs [.slice o3 s9 o2] i7 ∧ Ro w L C2 [.slice m7 r6 l7] f4) [] (κ := Option Addr × Nat × Nat) (fun k => True) (fun k => .slice k.1 k.2.1 k.2.2) (fun k => [ow eIs [.slice k.1 k.2.1 k.2.2] (u6 (fun t => inR t 10 17) f4)]) := by
 refine Tr.intro Tryz.func163 rfl (n := 6) rfl (by decide +kernel) bl (fr := [(0, .agg #[.slice o3 s9 o2, .slice m7 r6 l7])]) rfl fun w L hR => ?_
 obtain ⟨w4, s5⟩ := hR
 obtain ⟨rfl, I4⟩ := w4.slen
 obtain ⟨rfl, G5⟩ := s5.slen
 refine Ew Z2 (Est rfl (N.box (cs := [_, _]) rfl dc rfl) (fun b1 _ => (Ei rfl (Ev Z4 (Ey rfl ((f9 fo_Query_1 ty_Atoms dc rfl).yd) (Ey rfl (f6 ty_Atoms rfl (Hz m0 1 rfl) rfl) (Est rfl (N.call (a2V (is := (fun t => inR t 10 17)) (D_is := (fun _ => True)) fc (by intros; exact trivial)) rfl rfl rfl dc rfl (fun w Lp hA => ⟨hA.ro s5, a0I (D := (fun _ => True)) (RR := fun _ _ => True) (fun hd => a8L V0 (fun _ _ _ => trivial)) (fun w' hk => trivial)⟩)) (fun k5 _ => ?_))))))))
 obtain ⟨a5, m5, c5⟩ := k5
 refine f0 m0 fun e5 l5 => ?_
 subst e5
 refine Ei rfl ?_
 exact Eu (E.ret (Fg rfl rfl (_, _, _) rfl rfl))
theorem a1m : Tr Tryz.prog 128 [.slice a_l m_l c_l, .int .i64 x] (fun w L => Ro w L eIs [.slice a_l m_l c_l] l) [] (κ := Unit) (fun k => True) (fun k => .bool (F5 l x)) (fun k => []) := by
 refine Tr.intro Tryz.func128 rfl (n := 18) rfl (by decide +kernel) bl (fr := [(0, .slice a_l m_l c_l), (1, .int .i64 x)]) rfl fun w L hR => ?_
 have hl := hR
 obtain ⟨rfl, ll⟩ := hl.slen
 refine Ew Z1 (Ei rfl (Eu (Eq_ (Ew Z1 (Ei rfl (Eu (E.block (E.loop (κ := Nat) (fun g => g ≤ l.length ∧ F5 l x = F5 (l.drop g) x) (fun g => [(0, .slice a_l l.length c_l), (1, .int .i64 x), (5, .int .i64 (g : Int))]) (fun g => []) (fun g => l.length - g) 0 ⟨Nat.zero_le _, by simp⟩ ⟨rfl, rfl, rfl, trivial⟩ (.refl _) (fun g pg => ?_)))))))))
 obtain ⟨pk, pa⟩ := pg
 refine Eq_ (Ew Z4 (Em rfl (Em rfl (Ey rfl ((Y.len us_Is rfl).yd) (Ey rfl ((Y.lss rfl rfl).yd) (j4 (fun q9 => ?_) (fun q9 => ?_)))))))
 ·refine Eu (j9 rfl (f5 (Et (Eq_ (E.block (Ew Z6 (Em rfl (Em rfl ?_))))))))
  obtain ⟨eb14, eo14, ea14, ei14, eh14⟩ := hl.elemI g om
  refine Ey rfl ((o6 us_Is d9 rfl ea14 rfl g rfl om).yd) (Ey rfl (f6 d9 rfl (eh14 _) rfl) (Em rfl (Ey rfl ((Y.eql rfl rfl).yd) (j4 (fun q17 => ?_) (fun q17 => ?_)))))
  ·refine Eu (j9 rfl (Ew Z1 (Ei rfl ?_)))
   exact Eu (E.ret (w9 (j5 (j5 (w9 (j5 (Fb rfl rfl (by grind [F5, d1, d2, t1, t2]))))))))
  ·refine Eu (j8 rfl (f5 (n9 (Et (Ez Z3 (Em rfl (Ey rfl ((Y.add rfl rfl om om).yd) (Ei rfl ?_))))))))
   exact Eu (t8 br (g + 1) rs (.refl _) ⟨by omega, by grind [F5, d1, d2, t1, t2]⟩ om)
 ·refine Eu (j8 rfl (E.exit (l2 (l2 (w8 (Et (Ew Z1 (Ei rfl ?_))))))))
  exact Eu (E.ret (Fb rfl rfl (by grind [F5, d1, d2, t1, t2])))
theorem a5m (hz : l.length ≤ 1073741824) : Tr Tryz.prog 169 [.slice a_l m_l c_l, .int .i64 x] (fun w L => I64 x) [ow eIs [.slice a_l m_l c_l] l] (κ := Option Addr × Nat × Nat) (fun k => True) (fun k => .slice k.1 k.2.1 k.2.2) (fun k => [ow eIs [.slice k.1 k.2.1 k.2.2] (H2 l x)]) := by
 refine Tr.intro Tryz.func169 rfl (n := 47) rfl (by decide +kernel) bl (fr := [(0, .slice a_l m_l c_l), (1, .int .i64 x)]) rfl fun w L hR => ?_
 have i6x := hR
 refine f0 m0 fun el ll => ?_
 subst el
 refine Ew Z1 (Ei rfl (Eu (Eq_ (Ew Z3 (Em rfl (Em rfl (Est rfl (i8 a1m rfl rfl rfl dc (fun w Lp hA => hA.ow m0)) (fun _ _ => (u5 (fun q10 => ?_) (fun q10 => ?_))))))))))
 ·refine Eu (j9 rfl (Ew Z2 (Em rfl (Ei rfl (Eu (E.ret (j5 (i9 (congrArg (ow eIs [_]) (show _ = H2 l x by grind [H2, I1, G7, J1, d1, d2, t1, t2])) ?_))))))))
  exact Fg rfl rfl (_, _, _) rfl rfl
 ·refine C1 (A := [_]) rfl fun wb1 Lb1 hB1 hA1 => ?_
  have rb1 : Ro wb1 Lb1 eIs [.slice a_l l.length c_l] l := hA1.ow m0
  refine Eu (j8 rfl (f5 (Et (Ew Z2 (Est rfl (Nb [] [] us_Is d9 rfl rfl) (fun b12 _ => (Ent.drop (Ei rfl (Ev Z1 (Ei rfl (Eu (Eq_ (Ew Z1 (Ei rfl (Eu (E.block (l3 (A := []) (Own.nil (E := Enc.int) (e := tI) (a := (some ⟨b12, 0, none⟩))) rfl (i9 (congrArg (ow eIs [_]) (show [] = E6 (fun y => decide (x < y)) x (l.take 0) from by first | rfl | (simp; done) | grind [H2, I1, G7, J1, d1, d2, t1, t2])) (E.loop (κ := Nat × Option Addr × Nat × Nat) (fun g => g.1 ≤ l.length ∧ True) (fun g => [(0, .slice a_l l.length c_l), (1, .int .i64 x), (5, .slice g.2.1 g.2.2.1 g.2.2.2), (6, .bool ((l.take g.1).any (fun y => decide (x < y)))), (7, .int .i64 (↑g.1 : Int))]) (fun g => [ow eIs [.slice g.2.1 g.2.2.1 g.2.2.2] (E6 (fun y => decide (x < y)) x (l.take g.1))]) (fun g => l.length - g.1) (0, (some ⟨b12, 0, none⟩), 0, 0) ⟨Nat.zero_le _, by simp⟩ ⟨rfl, rfl, rfl, frB (by first | rfl | (simp; done) | grind [H2, I1, G7, J1, d1, d2, t1, t2]), rfl, trivial⟩ (.refl _) (fun g pg => ?_))))))))))))))))))))
  obtain ⟨g, aA0_0, mA0_0, cA0_0⟩ := g
  try dsimp only at pg
  try dsimp only
  obtain ⟨pk, pa⟩ := pg
  have jp := List.length_take_le g l
  have ji := a0S (p := (fun y => decide (x < y))) (f := x) (l := l.take g)
  refine f0 m0 fun eaA0_0 laA0_0 => ?_
  subst eaA0_0
  refine Eq_ (Ew Z4 (Em rfl (Em rfl (Ey rfl ((Y.len us_Is rfl).yd) (Ey rfl ((Y.lss rfl rfl).yd) (j4 (fun q16 => ?_) (fun q16 => ?_)))))))
  ·refine Eu (j9 rfl (f5 (Et (Eq_ (E.block (Eq_ (Ew Z10 (Em rfl (u5 (fun q19 => ?_) (fun q19 => ?_))))))))))
   ·refine Ey rfl ((Y.not (b := true) rfl).yd) (Em rfl (Es rfl (Es rfl (Es rfl (Es rfl (Es rfl (Es rfl (Ey rfl ((w7 rfl rfl).yd) (Eu (j8 rfl (f5 (Et (Ez Z8 (Em rfl (Em rfl (Em rfl ?_))))))))))))))))
    obtain ⟨eb36, eo36, ea36, ei36, eh36⟩ := rb1.elemI g om
    refine Ey rfl ((o6 us_Is d9 rfl ea36 rfl g rfl om).yd) (Ey rfl (f6 d9 rfl (eh36 _) rfl) (Est rfl (Nb [_] [_] us_Is d9 rfl rfl) (fun b38 _ => (d7 (Est rfl (u4 (E := Enc.int) (ex := l[g]) us_Is d9 rfl rfl rfl (Own.int ei36) rfl bn bn dc) (fun p39 _ => (Ei rfl (En (n9 (Et (Ez Z3 (Em rfl (Ey rfl ((Y.add rfl rfl om om).yd) (Ei rfl (Eu (i9 (congrArg (ow eIs [_]) (show (E6 (fun y => decide (x < y)) x (l.take g)) ++ [l[g]] = E6 (fun y => decide (x < y)) x (l.take (g + 1)) from by grind [H2, I1, G7, J1, d1, d2, t1, t2])) ?_))))))))))))))))
    exact t8 br (g + 1, p39.1, ((E6 (fun y => decide (x < y)) x (l.take g)).length + 1), p39.2) ⟨rfl, rfl, rfl, frB (by grind [H2, I1, G7, J1, d1, d2, t1, t2]), rfl, trivial⟩ (.refl _) ⟨oz, trivial⟩ oz
   ·refine Ey rfl ((Y.not (b := false) rfl).yd) (Em rfl (Em rfl (Em rfl ?_)))
    obtain ⟨eb24, eo24, ea24, ei24, eh24⟩ := rb1.elemI g om
    refine Ey rfl ((o6 us_Is d9 rfl ea24 rfl g rfl om).yd) (Ey rfl (f6 d9 rfl (eh24 _) rfl) (Em rfl (Ey rfl ((Y.gtr rfl rfl).yd) (j4 (fun q27 => ?_) (fun q27 => ?_)))))
    ·refine Ey rfl ((v6 rfl rfl).yd) (Eu (j9 rfl (Ew Z5 (Em rfl (Em rfl (Est rfl (Nb [_] [_] us_Is d9 rfl rfl) (fun b31 _ => (d7 (Est rfl (u4 (E := Enc.int) (ex := x) us_Is d9 rfl rfl rfl (Own.int i6x) rfl bn bn dc) (fun p32 _ => (Ei rfl (Eu (Ez Z1 (Ei rfl (Eu (Ez Z8 (Em rfl (Em rfl (Em rfl (Ey rfl ((o6 us_Is d9 rfl ea24 rfl g rfl om).yd) (Ey rfl (f6 d9 rfl (eh24 _) rfl) (Est rfl (Nb [_] [_] us_Is d9 rfl rfl) (fun b38 _ => (d7 ?_))))))))))))))))))))))))
     refine Est rfl (u4 (E := Enc.int) (ex := l[g]) us_Is d9 rfl rfl rfl (Own.int ei24) rfl bn bn dc) (fun p39 _ => (Ei rfl (En (n9 (Et (Ez Z3 (Em rfl (Ey rfl ((Y.add rfl rfl om om).yd) (Ei rfl (Eu (i9 (congrArg (ow eIs [_]) (show ((E6 (fun y => decide (x < y)) x (l.take g)) ++ [x]) ++ [l[g]] = E6 (fun y => decide (x < y)) x (l.take (g + 1)) from by grind [H2, I1, G7, J1, d1, d2, t1, t2])) ?_)))))))))))
     exact t8 br (g + 1, p39.1, (((E6 (fun y => decide (x < y)) x (l.take g)).length + 1) + 1), p39.2) ⟨rfl, rfl, rfl, frB (by grind [H2, I1, G7, J1, d1, d2, t1, t2]), rfl, trivial⟩ (.refl _) ⟨oz, trivial⟩ oz
    ·refine Ey rfl ((v6 rfl rfl).yd) (Eu (j8 rfl (f5 (Et (Ez Z8 (Em rfl (Em rfl (Em rfl (Ey rfl ((o6 us_Is d9 rfl ea24 rfl g rfl om).yd) (Ey rfl (f6 d9 rfl (eh24 _) rfl) (Est rfl (Nb [_] [_] us_Is d9 rfl rfl) (fun b38 _ => (d7 (Est rfl (u4 (E := Enc.int) (ex := l[g]) us_Is d9 rfl rfl rfl (Own.int ei24) rfl bn bn dc) (fun p39 _ => (Ei rfl (En (n9 (Et (Ez Z3 (Em rfl (Ey rfl ((Y.add rfl rfl om om).yd) (Ei rfl (Eu (i9 (congrArg (ow eIs [_]) (show (E6 (fun y => decide (x < y)) x (l.take g)) ++ [l[g]] = E6 (fun y => decide (x < y)) x (l.take (g + 1)) from by grind [H2, I1, G7, J1, d1, d2, t1, t2])) ?_)))))))))))))))))))))))))
     exact t8 br (g + 1, p39.1, ((E6 (fun y => decide (x < y)) x (l.take g)).length + 1), p39.2) ⟨rfl, rfl, rfl, frB (by grind [H2, I1, G7, J1, d1, d2, t1, t2]), rfl, trivial⟩ (.refl _) ⟨oz, trivial⟩ oz
  ·refine Eu (j8 rfl (E.exit (l2 (l2 (w8 (Et (Eq_ (Ew Z2 (Em rfl (u5 (fun q40 => ?_) (fun q40 => ?_)))))))))))
   ·refine Ey rfl ((Y.not (b := true) rfl).yd) (Eu (j8 rfl (f5 (Et (Ew Z2 (Em rfl (Ei rfl (Eu (E.ret (i9 (congrArg (ow eIs [_]) (show _ = H2 l x by grind [H2, I1, G7, J1, d1, d2, t1, t2])) ?_))))))))))
    exact F.r1 hB1 rfl rfl (_, _, _) trivial rfl (J := _) (.refl _) (.inl rfl)
   ·refine Ey rfl ((Y.not (b := false) rfl).yd) (Eu (j9 rfl (Ez Z5 (Em rfl (Em rfl (Est rfl (Nb [_] [_] us_Is d9 rfl rfl) (fun b44 _ => (d7 (Est rfl (u4 (E := Enc.int) (ex := x) us_Is d9 rfl rfl rfl (Own.int i6x) rfl bn bn dc) (fun p45 _ => (Ei rfl (Ev Z2 (Em rfl (Ei rfl (Eu (E.ret (i9 (congrArg (ow eIs [_]) (show _ = H2 l x by grind [H2, I1, G7, J1, d1, d2, t1, t2])) ?_)))))))))))))))))
    exact F.r1 hB1 rfl rfl (_, _, _) trivial rfl (J := _) (.refl _) (.inl rfl)
theorem a0Z (hz : I3 (fun x => x.2.length) f4 ≤ 1048576) : Tr Tryz.prog 127 [.agg #[.slice o3 s9 o2, .slice m7 r6 l7]] (fun w L => Ro w L eIs [.slice o3 s9 o2] i7 ∧ Ro w L C2 [.slice m7 r6 l7] f4) [] (κ := Option Addr × Nat × Nat) (fun k => True) (fun k => .slice k.1 k.2.1 k.2.2) (fun k => [ow eIs [.slice k.1 k.2.1 k.2.2] (u6 (fun t => inR t 10 17) f4)]) := by
 refine Tr.intro Tryz.func127 rfl (n := 47) rfl (by decide +kernel) bl (fr := [(0, .agg #[.slice o3 s9 o2, .slice m7 r6 l7])]) rfl fun w L hR => ?_
 obtain ⟨w4, s5⟩ := hR
 obtain ⟨rfl, I4⟩ := w4.slen
 obtain ⟨rfl, G5⟩ := s5.slen
 have jv := s5.i64A
 refine Ew Z2 (Est rfl (N.box (cs := [_, _]) rfl dc rfl) (fun b1 _ => (Ei rfl (Ev Z2 (Est rfl (Nb [] [] us_Is d9 rfl rfl) (fun b6 _ => (Ent.drop (Ei rfl (Eu (Eq_ (Ew Z1 (Ei rfl (Eu (E.block (l3 (A := []) (Own.nil (E := Enc.int) (e := tI) (a := (some ⟨b6, 0, none⟩))) rfl (i9 (congrArg (ow eIs [_]) (show [] = G3 (((f4.take 0).flatMap (fun a : Int × List Int => a.2)).filter (fun t => inR t 10 17)) from by first | rfl | (simp; done) | grind [u6, S1, T4, d1, d2, t1, t2])) (E.loop (κ := Nat × Option Addr × Nat × Nat) (fun g => g.1 ≤ f4.length ∧ True) (fun g => [(1, .pointer (some ⟨b1, 0, none⟩)), (3, .slice g.2.1 g.2.2.1 g.2.2.2), (4, .int .i64 (↑g.1 : Int))]) (fun g => [ow eIs [.slice g.2.1 g.2.2.1 g.2.2.2] (G3 (((f4.take g.1).flatMap (fun a : Int × List Int => a.2)).filter (fun t => inR t 10 17))), pt b1 27 [.slice o3 i7.length o2, .slice m7 f4.length l7]]) (fun g => f4.length - g.1) (0, (some ⟨b6, 0, none⟩), 0, 0) ⟨Nat.zero_le _, by simp⟩ ⟨rfl, rfl, rfl, trivial⟩ (.refl _) (fun g pg => ?_))))))))))))))))))
 obtain ⟨g, aA0_0, mA0_0, cA0_0⟩ := g
 try dsimp only at pg
 try dsimp only
 obtain ⟨pk, pa⟩ := pg
 refine f0 m0 fun eaA0_0 laA0_0 => ?_
 subst eaA0_0
 refine Eq_ (Ew Z5 (Em rfl (Ey rfl ((f9 fo_Query_1 ty_Atoms dc rfl).yd) (Ey rfl (f6 ty_Atoms rfl (Hz (mS m0) 1 rfl) rfl) (Ey rfl ((Y.len us_Atoms rfl).yd) (Ey rfl ((Y.lss rfl rfl).yd) (j4 (fun q11 => ?_) (fun q11 => ?_))))))))
 ·refine Eu (j9 rfl (f5 (Et (Eq_ (E.block (Ew Z1 (Ei rfl (Eu (E.block (i9 (congrArg (ow eIs [_]) (show G3 (((f4.take g).flatMap (fun a : Int × List Int => a.2)).filter (fun t => inR t 10 17)) = G3 (((f4.take g).flatMap (fun a : Int × List Int => a.2)).filter (fun t => inR t 10 17) ++ (f4[g].2.take 0).filter (fun t => inR t 10 17)) from by first | rfl | (simp; done) | grind [u6, S1, T4, d1, d2, t1, t2])) (E.loop (κ := Nat × Option Addr × Nat × Nat) (fun h => h.1 ≤ f4[g].2.length ∧ True) (fun h => [(1, .pointer (some ⟨b1, 0, none⟩)), (3, .slice h.2.1 h.2.2.1 h.2.2.2), (4, .int .i64 (g : Int)), (5, .int .i64 (↑h.1 : Int))]) (fun h => [ow eIs [.slice h.2.1 h.2.2.1 h.2.2.2] (G3 (((f4.take g).flatMap (fun a : Int × List Int => a.2)).filter (fun t => inR t 10 17) ++ (f4[g].2.take h.1).filter (fun t => inR t 10 17))), pt b1 27 [.slice o3 i7.length o2, .slice m7 f4.length l7]]) (fun h => f4[g].2.length - h.1) (0, aA0_0, (G3 (((f4.take g).flatMap (fun a : Int × List Int => a.2)).filter (fun t => inR t 10 17))).length, cA0_0) ⟨Nat.zero_le _, by simp⟩ ⟨rfl, rfl, rfl, rfl, trivial⟩ (.refl _) (fun h ph => ?_))))))))))))
  obtain ⟨h, aA1_0, mA1_0, cA1_0⟩ := h
  try dsimp only at ph
  try dsimp only
  obtain ⟨pk, pa⟩ := ph
  have ju := a2B (is := (fun t => inR t 10 17)) (g := g) (h := h) hz om
  have jw := a4H (l := ((f4.take g).flatMap (fun a : Int × List Int => a.2)).filter (fun t => inR t 10 17) ++ (f4[g].2.take h).filter (fun t => inR t 10 17))
  refine f0 m0 fun eaA1_0 laA1_0 => ?_
  subst eaA1_0
  refine Eq_ (Ew Z9 (Em rfl (Ey rfl ((f9 fo_Query_1 ty_Atoms dc rfl).yd) (Ey rfl (f6 ty_Atoms rfl (Hz (mS m0) 1 rfl) rfl) (Em rfl ?_)))))
  obtain ⟨eb18, eo18, ec18, ea18, er18, el18, eh18⟩ := s5.elem g om
  obtain ⟨xa18_0, xc18_0, rfl, ei18_0, xh18_0⟩ := M8 er18
  have := xh18_0.slen.2
  refine Ey rfl ((o6 us_Atoms ty_Atom rfl ea18 rfl g rfl om).yd) (Ey rfl ((f9 fo_Atom_1 ty_Is dc rfl).yd) (Ey rfl (f6 ty_Is rfl ((eh18 _).sub (cs' := [_]) 1 rfl) rfl) (Ey rfl ((Y.len us_Is rfl).yd) (Ey rfl ((Y.lss rfl rfl).yd) (j4 (fun q22 => ?_) (fun q22 => ?_))))))
  ·refine Eu (j9 rfl (f5 (Et (Eq_ (E.block (Ew Z10 (Ey rfl ((f9 fo_Query_1 ty_Atoms dc rfl).yd) (Ey rfl (f6 ty_Atoms rfl (Hz (mS m0) 1 rfl) rfl) (Em rfl (Ey rfl ((o6 us_Atoms ty_Atom rfl ea18 rfl g rfl om).yd) (Ey rfl ((f9 fo_Atom_1 ty_Is dc rfl).yd) (Ey rfl (f6 ty_Is rfl ((eh18 _).sub (cs' := [_]) 1 rfl) rfl) (Em rfl ?_)))))))))))))
   obtain ⟨eb32, eo32, ea32, ei32, eh32⟩ := xh18_0.elemI h om
   refine Ey rfl ((o6 us_Is d9 rfl ea32 rfl h rfl om).yd) (Ey rfl (f6 d9 rfl (eh32 _) rfl) (Est rfl (i8 U2 rfl rfl rfl dc tv) (fun _ _ => (u5 (fun q34 => ?_) (fun q34 => ?_)))))
   ·refine Eu (j9 rfl (Ez Z12 (Em rfl (Ey rfl ((f9 fo_Query_1 ty_Atoms dc rfl).yd) (Ey rfl (f6 ty_Atoms rfl (Hz (mS m0) 1 rfl) rfl) (Em rfl (Ey rfl ((o6 us_Atoms ty_Atom rfl ea18 rfl g rfl om).yd) (Ey rfl ((f9 fo_Atom_1 ty_Is dc rfl).yd) (Ey rfl (f6 ty_Is rfl ((eh18 _).sub (cs' := [_]) 1 rfl) rfl) (Em rfl (Ey rfl ((o6 us_Is d9 rfl ea32 rfl h rfl om).yd) (Ey rfl (f6 d9 rfl (eh32 _) rfl) (Est rfl (N.call (pre := [_]) (a5m fc) rfl rfl rfl dc rfl (fun w Lp hA => ei32)) (fun k45 _ => ?_))))))))))))))
    obtain ⟨a45, m45, c45⟩ := k45
    refine f0 m0 fun e45 l45 => ?_
    subst e45
    refine Ei rfl (En (n9 (Et (Ez Z3 (Em rfl (Ey rfl ((Y.add rfl rfl om om).yd) (Ei rfl (Eu (i9 (congrArg (ow eIs [_]) (show H2 (G3 (((f4.take g).flatMap (fun a : Int × List Int => a.2)).filter (fun t => inR t 10 17) ++ (f4[g].2.take h).filter (fun t => inR t 10 17))) f4[g].2[h] = G3 (((f4.take g).flatMap (fun a : Int × List Int => a.2)).filter (fun t => inR t 10 17) ++ (f4[g].2.take (h + 1)).filter (fun t => inR t 10 17)) from by grind [u6, S1, T4, d1, d2, t1, t2])) (d7 (d7 ?_)))))))))))
    exact Ea (h + 1, a45, (H2 (G3 (((f4.take g).flatMap (fun a : Int × List Int => a.2)).filter (fun t => inR t 10 17) ++ (f4[g].2.take h).filter (fun t => inR t 10 17))) f4[g].2[h]).length, c45) ⟨oz, trivial⟩
   ·refine Eu (j8 rfl (f5 (n9 (Et (Ez Z3 (Em rfl (Ey rfl ((Y.add rfl rfl om om).yd) (Ei rfl (Eu (i9 (congrArg (ow eIs [_]) (show G3 (((f4.take g).flatMap (fun a : Int × List Int => a.2)).filter (fun t => inR t 10 17) ++ (f4[g].2.take h).filter (fun t => inR t 10 17)) = G3 (((f4.take g).flatMap (fun a : Int × List Int => a.2)).filter (fun t => inR t 10 17) ++ (f4[g].2.take (h + 1)).filter (fun t => inR t 10 17)) from by grind [u6, S1, T4, d1, d2, t1, t2])) (d7 (d7 ?_))))))))))))
    exact Ea (h + 1, aA1_0, (G3 (((f4.take g).flatMap (fun a : Int × List Int => a.2)).filter (fun t => inR t 10 17) ++ (f4[g].2.take h).filter (fun t => inR t 10 17))).length, cA1_0) ⟨oz, trivial⟩
  ·refine Eu (j8 rfl (E.exit (l2 (l2 (w8 (n9 (Et (Ez Z3 (Em rfl (Ey rfl ((Y.add rfl rfl om om).yd) (Ei rfl (Eu (i9 (congrArg (ow eIs [_]) (show G3 (((f4.take g).flatMap (fun a : Int × List Int => a.2)).filter (fun t => inR t 10 17) ++ (f4[g].2.take h).filter (fun t => inR t 10 17)) = G3 (((f4.take (g + 1)).flatMap (fun a : Int × List Int => a.2)).filter (fun t => inR t 10 17)) from by grind [u6, S1, T4, d1, d2, t1, t2])) (d7 (d7 ?_)))))))))))))))
   exact Ea (g + 1, aA1_0, (G3 (((f4.take g).flatMap (fun a : Int × List Int => a.2)).filter (fun t => inR t 10 17) ++ (f4[g].2.take h).filter (fun t => inR t 10 17))).length, cA1_0) ⟨oz, trivial⟩
 ·refine Eu (j8 rfl (E.exit (l2 (l2 (w8 (Et (Ew Z2 (Em rfl (Ei rfl (Eu (E.ret (i9 (congrArg (ow eIs [_]) (show _ = u6 (fun t => inR t 10 17) f4 by grind [u6, S1, T4, d1, d2, t1, t2])) ?_))))))))))))
  exact Fg rfl rfl (_, _, _) rfl rfl
theorem a4d : Tr Tryz.prog 194 [.int .i64 t] (fun w L => True) [] (κ := Unit) (fun k => True) (fun k => .bool (K4 t)) (fun k => []) := by
 refine Tr.intro Tryz.func194 rfl (n := 9) rfl (by decide +kernel) bl (fr := [(0, .int .i64 t)]) rfl fun w L hR => (Ew Z1 (Ei rfl (Ev Z7 (Em rfl (Est rfl (i8 a0C rfl rfl rfl dc tv) (fun _ _ => (u5 (fun q4 => ?_) (fun q4 => ?_))))))))
 ·refine Em rfl (Es rfl (Es rfl (Ey rfl ((v6 rfl rfl).yd) (Ei rfl ?_))))
  exact Eu (E.ret (Fb rfl rfl (by grind [K4, d1, d2, t1, t2])))
 ·refine Em rfl (Em rfl (Est rfl (i8 V0 rfl rfl rfl dc tv) (fun _ _ => (Ey rfl ((w7 rfl rfl).yd) (Ei rfl ?_)))))
  exact Eu (E.ret (Fb rfl rfl (by grind [K4, d1, d2, t1, t2])))
theorem a4j : Tr Tryz.prog 168 [.int .i64 t] (fun w L => True) [] (κ := Unit) (fun k => True) (fun k => .bool (K4 t)) (fun k => []) := by
 refine Tr.intro Tryz.func168 rfl (n := 9) rfl (by decide +kernel) bl (fr := [(0, .int .i64 t)]) rfl fun w L hR => (Ew Z1 (Ei rfl (Ev Z7 (Em rfl (Est rfl (i8 K0 rfl rfl rfl dc tv) (fun _ _ => (u5 (fun q4 => ?_) (fun q4 => ?_))))))))
 ·refine Em rfl (Es rfl (Es rfl (Ey rfl ((v6 rfl rfl).yd) (Ei rfl ?_))))
  exact Eu (E.ret (Fb rfl rfl (by grind [K4, d1, d2, t1, t2])))
 ·refine Em rfl (Em rfl (Est rfl (i8 U2 rfl rfl rfl dc tv) (fun _ _ => (Ey rfl ((w7 rfl rfl).yd) (Ei rfl ?_)))))
  exact Eu (E.ret (Fb rfl rfl (by grind [K4, d1, d2, t1, t2])))
theorem a1R : Tr Tryz.prog 193 [.int .i64 t] (fun w L => (I64 t) ∧ True) [] (κ := Unit) (fun k => True) (fun k => .bool (!K4 t)) (fun k => []) := by
 refine Tr.intro Tryz.func193 rfl (n := 6) rfl (by decide +kernel) bl (fr := [(0, .int .i64 t)]) rfl fun w L hR => ?_
 obtain ⟨i6t, _⟩ := hR
 refine Ew Z1 (Ei rfl (Ev Z4 (Em rfl (Est rfl (i8 a4d rfl rfl rfl dc tv) (fun _ _ => (Ey rfl ((Y.not rfl).yd) (Ei rfl ?_)))))))
 exact Eu (E.ret (Fb rfl rfl (by grind [d1, d2, t1, t2])))
theorem a2K : Tr Tryz.prog 162 [.slice a_l m_l c_l] (fun w L => Ro w L eIs [.slice a_l m_l c_l] l) [] (κ := Unit) (fun k => True) (fun k => .bool (!l.any fun t => !K4 t)) (fun k => []) := by
 refine Tr.intro Tryz.func162 rfl (n := 6) rfl (by decide +kernel) bl (fr := [(0, .slice a_l m_l c_l)]) rfl fun w L hR => ?_
 have hl := hR
 obtain ⟨rfl, ll⟩ := hl.slen
 refine Ew Z1 (Ei rfl (Ev Z4 (Em rfl (Est rfl (i8 (O8 (f := (fun t => !K4 t)) (D_f := (fun _ => True)) (by intros; exact trivial)) rfl rfl rfl dc (fun w Lp hA => ⟨hA.ro hl, a0I (D := (fun _ => True)) (fun hd => a1R) (fun w' hk => trivial)⟩)) (fun _ _ => (Ey rfl ((Y.not rfl).yd) (Ei rfl ?_)))))))
 exact Eu (E.ret (Fb rfl rfl (by grind [d1, d2, t1, t2])))
theorem a4f : Tr Tryz.prog 122 [.slice a_s m_s c_s, .agg #[.int .i64 f7, .slice z6 C7 y9]] (fun w L => Ro w L eIs [.slice a_s m_s c_s] s ∧ I64 f7 ∧ Ro w L eIs [.slice z6 C7 y9] d6) [] (κ := Unit) (fun k => True) (fun k => .bool (G6 s (f7, d6))) (fun k => []) := by
 refine Tr.intro Tryz.func122 rfl (n := 25) rfl (by decide +kernel) bl (fr := [(0, .slice a_s m_s c_s), (1, .agg #[.int .i64 f7, .slice z6 C7 y9])]) rfl fun w L hR => ?_
 obtain ⟨hs, M0, D6⟩ := hR
 obtain ⟨rfl, ls⟩ := hs.slen
 obtain ⟨rfl, V8⟩ := D6.slen
 refine Ew Z2 (Est rfl (N.box (cs := [_, _]) rfl dc rfl) (fun b3 _ => (Ei rfl (Eu (Eq_ (D.region (fun j => true) mixed (Dyp 0 rfl (i0 rfl) (Dyp 1 rfl (f9 fo_Atom_0 d9 dc rfl) (Dy 2 rfl (f6 d9 rfl (Hz m0 0 rfl) rfl) (t7 3 rfl rfl kr (fun _ => rfl) (i8 a1c rfl rfl rfl dc (fun w Lp hA => hA.ro hs)) (fun _ _ => (u5 (fun q8 => ?_) (fun q8 => ?_)))))))))))))
 ·obtain ⟨z1, z2, _, _⟩ := S3 q8
  refine Dyp 4 rfl (i0 rfl) (Dyp 5 rfl (f9 fo_Atom_1 ty_Is dc rfl) (Dy 6 rfl (f6 ty_Is rfl (Hz m0 1 rfl) rfl) (Dyp 7 rfl (Y.len us_Is rfl) (Dyp 8 rfl (i0 rfl) (Dyp 9 rfl (f9 fo_Atom_0 d9 dc rfl) (Dy 10 rfl (f6 d9 rfl (Hz m0 0 rfl) rfl) ?_))))))
  obtain ⟨eb16, eo16, ea16, ei16, eh16⟩ := hs.elemI f7.toNat om
  refine Dyp 11 rfl (o6 us_Is d9 rfl ea16 rfl f7.toNat om om) (Dy 12 rfl (f6 d9 rfl (eh16 _) rfl) (Dyp 13 rfl (Y.eql rfl rfl) (j4 (fun q18 => ?_) (fun q18 => ?_))))
  ·refine Dyp 14 rfl (v6 rfl rfl) (Dyp 15 rfl (i0 rfl) (Dyp 16 rfl (f9 fo_Atom_1 ty_Is dc rfl) (Dy 17 rfl (f6 ty_Is rfl (Hz m0 1 rfl) rfl) (t7 18 rfl rfl kr (fun _ => rfl) (i8 a2K rfl rfl rfl dc (fun w Lp hA => hA.ro D6)) (fun _ _ => (Dyp 19 rfl (v6 rfl rfl) (Dyp 20 rfl (D8 rfl) ?_)))))))
   exact o0 kr (Et (E.ret (Fb rfl rfl (by grind [G6, I8, d1, d2, t1, t2]))))
  ·refine Dyp 14 rfl (v6 rfl rfl) (Dyp 15 rfl (i0 rfl) (Dsk 16 rfl (Dsk 17 rfl (Dsk 18 rfl (Dyp 19 rfl (w7 rfl rfl) (Dyp 20 rfl (D8 rfl) ?_))))))
   exact o0 kr (Et (E.ret (Fb rfl rfl (by grind [G6, I8, d1, d2, t1, t2]))))
 ·refine Dyp 4 rfl (i0 rfl) (Dsk 5 rfl (Dsk 6 rfl (Dsk 7 rfl (Dsk 8 rfl (Dsk 9 rfl (Dsk 10 rfl (Dsk 11 rfl (Dsk 12 rfl (Dsk 13 rfl (Dyp 14 rfl (w7 rfl rfl) (Dyp 15 rfl (i0 rfl) (Dsk 16 rfl (Dsk 17 rfl (Dsk 18 rfl ?_))))))))))))))
  refine Dyp 19 rfl (w7 rfl rfl) (Dyp 20 rfl (D8 rfl) ?_)
  exact o0 kr (Et (E.ret (Fb rfl rfl (by grind [G6, I8, d1, d2, t1, t2]))))
theorem a4k : Tr Tryz.prog 126 [.slice a_s m_s c_s, .agg #[.int .i64 f7, .slice z6 C7 y9]] (fun w L => Ro w L eIs [.slice a_s m_s c_s] s ∧ I64 f7 ∧ Ro w L eIs [.slice z6 C7 y9] d6) [] (κ := Unit) (fun k => True) (fun k => .bool (G6 s (f7, d6))) (fun k => []) := by
 refine Tr.intro Tryz.func126 rfl (n := 43) rfl (by decide +kernel) bl (fr := [(0, .slice a_s m_s c_s), (1, .agg #[.int .i64 f7, .slice z6 C7 y9])]) rfl fun w L hR => ?_
 obtain ⟨hs, M0, D6⟩ := hR
 obtain ⟨rfl, ls⟩ := hs.slen
 obtain ⟨rfl, V8⟩ := D6.slen
 refine Ew Z2 (Est rfl (N.box (cs := [_, _]) rfl dc rfl) (fun b3 _ => (Ei rfl (Eu (Eq_ (Eq_ (D.region (fun j => true) mixed (Dyp 0 rfl (i0 rfl) (t7 1 rfl rfl kr (fun _ => rfl) (i8 H5 rfl rfl rfl dc (fun w Lp hA => hA.ro hs)) (fun _ _ => (u5 (fun q7 => ?_) (fun q7 => ?_))))))))))))
 ·refine Dyp 2 rfl (Y.not (b := true) rfl) (Dyp 3 rfl (i0 rfl) (Dyp 4 rfl (f9 fo_Atom_0 d9 dc rfl) (Dy 5 rfl (f6 d9 rfl (Hz m0 0 rfl) rfl) (Dyp 6 rfl (i0 rfl) (Dyp 7 rfl (Y.len us_Is rfl) (Dyp 8 rfl (Y.sub rfl rfl om om) (t7 9 rfl rfl kr (fun _ => rfl) (i8 K0 rfl rfl rfl dc tv) (fun _ _ => (u5 (fun q15 => ?_) (fun q15 => ?_))))))))))
  ·have y1 : F1 s f7 = true := by rw [F1, q7, q15]; rfl
   obtain ⟨z1, z2, _, _⟩ := S3 y1
   refine Dyp 10 rfl (Y.not (b := true) rfl) (Dyp 11 rfl (w7 rfl rfl) (Dyp 12 rfl (i0 rfl) (Dyp 13 rfl (f9 fo_Atom_1 ty_Is dc rfl) (Dy 14 rfl (f6 ty_Is rfl (Hz m0 1 rfl) rfl) (Dyp 15 rfl (Y.len us_Is rfl) (Dyp 16 rfl (i0 rfl) (Dyp 17 rfl (f9 fo_Atom_0 d9 dc rfl) (Dy 18 rfl (f6 d9 rfl (Hz m0 0 rfl) rfl) ?_))))))))
   obtain ⟨eb25, eo25, ea25, ei25, eh25⟩ := hs.elemI f7.toNat om
   refine Dyp 19 rfl (o6 us_Is d9 rfl ea25 rfl f7.toNat om om) (Dy 20 rfl (f6 d9 rfl (eh25 _) rfl) (Dyp 21 rfl (Y.neq rfl rfl) (j4 (fun q27 => ?_) (fun q27 => ?_))))
   ·refine Dyp 22 rfl (w7 rfl rfl) (o0 kr (Et (j9 rfl (Ew Z1 (Ei rfl ?_)))))
    exact Eu (E.ret (j5 (Fb rfl rfl (by grind [G6, F1, I8, d1, d2, t1, t2]))))
   ·refine Dyp 22 rfl (w7 rfl rfl) (o0 kr (Et (j8 rfl (f5 (Et (Eq_ (Ew Z1 (Ei rfl (Eu (E.block (E.loop (κ := Nat) (fun g => g ≤ d6.length ∧ (d6.any fun t => !K4 t) = ((d6.drop g).any fun t => !K4 t)) (fun g => [(3, .pointer (some ⟨b3, 0, none⟩)), (5, .int .i64 (g : Int))]) (fun g => [pt b3 42 [.int .i64 f7, .slice z6 d6.length y9]]) (fun g => d6.length - g) 0 ⟨Nat.zero_le _, by simp⟩ ⟨rfl, rfl, trivial⟩ (.refl _) (fun g pg => ?_))))))))))))
    obtain ⟨pk, pa⟩ := pg
    refine Eq_ (Ew Z5 (Em rfl (Ey rfl ((f9 fo_Atom_1 ty_Is dc rfl).yd) (Ey rfl (f6 ty_Is rfl (Hz m0 1 rfl) rfl) (Ey rfl ((Y.len us_Is rfl).yd) (Ey rfl ((Y.lss rfl rfl).yd) (j4 (fun q33 => ?_) (fun q33 => ?_))))))))
    ·refine Eu (j9 rfl (f5 (Et (Eq_ (E.block (Ew Z7 (Ey rfl ((f9 fo_Atom_1 ty_Is dc rfl).yd) (Ey rfl (f6 ty_Is rfl (Hz m0 1 rfl) rfl) (Em rfl ?_)))))))))
     obtain ⟨eb39, eo39, ea39, ei39, eh39⟩ := D6.elemI g om
     refine Ey rfl ((o6 us_Is d9 rfl ea39 rfl g rfl om).yd) (Ey rfl (f6 d9 rfl (eh39 _) rfl) (Est rfl (i8 a4j rfl rfl rfl dc tv) (fun _ _ => (u5 (fun q41 => ?_) (fun q41 => ?_)))))
     ·refine Ey rfl ((Y.not (b := true) rfl).yd) (Eu (j8 rfl (f5 (n9 (Et (Ez Z3 (Em rfl (Ey rfl ((Y.add rfl rfl om om).yd) (Ei rfl ?_)))))))))
      exact Eu (t8 br (g + 1) ⟨rfl, rfl, trivial⟩ (.refl _) ⟨by omega, by grind [d1, d2, t1, t2]⟩ om)
     ·refine Ey rfl ((Y.not (b := false) rfl).yd) (Eu (j9 rfl (Ew Z1 (Ei rfl ?_))))
      exact Eu (E.ret (w9 (j5 (j5 (w9 (j5 (Fb rfl rfl (by grind [G6, F1, I8, d1, d2, t1, t2]))))))))
    ·refine Eu (j8 rfl (E.exit (l2 (l2 (w8 (Et (Ew Z1 (Ei rfl ?_))))))))
     exact Eu (E.ret (Fb rfl rfl (by grind [G6, F1, I8, d1, d2, t1, t2])))
  ·refine Dyp 10 rfl (Y.not (b := false) rfl) (Dyp 11 rfl (w7 rfl rfl) (Dyp 12 rfl (i0 rfl) (Dsk 13 rfl (Dsk 14 rfl (Dsk 15 rfl (Dsk 16 rfl (Dsk 17 rfl (Dsk 18 rfl (Dsk 19 rfl (Dsk 20 rfl (Dsk 21 rfl (Dyp 22 rfl (v6 rfl rfl) (o0 kr (Et (j9 rfl (Ew Z1 (Ei rfl ?_)))))))))))))))))
   exact Eu (E.ret (j5 (Fb rfl rfl (by grind [G6, F1, I8, d1, d2, t1, t2]))))
 ·refine Dyp 2 rfl (Y.not (b := false) rfl) (Dyp 3 rfl (i0 rfl) (Dsk 4 rfl (Dsk 5 rfl (Dsk 6 rfl (Dsk 7 rfl (Dsk 8 rfl (Dsk 9 rfl (Dsk 10 rfl (Dyp 11 rfl (v6 rfl rfl) (Dyp 12 rfl (i0 rfl) (Dsk 13 rfl (Dsk 14 rfl (Dsk 15 rfl (Dsk 16 rfl ?_))))))))))))))
  refine Dsk 17 rfl (Dsk 18 rfl (Dsk 19 rfl (Dsk 20 rfl (Dsk 21 rfl (Dyp 22 rfl (v6 rfl rfl) (o0 kr (Et (j9 rfl (Ew Z1 (Ei rfl ?_))))))))))
  exact Eu (E.ret (j5 (Fb rfl rfl (by grind [G6, F1, I8, d1, d2, t1, t2]))))
theorem X7 {v : Int} : Tr Tryz.prog 165 [.slice a_s m_s c_s, .int .i64 v] (fun w L => Ro w L eIs [.slice a_s m_s c_s] s) [] (κ := Unit) (fun k => True) (fun k => .bool (F5 s v)) (fun k => []) := by
 refine Tr.intro Tryz.func165 rfl (n := 9) rfl (by decide +kernel) bl (fr := [(0, .slice a_s m_s c_s), (1, .int .i64 v)]) rfl fun w L hR => ?_
 have hs := hR
 obtain ⟨rfl, ls⟩ := hs.slen
 refine Ew Z1 (Ei rfl (Ev Z5 (Em rfl (Em rfl (Est rfl (i8 a3G rfl rfl rfl dc (fun w Lp hA => hA.ro hs)) (fun _ _ => (Ey rfl ((Y.geq rfl rfl).yd) (Ei rfl ?_))))))))
 exact Eu (E.ret (Fb rfl rfl (by exact V9)))
theorem a2m {b_vars : Nat} {a_vars : Option Addr} {m_vars c_vars : Nat} {vars : List Int} : Tr Tryz.prog 164 [.int .i64 t, .pointer (some ⟨b_vars, 0, none⟩)] (fun w L => (I64 t) ∧ RoPt w L b_vars [.slice a_vars m_vars c_vars] ∧ Ro w L eIs [.slice a_vars m_vars c_vars] vars) [] (κ := Unit) (fun k => True) (fun k => .bool (!F5 vars t)) (fun k => []) := by
 refine Tr.intro Tryz.func164 rfl (n := 8) rfl (by decide +kernel) bl (fr := [(0, .int .i64 t), (1, .pointer (some ⟨b_vars, 0, none⟩))]) rfl fun w L hR => ?_
 obtain ⟨i6t, hb_vars, hvars⟩ := hR
 obtain ⟨rfl, lvars⟩ := hvars.slen
 refine Ew Z1 (Ei rfl (Ev Z5 (Ey rfl (f6 ty_Is rfl (hb_vars.has) rfl) (Em rfl (Est rfl (i8 X7 rfl rfl rfl dc (fun w Lp hA => hA.ro hvars)) (fun _ _ => (Ey rfl ((Y.not rfl).yd) (Ei rfl ?_))))))))
 exact Eu (E.ret (Fb rfl rfl (by grind [d1, d2, t1, t2])))
theorem a2W (hz : I3 (fun x => x.2.length) f4 ≤ 1048576) : Tr Tryz.prog 123 [.agg #[.slice o3 s9 o2, .slice m7 r6 l7]] (fun w L => Ro w L eIs [.slice o3 s9 o2] i7 ∧ Ro w L C2 [.slice m7 r6 l7] f4) [] (κ := Unit) (fun k => True) (fun k => .bool (N6 (i7, f4))) (fun k => []) := by
 refine Tr.intro Tryz.func123 rfl (n := 17) rfl (by decide +kernel) bl (fr := [(0, .agg #[.slice o3 s9 o2, .slice m7 r6 l7])]) rfl fun w L hR => ?_
 obtain ⟨w4, s5⟩ := hR
 obtain ⟨rfl, I4⟩ := w4.slen
 obtain ⟨rfl, G5⟩ := s5.slen
 refine Ew Z2 (Est rfl (N.box (cs := [_, _]) rfl dc rfl) (fun b1 _ => (Ei rfl (Ev Z4 (Ey rfl (o1 (cs := [_, _]) ty_Query rfl (Has.pt m0) rfl) (Est rfl (N.call (a4q fc) rfl rfl rfl dc rfl (fun w Lp hA => ⟨hA.ro w4, hA.ro s5⟩)) (fun k5 _ => ?_)))))))
 obtain ⟨a5, m5, c5⟩ := k5
 refine f0 m0 fun e5 l5 => ?_
 subst e5
 refine Est rfl (N.alloc ty_Is dc) (fun b3 _ => (Est rfl (Ns [_] ty_Is rfl) (fun _ _ => (Ev Z12 (Ey rfl ((f9 fo_Query_0 ty_Is dc rfl).yd) (Ey rfl (f6 ty_Is rfl (Hz (mS (mS m0)) 0 rfl) rfl) (Ey rfl ((Y.len us_Is rfl).yd) (Ey rfl ((Y.leq rfl rfl).yd) (j4 (fun q9 => ?_) (fun q9 => ?_))))))))))
 ·refine Em rfl (Ey rfl ((f9 fo_Query_0 ty_Is dc rfl).yd) (Ey rfl (f6 ty_Is rfl (Hz (mS (mS m0)) 0 rfl) rfl) (Ey rfl ((Y.fn (vs := [_]) rfl).yd) (Est rfl (i8 (O8 (f := (fun t => !F5 (u6 (fun t => inR t 10 17) f4) t)) (D_f := (fun _ => True)) (by intros; exact trivial)) rfl rfl rfl dc (fun w Lp hA => ⟨hA.ro w4, a0I (D := (fun _ => True)) (fun hd => a2m) (fun w' hk => ⟨(hA.pt m0).keep hk, (hA.ow (mS m0)).keep hk⟩)⟩)) (fun _ _ => (Ey rfl ((Y.not rfl).yd) (Ey rfl ((v6 rfl rfl).yd) (Ei rfl ?_))))))))
  exact Eu (E.ret (Fb rfl rfl (by grind [N6, d1, d2, t1, t2])))
 ·refine Em rfl (Es rfl (Es rfl (Es rfl (Es rfl (Es rfl (Ey rfl ((w7 rfl rfl).yd) (Ei rfl ?_)))))))
  exact Eu (E.ret (Fb rfl rfl (by grind [N6, d1, d2, t1, t2])))
theorem a2q {b_s : Nat} : Tr Tryz.prog 121 [.agg #[.int .i64 f7, .slice z6 C7 y9], .pointer (some ⟨b_s, 0, none⟩)] (fun w L => (I64 f7 ∧ Ro w L eIs [.slice z6 C7 y9] d6) ∧ RoPt w L b_s [.slice a_s m_s c_s] ∧ Ro w L eIs [.slice a_s m_s c_s] s) [] (κ := Unit) (fun k => True) (fun k => .bool (!G6 s (f7, d6))) (fun k => []) := by
 refine Tr.intro Tryz.func121 rfl (n := 8) rfl (by decide +kernel) bl (fr := [(0, .agg #[.int .i64 f7, .slice z6 C7 y9]), (1, .pointer (some ⟨b_s, 0, none⟩))]) rfl fun w L hR => ?_
 obtain ⟨⟨M0, D6⟩, hb_s, hs⟩ := hR
 obtain ⟨rfl, V8⟩ := D6.slen
 obtain ⟨rfl, ls⟩ := hs.slen
 refine Ew Z2 (Est rfl (N.box (cs := [_, _]) rfl dc rfl) (fun b2 _ => (Ei rfl (Ev Z5 (Ey rfl (f6 ty_Is rfl (hb_s.has) rfl) (Ey rfl (o1 (cs := [_, _]) ty_Atom rfl (Has.pt m0) rfl) (Est rfl (i8 a4f rfl rfl rfl dc (fun w Lp hA => ⟨hA.ro hs, M0, hA.ro D6⟩)) (fun _ _ => (Ey rfl ((Y.not rfl).yd) (Ei rfl ?_))))))))))
 exact Eu (E.ret (Fb rfl rfl (by grind [d1, d2, t1, t2])))
theorem a3g (hz : I3 (fun x => x.2.length) f4 ≤ 1048576) : Tr Tryz.prog 55 [.slice a_s m_s c_s, .agg #[.slice o3 s9 o2, .slice m7 r6 l7]] (fun w L => Ro w L eIs [.slice a_s m_s c_s] s ∧ Ro w L eIs [.slice o3 s9 o2] i7 ∧ Ro w L C2 [.slice m7 r6 l7] f4) [] (κ := Unit) (fun k => True) (fun k => .bool (x3 s (i7, f4))) (fun k => []) := by
 refine Tr.intro Tryz.func55 rfl (n := 24) rfl (by decide +kernel) bl (fr := [(0, .slice a_s m_s c_s), (1, .agg #[.slice o3 s9 o2, .slice m7 r6 l7])]) rfl fun w L hR => ?_
 obtain ⟨hs, w4, s5⟩ := hR
 obtain ⟨rfl, ls⟩ := hs.slen
 obtain ⟨rfl, I4⟩ := w4.slen
 obtain ⟨rfl, G5⟩ := s5.slen
 refine Ew Z3 (Est rfl (N.box (cs := [_]) rfl dc rfl) (fun b2 _ => (Est rfl (N.box (cs := [_, _]) rfl dc rfl) (fun b3 _ => (Ei rfl (Ev Z20 (Ey rfl (f6 ty_Is rfl (Has.pt (mS m0)) rfl) (Est rfl (i8 U3 rfl rfl rfl dc (fun w Lp hA => hA.ro hs)) (fun _ _ => (u5 (fun q6 => ?_) (fun q6 => ?_)))))))))))
 ·refine Em rfl (Ey rfl ((f9 fo_Query_1 ty_Atoms dc rfl).yd) (Ey rfl (f6 ty_Atoms rfl (Hz m0 1 rfl) rfl) (Ey rfl ((Y.len us_Atoms rfl).yd) (Est rfl (i8 L9 rfl rfl rfl dc tv) (fun _ _ => (u5 (fun q11 => ?_) (fun q11 => ?_)))))))
  ·refine Ey rfl ((v6 rfl rfl).yd) (Em rfl (Ey rfl ((f9 fo_Query_1 ty_Atoms dc rfl).yd) (Ey rfl (f6 ty_Atoms rfl (Hz m0 1 rfl) rfl) (Ey rfl ((Y.fn (vs := [_]) rfl).yd) (Est rfl (i8 (a1h (f := (fun z => !G6 s z)) (D_f := (fun _ => True)) (by intros; exact trivial)) rfl rfl rfl dc (fun w Lp hA => ⟨hA.ro s5, a6D (D := (fun _ => True)) (fun hd => a2q) (fun w' hk => ⟨(hA.pt (mS m0)).keep hk, (hA.ro hs).keep hk⟩)⟩)) (fun _ _ => (u5 (fun q17 => ?_) (fun q17 => ?_))))))))
   ·refine Ey rfl ((Y.not (b := true) rfl).yd) (Ey rfl ((v6 rfl rfl).yd) (Em rfl (Es rfl (Es rfl (Ey rfl ((w7 rfl rfl).yd) (Ei rfl ?_))))))
    exact Eu (E.ret (Fb rfl rfl (by grind [x3, d1, d2, t1, t2])))
   ·refine Ey rfl ((Y.not (b := false) rfl).yd) (Ey rfl ((v6 rfl rfl).yd) (Em rfl (Ey rfl (o1 (cs := [_, _]) ty_Query rfl (Has.pt m0) rfl) (Est rfl (i8 (a2W fc) rfl rfl rfl dc (fun w Lp hA => ⟨hA.ro w4, hA.ro s5⟩)) (fun _ _ => (Ey rfl ((v6 rfl rfl).yd) (Ei rfl ?_)))))))
    exact Eu (E.ret (Fb rfl rfl (by grind [x3, d1, d2, t1, t2])))
  ·refine Ey rfl ((v6 rfl rfl).yd) (Em rfl (Es rfl (Es rfl (Es rfl (Es rfl (Es rfl (Ey rfl ((w7 rfl rfl).yd) (Em rfl (Es rfl (Es rfl (Ey rfl ((w7 rfl rfl).yd) (Ei rfl ?_))))))))))))
   exact Eu (E.ret (Fb rfl rfl (by grind [x3, d1, d2, t1, t2])))
 ·refine Em rfl (Es rfl (Es rfl (Es rfl (Es rfl (Ey rfl ((w7 rfl rfl).yd) (Em rfl (Es rfl (Es rfl (Es rfl (Es rfl (Es rfl (Ey rfl ((w7 rfl rfl).yd) (Em rfl (Es rfl ?_))))))))))))))
  refine Es rfl (Ey rfl ((w7 rfl rfl).yd) (Ei rfl ?_))
  exact Eu (E.ret (Fb rfl rfl (by grind [x3, d1, d2, t1, t2])))
theorem a3k (hz : I3 (fun x => x.2.length) f4 ≤ 1048576) : Tr Tryz.prog 59 [.slice a_s m_s c_s, .agg #[.slice o3 s9 o2, .slice m7 r6 l7]] (fun w L => Ro w L eIs [.slice a_s m_s c_s] s ∧ Ro w L eIs [.slice o3 s9 o2] i7 ∧ Ro w L C2 [.slice m7 r6 l7] f4) [] (κ := Unit) (fun k => True) (fun k => .bool (x3 s (i7, f4))) (fun k => []) := by
 refine Tr.intro Tryz.func59 rfl (n := 54) rfl (by decide +kernel) bl (fr := [(0, .slice a_s m_s c_s), (1, .agg #[.slice o3 s9 o2, .slice m7 r6 l7])]) rfl fun w L hR => ?_
 obtain ⟨hs, w4, s5⟩ := hR
 obtain ⟨rfl, ls⟩ := hs.slen
 obtain ⟨rfl, I4⟩ := w4.slen
 obtain ⟨rfl, G5⟩ := s5.slen
 refine Ew Z2 (Est rfl (N.box (cs := [_, _]) rfl dc rfl) (fun b3 _ => (Ei rfl (Eu (Eq_ (Ew Z1 (Ei rfl (Eu (E.block (E.loop (κ := Nat) (fun g => g ≤ f4.length ∧ (f4.any fun a => !G6 s a) = ((f4.drop g).any fun a => !G6 s a)) (fun g => [(0, .slice a_s s.length c_s), (3, .pointer (some ⟨b3, 0, none⟩)), (5, .int .i64 (g : Int))]) (fun g => [pt b3 27 [.slice o3 i7.length o2, .slice m7 f4.length l7]]) (fun g => f4.length - g) 0 ⟨Nat.zero_le _, by simp⟩ ⟨rfl, rfl, rfl, trivial⟩ (.refl _) (fun g pg => ?_)))))))))))
 obtain ⟨pk, pa⟩ := pg
 refine Eq_ (Ew Z5 (Em rfl (Ey rfl ((f9 fo_Query_1 ty_Atoms dc rfl).yd) (Ey rfl (f6 ty_Atoms rfl (Hz m0 1 rfl) rfl) (Ey rfl ((Y.len us_Atoms rfl).yd) (Ey rfl ((Y.lss rfl rfl).yd) (j4 (fun q12 => ?_) (fun q12 => ?_))))))))
 ·refine Eu (j9 rfl (f5 (Et (Eq_ (E.block (Ew Z8 (Em rfl (Ey rfl ((f9 fo_Query_1 ty_Atoms dc rfl).yd) (Ey rfl (f6 ty_Atoms rfl (Hz m0 1 rfl) rfl) (Em rfl ?_))))))))))
  obtain ⟨eb19, eo19, ec19, ea19, er19, el19, eh19⟩ := s5.elem g om
  obtain ⟨xa19_0, xc19_0, rfl, ei19_0, xh19_0⟩ := M8 er19
  have := xh19_0.slen.2
  refine Ey rfl ((o6 us_Atoms ty_Atom rfl ea19 rfl g rfl om).yd) (Ey rfl (o1 (cs := [_, _]) ty_Atom rfl (eh19 _) rfl) (Est rfl (i8 a4k rfl rfl rfl dc (fun w Lp hA => ⟨hA.ro hs, ei19_0, hA.ro xh19_0⟩)) (fun _ _ => (u5 (fun q21 => ?_) (fun q21 => ?_)))))
  ·refine Ey rfl ((Y.not (b := true) rfl).yd) (Eu (j8 rfl (f5 (n9 (Et (Ez Z3 (Em rfl (Ey rfl ((Y.add rfl rfl om om).yd) (Ei rfl ?_)))))))))
   exact Eu (t8 br (g + 1) rs (.refl _) ⟨by omega, by grind [d1, d2, t1, t2]⟩ om)
  ·refine Ey rfl ((Y.not (b := false) rfl).yd) (Eu (j9 rfl (Ew Z1 (Ei rfl ?_))))
   exact Eu (E.ret (w9 (j5 (j5 (w9 (j5 (Fb rfl rfl (by grind [x3, N6, d1, d2, t1, t2]))))))))
 ·refine Eu (j8 rfl (E.exit (l2 (l2 (w8 (Et (Ew Z3 (Ey rfl (o1 (cs := [_, _]) ty_Query rfl (Has.pt m0) rfl) (Est rfl (N.call (a0Z fc) rfl rfl rfl dc rfl (fun w Lp hA => ⟨hA.ro w4, hA.ro s5⟩)) (fun k24 _ => ?_))))))))))
  obtain ⟨a24, m24, c24⟩ := k24
  refine f0 m0 fun e24 l24 => ?_
  subst e24
  refine Ei rfl (Eu (Eq_ (Ew Z1 (Ei rfl (Eu (E.block (E.loop (κ := Nat) (fun g => g ≤ i7.length ∧ (i7.any (fun t => !F5 (u6 (fun t => inR t 10 17) f4) t)) = ((i7.drop g).any (fun t => !F5 (u6 (fun t => inR t 10 17) f4) t))) (fun g => [(0, .slice a_s s.length c_s), (3, .pointer (some ⟨b3, 0, none⟩)), (6, .slice a24 (u6 (fun t => inR t 10 17) f4).length c24), (7, .int .i64 (g : Int))]) (fun g => [ow eIs [.slice a24 (u6 (fun t => inR t 10 17) f4).length c24] (u6 (fun t => inR t 10 17) f4), pt b3 27 [.slice o3 i7.length o2, .slice m7 f4.length l7]]) (fun g => i7.length - g) 0 ⟨Nat.zero_le _, by simp⟩ ⟨rfl, rfl, rfl, rfl, trivial⟩ (.refl _) (fun g pg => ?_))))))))
  obtain ⟨pk, pa⟩ := pg
  refine Eq_ (Ew Z5 (Em rfl (Ey rfl ((f9 fo_Query_0 ty_Is dc rfl).yd) (Ey rfl (f6 ty_Is rfl (Hz (mS m0) 0 rfl) rfl) (Ey rfl ((Y.len us_Is rfl).yd) (Ey rfl ((Y.lss rfl rfl).yd) (j4 (fun q29 => ?_) (fun q29 => ?_))))))))
  ·refine Eu (j9 rfl (f5 (Et (Eq_ (E.block (Ew Z8 (Em rfl (Ey rfl ((f9 fo_Query_0 ty_Is dc rfl).yd) (Ey rfl (f6 ty_Is rfl (Hz (mS m0) 0 rfl) rfl) (Em rfl ?_))))))))))
   obtain ⟨eb36, eo36, ea36, ei36, eh36⟩ := w4.elemI g om
   refine Ey rfl ((o6 us_Is d9 rfl ea36 rfl g rfl om).yd) (Ey rfl (f6 d9 rfl (eh36 _) rfl) (Est rfl (i8 a1m rfl rfl rfl dc (fun w Lp hA => hA.ow m0)) (fun _ _ => (u5 (fun q38 => ?_) (fun q38 => ?_)))))
   ·refine Ey rfl ((Y.not (b := true) rfl).yd) (Eu (j8 rfl (f5 (n9 (Et (Ez Z3 (Em rfl (Ey rfl ((Y.add rfl rfl om om).yd) (Ei rfl (Eu (d7 (d7 ?_))))))))))))
    exact t8 br (g + 1) rs (.refl _) ⟨by omega, by grind [d1, d2, t1, t2]⟩ om
   ·refine Ey rfl ((Y.not (b := false) rfl).yd) (Eu (j9 rfl (Ew Z1 (Ei rfl ?_))))
    exact Eu (E.ret (w9 (j5 (j5 (w9 (j5 (Fb rfl rfl (by grind [x3, N6, d1, d2, t1, t2]))))))))
  ·refine Eu (j8 rfl (E.exit (l2 (l2 (w8 (Et (Ew Z15 (Em rfl (Est rfl (i8 H5 rfl rfl rfl dc (fun w Lp hA => hA.ro hs)) (fun _ _ => (u5 (fun q41 => ?_) (fun q41 => ?_))))))))))))
   ·refine Em rfl (Ey rfl ((f9 fo_Query_1 ty_Atoms dc rfl).yd) (Ey rfl (f6 ty_Atoms rfl (Hz (mS m0) 1 rfl) rfl) (Ey rfl ((Y.len us_Atoms rfl).yd) (Est rfl (i8 K0 rfl rfl rfl dc tv) (fun _ _ => (u5 (fun q46 => ?_) (fun q46 => ?_)))))))
    ·refine Ey rfl ((v6 rfl rfl).yd) (Em rfl (Ey rfl ((f9 fo_Query_0 ty_Is dc rfl).yd) (Ey rfl (f6 ty_Is rfl (Hz (mS m0) 0 rfl) rfl) (Ey rfl ((Y.len us_Is rfl).yd) (Ey rfl ((Y.leq rfl rfl).yd) (Ey rfl ((v6 rfl rfl).yd) (Ei rfl ?_)))))))
     exact Eu (E.ret (Fb rfl rfl (by grind [x3, N6, d1, d2, t1, t2])))
    ·refine Ey rfl ((v6 rfl rfl).yd) (Em rfl (Es rfl (Es rfl (Es rfl (Es rfl (Ey rfl ((w7 rfl rfl).yd) (Ei rfl ?_)))))))
     exact Eu (E.ret (Fb rfl rfl (by grind [x3, N6, d1, d2, t1, t2])))
   ·refine Em rfl (Es rfl (Es rfl (Es rfl (Es rfl (Ey rfl ((w7 rfl rfl).yd) (Em rfl (Es rfl (Es rfl (Es rfl (Es rfl (Ey rfl ((w7 rfl rfl).yd) (Ei rfl ?_))))))))))))
    exact Eu (E.ret (Fb rfl rfl (by grind [x3, N6, d1, d2, t1, t2])))
end Go.Proofs.YtfnbilpemdgkkaaGreatDoor
