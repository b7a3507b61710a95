import Derived.Test.YtdopeopehgdccaaGreatBs
import Derived.Test.YtdopeopehgdccaaGreatT6
import Derived.Test.YtdopeopehgdccaaGreatBd
import Derived.Test.YtdopeopehgdccaaGreatBf
namespace Go.Proofs.YtdopeopehgdccaaGreat
open Go.RowKit
set_option linter.all false
set_option maxHeartbeats 2000000
attribute [local irreducible] Nop Yd Yp Ent Has Tr FnP FnP2 Src M5 V6 Y1 a0b D2
variable {x t j5 : Int} {d6 : List (Int × List Int)} {i8 l s f5 : List Int} {u7 o6 s5 o0 m_l c_l m_s c_s s6 o3 : Nat} {o7 o1 a_l a_s o4 : Option Addr}
theorem a5U {a_atoms : Option Addr} {m_atoms c_atoms : Nat} {i9 : List (Int × List Int)} {is_g : FuncId} {is_c : List Value} {D_is : Int → Prop} {is : Int → Bool} (hz : E0 (fun x => x.2.length) i9 ≤ 1048576) (hD_is : ∀ a ∈ i9, ∀ x ∈ a.2, D_is x) : Tr Tryz.prog 272 [.slice a_atoms m_atoms c_atoms, .func (.func is_g) #[] is_c.toArray] (fun w L => Ro w L C3 [.slice a_atoms m_atoms c_atoms] i9 ∧ FnP Tryz.prog w L is_g is_c Enc.int a3a D_is is) [] (κ := Option Addr × Nat × Nat) (fun k => True) (fun k => .slice k.1 k.2.1 k.2.2) (fun k => [ow eIs [.slice k.1 k.2.1 k.2.2] (D1 is i9)]) := by
 refine Tr.intro Tryz.func272 rfl (n := 37) rfl (by decide +kernel) bl (fr := [(0, .slice a_atoms m_atoms c_atoms), (1, .func (.func is_g) #[] is_c.toArray)]) rfl fun w L hR => ?_
 obtain ⟨hatoms, his⟩ := hR
 obtain ⟨rfl, latoms⟩ := hatoms.slen
 refine Ew Z1 (Eas rfl rfl (Ev Z2 (Est rfl (N.bsl (pvs := []) (cs := []) us_Is f8 rfl dc dc (o8 rfl rfl) rfl dc) (fun b10 _ => (Ent.drop (Eas rfl rfl (Eu (Eq_ (Ew Z3 (Emv rfl rfl (Ey rfl ((Y.len us_Atoms rfl).yd) (Emv rfl rfl (Eu (E.block (Ent.mkow (A := []) (Own.nil (E := Enc.int) (e := tI) (a := (some ⟨b10, 0, none⟩))) rfl (Ent.cv (congrArg (ow eIs [_]) (show [] = ((i9.take 0).flatMap (fun a : Int × List Int => a.2)).filter is from by first | rfl | (simp; done) | grind [D1, V7, d1, d2, t1, t2])) (E.loop (κ := Nat × Option Addr × Nat × Nat) (fun g => g.1 ≤ i9.length ∧ True) (fun g => [(1, .func (.func is_g) #[] is_c.toArray), (5, .slice g.2.1 g.2.2.1 g.2.2.2), (11, .slice a_atoms i9.length c_atoms), (12, .int .i64 (↑i9.length : Int)), (13, .int .i64 (↑g.1 : Int))]) (fun g => [ow eIs [.slice g.2.1 g.2.2.1 g.2.2.2] (((i9.take g.1).flatMap (fun a : Int × List Int => a.2)).filter is)]) (fun g => i9.length - g.1) (0, (some ⟨b10, 0, none⟩), 0, 0) ⟨Nat.zero_le _, by simp⟩ ⟨rfl, rfl, rfl, rfl, rfl, trivial⟩ (.refl _) (fun g pg => ?_))))))))))))))))))
 obtain ⟨g, aA0_0, mA0_0, cA0_0⟩ := g
 try dsimp only at pg
 try dsimp only
 obtain ⟨pk, pa⟩ := pg
 have jt := a9E (is := is) (g := g) hz
 refine Ent.lenow m0 fun eaA0_0 laA0_0 => ?_
 subst eaA0_0
 refine Ew Z1 (Ey rfl ((Y.lss rfl rfl).yd) (Ent.d (fun q14 => ?_) (fun q14 => ?_)))
 ·obtain ⟨eb15, eo15, ec15, ea15, er15, el15, eh15⟩ := hatoms.elem g om
  obtain ⟨xa15_0, xc15_0, rfl, ei15_0, xh15_0⟩ := Ro.pAtom er15
  have := xh15_0.slen.2
  refine Eu (Eq_ (E.ct rfl (E.skipc (Et (Eq_ (E.block (Ew Z4 (Ey rfl ((Y.ix us_Atoms ty_Atom rfl ea15 rfl g rfl om).yd) (Ey rfl (Y.ldS (cs := [_, _]) ty_Atom rfl (eh15 _) rfl) (Est rfl (N.alloc ty_Atom dc) (fun b7 _ => (Est rfl (N.sto (vs := [_, _]) (cs' := [_, _]) ty_Atom rfl rfl rfl rfl rfl bl rfl) (fun _ _ => (Ev Z4 (Ey rfl ((Y.fld fo_Atom_1 ty_Is dc rfl).yd) (Ey rfl (Y.ld1 ty_Is rfl ((Has.pt m0).sub (cs' := [_]) 1 rfl) rfl) (Ey rfl ((Y.len us_Is rfl).yd) (Emv rfl rfl (Eu (E.block (Ent.p1 (Ent.cv (congrArg (ow eIs [_]) (show ((i9.take g).flatMap (fun a : Int × List Int => a.2)).filter is = ((i9.take g).flatMap (fun a : Int × List Int => a.2)).filter is ++ (i9[g].2.take 0).filter is from by first | rfl | (simp; done) | grind [D1, V7, d1, d2, t1, t2])) (E.loop (κ := Nat × Option Addr × Nat × Nat) (fun h => h.1 ≤ i9[g].2.length ∧ True) (fun h => [(1, .func (.func is_g) #[] is_c.toArray), (5, .slice h.2.1 h.2.2.1 h.2.2.2), (11, .slice a_atoms i9.length c_atoms), (12, .int .i64 (↑i9.length : Int)), (13, .int .i64 (g : Int)), (18, .slice xa15_0 i9[g].2.length xc15_0), (19, .int .i64 (↑i9[g].2.length : Int)), (20, .int .i64 (↑h.1 : Int))]) (fun h => [ow eIs [.slice h.2.1 h.2.2.1 h.2.2.2] (((i9.take g).flatMap (fun a : Int × List Int => a.2)).filter is ++ (i9[g].2.take h.1).filter is), pt b7 128 [.int .i64 i9[g].1, .slice xa15_0 i9[g].2.length xc15_0]]) (fun h => i9[g].2.length - h.1) (0, aA0_0, (((i9.take g).flatMap (fun a : Int × List Int => a.2)).filter is).length, cA0_0) ⟨Nat.zero_le _, by simp⟩ ⟨rfl, rfl, rfl, rfl, rfl, rfl, rfl, rfl, trivial⟩ (.refl _) (fun h ph => ?_))))))))))))))))))))))))
  obtain ⟨h, aA1_0, mA1_0, cA1_0⟩ := h
  try dsimp only at ph
  try dsimp only
  obtain ⟨pk, pa⟩ := ph
  have ju := a4E (is := is) (g := g) (h := h) hz om
  refine Ent.lenow m0 fun eaA1_0 laA1_0 => ?_
  subst eaA1_0
  refine Ew Z1 (Ey rfl ((Y.lss rfl rfl).yd) (Ent.d (fun q21 => ?_) (fun q21 => ?_)))
  ·obtain ⟨eb22, eo22, ea22, ei22, eh22⟩ := xh15_0.elemI h om
   refine Eu (Eq_ (E.ct rfl (E.skipc (Et (Eq_ (E.block (Ew Z3 (Ey rfl ((Y.ix us_Is f8 rfl ea22 rfl h rfl om).yd) (Ey rfl (Y.ld1 f8 rfl (eh22 _) rfl) (Eas rfl rfl (Ev Z3 (Emv rfl rfl (Emv rfl rfl (Est rfl (N.fn (cs := [_]) his rfl rfl rfl dc (fun w Lp hA => Ro.mkint ei22) (hD_is i9[g] (List.getElem_mem om) _ (List.getElem_mem om))) (fun _ _ => (Ent.b (fun q26 => ?_) (fun q26 => ?_)))))))))))))))))
   ·refine Eu (E.ct rfl (Ez Z5 (Emv rfl rfl (Emv rfl rfl (Est rfl (N.bsl (pvs := [_]) (cs := [_]) us_Is f8 rfl dc dc (o8 rfl rfl) rfl dc) (fun b29 _ => (Ent.p1 (Est rfl (N.push (E := Enc.int) (ex := i9[g].2[h]) us_Is f8 rfl rfl rfl (Own.int ei22) rfl bn bn dc) (fun p30 _ => (Eas rfl rfl (En (E.bln (Et (Ez Z2 (Ey rfl ((Y.add rfl rfl om om).yd) (Emv rfl rfl (Eu (Ent.cv (congrArg (ow eIs [_]) (show (((i9.take g).flatMap (fun a : Int × List Int => a.2)).filter is ++ (i9[g].2.take h).filter is) ++ [i9[g].2[h]] = ((i9.take g).flatMap (fun a : Int × List Int => a.2)).filter is ++ (i9[g].2.take (h + 1)).filter is from by grind [D1, V7, d1, d2, t1, t2])) (Ent.p1 (Ent.p1 ?_))))))))))))))))))))
    exact Ea (h + 1, p30.1, ((((i9.take g).flatMap (fun a : Int × List Int => a.2)).filter is ++ (i9[g].2.take h).filter is).length + 1), p30.2) ⟨oz, trivial⟩
   ·refine Eu (E.cf rfl (E.skipc (E.bln (Et (Ez Z2 (Ey rfl ((Y.add rfl rfl om om).yd) (Emv rfl rfl (Eu (Ent.cv (congrArg (ow eIs [_]) (show ((i9.take g).flatMap (fun a : Int × List Int => a.2)).filter is ++ (i9[g].2.take h).filter is = ((i9.take g).flatMap (fun a : Int × List Int => a.2)).filter is ++ (i9[g].2.take (h + 1)).filter is from by grind [D1, V7, d1, d2, t1, t2])) (Ent.p1 (Ent.p1 ?_)))))))))))
    exact Ea (h + 1, aA1_0, (((i9.take g).flatMap (fun a : Int × List Int => a.2)).filter is ++ (i9[g].2.take h).filter is).length, cA1_0) ⟨oz, trivial⟩
  ·refine Eu (Eq_ (E.cf rfl (E.exit (E.the (E.the (E.blh (E.bln (Et (Ez Z2 (Ey rfl ((Y.add rfl rfl om om).yd) (Emv rfl rfl (Eu (Ent.p1 (Ent.drop (Ent.cv (congrArg (ow eIs [_]) (show ((i9.take g).flatMap (fun a : Int × List Int => a.2)).filter is ++ (i9[g].2.take h).filter is = ((i9.take (g + 1)).flatMap (fun a : Int × List Int => a.2)).filter is from by grind [D1, V7, d1, d2, t1, t2])) ?_)))))))))))))))
   exact Ea (g + 1, aA1_0, (((i9.take g).flatMap (fun a : Int × List Int => a.2)).filter is ++ (i9[g].2.take h).filter is).length, cA1_0) ⟨oz, trivial⟩
 ·refine Eu (Eq_ (E.cf rfl (E.exit (E.the (E.the (E.blh (Et (Ew Z2 (Emv rfl rfl (Est rfl (N.call (pre := [_]) (b1d fc) rfl rfl rfl dc rfl (fun w Lp hA => trivial)) (fun _ _ => (Ev Z3 (Emv rfl rfl (Est rfl (N.call (pre := [_]) a8I rfl rfl rfl dc rfl (fun w Lp hA => trivial)) (fun k36 _ => ?_)))))))))))))))
  obtain ⟨a36, m36, c36⟩ := k36
  refine Ent.lenow m0 fun e36 l36 => ?_
  subst e36
  refine Eas rfl rfl (Eu (E.ret (Ent.cv (congrArg (ow eIs [_]) (show _ = D1 is i9 by rw [V7]; grind [D1, d1, d2, t1, t2])) ?_)))
  exact Fg rfl rfl (_, _, _) rfl rfl
theorem a6H (hz : E0 (fun x => x.2.length) d6 ≤ 1048576) : Tr Tryz.prog 204 [.agg #[.slice o7 u7 o6, .slice o1 s5 o0]] (fun w L => Ro w L eIs [.slice o7 u7 o6] i8 ∧ Ro w L C3 [.slice o1 s5 o0] d6) [] (κ := Option Addr × Nat × Nat) (fun k => True) (fun k => .slice k.1 k.2.1 k.2.2) (fun k => [ow eIs [.slice k.1 k.2.1 k.2.2] (D1 (fun t => inR t 10 17) d6)]) := by
 refine Tr.intro Tryz.func204 rfl (n := 6) rfl (by decide +kernel) bl (fr := [(0, .agg #[.slice o7 u7 o6, .slice o1 s5 o0])]) rfl fun w L hR => ?_
 obtain ⟨x8, t8⟩ := hR
 obtain ⟨rfl, P9⟩ := x8.slen
 obtain ⟨rfl, M9⟩ := t8.slen
 refine Ew Z2 (Est rfl (N.box (cs := [_, _]) rfl dc rfl) (fun b1 _ => (Eas rfl rfl (Ev Z4 (Ey rfl ((Y.fld fo_Query_1 ty_Atoms dc rfl).yd) (Ey rfl (Y.ld1 ty_Atoms rfl ((Has.pt m0).sub (cs' := [_]) 1 rfl) rfl) (Est rfl (N.call (a5U (is := (fun t => inR t 10 17)) (D_is := (fun _ => True)) fc (by intros; exact trivial)) rfl rfl rfl dc rfl (fun w Lp hA => ⟨hA.ro t8, FnP.ofI (D := (fun _ => True)) (RR := fun _ _ => True) (fun hd => Tr.wk Y7 (fun _ _ _ => trivial)) (fun w' hk => trivial)⟩)) (fun k5 _ => ?_))))))))
 obtain ⟨a5, m5, c5⟩ := k5
 refine Ent.lenow m0 fun e5 l5 => ?_
 subst e5
 refine Eas rfl rfl ?_
 exact Eu (E.ret (Fg rfl rfl (_, _, _) rfl rfl))
theorem a0D : Tr Tryz.prog 168 [.slice a_l m_l c_l, .int .i64 x] (fun w L => Ro w L eIs [.slice a_l m_l c_l] l) [] (κ := Unit) (fun k => True) (fun k => .bool (F8 l x)) (fun k => []) := by
 refine Tr.intro Tryz.func168 rfl (n := 18) rfl (by decide +kernel) bl (fr := [(0, .slice a_l m_l c_l), (1, .int .i64 x)]) rfl fun w L hR => ?_
 have hl := hR
 obtain ⟨rfl, ll⟩ := hl.slen
 refine Ew Z1 (Eas rfl rfl (Eu (Eq_ (Ew Z1 (Eas rfl rfl (Eu (E.block (E.loop (κ := Nat) (fun g => g ≤ l.length ∧ F8 l x = F8 (l.drop g) x) (fun g => [(0, .slice a_l l.length c_l), (1, .int .i64 x), (5, .int .i64 (g : Int))]) (fun g => []) (fun g => l.length - g) 0 ⟨Nat.zero_le _, by simp⟩ ⟨rfl, rfl, rfl, trivial⟩ (.refl _) (fun g pg => ?_)))))))))
 obtain ⟨pk, pa⟩ := pg
 refine Eq_ (Ew Z4 (Emv rfl rfl (Emv rfl rfl (Ey rfl ((Y.len us_Is rfl).yd) (Ey rfl ((Y.lss rfl rfl).yd) (Ent.d (fun q9 => ?_) (fun q9 => ?_)))))))
 ·refine Eu (E.ct rfl (E.skipc (Et (Eq_ (E.block (Ew Z6 (Emv rfl rfl (Emv rfl rfl ?_))))))))
  obtain ⟨eb14, eo14, ea14, ei14, eh14⟩ := hl.elemI g om
  refine Ey rfl ((Y.ix us_Is f8 rfl ea14 rfl g rfl om).yd) (Ey rfl (Y.ld1 f8 rfl (eh14 _) rfl) (Emv rfl rfl (Ey rfl ((Y.eql rfl rfl).yd) (Ent.d (fun q17 => ?_) (fun q17 => ?_)))))
  ·refine Eu (E.ct rfl (Ew Z1 (Eas rfl rfl ?_)))
   exact Eu (E.ret (E.blr (E.thr (E.thr (E.blr (E.thr (Fb rfl rfl (by grind [F8, d1, d2, t1, t2]))))))))
  ·refine Eu (E.cf rfl (E.skipc (E.bln (Et (Ez Z3 (Emv rfl rfl (Ey rfl ((Y.add rfl rfl om om).yd) (Eas rfl rfl ?_))))))))
   exact Eu (E.again br (g + 1) rs (.refl _) ⟨by omega, by grind [F8, d1, d2, t1, t2]⟩ om)
 ·refine Eu (E.cf rfl (E.exit (E.the (E.the (E.blh (Et (Ew Z1 (Eas rfl rfl ?_))))))))
  exact Eu (E.ret (Fb rfl rfl (by grind [F8, d1, d2, t1, t2])))
theorem a2M (hz : l.length ≤ 1073741824) : Tr Tryz.prog 244 [.slice a_l m_l c_l, .int .i64 x] (fun w L => I64 x) [ow eIs [.slice a_l m_l c_l] l] (κ := Option Addr × Nat × Nat) (fun k => True) (fun k => .slice k.1 k.2.1 k.2.2) (fun k => [ow eIs [.slice k.1 k.2.1 k.2.2] (D9 l x)]) := by
 refine Tr.intro Tryz.func244 rfl (n := 47) rfl (by decide +kernel) bl (fr := [(0, .slice a_l m_l c_l), (1, .int .i64 x)]) rfl fun w L hR => ?_
 have i6x := hR
 refine Ent.lenow m0 fun el ll => ?_
 subst el
 refine Ew Z1 (Eas rfl rfl (Eu (Eq_ (Ew Z3 (Emv rfl rfl (Emv rfl rfl (Est rfl (N.call0 a0D rfl rfl rfl dc (fun w Lp hA => hA.ow m0)) (fun _ _ => (Ent.b (fun q10 => ?_) (fun q10 => ?_))))))))))
 ·refine Eu (E.ct rfl (Ew Z2 (Emv rfl rfl (Eas rfl rfl (Eu (E.ret (E.thr (Ent.cv (congrArg (ow eIs [_]) (show _ = D9 l x by grind [D9, M4, K6, P5, d1, d2, t1, t2])) ?_))))))))
  exact Fg rfl rfl (_, _, _) rfl rfl
 ·refine Ent.rebase (A := [_]) rfl fun wb1 Lb1 hB1 hA1 => ?_
  have rb1 : Ro wb1 Lb1 eIs [.slice a_l l.length c_l] l := hA1.ow m0
  refine Eu (E.cf rfl (E.skipc (Et (Ew Z2 (Est rfl (N.bsl (pvs := []) (cs := []) us_Is f8 rfl dc dc (o8 rfl rfl) rfl dc) (fun b12 _ => (Ent.drop (Eas rfl rfl (Ev Z1 (Eas rfl rfl (Eu (Eq_ (Ew Z1 (Eas rfl rfl (Eu (E.block (Ent.mkow (A := []) (Own.nil (E := Enc.int) (e := tI) (a := (some ⟨b12, 0, none⟩))) rfl (Ent.cv (congrArg (ow eIs [_]) (show [] = F2 (fun y => decide (x < y)) x (l.take 0) from by first | rfl | (simp; done) | grind [D9, M4, K6, P5, d1, d2, t1, t2])) (E.loop (κ := Nat × Option Addr × Nat × Nat) (fun g => g.1 ≤ l.length ∧ True) (fun g => [(0, .slice a_l l.length c_l), (1, .int .i64 x), (5, .slice g.2.1 g.2.2.1 g.2.2.2), (6, .bool ((l.take g.1).any (fun y => decide (x < y)))), (7, .int .i64 (↑g.1 : Int))]) (fun g => [ow eIs [.slice g.2.1 g.2.2.1 g.2.2.2] (F2 (fun y => decide (x < y)) x (l.take g.1))]) (fun g => l.length - g.1) (0, (some ⟨b12, 0, none⟩), 0, 0) ⟨Nat.zero_le _, by simp⟩ ⟨rfl, rfl, rfl, frB (by first | rfl | (simp; done) | grind [D9, M4, K6, P5, d1, d2, t1, t2]), rfl, trivial⟩ (.refl _) (fun g pg => ?_))))))))))))))))))))
  obtain ⟨g, aA0_0, mA0_0, cA0_0⟩ := g
  try dsimp only at pg
  try dsimp only
  obtain ⟨pk, pa⟩ := pg
  have jp := List.length_take_le g l
  have ji := a2s (p := (fun y => decide (x < y))) (f := x) (l := l.take g)
  refine Ent.lenow m0 fun eaA0_0 laA0_0 => ?_
  subst eaA0_0
  refine Eq_ (Ew Z4 (Emv rfl rfl (Emv rfl rfl (Ey rfl ((Y.len us_Is rfl).yd) (Ey rfl ((Y.lss rfl rfl).yd) (Ent.d (fun q16 => ?_) (fun q16 => ?_)))))))
  ·refine Eu (E.ct rfl (E.skipc (Et (Eq_ (E.block (Eq_ (Ew Z10 (Emv rfl rfl (Ent.b (fun q19 => ?_) (fun q19 => ?_))))))))))
   ·refine Ey rfl ((Y.not (b := true) rfl).yd) (Emv rfl rfl (Es rfl (Es rfl (Es rfl (Es rfl (Es rfl (Es rfl (Ey rfl ((Y.pkf rfl rfl).yd) (Eu (E.cf rfl (E.skipc (Et (Ez Z8 (Emv rfl rfl (Emv rfl rfl (Emv rfl rfl ?_))))))))))))))))
    obtain ⟨eb36, eo36, ea36, ei36, eh36⟩ := rb1.elemI g om
    refine Ey rfl ((Y.ix us_Is f8 rfl ea36 rfl g rfl om).yd) (Ey rfl (Y.ld1 f8 rfl (eh36 _) rfl) (Est rfl (N.bsl (pvs := [_]) (cs := [_]) us_Is f8 rfl dc dc (o8 rfl rfl) rfl dc) (fun b38 _ => (Ent.p1 (Est rfl (N.push (E := Enc.int) (ex := l[g]) us_Is f8 rfl rfl rfl (Own.int ei36) rfl bn bn dc) (fun p39 _ => (Eas rfl rfl (En (E.bln (Et (Ez Z3 (Emv rfl rfl (Ey rfl ((Y.add rfl rfl om om).yd) (Eas rfl rfl (Eu (Ent.cv (congrArg (ow eIs [_]) (show (F2 (fun y => decide (x < y)) x (l.take g)) ++ [l[g]] = F2 (fun y => decide (x < y)) x (l.take (g + 1)) from by grind [D9, M4, K6, P5, d1, d2, t1, t2])) ?_))))))))))))))))
    exact E.again br (g + 1, p39.1, ((F2 (fun y => decide (x < y)) x (l.take g)).length + 1), p39.2) ⟨rfl, rfl, rfl, frB (by grind [D9, M4, K6, P5, d1, d2, t1, t2]), rfl, trivial⟩ (.refl _) ⟨oz, trivial⟩ oz
   ·refine Ey rfl ((Y.not (b := false) rfl).yd) (Emv rfl rfl (Emv rfl rfl (Emv rfl rfl ?_)))
    obtain ⟨eb24, eo24, ea24, ei24, eh24⟩ := rb1.elemI g om
    refine Ey rfl ((Y.ix us_Is f8 rfl ea24 rfl g rfl om).yd) (Ey rfl (Y.ld1 f8 rfl (eh24 _) rfl) (Emv rfl rfl (Ey rfl ((Y.gtr rfl rfl).yd) (Ent.d (fun q27 => ?_) (fun q27 => ?_)))))
    ·refine Ey rfl ((Y.pkt rfl rfl).yd) (Eu (E.ct rfl (Ew Z5 (Emv rfl rfl (Emv rfl rfl (Est rfl (N.bsl (pvs := [_]) (cs := [_]) us_Is f8 rfl dc dc (o8 rfl rfl) rfl dc) (fun b31 _ => (Ent.p1 (Est rfl (N.push (E := Enc.int) (ex := x) us_Is f8 rfl rfl rfl (Own.int i6x) rfl bn bn dc) (fun p32 _ => (Eas rfl rfl (Eu (Ez Z1 (Eas rfl rfl (Eu (Ez Z8 (Emv rfl rfl (Emv rfl rfl (Emv rfl rfl (Ey rfl ((Y.ix us_Is f8 rfl ea24 rfl g rfl om).yd) (Ey rfl (Y.ld1 f8 rfl (eh24 _) rfl) (Est rfl (N.bsl (pvs := [_]) (cs := [_]) us_Is f8 rfl dc dc (o8 rfl rfl) rfl dc) (fun b38 _ => (Ent.p1 (Est rfl (N.push (E := Enc.int) (ex := l[g]) us_Is f8 rfl rfl rfl (Own.int ei24) rfl bn bn dc) (fun p39 _ => (Eas rfl rfl (En (E.bln (Et (Ez Z3 (Emv rfl rfl (Ey rfl ((Y.add rfl rfl om om).yd) (Eas rfl rfl (Eu (Ent.cv (congrArg (ow eIs [_]) (show ((F2 (fun y => decide (x < y)) x (l.take g)) ++ [x]) ++ [l[g]] = F2 (fun y => decide (x < y)) x (l.take (g + 1)) from by grind [D9, M4, K6, P5, d1, d2, t1, t2])) ?_))))))))))))))))))))))))))))))))))))
     exact E.again br (g + 1, p39.1, (((F2 (fun y => decide (x < y)) x (l.take g)).length + 1) + 1), p39.2) ⟨rfl, rfl, rfl, frB (by grind [D9, M4, K6, P5, d1, d2, t1, t2]), rfl, trivial⟩ (.refl _) ⟨oz, trivial⟩ oz
    ·refine Ey rfl ((Y.pkt rfl rfl).yd) (Eu (E.cf rfl (E.skipc (Et (Ez Z8 (Emv rfl rfl (Emv rfl rfl (Emv rfl rfl (Ey rfl ((Y.ix us_Is f8 rfl ea24 rfl g rfl om).yd) (Ey rfl (Y.ld1 f8 rfl (eh24 _) rfl) (Est rfl (N.bsl (pvs := [_]) (cs := [_]) us_Is f8 rfl dc dc (o8 rfl rfl) rfl dc) (fun b38 _ => (Ent.p1 (Est rfl (N.push (E := Enc.int) (ex := l[g]) us_Is f8 rfl rfl rfl (Own.int ei24) rfl bn bn dc) (fun p39 _ => (Eas rfl rfl (En (E.bln (Et (Ez Z3 (Emv rfl rfl (Ey rfl ((Y.add rfl rfl om om).yd) (Eas rfl rfl (Eu (Ent.cv (congrArg (ow eIs [_]) (show (F2 (fun y => decide (x < y)) x (l.take g)) ++ [l[g]] = F2 (fun y => decide (x < y)) x (l.take (g + 1)) from by grind [D9, M4, K6, P5, d1, d2, t1, t2])) ?_)))))))))))))))))))))))))
     exact E.again br (g + 1, p39.1, ((F2 (fun y => decide (x < y)) x (l.take g)).length + 1), p39.2) ⟨rfl, rfl, rfl, frB (by grind [D9, M4, K6, P5, d1, d2, t1, t2]), rfl, trivial⟩ (.refl _) ⟨oz, trivial⟩ oz
  ·refine Eu (E.cf rfl (E.exit (E.the (E.the (E.blh (Et (Eq_ (Ew Z2 (Emv rfl rfl (Ent.b (fun q40 => ?_) (fun q40 => ?_)))))))))))
   ·refine Ey rfl ((Y.not (b := true) rfl).yd) (Eu (E.cf rfl (E.skipc (Et (Ew Z2 (Emv rfl rfl (Eas rfl rfl (Eu (E.ret (Ent.cv (congrArg (ow eIs [_]) (show _ = D9 l x by grind [D9, M4, K6, P5, d1, d2, t1, t2])) ?_))))))))))
    exact F.r1 hB1 rfl rfl (_, _, _) trivial rfl (J := _) (.refl _) (.inl rfl)
   ·refine Ey rfl ((Y.not (b := false) rfl).yd) (Eu (E.ct rfl (Ez Z5 (Emv rfl rfl (Emv rfl rfl (Est rfl (N.bsl (pvs := [_]) (cs := [_]) us_Is f8 rfl dc dc (o8 rfl rfl) rfl dc) (fun b44 _ => (Ent.p1 (Est rfl (N.push (E := Enc.int) (ex := x) us_Is f8 rfl rfl rfl (Own.int i6x) rfl bn bn dc) (fun p45 _ => (Eas rfl rfl (Ev Z2 (Emv rfl rfl (Eas rfl rfl (Eu (E.ret (Ent.cv (congrArg (ow eIs [_]) (show _ = D9 l x by grind [D9, M4, K6, P5, d1, d2, t1, t2])) ?_)))))))))))))))))
    exact F.r1 hB1 rfl rfl (_, _, _) trivial rfl (J := _) (.refl _) (.inl rfl)
theorem a6F (hz : E0 (fun x => x.2.length) d6 ≤ 1048576) : Tr Tryz.prog 200 [.agg #[.slice o7 u7 o6, .slice o1 s5 o0]] (fun w L => Ro w L eIs [.slice o7 u7 o6] i8 ∧ Ro w L C3 [.slice o1 s5 o0] d6) [] (κ := Option Addr × Nat × Nat) (fun k => True) (fun k => .slice k.1 k.2.1 k.2.2) (fun k => [ow eIs [.slice k.1 k.2.1 k.2.2] (D1 (fun t => inR t 10 17) d6)]) := by
 refine Tr.intro Tryz.func200 rfl (n := 47) rfl (by decide +kernel) bl (fr := [(0, .agg #[.slice o7 u7 o6, .slice o1 s5 o0])]) rfl fun w L hR => ?_
 obtain ⟨x8, t8⟩ := hR
 obtain ⟨rfl, P9⟩ := x8.slen
 obtain ⟨rfl, M9⟩ := t8.slen
 have jv := t8.i64A
 refine Ew Z2 (Est rfl (N.box (cs := [_, _]) rfl dc rfl) (fun b1 _ => (Eas rfl rfl (Ev Z2 (Est rfl (N.bsl (pvs := []) (cs := []) us_Is f8 rfl dc dc (o8 rfl rfl) rfl dc) (fun b6 _ => (Ent.drop (Eas rfl rfl (Eu (Eq_ (Ew Z1 (Eas rfl rfl (Eu (E.block (Ent.mkow (A := []) (Own.nil (E := Enc.int) (e := tI) (a := (some ⟨b6, 0, none⟩))) rfl (Ent.cv (congrArg (ow eIs [_]) (show [] = L8 (((d6.take 0).flatMap (fun a : Int × List Int => a.2)).filter (fun t => inR t 10 17)) from by first | rfl | (simp; done) | grind [D1, a0p, a0v, d1, d2, t1, t2])) (E.loop (κ := Nat × Option Addr × Nat × Nat) (fun g => g.1 ≤ d6.length ∧ True) (fun g => [(1, .pointer (some ⟨b1, 0, none⟩)), (3, .slice g.2.1 g.2.2.1 g.2.2.2), (4, .int .i64 (↑g.1 : Int))]) (fun g => [ow eIs [.slice g.2.1 g.2.2.1 g.2.2.2] (L8 (((d6.take g.1).flatMap (fun a : Int × List Int => a.2)).filter (fun t => inR t 10 17))), pt b1 61 [.slice o7 i8.length o6, .slice o1 d6.length o0]]) (fun g => d6.length - g.1) (0, (some ⟨b6, 0, none⟩), 0, 0) ⟨Nat.zero_le _, by simp⟩ ⟨rfl, rfl, rfl, trivial⟩ (.refl _) (fun g pg => ?_))))))))))))))))))
 obtain ⟨g, aA0_0, mA0_0, cA0_0⟩ := g
 try dsimp only at pg
 try dsimp only
 obtain ⟨pk, pa⟩ := pg
 refine Ent.lenow m0 fun eaA0_0 laA0_0 => ?_
 subst eaA0_0
 refine Eq_ (Ew Z5 (Emv rfl rfl (Ey rfl ((Y.fld fo_Query_1 ty_Atoms dc rfl).yd) (Ey rfl (Y.ld1 ty_Atoms rfl ((Has.pt (mS m0)).sub (cs' := [_]) 1 rfl) rfl) (Ey rfl ((Y.len us_Atoms rfl).yd) (Ey rfl ((Y.lss rfl rfl).yd) (Ent.d (fun q11 => ?_) (fun q11 => ?_))))))))
 ·refine Eu (E.ct rfl (E.skipc (Et (Eq_ (E.block (Ew Z1 (Eas rfl rfl (Eu (E.block (Ent.cv (congrArg (ow eIs [_]) (show L8 (((d6.take g).flatMap (fun a : Int × List Int => a.2)).filter (fun t => inR t 10 17)) = L8 (((d6.take g).flatMap (fun a : Int × List Int => a.2)).filter (fun t => inR t 10 17) ++ (d6[g].2.take 0).filter (fun t => inR t 10 17)) from by first | rfl | (simp; done) | grind [D1, a0p, a0v, d1, d2, t1, t2])) (E.loop (κ := Nat × Option Addr × Nat × Nat) (fun h => h.1 ≤ d6[g].2.length ∧ True) (fun h => [(1, .pointer (some ⟨b1, 0, none⟩)), (3, .slice h.2.1 h.2.2.1 h.2.2.2), (4, .int .i64 (g : Int)), (5, .int .i64 (↑h.1 : Int))]) (fun h => [ow eIs [.slice h.2.1 h.2.2.1 h.2.2.2] (L8 (((d6.take g).flatMap (fun a : Int × List Int => a.2)).filter (fun t => inR t 10 17) ++ (d6[g].2.take h.1).filter (fun t => inR t 10 17))), pt b1 61 [.slice o7 i8.length o6, .slice o1 d6.length o0]]) (fun h => d6[g].2.length - h.1) (0, aA0_0, (L8 (((d6.take g).flatMap (fun a : Int × List Int => a.2)).filter (fun t => inR t 10 17))).length, cA0_0) ⟨Nat.zero_le _, by simp⟩ ⟨rfl, rfl, rfl, rfl, trivial⟩ (.refl _) (fun h ph => ?_))))))))))))
  obtain ⟨h, aA1_0, mA1_0, cA1_0⟩ := h
  try dsimp only at ph
  try dsimp only
  obtain ⟨pk, pa⟩ := ph
  have ju := a4E (is := (fun t => inR t 10 17)) (g := g) (h := h) hz om
  have jw := b0s (l := ((d6.take g).flatMap (fun a : Int × List Int => a.2)).filter (fun t => inR t 10 17) ++ (d6[g].2.take h).filter (fun t => inR t 10 17))
  refine Ent.lenow m0 fun eaA1_0 laA1_0 => ?_
  subst eaA1_0
  refine Eq_ (Ew Z9 (Emv rfl rfl (Ey rfl ((Y.fld fo_Query_1 ty_Atoms dc rfl).yd) (Ey rfl (Y.ld1 ty_Atoms rfl ((Has.pt (mS m0)).sub (cs' := [_]) 1 rfl) rfl) (Emv rfl rfl ?_)))))
  obtain ⟨eb18, eo18, ec18, ea18, er18, el18, eh18⟩ := t8.elem g om
  obtain ⟨xa18_0, xc18_0, rfl, ei18_0, xh18_0⟩ := Ro.pAtom er18
  have := xh18_0.slen.2
  refine Ey rfl ((Y.ix us_Atoms ty_Atom rfl ea18 rfl g rfl om).yd) (Ey rfl ((Y.fld fo_Atom_1 ty_Is dc rfl).yd) (Ey rfl (Y.ld1 ty_Is rfl ((eh18 _).sub (cs' := [_]) 1 rfl) rfl) (Ey rfl ((Y.len us_Is rfl).yd) (Ey rfl ((Y.lss rfl rfl).yd) (Ent.d (fun q22 => ?_) (fun q22 => ?_))))))
  ·refine Eu (E.ct rfl (E.skipc (Et (Eq_ (E.block (Ew Z10 (Ey rfl ((Y.fld fo_Query_1 ty_Atoms dc rfl).yd) (Ey rfl (Y.ld1 ty_Atoms rfl ((Has.pt (mS m0)).sub (cs' := [_]) 1 rfl) rfl) (Emv rfl rfl (Ey rfl ((Y.ix us_Atoms ty_Atom rfl ea18 rfl g rfl om).yd) (Ey rfl ((Y.fld fo_Atom_1 ty_Is dc rfl).yd) (Ey rfl (Y.ld1 ty_Is rfl ((eh18 _).sub (cs' := [_]) 1 rfl) rfl) (Emv rfl rfl ?_)))))))))))))
   obtain ⟨eb32, eo32, ea32, ei32, eh32⟩ := xh18_0.elemI h om
   refine Ey rfl ((Y.ix us_Is f8 rfl ea32 rfl h rfl om).yd) (Ey rfl (Y.ld1 f8 rfl (eh32 _) rfl) (Est rfl (N.call0 W2 rfl rfl rfl dc (fun w Lp hA => trivial)) (fun _ _ => (Ent.b (fun q34 => ?_) (fun q34 => ?_)))))
   ·refine Eu (E.ct rfl (Ez Z12 (Emv rfl rfl (Ey rfl ((Y.fld fo_Query_1 ty_Atoms dc rfl).yd) (Ey rfl (Y.ld1 ty_Atoms rfl ((Has.pt (mS m0)).sub (cs' := [_]) 1 rfl) rfl) (Emv rfl rfl (Ey rfl ((Y.ix us_Atoms ty_Atom rfl ea18 rfl g rfl om).yd) (Ey rfl ((Y.fld fo_Atom_1 ty_Is dc rfl).yd) (Ey rfl (Y.ld1 ty_Is rfl ((eh18 _).sub (cs' := [_]) 1 rfl) rfl) (Emv rfl rfl (Ey rfl ((Y.ix us_Is f8 rfl ea32 rfl h rfl om).yd) (Ey rfl (Y.ld1 f8 rfl (eh32 _) rfl) (Est rfl (N.call (pre := [_]) (a2M fc) rfl rfl rfl dc rfl (fun w Lp hA => ei32)) (fun k45 _ => ?_))))))))))))))
    obtain ⟨a45, m45, c45⟩ := k45
    refine Ent.lenow m0 fun e45 l45 => ?_
    subst e45
    refine Eas rfl rfl (En (E.bln (Et (Ez Z3 (Emv rfl rfl (Ey rfl ((Y.add rfl rfl om om).yd) (Eas rfl rfl (Eu (Ent.cv (congrArg (ow eIs [_]) (show D9 (L8 (((d6.take g).flatMap (fun a : Int × List Int => a.2)).filter (fun t => inR t 10 17) ++ (d6[g].2.take h).filter (fun t => inR t 10 17))) d6[g].2[h] = L8 (((d6.take g).flatMap (fun a : Int × List Int => a.2)).filter (fun t => inR t 10 17) ++ (d6[g].2.take (h + 1)).filter (fun t => inR t 10 17)) from by grind [D1, a0p, a0v, d1, d2, t1, t2])) (Ent.p1 (Ent.p1 ?_)))))))))))
    exact Ea (h + 1, a45, (D9 (L8 (((d6.take g).flatMap (fun a : Int × List Int => a.2)).filter (fun t => inR t 10 17) ++ (d6[g].2.take h).filter (fun t => inR t 10 17))) d6[g].2[h]).length, c45) ⟨oz, trivial⟩
   ·refine Eu (E.cf rfl (E.skipc (E.bln (Et (Ez Z3 (Emv rfl rfl (Ey rfl ((Y.add rfl rfl om om).yd) (Eas rfl rfl (Eu (Ent.cv (congrArg (ow eIs [_]) (show L8 (((d6.take g).flatMap (fun a : Int × List Int => a.2)).filter (fun t => inR t 10 17) ++ (d6[g].2.take h).filter (fun t => inR t 10 17)) = L8 (((d6.take g).flatMap (fun a : Int × List Int => a.2)).filter (fun t => inR t 10 17) ++ (d6[g].2.take (h + 1)).filter (fun t => inR t 10 17)) from by grind [D1, a0p, a0v, d1, d2, t1, t2])) (Ent.p1 (Ent.p1 ?_))))))))))))
    exact Ea (h + 1, aA1_0, (L8 (((d6.take g).flatMap (fun a : Int × List Int => a.2)).filter (fun t => inR t 10 17) ++ (d6[g].2.take h).filter (fun t => inR t 10 17))).length, cA1_0) ⟨oz, trivial⟩
  ·refine Eu (E.cf rfl (E.exit (E.the (E.the (E.blh (E.bln (Et (Ez Z3 (Emv rfl rfl (Ey rfl ((Y.add rfl rfl om om).yd) (Eas rfl rfl (Eu (Ent.cv (congrArg (ow eIs [_]) (show L8 (((d6.take g).flatMap (fun a : Int × List Int => a.2)).filter (fun t => inR t 10 17) ++ (d6[g].2.take h).filter (fun t => inR t 10 17)) = L8 (((d6.take (g + 1)).flatMap (fun a : Int × List Int => a.2)).filter (fun t => inR t 10 17)) from by grind [D1, a0p, a0v, d1, d2, t1, t2])) (Ent.p1 (Ent.p1 ?_)))))))))))))))
   exact Ea (g + 1, aA1_0, (L8 (((d6.take g).flatMap (fun a : Int × List Int => a.2)).filter (fun t => inR t 10 17) ++ (d6[g].2.take h).filter (fun t => inR t 10 17))).length, cA1_0) ⟨oz, trivial⟩
 ·refine Eu (E.cf rfl (E.exit (E.the (E.the (E.blh (Et (Ew Z2 (Emv rfl rfl (Eas rfl rfl (Eu (E.ret (Ent.cv (congrArg (ow eIs [_]) (show _ = D1 (fun t => inR t 10 17) d6 by grind [D1, a0p, a0v, d1, d2, t1, t2])) ?_))))))))))))
  exact Fg rfl rfl (_, _, _) rfl rfl
theorem a6N : Tr Tryz.prog 315 [.int .i64 t] (fun w L => True) [] (κ := Unit) (fun k => True) (fun k => .bool (K5 t)) (fun k => []) := by
 refine Tr.intro Tryz.func315 rfl (n := 9) rfl (by decide +kernel) bl (fr := [(0, .int .i64 t)]) rfl fun w L hR => (Ew Z1 (Eas rfl rfl (Ev Z7 (Emv rfl rfl (Est rfl (N.call0 a1N rfl rfl rfl dc (fun w Lp hA => trivial)) (fun _ _ => (Ent.b (fun q4 => ?_) (fun q4 => ?_))))))))
 ·refine Emv rfl rfl (Es rfl (Es rfl (Ey rfl ((Y.pkt rfl rfl).yd) (Eas rfl rfl ?_))))
  exact Eu (E.ret (Fb rfl rfl (by grind [K5, d1, d2, t1, t2])))
 ·refine Emv rfl rfl (Emv rfl rfl (Est rfl (N.call0 Y7 rfl rfl rfl dc (fun w Lp hA => trivial)) (fun _ _ => (Ey rfl ((Y.pkf rfl rfl).yd) (Eas rfl rfl ?_)))))
  exact Eu (E.ret (Fb rfl rfl (by grind [K5, d1, d2, t1, t2])))
theorem a6L : Tr Tryz.prog 280 [.int .i64 t] (fun w L => True) [] (κ := Unit) (fun k => True) (fun k => .bool (K5 t)) (fun k => []) := by
 refine Tr.intro Tryz.func280 rfl (n := 9) rfl (by decide +kernel) bl (fr := [(0, .int .i64 t)]) rfl fun w L hR => (Ew Z1 (Eas rfl rfl (Ev Z7 (Emv rfl rfl (Est rfl (N.call0 D4 rfl rfl rfl dc (fun w Lp hA => trivial)) (fun _ _ => (Ent.b (fun q4 => ?_) (fun q4 => ?_))))))))
 ·refine Emv rfl rfl (Es rfl (Es rfl (Ey rfl ((Y.pkt rfl rfl).yd) (Eas rfl rfl ?_))))
  exact Eu (E.ret (Fb rfl rfl (by grind [K5, d1, d2, t1, t2])))
 ·refine Emv rfl rfl (Emv rfl rfl (Est rfl (N.call0 W2 rfl rfl rfl dc (fun w Lp hA => trivial)) (fun _ _ => (Ey rfl ((Y.pkf rfl rfl).yd) (Eas rfl rfl ?_)))))
  exact Eu (E.ret (Fb rfl rfl (by grind [K5, d1, d2, t1, t2])))
theorem a3z : Tr Tryz.prog 314 [.int .i64 t] (fun w L => (I64 t) ∧ True) [] (κ := Unit) (fun k => True) (fun k => .bool (!K5 t)) (fun k => []) := by
 refine Tr.intro Tryz.func314 rfl (n := 6) rfl (by decide +kernel) bl (fr := [(0, .int .i64 t)]) rfl fun w L hR => ?_
 obtain ⟨i6t, _⟩ := hR
 refine Ew Z1 (Eas rfl rfl (Ev Z4 (Emv rfl rfl (Est rfl (N.call0 a6N rfl rfl rfl dc (fun w Lp hA => trivial)) (fun _ _ => (Ey rfl ((Y.not rfl).yd) (Eas rfl rfl ?_)))))))
 exact Eu (E.ret (Fb rfl rfl (by grind [d1, d2, t1, t2])))
theorem a4K : Tr Tryz.prog 286 [.slice a_l m_l c_l] (fun w L => Ro w L eIs [.slice a_l m_l c_l] l) [] (κ := Unit) (fun k => True) (fun k => .bool (!l.any fun t => !K5 t)) (fun k => []) := by
 refine Tr.intro Tryz.func286 rfl (n := 6) rfl (by decide +kernel) bl (fr := [(0, .slice a_l m_l c_l)]) rfl fun w L hR => ?_
 have hl := hR
 obtain ⟨rfl, ll⟩ := hl.slen
 refine Ew Z1 (Eas rfl rfl (Ev Z4 (Emv rfl rfl (Est rfl (N.call0 (O4 (f := (fun t => !K5 t)) (D_f := (fun _ => True)) (by intros; exact trivial)) rfl rfl rfl dc (fun w Lp hA => ⟨hA.ro hl, FnP.ofI (D := (fun _ => True)) (fun hd => a3z) (fun w' hk => trivial)⟩)) (fun _ _ => (Ey rfl ((Y.not rfl).yd) (Eas rfl rfl ?_)))))))
 exact Eu (E.ret (Fb rfl rfl (by grind [d1, d2, t1, t2])))
theorem a6P : Tr Tryz.prog 228 [.slice a_s m_s c_s, .agg #[.int .i64 j5, .slice o4 s6 o3]] (fun w L => Ro w L eIs [.slice a_s m_s c_s] s ∧ I64 j5 ∧ Ro w L eIs [.slice o4 s6 o3] f5) [] (κ := Unit) (fun k => True) (fun k => .bool (I8 s (j5, f5))) (fun k => []) := by
 refine Tr.intro Tryz.func228 rfl (n := 25) rfl (by decide +kernel) bl (fr := [(0, .slice a_s m_s c_s), (1, .agg #[.int .i64 j5, .slice o4 s6 o3])]) rfl fun w L hR => ?_
 obtain ⟨hs, E4, v6⟩ := hR
 obtain ⟨rfl, ls⟩ := hs.slen
 obtain ⟨rfl, K3⟩ := v6.slen
 refine Ew Z2 (Est rfl (N.box (cs := [_, _]) rfl dc rfl) (fun b3 _ => (Eas rfl rfl (Eu (Eq_ (D.region (fun j => true) mixed (Dyp 0 rfl (Y.mv rfl) (Dyp 1 rfl (Y.fld fo_Atom_0 f8 dc rfl) (Dy 2 rfl (Y.ld1 f8 rfl ((Has.pt m0).sub (cs' := [_]) 0 rfl) rfl) (D.st 3 rfl rfl kr (fun _ => rfl) (N.call0 a1b rfl rfl rfl dc (fun w Lp hA => hA.ro hs)) (fun _ _ => (Ent.b (fun q8 => ?_) (fun q8 => ?_)))))))))))))
 ·obtain ⟨z1, z2, _, _⟩ := V1 q8
  refine Dyp 4 rfl (Y.mv rfl) (Dyp 5 rfl (Y.fld fo_Atom_1 ty_Is dc rfl) (Dy 6 rfl (Y.ld1 ty_Is rfl ((Has.pt m0).sub (cs' := [_]) 1 rfl) rfl) (Dyp 7 rfl (Y.len us_Is rfl) (Dyp 8 rfl (Y.mv rfl) (Dyp 9 rfl (Y.fld fo_Atom_0 f8 dc rfl) (Dy 10 rfl (Y.ld1 f8 rfl ((Has.pt m0).sub (cs' := [_]) 0 rfl) rfl) ?_))))))
  obtain ⟨eb16, eo16, ea16, ei16, eh16⟩ := hs.elemI j5.toNat om
  refine Dyp 11 rfl (Y.ix us_Is f8 rfl ea16 rfl j5.toNat om om) (Dy 12 rfl (Y.ld1 f8 rfl (eh16 _) rfl) (Dyp 13 rfl (Y.eql rfl rfl) (Ent.d (fun q18 => ?_) (fun q18 => ?_))))
  ·refine Dyp 14 rfl (Y.pkt rfl rfl) (Dyp 15 rfl (Y.mv rfl) (Dyp 16 rfl (Y.fld fo_Atom_1 ty_Is dc rfl) (Dy 17 rfl (Y.ld1 ty_Is rfl ((Has.pt m0).sub (cs' := [_]) 1 rfl) rfl) (D.st 18 rfl rfl kr (fun _ => rfl) (N.call0 a4K rfl rfl rfl dc (fun w Lp hA => hA.ro v6)) (fun _ _ => (Dyp 19 rfl (Y.pkt rfl rfl) (Dyp 20 rfl (Y.as rfl) ?_)))))))
   exact D.done kr (Et (E.ret (Fb rfl rfl (by grind [I8, z7, d1, d2, t1, t2]))))
  ·refine Dyp 14 rfl (Y.pkt rfl rfl) (Dyp 15 rfl (Y.mv rfl) (Dsk 16 rfl (Dsk 17 rfl (Dsk 18 rfl (Dyp 19 rfl (Y.pkf rfl rfl) (Dyp 20 rfl (Y.as rfl) ?_))))))
   exact D.done kr (Et (E.ret (Fb rfl rfl (by grind [I8, z7, d1, d2, t1, t2]))))
 ·refine Dyp 4 rfl (Y.mv rfl) (Dsk 5 rfl (Dsk 6 rfl (Dsk 7 rfl (Dsk 8 rfl (Dsk 9 rfl (Dsk 10 rfl (Dsk 11 rfl (Dsk 12 rfl (Dsk 13 rfl (Dyp 14 rfl (Y.pkf rfl rfl) (Dyp 15 rfl (Y.mv rfl) (Dsk 16 rfl (Dsk 17 rfl (Dsk 18 rfl (Dyp 19 rfl (Y.pkf rfl rfl) (Dyp 20 rfl (Y.as rfl) ?_))))))))))))))))
  exact D.done kr (Et (E.ret (Fb rfl rfl (by grind [I8, z7, d1, d2, t1, t2]))))
theorem a6X : Tr Tryz.prog 219 [.slice a_s m_s c_s, .agg #[.int .i64 j5, .slice o4 s6 o3]] (fun w L => Ro w L eIs [.slice a_s m_s c_s] s ∧ I64 j5 ∧ Ro w L eIs [.slice o4 s6 o3] f5) [] (κ := Unit) (fun k => True) (fun k => .bool (I8 s (j5, f5))) (fun k => []) := by
 refine Tr.intro Tryz.func219 rfl (n := 43) rfl (by decide +kernel) bl (fr := [(0, .slice a_s m_s c_s), (1, .agg #[.int .i64 j5, .slice o4 s6 o3])]) rfl fun w L hR => ?_
 obtain ⟨hs, E4, v6⟩ := hR
 obtain ⟨rfl, ls⟩ := hs.slen
 obtain ⟨rfl, K3⟩ := v6.slen
 refine Ew Z2 (Est rfl (N.box (cs := [_, _]) rfl dc rfl) (fun b3 _ => (Eas rfl rfl (Eu (Eq_ (Eq_ (D.region (fun j => true) mixed (Dyp 0 rfl (Y.mv rfl) (D.st 1 rfl rfl kr (fun _ => rfl) (N.call0 P7 rfl rfl rfl dc (fun w Lp hA => hA.ro hs)) (fun _ _ => (Ent.b (fun q7 => ?_) (fun q7 => ?_))))))))))))
 ·refine Dyp 2 rfl (Y.not (b := true) rfl) (Dyp 3 rfl (Y.mv rfl) (Dyp 4 rfl (Y.fld fo_Atom_0 f8 dc rfl) (Dy 5 rfl (Y.ld1 f8 rfl ((Has.pt m0).sub (cs' := [_]) 0 rfl) rfl) (Dyp 6 rfl (Y.mv rfl) (Dyp 7 rfl (Y.len us_Is rfl) (Dyp 8 rfl (Y.sub rfl rfl om om) (D.st 9 rfl rfl kr (fun _ => rfl) (N.call0 D4 rfl rfl rfl dc (fun w Lp hA => trivial)) (fun _ _ => (Ent.b (fun q15 => ?_) (fun q15 => ?_))))))))))
  ·have y1 : F4 s j5 = true := by rw [F4, q7, q15]; rfl
   obtain ⟨z1, z2, _, _⟩ := V1 y1
   refine Dyp 10 rfl (Y.not (b := true) rfl) (Dyp 11 rfl (Y.pkf rfl rfl) (Dyp 12 rfl (Y.mv rfl) (Dyp 13 rfl (Y.fld fo_Atom_1 ty_Is dc rfl) (Dy 14 rfl (Y.ld1 ty_Is rfl ((Has.pt m0).sub (cs' := [_]) 1 rfl) rfl) (Dyp 15 rfl (Y.len us_Is rfl) (Dyp 16 rfl (Y.mv rfl) (Dyp 17 rfl (Y.fld fo_Atom_0 f8 dc rfl) (Dy 18 rfl (Y.ld1 f8 rfl ((Has.pt m0).sub (cs' := [_]) 0 rfl) rfl) ?_))))))))
   obtain ⟨eb25, eo25, ea25, ei25, eh25⟩ := hs.elemI j5.toNat om
   refine Dyp 19 rfl (Y.ix us_Is f8 rfl ea25 rfl j5.toNat om om) (Dy 20 rfl (Y.ld1 f8 rfl (eh25 _) rfl) (Dyp 21 rfl (Y.neq rfl rfl) (Ent.d (fun q27 => ?_) (fun q27 => ?_))))
   ·refine Dyp 22 rfl (Y.pkf rfl rfl) (D.done kr (Et (E.ct rfl (Ew Z1 (Eas rfl rfl ?_)))))
    exact Eu (E.ret (E.thr (Fb rfl rfl (by grind [I8, F4, z7, d1, d2, t1, t2]))))
   ·refine Dyp 22 rfl (Y.pkf rfl rfl) (D.done kr (Et (E.cf rfl (E.skipc (Et (Eq_ (Ew Z1 (Eas rfl rfl (Eu (E.block (E.loop (κ := Nat) (fun g => g ≤ f5.length ∧ (f5.any fun t => !K5 t) = ((f5.drop g).any fun t => !K5 t)) (fun g => [(3, .pointer (some ⟨b3, 0, none⟩)), (5, .int .i64 (g : Int))]) (fun g => [pt b3 128 [.int .i64 j5, .slice o4 f5.length o3]]) (fun g => f5.length - g) 0 ⟨Nat.zero_le _, by simp⟩ ⟨rfl, rfl, trivial⟩ (.refl _) (fun g pg => ?_))))))))))))
    obtain ⟨pk, pa⟩ := pg
    refine Eq_ (Ew Z5 (Emv rfl rfl (Ey rfl ((Y.fld fo_Atom_1 ty_Is dc rfl).yd) (Ey rfl (Y.ld1 ty_Is rfl ((Has.pt m0).sub (cs' := [_]) 1 rfl) rfl) (Ey rfl ((Y.len us_Is rfl).yd) (Ey rfl ((Y.lss rfl rfl).yd) (Ent.d (fun q33 => ?_) (fun q33 => ?_))))))))
    ·refine Eu (E.ct rfl (E.skipc (Et (Eq_ (E.block (Ew Z7 (Ey rfl ((Y.fld fo_Atom_1 ty_Is dc rfl).yd) (Ey rfl (Y.ld1 ty_Is rfl ((Has.pt m0).sub (cs' := [_]) 1 rfl) rfl) (Emv rfl rfl ?_)))))))))
     obtain ⟨eb39, eo39, ea39, ei39, eh39⟩ := v6.elemI g om
     refine Ey rfl ((Y.ix us_Is f8 rfl ea39 rfl g rfl om).yd) (Ey rfl (Y.ld1 f8 rfl (eh39 _) rfl) (Est rfl (N.call0 a6L rfl rfl rfl dc (fun w Lp hA => trivial)) (fun _ _ => (Ent.b (fun q41 => ?_) (fun q41 => ?_)))))
     ·refine Ey rfl ((Y.not (b := true) rfl).yd) (Eu (E.cf rfl (E.skipc (E.bln (Et (Ez Z3 (Emv rfl rfl (Ey rfl ((Y.add rfl rfl om om).yd) (Eas rfl rfl ?_)))))))))
      exact Eu (E.again br (g + 1) ⟨rfl, rfl, trivial⟩ (.refl _) ⟨by omega, by grind [d1, d2, t1, t2]⟩ om)
     ·refine Ey rfl ((Y.not (b := false) rfl).yd) (Eu (E.ct rfl (Ew Z1 (Eas rfl rfl ?_))))
      exact Eu (E.ret (E.blr (E.thr (E.thr (E.blr (E.thr (Fb rfl rfl (by grind [I8, F4, z7, d1, d2, t1, t2]))))))))
    ·refine Eu (E.cf rfl (E.exit (E.the (E.the (E.blh (Et (Ew Z1 (Eas rfl rfl ?_))))))))
     exact Eu (E.ret (Fb rfl rfl (by grind [I8, F4, z7, d1, d2, t1, t2])))
  ·refine Dyp 10 rfl (Y.not (b := false) rfl) (Dyp 11 rfl (Y.pkf rfl rfl) (Dyp 12 rfl (Y.mv rfl) (Dsk 13 rfl (Dsk 14 rfl (Dsk 15 rfl (Dsk 16 rfl (Dsk 17 rfl (Dsk 18 rfl (Dsk 19 rfl (Dsk 20 rfl (Dsk 21 rfl (Dyp 22 rfl (Y.pkt rfl rfl) (D.done kr (Et (E.ct rfl (Ew Z1 (Eas rfl rfl ?_)))))))))))))))))
   exact Eu (E.ret (E.thr (Fb rfl rfl (by grind [I8, F4, z7, d1, d2, t1, t2]))))
 ·refine Dyp 2 rfl (Y.not (b := false) rfl) (Dyp 3 rfl (Y.mv rfl) (Dsk 4 rfl (Dsk 5 rfl (Dsk 6 rfl (Dsk 7 rfl (Dsk 8 rfl (Dsk 9 rfl (Dsk 10 rfl (Dyp 11 rfl (Y.pkt rfl rfl) (Dyp 12 rfl (Y.mv rfl) (Dsk 13 rfl (Dsk 14 rfl (Dsk 15 rfl (Dsk 16 rfl (Dsk 17 rfl (Dsk 18 rfl (Dsk 19 rfl (Dsk 20 rfl (Dsk 21 rfl (Dyp 22 rfl (Y.pkt rfl rfl) (D.done kr (Et (E.ct rfl (Ew Z1 (Eas rfl rfl ?_)))))))))))))))))))))))))
  exact Eu (E.ret (E.thr (Fb rfl rfl (by grind [I8, F4, z7, d1, d2, t1, t2]))))
theorem Y3 {v : Int} : Tr Tryz.prog 251 [.slice a_s m_s c_s, .int .i64 v] (fun w L => Ro w L eIs [.slice a_s m_s c_s] s) [] (κ := Unit) (fun k => True) (fun k => .bool (F8 s v)) (fun k => []) := by
 refine Tr.intro Tryz.func251 rfl (n := 9) rfl (by decide +kernel) bl (fr := [(0, .slice a_s m_s c_s), (1, .int .i64 v)]) rfl fun w L hR => ?_
 have hs := hR
 obtain ⟨rfl, ls⟩ := hs.slen
 refine Ew Z1 (Eas rfl rfl (Ev Z5 (Emv rfl rfl (Emv rfl rfl (Est rfl (N.call0 a6p rfl rfl rfl dc (fun w Lp hA => hA.ro hs)) (fun _ _ => (Ey rfl ((Y.geq rfl rfl).yd) (Eas rfl rfl ?_))))))))
 exact Eu (E.ret (Fb rfl rfl (by exact U9)))
theorem a3J {b_vars : Nat} {a_vars : Option Addr} {m_vars c_vars : Nat} {vars : List Int} : Tr Tryz.prog 287 [.int .i64 t, .pointer (some ⟨b_vars, 0, none⟩)] (fun w L => (I64 t) ∧ RoPt w L b_vars [.slice a_vars m_vars c_vars] ∧ Ro w L eIs [.slice a_vars m_vars c_vars] vars) [] (κ := Unit) (fun k => True) (fun k => .bool (!F8 vars t)) (fun k => []) := by
 refine Tr.intro Tryz.func287 rfl (n := 8) rfl (by decide +kernel) bl (fr := [(0, .int .i64 t), (1, .pointer (some ⟨b_vars, 0, none⟩))]) rfl fun w L hR => ?_
 obtain ⟨i6t, hb_vars, hvars⟩ := hR
 obtain ⟨rfl, lvars⟩ := hvars.slen
 refine Ew Z1 (Eas rfl rfl (Ev Z5 (Ey rfl (Y.ld1 ty_Is rfl (hb_vars.has) rfl) (Emv rfl rfl (Est rfl (N.call0 Y3 rfl rfl rfl dc (fun w Lp hA => hA.ro hvars)) (fun _ _ => (Ey rfl ((Y.not rfl).yd) (Eas rfl rfl ?_))))))))
 exact Eu (E.ret (Fb rfl rfl (by grind [d1, d2, t1, t2])))
theorem a5l (hz : E0 (fun x => x.2.length) d6 ≤ 1048576) : Tr Tryz.prog 229 [.agg #[.slice o7 u7 o6, .slice o1 s5 o0]] (fun w L => Ro w L eIs [.slice o7 u7 o6] i8 ∧ Ro w L C3 [.slice o1 s5 o0] d6) [] (κ := Unit) (fun k => True) (fun k => .bool (a0j (i8, d6))) (fun k => []) := by
 refine Tr.intro Tryz.func229 rfl (n := 17) rfl (by decide +kernel) bl (fr := [(0, .agg #[.slice o7 u7 o6, .slice o1 s5 o0])]) rfl fun w L hR => ?_
 obtain ⟨x8, t8⟩ := hR
 obtain ⟨rfl, P9⟩ := x8.slen
 obtain ⟨rfl, M9⟩ := t8.slen
 refine Ew Z2 (Est rfl (N.box (cs := [_, _]) rfl dc rfl) (fun b1 _ => (Eas rfl rfl (Ev Z4 (Ey rfl (Y.ldS (cs := [_, _]) ty_Query rfl (Has.pt m0) rfl) (Est rfl (N.call (a6H fc) rfl rfl rfl dc rfl (fun w Lp hA => ⟨hA.ro x8, hA.ro t8⟩)) (fun k5 _ => ?_)))))))
 obtain ⟨a5, m5, c5⟩ := k5
 refine Ent.lenow m0 fun e5 l5 => ?_
 subst e5
 refine Est rfl (N.alloc ty_Is dc) (fun b3 _ => (Est rfl (N.sto (vs := [_]) (cs' := [_]) ty_Is rfl rfl rfl rfl rfl bl rfl) (fun _ _ => (Ev Z12 (Ey rfl ((Y.fld fo_Query_0 ty_Is dc rfl).yd) (Ey rfl (Y.ld1 ty_Is rfl ((Has.pt (mS (mS m0))).sub (cs' := [_]) 0 rfl) rfl) (Ey rfl ((Y.len us_Is rfl).yd) (Ey rfl ((Y.leq rfl rfl).yd) (Ent.d (fun q9 => ?_) (fun q9 => ?_))))))))))
 ·refine Emv rfl rfl (Ey rfl ((Y.fld fo_Query_0 ty_Is dc rfl).yd) (Ey rfl (Y.ld1 ty_Is rfl ((Has.pt (mS (mS m0))).sub (cs' := [_]) 0 rfl) rfl) (Ey rfl ((Y.fn (vs := [_]) rfl).yd) (Est rfl (N.call0 (O4 (f := (fun t => !F8 (D1 (fun t => inR t 10 17) d6) t)) (D_f := (fun _ => True)) (by intros; exact trivial)) rfl rfl rfl dc (fun w Lp hA => ⟨hA.ro x8, FnP.ofI (D := (fun _ => True)) (fun hd => a3J) (fun w' hk => ⟨(hA.pt m0).keep hk, (hA.ow (mS m0)).keep hk⟩)⟩)) (fun _ _ => (Ey rfl ((Y.not rfl).yd) (Ey rfl ((Y.pkt rfl rfl).yd) (Eas rfl rfl ?_))))))))
  exact Eu (E.ret (Fb rfl rfl (by grind [a0j, d1, d2, t1, t2])))
 ·refine Emv rfl rfl (Es rfl (Es rfl (Es rfl (Es rfl (Es rfl (Ey rfl ((Y.pkf rfl rfl).yd) (Eas rfl rfl ?_)))))))
  exact Eu (E.ret (Fb rfl rfl (by grind [a0j, d1, d2, t1, t2])))
theorem a3U {b_s : Nat} : Tr Tryz.prog 227 [.agg #[.int .i64 j5, .slice o4 s6 o3], .pointer (some ⟨b_s, 0, none⟩)] (fun w L => (I64 j5 ∧ Ro w L eIs [.slice o4 s6 o3] f5) ∧ RoPt w L b_s [.slice a_s m_s c_s] ∧ Ro w L eIs [.slice a_s m_s c_s] s) [] (κ := Unit) (fun k => True) (fun k => .bool (!I8 s (j5, f5))) (fun k => []) := by
 refine Tr.intro Tryz.func227 rfl (n := 8) rfl (by decide +kernel) bl (fr := [(0, .agg #[.int .i64 j5, .slice o4 s6 o3]), (1, .pointer (some ⟨b_s, 0, none⟩))]) rfl fun w L hR => ?_
 obtain ⟨⟨E4, v6⟩, hb_s, hs⟩ := hR
 obtain ⟨rfl, K3⟩ := v6.slen
 obtain ⟨rfl, ls⟩ := hs.slen
 refine Ew Z2 (Est rfl (N.box (cs := [_, _]) rfl dc rfl) (fun b2 _ => (Eas rfl rfl (Ev Z5 (Ey rfl (Y.ld1 ty_Is rfl (hb_s.has) rfl) (Ey rfl (Y.ldS (cs := [_, _]) ty_Atom rfl (Has.pt m0) rfl) (Est rfl (N.call0 a6P rfl rfl rfl dc (fun w Lp hA => ⟨hA.ro hs, E4, hA.ro v6⟩)) (fun _ _ => (Ey rfl ((Y.not rfl).yd) (Eas rfl rfl ?_))))))))))
 exact Eu (E.ret (Fb rfl rfl (by grind [d1, d2, t1, t2])))
theorem a5g (hz : E0 (fun x => x.2.length) d6 ≤ 1048576) : Tr Tryz.prog 154 [.slice a_s m_s c_s, .agg #[.slice o7 u7 o6, .slice o1 s5 o0]] (fun w L => Ro w L eIs [.slice a_s m_s c_s] s ∧ Ro w L eIs [.slice o7 u7 o6] i8 ∧ Ro w L C3 [.slice o1 s5 o0] d6) [] (κ := Unit) (fun k => True) (fun k => .bool (E2 s (i8, d6))) (fun k => []) := by
 refine Tr.intro Tryz.func154 rfl (n := 24) rfl (by decide +kernel) bl (fr := [(0, .slice a_s m_s c_s), (1, .agg #[.slice o7 u7 o6, .slice o1 s5 o0])]) rfl fun w L hR => ?_
 obtain ⟨hs, x8, t8⟩ := hR
 obtain ⟨rfl, ls⟩ := hs.slen
 obtain ⟨rfl, P9⟩ := x8.slen
 obtain ⟨rfl, M9⟩ := t8.slen
 refine Ew Z3 (Est rfl (N.box (cs := [_]) rfl dc rfl) (fun b2 _ => (Est rfl (N.box (cs := [_, _]) rfl dc rfl) (fun b3 _ => (Eas rfl rfl (Ev Z20 (Ey rfl (Y.ld1 ty_Is rfl (Has.pt (mS m0)) rfl) (Est rfl (N.call0 Y4 rfl rfl rfl dc (fun w Lp hA => hA.ro hs)) (fun _ _ => (Ent.b (fun q6 => ?_) (fun q6 => ?_)))))))))))
 ·refine Emv rfl rfl (Ey rfl ((Y.fld fo_Query_1 ty_Atoms dc rfl).yd) (Ey rfl (Y.ld1 ty_Atoms rfl ((Has.pt m0).sub (cs' := [_]) 1 rfl) rfl) (Ey rfl ((Y.len us_Atoms rfl).yd) (Est rfl (N.call0 E6 rfl rfl rfl dc (fun w Lp hA => trivial)) (fun _ _ => (Ent.b (fun q11 => ?_) (fun q11 => ?_)))))))
  ·refine Ey rfl ((Y.pkt rfl rfl).yd) (Emv rfl rfl (Ey rfl ((Y.fld fo_Query_1 ty_Atoms dc rfl).yd) (Ey rfl (Y.ld1 ty_Atoms rfl ((Has.pt m0).sub (cs' := [_]) 1 rfl) rfl) (Ey rfl ((Y.fn (vs := [_]) rfl).yd) (Est rfl (N.call0 (a2J (f := (fun z => !I8 s z)) (D_f := (fun _ => True)) (by intros; exact trivial)) rfl rfl rfl dc (fun w Lp hA => ⟨hA.ro t8, FnP.ofAtom (D := (fun _ => True)) (fun hd => a3U) (fun w' hk => ⟨(hA.pt (mS m0)).keep hk, (hA.ro hs).keep hk⟩)⟩)) (fun _ _ => (Ent.b (fun q17 => ?_) (fun q17 => ?_))))))))
   ·refine Ey rfl ((Y.not (b := true) rfl).yd) (Ey rfl ((Y.pkt rfl rfl).yd) (Emv rfl rfl (Es rfl (Es rfl (Ey rfl ((Y.pkf rfl rfl).yd) (Eas rfl rfl ?_))))))
    exact Eu (E.ret (Fb rfl rfl (by grind [E2, d1, d2, t1, t2])))
   ·refine Ey rfl ((Y.not (b := false) rfl).yd) (Ey rfl ((Y.pkt rfl rfl).yd) (Emv rfl rfl (Ey rfl (Y.ldS (cs := [_, _]) ty_Query rfl (Has.pt m0) rfl) (Est rfl (N.call0 (a5l fc) rfl rfl rfl dc (fun w Lp hA => ⟨hA.ro x8, hA.ro t8⟩)) (fun _ _ => (Ey rfl ((Y.pkt rfl rfl).yd) (Eas rfl rfl ?_)))))))
    exact Eu (E.ret (Fb rfl rfl (by grind [E2, d1, d2, t1, t2])))
  ·refine Ey rfl ((Y.pkt rfl rfl).yd) (Emv rfl rfl (Es rfl (Es rfl (Es rfl (Es rfl (Es rfl (Ey rfl ((Y.pkf rfl rfl).yd) (Emv rfl rfl (Es rfl (Es rfl (Ey rfl ((Y.pkf rfl rfl).yd) (Eas rfl rfl ?_))))))))))))
   exact Eu (E.ret (Fb rfl rfl (by grind [E2, d1, d2, t1, t2])))
 ·refine Emv rfl rfl (Es rfl (Es rfl (Es rfl (Es rfl (Ey rfl ((Y.pkf rfl rfl).yd) (Emv rfl rfl (Es rfl (Es rfl (Es rfl (Es rfl (Es rfl (Ey rfl ((Y.pkf rfl rfl).yd) (Emv rfl rfl (Es rfl (Es rfl (Ey rfl ((Y.pkf rfl rfl).yd) (Eas rfl rfl ?_)))))))))))))))))
  exact Eu (E.ret (Fb rfl rfl (by grind [E2, d1, d2, t1, t2])))
theorem a5Q (hz : E0 (fun x => x.2.length) d6 ≤ 1048576) : Tr Tryz.prog 137 [.slice a_s m_s c_s, .agg #[.slice o7 u7 o6, .slice o1 s5 o0]] (fun w L => Ro w L eIs [.slice a_s m_s c_s] s ∧ Ro w L eIs [.slice o7 u7 o6] i8 ∧ Ro w L C3 [.slice o1 s5 o0] d6) [] (κ := Unit) (fun k => True) (fun k => .bool (E2 s (i8, d6))) (fun k => []) := by
 refine Tr.intro Tryz.func137 rfl (n := 54) rfl (by decide +kernel) bl (fr := [(0, .slice a_s m_s c_s), (1, .agg #[.slice o7 u7 o6, .slice o1 s5 o0])]) rfl fun w L hR => ?_
 obtain ⟨hs, x8, t8⟩ := hR
 obtain ⟨rfl, ls⟩ := hs.slen
 obtain ⟨rfl, P9⟩ := x8.slen
 obtain ⟨rfl, M9⟩ := t8.slen
 refine Ew Z2 (Est rfl (N.box (cs := [_, _]) rfl dc rfl) (fun b3 _ => (Eas rfl rfl (Eu (Eq_ (Ew Z1 (Eas rfl rfl (Eu (E.block (E.loop (κ := Nat) (fun g => g ≤ d6.length ∧ (d6.any fun a => !I8 s a) = ((d6.drop g).any fun a => !I8 s a)) (fun g => [(0, .slice a_s s.length c_s), (3, .pointer (some ⟨b3, 0, none⟩)), (5, .int .i64 (g : Int))]) (fun g => [pt b3 61 [.slice o7 i8.length o6, .slice o1 d6.length o0]]) (fun g => d6.length - g) 0 ⟨Nat.zero_le _, by simp⟩ ⟨rfl, rfl, rfl, trivial⟩ (.refl _) (fun g pg => ?_)))))))))))
 obtain ⟨pk, pa⟩ := pg
 refine Eq_ (Ew Z5 (Emv rfl rfl (Ey rfl ((Y.fld fo_Query_1 ty_Atoms dc rfl).yd) (Ey rfl (Y.ld1 ty_Atoms rfl ((Has.pt m0).sub (cs' := [_]) 1 rfl) rfl) (Ey rfl ((Y.len us_Atoms rfl).yd) (Ey rfl ((Y.lss rfl rfl).yd) (Ent.d (fun q12 => ?_) (fun q12 => ?_))))))))
 ·refine Eu (E.ct rfl (E.skipc (Et (Eq_ (E.block (Ew Z8 (Emv rfl rfl (Ey rfl ((Y.fld fo_Query_1 ty_Atoms dc rfl).yd) (Ey rfl (Y.ld1 ty_Atoms rfl ((Has.pt m0).sub (cs' := [_]) 1 rfl) rfl) (Emv rfl rfl ?_))))))))))
  obtain ⟨eb19, eo19, ec19, ea19, er19, el19, eh19⟩ := t8.elem g om
  obtain ⟨xa19_0, xc19_0, rfl, ei19_0, xh19_0⟩ := Ro.pAtom er19
  have := xh19_0.slen.2
  refine Ey rfl ((Y.ix us_Atoms ty_Atom rfl ea19 rfl g rfl om).yd) (Ey rfl (Y.ldS (cs := [_, _]) ty_Atom rfl (eh19 _) rfl) (Est rfl (N.call0 a6X rfl rfl rfl dc (fun w Lp hA => ⟨hA.ro hs, ei19_0, hA.ro xh19_0⟩)) (fun _ _ => (Ent.b (fun q21 => ?_) (fun q21 => ?_)))))
  ·refine Ey rfl ((Y.not (b := true) rfl).yd) (Eu (E.cf rfl (E.skipc (E.bln (Et (Ez Z3 (Emv rfl rfl (Ey rfl ((Y.add rfl rfl om om).yd) (Eas rfl rfl ?_)))))))))
   exact Eu (E.again br (g + 1) rs (.refl _) ⟨by omega, by grind [d1, d2, t1, t2]⟩ om)
  ·refine Ey rfl ((Y.not (b := false) rfl).yd) (Eu (E.ct rfl (Ew Z1 (Eas rfl rfl ?_))))
   exact Eu (E.ret (E.blr (E.thr (E.thr (E.blr (E.thr (Fb rfl rfl (by grind [E2, a0j, d1, d2, t1, t2]))))))))
 ·refine Eu (E.cf rfl (E.exit (E.the (E.the (E.blh (Et (Ew Z3 (Ey rfl (Y.ldS (cs := [_, _]) ty_Query rfl (Has.pt m0) rfl) (Est rfl (N.call (a6F fc) rfl rfl rfl dc rfl (fun w Lp hA => ⟨hA.ro x8, hA.ro t8⟩)) (fun k24 _ => ?_))))))))))
  obtain ⟨a24, m24, c24⟩ := k24
  refine Ent.lenow m0 fun e24 l24 => ?_
  subst e24
  refine Eas rfl rfl (Eu (Eq_ (Ew Z1 (Eas rfl rfl (Eu (E.block (E.loop (κ := Nat) (fun g => g ≤ i8.length ∧ (i8.any (fun t => !F8 (D1 (fun t => inR t 10 17) d6) t)) = ((i8.drop g).any (fun t => !F8 (D1 (fun t => inR t 10 17) d6) t))) (fun g => [(0, .slice a_s s.length c_s), (3, .pointer (some ⟨b3, 0, none⟩)), (6, .slice a24 (D1 (fun t => inR t 10 17) d6).length c24), (7, .int .i64 (g : Int))]) (fun g => [ow eIs [.slice a24 (D1 (fun t => inR t 10 17) d6).length c24] (D1 (fun t => inR t 10 17) d6), pt b3 61 [.slice o7 i8.length o6, .slice o1 d6.length o0]]) (fun g => i8.length - g) 0 ⟨Nat.zero_le _, by simp⟩ ⟨rfl, rfl, rfl, rfl, trivial⟩ (.refl _) (fun g pg => ?_))))))))
  obtain ⟨pk, pa⟩ := pg
  refine Eq_ (Ew Z5 (Emv rfl rfl (Ey rfl ((Y.fld fo_Query_0 ty_Is dc rfl).yd) (Ey rfl (Y.ld1 ty_Is rfl ((Has.pt (mS m0)).sub (cs' := [_]) 0 rfl) rfl) (Ey rfl ((Y.len us_Is rfl).yd) (Ey rfl ((Y.lss rfl rfl).yd) (Ent.d (fun q29 => ?_) (fun q29 => ?_))))))))
  ·refine Eu (E.ct rfl (E.skipc (Et (Eq_ (E.block (Ew Z8 (Emv rfl rfl (Ey rfl ((Y.fld fo_Query_0 ty_Is dc rfl).yd) (Ey rfl (Y.ld1 ty_Is rfl ((Has.pt (mS m0)).sub (cs' := [_]) 0 rfl) rfl) (Emv rfl rfl ?_))))))))))
   obtain ⟨eb36, eo36, ea36, ei36, eh36⟩ := x8.elemI g om
   refine Ey rfl ((Y.ix us_Is f8 rfl ea36 rfl g rfl om).yd) (Ey rfl (Y.ld1 f8 rfl (eh36 _) rfl) (Est rfl (N.call0 a0D rfl rfl rfl dc (fun w Lp hA => hA.ow m0)) (fun _ _ => (Ent.b (fun q38 => ?_) (fun q38 => ?_)))))
   ·refine Ey rfl ((Y.not (b := true) rfl).yd) (Eu (E.cf rfl (E.skipc (E.bln (Et (Ez Z3 (Emv rfl rfl (Ey rfl ((Y.add rfl rfl om om).yd) (Eas rfl rfl (Eu (Ent.p1 (Ent.p1 ?_))))))))))))
    exact E.again br (g + 1) rs (.refl _) ⟨by omega, by grind [d1, d2, t1, t2]⟩ om
   ·refine Ey rfl ((Y.not (b := false) rfl).yd) (Eu (E.ct rfl (Ew Z1 (Eas rfl rfl ?_))))
    exact Eu (E.ret (E.blr (E.thr (E.thr (E.blr (E.thr (Fb rfl rfl (by grind [E2, a0j, d1, d2, t1, t2]))))))))
  ·refine Eu (E.cf rfl (E.exit (E.the (E.the (E.blh (Et (Ew Z15 (Emv rfl rfl (Est rfl (N.call0 P7 rfl rfl rfl dc (fun w Lp hA => hA.ro hs)) (fun _ _ => (Ent.b (fun q41 => ?_) (fun q41 => ?_))))))))))))
   ·refine Emv rfl rfl (Ey rfl ((Y.fld fo_Query_1 ty_Atoms dc rfl).yd) (Ey rfl (Y.ld1 ty_Atoms rfl ((Has.pt (mS m0)).sub (cs' := [_]) 1 rfl) rfl) (Ey rfl ((Y.len us_Atoms rfl).yd) (Est rfl (N.call0 D4 rfl rfl rfl dc (fun w Lp hA => trivial)) (fun _ _ => (Ent.b (fun q46 => ?_) (fun q46 => ?_)))))))
    ·refine Ey rfl ((Y.pkt rfl rfl).yd) (Emv rfl rfl (Ey rfl ((Y.fld fo_Query_0 ty_Is dc rfl).yd) (Ey rfl (Y.ld1 ty_Is rfl ((Has.pt (mS m0)).sub (cs' := [_]) 0 rfl) rfl) (Ey rfl ((Y.len us_Is rfl).yd) (Ey rfl ((Y.leq rfl rfl).yd) (Ey rfl ((Y.pkt rfl rfl).yd) (Eas rfl rfl ?_)))))))
     exact Eu (E.ret (Fb rfl rfl (by grind [E2, a0j, d1, d2, t1, t2])))
    ·refine Ey rfl ((Y.pkt rfl rfl).yd) (Emv rfl rfl (Es rfl (Es rfl (Es rfl (Es rfl (Ey rfl ((Y.pkf rfl rfl).yd) (Eas rfl rfl ?_)))))))
     exact Eu (E.ret (Fb rfl rfl (by grind [E2, a0j, d1, d2, t1, t2])))
   ·refine Emv rfl rfl (Es rfl (Es rfl (Es rfl (Es rfl (Ey rfl ((Y.pkf rfl rfl).yd) (Emv rfl rfl (Es rfl (Es rfl (Es rfl (Es rfl (Ey rfl ((Y.pkf rfl rfl).yd) (Eas rfl rfl ?_))))))))))))
    exact Eu (E.ret (Fb rfl rfl (by grind [E2, a0j, d1, d2, t1, t2])))
end Go.Proofs.YtdopeopehgdccaaGreat
