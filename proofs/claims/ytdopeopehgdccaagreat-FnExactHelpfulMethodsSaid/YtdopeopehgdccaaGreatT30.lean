import Derived.Test.YtdopeopehgdccaaGreatBs
import Derived.Test.YtdopeopehgdccaaGreatT10
import Derived.Test.YtdopeopehgdccaaGreatT23
import Derived.Test.YtdopeopehgdccaaGreatBk
namespace Go.Proofs.YtdopeopehgdccaaGreat
open Go.RowKit
set_option linter.all false
set_option maxHeartbeats 2000000
attribute [local irreducible] Nop Yd Yp Ent Has Tr FnP FnP2 Src j7 d7 J2 Y5 E0
variable {j8 : List Int} {m_seeds c_seeds : Nat} {a_seeds : Option Addr}
theorem a2G {a_l : Option Addr} {m_l c_l : Nat} {l : List Int} {a_more : Option Addr} {m_more c_more : Nat} {more : List Int} (hz : l.length + more.length ≤ 1048576) : Tr Tryz.prog 305 [.slice a_l m_l c_l, .slice a_more m_more c_more] (fun w L => Ro w L eIs [.slice a_l m_l c_l] l ∧ Ro w L eIs [.slice a_more m_more c_more] more) [] (κ := Option Addr × Nat × Nat) (fun k => True) (fun k => .slice k.1 k.2.1 k.2.2) (fun k => [ow eIs [.slice k.1 k.2.1 k.2.2] (D4 (([l, more].flatten).filter (fun t => inR t 0 9)))]) := by
 refine Tr.intro Tryz.func305 rfl (n := 29) rfl (by decide +kernel) bl (fr := [(0, .slice a_l m_l c_l), (1, .slice a_more m_more c_more)]) rfl fun w L hR => ?_
 obtain ⟨hl, hmore⟩ := hR
 obtain ⟨rfl, ll⟩ := hl.slen
 obtain ⟨rfl, lmore⟩ := hmore.slen
 have jl : ([l, more].flatten).length = l.length + more.length := by simp
 refine Ew Z1 (Eas rfl rfl (Ev Z2 (Est rfl (N.bsl (pvs := []) (cs := []) us_Is f6 rfl dc dc (o9 rfl rfl) rfl dc) (fun b8 _ => (Ent.drop (Eas rfl rfl (Eu (Eq_ (Ew Z6 (Emv rfl rfl (Emv rfl rfl (Est rfl (N.bsl (pvs := [_, _]) (cs := [_, _]) us_Iss ty_Is rfl dc dc (o9 rfl rfl) rfl dc) (fun b11 _ => (Est rfl (N.call (a3o (by simp [W2]; omega)) rfl rfl rfl dc rfl (fun w Lp hA => hA.rl2 m0 (hA.ro hl) (hA.ro hmore))) (fun k12 _ => ?_)))))))))))))))
 obtain ⟨a12, m12, c12⟩ := k12
 refine Ent.lenow m0 fun e12 l12 => ?_
 subst e12
 refine Ent.rebase (A := [_]) rfl fun wb1 Lb1 hB1 hA1 => ?_
 have hl := hA1.ro hl
 have hmore := hA1.ro hmore
 have rb1 : Ro wb1 Lb1 eIs [.slice a12 (([l, more]).flatten).length c12] (([l, more]).flatten) := hA1.ow m0
 refine Ey rfl ((Y.len us_Is rfl).yd) (Emv rfl rfl (Eu (E.block (Ent.mkow (A := []) (Own.nil (E := Enc.int) (e := tI) (a := (some ⟨b8, 0, none⟩))) rfl (Ent.cv (congrArg (ow eIs [_]) (show [] = (([l, more].flatten).take 0).filter (fun t => inR t 0 9) from by first | rfl | (simp; done) | grind [d1, d2, t1, t2])) (E.loop (κ := Nat × Option Addr × Nat × Nat) (fun g => g.1 ≤ ([l, more].flatten).length ∧ True) (fun g => [(5, .slice g.2.1 g.2.2.1 g.2.2.2), (12, .slice a12 (([l, more]).flatten).length c12), (13, .int .i64 (↑((([l, more]).flatten).length) : Int)), (14, .int .i64 (↑g.1 : Int))]) (fun g => [ow eIs [.slice g.2.1 g.2.2.1 g.2.2.2] ((([l, more].flatten).take g.1).filter (fun t => inR t 0 9)), row tIs 1 (some ⟨b11, 0, none⟩) 2 2 ([.slice a_l l.length c_l, .slice a_more more.length c_more])]) (fun g => ([l, more].flatten).length - g.1) (0, (some ⟨b8, 0, none⟩), 0, 0) ⟨Nat.zero_le _, by simp⟩ ⟨rfl, rfl, rfl, rfl, trivial⟩ (.refl _) (fun g pg => ?_)))))))
 obtain ⟨g, aA0_0, mA0_0, cA0_0⟩ := g
 try dsimp only at pg
 try dsimp only
 obtain ⟨pk, pa⟩ := pg
 have jf := List.length_filter_le (fun t => inR t 0 9) (([l, more].flatten).take g)
 have jt := List.length_take_le g ([l, more].flatten)
 refine Ent.lenow m0 fun eaA0_0 laA0_0 => ?_
 subst eaA0_0
 refine Ew Z1 (Ey rfl ((Y.lss rfl rfl).yd) (Ent.d (fun q15 => ?_) (fun q15 => ?_)))
 ·obtain ⟨eb16, eo16, ea16, ei16, eh16⟩ := rb1.elemI g om
  refine Eu (Eq_ (E.ct rfl (E.skipc (Et (Eq_ (E.block (Ew Z3 (Ey rfl ((Y.ix us_Is f6 rfl ea16 rfl g rfl om).yd) (Ey rfl (Y.ld1 f6 rfl (eh16 _) rfl) (Eas rfl rfl (Ev Z2 (Emv rfl rfl (Est rfl (N.call0 a0O rfl rfl rfl dc (fun w Lp hA => trivial)) (fun _ _ => (Ent.b (fun q19 => ?_) (fun q19 => ?_))))))))))))))))
  ·refine Eu (E.ct rfl (Ez Z5 (Emv rfl rfl (Emv rfl rfl (Est rfl (N.bsl (pvs := [_]) (cs := [_]) us_Is f6 rfl dc dc (o9 rfl rfl) rfl dc) (fun b22 _ => (Ent.p1 (Est rfl (N.push (E := Enc.int) (ex := (([l, more]).flatten)[g]) us_Is f6 rfl rfl rfl (Own.int ei16) rfl bn bn dc) (fun p23 _ => (Eas rfl rfl (En (E.bln (Et (Ez Z2 (Ey rfl ((Y.add rfl rfl om om).yd) (Emv rfl rfl (Eu (Ent.cv (congrArg (ow eIs [_]) (show ((([l, more].flatten).take g).filter (fun t => inR t 0 9)) ++ [(([l, more]).flatten)[g]] = (([l, more].flatten).take (g + 1)).filter (fun t => inR t 0 9) from by grind [d1, d2, t1, t2])) (Ent.p1 (Ent.p1 ?_))))))))))))))))))))
   exact Ea (g + 1, p23.1, (((([l, more].flatten).take g).filter (fun t => inR t 0 9)).length + 1), p23.2) ⟨oz, trivial⟩
  ·refine Eu (E.cf rfl (E.skipc (E.bln (Et (Ez Z2 (Ey rfl ((Y.add rfl rfl om om).yd) (Emv rfl rfl (Eu (Ent.cv (congrArg (ow eIs [_]) (show (([l, more].flatten).take g).filter (fun t => inR t 0 9) = (([l, more].flatten).take (g + 1)).filter (fun t => inR t 0 9) from by grind [d1, d2, t1, t2])) (Ent.p1 (Ent.p1 ?_)))))))))))
   exact Ea (g + 1, aA0_0, ((([l, more].flatten).take g).filter (fun t => inR t 0 9)).length, cA0_0) ⟨oz, trivial⟩
 ·refine Eu (Eq_ (E.cf rfl (E.exit (E.the (E.the (E.blh (Et (Ew Z2 (Emv rfl rfl (Est rfl (N.call (pre := [_]) (b0K fo) rfl rfl rfl dc rfl (fun w Lp hA => trivial)) (fun _ _ => (Ev Z3 (Emv rfl rfl (Est rfl (N.call (pre := [_]) a6Q rfl rfl rfl dc rfl (fun w Lp hA => trivial)) (fun k28 _ => ?_)))))))))))))))
  obtain ⟨a28, m28, c28⟩ := k28
  refine Ent.lenow m0 fun e28 l28 => ?_
  subst e28
  refine Eas rfl rfl (Eu (E.ret (Ent.cv (congrArg (ow eIs [_]) (show _ = D4 (([l, more].flatten).filter (fun t => inR t 0 9)) by rw [U9, List.take_of_length_le om])) ?_)))
  exact F.r1 hB1 rfl rfl (_, _, _) trivial rfl (J := _) (.refl _) (.inl rfl)
theorem a5N (hz : j8.length ≤ 1048576) : Tr Tryz.prog 269 [.slice a_seeds m_seeds c_seeds] (fun w L => Ro w L eIs [.slice a_seeds m_seeds c_seeds] j8) [] (κ := (Option Addr × Nat × Nat) × (Option Addr × Nat × Nat) × (Option Addr × Nat × Nat)) (fun k => True) (fun k => .agg #[.slice k.1.1 k.1.2.1 k.1.2.2, .slice k.2.1.1 k.2.1.2.1 k.2.1.2.2, .slice k.2.2.1 k.2.2.2.1 k.2.2.2.2, .int .i64 0]) (fun k => [ow j6 [.slice k.1.1 k.1.2.1 k.1.2.2] ([] : List (Int × List Int)), ow eIs [.slice k.2.1.1 k.2.1.2.1 k.2.1.2.2] (D4 (j8.filter (fun t => inR t 0 9))), ow u6 [.slice k.2.2.1 k.2.2.2.1 k.2.2.2.2] ([] : List (Int × List Int))]) := by
 refine Tr.intro Tryz.func269 rfl (n := 6) rfl (by decide +kernel) bl (fr := [(0, .slice a_seeds m_seeds c_seeds)]) rfl fun w L hR => ?_
 have hseeds := hR
 obtain ⟨rfl, lseeds⟩ := hseeds.slen
 refine Ew Z1 (Est rfl (N.alloc ty_Reached dc) (fun b2 _ => (Ev Z4 (Emv rfl rfl (Est rfl (N.call (a2G (by first | omega | (simp; omega) | (simp only [List.length_nil]; omega))) rfl rfl rfl dc rfl (fun w Lp hA => ⟨hA.ro hseeds, Ro.nilsl⟩)) (fun k4 _ => ?_))))))
 obtain ⟨a4, m4, c4⟩ := k4
 refine Ent.lenow m0 fun e4 l4 => ?_
 subst e4
 refine Ey rfl ((Y.bld (pvs := [_]) (cs := [_, _, _, _]) ty_Reached pl_Reached rfl rfl).yd) (Ent.p1 (Est rfl (N.sto (vs := [_, _, _, _]) (cs' := [_, _, _, _]) ty_Reached rfl rfl rfl rfl rfl bl rfl) (fun _ _ => (Eu (E.ret (Ent.mkow (A := []) (Own.nil (E := E7) (e := tAccess) (a := none)) rfl (Ent.cv (congrArg (ow u6 [_]) (show _ = ([] : List (Int × List Int)) by first | rfl | simp)) (Ent.p2 (Ent.cv (congrArg (ow eIs [_]) (show _ = D4 (j8.filter (fun t => inR t 0 9)) by first | rfl | simp)) (Ent.mkow (A := []) (Own.nil (E := z7) (e := tFact) (a := none)) rfl (Ent.cv (congrArg (ow j6 [_]) (show _ = ([] : List (Int × List Int)) by first | rfl | simp)) (Ent.p2 (Ent.p2 (Ent.p2 ?_))))))))))))))
 exact F.c1 br rfl rfl (mS (mS (mS m0))) ty_Reached rfl ((none, 0, 0), (_, _, _), (none, 0, 0)) trivial rfl (J := _) (.refl _) (.inl rfl)
theorem a5L (hz : j8.length ≤ 1048576) : Tr Tryz.prog 259 [.slice a_seeds m_seeds c_seeds] (fun w L => Ro w L eIs [.slice a_seeds m_seeds c_seeds] j8) [] (κ := (Option Addr × Nat × Nat) × (Option Addr × Nat × Nat) × (Option Addr × Nat × Nat)) (fun k => True) (fun k => .agg #[.slice k.1.1 k.1.2.1 k.1.2.2, .slice k.2.1.1 k.2.1.2.1 k.2.1.2.2, .slice k.2.2.1 k.2.2.2.1 k.2.2.2.2, .int .i64 0]) (fun k => [ow j6 [.slice k.1.1 k.1.2.1 k.1.2.2] ([] : List (Int × List Int)), ow eIs [.slice k.2.1.1 k.2.1.2.1 k.2.1.2.2] (D4 (j8.filter (fun t => inR t 0 9))), ow u6 [.slice k.2.2.1 k.2.2.2.1 k.2.2.2.2] ([] : List (Int × List Int))]) := by
 refine Tr.intro Tryz.func259 rfl (n := 26) rfl (by decide +kernel) bl (fr := [(0, .slice a_seeds m_seeds c_seeds)]) rfl fun w L hR => ?_
 have hseeds := hR
 obtain ⟨rfl, lseeds⟩ := hseeds.slen
 refine Ew Z1 (Est rfl (N.alloc ty_Reached dc) (fun b2 _ => (Ev Z3 (Ey rfl ((Y.bld (pvs := []) (cs := [_, _, _, _]) ty_Reached pl_Reached rfl rfl).yd) (Est rfl (N.alloc ty_Reached dc) (fun b3 _ => (Est rfl (N.sto (vs := [_, _, _, _]) (cs' := [_, _, _, _]) ty_Reached rfl rfl rfl rfl rfl bl rfl) (fun _ _ => (Eu (Eq_ (Ew Z1 (Eas rfl rfl (Eu (E.block (Ent.mkow (A := []) (Own.nil (E := Enc.int) (e := tI) (a := none)) rfl (Ent.cv (congrArg (ow eIs [_]) (show [] = D4 ((j8.take 0).filter (fun t => inR t 0 9)) from by first | rfl | (simp; done) | grind [I1, d1, d2, t1, t2])) (E.loop (κ := Nat × Option Addr × Nat × Nat) (fun g => g.1 ≤ j8.length ∧ True) (fun g => [(0, .slice a_seeds j8.length c_seeds), (2, .pointer (some ⟨b2, 0, none⟩)), (3, .pointer (some ⟨b3, 0, none⟩)), (4, .int .i64 (↑g.1 : Int))]) (fun g => [ow eIs [.slice g.2.1 g.2.2.1 g.2.2.2] (D4 ((j8.take g.1).filter (fun t => inR t 0 9))), pt b3 218 [.slice none 0 0, .slice g.2.1 g.2.2.1 g.2.2.2, .slice none 0 0, .int .i64 0], pt b2 218 [.slice none 0 0, .slice none 0 0, .slice none 0 0, .int .i64 0]]) (fun g => j8.length - g.1) (0, none, 0, 0) ⟨Nat.zero_le _, by simp⟩ ⟨rfl, rfl, rfl, rfl, trivial⟩ (.refl _) (fun g pg => ?_))))))))))))))))))
 obtain ⟨g, aA0_0, mA0_0, cA0_0⟩ := g
 try dsimp only at pg
 try dsimp only
 obtain ⟨pk, pa⟩ := pg
 have jf := List.length_filter_le (fun t => inR t 0 9) (j8.take g)
 have jt := List.length_take_le g j8
 have jw := a6z (l := (j8.take g).filter (fun t => inR t 0 9))
 refine Ent.lenow m0 fun eaA0_0 laA0_0 => ?_
 subst eaA0_0
 refine Eq_ (Ew Z4 (Emv rfl rfl (Emv rfl rfl (Ey rfl ((Y.len us_Is rfl).yd) (Ey rfl ((Y.lss rfl rfl).yd) (Ent.d (fun q9 => ?_) (fun q9 => ?_)))))))
 ·refine Eu (E.ct rfl (E.skipc (Et (Eq_ (E.block (Ew Z5 (Emv rfl rfl (Emv rfl rfl ?_))))))))
  obtain ⟨eb14, eo14, ea14, ei14, eh14⟩ := hseeds.elemI g om
  refine Ey rfl ((Y.ix us_Is f6 rfl ea14 rfl g rfl om).yd) (Ey rfl (Y.ld1 f6 rfl (eh14 _) rfl) (Est rfl (N.call0 H1 rfl rfl rfl dc (fun w Lp hA => trivial)) (fun _ _ => (Ent.b (fun q16 => ?_) (fun q16 => ?_)))))
  ·refine Eu (E.ct rfl (D.region (fun j => !(Nat.beq j 6) && !(Nat.beq j 8)) mixed (Dyp 0 rfl (Y.fld fo_Reached_1 ty_Is dc rfl) (Dy 1 rfl (Y.ld1 ty_Is rfl ((Has.pt (mS m0)).sub (cs' := [_]) 1 rfl) rfl) (Dyp 2 rfl (Y.mv rfl) (Dyp 3 rfl (Y.mv rfl) (Dyp 4 rfl (Y.ix us_Is f6 rfl ea14 rfl g rfl om) (Dy 5 rfl (Y.ld1 f6 rfl (eh14 _) rfl) (D.st 6 rfl rfl kr (fun h => by cases h) (N.call (pre := [_]) (a1K fc) rfl rfl rfl dc rfl (fun w Lp hA => ei14)) (fun k23 _ => ?_))))))))))
   obtain ⟨a23, m23, c23⟩ := k23
   refine Ent.lenow m0 fun e23 l23 => ?_
   subst e23
   refine Dyp 7 rfl (Y.fld fo_Reached_1 ty_Is dc rfl) (Ent.p1 (D.st 8 rfl rfl kr (fun h => by cases h) (N.sto (vs := [_]) (cs' := [_, _, _, _]) ty_Is rfl rfl rfl rfl rfl bl rfl) (fun _ _ => (D.done kr (E.bln (Et (Ez Z3 (Emv rfl rfl (Ey rfl ((Y.add rfl rfl om om).yd) (Eas rfl rfl (Eu (Ent.p1 (Ent.cv (congrArg (ow eIs [_]) (show G2 (D4 ((j8.take g).filter (fun t => inR t 0 9))) j8[g] = D4 ((j8.take (g + 1)).filter (fun t => inR t 0 9)) from by grind [I1, d1, d2, t1, t2])) (Ent.p2 (Ent.p2 (Ent.p2 ?_))))))))))))))))
   exact Ea (g + 1, a23, (G2 (D4 ((j8.take g).filter (fun t => inR t 0 9))) j8[g]).length, c23) ⟨oz, trivial⟩
  ·refine Eu (E.cf rfl (E.skipc (E.bln (Et (Ez Z3 (Emv rfl rfl (Ey rfl ((Y.add rfl rfl om om).yd) (Eas rfl rfl (Eu (Ent.cv (congrArg (ow eIs [_]) (show D4 ((j8.take g).filter (fun t => inR t 0 9)) = D4 ((j8.take (g + 1)).filter (fun t => inR t 0 9)) from by grind [I1, d1, d2, t1, t2])) (Ent.p2 (Ent.p2 (Ent.p2 ?_)))))))))))))
   exact Ea (g + 1, aA0_0, (D4 ((j8.take g).filter (fun t => inR t 0 9))).length, cA0_0) ⟨oz, trivial⟩
 ·refine Eu (E.cf rfl (E.exit (E.the (E.the (E.blh (Et (Ew Z2 (Ey rfl (Y.ldS (cs := [_, _, _, _]) ty_Reached rfl (Has.pt (mS m0)) rfl) (Ent.p2 (Est rfl (N.sto (vs := [_, _, _, _]) (cs' := [_, _, _, _]) ty_Reached rfl rfl rfl rfl rfl bl rfl) (fun _ _ => (Eu (E.ret (Ent.mkow (A := []) (Own.nil (E := E7) (e := tAccess) (a := none)) rfl (Ent.cv (congrArg (ow u6 [_]) (show _ = ([] : List (Int × List Int)) by grind [I1, d1, d2, t1, t2])) (Ent.p2 (Ent.cv (congrArg (ow eIs [_]) (show _ = D4 (j8.filter (fun t => inR t 0 9)) by grind [I1, d1, d2, t1, t2])) (Ent.mkow (A := []) (Own.nil (E := z7) (e := tFact) (a := none)) rfl (Ent.cv (congrArg (ow j6 [_]) (show _ = ([] : List (Int × List Int)) by grind [I1, d1, d2, t1, t2])) (Ent.p2 (Ent.p2 (Ent.p2 ?_))))))))))))))))))))))
  exact F.c1 br rfl rfl (mS (mS (mS m0))) ty_Reached rfl ((none, 0, 0), (_, _, _), (none, 0, 0)) trivial rfl (J := _) (.refl _) (.inl rfl)
end Go.Proofs.YtdopeopehgdccaaGreat
