import Derived.Test.YthapcdhdfaibkaaGreatDoorT23
section
namespace Go.Proofs.YthapcdhdfaibkaaGreatDoor
open Go.RowKit
set_option linter.unusedVariables false
theorem At.rl2 {α : Type} {E : Enc α} {w0 w : World} {L0 Lp : List Nat} {pre rest : List HP} {e e' : TypeId} {a : Option Addr} {c : Nat} {s1 s2 : Value} {x1 x2 : List α} (hA : At w0 L0 pre rest w Lp) (hm : Go.Proofs.YthapcdhdfaibkaaGreatDoor.row e 1 a 2 c [s1, s2] ∈ rest) (h1 : Ro w Lp (Enc.sl e' E) [s1] x1) (h2 : Ro w Lp (Enc.sl e' E) [s2] x2) : Ro w Lp (Enc.sl e (Enc.sl e' E)) [.slice a 2 c] [x1, x2] := by
  obtain ⟨⟨Lr, g1, g2, g3, g4⟩⟩ := hA
  obtain ⟨L', r1, r2⟩ := g2.mem hm
  obtain ⟨M1, k1, n1⟩ := h1
  obtain ⟨M2, k2, n2⟩ := h2
  rcases r1 with ⟨h6, ⟨rfl, h0, rfl⟩ | ⟨g, cur, rfl, h7, h8, h9, h10, h11, rfl⟩⟩
  · cases h0
  · refine ⟨[g] ++ (M1 ++ M2), ⟨_, 2, c, [s1, s2], [g], M1 ++ M2, rfl, rfl, by decide, rfl, ⟨[s1], [s2], M1, M2, rfl, rfl, k1, a3e k2⟩, ⟨h8, h9⟩, .inr ⟨g, 0, rfl, fun j v hj => ?_, (Array.getElem?_eq_some_iff.1 h7).1, rfl⟩⟩, fun b hb hp => ?_⟩
    · rw [← h11, List.getElem?_take] at hj
      split at hj
      · simpa [World.cell?, h7] using hj
      · cases hj
    · rcases List.mem_append.1 hb with hb | hb
      · exact (List.nodup_append.1 g3).2.2 b hp b (r2 b hb) rfl
      · rcases List.mem_append.1 hb with hb | hb
        · exact n1 b hb hp
        · exact n2 b hb hp
theorem b1W {α : Type} {E : Enc α} {w : World} {L : List Nat} {e : TypeId} : Ro w L (Enc.sl e E) [.slice none 0 0] [] :=
  ⟨[], ⟨none, 0, 0, [], [], [], rfl, rfl, Nat.zero_le _, rfl, ⟨rfl, rfl⟩, ⟨⟨Nat.le_refl _, Nat.zero_le _⟩, .inl ⟨rfl, rfl⟩⟩⟩, by simp⟩
end Go.Proofs.YthapcdhdfaibkaaGreatDoor
end
section
namespace Go.Proofs.YthapcdhdfaibkaaGreatDoor
open Go.RowKit
set_option linter.all false
set_option maxHeartbeats 2000000
attribute [local irreducible] Nop Yd Yp Ent Has Tr FnP FnP2 Src o2 c8 N0 a0b E6
variable {d6 : List Int} {m_seeds c_seeds : Nat} {a_seeds : Option Addr}
theorem a3V {a_l : Option Addr} {m_l c_l : Nat} {l : List Int} {a_more : Option Addr} {m_more c_more : Nat} {more : List Int} (hz : l.length + more.length ≤ 1048576) : Tr Tryz.prog 331 [.slice a_l m_l c_l, .slice a_more m_more c_more] (fun w L => Ro w L eIs [.slice a_l m_l c_l] l ∧ Ro w L eIs [.slice a_more m_more c_more] more) [] (κ := Option Addr × Nat × Nat) (fun k => True) (fun k => .slice k.1 k.2.1 k.2.2) (fun k => [ow eIs [.slice k.1 k.2.1 k.2.2] (H6 (([l, more].flatten).filter (fun t => inR t 0 9)))]) := by
 refine Tr.intro Tryz.func331 rfl (n := 29) rfl (by decide +kernel) bl (fr := [(0, .slice a_l m_l c_l), (1, .slice a_more m_more c_more)]) rfl fun w L hR => ?_
 obtain ⟨hl, hmore⟩ := hR
 obtain ⟨rfl, ll⟩ := hl.slen
 obtain ⟨rfl, lmore⟩ := hmore.slen
 have jl : ([l, more].flatten).length = l.length + more.length := by simp
 refine Ew Z1 (Ei rfl (Ev Z2 (Est rfl (Nb [] [] us_Is f9 rfl rfl) (fun b8 _ => (Ent.drop (Ei rfl (Eu (Eq_ (Ew Z6 (Em rfl (Em rfl (Est rfl (Nb [_, _] [_, _] us_Iss ty_Is rfl rfl) (fun b11 _ => (Est rfl (N.call (a4x (by simp [a0Y]; omega)) rfl rfl rfl dc rfl (fun w Lp hA => hA.rl2 m0 (hA.ro hl) (hA.ro hmore))) (fun k12 _ => ?_)))))))))))))))
 obtain ⟨a12, m12, c12⟩ := k12
 refine d7 m0 fun e12 l12 => ?_
 subst e12
 refine P3 (A := [_]) rfl fun wb1 Lb1 hB1 hA1 => ?_
 have hl := hA1.ro hl
 have hmore := hA1.ro hmore
 have rb1 : Ro wb1 Lb1 eIs [.slice a12 (([l, more]).flatten).length c12] (([l, more]).flatten) := hA1.ow m0
 refine Ey rfl ((Y.len us_Is rfl).yd) (Em rfl (Eu (E.block (u9 (A := []) (Own.nil (E := Enc.int) (e := tI) (a := (some ⟨b8, 0, none⟩))) rfl (j4 (congrArg (ow eIs [_]) (show [] = (([l, more].flatten).take 0).filter (fun t => inR t 0 9) from by first | rfl | (simp; done) | grind [d1, d2, t1, t2])) (E.loop (κ := Nat × Option Addr × Nat × Nat) (fun g => g.1 ≤ ([l, more].flatten).length ∧ True) (fun g => [(5, .slice g.2.1 g.2.2.1 g.2.2.2), (12, .slice a12 (([l, more]).flatten).length c12), (13, .int .i64 (↑((([l, more]).flatten).length) : Int)), (14, .int .i64 (↑g.1 : Int))]) (fun g => [ow eIs [.slice g.2.1 g.2.2.1 g.2.2.2] ((([l, more].flatten).take g.1).filter (fun t => inR t 0 9)), row tIs 1 (some ⟨b11, 0, none⟩) 2 2 ([.slice a_l l.length c_l, .slice a_more more.length c_more])]) (fun g => ([l, more].flatten).length - g.1) (0, (some ⟨b8, 0, none⟩), 0, 0) ⟨Nat.zero_le _, by simp⟩ ⟨rfl, rfl, rfl, rfl, trivial⟩ (.refl _) (fun g pg => ?_)))))))
 obtain ⟨g, aA0_0, mA0_0, cA0_0⟩ := g
 try dsimp only at pg
 try dsimp only
 obtain ⟨pk, pa⟩ := pg
 have jf := List.length_filter_le (fun t => inR t 0 9) (([l, more].flatten).take g)
 have jt := List.length_take_le g ([l, more].flatten)
 refine d7 m0 fun eaA0_0 laA0_0 => ?_
 subst eaA0_0
 refine Ew Z1 (Ey rfl ((Y.lss rfl rfl).yd) (o3 (fun q15 => ?_) (fun q15 => ?_)))
 ·obtain ⟨eb16, eo16, ea16, ei16, eh16⟩ := rb1.elemI g om
  refine Eu (Eq_ (n8 rfl (i7 (Et (Eq_ (E.block (Ew Z3 (Ey rfl ((v8 us_Is f9 rfl ea16 rfl g rfl om).yd) (Ey rfl (g9 f9 rfl (eh16 _) rfl) (Ei rfl (Ev Z2 (Em rfl (Est rfl (l0 a5o rfl rfl rfl dc tv) (fun _ _ => (Ent.b (fun q19 => ?_) (fun q19 => ?_))))))))))))))))
  ·refine Eu (n8 rfl (Ez Z5 (Em rfl (Em rfl (Est rfl (Nb [_] [_] us_Is f9 rfl rfl) (fun b22 _ => (d9 (Est rfl (C7 (E := Enc.int) (ex := (([l, more]).flatten)[g]) us_Is f9 rfl rfl rfl (Own.int ei16) rfl bn bn dc) (fun p23 _ => (Ei rfl (En (s9 (Et (Ez Z2 (Ey rfl ((Y.add rfl rfl om om).yd) (Em rfl (Eu (j4 (congrArg (ow eIs [_]) (show ((([l, more].flatten).take g).filter (fun t => inR t 0 9)) ++ [(([l, more]).flatten)[g]] = (([l, more].flatten).take (g + 1)).filter (fun t => inR t 0 9) from by grind [d1, d2, t1, t2])) (d9 (d9 ?_))))))))))))))))))))
   exact Ea (g + 1, p23.1, (((([l, more].flatten).take g).filter (fun t => inR t 0 9)).length + 1), p23.2) ⟨oz, trivial⟩
  ·refine Eu (o0 rfl (i7 (s9 (Et (Ez Z2 (Ey rfl ((Y.add rfl rfl om om).yd) (Em rfl (Eu (j4 (congrArg (ow eIs [_]) (show (([l, more].flatten).take g).filter (fun t => inR t 0 9) = (([l, more].flatten).take (g + 1)).filter (fun t => inR t 0 9) from by grind [d1, d2, t1, t2])) (d9 (d9 ?_)))))))))))
   exact Ea (g + 1, aA0_0, ((([l, more].flatten).take g).filter (fun t => inR t 0 9)).length, cA0_0) ⟨oz, trivial⟩
 ·refine Eu (Eq_ (o0 rfl (E.exit (q1 (q1 (y4 (Et (Ew Z2 (Em rfl (Est rfl (N.call (pre := [_]) (b6K fo) rfl rfl rfl dc rfl tv) (fun _ _ => (Ev Z3 (Em rfl (Est rfl (N.call (pre := [_]) b3d rfl rfl rfl dc rfl tv) (fun k28 _ => ?_)))))))))))))))
  obtain ⟨a28, m28, c28⟩ := k28
  refine d7 m0 fun e28 l28 => ?_
  subst e28
  refine Ei rfl (Eu (E.ret (j4 (congrArg (ow eIs [_]) (show _ = H6 (([l, more].flatten).filter (fun t => inR t 0 9)) by rw [b1B, List.take_of_length_le om])) ?_)))
  exact F.r1 hB1 rfl rfl (_, _, _) trivial rfl (J := _) (.refl _) (.inl rfl)
theorem a7s (hz : d6.length ≤ 1048576) : Tr Tryz.prog 262 [.slice a_seeds m_seeds c_seeds] (fun w L => Ro w L eIs [.slice a_seeds m_seeds c_seeds] d6) [] (κ := (Option Addr × Nat × Nat) × (Option Addr × Nat × Nat) × (Option Addr × Nat × Nat)) (fun k => True) (fun k => .agg #[.slice k.1.1 k.1.2.1 k.1.2.2, .slice k.2.1.1 k.2.1.2.1 k.2.1.2.2, .slice k.2.2.1 k.2.2.2.1 k.2.2.2.2, .int .i64 0]) (fun k => [ow m8 [.slice k.1.1 k.1.2.1 k.1.2.2] ([] : List (Int × List Int)), ow eIs [.slice k.2.1.1 k.2.1.2.1 k.2.1.2.2] (H6 (d6.filter (fun t => inR t 0 9))), ow w5 [.slice k.2.2.1 k.2.2.2.1 k.2.2.2.2] ([] : List (Int × List Int))]) := by
 refine Tr.intro Tryz.func262 rfl (n := 6) rfl (by decide +kernel) bl (fr := [(0, .slice a_seeds m_seeds c_seeds)]) rfl fun w L hR => ?_
 have hseeds := hR
 obtain ⟨rfl, lseeds⟩ := hseeds.slen
 refine Ew Z1 (Est rfl (N.alloc ty_Reached dc) (fun b2 _ => (Ev Z4 (Em rfl (Est rfl (N.call (a3V (by first | omega | (simp; omega) | (simp only [List.length_nil]; omega))) rfl rfl rfl dc rfl (fun w Lp hA => ⟨hA.ro hseeds, b1W⟩)) (fun k4 _ => ?_))))))
 obtain ⟨a4, m4, c4⟩ := k4
 refine d7 m0 fun e4 l4 => ?_
 subst e4
 refine Ey rfl ((I2 (pvs := [_]) (cs := [_, _, _, _]) ty_Reached pl_Reached rfl rfl).yd) (d9 (Est rfl (Ns [_, _, _, _] ty_Reached rfl) (fun _ _ => (Eu (E.ret (u9 (A := []) (Own.nil (E := F6) (e := tAccess) (a := none)) rfl (j4 (congrArg (ow w5 [_]) (show _ = ([] : List (Int × List Int)) by first | rfl | simp)) (j8 (j4 (congrArg (ow eIs [_]) (show _ = H6 (d6.filter (fun t => inR t 0 9)) by first | rfl | simp)) (u9 (A := []) (Own.nil (E := C9) (e := tFact) (a := none)) rfl (j4 (congrArg (ow m8 [_]) (show _ = ([] : List (Int × List Int)) by first | rfl | simp)) (j8 (j8 (j8 ?_))))))))))))))
 exact O2 br rfl rfl (mS (mS (mS m0))) ty_Reached rfl ((none, 0, 0), (_, _, _), (none, 0, 0)) trivial rfl (J := _) (.refl _) (.inl rfl)
theorem a2o (hz : d6.length ≤ 1048576) : Tr Tryz.prog 166 [.slice a_seeds m_seeds c_seeds] (fun w L => Ro w L eIs [.slice a_seeds m_seeds c_seeds] d6) [] (κ := (Option Addr × Nat × Nat) × (Option Addr × Nat × Nat) × (Option Addr × Nat × Nat)) (fun k => True) (fun k => .agg #[.slice k.1.1 k.1.2.1 k.1.2.2, .slice k.2.1.1 k.2.1.2.1 k.2.1.2.2, .slice k.2.2.1 k.2.2.2.1 k.2.2.2.2, .int .i64 0]) (fun k => [ow m8 [.slice k.1.1 k.1.2.1 k.1.2.2] ([] : List (Int × List Int)), ow eIs [.slice k.2.1.1 k.2.1.2.1 k.2.1.2.2] (H6 (d6.filter (fun t => inR t 0 9))), ow w5 [.slice k.2.2.1 k.2.2.2.1 k.2.2.2.2] ([] : List (Int × List Int))]) := by
 refine Tr.intro Tryz.func166 rfl (n := 26) rfl (by decide +kernel) bl (fr := [(0, .slice a_seeds m_seeds c_seeds)]) rfl fun w L hR => ?_
 have hseeds := hR
 obtain ⟨rfl, lseeds⟩ := hseeds.slen
 refine Ew Z1 (Est rfl (N.alloc ty_Reached dc) (fun b2 _ => (Ev Z3 (Ey rfl ((I2 (pvs := []) (cs := [_, _, _, _]) ty_Reached pl_Reached rfl rfl).yd) (Est rfl (N.alloc ty_Reached dc) (fun b3 _ => (Est rfl (Ns [_, _, _, _] ty_Reached rfl) (fun _ _ => (Eu (Eq_ (Ew Z1 (Ei rfl (Eu (E.block (u9 (A := []) (Own.nil (E := Enc.int) (e := tI) (a := none)) rfl (j4 (congrArg (ow eIs [_]) (show [] = H6 ((d6.take 0).filter (fun t => inR t 0 9)) from by first | rfl | (simp; done) | grind [Y4, d1, d2, t1, t2])) (E.loop (κ := Nat × Option Addr × Nat × Nat) (fun g => g.1 ≤ d6.length ∧ True) (fun g => [(0, .slice a_seeds d6.length c_seeds), (2, .pointer (some ⟨b2, 0, none⟩)), (3, .pointer (some ⟨b3, 0, none⟩)), (4, .int .i64 (↑g.1 : Int))]) (fun g => [ow eIs [.slice g.2.1 g.2.2.1 g.2.2.2] (H6 ((d6.take g.1).filter (fun t => inR t 0 9))), pt b3 90 [.slice none 0 0, .slice g.2.1 g.2.2.1 g.2.2.2, .slice none 0 0, .int .i64 0], pt b2 90 [.slice none 0 0, .slice none 0 0, .slice none 0 0, .int .i64 0]]) (fun g => d6.length - g.1) (0, none, 0, 0) ⟨Nat.zero_le _, by simp⟩ ⟨rfl, rfl, rfl, rfl, trivial⟩ (.refl _) (fun g pg => ?_))))))))))))))))))
 obtain ⟨g, aA0_0, mA0_0, cA0_0⟩ := g
 try dsimp only at pg
 try dsimp only
 obtain ⟨pk, pa⟩ := pg
 have jf := List.length_filter_le (fun t => inR t 0 9) (d6.take g)
 have jt := List.length_take_le g d6
 have jw := a5F (l := (d6.take g).filter (fun t => inR t 0 9))
 refine d7 m0 fun eaA0_0 laA0_0 => ?_
 subst eaA0_0
 refine Eq_ (Ew Z4 (Em rfl (Em rfl (Ey rfl ((Y.len us_Is rfl).yd) (Ey rfl ((Y.lss rfl rfl).yd) (o3 (fun q9 => ?_) (fun q9 => ?_)))))))
 ·refine Eu (n8 rfl (i7 (Et (Eq_ (E.block (Ew Z5 (Em rfl (Em rfl ?_))))))))
  obtain ⟨eb14, eo14, ea14, ei14, eh14⟩ := hseeds.elemI g om
  refine Ey rfl ((v8 us_Is f9 rfl ea14 rfl g rfl om).yd) (Ey rfl (g9 f9 rfl (eh14 _) rfl) (Est rfl (l0 G0 rfl rfl rfl dc tv) (fun _ _ => (Ent.b (fun q16 => ?_) (fun q16 => ?_)))))
  ·refine Eu (n8 rfl (D.region (fun j => !(Nat.beq j 6) && !(Nat.beq j 8)) mixed (Dyp 0 rfl (f5 fo_Reached_1 ty_Is dc rfl) (Dy 1 rfl (g9 ty_Is rfl (Hz (mS m0) 1 rfl) rfl) (Dyp 2 rfl (i8 rfl) (Dyp 3 rfl (i8 rfl) (Dyp 4 rfl (v8 us_Is f9 rfl ea14 rfl g rfl om) (Dy 5 rfl (g9 f9 rfl (eh14 _) rfl) (t6 6 rfl rfl kr (fun h => by cases h) (N.call (pre := [_]) (a1h fc) rfl rfl rfl dc rfl (fun w Lp hA => ei14)) (fun k23 _ => ?_))))))))))
   obtain ⟨a23, m23, c23⟩ := k23
   refine d7 m0 fun e23 l23 => ?_
   subst e23
   refine Dyp 7 rfl (f5 fo_Reached_1 ty_Is dc rfl) (d9 (t6 8 rfl rfl kr (fun h => by cases h) (Ns [_, _, _, _] ty_Is rfl) (fun _ _ => (r9 kr (s9 (Et (Ez Z3 (Em rfl (Ey rfl ((Y.add rfl rfl om om).yd) (Ei rfl (Eu (d9 (j4 (congrArg (ow eIs [_]) (show E4 (H6 ((d6.take g).filter (fun t => inR t 0 9))) d6[g] = H6 ((d6.take (g + 1)).filter (fun t => inR t 0 9)) from by grind [Y4, d1, d2, t1, t2])) (j8 (j8 (j8 ?_))))))))))))))))
   exact Ea (g + 1, a23, (E4 (H6 ((d6.take g).filter (fun t => inR t 0 9))) d6[g]).length, c23) ⟨oz, trivial⟩
  ·refine Eu (o0 rfl (i7 (s9 (Et (Ez Z3 (Em rfl (Ey rfl ((Y.add rfl rfl om om).yd) (Ei rfl (Eu (j4 (congrArg (ow eIs [_]) (show H6 ((d6.take g).filter (fun t => inR t 0 9)) = H6 ((d6.take (g + 1)).filter (fun t => inR t 0 9)) from by grind [Y4, d1, d2, t1, t2])) (j8 (j8 (j8 ?_)))))))))))))
   exact Ea (g + 1, aA0_0, (H6 ((d6.take g).filter (fun t => inR t 0 9))).length, cA0_0) ⟨oz, trivial⟩
 ·refine Eu (o0 rfl (E.exit (q1 (q1 (y4 (Et (Ew Z2 (Ey rfl (o6 (cs := [_, _, _, _]) ty_Reached rfl (Has.pt (mS m0)) rfl) (j8 (Est rfl (Ns [_, _, _, _] ty_Reached rfl) (fun _ _ => (Eu (E.ret (u9 (A := []) (Own.nil (E := F6) (e := tAccess) (a := none)) rfl (j4 (congrArg (ow w5 [_]) (show _ = ([] : List (Int × List Int)) by grind [Y4, d1, d2, t1, t2])) (j8 (j4 (congrArg (ow eIs [_]) (show _ = H6 (d6.filter (fun t => inR t 0 9)) by grind [Y4, d1, d2, t1, t2])) (u9 (A := []) (Own.nil (E := C9) (e := tFact) (a := none)) rfl (j4 (congrArg (ow m8 [_]) (show _ = ([] : List (Int × List Int)) by grind [Y4, d1, d2, t1, t2])) (j8 (j8 (j8 ?_))))))))))))))))))))))
  exact O2 br rfl rfl (mS (mS (mS m0))) ty_Reached rfl ((none, 0, 0), (_, _, _), (none, 0, 0)) trivial rfl (J := _) (.refl _) (.inl rfl)
end Go.Proofs.YthapcdhdfaibkaaGreatDoor
end
