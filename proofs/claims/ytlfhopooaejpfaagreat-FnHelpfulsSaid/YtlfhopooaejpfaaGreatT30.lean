import Derived.Test.YtlfhopooaejpfaaGreatT10
import Derived.Test.YtlfhopooaejpfaaGreatT23
section
namespace Go.Proofs.YtlfhopooaejpfaaGreat
open Go.RowKit
set_option linter.unusedVariables false
theorem At.rl2 {α : Type} {E : Enc α} {w0 w : World} {L0 Lp : List Nat} {pre rest : List HP} {e e' : TypeId} {a : Option Addr} {c : Nat} {s1 s2 : Value} {x1 x2 : List α} (hA : At w0 L0 pre rest w Lp) (hm : Go.Proofs.YtlfhopooaejpfaaGreat.row e 1 a 2 c [s1, s2] ∈ rest) (h1 : Ro w Lp (Enc.sl e' E) [s1] x1) (h2 : Ro w Lp (Enc.sl e' E) [s2] x2) : Ro w Lp (Enc.sl e (Enc.sl e' E)) [.slice a 2 c] [x1, x2] := by
  obtain ⟨⟨Lr, g1, g2, g3, g4⟩⟩ := hA
  obtain ⟨L', r1, r2⟩ := g2.mem hm
  obtain ⟨M1, k1, n1⟩ := h1
  obtain ⟨M2, k2, n2⟩ := h2
  rcases r1 with ⟨h6, ⟨rfl, h0, rfl⟩ | ⟨g, cur, rfl, h7, h8, h9, h10, h11, rfl⟩⟩
  · cases h0
  · refine ⟨[g] ++ (M1 ++ M2), ⟨_, 2, c, [s1, s2], [g], M1 ++ M2, rfl, rfl, by decide, rfl, ⟨[s1], [s2], M1, M2, rfl, rfl, k1, a3A k2⟩, ⟨h8, h9⟩, .inr ⟨g, 0, rfl, fun j v hj => ?_, (Array.getElem?_eq_some_iff.1 h7).1, rfl⟩⟩, fun b hb hp => ?_⟩
    · rw [← h11, List.getElem?_take] at hj
      split at hj
      · simpa [World.cell?, h7] using hj
      · cases hj
    · rcases List.mem_append.1 hb with hb | hb
      · exact (List.nodup_append.1 g3).2.2 b hp b (r2 b hb) rfl
      · rcases List.mem_append.1 hb with hb | hb
        · exact n1 b hb hp
        · exact n2 b hb hp
theorem b3J {α : Type} {E : Enc α} {w : World} {L : List Nat} {e : TypeId} : Ro w L (Enc.sl e E) [.slice none 0 0] [] :=
  ⟨[], ⟨none, 0, 0, [], [], [], rfl, rfl, Nat.zero_le _, rfl, ⟨rfl, rfl⟩, ⟨⟨Nat.le_refl _, Nat.zero_le _⟩, .inl ⟨rfl, rfl⟩⟩⟩, by simp⟩
end Go.Proofs.YtlfhopooaejpfaaGreat
end
section
namespace Go.Proofs.YtlfhopooaejpfaaGreat
open Go.RowKit
set_option linter.all false
set_option maxHeartbeats 2000000
attribute [local irreducible] Nop Yd Yp Ent Has Tr FnP FnP2 Src o6 d7 O0 a0h H2
variable {m6 : List Int} {m_seeds c_seeds : Nat} {a_seeds : Option Addr}
theorem a4l {a_l : Option Addr} {m_l c_l : Nat} {l : List Int} {a_more : Option Addr} {m_more c_more : Nat} {more : List Int} (hz : l.length + more.length ≤ 1048576) : Tr Tryz.prog 210 [.slice a_l m_l c_l, .slice a_more m_more c_more] (fun w L => Ro w L eIs [.slice a_l m_l c_l] l ∧ Ro w L eIs [.slice a_more m_more c_more] more) [] (κ := Option Addr × Nat × Nat) (fun k => True) (fun k => .slice k.1 k.2.1 k.2.2) (fun k => [ow eIs [.slice k.1 k.2.1 k.2.2] (I2 (([l, more].flatten).filter (fun t => inR t 0 9)))]) := by
 refine Tr.intro Tryz.func210 rfl (n := 29) rfl (by decide +kernel) bl (fr := [(0, .slice a_l m_l c_l), (1, .slice a_more m_more c_more)]) rfl fun w L hR => ?_
 obtain ⟨hl, hmore⟩ := hR
 obtain ⟨rfl, ll⟩ := hl.slen
 obtain ⟨rfl, lmore⟩ := hmore.slen
 have jl : ([l, more].flatten).length = l.length + more.length := by simp
 refine Ew Z1 (Ei rfl (Ev Z2 (Est rfl (Nb [] [] us_Is f5 rfl rfl) (fun b8 _ => (Ent.drop (Ei rfl (Eu (Eq_ (Ew Z6 (Em rfl (Em rfl (Est rfl (Nb [_, _] [_, _] us_Iss ty_Is rfl rfl) (fun b11 _ => (Est rfl (N.call (a4Z (by simp [a0Z]; omega)) rfl rfl rfl dc rfl (fun w Lp hA => hA.rl2 m0 (hA.ro hl) (hA.ro hmore))) (fun k12 _ => ?_)))))))))))))))
 obtain ⟨a12, m12, c12⟩ := k12
 refine d6 m0 fun e12 l12 => ?_
 subst e12
 refine H7 (A := [_]) rfl fun wb1 Lb1 hB1 hA1 => ?_
 have hl := hA1.ro hl
 have hmore := hA1.ro hmore
 have rb1 : Ro wb1 Lb1 eIs [.slice a12 (([l, more]).flatten).length c12] (([l, more]).flatten) := hA1.ow m0
 refine Ey rfl ((Y.len us_Is rfl).yd) (Em rfl (Eu (E.block (s7 (A := []) (Own.nil (E := Enc.int) (e := tI) (a := (some ⟨b8, 0, none⟩))) rfl (f6 (congrArg (ow eIs [_]) (show [] = (([l, more].flatten).take 0).filter (fun t => inR t 0 9) from by first | rfl | (simp; done) | grind [d1, d2, t1, t2])) (E.loop (κ := Nat × Option Addr × Nat × Nat) (fun g => g.1 ≤ ([l, more].flatten).length ∧ True) (fun g => [(5, .slice g.2.1 g.2.2.1 g.2.2.2), (12, .slice a12 (([l, more]).flatten).length c12), (13, .int .i64 (↑((([l, more]).flatten).length) : Int)), (14, .int .i64 (↑g.1 : Int))]) (fun g => [ow eIs [.slice g.2.1 g.2.2.1 g.2.2.2] ((([l, more].flatten).take g.1).filter (fun t => inR t 0 9)), row tIs 1 (some ⟨b11, 0, none⟩) 2 2 ([.slice a_l l.length c_l, .slice a_more more.length c_more])]) (fun g => ([l, more].flatten).length - g.1) (0, (some ⟨b8, 0, none⟩), 0, 0) ⟨Nat.zero_le _, by simp⟩ ⟨rfl, rfl, rfl, rfl, trivial⟩ (.refl _) (fun g pg => ?_)))))))
 obtain ⟨g, aA0_0, mA0_0, cA0_0⟩ := g
 try dsimp only at pg
 try dsimp only
 obtain ⟨pk, pa⟩ := pg
 have jf := List.length_filter_le (fun t => inR t 0 9) (([l, more].flatten).take g)
 have jt := List.length_take_le g ([l, more].flatten)
 refine d6 m0 fun eaA0_0 laA0_0 => ?_
 subst eaA0_0
 refine Ew Z1 (Ey rfl ((Y.lss rfl rfl).yd) (n9 (fun q15 => ?_) (fun q15 => ?_)))
 ·obtain ⟨eb16, eo16, ea16, ei16, eh16⟩ := rb1.elemI g om
  refine Eu (Eq_ (o0 rfl (f9 (Et (Eq_ (E.block (Ew Z3 (Ey rfl ((w3 us_Is f5 rfl ea16 rfl g rfl om).yd) (Ey rfl (g9 f5 rfl (eh16 _) rfl) (Ei rfl (Ev Z2 (Em rfl (Est rfl (o4 a2u rfl rfl rfl dc tv) (fun _ _ => (Ent.b (fun q19 => ?_) (fun q19 => ?_))))))))))))))))
  ·refine Eu (o0 rfl (Ez Z5 (Em rfl (Em rfl (Est rfl (Nb [_] [_] us_Is f5 rfl rfl) (fun b22 _ => (d8 (Est rfl (B2 (E := Enc.int) (ex := (([l, more]).flatten)[g]) us_Is f5 rfl rfl rfl (Own.int ei16) rfl bn bn dc) (fun p23 _ => (Ei rfl (En (s8 (Et (Ez Z2 (Ey rfl ((Y.add rfl rfl om om).yd) (Em rfl (Eu (f6 (congrArg (ow eIs [_]) (show ((([l, more].flatten).take g).filter (fun t => inR t 0 9)) ++ [(([l, more]).flatten)[g]] = (([l, more].flatten).take (g + 1)).filter (fun t => inR t 0 9) from by grind [d1, d2, t1, t2])) (d8 (d8 ?_))))))))))))))))))))
   exact Ea (g + 1, p23.1, (((([l, more].flatten).take g).filter (fun t => inR t 0 9)).length + 1), p23.2) ⟨oz, trivial⟩
  ·refine Eu (n8 rfl (f9 (s8 (Et (Ez Z2 (Ey rfl ((Y.add rfl rfl om om).yd) (Em rfl (Eu (f6 (congrArg (ow eIs [_]) (show (([l, more].flatten).take g).filter (fun t => inR t 0 9) = (([l, more].flatten).take (g + 1)).filter (fun t => inR t 0 9) from by grind [d1, d2, t1, t2])) (d8 (d8 ?_)))))))))))
   exact Ea (g + 1, aA0_0, ((([l, more].flatten).take g).filter (fun t => inR t 0 9)).length, cA0_0) ⟨oz, trivial⟩
 ·refine Eu (Eq_ (n8 rfl (E.exit (l3 (l3 (y4 (Et (Ew Z2 (Em rfl (Est rfl (N.call (pre := [_]) (b4O fo) rfl rfl rfl dc rfl tv) (fun _ _ => (Ev Z3 (Em rfl (Est rfl (N.call (pre := [_]) a9D rfl rfl rfl dc rfl tv) (fun k28 _ => ?_)))))))))))))))
  obtain ⟨a28, m28, c28⟩ := k28
  refine d6 m0 fun e28 l28 => ?_
  subst e28
  refine Ei rfl (Eu (E.ret (f6 (congrArg (ow eIs [_]) (show _ = I2 (([l, more].flatten).filter (fun t => inR t 0 9)) by rw [a0C, List.take_of_length_le om])) ?_)))
  exact F.r1 hB1 rfl rfl (_, _, _) trivial rfl (J := _) (.refl _) (.inl rfl)
theorem a8p (hz : m6.length ≤ 1048576) : Tr Tryz.prog 154 [.slice a_seeds m_seeds c_seeds] (fun w L => Ro w L eIs [.slice a_seeds m_seeds c_seeds] m6) [] (κ := (Option Addr × Nat × Nat) × (Option Addr × Nat × Nat) × (Option Addr × Nat × Nat)) (fun k => True) (fun k => .agg #[.slice k.1.1 k.1.2.1 k.1.2.2, .slice k.2.1.1 k.2.1.2.1 k.2.1.2.2, .slice k.2.2.1 k.2.2.2.1 k.2.2.2.2, .int .i64 0]) (fun k => [ow s6 [.slice k.1.1 k.1.2.1 k.1.2.2] ([] : List (Int × List Int)), ow eIs [.slice k.2.1.1 k.2.1.2.1 k.2.1.2.2] (I2 (m6.filter (fun t => inR t 0 9))), ow C5 [.slice k.2.2.1 k.2.2.2.1 k.2.2.2.2] ([] : List (Int × List Int))]) := by
 refine Tr.intro Tryz.func154 rfl (n := 6) rfl (by decide +kernel) bl (fr := [(0, .slice a_seeds m_seeds c_seeds)]) rfl fun w L hR => ?_
 have hseeds := hR
 obtain ⟨rfl, lseeds⟩ := hseeds.slen
 refine Ew Z1 (Est rfl (N.alloc ty_Reached dc) (fun b2 _ => (Ev Z4 (Em rfl (Est rfl (N.call (a4l (by first | omega | (simp; omega) | (simp only [List.length_nil]; omega))) rfl rfl rfl dc rfl (fun w Lp hA => ⟨hA.ro hseeds, b3J⟩)) (fun k4 _ => ?_))))))
 obtain ⟨a4, m4, c4⟩ := k4
 refine d6 m0 fun e4 l4 => ?_
 subst e4
 refine Ey rfl ((I3 (pvs := [_]) (cs := [_, _, _, _]) ty_Reached pl_Reached rfl rfl).yd) (d8 (Est rfl (Ns [_, _, _, _] ty_Reached rfl) (fun _ _ => (Eu (E.ret (s7 (A := []) (Own.nil (E := K0) (e := tAccess) (a := none)) rfl (f6 (congrArg (ow C5 [_]) (show _ = ([] : List (Int × List Int)) by first | rfl | simp)) (j7 (f6 (congrArg (ow eIs [_]) (show _ = I2 (m6.filter (fun t => inR t 0 9)) by first | rfl | simp)) (s7 (A := []) (Own.nil (E := F6) (e := tFact) (a := none)) rfl (f6 (congrArg (ow s6 [_]) (show _ = ([] : List (Int × List Int)) by first | rfl | simp)) (j7 (j7 (j7 ?_))))))))))))))
 exact O7 br rfl rfl (mS (mS (mS m0))) ty_Reached rfl ((none, 0, 0), (_, _, _), (none, 0, 0)) trivial rfl (J := _) (.refl _) (.inl rfl)
theorem a8n (hz : m6.length ≤ 1048576) : Tr Tryz.prog 162 [.slice a_seeds m_seeds c_seeds] (fun w L => Ro w L eIs [.slice a_seeds m_seeds c_seeds] m6) [] (κ := (Option Addr × Nat × Nat) × (Option Addr × Nat × Nat) × (Option Addr × Nat × Nat)) (fun k => True) (fun k => .agg #[.slice k.1.1 k.1.2.1 k.1.2.2, .slice k.2.1.1 k.2.1.2.1 k.2.1.2.2, .slice k.2.2.1 k.2.2.2.1 k.2.2.2.2, .int .i64 0]) (fun k => [ow s6 [.slice k.1.1 k.1.2.1 k.1.2.2] ([] : List (Int × List Int)), ow eIs [.slice k.2.1.1 k.2.1.2.1 k.2.1.2.2] (I2 (m6.filter (fun t => inR t 0 9))), ow C5 [.slice k.2.2.1 k.2.2.2.1 k.2.2.2.2] ([] : List (Int × List Int))]) := by
 refine Tr.intro Tryz.func162 rfl (n := 26) rfl (by decide +kernel) bl (fr := [(0, .slice a_seeds m_seeds c_seeds)]) rfl fun w L hR => ?_
 have hseeds := hR
 obtain ⟨rfl, lseeds⟩ := hseeds.slen
 refine Ew Z1 (Est rfl (N.alloc ty_Reached dc) (fun b2 _ => (Ev Z3 (Ey rfl ((I3 (pvs := []) (cs := [_, _, _, _]) ty_Reached pl_Reached rfl rfl).yd) (Est rfl (N.alloc ty_Reached dc) (fun b3 _ => (Est rfl (Ns [_, _, _, _] ty_Reached rfl) (fun _ _ => (Eu (Eq_ (Ew Z1 (Ei rfl (Eu (E.block (s7 (A := []) (Own.nil (E := Enc.int) (e := tI) (a := none)) rfl (f6 (congrArg (ow eIs [_]) (show [] = I2 ((m6.take 0).filter (fun t => inR t 0 9)) from by first | rfl | (simp; done) | grind [O8, d1, d2, t1, t2])) (E.loop (κ := Nat × Option Addr × Nat × Nat) (fun g => g.1 ≤ m6.length ∧ True) (fun g => [(0, .slice a_seeds m6.length c_seeds), (2, .pointer (some ⟨b2, 0, none⟩)), (3, .pointer (some ⟨b3, 0, none⟩)), (4, .int .i64 (↑g.1 : Int))]) (fun g => [ow eIs [.slice g.2.1 g.2.2.1 g.2.2.2] (I2 ((m6.take g.1).filter (fun t => inR t 0 9))), pt b3 125 [.slice none 0 0, .slice g.2.1 g.2.2.1 g.2.2.2, .slice none 0 0, .int .i64 0], pt b2 125 [.slice none 0 0, .slice none 0 0, .slice none 0 0, .int .i64 0]]) (fun g => m6.length - g.1) (0, none, 0, 0) ⟨Nat.zero_le _, by simp⟩ ⟨rfl, rfl, rfl, rfl, trivial⟩ (.refl _) (fun g pg => ?_))))))))))))))))))
 obtain ⟨g, aA0_0, mA0_0, cA0_0⟩ := g
 try dsimp only at pg
 try dsimp only
 obtain ⟨pk, pa⟩ := pg
 have jf := List.length_filter_le (fun t => inR t 0 9) (m6.take g)
 have jt := List.length_take_le g m6
 have jw := a6p (l := (m6.take g).filter (fun t => inR t 0 9))
 refine d6 m0 fun eaA0_0 laA0_0 => ?_
 subst eaA0_0
 refine Eq_ (Ew Z4 (Em rfl (Em rfl (Ey rfl ((Y.len us_Is rfl).yd) (Ey rfl ((Y.lss rfl rfl).yd) (n9 (fun q9 => ?_) (fun q9 => ?_)))))))
 ·refine Eu (o0 rfl (f9 (Et (Eq_ (E.block (Ew Z5 (Em rfl (Em rfl ?_))))))))
  obtain ⟨eb14, eo14, ea14, ei14, eh14⟩ := hseeds.elemI g om
  refine Ey rfl ((w3 us_Is f5 rfl ea14 rfl g rfl om).yd) (Ey rfl (g9 f5 rfl (eh14 _) rfl) (Est rfl (o4 N7 rfl rfl rfl dc tv) (fun _ _ => (Ent.b (fun q16 => ?_) (fun q16 => ?_)))))
  ·refine Eu (o0 rfl (D.region (fun j => !(Nat.beq j 6) && !(Nat.beq j 8)) mixed (Dyp 0 rfl (i8 fo_Reached_1 ty_Is dc rfl) (Dy 1 rfl (g9 ty_Is rfl (Hz (mS m0) 1 rfl) rfl) (Dyp 2 rfl (k6 rfl) (Dyp 3 rfl (k6 rfl) (Dyp 4 rfl (w3 us_Is f5 rfl ea14 rfl g rfl om) (Dy 5 rfl (g9 f5 rfl (eh14 _) rfl) (u7 6 rfl rfl kr (fun h => by cases h) (N.call (pre := [_]) (a3a fc) rfl rfl rfl dc rfl (fun w Lp hA => ei14)) (fun k23 _ => ?_))))))))))
   obtain ⟨a23, m23, c23⟩ := k23
   refine d6 m0 fun e23 l23 => ?_
   subst e23
   refine Dyp 7 rfl (i8 fo_Reached_1 ty_Is dc rfl) (d8 (u7 8 rfl rfl kr (fun h => by cases h) (Ns [_, _, _, _] ty_Is rfl) (fun _ _ => (t6 kr (s8 (Et (Ez Z3 (Em rfl (Ey rfl ((Y.add rfl rfl om om).yd) (Ei rfl (Eu (d8 (f6 (congrArg (ow eIs [_]) (show M3 (I2 ((m6.take g).filter (fun t => inR t 0 9))) m6[g] = I2 ((m6.take (g + 1)).filter (fun t => inR t 0 9)) from by grind [O8, d1, d2, t1, t2])) (j7 (j7 (j7 ?_))))))))))))))))
   exact Ea (g + 1, a23, (M3 (I2 ((m6.take g).filter (fun t => inR t 0 9))) m6[g]).length, c23) ⟨oz, trivial⟩
  ·refine Eu (n8 rfl (f9 (s8 (Et (Ez Z3 (Em rfl (Ey rfl ((Y.add rfl rfl om om).yd) (Ei rfl (Eu (f6 (congrArg (ow eIs [_]) (show I2 ((m6.take g).filter (fun t => inR t 0 9)) = I2 ((m6.take (g + 1)).filter (fun t => inR t 0 9)) from by grind [O8, d1, d2, t1, t2])) (j7 (j7 (j7 ?_)))))))))))))
   exact Ea (g + 1, aA0_0, (I2 ((m6.take g).filter (fun t => inR t 0 9))).length, cA0_0) ⟨oz, trivial⟩
 ·refine Eu (n8 rfl (E.exit (l3 (l3 (y4 (Et (Ew Z2 (Ey rfl (r9 (cs := [_, _, _, _]) ty_Reached rfl (Has.pt (mS m0)) rfl) (j7 (Est rfl (Ns [_, _, _, _] ty_Reached rfl) (fun _ _ => (Eu (E.ret (s7 (A := []) (Own.nil (E := K0) (e := tAccess) (a := none)) rfl (f6 (congrArg (ow C5 [_]) (show _ = ([] : List (Int × List Int)) by grind [O8, d1, d2, t1, t2])) (j7 (f6 (congrArg (ow eIs [_]) (show _ = I2 (m6.filter (fun t => inR t 0 9)) by grind [O8, d1, d2, t1, t2])) (s7 (A := []) (Own.nil (E := F6) (e := tFact) (a := none)) rfl (f6 (congrArg (ow s6 [_]) (show _ = ([] : List (Int × List Int)) by grind [O8, d1, d2, t1, t2])) (j7 (j7 (j7 ?_))))))))))))))))))))))
  exact O7 br rfl rfl (mS (mS (mS m0))) ty_Reached rfl ((none, 0, 0), (_, _, _), (none, 0, 0)) trivial rfl (J := _) (.refl _) (.inl rfl)
end Go.Proofs.YtlfhopooaejpfaaGreat
end
