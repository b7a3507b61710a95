import Derived.Test.YtdopeopehgdccaaGreatT19
namespace Go.Proofs.YtdopeopehgdccaaGreat
open Go.RowKit
set_option linter.all false
set_option maxHeartbeats 2000000
attribute [local irreducible] Nop Yd Yp Ent Has Tr FnP FnP2 Src O8 Y2 a0b a0m G5
theorem a7c {a_l : Option Addr} {m_l c_l : Nat} {l : List (List Int)} {a_more : Option Addr} {m_more c_more : Nat} {more : List (List Int)} (hz : l.length + more.length ≤ 100000000) (hym : ∀ t ∈ more, t.length ≤ 1048576) : Tr Tryz.prog 76 [.slice a_l m_l c_l, .slice a_more m_more c_more] (fun w L => Ro w L E7 [.slice a_more m_more c_more] more) [ow E7 [.slice a_l m_l c_l] l] (κ := Option Addr × Nat × Nat) (fun k => True) (fun k => .slice k.1 k.2.1 k.2.2) (fun k => [ow E7 [.slice k.1 k.2.1 k.2.2] (more.foldl H8 l)]) := by
 refine l0 Tryz.func76 rfl (n := 18) rfl (by decide +kernel) bl (fr := [(0, .slice a_l m_l c_l), (1, .slice a_more m_more c_more)]) rfl fun w L hR => ?_
 have hmore := hR
 obtain ⟨rfl, lmore⟩ := hmore.slen
 refine f5 m0 fun el ll => ?_
 subst el
 refine Ew Z1 (Ei rfl (Eu (Eq_ (Ew Z3 (Em rfl (Ey rfl ((Y.len us_Iss rfl).yd) (Em rfl (Eu (E.block (i9 (congrArg (ow E7 [_]) (show l = (more.take 0).foldl H8 l from by first | rfl | (simp; done) | grind [d1, d2, t1, t2])) (E.loop (κ := Nat × Option Addr × Nat × Nat) (fun g => g.1 ≤ more.length ∧ True) (fun g => [(0, .slice g.2.1 g.2.2.1 g.2.2.2), (7, .slice a_more more.length c_more), (8, .int .i64 (↑more.length : Int)), (9, .int .i64 (↑g.1 : Int))]) (fun g => [ow E7 [.slice g.2.1 g.2.2.1 g.2.2.2] ((more.take g.1).foldl H8 l)]) (fun g => more.length - g.1) (0, a_l, l.length, c_l) ⟨Nat.zero_le _, by simp⟩ ⟨rfl, rfl, rfl, rfl, trivial⟩ (.refl _) (fun g pg => ?_))))))))))))
 obtain ⟨g, aA0_0, mA0_0, cA0_0⟩ := g
 try dsimp only at pg
 try dsimp only
 obtain ⟨pk, pa⟩ := pg
 have jn := (a5h (n := 0) (m := more.take g) (out := l)).1
 have jp := List.length_take_le g more
 refine f5 m0 fun eaA0_0 laA0_0 => ?_
 subst eaA0_0
 refine Ew Z1 (Ey rfl ((Y.lss rfl rfl).yd) (o7 (fun q10 => ?_) (fun q10 => ?_)))
 ·obtain ⟨eb11, eo11, ec11, ea11, er11, el11, eh11⟩ := hmore.elem g om
  obtain ⟨xa11, xc11, rfl⟩ := er11.sl
  have := er11.slen.2
  refine Eu (Eq_ (o5 rfl (i7 (Et (Eq_ (E.block (Ew Z3 (Ey rfl ((s4 us_Iss ty_Is rfl ea11 rfl g rfl om).yd) (Ey rfl (g9 ty_Is rfl (eh11 _) rfl) (Ei rfl (Eu (Ez Z4 (Em rfl (Em rfl (Est rfl (N.call (pre := [_]) (a4z fo (hym _ (List.getElem_mem om))) rfl rfl rfl dc rfl (fun w Lp hA => hA.ro er11)) (fun k15 _ => ?_))))))))))))))))
  obtain ⟨a15, m15, c15⟩ := k15
  refine f5 m0 fun e15 l15 => ?_
  subst e15
  refine Ei rfl (En (t8 (Et (Ez Z2 (Ey rfl ((Y.add rfl rfl om om).yd) (Em rfl (Eu (i9 (congrArg (ow E7 [_]) (show H8 ((more.take g).foldl H8 l) more[g] = (more.take (g + 1)).foldl H8 l from by grind [d1, d2, t1, t2])) ?_))))))))
  exact Ea (g + 1, a15, (H8 ((more.take g).foldl H8 l) more[g]).length, c15) ⟨oz, trivial⟩
 ·refine Eu (Eq_ (o4 rfl (E.exit (o3 (o3 (w3 (Et (Ew Z2 (Em rfl (Ei rfl (Eu (E.ret (i9 (congrArg (ow E7 [_]) (show _ = more.foldl H8 l by grind [d1, d2, t1, t2])) ?_)))))))))))))
  exact Fg rfl rfl (_, _, _) rfl rfl
end Go.Proofs.YtdopeopehgdccaaGreat
