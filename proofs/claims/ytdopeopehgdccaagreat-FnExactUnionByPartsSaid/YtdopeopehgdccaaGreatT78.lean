import Derived.Test.YtdopeopehgdccaaGreatT27
namespace Go.Proofs.YtdopeopehgdccaaGreat
open Go.RowKit
set_option linter.all false
set_option maxHeartbeats 2000000
attribute [local irreducible] Nop Yd Yp Ent Has Tr FnP FnP2 Src O8 Y2 a0b a0m G5
variable {u : List (List Int × List (Int × List Int))} {s : List Int} {m_u c_u m_s c_s : Nat} {a_u a_s : Option Addr}
theorem a7m (hyu : ∀ q ∈ u, B9 (fun x => x.2.length) q.2 ≤ 1048576) (hyh : ∀ q ∈ u, q.1.length ≤ 1048576) (hun : u.length ≤ 1048576) : Tr Tryz.prog 157 [.slice a_u m_u c_u] (fun w L => Ro w L C4 [.slice a_u m_u c_u] u) [] (κ := Option Addr × Nat × Nat) (fun k => True) (fun k => .slice k.1 k.2.1 k.2.2) (fun k => [ow C4 [.slice k.1 k.2.1 k.2.2] u]) := by
 refine l0 Tryz.func157 rfl (n := 20) rfl (by decide +kernel) bl (fr := [(0, .slice a_u m_u c_u)]) rfl fun w L hR => ?_
 have hu := hR
 obtain ⟨rfl, lu⟩ := hu.slen
 refine Ew Z1 (Ei rfl (Ev Z2 (Est rfl (Nb [] [] us_Querys ty_Query rfl rfl) (fun b6 _ => (Ent.drop (Ei rfl (Eu (Eq_ (Ew Z3 (Em rfl (Ey rfl ((Y.len us_Querys rfl).yd) (Em rfl (Eu (E.block (s7 (A := []) (Own.nil (E := P5) (e := tQuery) (a := (some ⟨b6, 0, none⟩))) rfl (i9 (congrArg (ow C4 [_]) (show [] = u.take 0 from by first | rfl | (simp; done) | grind [d1, d2, t1, t2])) (E.loop (κ := Nat × Option Addr × Nat × Nat) (fun g => g.1 ≤ u.length ∧ True) (fun g => [(3, .slice g.2.1 g.2.2.1 g.2.2.2), (7, .slice a_u u.length c_u), (8, .int .i64 (↑u.length : Int)), (9, .int .i64 (↑g.1 : Int))]) (fun g => [ow C4 [.slice g.2.1 g.2.2.1 g.2.2.2] (u.take g.1)]) (fun g => u.length - g.1) (0, (some ⟨b6, 0, none⟩), 0, 0) ⟨Nat.zero_le _, by simp⟩ ⟨rfl, rfl, rfl, rfl, trivial⟩ (.refl _) (fun g pg => ?_))))))))))))))))))
 obtain ⟨g, aA0_0, mA0_0, cA0_0⟩ := g
 try dsimp only at pg
 try dsimp only
 obtain ⟨pk, pa⟩ := pg
 have jt := List.length_take_le g u
 refine f5 m0 fun eaA0_0 laA0_0 => ?_
 subst eaA0_0
 refine Ew Z1 (Ey rfl ((Y.lss rfl rfl).yd) (o7 (fun q10 => ?_) (fun q10 => ?_)))
 ·obtain ⟨eb11, eo11, ec11, ea11, er11, el11, eh11⟩ := hu.elem g om
  obtain ⟨xa11_0, xc11_0, xa11_1, xc11_1, rfl, xh11_0, xh11_1⟩ := S0 er11
  have := xh11_0.slen.2
  have := xh11_1.slen.2
  refine Eu (Eq_ (o5 rfl (i7 (Et (Eq_ (E.block (Ew Z4 (Ey rfl ((s4 us_Querys ty_Query rfl ea11 rfl g rfl om).yd) (Ey rfl (r9 (cs := [_, _]) ty_Query rfl (eh11 _) rfl) (Est rfl (N.alloc ty_Query dc) (fun b5 _ => (Est rfl (Ns [_, _] ty_Query rfl) (fun _ _ => (Eu (Ez Z6 (Em rfl (Ey rfl (r9 (cs := [_, _]) ty_Query rfl (Has.pt m0) rfl) (Est rfl (N.call (a8Q (hyh _ (List.getElem_mem om)) (by have h9 := hyu _ (List.getElem_mem (show g < u.length by omega)); unfold B9 at h9; omega) (a4n (hyu _ (List.getElem_mem (show g < u.length by omega))))) rfl rfl rfl dc rfl (fun w Lp hA => ⟨hA.ro xh11_0, hA.ro xh11_1⟩)) (fun k15 _ => ?_)))))))))))))))))))
  obtain ⟨⟨a15_0, m15_0, c15_0⟩, ⟨a15_1, m15_1, c15_1⟩⟩ := k15
  refine f5 m0 fun e15_0 l15_0 => ?_
  subst e15_0
  refine f5 (mS m0) fun e15_1 l15_1 => ?_
  subst e15_1
  refine Est rfl (Nb [_] [_, _] us_Querys ty_Query rfl rfl) (fun b16 _ => (o6 (o6 (o6 (x5 (Est rfl (B1 (E := P5) (ex := u[g]) us_Querys ty_Query rfl rfl rfl (S2 (x := u[g]) Own.ow Own.ow) rfl bn bn dc) (fun p17 _ => (Ei rfl (En (t8 (Et (Ez Z2 (Ey rfl ((Y.add rfl rfl om om).yd) (Em rfl (Eu (f8 (Ent.drop (i9 (congrArg (ow C4 [_]) (show (u.take g) ++ [u[g]] = u.take (g + 1) from by exact (List.take_succ_eq_append_getElem om).symm)) ?_))))))))))))))))))
  exact Ea (g + 1, p17.1, ((u.take g).length + 1), p17.2) ⟨oz, trivial⟩
 ·refine Eu (Eq_ (o4 rfl (E.exit (o3 (o3 (w3 (Et (Ew Z2 (Em rfl (Ei rfl (Eu (E.ret (i9 (congrArg (ow C4 [_]) (show _ = u by exact List.take_of_length_le om)) ?_)))))))))))))
  exact Fg rfl rfl (_, _, _) rfl rfl
theorem b1x (hyu : ∀ q ∈ u, B9 (fun x => x.2.length) q.2 ≤ 1048576) (hyh : ∀ q ∈ u, q.1.length ≤ 1048576) (hun : u.length ≤ 1048576) : Tr Tryz.prog 132 [.slice a_u m_u c_u] (fun w L => Ro w L C4 [.slice a_u m_u c_u] u) [] (κ := Option Addr × Nat × Nat) (fun k => True) (fun k => .slice k.1 k.2.1 k.2.2) (fun k => [ow C4 [.slice k.1 k.2.1 k.2.2] u]) := by
 refine l0 Tryz.func132 rfl (n := 23) rfl (by decide +kernel) bl (fr := [(0, .slice a_u m_u c_u)]) rfl fun w L hR => ?_
 have hu := hR
 obtain ⟨rfl, lu⟩ := hu.slen
 refine Ew Z1 (Ei rfl (Ev Z2 (Est rfl (Nb [] [] us_Querys ty_Query rfl rfl) (fun b6 _ => (Ent.drop (Ei rfl (Eu (Eq_ (Ew Z1 (Ei rfl (Eu (E.block (s7 (A := []) (Own.nil (E := P5) (e := tQuery) (a := (some ⟨b6, 0, none⟩))) rfl (i9 (congrArg (ow C4 [_]) (show [] = u.take 0 from by first | rfl | (simp; done) | grind [d1, d2, t1, t2])) (E.loop (κ := Nat × Option Addr × Nat × Nat) (fun g => g.1 ≤ u.length ∧ True) (fun g => [(0, .slice a_u u.length c_u), (3, .slice g.2.1 g.2.2.1 g.2.2.2), (4, .int .i64 (↑g.1 : Int))]) (fun g => [ow C4 [.slice g.2.1 g.2.2.1 g.2.2.2] (u.take g.1)]) (fun g => u.length - g.1) (0, (some ⟨b6, 0, none⟩), 0, 0) ⟨Nat.zero_le _, by simp⟩ ⟨rfl, rfl, rfl, trivial⟩ (.refl _) (fun g pg => ?_))))))))))))))))
 obtain ⟨g, aA0_0, mA0_0, cA0_0⟩ := g
 try dsimp only at pg
 try dsimp only
 obtain ⟨pk, pa⟩ := pg
 have jt := List.length_take_le g u
 refine f5 m0 fun eaA0_0 laA0_0 => ?_
 subst eaA0_0
 refine Eq_ (Ew Z4 (Em rfl (Em rfl (Ey rfl ((Y.len us_Querys rfl).yd) (Ey rfl ((Y.lss rfl rfl).yd) (o7 (fun q10 => ?_) (fun q10 => ?_)))))))
 ·refine Eu (o5 rfl (i7 (Et (Eq_ (E.block (Ew Z7 (Em rfl (Em rfl ?_))))))))
  obtain ⟨eb15, eo15, ec15, ea15, er15, el15, eh15⟩ := hu.elem g om
  obtain ⟨xa15_0, xc15_0, xa15_1, xc15_1, rfl, xh15_0, xh15_1⟩ := S0 er15
  have := xh15_0.slen.2
  have := xh15_1.slen.2
  refine Ey rfl ((s4 us_Querys ty_Query rfl ea15 rfl g rfl om).yd) (Ey rfl (r9 (cs := [_, _]) ty_Query rfl (eh15 _) rfl) (Est rfl (N.call (a4s (hyh _ (List.getElem_mem om)) (by have h9 := hyu _ (List.getElem_mem (show g < u.length by omega)); unfold B9 at h9; omega) (a4n (hyu _ (List.getElem_mem (show g < u.length by omega))))) rfl rfl rfl dc rfl (fun w Lp hA => ⟨hA.ro xh15_0, hA.ro xh15_1⟩)) (fun k17 _ => ?_)))
  obtain ⟨⟨a17_0, m17_0, c17_0⟩, ⟨a17_1, m17_1, c17_1⟩⟩ := k17
  refine f5 m0 fun e17_0 l17_0 => ?_
  subst e17_0
  refine f5 (mS m0) fun e17_1 l17_1 => ?_
  subst e17_1
  refine Est rfl (N.alloc ty_Query dc) (fun b5 _ => (Est rfl (Ns [_, _] ty_Query rfl) (fun _ _ => (Eu (Ez Z5 (Em rfl (Ey rfl (r9 (cs := [_, _]) ty_Query rfl (Has.pt m0) rfl) (Est rfl (Nb [_] [_, _] us_Querys ty_Query rfl rfl) (fun b20 _ => (v7 (v7 (o6 (x5 (Est rfl (B1 (E := P5) (ex := u[g]) us_Querys ty_Query rfl rfl rfl (S2 (x := u[g]) Own.ow Own.ow) rfl bn bn dc) (fun p21 _ => (Ei rfl (En (t8 (Et (Ez Z3 (Em rfl (Ey rfl ((Y.add rfl rfl om om).yd) (Ei rfl (Eu (f8 (Ent.drop (i9 (congrArg (ow C4 [_]) (show (u.take g) ++ [u[g]] = u.take (g + 1) from by exact (List.take_succ_eq_append_getElem om).symm)) ?_)))))))))))))))))))))))))))
  exact Ea (g + 1, p21.1, ((u.take g).length + 1), p21.2) ⟨oz, trivial⟩
 ·refine Eu (o4 rfl (E.exit (o3 (o3 (w3 (Et (Ew Z2 (Em rfl (Ei rfl (Eu (E.ret (i9 (congrArg (ow C4 [_]) (show _ = u by exact List.take_of_length_le om)) ?_))))))))))))
  exact Fg rfl rfl (_, _, _) rfl rfl
theorem a8y {ix : Int} (hyu : ∀ q ∈ u, B9 (fun x => x.2.length) q.2 ≤ 1048576) (hyh : ∀ q ∈ u, q.1.length ≤ 1048576) (hun : u.length ≤ 1048576) (hix : 0 ≤ ix) : Tr Tryz.prog 133 [.slice a_u m_u c_u, .int .i64 ix] (fun w L => Ro w L C4 [.slice a_u m_u c_u] u) [] (κ := Option Addr × Nat × Nat) (fun k => True) (fun k => .slice k.1 k.2.1 k.2.2) (fun k => [ow C4 [.slice k.1 k.2.1 k.2.2] (u.eraseIdx ix.toNat)]) := by
 refine l0 Tryz.func133 rfl (n := 28) rfl (by decide +kernel) bl (fr := [(0, .slice a_u m_u c_u), (1, .int .i64 ix)]) rfl fun w L hR => ?_
 have hu := hR
 obtain ⟨rfl, lu⟩ := hu.slen
 refine Ew Z1 (Ei rfl (Ev Z2 (Est rfl (Nb [] [] us_Querys ty_Query rfl rfl) (fun b8 _ => (Ent.drop (Ei rfl (Eu (Eq_ (Ew Z1 (Ei rfl (Eu (E.block (s7 (A := []) (Own.nil (E := P5) (e := tQuery) (a := (some ⟨b8, 0, none⟩))) rfl (i9 (congrArg (ow C4 [_]) (show [] = (u.take 0).eraseIdx ix.toNat from by simp)) (E.loop (κ := Nat × Option Addr × Nat × Nat) (fun g => g.1 ≤ u.length ∧ True) (fun g => [(0, .slice a_u u.length c_u), (1, .int .i64 ix), (5, .slice g.2.1 g.2.2.1 g.2.2.2), (6, .int .i64 (↑g.1 : Int))]) (fun g => [ow C4 [.slice g.2.1 g.2.2.1 g.2.2.2] ((u.take g.1).eraseIdx ix.toNat)]) (fun g => u.length - g.1) (0, (some ⟨b8, 0, none⟩), 0, 0) ⟨Nat.zero_le _, by simp⟩ ⟨rfl, rfl, rfl, rfl, trivial⟩ (.refl _) (fun g pg => ?_))))))))))))))))
 obtain ⟨g, aA0_0, mA0_0, cA0_0⟩ := g
 try dsimp only at pg
 try dsimp only
 obtain ⟨pk, pa⟩ := pg
 have jt := List.length_take_le g u
 have je := List.length_eraseIdx_le (u.take g) ix.toNat
 refine f5 m0 fun eaA0_0 laA0_0 => ?_
 subst eaA0_0
 refine Eq_ (Ew Z4 (Em rfl (Em rfl (Ey rfl ((Y.len us_Querys rfl).yd) (Ey rfl ((Y.lss rfl rfl).yd) (o7 (fun q12 => ?_) (fun q12 => ?_)))))))
 ·refine Eu (o5 rfl (i7 (Et (Eq_ (E.block (Ew Z3 (Em rfl (Em rfl (Ey rfl ((Y.neq rfl rfl).yd) (o7 (fun q17 => ?_) (fun q17 => ?_)))))))))))
  ·refine Eu (o5 rfl (Ew Z7 (Em rfl (Em rfl ?_))))
   obtain ⟨eb20, eo20, ec20, ea20, er20, el20, eh20⟩ := hu.elem g om
   obtain ⟨xa20_0, xc20_0, xa20_1, xc20_1, rfl, xh20_0, xh20_1⟩ := S0 er20
   have := xh20_0.slen.2
   have := xh20_1.slen.2
   refine Ey rfl ((s4 us_Querys ty_Query rfl ea20 rfl g rfl om).yd) (Ey rfl (r9 (cs := [_, _]) ty_Query rfl (eh20 _) rfl) (Est rfl (N.call (a4s (hyh _ (List.getElem_mem om)) (by have h9 := hyu _ (List.getElem_mem (show g < u.length by omega)); unfold B9 at h9; omega) (a4n (hyu _ (List.getElem_mem (show g < u.length by omega))))) rfl rfl rfl dc rfl (fun w Lp hA => ⟨hA.ro xh20_0, hA.ro xh20_1⟩)) (fun k22 _ => ?_)))
   obtain ⟨⟨a22_0, m22_0, c22_0⟩, ⟨a22_1, m22_1, c22_1⟩⟩ := k22
   refine f5 m0 fun e22_0 l22_0 => ?_
   subst e22_0
   refine f5 (mS m0) fun e22_1 l22_1 => ?_
   subst e22_1
   refine Est rfl (N.alloc ty_Query dc) (fun b7 _ => (Est rfl (Ns [_, _] ty_Query rfl) (fun _ _ => (Eu (Ez Z5 (Em rfl (Ey rfl (r9 (cs := [_, _]) ty_Query rfl (Has.pt m0) rfl) (Est rfl (Nb [_] [_, _] us_Querys ty_Query rfl rfl) (fun b25 _ => (v7 (v7 (o6 (x5 (Est rfl (B1 (E := P5) (ex := u[g]) us_Querys ty_Query rfl rfl rfl (S2 (x := u[g]) Own.ow Own.ow) rfl bn bn dc) (fun p26 _ => (Ei rfl (En (t8 (Et (Ez Z3 (Em rfl (Ey rfl ((Y.add rfl rfl om om).yd) (Ei rfl (Eu (f8 (Ent.drop (i9 (congrArg (ow C4 [_]) (show ((u.take g).eraseIdx ix.toNat) ++ [u[g]] = (u.take (g + 1)).eraseIdx ix.toNat from by first | exact b6l om q17 rfl hix | exact b0p om (Int.not_ne_iff_eq.1 q17) rfl | exact b0p om (Decidable.not_not.1 q17) rfl)) ?_)))))))))))))))))))))))))))
   exact Ea (g + 1, p26.1, (((u.take g).eraseIdx ix.toNat).length + 1), p26.2) ⟨oz, trivial⟩
  ·refine Eu (o4 rfl (i7 (t8 (Et (Ez Z3 (Em rfl (Ey rfl ((Y.add rfl rfl om om).yd) (Ei rfl (Eu (i9 (congrArg (ow C4 [_]) (show (u.take g).eraseIdx ix.toNat = (u.take (g + 1)).eraseIdx ix.toNat from by first | exact b6l om q17 rfl hix | exact b0p om (Int.not_ne_iff_eq.1 q17) rfl | exact b0p om (Decidable.not_not.1 q17) rfl)) ?_))))))))))
   exact Ea (g + 1, aA0_0, ((u.take g).eraseIdx ix.toNat).length, cA0_0) ⟨oz, trivial⟩
 ·refine Eu (o4 rfl (E.exit (o3 (o3 (w3 (Et (Ew Z2 (Em rfl (Ei rfl (Eu (E.ret (i9 (congrArg (ow C4 [_]) (show _ = u.eraseIdx ix.toNat by rw [List.take_of_length_le om])) ?_))))))))))))
  exact Fg rfl rfl (_, _, _) rfl rfl
theorem a6V (hyu : ∀ q ∈ u, B9 (fun x => x.2.length) q.2 ≤ 1048576) (hyh : ∀ q ∈ u, q.1.length ≤ 1048576) (hun : u.length ≤ 1048576) : Tr Tryz.prog 74 [.slice a_s m_s c_s, .slice a_u m_u c_u] (fun w L => Ro w L eIs [.slice a_s m_s c_s] s ∧ Ro w L C4 [.slice a_u m_u c_u] u) [] (κ := Option Addr × Nat × Nat) (fun k => True) (fun k => .slice k.1 k.2.1 k.2.2) (fun k => [ow C4 [.slice k.1 k.2.1 k.2.2] (o8 s u)]) := by
 refine l0 Tryz.func74 rfl (n := 36) rfl (by decide +kernel) bl (fr := [(0, .slice a_s m_s c_s), (1, .slice a_u m_u c_u)]) rfl fun w L hR => ?_
 obtain ⟨hs, hu⟩ := hR
 obtain ⟨rfl, ls⟩ := hs.slen
 obtain ⟨rfl, lu⟩ := hu.slen
 refine Ew Z1 (Ei rfl (Ev Z3 (Em rfl (Est rfl (N.call (a7m (by first | omega | assumption | exact ⟨by omega, by omega, by omega⟩) (by first | omega | assumption | exact ⟨by omega, by omega, by omega⟩) (by first | omega | assumption | exact ⟨by omega, by omega, by omega⟩)) rfl rfl rfl dc rfl (fun w Lp hA => hA.ro hu)) (fun k9 _ => ?_)))))
 obtain ⟨a9, m9, c9⟩ := k9
 refine f5 m0 fun e9 l9 => ?_
 subst e9
 refine Ei rfl (Eu (Eq_ (Ew Z4 (Em rfl (Em rfl (Est rfl (n0 (a5E (by first | omega | assumption | exact ⟨by omega, by omega, by omega⟩)) rfl rfl rfl dc (fun w Lp hA => ⟨hA.ro hs, hA.ro hu⟩)) (fun _ _ => (Ent.b (fun q12 => ?_) (fun q12 => ?_)))))))))
 ·refine b8p (F := a0i) rfl b6k fun ys hys => (f8 (b4I (A := [_]) rfl fun wb1 Lb1 hB1 hA1 hU1 => ?_))
  have hs := hA1.ro hs
  have hu := hA1.ro hu
  have hbor : Bor wb1 Lb1 P5 a2W ys u := hA1.elsB (fun _ => rfl) hys m0
  refine Ey rfl ((Y.not (b := true) rfl).yd) (Eu (o4 rfl (i7 (Et (Eq_ (Ew Z1 (Ei rfl (Eu (E.block (i9 (congrArg (ow Y4 [_]) (show ys = M0 dB ys (F4 s u 0) 0 from by rfl)) (E.loop (κ := Nat × Option Addr × Nat × Nat) (fun g => g.1 ≤ u.length ∧ True) (fun g => [(0, .slice a_s s.length c_s), (5, .slice g.2.1 g.2.2.1 g.2.2.2), (6, .int .i64 (↑((F4 s u g.1).length) : Int))]) (fun g => [ow Y4 [.slice g.2.1 g.2.2.1 g.2.2.2] (M0 dB ys (F4 s u g.1) g.1)]) (fun g => u.length - g.1) (0, a9, (u).length, c9) ⟨Nat.zero_le _, by trivial⟩ ⟨rfl, rfl, frI (by rfl), trivial⟩ (.refl _) (fun g pg => ?_))))))))))))
  obtain ⟨g, aA0_0, mA0_0, cA0_0⟩ := g
  try dsimp only at pg
  try dsimp only
  obtain ⟨pk, pa⟩ := pg
  have jn := b1n (d := dB) (xs := ys) (is := (F4 s u g)) (n := g)
  have jm := a8T (s := s) (u := u) (n := g)
  refine f5 m0 fun eaA0_0 laA0_0 => ?_
  subst eaA0_0
  refine Eq_ (Ew Z4 (Em rfl (Em rfl (Ey rfl ((Y.len us_Querys rfl).yd) (Ey rfl ((Y.lss rfl rfl).yd) (o7 (fun q18 => ?_) (fun q18 => ?_)))))))
  ·refine Eu (o5 rfl (i7 (Et (E.block (Ew Z7 (Em rfl (Est rfl (N.call (a9U (by first | omega | assumption | exact ⟨by omega, by omega, by omega⟩)) rfl rfl rfl dc rfl (fun w Lp hA => hA.ow m0)) (fun k20 _ => ?_))))))))
   obtain ⟨a20, m20, c20⟩ := k20
   refine f5 m0 fun e20 l20 => ?_
   subst e20
   refine Em rfl (Em rfl (Ey rfl ((Y.add rfl rfl om om).yd) (Est rfl (N.call (pre := [_]) (b0f (by first | omega | assumption | exact ⟨by omega, by omega, by omega⟩)) rfl rfl rfl dc rfl tv) (fun k24 _ => ?_))))
   obtain ⟨a24, m24, c24⟩ := k24
   refine f5 m0 fun e24 l24 => ?_
   subst e24
   refine i9 (congrArg (ow Y4 [_]) (show (M0 dB ys (F4 s u g) g).take ((F4 s u g).length) ++ (M0 dB ys (F4 s u g) g).drop ((↑((F4 s u g).length) : Int) + 1).toNat = a0K dB ys (F4 s u g) g from by exact b7q)) (Ei rfl (Ev Z7 (Em rfl (Em rfl (Em rfl (U9 (mS m0) om fun ab28 ae28 => (f8 (V7 (x := ys[g]) ((F4 s u g).length) (b1r (show g < ys.length by omega)) fun ce28 => (f8 (b4G fun  oe28  => ?_))))))))))
   subst oe28
   refine Ey rfl ((s4 us_Querys ty_Query rfl ae28 rfl ((F4 s u g).length) rfl om).yd) (Ey rfl (r9 (cs := [_, _]) ty_Query rfl (Has.hole ae28 m0) rfl) (Em rfl ?_))
   have hq2 := b4t (hbor.get g om om)
   have hbd := hbor.del (d := dB) (d' := dQ) (is := (F4 s u g)) (n := g) (fun i hi => by have := a1T i hi; omega)
   refine Est rfl (n0 (a7k (hyu _ (List.getElem_mem om)) (fun q hq => hyu q (b5o (fun i hi => by have := a1T i hi; omega) hq))) rfl rfl rfl dc (fun w Lp hA => ⟨hA.ro hs, hA.ro hq2.1, hA.ro hq2.2, hA.bQueryB (mS m0) hbd⟩)) (fun _ _ => (Ent.b (fun q31 => ?_) (fun q31 => ?_)))
   ·refine Eu (o5 rfl (Ez Z2 (Em rfl (Ei rfl (En (t8 (Et (O1 (a7R (x := ys[g]) ) rfl (Ent.drop (i9 (congrArg (ow Y4 [_]) (show a0K dB ys (F4 s u g) g = M0 dB ys (F4 s u (g + 1)) (g + 1) from by first | exact a7u om q31 | exact a2F om om q31 | exact (a2X om).trans (a2F om om q31) | exact a5j om q31 | exact a5f om q31)) ?_))))))))))
    exact w4 br (g + 1, a24, ((M0 dB ys (F4 s u g) g).take ((F4 s u g).length) ++ (M0 dB ys (F4 s u g) g).drop ((↑((F4 s u g).length) : Int) + 1).toNat).length, c24) ⟨rfl, rfl, frI (by first | exact a7u om q31 | exact a2F om om q31 | exact (a2X om).trans (a2F om om q31) | exact a5j om q31 | exact a5f om q31), trivial⟩ (.refl _) ⟨oz, (show True from by trivial)⟩ oz
   ·refine Eu (o4 rfl (Ez Z3 (Em rfl (Ey rfl ((Y.add rfl rfl om om).yd) (Ei rfl (En (t8 (Et (O1 (a7R (x := ys[g]) ) rfl (f8 (Ent.drop (i9 (congrArg (ow Y4 [_]) (show (M0 dB ys (F4 s u g) g).set ((F4 s u g).length) ys[g] = M0 dB ys (F4 s u (g + 1)) (g + 1) from by first | exact a7u om q31 | exact a2F om om q31 | exact (a2X om).trans (a2F om om q31) | exact a5j om q31 | exact a5f om q31)) ?_))))))))))))
    exact w4 br (g + 1, aA0_0, (M0 dB ys (F4 s u g) g).length, cA0_0) ⟨rfl, rfl, frI (by first | exact a7u om q31 | exact a2F om om q31 | exact (a2X om).trans (a2F om om q31) | exact a5j om q31 | exact a5f om q31), trivial⟩ (.refl _) ⟨oz, (show True from by trivial)⟩ oz
  ·refine Eu (o4 rfl (E.exit (o3 (o3 (w3 (Et (Ew Z2 (Em rfl (Ei rfl (b5W hU1 (b5V (s := s) (u := u) (n := g) (d := dB) (d' := dQ) (fun _ => rfl) hys om (Eu (E.ret (f8 (b8m b0s rfl (i9 (congrArg (ow C4 [_]) (show _ = o8 s u by exact b6D q12 om om)) ?_))))))))))))))))
   exact Fg rfl rfl (_, _, _) rfl rfl
 ·refine Ey rfl ((Y.not (b := false) rfl).yd) (Eu (o5 rfl (Ew Z2 (Em rfl (Ei rfl (Eu (E.ret (l4 (i9 (congrArg (ow C4 [_]) (show _ = o8 s u by exact b3Q q12)) ?_)))))))))
  exact Fg rfl rfl (_, _, _) rfl rfl
theorem a6Q (hyu : ∀ q ∈ u, B9 (fun x => x.2.length) q.2 ≤ 1048576) (hyh : ∀ q ∈ u, q.1.length ≤ 1048576) (hun : u.length ≤ 1048576) : Tr Tryz.prog 61 [.slice a_s m_s c_s, .slice a_u m_u c_u] (fun w L => Ro w L eIs [.slice a_s m_s c_s] s ∧ Ro w L C4 [.slice a_u m_u c_u] u) [] (κ := Option Addr × Nat × Nat) (fun k => True) (fun k => .slice k.1 k.2.1 k.2.2) (fun k => [ow C4 [.slice k.1 k.2.1 k.2.2] (o8 s u)]) := by
 refine l0 Tryz.func61 rfl (n := 33) rfl (by decide +kernel) bl (fr := [(0, .slice a_s m_s c_s), (1, .slice a_u m_u c_u)]) rfl fun w L hR => ?_
 obtain ⟨hs, hu⟩ := hR
 obtain ⟨rfl, ls⟩ := hs.slen
 obtain ⟨rfl, lu⟩ := hu.slen
 refine Ew Z1 (Ei rfl (Ev Z3 (Em rfl (Est rfl (N.call (b1x (by first | omega | assumption | exact ⟨by omega, by omega, by omega⟩) (by first | omega | assumption | exact ⟨by omega, by omega, by omega⟩) (by first | omega | assumption | exact ⟨by omega, by omega, by omega⟩)) rfl rfl rfl dc rfl (fun w Lp hA => hA.ro hu)) (fun k9 _ => ?_)))))
 obtain ⟨a9, m9, c9⟩ := k9
 refine f5 m0 fun e9 l9 => ?_
 subst e9
 refine Ei rfl (Ev Z1 (Ei rfl (Eu (Eq_ (E.block (i9 (congrArg (ow C4 [_]) (show u = M0 dQ u (F4 s u 0) 0 from by rfl)) (E.loop (κ := Nat × Option Addr × Nat × Nat) (fun g => g.1 ≤ u.length ∧ (g.1 = 0 ∨ J4 s u = true)) (fun g => [(0, .slice a_s s.length c_s), (1, .slice a_u u.length c_u), (5, .slice g.2.1 g.2.2.1 g.2.2.2), (6, .int .i64 (↑((F4 s u g.1).length) : Int))]) (fun g => [ow C4 [.slice g.2.1 g.2.2.1 g.2.2.2] (M0 dQ u (F4 s u g.1) g.1)]) (fun g => u.length - g.1) (0, a9, (u).length, c9) ⟨Nat.zero_le _, by exact .inl rfl⟩ ⟨rfl, rfl, rfl, frI (by rfl), trivial⟩ (.refl _) (fun g pg => ?_))))))))
 obtain ⟨g, aA0_0, mA0_0, cA0_0⟩ := g
 try dsimp only at pg
 try dsimp only
 obtain ⟨pk, pa⟩ := pg
 have jn := b1n (d := dQ) (xs := u) (is := (F4 s u g)) (n := g)
 have jm := a8T (s := s) (u := u) (n := g)
 refine f5 m0 fun eaA0_0 laA0_0 => ?_
 subst eaA0_0
 refine Eq_ (Ew Z9 (Em rfl (Em rfl (Ey rfl ((Y.len us_Querys rfl).yd) (Ey rfl ((Y.lss rfl rfl).yd) (o7 (fun q13 => ?_) (fun q13 => ?_)))))))
 ·refine Em rfl (Em rfl (Em rfl (Est rfl (n0 (a5v (by first | omega | assumption | exact ⟨by omega, by omega, by omega⟩)) rfl rfl rfl dc (fun w Lp hA => ⟨hA.ro hs, hA.ro hu⟩)) (fun _ _ => (Ent.b (fun q17 => ?_) (fun q17 => ?_))))))
  ·refine Ey rfl ((w5 rfl rfl).yd) (Eu (o5 rfl (i7 (Et (E.block (Ew Z4 (Em rfl (Em rfl (Est rfl (N.call (a8y (fun q hq => hyu q (a7U (fun i hi => by have := a1T i hi; omega) hq)) (fun q hq => hyh q (a7U (fun i hi => by have := a1T i hi; omega) hq)) fo fo) rfl rfl rfl dc rfl (fun w Lp hA => hA.ow m0)) (fun k21 _ => ?_))))))))))
   obtain ⟨a21, m21, c21⟩ := k21
   refine f5 m0 fun e21 l21 => ?_
   subst e21
   refine i9 (congrArg (ow C4 [_]) (show (M0 dQ u (F4 s u g) g).eraseIdx ((F4 s u g).length) = a0K dQ u (F4 s u g) g from by exact b7v)) (Ei rfl (Ev Z7 (Em rfl (Em rfl (Em rfl (U9 (mS m0) om fun ab25 ae25 => (f8 (V7 (x := u[g]) ((F4 s u g).length) (b1r (show g < u.length by omega)) fun ce25 => (f8 (a4E fun oa25_0 om25_0 oc25_0 oa25_1 om25_1 oc25_1 oe25 on25_0 on25_1 => ?_))))))))))
   subst oe25
   subst on25_0
   subst on25_1
   refine Ey rfl ((s4 us_Querys ty_Query rfl ae25 rfl ((F4 s u g).length) rfl om).yd) (Ey rfl (r9 (cs := [_, _]) ty_Query rfl (Has.hole ae25 (mS (mS m0))) rfl) (Em rfl (Est rfl (n0 (a7y (hyu _ (List.getElem_mem om)) (fun q hq => hyu q (b5o (fun i hi => by have := a1T i hi; omega) hq))) rfl rfl rfl dc (fun w Lp hA => ⟨hA.ro hs, hA.ow m0, hA.ow (mS m0), hA.ow (mS (mS (mS m0)))⟩)) (fun _ _ => (Ent.b (fun q28 => ?_) (fun q28 => ?_))))))
   ·refine Eu (o5 rfl (Ez Z2 (Em rfl (Ei rfl (En (t8 (Et (f8 (f8 (o6 (O1 (S2 (x := u[g]) Own.ow Own.ow) rfl (Ent.drop (i9 (congrArg (ow C4 [_]) (show a0K dQ u (F4 s u g) g = M0 dQ u (F4 s u (g + 1)) (g + 1) from by first | exact a7u om q28 | exact a2F om om q28 | exact (a2X om).trans (a2F om om q28) | exact a5j om q28 | exact a5f om q28)) ?_)))))))))))))
    exact w4 br (g + 1, a21, ((M0 dQ u (F4 s u g) g).eraseIdx ((F4 s u g).length)).length, c21) ⟨rfl, rfl, rfl, frI (by first | exact a7u om q28 | exact a2F om om q28 | exact (a2X om).trans (a2F om om q28) | exact a5j om q28 | exact a5f om q28), trivial⟩ (.refl _) ⟨oz, (show ((g + 1) = 0 ∨ J4 s u = true) from by exact .inr q17)⟩ oz
   ·refine Eu (o4 rfl (Ez Z3 (Em rfl (Ey rfl ((Y.add rfl rfl om om).yd) (Ei rfl (En (t8 (Et (f8 (f8 (o6 (O1 (S2 (x := u[g]) Own.ow Own.ow) rfl (f8 (Ent.drop (i9 (congrArg (ow C4 [_]) (show (M0 dQ u (F4 s u g) g).set ((F4 s u g).length) u[g] = M0 dQ u (F4 s u (g + 1)) (g + 1) from by first | exact a7u om q28 | exact a2F om om q28 | exact (a2X om).trans (a2F om om q28) | exact a5j om q28 | exact a5f om q28)) ?_)))))))))))))))
    exact w4 br (g + 1, aA0_0, (M0 dQ u (F4 s u g) g).length, cA0_0) ⟨rfl, rfl, rfl, frI (by first | exact a7u om q28 | exact a2F om om q28 | exact (a2X om).trans (a2F om om q28) | exact a5j om q28 | exact a5f om q28), trivial⟩ (.refl _) ⟨oz, (show ((g + 1) = 0 ∨ J4 s u = true) from by exact .inr q17)⟩ oz
  ·refine Ey rfl ((w5 rfl rfl).yd) (Eu (o4 rfl (E.exit (o3 (o3 (w3 (Et (Ew Z2 (Em rfl (Ei rfl (Eu (E.ret (i9 (congrArg (ow C4 [_]) (show _ = o8 s u by (rcases pa with h9 | h9; (subst h9; exact b3Q q17); (rw [q17] at h9; cases h9)))) ?_)))))))))))))
   exact Fg rfl rfl (_, _, _) rfl rfl
 ·refine Em rfl (Es rfl (Es rfl (Es rfl (Ey rfl ((v8 rfl rfl).yd) (Eu (o4 rfl (E.exit (o3 (o3 (w3 (Et (Ew Z2 (Em rfl (Ei rfl (Eu (E.ret (i9 (congrArg (ow C4 [_]) (show _ = o8 s u by (cases hq9 : J4 s u with | true => exact b6D hq9 om om | false => (rcases pa with h9 | h9; (subst h9; exact b3Q hq9); (rw [hq9] at h9; cases h9))))) ?_)))))))))))))))))
  exact Fg rfl rfl (_, _, _) rfl rfl
end Go.Proofs.YtdopeopehgdccaaGreat
