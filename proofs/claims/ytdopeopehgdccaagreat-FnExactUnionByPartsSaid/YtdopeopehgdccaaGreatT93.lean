import Derived.Test.YtdopeopehgdccaaGreatT90
import Derived.Test.YtdopeopehgdccaaGreatT87
import Derived.Test.YtdopeopehgdccaaGreatGe
import Derived.Test.YtdopeopehgdccaaGreatT79
import Derived.Test.YtdopeopehgdccaaGreatT21
namespace Go.Proofs.YtdopeopehgdccaaGreat
open Go.RowKit
set_option linter.all false
set_option maxHeartbeats 8000000
attribute [local irreducible] Nop Yd Yp Ent Has Tr FnP FnP2 Src O8 Y2 a0b a0m G5
variable {l : List (Int × List Int × Int × Int × Int)} {d7 : List (Int × List Int)} {u : List (List Int × List (Int × List Int))} {s : List Int} {m_s c_s m_l c_l m_u c_u m_facts c_facts : Nat} {a_s a_l a_u a_facts : Option Addr}
theorem a3B (hyu : ∀ q ∈ u, B9 (fun x => x.2.length) q.2 ≤ 1048576) (hyh : ∀ q ∈ u, q.1.length ≤ 1048576) (hun : u.length ≤ 1048576) : Tr Tryz.prog 16 [.slice a_s m_s c_s, .slice a_l m_l c_l, .slice a_u m_u c_u, .slice a_facts m_facts c_facts] (fun w L => Ro w L eIs [.slice a_s m_s c_s] s ∧ Ro w L E1 [.slice a_l m_l c_l] l ∧ Ro w L C4 [.slice a_u m_u c_u] u ∧ Ro w L s9 [.slice a_facts m_facts c_facts] d7) [] (κ := Option Addr × Nat × Nat) (fun k => True) (fun k => .slice k.1 k.2.1 k.2.2) (fun k => [ow E7 [.slice k.1 k.2.1 k.2.2] (ubF s l u d7)]) := by
 refine l0 Tryz.func16 rfl (n := 55) rfl (by decide +kernel) bl (fr := [(0, .slice a_s m_s c_s), (1, .slice a_l m_l c_l), (2, .slice a_u m_u c_u), (3, .slice a_facts m_facts c_facts)]) rfl fun w L hR => ?_
 obtain ⟨hs, hl, hu, hfacts⟩ := hR
 obtain ⟨rfl, ls⟩ := hs.slen
 obtain ⟨rfl, ll⟩ := hl.slen
 obtain ⟨rfl, lu⟩ := hu.slen
 obtain ⟨rfl, lfacts⟩ := hfacts.slen
 refine Ew Z1 (Ei rfl (Eu (Eq_ (Ew Z16 (Em rfl (Em rfl (Est rfl (n0 a8v rfl rfl rfl dc (fun w Lp hA => ⟨hA.ro hs, hA.ro hl⟩)) (fun _ _ => (Ent.b (fun q16 => ?_) (fun q16 => ?_))))))))))
 ·refine Ey rfl ((Y.not (b := true) rfl).yd) (Em rfl (Em rfl (Em rfl (Est rfl (n0 (a5E fo) rfl rfl rfl dc (fun w Lp hA => ⟨hA.ro hs, hA.ro hu⟩)) (fun _ _ => (Ent.b (fun q21 => ?_) (fun q21 => ?_)))))))
  ·refine Ey rfl ((Y.not (b := true) rfl).yd) (Ey rfl ((v8 rfl rfl).yd) (Em rfl (Em rfl (Em rfl (Est rfl (n0 b0b rfl rfl rfl dc (fun w Lp hA => ⟨hA.ro hs, hA.ro hfacts⟩)) (fun _ _ => (Ent.b (fun q27 => ?_) (fun q27 => ?_))))))))
   ·refine Ey rfl ((Y.not (b := true) rfl).yd) (Ey rfl ((v8 rfl rfl).yd) (Eu (o4 rfl (i7 (Et (Ew Z2 (Est rfl (Nb [] [] us_Iss ty_Is rfl rfl) (fun b30 _ => (Ent.drop (Ei rfl (Eu (Eq_ (Ew Z5 (Em rfl (Em rfl (Est rfl (N.call (a6V hyu hyh om) rfl rfl rfl dc rfl (fun w Lp hA => ⟨hA.ro hs, hA.ro hu⟩)) (fun k33 _ => ?_)))))))))))))))))
    obtain ⟨a33, m33, c33⟩ := k33
    refine f5 m0 fun e33 l33 => ?_
    subst e33
    refine Ey rfl ((Y.len us_Querys rfl).yd) (Em rfl (Eu (E.block (s7 (A := []) (Own.nil (E := eIs) (e := tIs) (a := (some ⟨b30, 0, none⟩))) rfl (i9 (congrArg (ow E7 [_]) (show [] = ((o8 s u).take 0).foldl (ubS s l d7) [] from by rfl)) (E.loop (κ := Nat × Option Addr × Nat × Nat) (fun g => g.1 ≤ (o8 s u).length ∧ True) (fun g => [(0, .slice a_s s.length c_s), (1, .slice a_l l.length c_l), (3, .slice a_facts d7.length c_facts), (9, .slice g.2.1 g.2.2.1 g.2.2.2), (33, .slice a33 (o8 s u).length c33), (34, .int .i64 (↑((o8 s u).length) : Int)), (35, .int .i64 (↑g.1 : Int))]) (fun g => [ow E7 [.slice g.2.1 g.2.2.1 g.2.2.2] (((o8 s u).take g.1).foldl (ubS s l d7) []), ow C4 [.slice a33 (o8 s u).length c33] (o8 s u)]) (fun g => (o8 s u).length - g.1) (0, (some ⟨b30, 0, none⟩), 0, 0) ⟨Nat.zero_le _, by simp⟩ ⟨rfl, rfl, rfl, rfl, rfl, rfl, rfl, trivial⟩ (.refl _) (fun g pg => ?_)))))))
    obtain ⟨g, aA0_0, mA0_0, cA0_0⟩ := g
    try dsimp only at pg
    try dsimp only
    obtain ⟨pk, pa⟩ := pg
    have jb : ubB s l u d7 = true := b5O q16 q21 q27
    have jml := a8d (s := s) (u := u)
    have jt := b5i (g := g) (h := 0) (m := []) jb (by simp) (by simp)
    rw [List.take_nil, List.foldl_nil] at jt
    refine f5 m0 fun eaA0_0 laA0_0 => ?_
    subst eaA0_0
    refine Ew Z1 (Ey rfl ((Y.lss rfl rfl).yd) (o7 (fun q36 => ?_) (fun q36 => ?_)))
    ·refine U9 (mS m0) om fun ab37 ae37 => (Eu (Eq_ (o5 rfl (i7 (Et (Eq_ (E.block (Ew Z4 (f8 (V7 (x := (o8 s u)[g]) g (List.getElem?_eq_getElem om) fun ce37 => ?_))))))))))
     refine f8 (a4E fun oa37_0 om37_0 oc37_0 oa37_1 om37_1 oc37_1 oe37 on37_0 on37_1 => ?_)
     subst oe37
     subst on37_0
     subst on37_1
     refine Ey rfl ((s4 us_Querys ty_Query rfl ae37 rfl g rfl om).yd) (Ey rfl (r9 (cs := [_, _]) ty_Query rfl (Has.hole ae37 (mS (mS m0))) rfl) (Est rfl (N.alloc ty_Query dc) (fun b11 _ => (Est rfl (Ns [_, _] ty_Query rfl) (fun _ _ => (Ev Z10 (Em rfl (Em rfl (Ey rfl (r9 (cs := [_, _]) ty_Query rfl (Has.pt m0) rfl) ?_)))))))))
     have jq0 := b9J q21 (o8 s u)[g] (List.getElem_mem om)
     have jq := F7 jq0
     have jl := (a0w q16).2
     refine Est rfl (N.call (b4C jl jq.1 jq.2.1 jq.2.2) rfl rfl rfl dc rfl (fun w Lp hA => ⟨hA.ro hs, hA.ro hl, hA.ow (mS m0), hA.ow (mS (mS m0))⟩)) (fun k43 _ => ?_)
     obtain ⟨⟨a43_0, m43_0, c43_0⟩, ⟨a43_1, m43_1, c43_1⟩⟩ := k43
     refine f5 m0 fun e43_0 l43_0 => ?_
     subst e43_0
     refine f5 (mS m0) fun e43_1 l43_1 => ?_
     subst e43_1
     refine Em rfl (Ey rfl ((Y.ext rfl rfl).yd) (Ey rfl ((Y.ext rfl rfl).yd) (Est rfl (N.alloc ty_Query dc) (fun b12 _ => (Est rfl (Ns [_, _] ty_Query rfl) (fun _ _ => (Ei rfl (Ent.b (fun q13 => ?_) (fun q13 => ?_)))))))))
     ·have jp : S8 s l (o8 s u)[g] = true := (b6O q16 jq0).symm.trans q13
      have jr := b1i jp q27
      refine Ev Z1 (Em rfl (Eu (o5 rfl (Ez Z7 (Em rfl (Em rfl (Ey rfl (r9 (cs := [_, _]) ty_Query rfl (Has.pt m0) rfl) (Em rfl (Est rfl (N.call (b1a (b4P jp) q27) rfl rfl rfl dc rfl (fun w Lp hA => ⟨hA.ro hl, hA.ow (mS m0), hA.ow (mS (mS m0)), hA.ro hfacts⟩)) (fun k51 _ => ?_))))))))))
      obtain ⟨a51, m51, c51⟩ := k51
      refine f5 m0 fun e51 l51 => ?_
      subst e51
      refine C0 (Est rfl (N.call (pre := [_]) (a7c om (fun t ht => Nat.le_trans (jr.2.2 t ht) dc)) rfl rfl rfl dc rfl (fun w Lp hA => hA.ow m0)) (fun k52 _ => ?_))
      obtain ⟨a52, m52, c52⟩ := k52
      refine f5 m0 fun e52 l52 => ?_
      subst e52
      refine Ei rfl (En (t8 (Et (Ez Z2 (Ey rfl ((Y.add rfl rfl om om).yd) (Em rfl (Eu (F9 (F9 (C0 (O1 (S2 (x := (o8 s u)[g]) Own.ow Own.ow) rfl (i9 (congrArg (ow C4 [_]) (List.set_getElem_self om)) (o6 (Ent.drop (o6 (Ent.drop (o6 (Ent.drop (o6 (Ent.drop (o6 (Ent.drop (f8 (i9 (congrArg (ow E7 [_]) (show (S9 l (((o8 s u)[g].1), (G3 l ((o8 s u)[g].2))) d7).foldl H8 (((o8 s u).take g).foldl (ubS s l d7) []) = ((o8 s u).take (g + 1)).foldl (ubS s l d7) [] from by first | exact b5H om jp | exact b2K om jp)) (f8 (f8 ?_))))))))))))))))))))))))))
      exact Ea (g + 1, a52, ((S9 l (((o8 s u)[g].1), (G3 l ((o8 s u)[g].2))) d7).foldl H8 (((o8 s u).take g).foldl (ubS s l d7) [])).length, c52) ⟨oz, trivial⟩
     ·have jp : S8 s l (o8 s u)[g] = false := (b6O q16 jq0).symm.trans q13
      refine Ev Z1 (Em rfl (Eu (o4 rfl (i7 (t8 (Et (Ez Z2 (Ey rfl ((Y.add rfl rfl om om).yd) (Em rfl (Eu (y6 (y6 (x7 (O1 (S2 (x := (o8 s u)[g]) Own.ow Own.ow) rfl (i9 (congrArg (ow C4 [_]) (List.set_getElem_self om)) (f8 (Ent.drop (f8 (Ent.drop (f8 (Ent.drop (f8 (Ent.drop (f8 (i9 (congrArg (ow E7 [_]) (show ((o8 s u).take g).foldl (ubS s l d7) [] = ((o8 s u).take (g + 1)).foldl (ubS s l d7) [] from by first | exact b5H om jp | exact b2K om jp)) (f8 (f8 ?_)))))))))))))))))))))))))))
      exact Ea (g + 1, aA0_0, (((o8 s u).take g).foldl (ubS s l d7) []).length, cA0_0) ⟨oz, trivial⟩
    ·refine Eu (Eq_ (o4 rfl (E.exit (o3 (o3 (w3 (Et (Ew Z2 (Em rfl (Ei rfl (Eu (E.ret (i9 (congrArg (ow E7 [_]) (show _ = ubF s l u d7 by exact b6s (b5O q16 q21 q27) om)) ?_)))))))))))))
     exact Fg rfl rfl (_, _, _) rfl rfl
   ·refine Ey rfl ((Y.not (b := false) rfl).yd) (Ey rfl ((v8 rfl rfl).yd) (Eu (o5 rfl (Ew Z1 (Ei rfl (Eu (E.ret (l4 (s7 (A := []) (Own.nil (E := eIs) (e := tIs) (a := none)) rfl (i9 (congrArg (ow E7 [_]) (show _ = ubF s l u d7 by exact c0b q27)) ?_))))))))))
    exact Fg rfl rfl (none, 0, 0) rfl rfl
  ·refine Ey rfl ((Y.not (b := false) rfl).yd) (Ey rfl ((v8 rfl rfl).yd) (Em rfl (Es rfl (Es rfl (Es rfl (Es rfl (Ey rfl ((w5 rfl rfl).yd) (Eu (o5 rfl (Ew Z1 (Ei rfl (Eu (E.ret (l4 (s7 (A := []) (Own.nil (E := eIs) (e := tIs) (a := none)) rfl (i9 (congrArg (ow E7 [_]) (show _ = ubF s l u d7 by exact c0s q21)) ?_))))))))))))))))
   exact Fg rfl rfl (none, 0, 0) rfl rfl
 ·refine Ey rfl ((Y.not (b := false) rfl).yd) (Em rfl (Es rfl (Es rfl (Es rfl (Es rfl (Ey rfl ((w5 rfl rfl).yd) (Em rfl (Es rfl (Es rfl (Es rfl (Es rfl (Ey rfl ((w5 rfl rfl).yd) (Eu (o5 rfl (Ew Z1 (Ei rfl (Eu (E.ret (l4 (s7 (A := []) (Own.nil (E := eIs) (e := tIs) (a := none)) rfl (i9 (congrArg (ow E7 [_]) (show _ = ubF s l u d7 by exact c0n q16)) ?_)))))))))))))))))))))
  exact Fg rfl rfl (none, 0, 0) rfl rfl
theorem a6S (hyu : ∀ q ∈ u, B9 (fun x => x.2.length) q.2 ≤ 1048576) (hyh : ∀ q ∈ u, q.1.length ≤ 1048576) (hun : u.length ≤ 1048576) : Tr Tryz.prog 11 [.slice a_s m_s c_s, .slice a_l m_l c_l, .slice a_u m_u c_u, .slice a_facts m_facts c_facts] (fun w L => Ro w L eIs [.slice a_s m_s c_s] s ∧ Ro w L E1 [.slice a_l m_l c_l] l ∧ Ro w L C4 [.slice a_u m_u c_u] u ∧ Ro w L s9 [.slice a_facts m_facts c_facts] d7) [] (κ := Option Addr × Nat × Nat) (fun k => True) (fun k => .slice k.1 k.2.1 k.2.2) (fun k => [ow E7 [.slice k.1 k.2.1 k.2.2] (ubF s l u d7)]) := by
 refine l0 Tryz.func11 rfl (n := 85) rfl (by decide +kernel) bl (fr := [(0, .slice a_s m_s c_s), (1, .slice a_l m_l c_l), (2, .slice a_u m_u c_u), (3, .slice a_facts m_facts c_facts)]) rfl fun w L hR => ?_
 obtain ⟨hs, hl, hu, hfacts⟩ := hR
 obtain ⟨rfl, ls⟩ := hs.slen
 obtain ⟨rfl, ll⟩ := hl.slen
 obtain ⟨rfl, lu⟩ := hu.slen
 obtain ⟨rfl, lfacts⟩ := hfacts.slen
 refine Ew Z1 (Ei rfl (Ev Z2 (Est rfl (Nb [] [] us_Iss ty_Is rfl rfl) (fun b18 _ => (Ent.drop (Ei rfl (Ev Z4 (Em rfl (Em rfl (Est rfl (N.call (a6Q hyu hyh om) rfl rfl rfl dc rfl (fun w Lp hA => ⟨hA.ro hs, hA.ro hu⟩)) (fun k21 _ => ?_)))))))))))
 obtain ⟨a21, m21, c21⟩ := k21
 refine f5 m0 fun e21 l21 => ?_
 subst e21
 refine Ei rfl (Eu (Eq_ (Ew Z1 (Ei rfl (Eu (E.block (s7 (A := []) (Own.nil (E := eIs) (e := tIs) (a := (some ⟨b18, 0, none⟩))) rfl (i9 (congrArg (ow E7 [_]) (show [] = ((o8 s u).take 0).foldl (ubS s l d7) [] from by rfl)) (E.loop (κ := Nat × Option Addr × Nat × Nat) (fun g => g.1 ≤ (o8 s u).length ∧ (g.1 = 0 ∨ ubB s l u d7 = true)) (fun g => [(0, .slice a_s s.length c_s), (1, .slice a_l l.length c_l), (2, .slice a_u u.length c_u), (3, .slice a_facts d7.length c_facts), (9, .slice g.2.1 g.2.2.1 g.2.2.2), (10, .slice a21 (o8 s u).length c21), (11, .int .i64 (↑g.1 : Int))]) (fun g => [ow E7 [.slice g.2.1 g.2.2.1 g.2.2.2] (((o8 s u).take g.1).foldl (ubS s l d7) []), ow C4 [.slice a21 (o8 s u).length c21] (o8 s u)]) (fun g => (o8 s u).length - g.1) (0, (some ⟨b18, 0, none⟩), 0, 0) ⟨Nat.zero_le _, by simp⟩ ⟨rfl, rfl, rfl, rfl, rfl, rfl, rfl, trivial⟩ (.refl _) (fun g pg => ?_))))))))))
 obtain ⟨g, aA0_0, mA0_0, cA0_0⟩ := g
 try dsimp only at pg
 try dsimp only
 obtain ⟨pk, pa⟩ := pg
 have jml := a8d (s := s) (u := u)
 refine f5 m0 fun eaA0_0 laA0_0 => ?_
 subst eaA0_0
 refine Eq_ (Ew Z19 (Em rfl (Em rfl (Ey rfl ((Y.len us_Querys rfl).yd) (Ey rfl ((Y.lss rfl rfl).yd) (o7 (fun q25 => ?_) (fun q25 => ?_)))))))
 ·refine Em rfl (Em rfl (Em rfl (Est rfl (n0 a2H rfl rfl rfl dc (fun w Lp hA => ⟨hA.ro hs, hA.ro hl⟩)) (fun _ _ => (Ent.b (fun q29 => ?_) (fun q29 => ?_))))))
  ·refine Ey rfl ((w5 rfl rfl).yd) (Em rfl (Em rfl (Em rfl (Est rfl (n0 (a5v fo) rfl rfl rfl dc (fun w Lp hA => ⟨hA.ro hs, hA.ro hu⟩)) (fun _ _ => (Ent.b (fun q34 => ?_) (fun q34 => ?_)))))))
   ·refine Ey rfl ((w5 rfl rfl).yd) (Em rfl (Em rfl (Em rfl (Est rfl (n0 a3w rfl rfl rfl dc (fun w Lp hA => ⟨hA.ro hs, hA.ro hfacts⟩)) (fun _ _ => (Ent.b (fun q39 => ?_) (fun q39 => ?_)))))))
    ·have jb : ubB s l u d7 = true := b5O q29 q34 q39
     have jl := (a0w q29).2
     refine Ey rfl ((w5 rfl rfl).yd) (Eu (o5 rfl (i7 (Et (Eq_ (E.block (Ew Z13 (Em rfl (Em rfl (Em rfl (Em rfl (U9 (mS m0) om fun ab48 ae48 => (f8 (V7 (x := (o8 s u)[g]) g (List.getElem?_eq_getElem om) fun ce48 => ?_))))))))))))))
     refine f8 (a4E fun oa48_0 om48_0 oc48_0 oa48_1 om48_1 oc48_1 oe48 on48_0 on48_1 => ?_)
     subst oe48
     subst on48_0
     subst on48_1
     refine Ey rfl ((s4 us_Querys ty_Query rfl ae48 rfl g rfl om).yd) (Ey rfl (r9 (cs := [_, _]) ty_Query rfl (Has.hole ae48 (mS (mS m0))) rfl) (Est rfl (N.call (a5M (hyu _ (b5n (List.getElem_mem (show g < (o8 s u).length by omega))))) rfl rfl rfl dc rfl (fun w Lp hA => ⟨hA.ro hs, hA.ro hl, hA.ow m0, hA.ow (mS m0)⟩)) (fun k50 _ => ?_)))
     obtain ⟨⟨a50_0, m50_0, c50_0⟩, ⟨a50_1, m50_1, c50_1⟩⟩ := k50
     refine f5 m0 fun e50_0 l50_0 => ?_
     subst e50_0
     refine f5 (mS m0) fun e50_1 l50_1 => ?_
     subst e50_1
     refine Em rfl (Ey rfl ((Y.ext rfl rfl).yd) (Ey rfl ((Y.ext rfl rfl).yd) (Est rfl (N.alloc ty_Query dc) (fun b12 _ => (Est rfl (Ns [_, _] ty_Query rfl) (fun _ _ => (Ei rfl (Ent.b (fun q13 => ?_) (fun q13 => ?_)))))))))
     ·have jp : S8 s l (o8 s u)[g] = true := q13
      have jpo := F7 (c0e jp).1
      have jpz : B9 (fun x => x.2.length) (H7 s l (o8 s u)[g]) ≤ 1048576 := Nat.le_trans (b0L jpo.2.2) (Nat.le_trans (Nat.mul_le_mul_left 4 jpo.1) dc)
      have jr := b1i jp q39
      refine Eu (Eq_ (Ew Z2 (Em rfl (Ey rfl ((Y.not (b := true) rfl).yd) (Eu (o4 rfl (i7 (Et (Eq_ (D.region (fun j => true) mixed (Dyp 0 rfl (o0 rfl) (Dyp 1 rfl (o0 rfl) (Dy 3 rfl (r9 (cs := [_, _]) ty_Query rfl (Has.pt m0) rfl) ?_)))))))))))))
      obtain ⟨lB, hlB, hb_l⟩ := Ro.bMethodB hl
      have jlB := hb_l.len
      refine t6 2 rfl rfl kr (fun _ => rfl) (N.call (a7t fo) rfl rfl rfl dc rfl (fun w Lp hA => hA.ro hlB)) (fun k58 _ => ?_)
      obtain ⟨a58, m58, c58⟩ := k58
      refine f5 m0 fun e58 l58 => ?_
      subst e58
      have hby := b9H hb_l
      have jful : (C1 l).length ≤ l.length := b8k
      refine t6 4 rfl rfl kr (fun _ => rfl) (N.call (a8S jpz) rfl rfl rfl dc rfl (fun w Lp hA => ⟨hA.ro hs, hA.bMethodB m0 hby, hA.ow (mS (mS m0)), hA.ow (mS (mS (mS m0)))⟩)) (fun k60 _ => ?_)
      obtain ⟨a60, m60, c60⟩ := k60
      refine f5 m0 fun e60 l60 => ?_
      subst e60
      refine Dyp 5 rfl (o0 rfl) (Dyp 6 rfl (Y.ext rfl rfl) (Dyp 7 rfl (Y.ext rfl rfl) (Dyp 8 rfl (F0 rfl) (Dyp 9 rfl (F0 rfl) (s3 kr (Et (Eq_ (a3z (κ := Nat × Option Addr × Nat × Option Addr × Nat × Option Addr × Nat × Option Addr × Nat) (fun _ => True) (fun kM => [(0, .slice a_s s.length c_s), (1, .slice a_l l.length c_l), (2, .slice a_u u.length c_u), (3, .slice a_facts d7.length c_facts), (9, .slice aA0_0 (((o8 s u).take g).foldl (ubS s l d7) []).length cA0_0), (10, .slice a21 (o8 s u).length c21), (11, .int .i64 (g : Int)), (16, .pointer (some ⟨kM.1, 0, none⟩))]) (fun kM => [pt kM.1 57 [.slice kM.2.1 ((N0 s (C1 l) ((H9 s l (((o8 s u)[g].1), ((o8 s u)[g].2))), (H7 s l (((o8 s u)[g].1), ((o8 s u)[g].2)))) (Q7 s (C1 l) ((H9 s l (((o8 s u)[g].1), ((o8 s u)[g].2))), (H7 s l (((o8 s u)[g].1), ((o8 s u)[g].2))))) d7 0).1).length kM.2.2.1, .slice kM.2.2.2.1 ((N0 s (C1 l) ((H9 s l (((o8 s u)[g].1), ((o8 s u)[g].2))), (H7 s l (((o8 s u)[g].1), ((o8 s u)[g].2)))) (Q7 s (C1 l) ((H9 s l (((o8 s u)[g].1), ((o8 s u)[g].2))), (H7 s l (((o8 s u)[g].1), ((o8 s u)[g].2))))) d7 0).2.1).length kM.2.2.2.2.1, .slice kM.2.2.2.2.2.1 ((N0 s (C1 l) ((H9 s l (((o8 s u)[g].1), ((o8 s u)[g].2))), (H7 s l (((o8 s u)[g].1), ((o8 s u)[g].2)))) (Q7 s (C1 l) ((H9 s l (((o8 s u)[g].1), ((o8 s u)[g].2))), (H7 s l (((o8 s u)[g].1), ((o8 s u)[g].2))))) d7 0).2.2.1).length kM.2.2.2.2.2.2.1, .int .i64 ((N0 s (C1 l) ((H9 s l (((o8 s u)[g].1), ((o8 s u)[g].2))), (H7 s l (((o8 s u)[g].1), ((o8 s u)[g].2)))) (Q7 s (C1 l) ((H9 s l (((o8 s u)[g].1), ((o8 s u)[g].2))), (H7 s l (((o8 s u)[g].1), ((o8 s u)[g].2))))) d7 0).2.2.2)], ow E7 [.slice kM.2.1 ((N0 s (C1 l) ((H9 s l (((o8 s u)[g].1), ((o8 s u)[g].2))), (H7 s l (((o8 s u)[g].1), ((o8 s u)[g].2)))) (Q7 s (C1 l) ((H9 s l (((o8 s u)[g].1), ((o8 s u)[g].2))), (H7 s l (((o8 s u)[g].1), ((o8 s u)[g].2))))) d7 0).1).length kM.2.2.1] ((N0 s (C1 l) ((H9 s l (((o8 s u)[g].1), ((o8 s u)[g].2))), (H7 s l (((o8 s u)[g].1), ((o8 s u)[g].2)))) (Q7 s (C1 l) ((H9 s l (((o8 s u)[g].1), ((o8 s u)[g].2))), (H7 s l (((o8 s u)[g].1), ((o8 s u)[g].2))))) d7 0).1), ow G8 [.slice kM.2.2.2.1 ((N0 s (C1 l) ((H9 s l (((o8 s u)[g].1), ((o8 s u)[g].2))), (H7 s l (((o8 s u)[g].1), ((o8 s u)[g].2)))) (Q7 s (C1 l) ((H9 s l (((o8 s u)[g].1), ((o8 s u)[g].2))), (H7 s l (((o8 s u)[g].1), ((o8 s u)[g].2))))) d7 0).2.1).length kM.2.2.2.2.1] ((N0 s (C1 l) ((H9 s l (((o8 s u)[g].1), ((o8 s u)[g].2))), (H7 s l (((o8 s u)[g].1), ((o8 s u)[g].2)))) (Q7 s (C1 l) ((H9 s l (((o8 s u)[g].1), ((o8 s u)[g].2))), (H7 s l (((o8 s u)[g].1), ((o8 s u)[g].2))))) d7 0).2.1), ow s9 [.slice kM.2.2.2.2.2.1 ((N0 s (C1 l) ((H9 s l (((o8 s u)[g].1), ((o8 s u)[g].2))), (H7 s l (((o8 s u)[g].1), ((o8 s u)[g].2)))) (Q7 s (C1 l) ((H9 s l (((o8 s u)[g].1), ((o8 s u)[g].2))), (H7 s l (((o8 s u)[g].1), ((o8 s u)[g].2))))) d7 0).2.2.1).length kM.2.2.2.2.2.2.1] ((N0 s (C1 l) ((H9 s l (((o8 s u)[g].1), ((o8 s u)[g].2))), (H7 s l (((o8 s u)[g].1), ((o8 s u)[g].2)))) (Q7 s (C1 l) ((H9 s l (((o8 s u)[g].1), ((o8 s u)[g].2))), (H7 s l (((o8 s u)[g].1), ((o8 s u)[g].2))))) d7 0).2.2.1), ow H1 [.slice kM.2.2.2.2.2.2.2.1 (W5 lB).length kM.2.2.2.2.2.2.2.2] (W5 lB), ow P2 [.slice a60 (Q7 s (C1 l) ((H9 s l (((o8 s u)[g].1), ((o8 s u)[g].2))), (H7 s l (((o8 s u)[g].1), ((o8 s u)[g].2))))).length c60] (Q7 s (C1 l) ((H9 s l (((o8 s u)[g].1), ((o8 s u)[g].2))), (H7 s l (((o8 s u)[g].1), ((o8 s u)[g].2))))), ow H1 [.slice a58 (W5 lB).length c58] (W5 lB), pt b12 61 [.slice a50_0 (H9 s l (((o8 s u)[g].1), ((o8 s u)[g].2))).length c50_0, .slice a50_1 (H7 s l (((o8 s u)[g].1), ((o8 s u)[g].2))).length c50_1], ow eIs [.slice a50_0 (H9 s l (((o8 s u)[g].1), ((o8 s u)[g].2))).length c50_0] (H9 s l (((o8 s u)[g].1), ((o8 s u)[g].2))), ow w9 [.slice a50_1 (H7 s l (((o8 s u)[g].1), ((o8 s u)[g].2))).length c50_1] (H7 s l (((o8 s u)[g].1), ((o8 s u)[g].2))), ow eIs [.slice oa48_0 ((o8 s u)[g].1.length) oc48_0] ((o8 s u)[g].1), ow w9 [.slice oa48_1 ((o8 s u)[g].2.length) oc48_1] ((o8 s u)[g].2), hole tQuery P5 a21 ((o8 s u).length) c21 (o8 s u) g [.slice oa48_0 ((o8 s u)[g].1.length) oc48_0, .slice oa48_1 ((o8 s u)[g].2.length) oc48_1], ow E7 [.slice aA0_0 (((o8 s u).take g).foldl (ubS s l d7) []).length cA0_0] (((o8 s u).take g).foldl (ubS s l d7) [])]) ?_ (fun kM _ => ?_)))))))))
      ·refine D.region (fun j => !(Nat.beq j 8)) mixed (Dyp 0 rfl (o0 rfl) (Dyp 1 rfl (o0 rfl) (Dy 3 rfl (r9 (cs := [_, _]) ty_Query rfl (Has.pt (mS (mS m0))) rfl) (Dyp 4 rfl (o0 rfl) (Dyp 5 rfl (o0 rfl) (a1i (i := 2) (j := 7) kr ?_ ?_))))))
       ·refine V3 2 rfl rfl (fun _ => rfl) (N.call (a7t fo) rfl rfl rfl dc rfl (fun w Lp hA => hA.ro hlB)) (fun k65 _ => ?_)
        obtain ⟨a65, m65, c65⟩ := k65
        refine f5 m0 fun e65 l65 => ?_
        subst e65
        refine a1i (i := 6) (j := 7) kr ?_ ?_
        ·refine V3 6 rfl rfl (fun _ => rfl) (N.call (a3n jpz) rfl rfl rfl dc rfl (fun w Lp hA => ⟨hA.ro hs, hA.bMethodB m0 hby, hA.ow (mS (mS (mS (mS m0)))), hA.ow (mS (mS (mS (mS (mS m0))))), hA.ow (mS m0), hA.ro hfacts⟩)) (fun k69 _ => ?_)
         obtain ⟨⟨a69_0, m69_0, c69_0⟩, ⟨a69_1, m69_1, c69_1⟩, ⟨a69_2, m69_2, c69_2⟩⟩ := k69
         refine f5 m0 fun e69_0 l69_0 => ?_
         subst e69_0
         refine f5 (mS m0) fun e69_1 l69_1 => ?_
         subst e69_1
         refine f5 (mS (mS m0)) fun e69_2 l69_2 => ?_
         subst e69_2
         refine t6 7 rfl rfl kr (fun _ => rfl) (N.alloc ty_Run dc) (fun b16 _ => (t6 8 rfl rfl kr (fun h => by cases h) (Ns [_, _, _, _] ty_Run rfl) (fun _ _ => (s3 kr (D3 (D3 (D3 (D3 (D3 (D3 (D3 (D3 (D3 (D3 (D3 (D3 (D3 (D3 ?_))))))))))))))))))
         exact P9 (b16, a69_0, c69_0, a69_1, c69_1, a69_2, c69_2, a65, c65) trivial ⟨rfl, rfl, rfl, rfl, rfl, rfl, rfl, rfl, trivial⟩ (.refl _)
        ·refine V3 7 rfl rfl (fun _ => rfl) (N.alloc ty_Run dc) (fun b16 _ => (t6 6 rfl rfl kr (fun _ => rfl) (N.call (a3n jpz) rfl rfl rfl dc rfl (fun w Lp hA => ⟨hA.ro hs, hA.bMethodB (mS m0) hby, hA.ow (mS (mS (mS (mS (mS m0))))), hA.ow (mS (mS (mS (mS (mS (mS m0)))))), hA.ow (mS (mS m0)), hA.ro hfacts⟩)) (fun k69 _ => ?_)))
         obtain ⟨⟨a69_0, m69_0, c69_0⟩, ⟨a69_1, m69_1, c69_1⟩, ⟨a69_2, m69_2, c69_2⟩⟩ := k69
         refine f5 m0 fun e69_0 l69_0 => ?_
         subst e69_0
         refine f5 (mS m0) fun e69_1 l69_1 => ?_
         subst e69_1
         refine f5 (mS (mS m0)) fun e69_2 l69_2 => ?_
         subst e69_2
         refine v7 (t6 8 rfl rfl kr (fun h => by cases h) (Ns [_, _, _, _] ty_Run rfl) (fun _ _ => (s3 kr (D3 (D3 (D3 (D3 (D3 (D3 (D3 (D3 (D3 (D3 (D3 (D3 (D3 (D3 ?_)))))))))))))))))
         exact P9 (b16, a69_0, c69_0, a69_1, c69_1, a69_2, c69_2, a65, c65) trivial ⟨rfl, rfl, rfl, rfl, rfl, rfl, rfl, rfl, trivial⟩ (.refl _)
       ·refine V3 7 rfl rfl (fun _ => rfl) (N.alloc ty_Run dc) (fun b16 _ => (t6 2 rfl rfl kr (fun _ => rfl) (N.call (a7t fo) rfl rfl rfl dc rfl (fun w Lp hA => hA.ro hlB)) (fun k65 _ => ?_)))
        obtain ⟨a65, m65, c65⟩ := k65
        refine f5 m0 fun e65 l65 => ?_
        subst e65
        refine t6 6 rfl rfl kr (fun _ => rfl) (N.call (a3n jpz) rfl rfl rfl dc rfl (fun w Lp hA => ⟨hA.ro hs, hA.bMethodB m0 hby, hA.ow (mS (mS (mS (mS (mS m0))))), hA.ow (mS (mS (mS (mS (mS (mS m0)))))), hA.ow (mS (mS m0)), hA.ro hfacts⟩)) (fun k69 _ => ?_)
        obtain ⟨⟨a69_0, m69_0, c69_0⟩, ⟨a69_1, m69_1, c69_1⟩, ⟨a69_2, m69_2, c69_2⟩⟩ := k69
        refine f5 m0 fun e69_0 l69_0 => ?_
        subst e69_0
        refine f5 (mS m0) fun e69_1 l69_1 => ?_
        subst e69_1
        refine f5 (mS (mS m0)) fun e69_2 l69_2 => ?_
        subst e69_2
        refine x5 (t6 8 rfl rfl kr (fun h => by cases h) (Ns [_, _, _, _] ty_Run rfl) (fun _ _ => (s3 kr (D3 (D3 (D3 (D3 (D3 (D3 (D3 (D3 (D3 (D3 (D3 (D3 (D3 (D3 ?_)))))))))))))))))
        exact P9 (b16, a69_0, c69_0, a69_1, c69_1, a69_2, c69_2, a65, c65) trivial ⟨rfl, rfl, rfl, rfl, rfl, rfl, rfl, rfl, trivial⟩ (.refl _)
      ·obtain ⟨b16, a69_0, c69_0, a69_1, c69_1, a69_2, c69_2, a65, c65⟩ := kM
       try dsimp only
       refine Et (Ew Z1 (f8 (i9 (congrArg (ow E7 [_]) (show (N0 s (C1 l) ((H9 s l (((o8 s u)[g].1), ((o8 s u)[g].2))), (H7 s l (((o8 s u)[g].1), ((o8 s u)[g].2)))) (Q7 s (C1 l) ((H9 s l (((o8 s u)[g].1), ((o8 s u)[g].2))), (H7 s l (((o8 s u)[g].1), ((o8 s u)[g].2))))) d7 0).1 = (S9 l ((o8 s u)[g].1, G3 l (o8 s u)[g].2) d7) from by exact b9m jp q39)) (f5 m0 fun e17 _ => (Ei rfl (Eu (E.block (D3 (i9 (congrArg (ow E7 [_]) (show ((o8 s u).take g).foldl (ubS s l d7) [] = ((S9 l ((o8 s u)[g].1, G3 l (o8 s u)[g].2) d7).take 0).foldl H8 (((o8 s u).take g).foldl (ubS s l d7) []) from by rfl)) (E.loop (κ := Nat × Option Addr × Nat × Nat) (fun h => h.1 ≤ (S9 l ((o8 s u)[g].1, G3 l (o8 s u)[g].2) d7).length ∧ True) (fun h => [(0, .slice a_s s.length c_s), (1, .slice a_l l.length c_l), (2, .slice a_u u.length c_u), (3, .slice a_facts d7.length c_facts), (9, .slice h.2.1 h.2.2.1 h.2.2.2), (10, .slice a21 (o8 s u).length c21), (11, .int .i64 (g : Int)), (16, .pointer (some ⟨b16, 0, none⟩)), (17, .int .i64 (↑h.1 : Int))]) (fun h => [ow E7 [.slice h.2.1 h.2.2.1 h.2.2.2] (((S9 l ((o8 s u)[g].1, G3 l (o8 s u)[g].2) d7).take h.1).foldl H8 (((o8 s u).take g).foldl (ubS s l d7) [])), ow E7 [.slice a69_0 ((N0 s (C1 l) ((H9 s l (((o8 s u)[g].1), ((o8 s u)[g].2))), (H7 s l (((o8 s u)[g].1), ((o8 s u)[g].2)))) (Q7 s (C1 l) ((H9 s l (((o8 s u)[g].1), ((o8 s u)[g].2))), (H7 s l (((o8 s u)[g].1), ((o8 s u)[g].2))))) d7 0).1).length c69_0] (S9 l ((o8 s u)[g].1, G3 l (o8 s u)[g].2) d7), pt b16 57 [.slice a69_0 ((N0 s (C1 l) ((H9 s l (((o8 s u)[g].1), ((o8 s u)[g].2))), (H7 s l (((o8 s u)[g].1), ((o8 s u)[g].2)))) (Q7 s (C1 l) ((H9 s l (((o8 s u)[g].1), ((o8 s u)[g].2))), (H7 s l (((o8 s u)[g].1), ((o8 s u)[g].2))))) d7 0).1).length c69_0, .slice a69_1 ((N0 s (C1 l) ((H9 s l (((o8 s u)[g].1), ((o8 s u)[g].2))), (H7 s l (((o8 s u)[g].1), ((o8 s u)[g].2)))) (Q7 s (C1 l) ((H9 s l (((o8 s u)[g].1), ((o8 s u)[g].2))), (H7 s l (((o8 s u)[g].1), ((o8 s u)[g].2))))) d7 0).2.1).length c69_1, .slice a69_2 ((N0 s (C1 l) ((H9 s l (((o8 s u)[g].1), ((o8 s u)[g].2))), (H7 s l (((o8 s u)[g].1), ((o8 s u)[g].2)))) (Q7 s (C1 l) ((H9 s l (((o8 s u)[g].1), ((o8 s u)[g].2))), (H7 s l (((o8 s u)[g].1), ((o8 s u)[g].2))))) d7 0).2.2.1).length c69_2, .int .i64 ((N0 s (C1 l) ((H9 s l (((o8 s u)[g].1), ((o8 s u)[g].2))), (H7 s l (((o8 s u)[g].1), ((o8 s u)[g].2)))) (Q7 s (C1 l) ((H9 s l (((o8 s u)[g].1), ((o8 s u)[g].2))), (H7 s l (((o8 s u)[g].1), ((o8 s u)[g].2))))) d7 0).2.2.2)], ow G8 [.slice a69_1 ((N0 s (C1 l) ((H9 s l (((o8 s u)[g].1), ((o8 s u)[g].2))), (H7 s l (((o8 s u)[g].1), ((o8 s u)[g].2)))) (Q7 s (C1 l) ((H9 s l (((o8 s u)[g].1), ((o8 s u)[g].2))), (H7 s l (((o8 s u)[g].1), ((o8 s u)[g].2))))) d7 0).2.1).length c69_1] ((N0 s (C1 l) ((H9 s l (((o8 s u)[g].1), ((o8 s u)[g].2))), (H7 s l (((o8 s u)[g].1), ((o8 s u)[g].2)))) (Q7 s (C1 l) ((H9 s l (((o8 s u)[g].1), ((o8 s u)[g].2))), (H7 s l (((o8 s u)[g].1), ((o8 s u)[g].2))))) d7 0).2.1), ow s9 [.slice a69_2 ((N0 s (C1 l) ((H9 s l (((o8 s u)[g].1), ((o8 s u)[g].2))), (H7 s l (((o8 s u)[g].1), ((o8 s u)[g].2)))) (Q7 s (C1 l) ((H9 s l (((o8 s u)[g].1), ((o8 s u)[g].2))), (H7 s l (((o8 s u)[g].1), ((o8 s u)[g].2))))) d7 0).2.2.1).length c69_2] ((N0 s (C1 l) ((H9 s l (((o8 s u)[g].1), ((o8 s u)[g].2))), (H7 s l (((o8 s u)[g].1), ((o8 s u)[g].2)))) (Q7 s (C1 l) ((H9 s l (((o8 s u)[g].1), ((o8 s u)[g].2))), (H7 s l (((o8 s u)[g].1), ((o8 s u)[g].2))))) d7 0).2.2.1), ow H1 [.slice a65 (W5 lB).length c65] (W5 lB), ow P2 [.slice a60 (Q7 s (C1 l) ((H9 s l (((o8 s u)[g].1), ((o8 s u)[g].2))), (H7 s l (((o8 s u)[g].1), ((o8 s u)[g].2))))).length c60] (Q7 s (C1 l) ((H9 s l (((o8 s u)[g].1), ((o8 s u)[g].2))), (H7 s l (((o8 s u)[g].1), ((o8 s u)[g].2))))), ow H1 [.slice a58 (W5 lB).length c58] (W5 lB), pt b12 61 [.slice a50_0 (H9 s l (((o8 s u)[g].1), ((o8 s u)[g].2))).length c50_0, .slice a50_1 (H7 s l (((o8 s u)[g].1), ((o8 s u)[g].2))).length c50_1], ow eIs [.slice a50_0 (H9 s l (((o8 s u)[g].1), ((o8 s u)[g].2))).length c50_0] (H9 s l (((o8 s u)[g].1), ((o8 s u)[g].2))), ow w9 [.slice a50_1 (H7 s l (((o8 s u)[g].1), ((o8 s u)[g].2))).length c50_1] (H7 s l (((o8 s u)[g].1), ((o8 s u)[g].2))), ow eIs [.slice oa48_0 ((o8 s u)[g].1.length) oc48_0] ((o8 s u)[g].1), ow w9 [.slice oa48_1 ((o8 s u)[g].2.length) oc48_1] ((o8 s u)[g].2), hole tQuery P5 a21 ((o8 s u).length) c21 (o8 s u) g [.slice oa48_0 ((o8 s u)[g].1.length) oc48_0, .slice oa48_1 ((o8 s u)[g].2.length) oc48_1]]) (fun h => (S9 l ((o8 s u)[g].1, G3 l (o8 s u)[g].2) d7).length - h.1) (0, aA0_0, (((o8 s u).take g).foldl (ubS s l d7) []).length, cA0_0) ⟨Nat.zero_le _, by simp⟩ ⟨rfl, rfl, rfl, rfl, rfl, rfl, rfl, rfl, rfl, trivial⟩ (.refl _) (fun h ph => ?_)))))))))))
       obtain ⟨h, aA1_0, mA1_0, cA1_0⟩ := h
       try dsimp only at ph
       try dsimp only
       obtain ⟨pk, pa⟩ := ph
       have jt := b5i (g := g) (h := h) (m := (S9 l ((o8 s u)[g].1, G3 l (o8 s u)[g].2) d7)) jb jr.2.1 jr.2.2
       refine f5 m0 fun eaA1_0 laA1_0 => ?_
       subst eaA1_0
       refine Eq_ (Ew Z5 (Em rfl (Ey rfl ((j6 fo_Run_0 ty_Iss dc rfl).yd) (Ey rfl (g9 ty_Iss rfl (Hz (mS (mS m0)) 0 rfl) rfl) (Ey rfl ((Y.len us_Iss rfl).yd) (Ey rfl ((Y.lss rfl rfl).yd) (o7 (fun q74 => ?_) (fun q74 => ?_))))))))
       ·refine Eu (o5 rfl (i7 (Et (Eq_ (E.block (Ez Z8 (Em rfl (Ey rfl ((j6 fo_Run_0 ty_Iss dc rfl).yd) (Ey rfl (g9 ty_Iss rfl (Hz (mS (mS m0)) 0 rfl) rfl) (Em rfl (U9 (mS m0) om fun ab81 ae81 => (f8 (V7 (x := (S9 l ((o8 s u)[g].1, G3 l (o8 s u)[g].2) d7)[h]) h (List.getElem?_eq_getElem om) fun ce81 => ?_)))))))))))))
        refine f8 (b5x fun oa81_0 om81_0 oc81_0 oe81 on81_0 => ?_)
        subst oe81
        subst on81_0
        refine Ey rfl ((s4 us_Iss ty_Is rfl ae81 rfl h rfl om).yd) (Ey rfl (g9 ty_Is rfl (Has.hole ae81 (mS m0)) rfl) (Est rfl (N.call (a5i (Nat.le_trans jt.1 dc) jt.2 (Nat.le_trans (jr.2.2 _ (List.getElem_mem om)) dc)) rfl rfl rfl dc rfl (fun w Lp hA => ⟨hA.ow (mS (mS m0)), hA.ow m0⟩)) (fun k83 _ => ?_)))
        obtain ⟨a83, m83, c83⟩ := k83
        refine f5 m0 fun e83 l83 => ?_
        subst e83
        refine Ei rfl (En (t8 (Et (Ez Z3 (Em rfl (Ey rfl ((Y.add rfl rfl om om).yd) (Ei rfl (Eu (f8 (o6 (O1 Own.ow rfl (i9 (congrArg (ow E7 [_]) (List.set_getElem_self om)) (o6 (Ent.drop (f8 (i9 (congrArg (ow E7 [_]) (show H8 (((S9 l ((o8 s u)[g].1, G3 l (o8 s u)[g].2) d7).take h).foldl H8 (((o8 s u).take g).foldl (ubS s l d7) [])) ((S9 l ((o8 s u)[g].1, G3 l (o8 s u)[g].2) d7)[h]) = ((S9 l ((o8 s u)[g].1, G3 l (o8 s u)[g].2) d7).take (h + 1)).foldl H8 (((o8 s u).take g).foldl (ubS s l d7) []) from by grind [d1, d2, t1, t2])) (D3 (D3 (D3 (D3 (D3 (D3 (D3 (D3 (D3 (D3 (D3 (D3 (D3 (D3 ?_))))))))))))))))))))))))))))))
        exact Ea (h + 1, a83, (H8 (((S9 l ((o8 s u)[g].1, G3 l (o8 s u)[g].2) d7).take h).foldl H8 (((o8 s u).take g).foldl (ubS s l d7) [])) ((S9 l ((o8 s u)[g].1, G3 l (o8 s u)[g].2) d7)[h])).length, c83) ⟨oz, trivial⟩
       ·refine Eu (o4 rfl (E.exit (o3 (o3 (w3 (t8 (Et (Ez Z3 (Em rfl (Ey rfl ((Y.add rfl rfl om om).yd) (Ei rfl (Eu (G2 (G2 (D3 (O1 (S2 (x := (o8 s u)[g]) Own.ow Own.ow) rfl (i9 (congrArg (ow C4 [_]) (List.set_getElem_self om)) (o6 (Ent.drop (o6 (Ent.drop (o6 (Ent.drop (o6 (Ent.drop (o6 (Ent.drop (o6 (Ent.drop (o6 (Ent.drop (o6 (Ent.drop (o6 (Ent.drop (o6 (Ent.drop (f8 (i9 (congrArg (ow E7 [_]) (show ((S9 l ((o8 s u)[g].1, G3 l (o8 s u)[g].2) d7).take h).foldl H8 (((o8 s u).take g).foldl (ubS s l d7) []) = ((o8 s u).take (g + 1)).foldl (ubS s l d7) [] from by first | exact b2K om q13 | exact b6H om jp om)) (f8 (f8 ?_)))))))))))))))))))))))))))))))))))))))))
        exact Ea (g + 1, aA1_0, (((S9 l ((o8 s u)[g].1, G3 l (o8 s u)[g].2) d7).take h).foldl H8 (((o8 s u).take g).foldl (ubS s l d7) [])).length, cA1_0) ⟨oz, (show ((g + 1) = 0 ∨ ubB s l u d7 = true) from by exact .inr jb)⟩
     ·refine Eu (Eq_ (Ew Z2 (Em rfl (Ey rfl ((Y.not (b := false) rfl).yd) (Eu (o5 rfl (E.exit (o3 (w3 (Et (Ez Z3 (Em rfl (Ey rfl ((Y.add rfl rfl om om).yd) (Ei rfl (Eu (x5 (x5 (y6 (O1 (S2 (x := (o8 s u)[g]) Own.ow Own.ow) rfl (i9 (congrArg (ow C4 [_]) (List.set_getElem_self om)) (f8 (Ent.drop (f8 (Ent.drop (f8 (Ent.drop (f8 (i9 (congrArg (ow E7 [_]) (show ((o8 s u).take g).foldl (ubS s l d7) [] = ((o8 s u).take (g + 1)).foldl (ubS s l d7) [] from by first | exact b2K om q13 | exact b6H om jp om)) (f8 (f8 ?_))))))))))))))))))))))))))))))
      exact Ea (g + 1, aA0_0, (((o8 s u).take g).foldl (ubS s l d7) []).length, cA0_0) ⟨oz, (show ((g + 1) = 0 ∨ ubB s l u d7 = true) from by exact .inr jb)⟩
    ·refine Ey rfl ((w5 rfl rfl).yd) (Eu (o4 rfl (E.exit (o3 (o3 (w3 (Et (Ew Z2 (Em rfl (Ei rfl (Eu (E.ret (i9 (congrArg (ow E7 [_]) (show _ = ubF s l u d7 by exact a7X pa (by rw [ubB, q39, Bool.and_false, Bool.and_false]))) ?_)))))))))))))
     exact Fg rfl rfl (_, _, _) rfl rfl
   ·refine Ey rfl ((w5 rfl rfl).yd) (Em rfl (Es rfl (Es rfl (Es rfl (Ey rfl ((v8 rfl rfl).yd) (Eu (o4 rfl (E.exit (o3 (o3 (w3 (Et (Ew Z2 (Em rfl (Ei rfl (Eu (E.ret (i9 (congrArg (ow E7 [_]) (show _ = ubF s l u d7 by exact a7X pa (by rw [ubB, q34, Bool.false_and, Bool.and_false]))) ?_))))))))))))))))))
    exact Fg rfl rfl (_, _, _) rfl rfl
  ·refine Ey rfl ((w5 rfl rfl).yd) (Em rfl (Es rfl (Es rfl (Es rfl (Ey rfl ((v8 rfl rfl).yd) (Em rfl (Es rfl (Es rfl (Es rfl (Ey rfl ((v8 rfl rfl).yd) (Eu (o4 rfl (E.exit (o3 (o3 (w3 (Et (Ew Z2 (Em rfl (Ei rfl (Eu (E.ret (i9 (congrArg (ow E7 [_]) (show _ = ubF s l u d7 by exact a7X pa (by rw [ubB, q29]; rfl))) ?_)))))))))))))))))))))))
   exact Fg rfl rfl (_, _, _) rfl rfl
 ·refine Em rfl (Es rfl (Es rfl (Es rfl (Ey rfl ((v8 rfl rfl).yd) (Em rfl (Es rfl (Es rfl (Es rfl (Ey rfl ((v8 rfl rfl).yd) (Em rfl (Es rfl (Es rfl (Es rfl (Ey rfl ((v8 rfl rfl).yd) (Eu (o4 rfl (E.exit (o3 (o3 (w3 (Et (Ew Z2 (Em rfl (Ei rfl (Eu (E.ret (i9 (congrArg (ow E7 [_]) (show _ = ubF s l u d7 by exact c0d pa om)) ?_)))))))))))))))))))))))))))
  exact Fg rfl rfl (_, _, _) rfl rfl
theorem a4x {a_aS : Option Addr} {m_aS c_aS : Nat} {aS : List Int} {a_aL : Option Addr} {m_aL c_aL : Nat} {aL : List (Int × List Int × Int × Int × Int)} {a_aU : Option Addr} {m_aU c_aU : Nat} {aU : List (List Int × List (Int × List Int))} {a_aFacts : Option Addr} {m_aFacts c_aFacts : Nat} {aFacts : List (Int × List Int)} : Tr Tryz.prog 3 [.slice a_aS m_aS c_aS, .slice a_aL m_aL c_aL, .slice a_aU m_aU c_aU, .slice a_aFacts m_aFacts c_aFacts] (fun w L => Ro w L eIs [.slice a_aS m_aS c_aS] aS ∧ Ro w L E1 [.slice a_aL m_aL c_aL] aL ∧ Ro w L C4 [.slice a_aU m_aU c_aU] aU ∧ Ro w L s9 [.slice a_aFacts m_aFacts c_aFacts] aFacts) [] (κ := Unit) (fun k => True) (fun k => .bool (true)) (fun k => []) := by
 refine l0 Tryz.func3 rfl (n := 136) rfl (by decide +kernel) bl (fr := [(0, .slice a_aS m_aS c_aS), (1, .slice a_aL m_aL c_aL), (2, .slice a_aU m_aU c_aU), (3, .slice a_aFacts m_aFacts c_aFacts)]) rfl fun w L hR => ?_
 obtain ⟨haS, haL, haU, haFacts⟩ := hR
 obtain ⟨rfl, laS⟩ := haS.slen
 obtain ⟨rfl, laL⟩ := haL.slen
 obtain ⟨rfl, laU⟩ := haU.slen
 obtain ⟨rfl, laFacts⟩ := haFacts.slen
 have jb_aS := a4L (l := aS)
 have jb_aL := a4J (c := I3) (t := (fun x => x.2.1.length)) (n := 4) (fun x => by simp only [I3, a4L]; omega) (l := aL)
 have jc_aL : B9 (fun x => x.2.1.length) aL = aL.length + u5 (fun x => x.2.1.length) aL := rfl
 have jb_aU := a4J (c := L5) (t := (fun x => x.1.length + B9 (fun x => x.2.length) x.2)) (n := 0) (fun x => by have h1 := a4J (c := J3) (t := fun x => x.2.length) (n := 1) (fun x => by simp only [J3, a4L]; omega) (l := x.2); simp only [L5, a4L, B9] at h1 ⊢; omega) (l := aU)
 have jc_aU : B9 (fun x => x.1.length + B9 (fun x => x.2.length) x.2) aU = aU.length + u5 (fun x => x.1.length + B9 (fun x => x.2.length) x.2) aU := rfl
 have jb_aFacts := a4J (c := G9) (t := (fun x => x.2.length)) (n := 1) (fun x => by simp only [G9, a4L]; omega) (l := aFacts)
 have jc_aFacts : B9 (fun x => x.2.length) aFacts = aFacts.length + u5 (fun x => x.2.length) aFacts := rfl
 have r1 := b9n (s := aS) (l := aL) (u := aU) (d7 := aFacts)
 refine Ew Z1 (Ei rfl (Eu (Eq_ (Ew Z3 (Em rfl (Ey rfl ((Y.len us_Is rfl).yd) (Ey rfl ((Y.gtr rfl rfl).yd) (o7 (fun q22 => ?_) (fun q22 => ?_)))))))))
 ·refine Eu (o5 rfl (Ew Z1 (Ei rfl ?_)))
  exact Eu (E.ret (l4 (Fg rfl rfl () rfl rfl)))
 ·refine Eu (o4 rfl (i7 (Et (Ew Z1 (Ei rfl (Ev Z4 (Em rfl (Em rfl (Est rfl (n0 a9q rfl rfl rfl dc (fun w Lp hA => ⟨hA.ro haL, (by first | assumption | omega), (by first | assumption | omega)⟩)) (fun _ _ => (Ei rfl (Eu (Eq_ (Ew Z2 (Em rfl (Ey rfl ((Y.lss rfl rfl).yd) (o7 (fun q27 => ?_) (fun q27 => ?_))))))))))))))))))
  ·have z27 := a0Q q27 om
   refine Eu (o5 rfl (Ew Z1 (Ei rfl ?_)))
   exact Eu (E.ret (l4 (Fg rfl rfl () rfl rfl)))
  ·obtain ⟨z27, y27⟩ := a1Q q27 om
   refine Eu (o4 rfl (i7 (Et (Ew Z4 (Em rfl (Em rfl (Est rfl (n0 a9Q rfl rfl rfl dc (fun w Lp hA => ⟨hA.ro haU, (by first | assumption | omega), (by first | assumption | omega)⟩)) (fun _ _ => (Ei rfl (Eu (Eq_ (Ew Z2 (Em rfl (Ey rfl ((Y.lss rfl rfl).yd) (o7 (fun q32 => ?_) (fun q32 => ?_))))))))))))))))
   ·have z32 := a0Q q32 om
    refine Eu (o5 rfl (Ew Z1 (Ei rfl ?_)))
    exact Eu (E.ret (l4 (Fg rfl rfl () rfl rfl)))
   ·obtain ⟨z32, y32⟩ := a1Q q32 om
    refine Eu (o4 rfl (i7 (Et (Ew Z4 (Em rfl (Em rfl (Est rfl (n0 b0T rfl rfl rfl dc (fun w Lp hA => ⟨hA.ro haFacts, (by first | assumption | omega), (by first | assumption | omega)⟩)) (fun _ _ => (Ei rfl (Eu (Eq_ (Ew Z2 (Em rfl (Ey rfl ((Y.lss rfl rfl).yd) (o7 (fun q37 => ?_) (fun q37 => ?_))))))))))))))))
    ·have z37 := a0Q q37 om
     refine Eu (o5 rfl (Ew Z1 (Ei rfl ?_)))
     exact Eu (E.ret (l4 (Fg rfl rfl () rfl rfl)))
    ·obtain ⟨z37, y37⟩ := a1Q q37 om
     refine Eu (o4 rfl (i7 (Et (Ew Z10 (Em rfl (Est rfl (N.call (X9 fo) rfl rfl rfl dc rfl (fun w Lp hA => hA.ro haS)) (fun k39 _ => ?_)))))))
     obtain ⟨a39, m39, c39⟩ := k39
     refine f5 m0 fun e39 l39 => ?_
     subst e39
     refine Em rfl (Est rfl (N.call (a1E fo) rfl rfl rfl dc rfl (fun w Lp hA => hA.ro haL)) (fun k41 _ => ?_))
     obtain ⟨a41, m41, c41⟩ := k41
     refine f5 m0 fun e41 l41 => ?_
     subst e41
     refine Em rfl (Est rfl (N.call (a1Y fo) rfl rfl rfl dc rfl (fun w Lp hA => hA.ro haU)) (fun k43 _ => ?_))
     obtain ⟨a43, m43, c43⟩ := k43
     refine f5 m0 fun e43 l43 => ?_
     subst e43
     refine Em rfl (Est rfl (N.call (a2B fo) rfl rfl rfl dc rfl (fun w Lp hA => hA.ro haFacts)) (fun k45 _ => ?_))
     obtain ⟨a45, m45, c45⟩ := k45
     refine f5 m0 fun e45 l45 => ?_
     subst e45
     refine Est rfl (N.call (a6S (a7z (u := aU) om) (a6a (u := aU) om) fo) rfl rfl rfl dc rfl (fun w Lp hA => ⟨hA.ow (mS (mS (mS m0))), hA.ow (mS (mS m0)), hA.ow (mS m0), hA.ow m0⟩)) (fun k46 _ => ?_)
     obtain ⟨a46, m46, c46⟩ := k46
     refine f5 m0 fun e46 l46 => ?_
     subst e46
     refine Ei rfl (Ev Z3 (Em rfl (Est rfl (N.call (X9 fo) rfl rfl rfl dc rfl (fun w Lp hA => hA.ro haS)) (fun k48 _ => ?_))))
     obtain ⟨a48, m48, c48⟩ := k48
     refine f5 m0 fun e48 l48 => ?_
     subst e48
     refine Ei rfl (Ev Z3 (Em rfl (Est rfl (N.call (a1E fo) rfl rfl rfl dc rfl (fun w Lp hA => hA.ro haL)) (fun k50 _ => ?_))))
     obtain ⟨a50, m50, c50⟩ := k50
     refine f5 m0 fun e50 l50 => ?_
     subst e50
     refine Ei rfl (Ev Z3 (Em rfl (Est rfl (N.call (a1Y fo) rfl rfl rfl dc rfl (fun w Lp hA => hA.ro haU)) (fun k52 _ => ?_))))
     obtain ⟨a52, m52, c52⟩ := k52
     refine f5 m0 fun e52 l52 => ?_
     subst e52
     refine Ei rfl (Ev Z3 (Em rfl (Est rfl (N.call (a2B fo) rfl rfl rfl dc rfl (fun w Lp hA => hA.ro haFacts)) (fun k54 _ => ?_))))
     obtain ⟨a54, m54, c54⟩ := k54
     refine f5 m0 fun e54 l54 => ?_
     subst e54
     refine Ei rfl (Ev Z6 (Em rfl (Em rfl (Em rfl (Em rfl (Est rfl (N.call (a3B (a7z (u := aU) om) (a6a (u := aU) om) fo) rfl rfl rfl dc rfl (fun w Lp hA => ⟨hA.ow (mS (mS (mS m0))), hA.ow (mS (mS m0)), hA.ow (mS m0), hA.ow m0⟩)) (fun k59 _ => ?_)))))))
     obtain ⟨a59, m59, c59⟩ := k59
     refine f5 m0 fun e59 l59 => ?_
     subst e59
     refine Ei rfl (Eu (Eq_ (Ew Z4 (Em rfl (Em rfl (Est rfl (n0 a3W rfl rfl rfl dc (fun w Lp hA => ⟨hA.ow m0, hA.ow (mS (mS (mS (mS (mS m0)))))⟩)) (fun _ _ => (Ent.b (fun q62 => ?_) (fun q62 => ?_)))))))))
     ·refine Ey rfl ((Y.not (b := true) rfl).yd) (Eu (o4 rfl (i7 (Et (Eq_ (Ew Z5 (Em rfl (Em rfl (Est rfl (N.call (X9 fo) rfl rfl rfl dc rfl (fun w Lp hA => hA.ro haS)) (fun k66 _ => ?_))))))))))
      obtain ⟨a66, m66, c66⟩ := k66
      refine f5 m0 fun e66 l66 => ?_
      subst e66
      refine Est rfl (n0 a0R rfl rfl rfl dc (fun w Lp hA => ⟨hA.ow (mS (mS (mS (mS (mS m0))))), hA.ow m0⟩)) (fun _ _ => (Ent.b (fun q67 => ?_) (fun q67 => ?_)))
      ·refine Ey rfl ((Y.not (b := true) rfl).yd) (Eu (o4 rfl (i7 (Et (Eq_ (Ew Z5 (Em rfl (Em rfl (Est rfl (N.call (a1E fo) rfl rfl rfl dc rfl (fun w Lp hA => hA.ro haL)) (fun k71 _ => ?_))))))))))
       obtain ⟨a71, m71, c71⟩ := k71
       refine f5 m0 fun e71 l71 => ?_
       subst e71
       refine Est rfl (n0 a9u rfl rfl rfl dc (fun w Lp hA => ⟨hA.ow (mS (mS (mS (mS (mS m0))))), hA.ow m0⟩)) (fun _ _ => (Ent.b (fun q72 => ?_) (fun q72 => ?_)))
       ·refine Ey rfl ((Y.not (b := true) rfl).yd) (Eu (o4 rfl (i7 (Et (Eq_ (Ew Z5 (Em rfl (Em rfl (Est rfl (N.call (a1Y fo) rfl rfl rfl dc rfl (fun w Lp hA => hA.ro haU)) (fun k76 _ => ?_))))))))))
        obtain ⟨a76, m76, c76⟩ := k76
        refine f5 m0 fun e76 l76 => ?_
        subst e76
        refine Est rfl (n0 b0w rfl rfl rfl dc (fun w Lp hA => ⟨hA.ow (mS (mS (mS (mS (mS m0))))), hA.ow m0⟩)) (fun _ _ => (Ent.b (fun q77 => ?_) (fun q77 => ?_)))
        ·refine Ey rfl ((Y.not (b := true) rfl).yd) (Eu (o4 rfl (i7 (Et (Eq_ (Ew Z5 (Em rfl (Em rfl (Est rfl (N.call (a2B fo) rfl rfl rfl dc rfl (fun w Lp hA => hA.ro haFacts)) (fun k81 _ => ?_))))))))))
         obtain ⟨a81, m81, c81⟩ := k81
         refine f5 m0 fun e81 l81 => ?_
         subst e81
         refine Est rfl (n0 b1e rfl rfl rfl dc (fun w Lp hA => ⟨hA.ow (mS (mS (mS (mS (mS m0))))), hA.ow m0⟩)) (fun _ _ => (Ent.b (fun q82 => ?_) (fun q82 => ?_)))
         ·refine Ey rfl ((Y.not (b := true) rfl).yd) (Eu (o4 rfl (i7 (Et (Ew Z1 (Ei rfl (Ev Z4 (Em rfl (Em rfl (C0 (Est rfl (N.call (pre := [_]) a0j rfl rfl rfl dc rfl (fun w Lp hA => ⟨(by first | assumption | omega), (by first | assumption | omega)⟩)) (fun _ _ => (Ei rfl (Ev Z4 (Em rfl (Em rfl (C0 (Est rfl (N.call (pre := [_]) a7l rfl rfl rfl dc rfl (fun w Lp hA => ⟨(by first | assumption | omega), (by first | assumption | omega)⟩)) (fun _ _ => (Ei rfl (Ev Z4 (Em rfl (Em rfl (C0 (Est rfl (N.call (pre := [_]) a8w rfl rfl rfl dc rfl (fun w Lp hA => ⟨(by first | assumption | omega), (by first | assumption | omega)⟩)) (fun _ _ => (Ei rfl (Ev Z4 (Em rfl (Em rfl (C0 (Est rfl (N.call (pre := [_]) a9k rfl rfl rfl dc rfl (fun w Lp hA => ⟨(by first | assumption | omega), (by first | assumption | omega)⟩)) (fun _ _ => (Ei rfl (Eu (Eq_ (Ew Z8 (Em rfl (Ey rfl ((Y.lss rfl rfl).yd) (o7 (fun q97 => ?_) (fun q97 => ?_)))))))))))))))))))))))))))))))))))))))))
          ·exact absurd q97 om
          ·refine Em rfl (Em rfl (Em rfl (Est rfl (n0 a3W rfl rfl rfl dc (fun w Lp hA => ⟨hA.ow (mS (mS (mS (mS (mS (mS (mS (mS m0)))))))), hA.ow (mS (mS (mS (mS (mS (mS (mS (mS (mS m0)))))))))⟩)) (fun _ _ => (Ent.b (fun q101 => ?_) (fun q101 => ?_))))))
           ·refine Ey rfl ((Y.not (b := true) rfl).yd) (Ey rfl ((v8 rfl rfl).yd) (Eu (o4 rfl (i7 (Et (Ew Z1 (Ei rfl (Ev Z4 (Em rfl (Em rfl (C0 (Est rfl (N.call (pre := [_]) a9m rfl rfl rfl dc rfl (fun w Lp hA => ⟨(by first | assumption | omega), (by first | assumption | omega)⟩)) (fun _ _ => (Ei rfl (Ev Z1 (Ei rfl (Ev Z4 (Em rfl (Em rfl (Est rfl (n0 (a4N (a9S a5g b8x)) rfl rfl rfl dc (fun w Lp hA => ⟨hA.ow m0, (by (try simp only [w6 a2G, w6 a5g, w6 a3M, w6 a3V, w6 a2Z, w6 a3C, w6 a2m, w6 a2w, w6 a3I, w6 a3Q, w6 a2Q, w6 a3b, w6 a1A, w6 a1U, w6 a2b, w6 a2y, w6 a3J, w6 a3N, w6 a3D, w6 a3H]); omega), (by (try simp only [w6 a2G, w6 a5g, w6 a3M, w6 a3V, w6 a2Z, w6 a3C, w6 a2m, w6 a2w, w6 a3I, w6 a3Q, w6 a2Q, w6 a3b, w6 a1A, w6 a1U, w6 a2b, w6 a2y, w6 a3J, w6 a3N, w6 a3D, w6 a3H]); omega)⟩)) (fun _ _ => (Ei rfl (Eu (Eq_ (Ew Z2 (Em rfl (Ey rfl ((Y.lss rfl rfl).yd) (o7 (fun q111 => ?_) (fun q111 => ?_)))))))))))))))))))))))))))))
            ·exact absurd q111 om
            ·refine Eu (o4 rfl (i7 (Et (Eq_ (Ew Z3 (Em rfl (Em rfl (Ey rfl ((Y.neq rfl rfl).yd) (o7 (fun q114 => ?_) (fun q114 => ?_))))))))))
             ·exact absurd (by simp only [w6 a2G, w6 a5g, w6 a3M, w6 a3V, w6 a2Z, w6 a3C, w6 a2m, w6 a2w, w6 a3I, w6 a3Q, w6 a2Q, w6 a3b, w6 a1A, w6 a1U, w6 a2b, w6 a2y, w6 a3J, w6 a3N, w6 a3D, w6 a3H]) q114
             ·refine Eu (o4 rfl (i7 (Et (Ew Z10 (Em rfl (Est rfl (N.call (X9 fo) rfl rfl rfl dc rfl (fun w Lp hA => hA.ro haS)) (fun k116 _ => ?_)))))))
              obtain ⟨a116, m116, c116⟩ := k116
              refine f5 m0 fun e116 l116 => ?_
              subst e116
              refine Em rfl (Est rfl (N.call (a1E fo) rfl rfl rfl dc rfl (fun w Lp hA => hA.ro haL)) (fun k118 _ => ?_))
              obtain ⟨a118, m118, c118⟩ := k118
              refine f5 m0 fun e118 l118 => ?_
              subst e118
              refine Em rfl (Est rfl (N.call (a1Y fo) rfl rfl rfl dc rfl (fun w Lp hA => hA.ro haU)) (fun k120 _ => ?_))
              obtain ⟨a120, m120, c120⟩ := k120
              refine f5 m0 fun e120 l120 => ?_
              subst e120
              refine Em rfl (Est rfl (N.call (a2B fo) rfl rfl rfl dc rfl (fun w Lp hA => hA.ro haFacts)) (fun k122 _ => ?_))
              obtain ⟨a122, m122, c122⟩ := k122
              refine f5 m0 fun e122 l122 => ?_
              subst e122
              refine Est rfl (N.call (a3B (a7z (u := aU) om) (a6a (u := aU) om) fo) rfl rfl rfl dc rfl (fun w Lp hA => ⟨hA.ow (mS (mS (mS m0))), hA.ow (mS (mS m0)), hA.ow (mS m0), hA.ow m0⟩)) (fun k123 _ => ?_)
              obtain ⟨a123, m123, c123⟩ := k123
              refine f5 m0 fun e123 l123 => ?_
              subst e123
              refine Ei rfl (Eu (Eq_ (Ew Z4 (Em rfl (Em rfl (Est rfl (n0 a3W rfl rfl rfl dc (fun w Lp hA => ⟨hA.ow m0, hA.ow (mS (mS (mS (mS (mS (mS (mS (mS (mS (mS (mS (mS (mS (mS m0))))))))))))))⟩)) (fun _ _ => (Ent.b (fun q126 => ?_) (fun q126 => ?_)))))))))
              ·refine Ey rfl ((Y.not (b := true) rfl).yd) (Eu (o4 rfl (i7 (Et (Ew Z1 (Ei rfl (Ev Z4 (Em rfl (Em rfl (Est rfl (n0 (a4N (a9S a5g b8x)) rfl rfl rfl dc (fun w Lp hA => ⟨hA.ow (mS (mS (mS (mS (mS m0))))), (by (try simp only [w6 a2G, w6 a5g, w6 a3M, w6 a3V, w6 a2Z, w6 a3C, w6 a2m, w6 a2w, w6 a3I, w6 a3Q, w6 a2Q, w6 a3b, w6 a1A, w6 a1U, w6 a2b, w6 a2y, w6 a3J, w6 a3N, w6 a3D, w6 a3H]); omega), (by (try simp only [w6 a2G, w6 a5g, w6 a3M, w6 a3V, w6 a2Z, w6 a3C, w6 a2m, w6 a2w, w6 a3I, w6 a3Q, w6 a2Q, w6 a3b, w6 a1A, w6 a1U, w6 a2b, w6 a2y, w6 a3J, w6 a3N, w6 a3D, w6 a3H]); omega)⟩)) (fun _ _ => (Ei rfl (Eu (Eq_ (Ew Z2 (Em rfl (Ey rfl ((Y.lss rfl rfl).yd) (o7 (fun q132 => ?_) (fun q132 => ?_)))))))))))))))))))
               ·exact absurd q132 om
               ·refine Eu (o4 rfl (i7 (Et (Eq_ (Ew Z3 (Em rfl (Em rfl (Ey rfl ((Y.neq rfl rfl).yd) (o7 (fun q135 => ?_) (fun q135 => ?_))))))))))
                ·exact absurd (by simp only [w6 a2G, w6 a5g, w6 a3M, w6 a3V, w6 a2Z, w6 a3C, w6 a2m, w6 a2w, w6 a3I, w6 a3Q, w6 a2Q, w6 a3b, w6 a1A, w6 a1U, w6 a2b, w6 a2y, w6 a3J, w6 a3N, w6 a3D, w6 a3H]) q135
                ·refine Eu (o4 rfl (i7 (Et (Ew Z1 (Ei rfl ?_)))))
                 exact Eu (E.ret (Fg rfl rfl () rfl rfl))
              ·refine Ey rfl ((Y.not (b := false) rfl).yd) (Eu (o5 rfl (Ew Z1 (Ei rfl ?_))))
               exact Eu (E.ret (l4 (Fb rfl rfl (by simp_all))))
           ·refine Ey rfl ((Y.not (b := false) rfl).yd) (Ey rfl ((v8 rfl rfl).yd) (Eu (o5 rfl (Ew Z1 (Ei rfl ?_)))))
            exact Eu (E.ret (l4 (Fb rfl rfl (by simp_all))))
         ·refine Ey rfl ((Y.not (b := false) rfl).yd) (Eu (o5 rfl (Ew Z1 (Ei rfl ?_))))
          exact Eu (E.ret (l4 (Fb rfl rfl (by simp_all))))
        ·refine Ey rfl ((Y.not (b := false) rfl).yd) (Eu (o5 rfl (Ew Z1 (Ei rfl ?_))))
         exact Eu (E.ret (l4 (Fb rfl rfl (by simp_all))))
       ·refine Ey rfl ((Y.not (b := false) rfl).yd) (Eu (o5 rfl (Ew Z1 (Ei rfl ?_))))
        exact Eu (E.ret (l4 (Fb rfl rfl (by simp_all))))
      ·refine Ey rfl ((Y.not (b := false) rfl).yd) (Eu (o5 rfl (Ew Z1 (Ei rfl ?_))))
       exact Eu (E.ret (l4 (Fb rfl rfl (by simp_all))))
     ·refine Ey rfl ((Y.not (b := false) rfl).yd) (Eu (o5 rfl (Ew Z1 (Ei rfl ?_))))
      exact Eu (E.ret (l4 (Fb rfl rfl (by simp_all))))
end Go.Proofs.YtdopeopehgdccaaGreat
