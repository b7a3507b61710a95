import Derived.Test.YtbedienpleiamaaGreatT26
import Derived.Test.YtbedienpleiamaaGreatT23
import Derived.Test.YtbedienpleiamaaGreatDv
namespace Go.Proofs.YtbedienpleiamaaGreat
open Go.RowKit
set_option linter.all false
set_option maxHeartbeats 2000000
attribute [local irreducible] Nop Yd Yp Ent Has Tr FnP FnP2 Src O1 S7 W5 X5 I0
variable {ix : Int} {a6 : List (Int × List Int)} {f5 : List Int} {r5 k6 o1 j0 : Nat} {l0 j3 : Option Addr}
theorem a4H {j4 : Int} {y7 : Option Addr} {C8 y6 : Nat} {d8 : List Int} (haz : d8.length ≤ 1048576) : Tr Tryz.prog 184 [.agg #[.int .i64 j4, .slice y7 C8 y6]] (fun w L => I64 j4 ∧ Ro w L eIs [.slice y7 C8 y6] d8) [] (κ := Option Addr × Nat × Nat) (fun k => True) (fun k => .agg #[.int .i64 j4, .slice k.1 k.2.1 k.2.2]) (fun k => [ow eIs [.slice k.1 k.2.1 k.2.2] d8]) := by
 refine Tr.intro Tryz.func184 rfl (n := 9) rfl (by decide +kernel) bl (fr := [(0, .agg #[.int .i64 j4, .slice y7 C8 y6])]) rfl fun w L hR => ?_
 obtain ⟨N5, D8⟩ := hR
 obtain ⟨rfl, U5⟩ := D8.slen
 refine Ew Z2 (Est rfl (N.box (cs := [_, _]) rfl dc rfl) (fun b1 _ => (Est rfl (N.alloc ty_Atom dc) (fun b2 _ => (Eu (Eq_ (D.region (fun j => !(Nat.beq j 6)) mixed (Dyp 0 rfl (i0 fo_Atom_0 f6 dc rfl) (Dy 1 rfl (f9 f6 rfl (Hz (mS m0) 0 rfl) rfl) (Dyp 2 rfl (i0 fo_Atom_1 ty_Is dc rfl) (Dy 3 rfl (f9 ty_Is rfl (Hz (mS m0) 1 rfl) rfl) (r8 4 rfl rfl kr (fun _ => rfl) (N.call (a0k fc) rfl rfl rfl dc rfl (fun w Lp hA => hA.ro D8)) (fun k7 _ => ?_)))))))))))))
 obtain ⟨a7, m7, c7⟩ := k7
 refine d4 m0 fun e7 l7 => ?_
 subst e7
 refine Dyp 5 rfl (E9 (pvs := [_, _]) (cs := [_, _]) ty_Atom a2m rfl rfl) (d7 (r8 6 rfl rfl kr (fun h => by cases h) (Ns [_, _] ty_Atom rfl) (fun _ _ => (r7 kr (Et (E.ret (d7 ?_)))))))
 exact H8 br rfl rfl (mS m0) ty_Atom rfl (_, _, _) trivial rfl (J := _) (.refl _) (.inl rfl)
theorem a3V {a_l : Option Addr} {m_l c_l : Nat} {l : List (Int × List Int)} (hln : l.length ≤ 1048576) (hlt : ∀ a ∈ l, a.2.length ≤ 1048576) : Tr Tryz.prog 142 [.slice a_l m_l c_l] (fun w L => Ro w L j8 [.slice a_l m_l c_l] l) [] (κ := Option Addr × Nat × Nat) (fun k => True) (fun k => .slice k.1 k.2.1 k.2.2) (fun k => [ow j8 [.slice k.1 k.2.1 k.2.2] l]) := by
 refine Tr.intro Tryz.func142 rfl (n := 20) rfl (by decide +kernel) bl (fr := [(0, .slice a_l m_l c_l)]) rfl fun w L hR => ?_
 have hl := hR
 obtain ⟨rfl, ll⟩ := hl.slen
 refine Ew Z1 (Ei rfl (Ev Z2 (Est rfl (Nb [] [] us_Atoms ty_Atom rfl rfl) (fun b6 _ => (Ent.drop (Ei rfl (Eu (Eq_ (Ew Z3 (Em rfl (Ey rfl ((Y.len us_Atoms rfl).yd) (Em rfl (Eu (E.block (o2 (A := []) (Own.nil (E := N3) (e := tAtom) (a := (some ⟨b6, 0, none⟩))) rfl (i9 (congrArg (ow j8 [_]) (show [] = l.take 0 from by first | rfl | (simp; done) | grind [d1, d2, t1, t2])) (E.loop (κ := Nat × Option Addr × Nat × Nat) (fun g => g.1 ≤ l.length ∧ True) (fun g => [(3, .slice g.2.1 g.2.2.1 g.2.2.2), (7, .slice a_l l.length c_l), (8, .int .i64 (↑l.length : Int)), (9, .int .i64 (↑g.1 : Int))]) (fun g => [ow j8 [.slice g.2.1 g.2.2.1 g.2.2.2] (l.take g.1)]) (fun g => l.length - g.1) (0, (some ⟨b6, 0, none⟩), 0, 0) ⟨Nat.zero_le _, by simp⟩ ⟨rfl, rfl, rfl, rfl, trivial⟩ (.refl _) (fun g pg => ?_))))))))))))))))))
 obtain ⟨g, aA0_0, mA0_0, cA0_0⟩ := g
 try dsimp only at pg
 try dsimp only
 obtain ⟨pk, pa⟩ := pg
 have jp := List.length_take_le g l
 refine d4 m0 fun eaA0_0 laA0_0 => ?_
 subst eaA0_0
 refine Ew Z1 (Ey rfl ((Y.lss rfl rfl).yd) (n9 (fun q10 => ?_) (fun q10 => ?_)))
 ·obtain ⟨eb11, eo11, ec11, ea11, er11, el11, eh11⟩ := hl.elem g om
  obtain ⟨xa11_0, xc11_0, rfl, ei11_0, xh11_0⟩ := J0 er11
  have := xh11_0.slen.2
  refine Eu (Eq_ (o0 rfl (f8 (Et (Eq_ (E.block (Ew Z4 (Ey rfl ((t6 us_Atoms ty_Atom rfl ea11 rfl g rfl om).yd) (Ey rfl (j6 (cs := [_, _]) ty_Atom rfl (eh11 _) rfl) (Est rfl (N.alloc ty_Atom dc) (fun b5 _ => (Est rfl (Ns [_, _] ty_Atom rfl) (fun _ _ => (Eu (Ez Z6 (Em rfl (Ey rfl (j6 (cs := [_, _]) ty_Atom rfl (Has.pt m0) rfl) (Est rfl (N.call (a4H (hlt _ (List.getElem_mem om))) rfl rfl rfl dc rfl (fun w Lp hA => ⟨ei11_0, hA.ro xh11_0⟩)) (fun k15 _ => ?_)))))))))))))))))))
  obtain ⟨a15, m15, c15⟩ := k15
  refine d4 m0 fun e15 l15 => ?_
  subst e15
  refine Est rfl (Nb [_] [_, _] us_Atoms ty_Atom rfl rfl) (fun b16 _ => (d7 (d7 (l3 (Est rfl (v7 (E := N3) (ex := l[g]) us_Atoms ty_Atom rfl rfl rfl (H2 (x := l[g]) ei11_0 Own.ow) rfl bn bn dc) (fun p17 _ => (Ei rfl (En (s4 (Et (Ez Z2 (Ey rfl ((Y.add rfl rfl om om).yd) (Em rfl (Eu (d7 (Ent.drop (i9 (congrArg (ow j8 [_]) (show (l.take g) ++ [l[g]] = l.take (g + 1) from by grind [d1, d2, t1, t2])) ?_)))))))))))))))))
  exact Ea (g + 1, p17.1, ((l.take g).length + 1), p17.2) ⟨oz, trivial⟩
 ·refine Eu (Eq_ (n0 rfl (E.exit (o3 (o3 (x5 (Et (Ew Z2 (Em rfl (Ei rfl (Eu (E.ret (i9 (congrArg (ow j8 [_]) (show _ = l by grind [d1, d2, t1, t2])) ?_)))))))))))))
  exact Fg rfl rfl (_, _, _) rfl rfl
theorem a0Z (hqh : f5.length ≤ 1048576) (hqn : a6.length ≤ 1048576) (hqt : ∀ a ∈ a6, a.2.length ≤ 1048576) : Tr Tryz.prog 78 [.agg #[.slice l0 r5 k6, .slice j3 o1 j0]] (fun w L => Ro w L eIs [.slice l0 r5 k6] f5 ∧ Ro w L j8 [.slice j3 o1 j0] a6) [] (κ := (Option Addr × Nat × Nat) × (Option Addr × Nat × Nat)) (fun k => True) (fun k => .agg #[.slice k.1.1 k.1.2.1 k.1.2.2, .slice k.2.1 k.2.2.1 k.2.2.2]) (fun k => [ow eIs [.slice k.1.1 k.1.2.1 k.1.2.2] f5, ow j8 [.slice k.2.1 k.2.2.1 k.2.2.2] a6]) := by
 refine Tr.intro Tryz.func78 rfl (n := 10) rfl (by decide +kernel) bl (fr := [(0, .agg #[.slice l0 r5 k6, .slice j3 o1 j0])]) rfl fun w L hR => ?_
 obtain ⟨o6, l4⟩ := hR
 obtain ⟨rfl, F2⟩ := o6.slen
 obtain ⟨rfl, E0⟩ := l4.slen
 refine Ew Z2 (Est rfl (N.box (cs := [_, _]) rfl dc rfl) (fun b1 _ => (Est rfl (N.alloc ty_Query dc) (fun b2 _ => (Eu (Eq_ (D.region (fun j => !(Nat.beq j 7)) mixed (Dyp 0 rfl (i0 fo_Query_0 ty_Is dc rfl) (Dy 1 rfl (f9 ty_Is rfl (Hz (mS m0) 0 rfl) rfl) (Dyp 3 rfl (i0 fo_Query_1 ty_Atoms dc rfl) (Dy 4 rfl (f9 ty_Atoms rfl (Hz (mS m0) 1 rfl) rfl) (r8 2 rfl rfl kr (fun _ => rfl) (N.call (a0k fc) rfl rfl rfl dc rfl (fun w Lp hA => hA.ro o6)) (fun k5 _ => ?_)))))))))))))
 obtain ⟨a5, m5, c5⟩ := k5
 refine d4 m0 fun e5 l5 => ?_
 subst e5
 refine r8 5 rfl rfl kr (fun _ => rfl) (N.call (a3V fc fc) rfl rfl rfl dc rfl (fun w Lp hA => hA.ro l4)) (fun k8 _ => ?_)
 obtain ⟨a8, m8, c8⟩ := k8
 refine d4 m0 fun e8 l8 => ?_
 subst e8
 refine Dyp 6 rfl (E9 (pvs := [_, _]) (cs := [_, _]) ty_Query a1q rfl rfl) (g9 (r8 7 rfl rfl kr (fun h => by cases h) (Ns [_, _] ty_Query rfl) (fun _ _ => (r7 kr (Et (E.ret (d7 (g9 (d7 (d7 ?_))))))))))
 exact H8 br rfl rfl (mS (mS m0)) ty_Query rfl ((_, _, _), (_, _, _)) trivial rfl (J := _) (.refl _) (.inl rfl)
theorem a0g (hqh : f5.length ≤ 1048576) (hqn : a6.length ≤ 1048576) (hqt : ∀ a ∈ a6, a.2.length ≤ 1048576) : Tr Tryz.prog 25 [.agg #[.slice l0 r5 k6, .slice j3 o1 j0], .int .i64 ix] (fun w L => Ro w L eIs [.slice l0 r5 k6] f5 ∧ Ro w L j8 [.slice j3 o1 j0] a6) [] (κ := (Option Addr × Nat × Nat) × (Option Addr × Nat × Nat)) (fun k => True) (fun k => .agg #[.slice k.1.1 k.1.2.1 k.1.2.2, .slice k.2.1 k.2.2.1 k.2.2.2]) (fun k => [ow eIs [.slice k.1.1 k.1.2.1 k.1.2.2] f5, ow j8 [.slice k.2.1 k.2.2.1 k.2.2.2] (B8 a6 ix)]) := by
 refine Tr.intro Tryz.func25 rfl (n := 22) rfl (by decide +kernel) bl (fr := [(0, .agg #[.slice l0 r5 k6, .slice j3 o1 j0]), (1, .int .i64 ix)]) rfl fun w L hR => ?_
 obtain ⟨o6, l4⟩ := hR
 obtain ⟨rfl, F2⟩ := o6.slen
 obtain ⟨rfl, E0⟩ := l4.slen
 refine Ew Z2 (Est rfl (N.box (cs := [_, _]) rfl dc rfl) (fun b2 _ => (Est rfl (N.alloc ty_Query dc) (fun b4 _ => (Ev Z4 (Ey rfl (j6 (cs := [_, _]) ty_Query rfl (Has.pt (mS m0)) rfl) (Est rfl (N.call (a0Z fo fo fo) rfl rfl rfl dc rfl (fun w Lp hA => ⟨hA.ro o6, hA.ro l4⟩)) (fun k7 _ => ?_))))))))
 obtain ⟨⟨a7_0, m7_0, c7_0⟩, ⟨a7_1, m7_1, c7_1⟩⟩ := k7
 refine d4 m0 fun e7_0 l7_0 => ?_
 subst e7_0
 refine d4 (mS m0) fun e7_1 l7_1 => ?_
 subst e7_1
 refine Est rfl (N.alloc ty_Query dc) (fun b5 _ => (Est rfl (Ns [_, _] ty_Query rfl) (fun _ _ => (Eu (Eq_ (Ew Z6 (Em rfl (Ey rfl ((i0 fo_Query_1 ty_Atoms dc rfl).yd) (Ey rfl (f9 ty_Atoms rfl (Hz (mS (mS (mS (mS m0)))) 1 rfl) rfl) (Ey rfl ((Y.len us_Atoms rfl).yd) (Ey rfl ((Y.sub rfl rfl om om).yd) (Est rfl (m6 P3 rfl rfl rfl dc tv) (fun _ _ => (t7 (fun q13 => ?_) (fun q13 => ?_)))))))))))))))
 ·have jr : 0 ≤ ix ∧ ix ≤ (a6.length : Int) - 1 := by simpa only [inR, decide_eq_true_eq] using q13
  refine Eu (o0 rfl (Ez Z8 (Ey rfl ((i0 fo_Query_1 ty_Atoms dc rfl).yd) (Ey rfl (f9 ty_Atoms rfl (Hz m0 1 rfl) rfl) (Em rfl (Em rfl (Ey rfl ((Y.add rfl rfl om om).yd) (g9 (Est rfl (N.call (pre := [_]) (a5S (by simp only [inR, decide_eq_true_eq] at q13; omega)) rfl rfl rfl dc rfl tv) (fun k19 _ => ?_))))))))))
  obtain ⟨a19, m19, c19⟩ := k19
  refine d4 m0 fun e19 l19 => ?_
  subst e19
  refine Ey rfl ((i0 fo_Query_1 ty_Atoms dc rfl).yd) (d7 (Est rfl (Ns [_, _] ty_Atoms rfl) (fun _ _ => (Ev Z2 (Ey rfl (j6 (cs := [_, _]) ty_Query rfl (Has.pt m0) rfl) (l3 (Est rfl (Ns [_, _] ty_Query rfl) (fun _ _ => (Eu (E.ret (g9 (i9 (congrArg (ow j8 [_]) (show _ = B8 a6 ix by grind [B8, inR, d1, d2, t1, t2])) (l3 (d7 (d7 ?_)))))))))))))))
  exact H8 br rfl rfl (mS (mS m0)) ty_Query rfl ((a7_0, (f5).length, c7_0), (a19, (a6.take ix.toNat ++ a6.drop (ix + 1).toNat).length, c19)) trivial rfl (J := _) (.refl _) (.inl rfl)
 ·refine Eu (n0 rfl (f8 (Et (Ew Z2 (Ey rfl (j6 (cs := [_, _]) ty_Query rfl (Has.pt m0) rfl) (l3 (Est rfl (Ns [_, _] ty_Query rfl) (fun _ _ => (Eu (E.ret (l3 (i9 (congrArg (ow j8 [_]) (show _ = B8 a6 ix by grind [B8, inR, d1, d2, t1, t2])) (l3 (d7 (d7 ?_)))))))))))))))
  exact H8 br rfl rfl (mS (mS m0)) ty_Query rfl ((a7_0, (f5).length, c7_0), (a7_1, (a6).length, c7_1)) trivial rfl (J := _) (.refl _) (.inl rfl)
theorem a1z (hqh : f5.length ≤ 1048576) (hqn : a6.length ≤ 1048576) (hqt : ∀ a ∈ a6, a.2.length ≤ 1048576) : Tr Tryz.prog 81 [.agg #[.slice l0 r5 k6, .slice j3 o1 j0], .int .i64 ix] (fun w L => Ro w L eIs [.slice l0 r5 k6] f5 ∧ Ro w L j8 [.slice j3 o1 j0] a6) [] (κ := (Option Addr × Nat × Nat) × (Option Addr × Nat × Nat)) (fun k => True) (fun k => .agg #[.slice k.1.1 k.1.2.1 k.1.2.2, .slice k.2.1 k.2.2.1 k.2.2.2]) (fun k => [ow eIs [.slice k.1.1 k.1.2.1 k.1.2.2] f5, ow j8 [.slice k.2.1 k.2.2.1 k.2.2.2] (B8 a6 ix)]) := by
 refine Tr.intro Tryz.func81 rfl (n := 41) rfl (by decide +kernel) bl (fr := [(0, .agg #[.slice l0 r5 k6, .slice j3 o1 j0]), (1, .int .i64 ix)]) rfl fun w L hR => ?_
 obtain ⟨o6, l4⟩ := hR
 obtain ⟨rfl, F2⟩ := o6.slen
 obtain ⟨rfl, E0⟩ := l4.slen
 have jv := l4.i64A
 refine Ew Z2 (Est rfl (N.box (cs := [_, _]) rfl dc rfl) (fun b2 _ => (Est rfl (N.alloc ty_Query dc) (fun b4 _ => (Ev Z7 (Est rfl (Nb [] [] us_Is f6 rfl rfl) (fun b7 _ => (Ent.drop (Ey rfl ((i0 fo_Query_0 ty_Is dc rfl).yd) (Ey rfl (f9 ty_Is rfl (Hz (mS m0) 0 rfl) rfl) (Est rfl (G9 (E := Enc.int) Plain.int us_Is f6 rfl rfl rfl o6 bn bn dc) (fun p10 _ => (Ey rfl ((E9 (pvs := [_]) (cs := [_, _]) ty_Query a1q rfl rfl).yd) (Est rfl (N.alloc ty_Query dc) (fun b5 _ => (Est rfl (Ns [_, _] ty_Query rfl) (fun _ _ => (Eu (Eq_ (Ew Z1 (Ei rfl (Eu (E.block (o2 (A := []) (Own.nil (E := N3) (e := tAtom) (a := none)) rfl (i9 (congrArg (ow j8 [_]) (show [] = B8 (a6.take 0) ix from by first | rfl | (simp; done) | grind [a0S, a1B, a1v, d1, d2, t1, t2])) (E.loop (κ := Nat × Option Addr × Nat × Nat) (fun g => g.1 ≤ a6.length ∧ True) (fun g => [(1, .int .i64 ix), (2, .pointer (some ⟨b2, 0, none⟩)), (4, .pointer (some ⟨b4, 0, none⟩)), (5, .pointer (some ⟨b5, 0, none⟩)), (6, .int .i64 (↑g.1 : Int))]) (fun g => [ow j8 [.slice g.2.1 g.2.2.1 g.2.2.2] (B8 (a6.take g.1) ix), pt b5 27 [.slice p10.1 f5.length p10.2, .slice g.2.1 g.2.2.1 g.2.2.2], ow eIs [.slice p10.1 f5.length p10.2] f5, pt b4 27 [.slice none 0 0, .slice none 0 0], pt b2 27 [.slice l0 f5.length k6, .slice j3 a6.length j0]]) (fun g => a6.length - g.1) (0, none, 0, 0) ⟨Nat.zero_le _, by simp⟩ ⟨rfl, rfl, rfl, rfl, rfl, trivial⟩ (.refl _) (fun g pg => ?_)))))))))))))))))))))))))))
 obtain ⟨g, aA0_0, mA0_0, cA0_0⟩ := g
 try dsimp only at pg
 try dsimp only
 obtain ⟨pk, pa⟩ := pg
 have jp := List.length_take_le g a6
 have jd := a3r (l := a6.take g) (i := ix)
 refine d4 m0 fun eaA0_0 laA0_0 => ?_
 subst eaA0_0
 refine Eq_ (Ew Z5 (Em rfl (Ey rfl ((i0 fo_Query_1 ty_Atoms dc rfl).yd) (Ey rfl (f9 ty_Atoms rfl (Hz (mS (mS (mS (mS m0)))) 1 rfl) rfl) (Ey rfl ((Y.len us_Atoms rfl).yd) (Ey rfl ((Y.lss rfl rfl).yd) (n9 (fun q16 => ?_) (fun q16 => ?_))))))))
 ·refine Eu (o0 rfl (f8 (Et (Eq_ (E.block (Ew Z3 (Em rfl (Em rfl (Ey rfl ((Y.neq rfl rfl).yd) (n9 (fun q21 => ?_) (fun q21 => ?_)))))))))))
  ·refine Eu (o0 rfl (D.region (fun j => !(Nat.beq j 16) && !(Nat.beq j 18)) mixed (Dyp 0 rfl (i0 fo_Query_1 ty_Atoms dc rfl) (Dy 1 rfl (f9 ty_Atoms rfl (Hz (mS m0) 1 rfl) rfl) (Dyp 2 rfl (i0 fo_Query_1 ty_Atoms dc rfl) (Dy 3 rfl (f9 ty_Atoms rfl (Hz (mS (mS (mS (mS m0)))) 1 rfl) rfl) (Dyp 4 rfl (i8 rfl) ?_)))))))
   obtain ⟨eb27, eo27, ec27, ea27, er27, el27, eh27⟩ := l4.elem g om
   obtain ⟨xa27_0, xc27_0, rfl, ei27_0, xh27_0⟩ := J0 er27
   have := xh27_0.slen.2
   refine Dyp 5 rfl (t6 us_Atoms ty_Atom rfl ea27 rfl g rfl om) (Dyp 6 rfl (i0 fo_Atom_0 f6 dc rfl) (Dy 7 rfl (f9 f6 rfl ((eh27 _).sub (cs' := [_]) 0 rfl) rfl) (Dyp 8 rfl (i0 fo_Query_1 ty_Atoms dc rfl) (Dy 9 rfl (f9 ty_Atoms rfl (Hz (mS (mS (mS (mS m0)))) 1 rfl) rfl) (Dyp 10 rfl (i8 rfl) (Dyp 11 rfl (t6 us_Atoms ty_Atom rfl ea27 rfl g rfl om) (Dyp 12 rfl (i0 fo_Atom_1 ty_Is dc rfl) (Dy 13 rfl (f9 ty_Is rfl ((eh27 _).sub (cs' := [_]) 1 rfl) rfl) (r8 14 rfl rfl kr (fun _ => rfl) (N.call (a0O (hqt _ (List.getElem_mem om))) rfl rfl rfl dc rfl (fun w Lp hA => ⟨ei27_0, hA.ro xh27_0⟩)) (fun k36 _ => ?_))))))))))
   obtain ⟨a36, m36, c36⟩ := k36
   refine d4 m0 fun e36 l36 => ?_
   subst e36
   refine r8 15 rfl rfl kr (fun _ => rfl) (Nb [_] [_, _] us_Atoms ty_Atom rfl rfl) (fun b37 _ => (d7 (d7 (g9 (r8 16 rfl rfl kr (fun h => by cases h) (v7 (E := N3) (ex := a6[g]) us_Atoms ty_Atom rfl rfl rfl (H2 (x := a6[g]) ei27_0 Own.ow) rfl bn bn dc) (fun p38 _ => (Dyp 17 rfl (i0 fo_Query_1 ty_Atoms dc rfl) (d7 (r8 18 rfl rfl kr (fun h => by cases h) (Ns [_, _] ty_Atoms rfl) (fun _ _ => (r7 kr (s4 (Et (Ez Z3 (Em rfl (Ey rfl ((Y.add rfl rfl om om).yd) (Ei rfl (Eu (d7 (i9 (congrArg (ow j8 [_]) (show (B8 (a6.take g) ix) ++ [a6[g]] = B8 (a6.take (g + 1)) ix from by grind [a0S, a1B, a1v, d1, d2, t1, t2])) (i7 (i7 (i7 (i7 (i7 ?_)))))))))))))))))))))))))
   exact Ea (g + 1, p38.1, ((B8 (a6.take g) ix).length + 1), p38.2) ⟨oz, trivial⟩
  ·refine Eu (n0 rfl (f8 (s4 (Et (Ez Z3 (Em rfl (Ey rfl ((Y.add rfl rfl om om).yd) (Ei rfl (Eu (i9 (congrArg (ow j8 [_]) (show B8 (a6.take g) ix = B8 (a6.take (g + 1)) ix from by grind [a0S, a1B, a1v, d1, d2, t1, t2])) (i7 (i7 (i7 (i7 (i7 ?_)))))))))))))))
   exact Ea (g + 1, aA0_0, (B8 (a6.take g) ix).length, cA0_0) ⟨oz, trivial⟩
 ·refine Eu (n0 rfl (E.exit (o3 (o3 (x5 (Et (Ew Z2 (Ey rfl (j6 (cs := [_, _]) ty_Query rfl (Has.pt (mS m0)) rfl) (l3 (Est rfl (Ns [_, _] ty_Query rfl) (fun _ _ => (Eu (E.ret (d7 (i9 (congrArg (ow j8 [_]) (show _ = B8 a6 ix by grind [a0S, a1B, a1v, d1, d2, t1, t2])) (l3 (d7 (d7 ?_))))))))))))))))))
  exact H8 br rfl rfl (mS (mS m0)) ty_Query rfl ((_, _, _), (_, _, _)) trivial rfl (J := _) (.refl _) (.inl rfl)
end Go.Proofs.YtbedienpleiamaaGreat
