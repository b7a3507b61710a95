import Derived.Test.YtdopeopehgdccaaGreatT6
import Derived.Test.YtdopeopehgdccaaGreatBf
namespace Go.Proofs.YtdopeopehgdccaaGreat
open Go.RowKit
set_option linter.all false
set_option maxHeartbeats 2000000
attribute [local irreducible] Nop Yd Yp Ent Has Tr FnP FnP2 Src O8 Y2 a0b a0m G5
variable {x t l3 : Int} {d4 : List (Int × List Int)} {a u : List (List Int × List (Int × List Int))} {f6 l s f7 : List Int} {m_a c_a s8 o9 s5 o1 m_l c_l m_s c_s x8 u6 b_s m_u c_u : Nat} {a_a r5 o2 a_l a_s u7 a_u : Option Addr}
theorem a9Q {left : Int} : Tr Tryz.prog 9 [.slice a_a m_a c_a, .int .i64 left] (fun w L => Ro w L C4 [.slice a_a m_a c_a] a ∧ 0 ≤ left ∧ left ≤ 1048576) [] (κ := Unit) (fun k => True) (fun k => .int .i64 (szR (B9 (fun x => x.1.length + B9 (fun x => x.2.length) x.2) a) left)) (fun k => []) := by
 refine l0 Tryz.func9 rfl (n := 27) rfl (by decide +kernel) bl (fr := [(0, .slice a_a m_a c_a), (1, .int .i64 left)]) rfl fun w L hR => ?_
 obtain ⟨ha, as0, as1⟩ := hR
 obtain ⟨rfl, la⟩ := ha.slen
 refine Ew Z1 (Ei rfl (Ev Z5 (Em rfl (Em rfl (Ey rfl ((Y.len us_lQuerys rfl).yd) (Ey rfl ((Y.sub rfl rfl om om).yd) (Ei rfl (Eu (Eq_ (Ew Z2 (Em rfl (Ey rfl ((Y.lss rfl rfl).yd) (o7 (fun q11 => ?_) (fun q11 => ?_))))))))))))))
 ·refine Eu (o5 rfl (Ew Z1 (Ei rfl ?_)))
  exact Eu (E.ret (l4 (Fg rfl rfl () (congrArg (Value.int .i64) (by exact a7Z q11)) rfl)))
 ·refine Eu (o4 rfl (i7 (Et (Eq_ (Ew Z1 (Ei rfl (Eu (E.block (E.loop (κ := Nat) (fun g => g ≤ a.length ∧ (a.length : Int) + (u5 (fun x => x.1.length + B9 (fun x => x.2.length) x.2) (a.take g) : Nat) ≤ left) (fun g => [(0, .slice a_a a.length c_a), (1, .int .i64 (left - ((a.length : Int) + (u5 (fun x => x.1.length + B9 (fun x => x.2.length) x.2) (a.take g) : Nat)))), (5, .int .i64 (g : Int))]) (fun g => []) (fun g => a.length - g) 0 ⟨by omega, by simp [u5]; omega⟩ ⟨rfl, frI (by simp [u5]), rfl, trivial⟩ (.refl _) (fun g pg => ?_))))))))))
  obtain ⟨pk, pa⟩ := pg
  refine Eq_ (Ew Z4 (Em rfl (Em rfl (Ey rfl ((Y.len us_lQuerys rfl).yd) (Ey rfl ((Y.lss rfl rfl).yd) (o7 (fun q15 => ?_) (fun q15 => ?_)))))))
  ·refine Eu (o5 rfl (i7 (Et (Eq_ (E.block (Ew Z7 (Em rfl (Em rfl ?_))))))))
   obtain ⟨eb20, eo20, ec20, ea20, er20, el20, eh20⟩ := ha.elem g om
   obtain ⟨xa20_0, xc20_0, xa20_1, xc20_1, rfl, xh20_0, xh20_1⟩ := S0 er20
   have := xh20_0.slen.2
   have := xh20_1.slen.2
   refine Ey rfl ((s4 us_lQuerys ty_lQuery rfl ea20 rfl g rfl om).yd) (Ey rfl (r9 (cs := [_, _]) ty_lQuery rfl (eh20 _) rfl) (Em rfl (Est rfl (n0 b0V rfl rfl rfl dc (fun w Lp hA => ⟨hA.ro xh20_0, hA.ro xh20_1, (by first | assumption | omega), (by first | assumption | omega)⟩)) (fun _ _ => (Ei rfl (Ev Z2 (Em rfl (Ey rfl ((Y.lss rfl rfl).yd) (o7 (fun q25 => ?_) (fun q25 => ?_))))))))))
   ·have z25 := a0Q q25 om
    refine Eu (o5 rfl (Ew Z1 (Ei rfl ?_)))
    exact Eu (E.ret (w8 (l4 (l4 (w8 (l4 (Fg rfl rfl () (congrArg (Value.int .i64) (by exact a8f (t := (fun x => x.1.length + B9 (fun x => x.2.length) x.2)) (n := a[g].1.length + B9 (fun x => x.2.length) a[g].2) (show g < a.length by omega) rfl om)) rfl)))))))
   ·obtain ⟨z25, y25⟩ := a1Q q25 om
    refine Eu (o4 rfl (i7 (t8 (Et (Ez Z3 (Em rfl (Ey rfl ((Y.add rfl rfl om om).yd) (Ei rfl ?_))))))))
    exact Eu (w4 br (g + 1) ⟨rfl, frI (by rw [z25]; have y := N5 (t := (fun x => x.1.length + B9 (fun x => x.2.length) x.2)) (show g < a.length by omega); omega), rfl, trivial⟩ (.refl _) ⟨by omega, by have y := N5 (t := (fun x => x.1.length + B9 (fun x => x.2.length) x.2)) (show g < a.length by omega); omega⟩ om)
  ·refine Eu (o4 rfl (E.exit (o3 (o3 (w3 (Et (Ew Z2 (Em rfl (Ei rfl ?_)))))))))
   exact Eu (E.ret (Fg rfl rfl () (congrArg (Value.int .i64) (by exact a7W (t := (fun x => x.1.length + B9 (fun x => x.2.length) x.2)) (show a.length ≤ g by omega) pa)) rfl))
theorem a1Y (hz : B9 (fun x => x.1.length + B9 (fun x => x.2.length) x.2) a ≤ 1048576) : Tr Tryz.prog 14 [.slice a_a m_a c_a] (fun w L => Ro w L C4 [.slice a_a m_a c_a] a) [] (κ := Option Addr × Nat × Nat) (fun k => True) (fun k => .slice k.1 k.2.1 k.2.2) (fun k => [ow C4 [.slice k.1 k.2.1 k.2.2] a]) := by
 refine l0 Tryz.func14 rfl (n := 23) rfl (by decide +kernel) bl (fr := [(0, .slice a_a m_a c_a)]) rfl fun w L hR => ?_
 have ha := hR
 obtain ⟨rfl, la⟩ := ha.slen
 have hlen : a.length ≤ B9 (fun x => x.1.length + B9 (fun x => x.2.length) x.2) a := by unfold B9; omega
 refine Ew Z1 (Ei rfl (Ev Z4 (Em rfl (Ey rfl ((Y.len us_lQuerys rfl).yd) (Est rfl (a5U (m := a.length) us_Querys ty_Query rfl rfl rfl mx om dc) (fun b7 _ => (s7 (A := [_]) (a3Z (E := P5) (e := tQuery) (zx := ([], [])) (S2 (x := ([], [])) Own.nil Own.nil) mx) rfl (Ei rfl (Eu (Eq_ (Ew Z1 (Ei rfl (Eu (E.block (E.loop (κ := Nat) (fun g => g ≤ a.length) (fun g => [(0, .slice a_a a.length c_a), (3, .slice (some ⟨b7, 0, none⟩) a.length a.length), (4, .int .i64 (g : Int))]) (fun g => [ow C4 [.slice (some ⟨b7, 0, none⟩) a.length a.length] (a.take g ++ List.replicate (a.length - g) ([], []))]) (fun g => a.length - g) 0 (Nat.zero_le _) ⟨rfl, rfl, rfl, trivial⟩ (by simp) (fun g pg => (Eq_ (Ew Z4 (Em rfl (Em rfl (Ey rfl ((Y.len us_lQuerys rfl).yd) (Ey rfl ((Y.lss rfl rfl).yd) (o7 (fun q11 => ?_) (fun q11 => ?_))))))))))))))))))))))))
 ·refine Eu (o5 rfl (i7 (Et (Eq_ (E.block (Ez Z9 (Em rfl (Em rfl (Em rfl (Em rfl ?_))))))))))
  obtain ⟨eb18, eo18, ec18, ea18, er18, el18, eh18⟩ := ha.elem g om
  obtain ⟨xa18_0, xc18_0, xa18_1, xc18_1, rfl, xh18_0, xh18_1⟩ := S0 er18
  have := xh18_0.slen.2
  have := xh18_1.slen.2
  refine Ey rfl ((s4 us_lQuerys ty_lQuery rfl ea18 rfl g rfl om).yd) (Ey rfl (r9 (cs := [_, _]) ty_lQuery rfl (eh18 _) rfl) (Est rfl (N.call (b0I (by have y := a3G (t := (fun x => x.1.length + B9 (fun x => x.2.length) x.2)) (l := a) (g := g) om; omega) (by have y := a3G (t := (fun x => x.1.length + B9 (fun x => x.2.length) x.2)) (l := a) (g := g) om; omega)) rfl rfl rfl dc rfl (fun w Lp hA => ⟨hA.ro xh18_0, hA.ro xh18_1⟩)) (fun k20 _ => ?_)))
  obtain ⟨⟨a20_0, m20_0, c20_0⟩, ⟨a20_1, m20_1, c20_1⟩⟩ := k20
  refine f5 m0 fun e20_0 l20_0 => ?_
  subst e20_0
  refine f5 (mS m0) fun e20_1 l20_1 => ?_
  subst e20_1
  refine Ey rfl ((s4 us_Querys ty_Query rfl rfl rfl g rfl om).yd) (f8 (f8 (o6 (Est rfl (N.set (E := P5) (j := g) (ex := a[g]) (ce := [_, _]) ty_Query rfl rfl rfl rfl (S2 (x := a[g]) Own.ow Own.ow) rfl (Nat.zero_add _) rfl (by simp; omega)) (fun _ _ => (En (t8 (Et (Ez Z3 (Em rfl (Ey rfl ((Y.add rfl rfl om om).yd) (Ei rfl ?_))))))))))))
  exact Eu (w4 br (g + 1) rs (by rw [a4M om rfl]) om om)
 ·refine Eu (o4 rfl (E.exit (o3 (o3 (w3 (Et (Ew Z2 (Em rfl (Ei rfl (Eu (E.ret (i9 (congrArg (ow C4 [_]) (show _ = a by exact a3j om)) ?_))))))))))))
  exact Fg rfl rfl (_, _, _) rfl rfl
theorem b0w {a_b : Option Addr} {m_b c_b : Nat} {b : List (List Int × List (Int × List Int))} : Tr Tryz.prog 20 [.slice a_a m_a c_a, .slice a_b m_b c_b] (fun w L => Ro w L C4 [.slice a_a m_a c_a] a ∧ Ro w L C4 [.slice a_b m_b c_b] b) [] (κ := Unit) (fun k => True) (fun k => .bool (decide (a = b))) (fun k => []) := by
 refine l0 Tryz.func20 rfl (n := 27) rfl (by decide +kernel) bl (fr := [(0, .slice a_a m_a c_a), (1, .slice a_b m_b c_b)]) rfl fun w L hR => ?_
 obtain ⟨ha, hb⟩ := hR
 obtain ⟨rfl, la⟩ := ha.slen
 obtain ⟨rfl, lb⟩ := hb.slen
 refine Ew Z1 (Ei rfl (Eu (Eq_ (Ew Z5 (Em rfl (Ey rfl ((Y.len us_Querys rfl).yd) (Em rfl (Ey rfl ((Y.len us_Querys rfl).yd) (Ey rfl ((Y.neq rfl rfl).yd) (o7 (fun q10 => ?_) (fun q10 => ?_)))))))))))
 ·refine Eu (o5 rfl (Ew Z1 (Ei rfl ?_)))
  exact Eu (E.ret (l4 (Fb rfl rfl (by exact a3d q10))))
 ·refine Eu (o4 rfl (i7 (Et (Eq_ (Ew Z1 (Ei rfl (Eu (E.block (E.loop (κ := Nat) (fun g => g ≤ a.length ∧ a.take g = b.take g) (fun g => [(0, .slice a_a a.length c_a), (1, .slice a_b b.length c_b), (5, .int .i64 (g : Int))]) (fun g => []) (fun g => a.length - g) 0 ⟨by omega, by simp⟩ ⟨rfl, rfl, rfl, trivial⟩ (.refl _) (fun g pg => ?_))))))))))
  obtain ⟨pk, pa⟩ := pg
  refine Eq_ (Ew Z4 (Em rfl (Em rfl (Ey rfl ((Y.len us_Querys rfl).yd) (Ey rfl ((Y.lss rfl rfl).yd) (o7 (fun q14 => ?_) (fun q14 => ?_)))))))
  ·refine Eu (o5 rfl (i7 (Et (Eq_ (E.block (Eq_ (D.region (fun j => true) mixed (Dyp 0 rfl (o0 rfl) (Dyp 1 rfl (o0 rfl) ?_)))))))))
   obtain ⟨eb19, eo19, ec19, ea19, er19, el19, eh19⟩ := ha.elem g om
   obtain ⟨xa19_0, xc19_0, xa19_1, xc19_1, rfl, xh19_0, xh19_1⟩ := S0 er19
   have := xh19_0.slen.2
   have := xh19_1.slen.2
   refine Dyp 2 rfl (s4 us_Querys ty_Query rfl ea19 rfl g rfl om) (Dy 3 rfl (r9 (cs := [_, _]) ty_Query rfl (eh19 _) rfl) (Dyp 4 rfl (o0 rfl) (Dyp 5 rfl (o0 rfl) ?_)))
   obtain ⟨eb23, eo23, ec23, ea23, er23, el23, eh23⟩ := hb.elem g om
   obtain ⟨xa23_0, xc23_0, xa23_1, xc23_1, rfl, xh23_0, xh23_1⟩ := S0 er23
   have := xh23_0.slen.2
   have := xh23_1.slen.2
   refine Dyp 6 rfl (s4 us_Querys ty_Query rfl ea23 rfl g rfl om) (Dy 7 rfl (r9 (cs := [_, _]) ty_Query rfl (eh23 _) rfl) (t6 8 rfl rfl kr (fun _ => rfl) (n0 b0K rfl rfl rfl dc (fun w Lp hA => ⟨hA.ro xh19_0, hA.ro xh19_1, hA.ro xh23_0, hA.ro xh23_1⟩)) (fun _ _ => (Ent.b (fun q25 => ?_) (fun q25 => ?_)))))
   ·refine Dyp 9 rfl (Y.not (b := true) rfl) (s3 kr (Et (o4 rfl (i7 (t8 (Et (Ez Z3 (Em rfl (Ey rfl ((Y.add rfl rfl om om).yd) (Ei rfl ?_))))))))))
    exact Eu (w4 br (g + 1) rs (.refl _) ⟨by omega, a1q om om pa (of_decide_eq_true q25)⟩ om)
   ·refine Dyp 9 rfl (Y.not (b := false) rfl) (s3 kr (Et (o5 rfl (Ew Z1 (Ei rfl ?_)))))
    exact Eu (E.ret (w8 (l4 (l4 (w8 (l4 (Fb rfl rfl (by exact a2U (show g < a.length by omega) (show g < b.length by omega) (of_decide_eq_false q25)))))))))
  ·refine Eu (o4 rfl (E.exit (o3 (o3 (w3 (Et (Ew Z1 (Ei rfl ?_))))))))
   exact Eu (E.ret (Fb rfl rfl (by exact a2v (show a.length ≤ g by omega) (show b.length ≤ g by omega) pa)))
theorem a5F {a_atoms : Option Addr} {m_atoms c_atoms : Nat} {d8 : List (Int × List Int)} {is_g : FuncId} {is_c : List Value} {D_is : Int → Prop} {is : Int → Bool} (hz : B9 (fun x => x.2.length) d8 ≤ 1048576) (hD_is : ∀ a ∈ d8, ∀ x ∈ a.2, D_is x) : Tr Tryz.prog 272 [.slice a_atoms m_atoms c_atoms, .func (.func is_g) #[] is_c.toArray] (fun w L => Ro w L w9 [.slice a_atoms m_atoms c_atoms] d8 ∧ FnP Tryz.prog w L is_g is_c Enc.int a7b D_is is) [] (κ := Option Addr × Nat × Nat) (fun k => True) (fun k => .slice k.1 k.2.1 k.2.2) (fun k => [ow eIs [.slice k.1 k.2.1 k.2.2] (f0 is d8)]) := by
 refine l0 Tryz.func272 rfl (n := 37) rfl (by decide +kernel) bl (fr := [(0, .slice a_atoms m_atoms c_atoms), (1, .func (.func is_g) #[] is_c.toArray)]) rfl fun w L hR => ?_
 obtain ⟨hatoms, his⟩ := hR
 obtain ⟨rfl, latoms⟩ := hatoms.slen
 refine Ew Z1 (Ei rfl (Ev Z2 (Est rfl (Nb [] [] us_Is i8 rfl rfl) (fun b10 _ => (Ent.drop (Ei rfl (Eu (Eq_ (Ew Z3 (Em rfl (Ey rfl ((Y.len us_Atoms rfl).yd) (Em rfl (Eu (E.block (s7 (A := []) (Own.nil (E := Enc.int) (e := tI) (a := (some ⟨b10, 0, none⟩))) rfl (i9 (congrArg (ow eIs [_]) (show [] = ((d8.take 0).flatMap (fun a : Int × List Int => a.2)).filter is from by first | rfl | (simp; done) | grind [f0, a1o, d1, d2, t1, t2])) (E.loop (κ := Nat × Option Addr × Nat × Nat) (fun g => g.1 ≤ d8.length ∧ True) (fun g => [(1, .func (.func is_g) #[] is_c.toArray), (5, .slice g.2.1 g.2.2.1 g.2.2.2), (11, .slice a_atoms d8.length c_atoms), (12, .int .i64 (↑d8.length : Int)), (13, .int .i64 (↑g.1 : Int))]) (fun g => [ow eIs [.slice g.2.1 g.2.2.1 g.2.2.2] (((d8.take g.1).flatMap (fun a : Int × List Int => a.2)).filter is)]) (fun g => d8.length - g.1) (0, (some ⟨b10, 0, none⟩), 0, 0) ⟨Nat.zero_le _, by simp⟩ ⟨rfl, rfl, rfl, rfl, rfl, trivial⟩ (.refl _) (fun g pg => ?_))))))))))))))))))
 obtain ⟨g, aA0_0, mA0_0, cA0_0⟩ := g
 try dsimp only at pg
 try dsimp only
 obtain ⟨pk, pa⟩ := pg
 have jt := b6n (is := is) (g := g) hz
 refine f5 m0 fun eaA0_0 laA0_0 => ?_
 subst eaA0_0
 refine Ew Z1 (Ey rfl ((Y.lss rfl rfl).yd) (o7 (fun q14 => ?_) (fun q14 => ?_)))
 ·obtain ⟨eb15, eo15, ec15, ea15, er15, el15, eh15⟩ := hatoms.elem g om
  obtain ⟨xa15_0, xc15_0, rfl, ei15_0, xh15_0⟩ := J6 er15
  have := xh15_0.slen.2
  refine Eu (Eq_ (o5 rfl (i7 (Et (Eq_ (E.block (Ew Z4 (Ey rfl ((s4 us_Atoms ty_Atom rfl ea15 rfl g rfl om).yd) (Ey rfl (r9 (cs := [_, _]) ty_Atom rfl (eh15 _) rfl) (Est rfl (N.alloc ty_Atom dc) (fun b7 _ => (Est rfl (Ns [_, _] ty_Atom rfl) (fun _ _ => (Ev Z4 (Ey rfl ((j6 fo_Atom_1 ty_Is dc rfl).yd) (Ey rfl (g9 ty_Is rfl (Hz m0 1 rfl) rfl) (Ey rfl ((Y.len us_Is rfl).yd) (Em rfl (Eu (E.block (f8 (i9 (congrArg (ow eIs [_]) (show ((d8.take g).flatMap (fun a : Int × List Int => a.2)).filter is = ((d8.take g).flatMap (fun a : Int × List Int => a.2)).filter is ++ (d8[g].2.take 0).filter is from by first | rfl | (simp; done) | grind [f0, a1o, d1, d2, t1, t2])) (E.loop (κ := Nat × Option Addr × Nat × Nat) (fun h => h.1 ≤ d8[g].2.length ∧ True) (fun h => [(1, .func (.func is_g) #[] is_c.toArray), (5, .slice h.2.1 h.2.2.1 h.2.2.2), (11, .slice a_atoms d8.length c_atoms), (12, .int .i64 (↑d8.length : Int)), (13, .int .i64 (g : Int)), (18, .slice xa15_0 d8[g].2.length xc15_0), (19, .int .i64 (↑d8[g].2.length : Int)), (20, .int .i64 (↑h.1 : Int))]) (fun h => [ow eIs [.slice h.2.1 h.2.2.1 h.2.2.2] (((d8.take g).flatMap (fun a : Int × List Int => a.2)).filter is ++ (d8[g].2.take h.1).filter is), pt b7 128 [.int .i64 d8[g].1, .slice xa15_0 d8[g].2.length xc15_0]]) (fun h => d8[g].2.length - h.1) (0, aA0_0, (((d8.take g).flatMap (fun a : Int × List Int => a.2)).filter is).length, cA0_0) ⟨Nat.zero_le _, by simp⟩ ⟨rfl, rfl, rfl, rfl, rfl, rfl, rfl, rfl, trivial⟩ (.refl _) (fun h ph => ?_))))))))))))))))))))))))
  obtain ⟨h, aA1_0, mA1_0, cA1_0⟩ := h
  try dsimp only at ph
  try dsimp only
  obtain ⟨pk, pa⟩ := ph
  have ju := a6n (is := is) (g := g) (h := h) hz om
  refine f5 m0 fun eaA1_0 laA1_0 => ?_
  subst eaA1_0
  refine Ew Z1 (Ey rfl ((Y.lss rfl rfl).yd) (o7 (fun q21 => ?_) (fun q21 => ?_)))
  ·obtain ⟨eb22, eo22, ea22, ei22, eh22⟩ := xh15_0.elemI h om
   refine Eu (Eq_ (o5 rfl (i7 (Et (Eq_ (E.block (Ew Z3 (Ey rfl ((s4 us_Is i8 rfl ea22 rfl h rfl om).yd) (Ey rfl (g9 i8 rfl (eh22 _) rfl) (Ei rfl (Ev Z3 (Em rfl (Em rfl (Est rfl (N.fn (cs := [_]) his rfl rfl rfl dc (fun w Lp hA => V8 ei22) (hD_is d8[g] (List.getElem_mem om) _ (List.getElem_mem om))) (fun _ _ => (Ent.b (fun q26 => ?_) (fun q26 => ?_)))))))))))))))))
   ·refine Eu (o5 rfl (Ez Z5 (Em rfl (Em rfl (Est rfl (Nb [_] [_] us_Is i8 rfl rfl) (fun b29 _ => (f8 (Est rfl (B1 (E := Enc.int) (ex := d8[g].2[h]) us_Is i8 rfl rfl rfl (Own.int ei22) rfl bn bn dc) (fun p30 _ => (Ei rfl (En (t8 (Et (Ez Z2 (Ey rfl ((Y.add rfl rfl om om).yd) (Em rfl (Eu (i9 (congrArg (ow eIs [_]) (show (((d8.take g).flatMap (fun a : Int × List Int => a.2)).filter is ++ (d8[g].2.take h).filter is) ++ [d8[g].2[h]] = ((d8.take g).flatMap (fun a : Int × List Int => a.2)).filter is ++ (d8[g].2.take (h + 1)).filter is from by grind [f0, a1o, d1, d2, t1, t2])) (f8 (f8 ?_))))))))))))))))))))
    exact Ea (h + 1, p30.1, ((((d8.take g).flatMap (fun a : Int × List Int => a.2)).filter is ++ (d8[g].2.take h).filter is).length + 1), p30.2) ⟨oz, trivial⟩
   ·refine Eu (o4 rfl (i7 (t8 (Et (Ez Z2 (Ey rfl ((Y.add rfl rfl om om).yd) (Em rfl (Eu (i9 (congrArg (ow eIs [_]) (show ((d8.take g).flatMap (fun a : Int × List Int => a.2)).filter is ++ (d8[g].2.take h).filter is = ((d8.take g).flatMap (fun a : Int × List Int => a.2)).filter is ++ (d8[g].2.take (h + 1)).filter is from by grind [f0, a1o, d1, d2, t1, t2])) (f8 (f8 ?_)))))))))))
    exact Ea (h + 1, aA1_0, (((d8.take g).flatMap (fun a : Int × List Int => a.2)).filter is ++ (d8[g].2.take h).filter is).length, cA1_0) ⟨oz, trivial⟩
  ·refine Eu (Eq_ (o4 rfl (E.exit (o3 (o3 (w3 (t8 (Et (Ez Z2 (Ey rfl ((Y.add rfl rfl om om).yd) (Em rfl (Eu (f8 (Ent.drop (i9 (congrArg (ow eIs [_]) (show ((d8.take g).flatMap (fun a : Int × List Int => a.2)).filter is ++ (d8[g].2.take h).filter is = ((d8.take (g + 1)).flatMap (fun a : Int × List Int => a.2)).filter is from by grind [f0, a1o, d1, d2, t1, t2])) ?_)))))))))))))))
   exact Ea (g + 1, aA1_0, (((d8.take g).flatMap (fun a : Int × List Int => a.2)).filter is ++ (d8[g].2.take h).filter is).length, cA1_0) ⟨oz, trivial⟩
 ·refine Eu (Eq_ (o4 rfl (E.exit (o3 (o3 (w3 (Et (Ew Z2 (Em rfl (Est rfl (N.call (pre := [_]) (b8L fc) rfl rfl rfl dc rfl tv) (fun _ _ => (Ev Z3 (Em rfl (Est rfl (N.call (pre := [_]) b5N rfl rfl rfl dc rfl tv) (fun k36 _ => ?_)))))))))))))))
  obtain ⟨a36, m36, c36⟩ := k36
  refine f5 m0 fun e36 l36 => ?_
  subst e36
  refine Ei rfl (Eu (E.ret (i9 (congrArg (ow eIs [_]) (show _ = f0 is d8 by rw [a1o]; grind [f0, d1, d2, t1, t2])) ?_)))
  exact Fg rfl rfl (_, _, _) rfl rfl
theorem a6F (hz : B9 (fun x => x.2.length) d4 ≤ 1048576) : Tr Tryz.prog 204 [.agg #[.slice r5 s8 o9, .slice o2 s5 o1]] (fun w L => Ro w L eIs [.slice r5 s8 o9] f6 ∧ Ro w L w9 [.slice o2 s5 o1] d4) [] (κ := Option Addr × Nat × Nat) (fun k => True) (fun k => .slice k.1 k.2.1 k.2.2) (fun k => [ow eIs [.slice k.1 k.2.1 k.2.2] (f0 (fun t => inR t 10 17) d4)]) := by
 refine l0 Tryz.func204 rfl (n := 6) rfl (by decide +kernel) bl (fr := [(0, .agg #[.slice r5 s8 o9, .slice o2 s5 o1])]) rfl fun w L hR => ?_
 obtain ⟨t7, s0⟩ := hR
 obtain ⟨rfl, I9⟩ := t7.slen
 obtain ⟨rfl, H0⟩ := s0.slen
 refine Ew Z2 (Est rfl (N.box (cs := [_, _]) rfl dc rfl) (fun b1 _ => (Ei rfl (Ev Z4 (Ey rfl ((j6 fo_Query_1 ty_Atoms dc rfl).yd) (Ey rfl (g9 ty_Atoms rfl (Hz m0 1 rfl) rfl) (Est rfl (N.call (a5F (is := (fun t => inR t 10 17)) (D_is := (fun _ => True)) fc (by intros; exact trivial)) rfl rfl rfl dc rfl (fun w Lp hA => ⟨hA.ro s0, a3f (D := (fun _ => True)) (RR := fun _ _ => True) (fun hd => b8D a2g (fun _ _ _ => trivial)) (fun w' hk => trivial)⟩)) (fun k5 _ => ?_))))))))
 obtain ⟨a5, m5, c5⟩ := k5
 refine f5 m0 fun e5 l5 => ?_
 subst e5
 refine Ei rfl ?_
 exact Eu (E.ret (Fg rfl rfl (_, _, _) rfl rfl))
theorem a1p : Tr Tryz.prog 168 [.slice a_l m_l c_l, .int .i64 x] (fun w L => Ro w L eIs [.slice a_l m_l c_l] l) [] (κ := Unit) (fun k => True) (fun k => .bool (G0 l x)) (fun k => []) := by
 refine l0 Tryz.func168 rfl (n := 18) rfl (by decide +kernel) bl (fr := [(0, .slice a_l m_l c_l), (1, .int .i64 x)]) rfl fun w L hR => ?_
 have hl := hR
 obtain ⟨rfl, ll⟩ := hl.slen
 refine Ew Z1 (Ei rfl (Eu (Eq_ (Ew Z1 (Ei rfl (Eu (E.block (E.loop (κ := Nat) (fun g => g ≤ l.length ∧ G0 l x = G0 (l.drop g) x) (fun g => [(0, .slice a_l l.length c_l), (1, .int .i64 x), (5, .int .i64 (g : Int))]) (fun g => []) (fun g => l.length - g) 0 ⟨Nat.zero_le _, by simp⟩ ⟨rfl, rfl, rfl, trivial⟩ (.refl _) (fun g pg => ?_)))))))))
 obtain ⟨pk, pa⟩ := pg
 refine Eq_ (Ew Z4 (Em rfl (Em rfl (Ey rfl ((Y.len us_Is rfl).yd) (Ey rfl ((Y.lss rfl rfl).yd) (o7 (fun q9 => ?_) (fun q9 => ?_)))))))
 ·refine Eu (o5 rfl (i7 (Et (Eq_ (E.block (Ew Z6 (Em rfl (Em rfl ?_))))))))
  obtain ⟨eb14, eo14, ea14, ei14, eh14⟩ := hl.elemI g om
  refine Ey rfl ((s4 us_Is i8 rfl ea14 rfl g rfl om).yd) (Ey rfl (g9 i8 rfl (eh14 _) rfl) (Em rfl (Ey rfl ((Y.eql rfl rfl).yd) (o7 (fun q17 => ?_) (fun q17 => ?_)))))
  ·refine Eu (o5 rfl (Ew Z1 (Ei rfl ?_)))
   exact Eu (E.ret (w8 (l4 (l4 (w8 (l4 (Fb rfl rfl (by grind [G0, d1, d2, t1, t2]))))))))
  ·refine Eu (o4 rfl (i7 (t8 (Et (Ez Z3 (Em rfl (Ey rfl ((Y.add rfl rfl om om).yd) (Ei rfl ?_))))))))
   exact Eu (w4 br (g + 1) rs (.refl _) ⟨by omega, by grind [G0, d1, d2, t1, t2]⟩ om)
 ·refine Eu (o4 rfl (E.exit (o3 (o3 (w3 (Et (Ew Z1 (Ei rfl ?_))))))))
  exact Eu (E.ret (Fb rfl rfl (by grind [G0, d1, d2, t1, t2])))
theorem a4H (hz : l.length ≤ 1073741824) : Tr Tryz.prog 244 [.slice a_l m_l c_l, .int .i64 x] (fun w L => I64 x) [ow eIs [.slice a_l m_l c_l] l] (κ := Option Addr × Nat × Nat) (fun k => True) (fun k => .slice k.1 k.2.1 k.2.2) (fun k => [ow eIs [.slice k.1 k.2.1 k.2.2] (J8 l x)]) := by
 refine l0 Tryz.func244 rfl (n := 47) rfl (by decide +kernel) bl (fr := [(0, .slice a_l m_l c_l), (1, .int .i64 x)]) rfl fun w L hR => ?_
 have i6x := hR
 refine f5 m0 fun el ll => ?_
 subst el
 refine Ew Z1 (Ei rfl (Eu (Eq_ (Ew Z3 (Em rfl (Em rfl (Est rfl (n0 a1p rfl rfl rfl dc (fun w Lp hA => hA.ow m0)) (fun _ _ => (Ent.b (fun q10 => ?_) (fun q10 => ?_))))))))))
 ·refine Eu (o5 rfl (Ew Z2 (Em rfl (Ei rfl (Eu (E.ret (l4 (i9 (congrArg (ow eIs [_]) (show _ = J8 l x by grind [J8, W4, W1, a0h, d1, d2, t1, t2])) ?_))))))))
  exact Fg rfl rfl (_, _, _) rfl rfl
 ·refine a1N (A := [_]) rfl fun wb1 Lb1 hB1 hA1 => ?_
  have rb1 : Ro wb1 Lb1 eIs [.slice a_l l.length c_l] l := hA1.ow m0
  refine Eu (o4 rfl (i7 (Et (Ew Z2 (Est rfl (Nb [] [] us_Is i8 rfl rfl) (fun b12 _ => (Ent.drop (Ei rfl (Ev Z1 (Ei rfl (Eu (Eq_ (Ew Z1 (Ei rfl (Eu (E.block (s7 (A := []) (Own.nil (E := Enc.int) (e := tI) (a := (some ⟨b12, 0, none⟩))) rfl (i9 (congrArg (ow eIs [_]) (show [] = L9 (fun y => decide (x < y)) x (l.take 0) from by first | rfl | (simp; done) | grind [J8, W4, W1, a0h, d1, d2, t1, t2])) (E.loop (κ := Nat × Option Addr × Nat × Nat) (fun g => g.1 ≤ l.length ∧ True) (fun g => [(0, .slice a_l l.length c_l), (1, .int .i64 x), (5, .slice g.2.1 g.2.2.1 g.2.2.2), (6, .bool ((l.take g.1).any (fun y => decide (x < y)))), (7, .int .i64 (↑g.1 : Int))]) (fun g => [ow eIs [.slice g.2.1 g.2.2.1 g.2.2.2] (L9 (fun y => decide (x < y)) x (l.take g.1))]) (fun g => l.length - g.1) (0, (some ⟨b12, 0, none⟩), 0, 0) ⟨Nat.zero_le _, by simp⟩ ⟨rfl, rfl, rfl, frB (by first | rfl | (simp; done) | grind [J8, W4, W1, a0h, d1, d2, t1, t2]), rfl, trivial⟩ (.refl _) (fun g pg => ?_))))))))))))))))))))
  obtain ⟨g, aA0_0, mA0_0, cA0_0⟩ := g
  try dsimp only at pg
  try dsimp only
  obtain ⟨pk, pa⟩ := pg
  have jp := List.length_take_le g l
  have ji := a5V (p := (fun y => decide (x < y))) (f := x) (l := l.take g)
  refine f5 m0 fun eaA0_0 laA0_0 => ?_
  subst eaA0_0
  refine Eq_ (Ew Z4 (Em rfl (Em rfl (Ey rfl ((Y.len us_Is rfl).yd) (Ey rfl ((Y.lss rfl rfl).yd) (o7 (fun q16 => ?_) (fun q16 => ?_)))))))
  ·refine Eu (o5 rfl (i7 (Et (Eq_ (E.block (Eq_ (Ew Z10 (Em rfl (Ent.b (fun q19 => ?_) (fun q19 => ?_))))))))))
   ·refine Ey rfl ((Y.not (b := true) rfl).yd) (Em rfl (Es rfl (Es rfl (Es rfl (Es rfl (Es rfl (Es rfl (Ey rfl ((v8 rfl rfl).yd) (Eu (o4 rfl (i7 (Et (Ez Z8 (Em rfl (Em rfl (Em rfl ?_))))))))))))))))
    obtain ⟨eb36, eo36, ea36, ei36, eh36⟩ := rb1.elemI g om
    refine Ey rfl ((s4 us_Is i8 rfl ea36 rfl g rfl om).yd) (Ey rfl (g9 i8 rfl (eh36 _) rfl) (Est rfl (Nb [_] [_] us_Is i8 rfl rfl) (fun b38 _ => (f8 (Est rfl (B1 (E := Enc.int) (ex := l[g]) us_Is i8 rfl rfl rfl (Own.int ei36) rfl bn bn dc) (fun p39 _ => (Ei rfl (En (t8 (Et (Ez Z3 (Em rfl (Ey rfl ((Y.add rfl rfl om om).yd) (Ei rfl (Eu (i9 (congrArg (ow eIs [_]) (show (L9 (fun y => decide (x < y)) x (l.take g)) ++ [l[g]] = L9 (fun y => decide (x < y)) x (l.take (g + 1)) from by grind [J8, W4, W1, a0h, d1, d2, t1, t2])) ?_))))))))))))))))
    exact w4 br (g + 1, p39.1, ((L9 (fun y => decide (x < y)) x (l.take g)).length + 1), p39.2) ⟨rfl, rfl, rfl, frB (by grind [J8, W4, W1, a0h, d1, d2, t1, t2]), rfl, trivial⟩ (.refl _) ⟨oz, trivial⟩ oz
   ·refine Ey rfl ((Y.not (b := false) rfl).yd) (Em rfl (Em rfl (Em rfl ?_)))
    obtain ⟨eb24, eo24, ea24, ei24, eh24⟩ := rb1.elemI g om
    refine Ey rfl ((s4 us_Is i8 rfl ea24 rfl g rfl om).yd) (Ey rfl (g9 i8 rfl (eh24 _) rfl) (Em rfl (Ey rfl ((Y.gtr rfl rfl).yd) (o7 (fun q27 => ?_) (fun q27 => ?_)))))
    ·refine Ey rfl ((w5 rfl rfl).yd) (Eu (o5 rfl (Ew Z5 (Em rfl (Em rfl (Est rfl (Nb [_] [_] us_Is i8 rfl rfl) (fun b31 _ => (f8 (Est rfl (B1 (E := Enc.int) (ex := x) us_Is i8 rfl rfl rfl (Own.int i6x) rfl bn bn dc) (fun p32 _ => (Ei rfl (Eu (Ez Z1 (Ei rfl (Eu (Ez Z8 (Em rfl (Em rfl (Em rfl (Ey rfl ((s4 us_Is i8 rfl ea24 rfl g rfl om).yd) (Ey rfl (g9 i8 rfl (eh24 _) rfl) (Est rfl (Nb [_] [_] us_Is i8 rfl rfl) (fun b38 _ => (f8 (Est rfl (B1 (E := Enc.int) (ex := l[g]) us_Is i8 rfl rfl rfl (Own.int ei24) rfl bn bn dc) (fun p39 _ => (Ei rfl (En (t8 (Et (Ez Z3 (Em rfl (Ey rfl ((Y.add rfl rfl om om).yd) (Ei rfl (Eu (i9 (congrArg (ow eIs [_]) (show ((L9 (fun y => decide (x < y)) x (l.take g)) ++ [x]) ++ [l[g]] = L9 (fun y => decide (x < y)) x (l.take (g + 1)) from by grind [J8, W4, W1, a0h, d1, d2, t1, t2])) ?_))))))))))))))))))))))))))))))))))))
     exact w4 br (g + 1, p39.1, (((L9 (fun y => decide (x < y)) x (l.take g)).length + 1) + 1), p39.2) ⟨rfl, rfl, rfl, frB (by grind [J8, W4, W1, a0h, d1, d2, t1, t2]), rfl, trivial⟩ (.refl _) ⟨oz, trivial⟩ oz
    ·refine Ey rfl ((w5 rfl rfl).yd) (Eu (o4 rfl (i7 (Et (Ez Z8 (Em rfl (Em rfl (Em rfl (Ey rfl ((s4 us_Is i8 rfl ea24 rfl g rfl om).yd) (Ey rfl (g9 i8 rfl (eh24 _) rfl) (Est rfl (Nb [_] [_] us_Is i8 rfl rfl) (fun b38 _ => (f8 (Est rfl (B1 (E := Enc.int) (ex := l[g]) us_Is i8 rfl rfl rfl (Own.int ei24) rfl bn bn dc) (fun p39 _ => (Ei rfl (En (t8 (Et (Ez Z3 (Em rfl (Ey rfl ((Y.add rfl rfl om om).yd) (Ei rfl (Eu (i9 (congrArg (ow eIs [_]) (show (L9 (fun y => decide (x < y)) x (l.take g)) ++ [l[g]] = L9 (fun y => decide (x < y)) x (l.take (g + 1)) from by grind [J8, W4, W1, a0h, d1, d2, t1, t2])) ?_)))))))))))))))))))))))))
     exact w4 br (g + 1, p39.1, ((L9 (fun y => decide (x < y)) x (l.take g)).length + 1), p39.2) ⟨rfl, rfl, rfl, frB (by grind [J8, W4, W1, a0h, d1, d2, t1, t2]), rfl, trivial⟩ (.refl _) ⟨oz, trivial⟩ oz
  ·refine Eu (o4 rfl (E.exit (o3 (o3 (w3 (Et (Eq_ (Ew Z2 (Em rfl (Ent.b (fun q40 => ?_) (fun q40 => ?_)))))))))))
   ·refine Ey rfl ((Y.not (b := true) rfl).yd) (Eu (o4 rfl (i7 (Et (Ew Z2 (Em rfl (Ei rfl (Eu (E.ret (i9 (congrArg (ow eIs [_]) (show _ = J8 l x by grind [J8, W4, W1, a0h, d1, d2, t1, t2])) ?_))))))))))
    exact F.r1 hB1 rfl rfl (_, _, _) trivial rfl (J := _) (.refl _) (.inl rfl)
   ·refine Ey rfl ((Y.not (b := false) rfl).yd) (Eu (o5 rfl (Ez Z5 (Em rfl (Em rfl (Est rfl (Nb [_] [_] us_Is i8 rfl rfl) (fun b44 _ => (f8 (Est rfl (B1 (E := Enc.int) (ex := x) us_Is i8 rfl rfl rfl (Own.int i6x) rfl bn bn dc) (fun p45 _ => (Ei rfl (Ev Z2 (Em rfl (Ei rfl (Eu (E.ret (i9 (congrArg (ow eIs [_]) (show _ = J8 l x by grind [J8, W4, W1, a0h, d1, d2, t1, t2])) ?_)))))))))))))))))
    exact F.r1 hB1 rfl rfl (_, _, _) trivial rfl (J := _) (.refl _) (.inl rfl)
theorem a6K (hz : B9 (fun x => x.2.length) d4 ≤ 1048576) : Tr Tryz.prog 200 [.agg #[.slice r5 s8 o9, .slice o2 s5 o1]] (fun w L => Ro w L eIs [.slice r5 s8 o9] f6 ∧ Ro w L w9 [.slice o2 s5 o1] d4) [] (κ := Option Addr × Nat × Nat) (fun k => True) (fun k => .slice k.1 k.2.1 k.2.2) (fun k => [ow eIs [.slice k.1 k.2.1 k.2.2] (f0 (fun t => inR t 10 17) d4)]) := by
 refine l0 Tryz.func200 rfl (n := 47) rfl (by decide +kernel) bl (fr := [(0, .agg #[.slice r5 s8 o9, .slice o2 s5 o1])]) rfl fun w L hR => ?_
 obtain ⟨t7, s0⟩ := hR
 obtain ⟨rfl, I9⟩ := t7.slen
 obtain ⟨rfl, H0⟩ := s0.slen
 have jv := s0.i64A
 refine Ew Z2 (Est rfl (N.box (cs := [_, _]) rfl dc rfl) (fun b1 _ => (Ei rfl (Ev Z2 (Est rfl (Nb [] [] us_Is i8 rfl rfl) (fun b6 _ => (Ent.drop (Ei rfl (Eu (Eq_ (Ew Z1 (Ei rfl (Eu (E.block (s7 (A := []) (Own.nil (E := Enc.int) (e := tI) (a := (some ⟨b6, 0, none⟩))) rfl (i9 (congrArg (ow eIs [_]) (show [] = M8 (((d4.take 0).flatMap (fun a : Int × List Int => a.2)).filter (fun t => inR t 10 17)) from by first | rfl | (simp; done) | grind [f0, Y7, Y0, d1, d2, t1, t2])) (E.loop (κ := Nat × Option Addr × Nat × Nat) (fun g => g.1 ≤ d4.length ∧ True) (fun g => [(1, .pointer (some ⟨b1, 0, none⟩)), (3, .slice g.2.1 g.2.2.1 g.2.2.2), (4, .int .i64 (↑g.1 : Int))]) (fun g => [ow eIs [.slice g.2.1 g.2.2.1 g.2.2.2] (M8 (((d4.take g.1).flatMap (fun a : Int × List Int => a.2)).filter (fun t => inR t 10 17))), pt b1 61 [.slice r5 f6.length o9, .slice o2 d4.length o1]]) (fun g => d4.length - g.1) (0, (some ⟨b6, 0, none⟩), 0, 0) ⟨Nat.zero_le _, by simp⟩ ⟨rfl, rfl, rfl, trivial⟩ (.refl _) (fun g pg => ?_))))))))))))))))))
 obtain ⟨g, aA0_0, mA0_0, cA0_0⟩ := g
 try dsimp only at pg
 try dsimp only
 obtain ⟨pk, pa⟩ := pg
 refine f5 m0 fun eaA0_0 laA0_0 => ?_
 subst eaA0_0
 refine Eq_ (Ew Z5 (Em rfl (Ey rfl ((j6 fo_Query_1 ty_Atoms dc rfl).yd) (Ey rfl (g9 ty_Atoms rfl (Hz (mS m0) 1 rfl) rfl) (Ey rfl ((Y.len us_Atoms rfl).yd) (Ey rfl ((Y.lss rfl rfl).yd) (o7 (fun q11 => ?_) (fun q11 => ?_))))))))
 ·refine Eu (o5 rfl (i7 (Et (Eq_ (E.block (Ew Z1 (Ei rfl (Eu (E.block (i9 (congrArg (ow eIs [_]) (show M8 (((d4.take g).flatMap (fun a : Int × List Int => a.2)).filter (fun t => inR t 10 17)) = M8 (((d4.take g).flatMap (fun a : Int × List Int => a.2)).filter (fun t => inR t 10 17) ++ (d4[g].2.take 0).filter (fun t => inR t 10 17)) from by first | rfl | (simp; done) | grind [f0, Y7, Y0, d1, d2, t1, t2])) (E.loop (κ := Nat × Option Addr × Nat × Nat) (fun h => h.1 ≤ d4[g].2.length ∧ True) (fun h => [(1, .pointer (some ⟨b1, 0, none⟩)), (3, .slice h.2.1 h.2.2.1 h.2.2.2), (4, .int .i64 (g : Int)), (5, .int .i64 (↑h.1 : Int))]) (fun h => [ow eIs [.slice h.2.1 h.2.2.1 h.2.2.2] (M8 (((d4.take g).flatMap (fun a : Int × List Int => a.2)).filter (fun t => inR t 10 17) ++ (d4[g].2.take h.1).filter (fun t => inR t 10 17))), pt b1 61 [.slice r5 f6.length o9, .slice o2 d4.length o1]]) (fun h => d4[g].2.length - h.1) (0, aA0_0, (M8 (((d4.take g).flatMap (fun a : Int × List Int => a.2)).filter (fun t => inR t 10 17))).length, cA0_0) ⟨Nat.zero_le _, by simp⟩ ⟨rfl, rfl, rfl, rfl, trivial⟩ (.refl _) (fun h ph => ?_))))))))))))
  obtain ⟨h, aA1_0, mA1_0, cA1_0⟩ := h
  try dsimp only at ph
  try dsimp only
  obtain ⟨pk, pa⟩ := ph
  have ju := a6n (is := (fun t => inR t 10 17)) (g := g) (h := h) hz om
  have jw := b3Z (l := ((d4.take g).flatMap (fun a : Int × List Int => a.2)).filter (fun t => inR t 10 17) ++ (d4[g].2.take h).filter (fun t => inR t 10 17))
  refine f5 m0 fun eaA1_0 laA1_0 => ?_
  subst eaA1_0
  refine Eq_ (Ew Z9 (Em rfl (Ey rfl ((j6 fo_Query_1 ty_Atoms dc rfl).yd) (Ey rfl (g9 ty_Atoms rfl (Hz (mS m0) 1 rfl) rfl) (Em rfl ?_)))))
  obtain ⟨eb18, eo18, ec18, ea18, er18, el18, eh18⟩ := s0.elem g om
  obtain ⟨xa18_0, xc18_0, rfl, ei18_0, xh18_0⟩ := J6 er18
  have := xh18_0.slen.2
  refine Ey rfl ((s4 us_Atoms ty_Atom rfl ea18 rfl g rfl om).yd) (Ey rfl ((j6 fo_Atom_1 ty_Is dc rfl).yd) (Ey rfl (g9 ty_Is rfl ((eh18 _).sub (cs' := [_]) 1 rfl) rfl) (Ey rfl ((Y.len us_Is rfl).yd) (Ey rfl ((Y.lss rfl rfl).yd) (o7 (fun q22 => ?_) (fun q22 => ?_))))))
  ·refine Eu (o5 rfl (i7 (Et (Eq_ (E.block (Ew Z10 (Ey rfl ((j6 fo_Query_1 ty_Atoms dc rfl).yd) (Ey rfl (g9 ty_Atoms rfl (Hz (mS m0) 1 rfl) rfl) (Em rfl (Ey rfl ((s4 us_Atoms ty_Atom rfl ea18 rfl g rfl om).yd) (Ey rfl ((j6 fo_Atom_1 ty_Is dc rfl).yd) (Ey rfl (g9 ty_Is rfl ((eh18 _).sub (cs' := [_]) 1 rfl) rfl) (Em rfl ?_)))))))))))))
   obtain ⟨eb32, eo32, ea32, ei32, eh32⟩ := xh18_0.elemI h om
   refine Ey rfl ((s4 us_Is i8 rfl ea32 rfl h rfl om).yd) (Ey rfl (g9 i8 rfl (eh32 _) rfl) (Est rfl (n0 a1l rfl rfl rfl dc tv) (fun _ _ => (Ent.b (fun q34 => ?_) (fun q34 => ?_)))))
   ·refine Eu (o5 rfl (Ez Z12 (Em rfl (Ey rfl ((j6 fo_Query_1 ty_Atoms dc rfl).yd) (Ey rfl (g9 ty_Atoms rfl (Hz (mS m0) 1 rfl) rfl) (Em rfl (Ey rfl ((s4 us_Atoms ty_Atom rfl ea18 rfl g rfl om).yd) (Ey rfl ((j6 fo_Atom_1 ty_Is dc rfl).yd) (Ey rfl (g9 ty_Is rfl ((eh18 _).sub (cs' := [_]) 1 rfl) rfl) (Em rfl (Ey rfl ((s4 us_Is i8 rfl ea32 rfl h rfl om).yd) (Ey rfl (g9 i8 rfl (eh32 _) rfl) (Est rfl (N.call (pre := [_]) (a4H fc) rfl rfl rfl dc rfl (fun w Lp hA => ei32)) (fun k45 _ => ?_))))))))))))))
    obtain ⟨a45, m45, c45⟩ := k45
    refine f5 m0 fun e45 l45 => ?_
    subst e45
    refine Ei rfl (En (t8 (Et (Ez Z3 (Em rfl (Ey rfl ((Y.add rfl rfl om om).yd) (Ei rfl (Eu (i9 (congrArg (ow eIs [_]) (show J8 (M8 (((d4.take g).flatMap (fun a : Int × List Int => a.2)).filter (fun t => inR t 10 17) ++ (d4[g].2.take h).filter (fun t => inR t 10 17))) d4[g].2[h] = M8 (((d4.take g).flatMap (fun a : Int × List Int => a.2)).filter (fun t => inR t 10 17) ++ (d4[g].2.take (h + 1)).filter (fun t => inR t 10 17)) from by grind [f0, Y7, Y0, d1, d2, t1, t2])) (f8 (f8 ?_)))))))))))
    exact Ea (h + 1, a45, (J8 (M8 (((d4.take g).flatMap (fun a : Int × List Int => a.2)).filter (fun t => inR t 10 17) ++ (d4[g].2.take h).filter (fun t => inR t 10 17))) d4[g].2[h]).length, c45) ⟨oz, trivial⟩
   ·refine Eu (o4 rfl (i7 (t8 (Et (Ez Z3 (Em rfl (Ey rfl ((Y.add rfl rfl om om).yd) (Ei rfl (Eu (i9 (congrArg (ow eIs [_]) (show M8 (((d4.take g).flatMap (fun a : Int × List Int => a.2)).filter (fun t => inR t 10 17) ++ (d4[g].2.take h).filter (fun t => inR t 10 17)) = M8 (((d4.take g).flatMap (fun a : Int × List Int => a.2)).filter (fun t => inR t 10 17) ++ (d4[g].2.take (h + 1)).filter (fun t => inR t 10 17)) from by grind [f0, Y7, Y0, d1, d2, t1, t2])) (f8 (f8 ?_))))))))))))
    exact Ea (h + 1, aA1_0, (M8 (((d4.take g).flatMap (fun a : Int × List Int => a.2)).filter (fun t => inR t 10 17) ++ (d4[g].2.take h).filter (fun t => inR t 10 17))).length, cA1_0) ⟨oz, trivial⟩
  ·refine Eu (o4 rfl (E.exit (o3 (o3 (w3 (t8 (Et (Ez Z3 (Em rfl (Ey rfl ((Y.add rfl rfl om om).yd) (Ei rfl (Eu (i9 (congrArg (ow eIs [_]) (show M8 (((d4.take g).flatMap (fun a : Int × List Int => a.2)).filter (fun t => inR t 10 17) ++ (d4[g].2.take h).filter (fun t => inR t 10 17)) = M8 (((d4.take (g + 1)).flatMap (fun a : Int × List Int => a.2)).filter (fun t => inR t 10 17)) from by grind [f0, Y7, Y0, d1, d2, t1, t2])) (f8 (f8 ?_)))))))))))))))
   exact Ea (g + 1, aA1_0, (M8 (((d4.take g).flatMap (fun a : Int × List Int => a.2)).filter (fun t => inR t 10 17) ++ (d4[g].2.take h).filter (fun t => inR t 10 17))).length, cA1_0) ⟨oz, trivial⟩
 ·refine Eu (o4 rfl (E.exit (o3 (o3 (w3 (Et (Ew Z2 (Em rfl (Ei rfl (Eu (E.ret (i9 (congrArg (ow eIs [_]) (show _ = f0 (fun t => inR t 10 17) d4 by grind [f0, Y7, Y0, d1, d2, t1, t2])) ?_))))))))))))
  exact Fg rfl rfl (_, _, _) rfl rfl
theorem b2y : Tr Tryz.prog 315 [.int .i64 t] (fun w L => True) [] (κ := Unit) (fun k => True) (fun k => .bool (V9 t)) (fun k => []) := by
 refine l0 Tryz.func315 rfl (n := 9) rfl (by decide +kernel) bl (fr := [(0, .int .i64 t)]) rfl fun w L hR => (Ew Z1 (Ei rfl (Ev Z7 (Em rfl (Est rfl (n0 a2s rfl rfl rfl dc tv) (fun _ _ => (Ent.b (fun q4 => ?_) (fun q4 => ?_))))))))
 ·refine Em rfl (Es rfl (Es rfl (Ey rfl ((w5 rfl rfl).yd) (Ei rfl ?_))))
  exact Eu (E.ret (Fb rfl rfl (by grind [V9, d1, d2, t1, t2])))
 ·refine Em rfl (Em rfl (Est rfl (n0 a2g rfl rfl rfl dc tv) (fun _ _ => (Ey rfl ((v8 rfl rfl).yd) (Ei rfl ?_)))))
  exact Eu (E.ret (Fb rfl rfl (by grind [V9, d1, d2, t1, t2])))
theorem b2w : Tr Tryz.prog 280 [.int .i64 t] (fun w L => True) [] (κ := Unit) (fun k => True) (fun k => .bool (V9 t)) (fun k => []) := by
 refine l0 Tryz.func280 rfl (n := 9) rfl (by decide +kernel) bl (fr := [(0, .int .i64 t)]) rfl fun w L hR => (Ew Z1 (Ei rfl (Ev Z7 (Em rfl (Est rfl (n0 I2 rfl rfl rfl dc tv) (fun _ _ => (Ent.b (fun q4 => ?_) (fun q4 => ?_))))))))
 ·refine Em rfl (Es rfl (Es rfl (Ey rfl ((w5 rfl rfl).yd) (Ei rfl ?_))))
  exact Eu (E.ret (Fb rfl rfl (by grind [V9, d1, d2, t1, t2])))
 ·refine Em rfl (Em rfl (Est rfl (n0 a1l rfl rfl rfl dc tv) (fun _ _ => (Ey rfl ((v8 rfl rfl).yd) (Ei rfl ?_)))))
  exact Eu (E.ret (Fb rfl rfl (by grind [V9, d1, d2, t1, t2])))
theorem a8B : Tr Tryz.prog 314 [.int .i64 t] (fun w L => (I64 t) ∧ True) [] (κ := Unit) (fun k => True) (fun k => .bool (!V9 t)) (fun k => []) := by
 refine l0 Tryz.func314 rfl (n := 6) rfl (by decide +kernel) bl (fr := [(0, .int .i64 t)]) rfl fun w L hR => ?_
 obtain ⟨i6t, _⟩ := hR
 refine Ew Z1 (Ei rfl (Ev Z4 (Em rfl (Est rfl (n0 b2y rfl rfl rfl dc tv) (fun _ _ => (Ey rfl ((Y.not rfl).yd) (Ei rfl ?_)))))))
 exact Eu (E.ret (Fb rfl rfl (by grind [d1, d2, t1, t2])))
theorem a9N : Tr Tryz.prog 286 [.slice a_l m_l c_l] (fun w L => Ro w L eIs [.slice a_l m_l c_l] l) [] (κ := Unit) (fun k => True) (fun k => .bool (!l.any fun t => !V9 t)) (fun k => []) := by
 refine l0 Tryz.func286 rfl (n := 6) rfl (by decide +kernel) bl (fr := [(0, .slice a_l m_l c_l)]) rfl fun w L hR => ?_
 have hl := hR
 obtain ⟨rfl, ll⟩ := hl.slen
 refine Ew Z1 (Ei rfl (Ev Z4 (Em rfl (Est rfl (n0 (Y5 (f := (fun t => !V9 t)) (D_f := (fun _ => True)) (by intros; exact trivial)) rfl rfl rfl dc (fun w Lp hA => ⟨hA.ro hl, a3f (D := (fun _ => True)) (fun hd => a8B) (fun w' hk => trivial)⟩)) (fun _ _ => (Ey rfl ((Y.not rfl).yd) (Ei rfl ?_)))))))
 exact Eu (E.ret (Fb rfl rfl (by grind [d1, d2, t1, t2])))
theorem b2p : Tr Tryz.prog 228 [.slice a_s m_s c_s, .agg #[.int .i64 l3, .slice u7 x8 u6]] (fun w L => Ro w L eIs [.slice a_s m_s c_s] s ∧ I64 l3 ∧ Ro w L eIs [.slice u7 x8 u6] f7) [] (κ := Unit) (fun k => True) (fun k => .bool (P0 s (l3, f7))) (fun k => []) := by
 refine l0 Tryz.func228 rfl (n := 25) rfl (by decide +kernel) bl (fr := [(0, .slice a_s m_s c_s), (1, .agg #[.int .i64 l3, .slice u7 x8 u6])]) rfl fun w L hR => ?_
 obtain ⟨hs, I0, y7⟩ := hR
 obtain ⟨rfl, ls⟩ := hs.slen
 obtain ⟨rfl, P3⟩ := y7.slen
 refine Ew Z2 (Est rfl (N.box (cs := [_, _]) rfl dc rfl) (fun b3 _ => (Ei rfl (Eu (Eq_ (D.region (fun j => true) mixed (Dyp 0 rfl (o0 rfl) (Dyp 1 rfl (j6 fo_Atom_0 i8 dc rfl) (Dy 2 rfl (g9 i8 rfl (Hz m0 0 rfl) rfl) (t6 3 rfl rfl kr (fun _ => rfl) (n0 a4t rfl rfl rfl dc (fun w Lp hA => hA.ro hs)) (fun _ _ => (Ent.b (fun q8 => ?_) (fun q8 => ?_)))))))))))))
 ·obtain ⟨z1, z2, _, _⟩ := a0E q8
  refine Dyp 4 rfl (o0 rfl) (Dyp 5 rfl (j6 fo_Atom_1 ty_Is dc rfl) (Dy 6 rfl (g9 ty_Is rfl (Hz m0 1 rfl) rfl) (Dyp 7 rfl (Y.len us_Is rfl) (Dyp 8 rfl (o0 rfl) (Dyp 9 rfl (j6 fo_Atom_0 i8 dc rfl) (Dy 10 rfl (g9 i8 rfl (Hz m0 0 rfl) rfl) ?_))))))
  obtain ⟨eb16, eo16, ea16, ei16, eh16⟩ := hs.elemI l3.toNat om
  refine Dyp 11 rfl (s4 us_Is i8 rfl ea16 rfl l3.toNat om om) (Dy 12 rfl (g9 i8 rfl (eh16 _) rfl) (Dyp 13 rfl (Y.eql rfl rfl) (o7 (fun q18 => ?_) (fun q18 => ?_))))
  ·refine Dyp 14 rfl (w5 rfl rfl) (Dyp 15 rfl (o0 rfl) (Dyp 16 rfl (j6 fo_Atom_1 ty_Is dc rfl) (Dy 17 rfl (g9 ty_Is rfl (Hz m0 1 rfl) rfl) (t6 18 rfl rfl kr (fun _ => rfl) (n0 a9N rfl rfl rfl dc (fun w Lp hA => hA.ro y7)) (fun _ _ => (Dyp 19 rfl (w5 rfl rfl) (Dyp 20 rfl (F0 rfl) ?_)))))))
   exact s3 kr (Et (E.ret (Fb rfl rfl (by grind [P0, F6, d1, d2, t1, t2]))))
  ·refine Dyp 14 rfl (w5 rfl rfl) (Dyp 15 rfl (o0 rfl) (Dsk 16 rfl (Dsk 17 rfl (Dsk 18 rfl (Dyp 19 rfl (v8 rfl rfl) (Dyp 20 rfl (F0 rfl) ?_))))))
   exact s3 kr (Et (E.ret (Fb rfl rfl (by grind [P0, F6, d1, d2, t1, t2]))))
 ·refine Dyp 4 rfl (o0 rfl) (Dsk 5 rfl (Dsk 6 rfl (Dsk 7 rfl (Dsk 8 rfl (Dsk 9 rfl (Dsk 10 rfl (Dsk 11 rfl (Dsk 12 rfl (Dsk 13 rfl (Dyp 14 rfl (v8 rfl rfl) (Dyp 15 rfl (o0 rfl) (Dsk 16 rfl (Dsk 17 rfl (Dsk 18 rfl (Dyp 19 rfl (v8 rfl rfl) (Dyp 20 rfl (F0 rfl) ?_))))))))))))))))
  exact s3 kr (Et (E.ret (Fb rfl rfl (by grind [P0, F6, d1, d2, t1, t2]))))
theorem b2A : Tr Tryz.prog 219 [.slice a_s m_s c_s, .agg #[.int .i64 l3, .slice u7 x8 u6]] (fun w L => Ro w L eIs [.slice a_s m_s c_s] s ∧ I64 l3 ∧ Ro w L eIs [.slice u7 x8 u6] f7) [] (κ := Unit) (fun k => True) (fun k => .bool (P0 s (l3, f7))) (fun k => []) := by
 refine l0 Tryz.func219 rfl (n := 43) rfl (by decide +kernel) bl (fr := [(0, .slice a_s m_s c_s), (1, .agg #[.int .i64 l3, .slice u7 x8 u6])]) rfl fun w L hR => ?_
 obtain ⟨hs, I0, y7⟩ := hR
 obtain ⟨rfl, ls⟩ := hs.slen
 obtain ⟨rfl, P3⟩ := y7.slen
 refine Ew Z2 (Est rfl (N.box (cs := [_, _]) rfl dc rfl) (fun b3 _ => (Ei rfl (Eu (Eq_ (Eq_ (D.region (fun j => true) mixed (Dyp 0 rfl (o0 rfl) (t6 1 rfl rfl kr (fun _ => rfl) (n0 W9 rfl rfl rfl dc (fun w Lp hA => hA.ro hs)) (fun _ _ => (Ent.b (fun q7 => ?_) (fun q7 => ?_))))))))))))
 ·refine Dyp 2 rfl (Y.not (b := true) rfl) (Dyp 3 rfl (o0 rfl) (Dyp 4 rfl (j6 fo_Atom_0 i8 dc rfl) (Dy 5 rfl (g9 i8 rfl (Hz m0 0 rfl) rfl) (Dyp 6 rfl (o0 rfl) (Dyp 7 rfl (Y.len us_Is rfl) (Dyp 8 rfl (Y.sub rfl rfl om om) (t6 9 rfl rfl kr (fun _ => rfl) (n0 I2 rfl rfl rfl dc tv) (fun _ _ => (Ent.b (fun q15 => ?_) (fun q15 => ?_))))))))))
  ·have y1 : M4 s l3 = true := by rw [M4, q7, q15]; rfl
   obtain ⟨z1, z2, _, _⟩ := a0E y1
   refine Dyp 10 rfl (Y.not (b := true) rfl) (Dyp 11 rfl (v8 rfl rfl) (Dyp 12 rfl (o0 rfl) (Dyp 13 rfl (j6 fo_Atom_1 ty_Is dc rfl) (Dy 14 rfl (g9 ty_Is rfl (Hz m0 1 rfl) rfl) (Dyp 15 rfl (Y.len us_Is rfl) (Dyp 16 rfl (o0 rfl) (Dyp 17 rfl (j6 fo_Atom_0 i8 dc rfl) (Dy 18 rfl (g9 i8 rfl (Hz m0 0 rfl) rfl) ?_))))))))
   obtain ⟨eb25, eo25, ea25, ei25, eh25⟩ := hs.elemI l3.toNat om
   refine Dyp 19 rfl (s4 us_Is i8 rfl ea25 rfl l3.toNat om om) (Dy 20 rfl (g9 i8 rfl (eh25 _) rfl) (Dyp 21 rfl (Y.neq rfl rfl) (o7 (fun q27 => ?_) (fun q27 => ?_))))
   ·refine Dyp 22 rfl (v8 rfl rfl) (s3 kr (Et (o5 rfl (Ew Z1 (Ei rfl ?_)))))
    exact Eu (E.ret (l4 (Fb rfl rfl (by grind [P0, M4, F6, d1, d2, t1, t2]))))
   ·refine Dyp 22 rfl (v8 rfl rfl) (s3 kr (Et (o4 rfl (i7 (Et (Eq_ (Ew Z1 (Ei rfl (Eu (E.block (E.loop (κ := Nat) (fun g => g ≤ f7.length ∧ (f7.any fun t => !V9 t) = ((f7.drop g).any fun t => !V9 t)) (fun g => [(3, .pointer (some ⟨b3, 0, none⟩)), (5, .int .i64 (g : Int))]) (fun g => [pt b3 128 [.int .i64 l3, .slice u7 f7.length u6]]) (fun g => f7.length - g) 0 ⟨Nat.zero_le _, by simp⟩ ⟨rfl, rfl, trivial⟩ (.refl _) (fun g pg => ?_))))))))))))
    obtain ⟨pk, pa⟩ := pg
    refine Eq_ (Ew Z5 (Em rfl (Ey rfl ((j6 fo_Atom_1 ty_Is dc rfl).yd) (Ey rfl (g9 ty_Is rfl (Hz m0 1 rfl) rfl) (Ey rfl ((Y.len us_Is rfl).yd) (Ey rfl ((Y.lss rfl rfl).yd) (o7 (fun q33 => ?_) (fun q33 => ?_))))))))
    ·refine Eu (o5 rfl (i7 (Et (Eq_ (E.block (Ew Z7 (Ey rfl ((j6 fo_Atom_1 ty_Is dc rfl).yd) (Ey rfl (g9 ty_Is rfl (Hz m0 1 rfl) rfl) (Em rfl ?_)))))))))
     obtain ⟨eb39, eo39, ea39, ei39, eh39⟩ := y7.elemI g om
     refine Ey rfl ((s4 us_Is i8 rfl ea39 rfl g rfl om).yd) (Ey rfl (g9 i8 rfl (eh39 _) rfl) (Est rfl (n0 b2w rfl rfl rfl dc tv) (fun _ _ => (Ent.b (fun q41 => ?_) (fun q41 => ?_)))))
     ·refine Ey rfl ((Y.not (b := true) rfl).yd) (Eu (o4 rfl (i7 (t8 (Et (Ez Z3 (Em rfl (Ey rfl ((Y.add rfl rfl om om).yd) (Ei rfl ?_)))))))))
      exact Eu (w4 br (g + 1) ⟨rfl, rfl, trivial⟩ (.refl _) ⟨by omega, by grind [d1, d2, t1, t2]⟩ om)
     ·refine Ey rfl ((Y.not (b := false) rfl).yd) (Eu (o5 rfl (Ew Z1 (Ei rfl ?_))))
      exact Eu (E.ret (w8 (l4 (l4 (w8 (l4 (Fb rfl rfl (by grind [P0, M4, F6, d1, d2, t1, t2]))))))))
    ·refine Eu (o4 rfl (E.exit (o3 (o3 (w3 (Et (Ew Z1 (Ei rfl ?_))))))))
     exact Eu (E.ret (Fb rfl rfl (by grind [P0, M4, F6, d1, d2, t1, t2])))
  ·refine Dyp 10 rfl (Y.not (b := false) rfl) (Dyp 11 rfl (v8 rfl rfl) (Dyp 12 rfl (o0 rfl) (Dsk 13 rfl (Dsk 14 rfl (Dsk 15 rfl (Dsk 16 rfl (Dsk 17 rfl (Dsk 18 rfl (Dsk 19 rfl (Dsk 20 rfl (Dsk 21 rfl (Dyp 22 rfl (w5 rfl rfl) (s3 kr (Et (o5 rfl (Ew Z1 (Ei rfl ?_)))))))))))))))))
   exact Eu (E.ret (l4 (Fb rfl rfl (by grind [P0, M4, F6, d1, d2, t1, t2]))))
 ·refine Dyp 2 rfl (Y.not (b := false) rfl) (Dyp 3 rfl (o0 rfl) (Dsk 4 rfl (Dsk 5 rfl (Dsk 6 rfl (Dsk 7 rfl (Dsk 8 rfl (Dsk 9 rfl (Dsk 10 rfl (Dyp 11 rfl (w5 rfl rfl) (Dyp 12 rfl (o0 rfl) (Dsk 13 rfl (Dsk 14 rfl (Dsk 15 rfl (Dsk 16 rfl (Dsk 17 rfl (Dsk 18 rfl (Dsk 19 rfl (Dsk 20 rfl (Dsk 21 rfl (Dyp 22 rfl (w5 rfl rfl) (s3 kr (Et (o5 rfl (Ew Z1 (Ei rfl ?_)))))))))))))))))))))))))
  exact Eu (E.ret (l4 (Fb rfl rfl (by grind [P0, M4, F6, d1, d2, t1, t2]))))
theorem a0q {v : Int} : Tr Tryz.prog 251 [.slice a_s m_s c_s, .int .i64 v] (fun w L => Ro w L eIs [.slice a_s m_s c_s] s) [] (κ := Unit) (fun k => True) (fun k => .bool (G0 s v)) (fun k => []) := by
 refine l0 Tryz.func251 rfl (n := 9) rfl (by decide +kernel) bl (fr := [(0, .slice a_s m_s c_s), (1, .int .i64 v)]) rfl fun w L hR => ?_
 have hs := hR
 obtain ⟨rfl, ls⟩ := hs.slen
 refine Ew Z1 (Ei rfl (Ev Z5 (Em rfl (Em rfl (Est rfl (n0 b2f rfl rfl rfl dc (fun w Lp hA => hA.ro hs)) (fun _ _ => (Ey rfl ((Y.geq rfl rfl).yd) (Ei rfl ?_))))))))
 exact Eu (E.ret (Fb rfl rfl (by exact W6)))
theorem a9r {b_vars : Nat} {a_vars : Option Addr} {m_vars c_vars : Nat} {vars : List Int} : Tr Tryz.prog 287 [.int .i64 t, .pointer (some ⟨b_vars, 0, none⟩)] (fun w L => (I64 t) ∧ RoPt w L b_vars [.slice a_vars m_vars c_vars] ∧ Ro w L eIs [.slice a_vars m_vars c_vars] vars) [] (κ := Unit) (fun k => True) (fun k => .bool (!G0 vars t)) (fun k => []) := by
 refine l0 Tryz.func287 rfl (n := 8) rfl (by decide +kernel) bl (fr := [(0, .int .i64 t), (1, .pointer (some ⟨b_vars, 0, none⟩))]) rfl fun w L hR => ?_
 obtain ⟨i6t, hb_vars, hvars⟩ := hR
 obtain ⟨rfl, lvars⟩ := hvars.slen
 refine Ew Z1 (Ei rfl (Ev Z5 (Ey rfl (g9 ty_Is rfl (hb_vars.has) rfl) (Em rfl (Est rfl (n0 a0q rfl rfl rfl dc (fun w Lp hA => hA.ro hvars)) (fun _ _ => (Ey rfl ((Y.not rfl).yd) (Ei rfl ?_))))))))
 exact Eu (E.ret (Fb rfl rfl (by grind [d1, d2, t1, t2])))
theorem b1d (hz : B9 (fun x => x.2.length) d4 ≤ 1048576) : Tr Tryz.prog 229 [.agg #[.slice r5 s8 o9, .slice o2 s5 o1]] (fun w L => Ro w L eIs [.slice r5 s8 o9] f6 ∧ Ro w L w9 [.slice o2 s5 o1] d4) [] (κ := Unit) (fun k => True) (fun k => .bool (a2J (f6, d4))) (fun k => []) := by
 refine l0 Tryz.func229 rfl (n := 17) rfl (by decide +kernel) bl (fr := [(0, .agg #[.slice r5 s8 o9, .slice o2 s5 o1])]) rfl fun w L hR => ?_
 obtain ⟨t7, s0⟩ := hR
 obtain ⟨rfl, I9⟩ := t7.slen
 obtain ⟨rfl, H0⟩ := s0.slen
 refine Ew Z2 (Est rfl (N.box (cs := [_, _]) rfl dc rfl) (fun b1 _ => (Ei rfl (Ev Z4 (Ey rfl (r9 (cs := [_, _]) ty_Query rfl (Has.pt m0) rfl) (Est rfl (N.call (a6F fc) rfl rfl rfl dc rfl (fun w Lp hA => ⟨hA.ro t7, hA.ro s0⟩)) (fun k5 _ => ?_)))))))
 obtain ⟨a5, m5, c5⟩ := k5
 refine f5 m0 fun e5 l5 => ?_
 subst e5
 refine Est rfl (N.alloc ty_Is dc) (fun b3 _ => (Est rfl (Ns [_] ty_Is rfl) (fun _ _ => (Ev Z12 (Ey rfl ((j6 fo_Query_0 ty_Is dc rfl).yd) (Ey rfl (g9 ty_Is rfl (Hz (mS (mS m0)) 0 rfl) rfl) (Ey rfl ((Y.len us_Is rfl).yd) (Ey rfl ((Y.leq rfl rfl).yd) (o7 (fun q9 => ?_) (fun q9 => ?_))))))))))
 ·refine Em rfl (Ey rfl ((j6 fo_Query_0 ty_Is dc rfl).yd) (Ey rfl (g9 ty_Is rfl (Hz (mS (mS m0)) 0 rfl) rfl) (Ey rfl ((Y.fn (vs := [_]) rfl).yd) (Est rfl (n0 (Y5 (f := (fun t => !G0 (f0 (fun t => inR t 10 17) d4) t)) (D_f := (fun _ => True)) (by intros; exact trivial)) rfl rfl rfl dc (fun w Lp hA => ⟨hA.ro t7, a3f (D := (fun _ => True)) (fun hd => a9r) (fun w' hk => ⟨(hA.pt m0).keep hk, (hA.ow (mS m0)).keep hk⟩)⟩)) (fun _ _ => (Ey rfl ((Y.not rfl).yd) (Ey rfl ((w5 rfl rfl).yd) (Ei rfl ?_))))))))
  exact Eu (E.ret (Fb rfl rfl (by grind [a2J, d1, d2, t1, t2])))
 ·refine Em rfl (Es rfl (Es rfl (Es rfl (Es rfl (Es rfl (Ey rfl ((v8 rfl rfl).yd) (Ei rfl ?_)))))))
  exact Eu (E.ret (Fb rfl rfl (by grind [a2J, d1, d2, t1, t2])))
theorem a9z : Tr Tryz.prog 227 [.agg #[.int .i64 l3, .slice u7 x8 u6], .pointer (some ⟨b_s, 0, none⟩)] (fun w L => (I64 l3 ∧ Ro w L eIs [.slice u7 x8 u6] f7) ∧ RoPt w L b_s [.slice a_s m_s c_s] ∧ Ro w L eIs [.slice a_s m_s c_s] s) [] (κ := Unit) (fun k => True) (fun k => .bool (!P0 s (l3, f7))) (fun k => []) := by
 refine l0 Tryz.func227 rfl (n := 8) rfl (by decide +kernel) bl (fr := [(0, .agg #[.int .i64 l3, .slice u7 x8 u6]), (1, .pointer (some ⟨b_s, 0, none⟩))]) rfl fun w L hR => ?_
 obtain ⟨⟨I0, y7⟩, hb_s, hs⟩ := hR
 obtain ⟨rfl, P3⟩ := y7.slen
 obtain ⟨rfl, ls⟩ := hs.slen
 refine Ew Z2 (Est rfl (N.box (cs := [_, _]) rfl dc rfl) (fun b2 _ => (Ei rfl (Ev Z5 (Ey rfl (g9 ty_Is rfl (hb_s.has) rfl) (Ey rfl (r9 (cs := [_, _]) ty_Atom rfl (Has.pt m0) rfl) (Est rfl (n0 b2p rfl rfl rfl dc (fun w Lp hA => ⟨hA.ro hs, I0, hA.ro y7⟩)) (fun _ _ => (Ey rfl ((Y.not rfl).yd) (Ei rfl ?_))))))))))
 exact Eu (E.ret (Fb rfl rfl (by grind [d1, d2, t1, t2])))
theorem a2z (hz : B9 (fun x => x.2.length) d4 ≤ 1048576) : Tr Tryz.prog 154 [.slice a_s m_s c_s, .agg #[.slice r5 s8 o9, .slice o2 s5 o1]] (fun w L => Ro w L eIs [.slice a_s m_s c_s] s ∧ Ro w L eIs [.slice r5 s8 o9] f6 ∧ Ro w L w9 [.slice o2 s5 o1] d4) [] (κ := Unit) (fun k => True) (fun k => .bool (D2 s (f6, d4))) (fun k => []) := by
 refine l0 Tryz.func154 rfl (n := 24) rfl (by decide +kernel) bl (fr := [(0, .slice a_s m_s c_s), (1, .agg #[.slice r5 s8 o9, .slice o2 s5 o1])]) rfl fun w L hR => ?_
 obtain ⟨hs, t7, s0⟩ := hR
 obtain ⟨rfl, ls⟩ := hs.slen
 obtain ⟨rfl, I9⟩ := t7.slen
 obtain ⟨rfl, H0⟩ := s0.slen
 refine Ew Z3 (Est rfl (N.box (cs := [_]) rfl dc rfl) (fun b2 _ => (Est rfl (N.box (cs := [_, _]) rfl dc rfl) (fun b3 _ => (Ei rfl (Ev Z20 (Ey rfl (g9 ty_Is rfl (Has.pt (mS m0)) rfl) (Est rfl (n0 a1X rfl rfl rfl dc (fun w Lp hA => hA.ro hs)) (fun _ _ => (Ent.b (fun q6 => ?_) (fun q6 => ?_)))))))))))
 ·refine Em rfl (Ey rfl ((j6 fo_Query_1 ty_Atoms dc rfl).yd) (Ey rfl (g9 ty_Atoms rfl (Hz m0 1 rfl) rfl) (Ey rfl ((Y.len us_Atoms rfl).yd) (Est rfl (n0 N4 rfl rfl rfl dc tv) (fun _ _ => (Ent.b (fun q11 => ?_) (fun q11 => ?_)))))))
  ·refine Ey rfl ((w5 rfl rfl).yd) (Em rfl (Ey rfl ((j6 fo_Query_1 ty_Atoms dc rfl).yd) (Ey rfl (g9 ty_Atoms rfl (Hz m0 1 rfl) rfl) (Ey rfl ((Y.fn (vs := [_]) rfl).yd) (Est rfl (n0 (a6R (f := (fun z => !P0 s z)) (D_f := (fun _ => True)) (by intros; exact trivial)) rfl rfl rfl dc (fun w Lp hA => ⟨hA.ro s0, b5Z (D := (fun _ => True)) (fun hd => a9z) (fun w' hk => ⟨(hA.pt (mS m0)).keep hk, (hA.ro hs).keep hk⟩)⟩)) (fun _ _ => (Ent.b (fun q17 => ?_) (fun q17 => ?_))))))))
   ·refine Ey rfl ((Y.not (b := true) rfl).yd) (Ey rfl ((w5 rfl rfl).yd) (Em rfl (Es rfl (Es rfl (Ey rfl ((v8 rfl rfl).yd) (Ei rfl ?_))))))
    exact Eu (E.ret (Fb rfl rfl (by grind [D2, d1, d2, t1, t2])))
   ·refine Ey rfl ((Y.not (b := false) rfl).yd) (Ey rfl ((w5 rfl rfl).yd) (Em rfl (Ey rfl (r9 (cs := [_, _]) ty_Query rfl (Has.pt m0) rfl) (Est rfl (n0 (b1d fc) rfl rfl rfl dc (fun w Lp hA => ⟨hA.ro t7, hA.ro s0⟩)) (fun _ _ => (Ey rfl ((w5 rfl rfl).yd) (Ei rfl ?_)))))))
    exact Eu (E.ret (Fb rfl rfl (by grind [D2, d1, d2, t1, t2])))
  ·refine Ey rfl ((w5 rfl rfl).yd) (Em rfl (Es rfl (Es rfl (Es rfl (Es rfl (Es rfl (Ey rfl ((v8 rfl rfl).yd) (Em rfl (Es rfl (Es rfl (Ey rfl ((v8 rfl rfl).yd) (Ei rfl ?_))))))))))))
   exact Eu (E.ret (Fb rfl rfl (by grind [D2, d1, d2, t1, t2])))
 ·refine Em rfl (Es rfl (Es rfl (Es rfl (Es rfl (Ey rfl ((v8 rfl rfl).yd) (Em rfl (Es rfl (Es rfl (Es rfl (Es rfl (Es rfl (Ey rfl ((v8 rfl rfl).yd) (Em rfl (Es rfl (Es rfl (Ey rfl ((v8 rfl rfl).yd) (Ei rfl ?_)))))))))))))))))
  exact Eu (E.ret (Fb rfl rfl (by grind [D2, d1, d2, t1, t2])))
theorem a1n (hz : B9 (fun x => x.2.length) d4 ≤ 1048576) : Tr Tryz.prog 137 [.slice a_s m_s c_s, .agg #[.slice r5 s8 o9, .slice o2 s5 o1]] (fun w L => Ro w L eIs [.slice a_s m_s c_s] s ∧ Ro w L eIs [.slice r5 s8 o9] f6 ∧ Ro w L w9 [.slice o2 s5 o1] d4) [] (κ := Unit) (fun k => True) (fun k => .bool (D2 s (f6, d4))) (fun k => []) := by
 refine l0 Tryz.func137 rfl (n := 54) rfl (by decide +kernel) bl (fr := [(0, .slice a_s m_s c_s), (1, .agg #[.slice r5 s8 o9, .slice o2 s5 o1])]) rfl fun w L hR => ?_
 obtain ⟨hs, t7, s0⟩ := hR
 obtain ⟨rfl, ls⟩ := hs.slen
 obtain ⟨rfl, I9⟩ := t7.slen
 obtain ⟨rfl, H0⟩ := s0.slen
 refine Ew Z2 (Est rfl (N.box (cs := [_, _]) rfl dc rfl) (fun b3 _ => (Ei rfl (Eu (Eq_ (Ew Z1 (Ei rfl (Eu (E.block (E.loop (κ := Nat) (fun g => g ≤ d4.length ∧ (d4.any fun a => !P0 s a) = ((d4.drop g).any fun a => !P0 s a)) (fun g => [(0, .slice a_s s.length c_s), (3, .pointer (some ⟨b3, 0, none⟩)), (5, .int .i64 (g : Int))]) (fun g => [pt b3 61 [.slice r5 f6.length o9, .slice o2 d4.length o1]]) (fun g => d4.length - g) 0 ⟨Nat.zero_le _, by simp⟩ ⟨rfl, rfl, rfl, trivial⟩ (.refl _) (fun g pg => ?_)))))))))))
 obtain ⟨pk, pa⟩ := pg
 refine Eq_ (Ew Z5 (Em rfl (Ey rfl ((j6 fo_Query_1 ty_Atoms dc rfl).yd) (Ey rfl (g9 ty_Atoms rfl (Hz m0 1 rfl) rfl) (Ey rfl ((Y.len us_Atoms rfl).yd) (Ey rfl ((Y.lss rfl rfl).yd) (o7 (fun q12 => ?_) (fun q12 => ?_))))))))
 ·refine Eu (o5 rfl (i7 (Et (Eq_ (E.block (Ew Z8 (Em rfl (Ey rfl ((j6 fo_Query_1 ty_Atoms dc rfl).yd) (Ey rfl (g9 ty_Atoms rfl (Hz m0 1 rfl) rfl) (Em rfl ?_))))))))))
  obtain ⟨eb19, eo19, ec19, ea19, er19, el19, eh19⟩ := s0.elem g om
  obtain ⟨xa19_0, xc19_0, rfl, ei19_0, xh19_0⟩ := J6 er19
  have := xh19_0.slen.2
  refine Ey rfl ((s4 us_Atoms ty_Atom rfl ea19 rfl g rfl om).yd) (Ey rfl (r9 (cs := [_, _]) ty_Atom rfl (eh19 _) rfl) (Est rfl (n0 b2A rfl rfl rfl dc (fun w Lp hA => ⟨hA.ro hs, ei19_0, hA.ro xh19_0⟩)) (fun _ _ => (Ent.b (fun q21 => ?_) (fun q21 => ?_)))))
  ·refine Ey rfl ((Y.not (b := true) rfl).yd) (Eu (o4 rfl (i7 (t8 (Et (Ez Z3 (Em rfl (Ey rfl ((Y.add rfl rfl om om).yd) (Ei rfl ?_)))))))))
   exact Eu (w4 br (g + 1) rs (.refl _) ⟨by omega, by grind [d1, d2, t1, t2]⟩ om)
  ·refine Ey rfl ((Y.not (b := false) rfl).yd) (Eu (o5 rfl (Ew Z1 (Ei rfl ?_))))
   exact Eu (E.ret (w8 (l4 (l4 (w8 (l4 (Fb rfl rfl (by grind [D2, a2J, d1, d2, t1, t2]))))))))
 ·refine Eu (o4 rfl (E.exit (o3 (o3 (w3 (Et (Ew Z3 (Ey rfl (r9 (cs := [_, _]) ty_Query rfl (Has.pt m0) rfl) (Est rfl (N.call (a6K fc) rfl rfl rfl dc rfl (fun w Lp hA => ⟨hA.ro t7, hA.ro s0⟩)) (fun k24 _ => ?_))))))))))
  obtain ⟨a24, m24, c24⟩ := k24
  refine f5 m0 fun e24 l24 => ?_
  subst e24
  refine Ei rfl (Eu (Eq_ (Ew Z1 (Ei rfl (Eu (E.block (E.loop (κ := Nat) (fun g => g ≤ f6.length ∧ (f6.any (fun t => !G0 (f0 (fun t => inR t 10 17) d4) t)) = ((f6.drop g).any (fun t => !G0 (f0 (fun t => inR t 10 17) d4) t))) (fun g => [(0, .slice a_s s.length c_s), (3, .pointer (some ⟨b3, 0, none⟩)), (6, .slice a24 (f0 (fun t => inR t 10 17) d4).length c24), (7, .int .i64 (g : Int))]) (fun g => [ow eIs [.slice a24 (f0 (fun t => inR t 10 17) d4).length c24] (f0 (fun t => inR t 10 17) d4), pt b3 61 [.slice r5 f6.length o9, .slice o2 d4.length o1]]) (fun g => f6.length - g) 0 ⟨Nat.zero_le _, by simp⟩ ⟨rfl, rfl, rfl, rfl, trivial⟩ (.refl _) (fun g pg => ?_))))))))
  obtain ⟨pk, pa⟩ := pg
  refine Eq_ (Ew Z5 (Em rfl (Ey rfl ((j6 fo_Query_0 ty_Is dc rfl).yd) (Ey rfl (g9 ty_Is rfl (Hz (mS m0) 0 rfl) rfl) (Ey rfl ((Y.len us_Is rfl).yd) (Ey rfl ((Y.lss rfl rfl).yd) (o7 (fun q29 => ?_) (fun q29 => ?_))))))))
  ·refine Eu (o5 rfl (i7 (Et (Eq_ (E.block (Ew Z8 (Em rfl (Ey rfl ((j6 fo_Query_0 ty_Is dc rfl).yd) (Ey rfl (g9 ty_Is rfl (Hz (mS m0) 0 rfl) rfl) (Em rfl ?_))))))))))
   obtain ⟨eb36, eo36, ea36, ei36, eh36⟩ := t7.elemI g om
   refine Ey rfl ((s4 us_Is i8 rfl ea36 rfl g rfl om).yd) (Ey rfl (g9 i8 rfl (eh36 _) rfl) (Est rfl (n0 a1p rfl rfl rfl dc (fun w Lp hA => hA.ow m0)) (fun _ _ => (Ent.b (fun q38 => ?_) (fun q38 => ?_)))))
   ·refine Ey rfl ((Y.not (b := true) rfl).yd) (Eu (o4 rfl (i7 (t8 (Et (Ez Z3 (Em rfl (Ey rfl ((Y.add rfl rfl om om).yd) (Ei rfl (Eu (f8 (f8 ?_))))))))))))
    exact w4 br (g + 1) rs (.refl _) ⟨by omega, by grind [d1, d2, t1, t2]⟩ om
   ·refine Ey rfl ((Y.not (b := false) rfl).yd) (Eu (o5 rfl (Ew Z1 (Ei rfl ?_))))
    exact Eu (E.ret (w8 (l4 (l4 (w8 (l4 (Fb rfl rfl (by grind [D2, a2J, d1, d2, t1, t2]))))))))
  ·refine Eu (o4 rfl (E.exit (o3 (o3 (w3 (Et (Ew Z15 (Em rfl (Est rfl (n0 W9 rfl rfl rfl dc (fun w Lp hA => hA.ro hs)) (fun _ _ => (Ent.b (fun q41 => ?_) (fun q41 => ?_))))))))))))
   ·refine Em rfl (Ey rfl ((j6 fo_Query_1 ty_Atoms dc rfl).yd) (Ey rfl (g9 ty_Atoms rfl (Hz (mS m0) 1 rfl) rfl) (Ey rfl ((Y.len us_Atoms rfl).yd) (Est rfl (n0 I2 rfl rfl rfl dc tv) (fun _ _ => (Ent.b (fun q46 => ?_) (fun q46 => ?_)))))))
    ·refine Ey rfl ((w5 rfl rfl).yd) (Em rfl (Ey rfl ((j6 fo_Query_0 ty_Is dc rfl).yd) (Ey rfl (g9 ty_Is rfl (Hz (mS m0) 0 rfl) rfl) (Ey rfl ((Y.len us_Is rfl).yd) (Ey rfl ((Y.leq rfl rfl).yd) (Ey rfl ((w5 rfl rfl).yd) (Ei rfl ?_)))))))
     exact Eu (E.ret (Fb rfl rfl (by grind [D2, a2J, d1, d2, t1, t2])))
    ·refine Ey rfl ((w5 rfl rfl).yd) (Em rfl (Es rfl (Es rfl (Es rfl (Es rfl (Ey rfl ((v8 rfl rfl).yd) (Ei rfl ?_)))))))
     exact Eu (E.ret (Fb rfl rfl (by grind [D2, a2J, d1, d2, t1, t2])))
   ·refine Em rfl (Es rfl (Es rfl (Es rfl (Es rfl (Ey rfl ((v8 rfl rfl).yd) (Em rfl (Es rfl (Es rfl (Es rfl (Es rfl (Ey rfl ((v8 rfl rfl).yd) (Ei rfl ?_))))))))))))
    exact Eu (E.ret (Fb rfl rfl (by grind [D2, a2J, d1, d2, t1, t2])))
theorem a9f {b_u : Nat} (hz : B9 (fun x => x.2.length) d4 ≤ 1048576) (h0 : 0 < u.length) : Tr Tryz.prog 153 [.agg #[.slice r5 s8 o9, .slice o2 s5 o1], .pointer (some ⟨b_s, 0, none⟩), .pointer (some ⟨b_u, 0, none⟩)] (fun w L => (Ro w L eIs [.slice r5 s8 o9] f6 ∧ Ro w L w9 [.slice o2 s5 o1] d4) ∧ RoPt w L b_s [.slice a_s m_s c_s] ∧ Ro w L eIs [.slice a_s m_s c_s] s ∧ RoPt w L b_u [.slice a_u m_u c_u] ∧ Ro w L C4 [.slice a_u m_u c_u] u) [] (κ := Unit) (fun k => True) (fun k => .bool (a2P s u (f6, d4))) (fun k => []) := by
 refine l0 Tryz.func153 rfl (n := 20) rfl (by decide +kernel) bl (fr := [(0, .agg #[.slice r5 s8 o9, .slice o2 s5 o1]), (1, .pointer (some ⟨b_s, 0, none⟩)), (2, .pointer (some ⟨b_u, 0, none⟩))]) rfl fun w L hR => ?_
 obtain ⟨⟨t7, s0⟩, hb_s, hs, hb_u, hu⟩ := hR
 obtain ⟨rfl, I9⟩ := t7.slen
 obtain ⟨rfl, H0⟩ := s0.slen
 obtain ⟨rfl, ls⟩ := hs.slen
 obtain ⟨rfl, lu⟩ := hu.slen
 refine Ew Z2 (Est rfl (N.box (cs := [_, _]) rfl dc rfl) (fun b3 _ => (Ei rfl (Eu (Eq_ (D.region (fun j => true) mixed (Dy 0 rfl (g9 ty_Is rfl (hb_s.has) rfl) (Dy 1 rfl (r9 (cs := [_, _]) ty_Query rfl (Has.pt m0) rfl) (t6 2 rfl rfl kr (fun _ => rfl) (n0 (a2z fc) rfl rfl rfl dc (fun w Lp hA => ⟨hA.ro hs, hA.ro t7, hA.ro s0⟩)) (fun _ _ => (Ent.b (fun q7 => ?_) (fun q7 => ?_))))))))))))
 ·refine Dyp 3 rfl (Y.not (b := true) rfl) (Dyp 4 rfl (o0 rfl) (Dyp 5 rfl (j6 fo_Query_0 ty_Is dc rfl) (Dy 6 rfl (g9 ty_Is rfl (Hz m0 0 rfl) rfl) (Dyp 7 rfl (Y.len us_Is rfl) (Dy 8 rfl (g9 ty_Querys rfl (hb_u.has) rfl) ?_)))))
  obtain ⟨eb14, eo14, ec14, ea14, er14, el14, eh14⟩ := hu.elem 0 om
  obtain ⟨xa14_0, xc14_0, xa14_1, xc14_1, rfl, xh14_0, xh14_1⟩ := S0 er14
  have := xh14_0.slen.2
  have := xh14_1.slen.2
  refine Dyp 9 rfl (s4 us_Querys ty_Query rfl ea14 rfl 0 rfl om) (Dyp 10 rfl (j6 fo_Query_0 ty_Is dc rfl) (Dy 11 rfl (g9 ty_Is rfl ((eh14 _).sub (cs' := [_]) 0 rfl) rfl) (Dyp 12 rfl (Y.len us_Is rfl) (Dyp 13 rfl (Y.neq rfl rfl) (Dyp 14 rfl (v8 rfl rfl) (Dyp 15 rfl (F0 rfl) ?_))))))
  exact s3 kr (Et (E.ret (Fb rfl rfl (by grind [a2P, d1, d2, t1, t2]))))
 ·refine Dyp 3 rfl (Y.not (b := false) rfl) (Dyp 4 rfl (o0 rfl) (Dsk 5 rfl (Dsk 6 rfl (Dsk 7 rfl (Dsk 8 rfl (Dsk 9 rfl (Dsk 10 rfl (Dsk 11 rfl (Dsk 12 rfl (Dsk 13 rfl (Dyp 14 rfl (w5 rfl rfl) (Dyp 15 rfl (F0 rfl) ?_))))))))))))
  exact s3 kr (Et (E.ret (Fb rfl rfl (by grind [a2P, d1, d2, t1, t2]))))
theorem a5E (hyu : ∀ q ∈ u, B9 (fun x => x.2.length) q.2 ≤ 1048576) : Tr Tryz.prog 72 [.slice a_s m_s c_s, .slice a_u m_u c_u] (fun w L => Ro w L eIs [.slice a_s m_s c_s] s ∧ Ro w L C4 [.slice a_u m_u c_u] u) [] (κ := Unit) (fun k => True) (fun k => .bool (J4 s u)) (fun k => []) := by
 refine l0 Tryz.func72 rfl (n := 14) rfl (by decide +kernel) bl (fr := [(0, .slice a_s m_s c_s), (1, .slice a_u m_u c_u)]) rfl fun w L hR => ?_
 obtain ⟨hs, hu⟩ := hR
 obtain ⟨rfl, ls⟩ := hs.slen
 obtain ⟨rfl, lu⟩ := hu.slen
 refine Ew Z3 (Est rfl (N.box (cs := [_]) rfl dc rfl) (fun b2 _ => (Est rfl (N.box (cs := [_]) rfl dc rfl) (fun b3 _ => (Ei rfl (Ev Z10 (Ey rfl (g9 ty_Querys rfl (Has.pt m0) rfl) (Ey rfl ((Y.len us_Querys rfl).yd) (Est rfl (n0 N4 rfl rfl rfl dc tv) (fun _ _ => (Ent.b (fun q7 => ?_) (fun q7 => ?_))))))))))))
 ·refine Em rfl (Ey rfl (g9 ty_Querys rfl (Has.pt m0) rfl) (Ey rfl ((Y.fn (vs := [_, _]) rfl).yd) (Est rfl (n0 (a3m (f := (fun z => a2P s u z)) (D_f := (fun z => (B9 (fun x => x.2.length) z.2 ≤ 1048576) ∧ (0 < u.length))) (by grind [inR])) rfl rfl rfl dc (fun w Lp hA => ⟨hA.ro hu, a8N (D := (fun z => (B9 (fun x => x.2.length) z.2 ≤ 1048576) ∧ (0 < u.length))) (fun hd => a9f hd.1 hd.2) (fun w' hk => ⟨(hA.pt (mS m0)).keep hk, (hA.ro hs).keep hk, (hA.pt m0).keep hk, (hA.ro hu).keep hk⟩)⟩)) (fun _ _ => (Ey rfl ((Y.not rfl).yd) (Ey rfl ((w5 rfl rfl).yd) (Ei rfl ?_)))))))
  exact Eu (E.ret (Fb rfl rfl (by grind [J4, inR, d1, d2, t1, t2])))
 ·refine Em rfl (Es rfl (Es rfl (Es rfl (Es rfl (Ey rfl ((v8 rfl rfl).yd) (Ei rfl ?_))))))
  exact Eu (E.ret (Fb rfl rfl (by grind [J4, inR, d1, d2, t1, t2])))
theorem a5v (hyu : ∀ q ∈ u, B9 (fun x => x.2.length) q.2 ≤ 1048576) : Tr Tryz.prog 63 [.slice a_s m_s c_s, .slice a_u m_u c_u] (fun w L => Ro w L eIs [.slice a_s m_s c_s] s ∧ Ro w L C4 [.slice a_u m_u c_u] u) [] (κ := Unit) (fun k => True) (fun k => .bool (J4 s u)) (fun k => []) := by
 refine l0 Tryz.func63 rfl (n := 40) rfl (by decide +kernel) bl (fr := [(0, .slice a_s m_s c_s), (1, .slice a_u m_u c_u)]) rfl fun w L hR => ?_
 obtain ⟨hs, hu⟩ := hR
 obtain ⟨rfl, ls⟩ := hs.slen
 obtain ⟨rfl, lu⟩ := hu.slen
 refine Ew Z1 (Ei rfl (Eu (Eq_ (Ew Z1 (Ei rfl (Eu (E.block (E.loop (κ := Nat) (fun g => g ≤ u.length ∧ (u.any (a2P s u)) = ((u.drop g).any (a2P s u))) (fun g => [(0, .slice a_s s.length c_s), (1, .slice a_u u.length c_u), (5, .int .i64 (g : Int))]) (fun g => []) (fun g => u.length - g) 0 ⟨Nat.zero_le _, by simp⟩ ⟨rfl, rfl, rfl, trivial⟩ (.refl _) (fun g pg => ?_)))))))))
 obtain ⟨pk, pa⟩ := pg
 have hu1 := hyu
 refine Eq_ (Ew Z4 (Em rfl (Em rfl (Ey rfl ((Y.len us_Querys rfl).yd) (Ey rfl ((Y.lss rfl rfl).yd) (o7 (fun q9 => ?_) (fun q9 => ?_)))))))
 ·refine Eu (o5 rfl (i7 (Et (Eq_ (E.block (Eq_ (D.region (fun j => true) mixed (Dyp 0 rfl (o0 rfl) (Dyp 1 rfl (o0 rfl) (Dyp 2 rfl (o0 rfl) ?_))))))))))
  obtain ⟨eb15, eo15, ec15, ea15, er15, el15, eh15⟩ := hu.elem g om
  obtain ⟨xa15_0, xc15_0, xa15_1, xc15_1, rfl, xh15_0, xh15_1⟩ := S0 er15
  have := xh15_0.slen.2
  have := xh15_1.slen.2
  refine Dyp 3 rfl (s4 us_Querys ty_Query rfl ea15 rfl g rfl om) (Dy 4 rfl (r9 (cs := [_, _]) ty_Query rfl (eh15 _) rfl) (t6 5 rfl rfl kr (fun _ => rfl) (n0 (a1n (hyu u[g] (List.getElem_mem om))) rfl rfl rfl dc (fun w Lp hA => ⟨hA.ro hs, hA.ro xh15_0, hA.ro xh15_1⟩)) (fun _ _ => (Ent.b (fun q17 => ?_) (fun q17 => ?_)))))
  ·refine Dyp 6 rfl (Y.not (b := true) rfl) (Dyp 7 rfl (o0 rfl) (Dyp 8 rfl (o0 rfl) (Dyp 9 rfl (o0 rfl) (Dyp 10 rfl (s4 us_Querys ty_Query rfl ea15 rfl g rfl om) (Dyp 11 rfl (j6 fo_Query_0 ty_Is dc rfl) (Dy 12 rfl (g9 ty_Is rfl ((eh15 _).sub (cs' := [_]) 0 rfl) rfl) (Dyp 13 rfl (Y.len us_Is rfl) (Dyp 14 rfl (o0 rfl) ?_))))))))
   obtain ⟨eb27, eo27, ec27, ea27, er27, el27, eh27⟩ := hu.elem 0 om
   obtain ⟨xa27_0, xc27_0, xa27_1, xc27_1, rfl, xh27_0, xh27_1⟩ := S0 er27
   have := xh27_0.slen.2
   have := xh27_1.slen.2
   refine Dyp 15 rfl (s4 us_Querys ty_Query rfl ea27 rfl 0 rfl om) (Dyp 16 rfl (j6 fo_Query_0 ty_Is dc rfl) (Dy 17 rfl (g9 ty_Is rfl ((eh27 _).sub (cs' := [_]) 0 rfl) rfl) (Dyp 18 rfl (Y.len us_Is rfl) (Dyp 19 rfl (Y.neq rfl rfl) (o7 (fun q31 => ?_) (fun q31 => ?_))))))
   ·refine Dyp 20 rfl (v8 rfl rfl) (s3 kr (Et (o5 rfl (Ew Z1 (Ei rfl ?_)))))
    exact Eu (E.ret (w8 (l4 (l4 (w8 (l4 (Fb rfl rfl (by grind [J4, a2P, a7V, d1, d2, t1, t2]))))))))
   ·refine Dyp 20 rfl (v8 rfl rfl) (s3 kr (Et (o4 rfl (i7 (t8 (Et (Ez Z3 (Em rfl (Ey rfl ((Y.add rfl rfl om om).yd) (Ei rfl ?_))))))))))
    exact Eu (w4 br (g + 1) rs (.refl _) ⟨by omega, by grind [a2P, d1, d2, t1, t2]⟩ om)
  ·refine Dyp 6 rfl (Y.not (b := false) rfl) (Dyp 7 rfl (o0 rfl) (Dsk 8 rfl (Dsk 9 rfl (Dsk 10 rfl (Dsk 11 rfl (Dsk 12 rfl (Dsk 13 rfl (Dsk 14 rfl (Dsk 15 rfl (Dsk 16 rfl (Dsk 17 rfl (Dsk 18 rfl (Dsk 19 rfl (Dyp 20 rfl (w5 rfl rfl) (s3 kr (Et (o5 rfl (Ew Z1 (Ei rfl ?_)))))))))))))))))))
   exact Eu (E.ret (w8 (l4 (l4 (w8 (l4 (Fb rfl rfl (by grind [J4, a2P, a7V, d1, d2, t1, t2]))))))))
 ·refine Eu (o4 rfl (E.exit (o3 (o3 (w3 (Et (Ew Z8 (Em rfl (Est rfl (n0 W9 rfl rfl rfl dc (fun w Lp hA => hA.ro hs)) (fun _ _ => (Ent.b (fun q34 => ?_) (fun q34 => ?_))))))))))))
  ·refine Em rfl (Em rfl (Ey rfl ((Y.len us_Querys rfl).yd) (Est rfl (n0 I2 rfl rfl rfl dc tv) (fun _ _ => (Ey rfl ((w5 rfl rfl).yd) (Ei rfl ?_))))))
   exact Eu (E.ret (Fb rfl rfl (by grind [J4, a2P, a7V, d1, d2, t1, t2])))
  ·refine Em rfl (Es rfl (Es rfl (Es rfl (Ey rfl ((v8 rfl rfl).yd) (Ei rfl ?_)))))
   exact Eu (E.ret (Fb rfl rfl (by grind [J4, a2P, a7V, d1, d2, t1, t2])))
end Go.Proofs.YtdopeopehgdccaaGreat
