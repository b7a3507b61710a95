import Derived.Test.YtdopeopehgdccaaGreatT78
namespace Go.Proofs.YtdopeopehgdccaaGreat
open Go.RowKit
set_option linter.all false
set_option maxHeartbeats 2000000
attribute [local irreducible] Nop Yd Yp Ent Has Tr FnP FnP2 Src O8 Y2 a0b a0m G5
theorem a8w {a_a : Option Addr} {m_a c_a : Nat} {a : List (List Int × List (Int × List Int))} {v : Int} : Tr Tryz.prog 24 [.slice a_a m_a c_a, .int .i64 v] (fun w L => 0 ≤ v ∧ v + ((u5 L5 a : Nat) : Int) ≤ 4611686018427387904) [ow C4 [.slice a_a m_a c_a] a] (κ := Unit) (fun k => True) (fun k => .int .i64 (v + (u5 L5 a : Nat))) (fun k => [ow C4 [.slice a_a m_a c_a] (mkL L5 a1C a v)]) := by
 refine l0 Tryz.func24 rfl (n := 27) rfl (by decide +kernel) bl (fr := [(0, .slice a_a m_a c_a), (1, .int .i64 v)]) rfl fun w L hR => ?_
 obtain ⟨as0, as1⟩ := hR
 refine f5 m0 fun ea la => ?_
 subst ea
 refine Ew Z1 (Ei rfl (Eu (Eq_ (Ew Z1 (Ei rfl (Eu (E.block (E.loop (κ := Nat) (fun g => g ≤ a.length) (fun g => [(0, .slice a_a a.length c_a), (1, .int .i64 (v + (u5 L5 (a.take g) : Nat))), (5, .int .i64 (g : Int))]) (fun g => [ow C4 [.slice a_a a.length c_a] (mkL L5 a1C (a.take g) v ++ a.drop g)]) (fun g => a.length - g) 0 (Nat.zero_le _) ⟨rfl, frI (by simp [u5]), rfl, trivial⟩ (.refl _) (fun g pg => ?_)))))))))
 have u1 := R6 (t := L5) (l := a) (g := g)
 have u2 := R6 (t := L5) (l := a) (g := g + 1)
 have hlen : (mkL L5 a1C (a.take g) v ++ a.drop g).length = a.length := by rw [List.length_append, a1j, ← List.length_append, List.take_append_drop]
 refine Eq_ (Ew Z4 (Em rfl (Em rfl (Ey rfl ((Y.len us_Querys rfl).yd) (Ey rfl ((Y.lss rfl rfl).yd) (o7 (fun q9 => ?_) (fun q9 => ?_)))))))
 ·have u3 := N5 (t := L5) (show g < a.length by omega)
  have u4 : L5 a[g] = u5 E8 a[g].1 + u5 J3 a[g].2 := rfl
  refine Eu (o5 rfl (i7 (Et (Eq_ (E.block (Ew Z8 (Em rfl (Em rfl (U9 m0 om fun ab14 ae14 => (V7 (x := a[g]) g (a7r (show g < a.length by omega)) fun ce14 => (f8 (a4E fun oa14_0 om14_0 oc14_0 oa14_1 om14_1 oc14_1 oe14 on14_0 on14_1 => ?_))))))))))))
  subst oe14
  subst on14_0
  subst on14_1
  refine Ey rfl ((s4 us_Querys ty_Query rfl ae14 rfl g rfl om).yd) (Ey rfl ((j6 fo_Query_0 ty_Is dc rfl).yd) (Ey rfl (g9 ty_Is rfl ((Has.hole ae14 (mS (mS m0))).sub (cs' := [_]) 0 rfl) rfl) (Em rfl (Est rfl (N.call (pre := [_]) a0j rfl rfl rfl dc rfl (fun w Lp hA => ⟨(by first | assumption | omega), (by first | assumption | omega)⟩)) (fun _ _ => (Ei rfl (Eu (Ez Z8 (Em rfl (Em rfl (Ey rfl ((s4 us_Querys ty_Query rfl ae14 rfl g rfl om).yd) (Ey rfl ((j6 fo_Query_1 ty_Atoms dc rfl).yd) (Ey rfl (g9 ty_Atoms rfl ((Has.hole ae14 (mS (mS m0))).sub (cs' := [_]) 1 rfl) rfl) (Em rfl (f8 (Est rfl (N.call (pre := [_]) a8R rfl rfl rfl dc rfl (fun w Lp hA => ⟨(by first | assumption | omega), (by first | assumption | omega)⟩)) (fun _ _ => (Ei rfl (En (t8 (Et (Ez Z3 (Em rfl (Ey rfl ((Y.add rfl rfl om om).yd) (Ei rfl (Eu (f8 (o6 (O1 (S2 (x := (mkL E8 W8 a[g].1 (v + (u5 L5 (a.take g) : Nat)), mkL J3 a0z a[g].2 ((v + (u5 L5 (a.take g) : Nat)) + (u5 E8 a[g].1 : Nat)))) Own.ow Own.ow) rfl ?_)))))))))))))))))))))))))))))
  exact w4 br (g + 1) ⟨rfl, frI om, rfl, trivial⟩ (a4i (a5P (c := L5) (m := a1C) (show g < a.length by omega) rfl)) om om
 ·refine Eu (o4 rfl (E.exit (o3 (o3 (w3 (Et (Ew Z2 (Em rfl (Ei rfl (Eu (E.ret (i9 (congrArg (ow C4 [_]) (show mkL L5 a1C (a.take g) v ++ a.drop g = mkL L5 a1C a v from by first | exact a1P om | (rw [V6 om]))) ?_))))))))))))
  exact Fg rfl rfl () (by rw [show (v + (u5 L5 a : Nat)) = (v + (u5 L5 (a.take g) : Nat)) from (by first | exact a1P om | (rw [V6 om]))]; try rfl) rfl
end Go.Proofs.YtdopeopehgdccaaGreat
