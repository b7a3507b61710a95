import Derived.Test.YtdopeopehgdccaaBs
import Derived.Test.YtdopeopehgdccaaT4
import Derived.Test.YtdopeopehgdccaaT5
namespace Go.Proofs.Ytdopeopehgdccaa
open Go.RowKit
set_option linter.all false
set_option maxHeartbeats 2000000
attribute [local irreducible] Nop Yd Yp Ent Has Tr FnP FnP2 Src
theorem P4 {a_a : Option Addr} {m_a c_a : Nat} {a : List (Int × List Int)} {v : Int} : Tr Try.prog 19 [.slice a_a m_a c_a, .int .i64 v] (fun w L => 0 ≤ v ∧ v + ((c7 f9 a : Nat) : Int) ≤ 4611686018427387904) [ow j4 [.slice a_a m_a c_a] a] (κ := Unit) (fun k => True) (fun k => .int .i64 (v + (c7 f9 a : Nat))) (fun k => [ow j4 [.slice a_a m_a c_a] (mkL f9 t8 a v)]) := by
 refine Tr.intro Try.func19 rfl (n := 27) rfl (by decide +kernel) bl (fr := [(0, .slice a_a m_a c_a), (1, .int .i64 v)]) rfl fun w L hR => ?_
 obtain ⟨as0, as1⟩ := hR
 refine Ent.lenow m0 fun ea la => ?_
 subst ea
 refine Ew Z1 (Eas rfl rfl (Eu (Eq_ (Ew Z1 (Eas rfl rfl (Eu (E.block (E.loop (κ := Nat) (fun g => g ≤ a.length) (fun g => [(0, .slice a_a a.length c_a), (1, .int .i64 (v + (c7 f9 (a.take g) : Nat))), (5, .int .i64 (g : Int))]) (fun g => [ow j4 [.slice a_a a.length c_a] (mkL f9 t8 (a.take g) v ++ a.drop g)]) (fun g => a.length - g) 0 (Nat.zero_le _) ⟨rfl, frI (by simp [c7]), rfl, trivial⟩ (.refl _) (fun g pg => ?_)))))))))
 have u1 := w9 (t := f9) (l := a) (g := g)
 have u2 := w9 (t := f9) (l := a) (g := g + 1)
 have hlen : (mkL f9 t8 (a.take g) v ++ a.drop g).length = a.length := by rw [List.length_append, C1, ← List.length_append, List.take_append_drop]
 refine Eq_ (Ew Z4 (Emv rfl rfl (Emv rfl rfl (Ey rfl ((Y.len us_Facts rfl).yd) (Ey rfl ((Y.lss rfl rfl).yd) (Ent.d (fun q9 => ?_) (fun q9 => ?_)))))))
 ·have u3 := s8 (t := f9) (show g < a.length by omega)
  have u4 : f9 a[g] = 1 + c7 f5 a[g].2 := rfl
  refine Eu (E.ct rfl (E.skipc (Et (Eq_ (E.block (Ew Z6 (Emv rfl rfl (Emv rfl rfl (Emv rfl rfl (Ent.adr m0 om fun ab15 ae15 => (Ent.open (x := a[g]) g (a1m (show g < a.length by omega)) fun ce15 => (Ent.p1 (Ent.oFact fun oa15_1 om15_1 oc15_1 oe15 oi15_0 on15_1 => ?_)))))))))))))
  subst oe15
  subst on15_1
  refine Ey rfl ((Y.ix us_Facts ty_Fact rfl ae15 rfl g rfl om).yd) (Ey rfl ((Y.fld fo_Fact_0 c6 dc rfl).yd) (Ent.p1 (Est rfl (N.sth (f := 0) (kk := 2) (vs := [_]) (ce' := [_, _]) c6 rfl rfl rfl rfl rfl ae15 rfl rfl bl rfl rfl) (fun _ _ => (Ev Z3 (Emv rfl rfl (Ey rfl ((Y.add rfl rfl om om).yd) (Eas rfl rfl (Eu (Ez Z8 (Emv rfl rfl (Emv rfl rfl (Ey rfl ((Y.ix us_Facts ty_Fact rfl ae15 rfl g rfl om).yd) (Ey rfl ((Y.fld fo_Fact_1 ty_Is dc rfl).yd) (Ey rfl (Y.ld1 ty_Is rfl ((Has.hole ae15 m0).sub (cs' := [_]) 1 rfl) rfl) (Emv rfl rfl (Ent.p1 (Est rfl (N.call (pre := [_]) t9 rfl rfl rfl dc rfl (fun w Lp hA => ⟨(by first | assumption | omega), (by first | assumption | omega)⟩)) (fun _ _ => (Eas rfl rfl (En (E.bln (Et (Ez Z3 (Emv rfl rfl (Ey rfl ((Y.add rfl rfl om om).yd) (Eas rfl rfl (Eu (Ent.p1 (Ent.shut (Own.mkFact (x := (v + (c7 f9 (a.take g) : Nat), mkL f5 o6 a[g].2 (v + (c7 f9 (a.take g) : Nat) + 1))) i6 Own.ow) rfl ?_))))))))))))))))))))))))))))))
  exact E.again br (g + 1) ⟨rfl, frI om, rfl, trivial⟩ (a0c (Y1 (c := f9) (m := t8) (show g < a.length by omega) rfl)) om om
 ·refine Eu (E.cf rfl (E.exit (E.the (E.the (E.blh (Et (Ew Z2 (Emv rfl rfl (Eas rfl rfl (Eu (E.ret (Ent.cv (congrArg (ow j4 [_]) (show mkL f9 t8 (a.take g) v ++ a.drop g = mkL f9 t8 a v from by first | exact J6 om | (rw [y8 om]))) ?_))))))))))))
  exact Fg rfl rfl () (by rw [show (v + (c7 f9 a : Nat)) = (v + (c7 f9 (a.take g) : Nat)) from (by first | exact J6 om | (rw [y8 om]))]; try rfl) rfl
end Go.Proofs.Ytdopeopehgdccaa
