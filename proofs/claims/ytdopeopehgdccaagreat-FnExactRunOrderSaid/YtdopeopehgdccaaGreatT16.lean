import Derived.Test.YtdopeopehgdccaaGreatBs
import Derived.Test.YtdopeopehgdccaaGreatT4
import Derived.Test.YtdopeopehgdccaaGreatT5
namespace Go.Proofs.YtdopeopehgdccaaGreat
open Go.RowKit
set_option linter.all false
set_option maxHeartbeats 2000000
attribute [local irreducible] Nop Yd Yp Ent Has Tr FnP FnP2 Src
variable {v : Int} {a : List (Int × List Int)} {m_a c_a : Nat} {a_a : Option Addr}
theorem a1k : Tr Tryz.prog 25 [.slice a_a m_a c_a, .int .i64 v] (fun w L => 0 ≤ v ∧ v + ((j8 s7 a : Nat) : Int) ≤ 4611686018427387904) [ow j9 [.slice a_a m_a c_a] a] (κ := Unit) (fun k => True) (fun k => .int .i64 (v + (j8 s7 a : Nat))) (fun k => [ow j9 [.slice a_a m_a c_a] (mkL s7 G0 a v)]) := by
 refine Tr.intro Tryz.func25 rfl (n := 27) rfl (by decide +kernel) bl (fr := [(0, .slice a_a m_a c_a), (1, .int .i64 v)]) rfl fun w L hR => ?_
 obtain ⟨as0, as1⟩ := hR
 refine Ent.lenow m0 fun ea la => ?_
 subst ea
 refine Ew Z1 (Eas rfl rfl (Eu (Eq_ (Ew Z1 (Eas rfl rfl (Eu (E.block (E.loop (κ := Nat) (fun g => g ≤ a.length) (fun g => [(0, .slice a_a a.length c_a), (1, .int .i64 (v + (j8 s7 (a.take g) : Nat))), (5, .int .i64 (g : Int))]) (fun g => [ow j9 [.slice a_a a.length c_a] (mkL s7 G0 (a.take g) v ++ a.drop g)]) (fun g => a.length - g) 0 (Nat.zero_le _) ⟨rfl, frI (by simp [j8]), rfl, trivial⟩ (.refl _) (fun g pg => ?_)))))))))
 have u1 := F0 (t := s7) (l := a) (g := g)
 have u2 := F0 (t := s7) (l := a) (g := g + 1)
 have hlen : (mkL s7 G0 (a.take g) v ++ a.drop g).length = a.length := by rw [List.length_append, T7, ← List.length_append, List.take_append_drop]
 refine Eq_ (Ew Z4 (Emv rfl rfl (Emv rfl rfl (Ey rfl ((Y.len us_Facts rfl).yd) (Ey rfl ((Y.lss rfl rfl).yd) (Ent.d (fun q9 => ?_) (fun q9 => ?_)))))))
 ·have u3 := E8 (t := s7) (show g < a.length by omega)
  have u4 : s7 a[g] = 1 + j8 v7 a[g].2 := rfl
  refine Eu (E.ct rfl (E.skipc (Et (Eq_ (E.block (Ew Z6 (Emv rfl rfl (Emv rfl rfl (Emv rfl rfl (Ent.adr m0 om fun ab15 ae15 => (Ent.open (x := a[g]) g (a1O (show g < a.length by omega)) fun ce15 => (Ent.p1 (Ent.oFact fun oa15_1 om15_1 oc15_1 oe15 oi15_0 on15_1 => ?_)))))))))))))
  subst oe15
  subst on15_1
  refine Ey rfl ((Y.ix us_Facts ty_Fact rfl ae15 rfl g rfl om).yd) (Ey rfl ((Y.fld fo_Fact_0 f8 dc rfl).yd) (Ent.p1 (Est rfl (N.sth (f := 0) (kk := 2) (vs := [_]) (ce' := [_, _]) f8 rfl rfl rfl rfl rfl ae15 rfl rfl bl rfl rfl) (fun _ _ => (Ev Z3 (Emv rfl rfl (Ey rfl ((Y.add rfl rfl om om).yd) (Eas rfl rfl (Eu (Ez Z8 (Emv rfl rfl (Emv rfl rfl (Ey rfl ((Y.ix us_Facts ty_Fact rfl ae15 rfl g rfl om).yd) (Ey rfl ((Y.fld fo_Fact_1 ty_Is dc rfl).yd) (Ey rfl (Y.ld1 ty_Is rfl ((Has.hole ae15 m0).sub (cs' := [_]) 1 rfl) rfl) (Emv rfl rfl (Ent.p1 (Est rfl (N.call (pre := [_]) M0 rfl rfl rfl dc rfl (fun w Lp hA => ⟨(by first | assumption | omega), (by first | assumption | omega)⟩)) (fun _ _ => (Eas rfl rfl (En (E.bln (Et (Ez Z3 (Emv rfl rfl (Ey rfl ((Y.add rfl rfl om om).yd) (Eas rfl rfl (Eu (Ent.p1 (Ent.shut (Own.mkFact (x := (v + (j8 s7 (a.take g) : Nat), mkL v7 J7 a[g].2 (v + (j8 s7 (a.take g) : Nat) + 1))) i6 Own.ow) rfl ?_))))))))))))))))))))))))))))))
  exact E.again br (g + 1) ⟨rfl, frI om, rfl, trivial⟩ (a1s (a1r (c := s7) (m := G0) (show g < a.length by omega) rfl)) om om
 ·refine Eu (E.cf rfl (E.exit (E.the (E.the (E.blh (Et (Ew Z2 (Emv rfl rfl (Eas rfl rfl (Eu (E.ret (Ent.cv (congrArg (ow j9 [_]) (show mkL s7 G0 (a.take g) v ++ a.drop g = mkL s7 G0 a v from by first | exact U6 om | (rw [G9 om]))) ?_))))))))))))
  exact Fg rfl rfl () (by rw [show (v + (j8 s7 a : Nat)) = (v + (j8 s7 (a.take g) : Nat)) from (by first | exact U6 om | (rw [G9 om]))]; try rfl) rfl
theorem a3Z (hz : mkL s7 G0 a v = a) : Tr Tryz.prog 99 [.slice a_a m_a c_a, .int .i64 v] (fun w L => Ro w L j9 [.slice a_a m_a c_a] a ∧ 0 ≤ v ∧ v + ((j8 s7 a : Nat) : Int) ≤ 4611686018427387904) [] (κ := Unit) (fun k => True) (fun k => .int .i64 (v + (j8 s7 a : Nat))) (fun k => []) := by
 refine Tr.intro Tryz.func99 rfl (n := 31) rfl (by decide +kernel) bl (fr := [(0, .slice a_a m_a c_a), (1, .int .i64 v)]) rfl fun w L hR => ?_
 obtain ⟨ha, as0, as1⟩ := hR
 obtain ⟨rfl, la⟩ := ha.slen
 refine Ew Z1 (Eas rfl rfl (Eu (Eq_ (Ew Z1 (Eas rfl rfl (Eu (E.block (E.loop (κ := Nat) (fun g => g ≤ a.length) (fun g => [(0, .slice a_a a.length c_a), (1, .int .i64 (v + (j8 s7 (a.take g) : Nat))), (5, .int .i64 (g : Int))]) (fun g => []) (fun g => a.length - g) 0 (Nat.zero_le _) ⟨rfl, frI (by simp [j8]), rfl, trivial⟩ (.refl _) (fun g pg => ?_)))))))))
 have u1 := F0 (t := s7) (l := a) (g := g)
 have u2 := F0 (t := s7) (l := a) (g := g + 1)
 refine Eq_ (Ew Z4 (Emv rfl rfl (Emv rfl rfl (Ey rfl ((Y.len us_Facts rfl).yd) (Ey rfl ((Y.lss rfl rfl).yd) (Ent.d (fun q9 => ?_) (fun q9 => ?_)))))))
 ·have u3 := E8 (t := s7) (show g < a.length by omega)
  have u4 : s7 a[g] = 1 + j8 v7 a[g].2 := rfl
  refine Eu (E.ct rfl (E.skipc (Et (Eq_ (E.block (Eq_ (Ew Z7 (Emv rfl rfl (Emv rfl rfl ?_)))))))))
  obtain ⟨eb14, eo14, ec14, ea14, er14, el14, eh14⟩ := ha.elem g om
  obtain ⟨xa14_0, xc14_0, rfl, ei14_0, xh14_0⟩ := Ro.pFact er14
  have := xh14_0.slen.2
  refine Ey rfl ((Y.ix us_Facts ty_Fact rfl ea14 rfl g rfl om).yd) (Ey rfl ((Y.fld fo_Fact_0 f8 dc rfl).yd) (Ey rfl (Y.ld1 f8 rfl ((eh14 _).sub (cs' := [_]) 0 rfl) rfl) (Emv rfl rfl (Ey rfl ((Y.neq rfl rfl).yd) (Ent.d (fun q18 => ?_) (fun q18 => ?_))))))
  ·exact absurd (congrArg (fun z => z.1) (a1P hz (show g < a.length by omega))).symm q18
  ·refine Eu (E.cf rfl (E.skipc (Et (Ew Z3 (Emv rfl rfl (Ey rfl ((Y.add rfl rfl om om).yd) (Eas rfl rfl (Ev Z8 (Emv rfl rfl (Emv rfl rfl (Ey rfl ((Y.ix us_Facts ty_Fact rfl ea14 rfl g rfl om).yd) (Ey rfl ((Y.fld fo_Fact_1 ty_Is dc rfl).yd) (Ey rfl (Y.ld1 ty_Is rfl ((eh14 _).sub (cs' := [_]) 1 rfl) rfl) (Emv rfl rfl (Est rfl (N.call0 (a0A (congrArg (fun z => z.2) (a1P hz (show g < a.length by omega)))) rfl rfl rfl dc (fun w Lp hA => ⟨hA.ro xh14_0, (by first | assumption | omega), (by first | assumption | omega)⟩)) (fun _ _ => (Eas rfl rfl (Ev Z2 (Emv rfl rfl (Ey rfl ((Y.lss rfl rfl).yd) (Ent.d (fun q29 => ?_) (fun q29 => ?_))))))))))))))))))))))
   ·exact absurd q29 om
   ·refine Eu (E.cf rfl (E.skipc (E.bln (Et (Ez Z3 (Emv rfl rfl (Ey rfl ((Y.add rfl rfl om om).yd) (Eas rfl rfl ?_))))))))
    exact Eu (E.again br (g + 1) ⟨rfl, frI om, rfl, trivial⟩ (.refl _) om om)
 ·refine Eu (E.cf rfl (E.exit (E.the (E.the (E.blh (Et (Ew Z2 (Emv rfl rfl (Eas rfl rfl ?_)))))))))
  exact Eu (E.ret (Fg rfl rfl () (congrArg (Value.int .i64) (by rw [G9 om])) rfl))
end Go.Proofs.YtdopeopehgdccaaGreat
