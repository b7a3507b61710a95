import Derived.Test.YtdopeopehgdccaaGreatBs
import Derived.Test.YtdopeopehgdccaaGreatT1
import Derived.Test.YtdopeopehgdccaaGreatBc
import Derived.Test.YtdopeopehgdccaaGreatT5
section
namespace Go.Proofs.YtdopeopehgdccaaGreat
open Go.RowKit
set_option linter.all false
set_option maxHeartbeats 2000000
attribute [local irreducible] Nop Yd Yp Ent Has Tr FnP FnP2 Src
variable {v : Int} {a : List Int} {m_a c_a : Nat} {a_a : Option Addr}
theorem S8 : Tr Tryz.prog 22 [.slice a_a m_a c_a, .int .i64 v] (fun w L => 0 ≤ v ∧ v + ((o5 z7 a : Nat) : Int) ≤ 4611686018427387904) [ow eIs [.slice a_a m_a c_a] a] (κ := Unit) (fun k => True) (fun k => .int .i64 (v + (o5 z7 a : Nat))) (fun k => [ow eIs [.slice a_a m_a c_a] (mkL z7 P0 a v)]) := by
 refine Tr.intro Tryz.func22 rfl (n := 19) rfl (by decide +kernel) bl (fr := [(0, .slice a_a m_a c_a), (1, .int .i64 v)]) rfl fun w L hR => ?_
 obtain ⟨as0, as1⟩ := hR
 refine Ent.lenow m0 fun ea la => ?_
 subst ea
 refine Ew Z1 (Eas rfl rfl (Eu (Eq_ (Ew Z1 (Eas rfl rfl (Eu (E.block (E.loop (κ := Nat) (fun g => g ≤ a.length) (fun g => [(0, .slice a_a a.length c_a), (1, .int .i64 (v + (o5 z7 (a.take g) : Nat))), (5, .int .i64 (g : Int))]) (fun g => [ow eIs [.slice a_a a.length c_a] (mkL z7 P0 (a.take g) v ++ a.drop g)]) (fun g => a.length - g) 0 (Nat.zero_le _) ⟨rfl, frI (by simp [o5]), rfl, trivial⟩ (.refl _) (fun g pg => ?_)))))))))
 have u1 := N5 (t := z7) (l := a) (g := g)
 have u2 := N5 (t := z7) (l := a) (g := g + 1)
 have hlen : (mkL z7 P0 (a.take g) v ++ a.drop g).length = a.length := by rw [List.length_append, a0h, ← List.length_append, List.take_append_drop]
 refine Eq_ (Ew Z4 (Emv rfl rfl (Emv rfl rfl (Ey rfl ((Y.len us_Is rfl).yd) (Ey rfl ((Y.lss rfl rfl).yd) (Ent.d (fun q9 => ?_) (fun q9 => ?_)))))))
 ·have u3 := J3 (t := z7) (show g < a.length by omega)
  have u4 : z7 a[g] = 1 := rfl
  refine Eu (E.ct rfl (E.skipc (Et (Eq_ (E.block (Ew Z5 (Emv rfl rfl (Emv rfl rfl (Emv rfl rfl (Ent.adr m0 om fun ab15 ae15 => (Ey rfl ((Y.ix us_Is f8 rfl ae15 rfl g rfl om).yd) (Est rfl (N.set (E := Enc.int) (j := g) (ex := v + (o5 z7 (a.take g) : Nat)) (ce := [_]) f8 rfl rfl rfl rfl (Own.int i6) ae15 (Nat.zero_add _) rfl (by simp [a0h]; omega)) (fun _ _ => (Eu (Ez Z3 (Emv rfl rfl (Ey rfl ((Y.add rfl rfl om om).yd) (Eas rfl rfl (En (E.bln (Et (Ez Z3 (Emv rfl rfl (Ey rfl ((Y.add rfl rfl om om).yd) (Eas rfl rfl ?_)))))))))))))))))))))))))
  exact Eu (E.again br (g + 1) ⟨rfl, frI om, rfl, trivial⟩ (a2J (a5c (c := z7) (m := P0) (show g < a.length by omega) rfl)) om om)
 ·refine Eu (E.cf rfl (E.exit (E.the (E.the (E.blh (Et (Ew Z2 (Emv rfl rfl (Eas rfl rfl (Eu (E.ret (Ent.cv (congrArg (ow eIs [_]) (show mkL z7 P0 (a.take g) v ++ a.drop g = mkL z7 P0 a v from by first | exact a0Y om | (rw [R1 om]))) ?_))))))))))))
  exact Fg rfl rfl () (by rw [show (v + (o5 z7 a : Nat)) = (v + (o5 z7 (a.take g) : Nat)) from (by first | exact a0Y om | (rw [R1 om]))]; try rfl) rfl
theorem a6Q (hz : mkL z7 P0 a v = a) : Tr Tryz.prog 47 [.slice a_a m_a c_a, .int .i64 v] (fun w L => Ro w L eIs [.slice a_a m_a c_a] a ∧ 0 ≤ v ∧ v + ((o5 z7 a : Nat) : Int) ≤ 4611686018427387904) [] (κ := Unit) (fun k => True) (fun k => .int .i64 (v + (o5 z7 a : Nat))) (fun k => []) := by
 refine Tr.intro Tryz.func47 rfl (n := 21) rfl (by decide +kernel) bl (fr := [(0, .slice a_a m_a c_a), (1, .int .i64 v)]) rfl fun w L hR => ?_
 obtain ⟨ha, as0, as1⟩ := hR
 obtain ⟨rfl, la⟩ := ha.slen
 refine Ew Z1 (Eas rfl rfl (Eu (Eq_ (Ew Z1 (Eas rfl rfl (Eu (E.block (E.loop (κ := Nat) (fun g => g ≤ a.length) (fun g => [(0, .slice a_a a.length c_a), (1, .int .i64 (v + (o5 z7 (a.take g) : Nat))), (5, .int .i64 (g : Int))]) (fun g => []) (fun g => a.length - g) 0 (Nat.zero_le _) ⟨rfl, frI (by simp [o5]), rfl, trivial⟩ (.refl _) (fun g pg => ?_)))))))))
 have u1 := N5 (t := z7) (l := a) (g := g)
 have u2 := N5 (t := z7) (l := a) (g := g + 1)
 refine Eq_ (Ew Z4 (Emv rfl rfl (Emv rfl rfl (Ey rfl ((Y.len us_Is rfl).yd) (Ey rfl ((Y.lss rfl rfl).yd) (Ent.d (fun q9 => ?_) (fun q9 => ?_)))))))
 ·have u3 := J3 (t := z7) (show g < a.length by omega)
  have u4 : z7 a[g] = 1 := rfl
  refine Eu (E.ct rfl (E.skipc (Et (Eq_ (E.block (Eq_ (Ew Z6 (Emv rfl rfl (Emv rfl rfl ?_)))))))))
  obtain ⟨eb14, eo14, ea14, ei14, eh14⟩ := ha.elemI g om
  refine Ey rfl ((Y.ix us_Is f8 rfl ea14 rfl g rfl om).yd) (Ey rfl (Y.ld1 f8 rfl (eh14 _) rfl) (Emv rfl rfl (Ey rfl ((Y.neq rfl rfl).yd) (Ent.d (fun q17 => ?_) (fun q17 => ?_)))))
  ·exact absurd (b2k hz (show g < a.length by omega)).symm q17
  ·refine Eu (E.cf rfl (E.skipc (Et (Ez Z3 (Emv rfl rfl (Ey rfl ((Y.add rfl rfl om om).yd) (Eas rfl rfl (En (E.bln (Et (Ez Z3 (Emv rfl rfl (Ey rfl ((Y.add rfl rfl om om).yd) (Eas rfl rfl ?_))))))))))))))
   exact Eu (E.again br (g + 1) ⟨rfl, frI om, rfl, trivial⟩ (.refl _) om om)
 ·refine Eu (E.cf rfl (E.exit (E.the (E.the (E.blh (Et (Ew Z2 (Emv rfl rfl (Eas rfl rfl ?_)))))))))
  exact Eu (E.ret (Fg rfl rfl () (congrArg (Value.int .i64) (by rw [R1 om])) rfl))
end Go.Proofs.YtdopeopehgdccaaGreat
end
section
namespace Go.Proofs.YtdopeopehgdccaaGreat
open Go.RowKit
set_option linter.all false
set_option maxHeartbeats 2000000
attribute [local irreducible] Nop Yd Yp Ent Has Tr FnP FnP2 Src
theorem a6g {a_a : Option Addr} {m_a c_a : Nat} {a : List (Int × List Int)} {v : Int} : Tr Tryz.prog 25 [.slice a_a m_a c_a, .int .i64 v] (fun w L => 0 ≤ v ∧ v + ((o5 C7 a : Nat) : Int) ≤ 4611686018427387904) [ow o2 [.slice a_a m_a c_a] a] (κ := Unit) (fun k => True) (fun k => .int .i64 (v + (o5 C7 a : Nat))) (fun k => [ow o2 [.slice a_a m_a c_a] (mkL C7 V4 a v)]) := by
 refine Tr.intro Tryz.func25 rfl (n := 27) rfl (by decide +kernel) bl (fr := [(0, .slice a_a m_a c_a), (1, .int .i64 v)]) rfl fun w L hR => ?_
 obtain ⟨as0, as1⟩ := hR
 refine Ent.lenow m0 fun ea la => ?_
 subst ea
 refine Ew Z1 (Eas rfl rfl (Eu (Eq_ (Ew Z1 (Eas rfl rfl (Eu (E.block (E.loop (κ := Nat) (fun g => g ≤ a.length) (fun g => [(0, .slice a_a a.length c_a), (1, .int .i64 (v + (o5 C7 (a.take g) : Nat))), (5, .int .i64 (g : Int))]) (fun g => [ow o2 [.slice a_a a.length c_a] (mkL C7 V4 (a.take g) v ++ a.drop g)]) (fun g => a.length - g) 0 (Nat.zero_le _) ⟨rfl, frI (by simp [o5]), rfl, trivial⟩ (.refl _) (fun g pg => ?_)))))))))
 have u1 := N5 (t := C7) (l := a) (g := g)
 have u2 := N5 (t := C7) (l := a) (g := g + 1)
 have hlen : (mkL C7 V4 (a.take g) v ++ a.drop g).length = a.length := by rw [List.length_append, a0h, ← List.length_append, List.take_append_drop]
 refine Eq_ (Ew Z4 (Emv rfl rfl (Emv rfl rfl (Ey rfl ((Y.len us_Facts rfl).yd) (Ey rfl ((Y.lss rfl rfl).yd) (Ent.d (fun q9 => ?_) (fun q9 => ?_)))))))
 ·have u3 := J3 (t := C7) (show g < a.length by omega)
  have u4 : C7 a[g] = 1 + o5 z7 a[g].2 := rfl
  refine Eu (E.ct rfl (E.skipc (Et (Eq_ (E.block (Ew Z6 (Emv rfl rfl (Emv rfl rfl (Emv rfl rfl (Ent.adr m0 om fun ab15 ae15 => (Ent.open (x := a[g]) g (a6V (show g < a.length by omega)) fun ce15 => (Ent.p1 (Ent.oFact fun oa15_1 om15_1 oc15_1 oe15 oi15_0 on15_1 => ?_)))))))))))))
  subst oe15
  subst on15_1
  refine Ey rfl ((Y.ix us_Facts ty_Fact rfl ae15 rfl g rfl om).yd) (Ey rfl ((Y.fld fo_Fact_0 f8 dc rfl).yd) (Ent.p1 (Est rfl (N.sth (f := 0) (kk := 2) (vs := [_]) (ce' := [_, _]) f8 rfl rfl rfl rfl rfl ae15 rfl rfl bl rfl rfl) (fun _ _ => (Ev Z3 (Emv rfl rfl (Ey rfl ((Y.add rfl rfl om om).yd) (Eas rfl rfl (Eu (Ez Z8 (Emv rfl rfl (Emv rfl rfl (Ey rfl ((Y.ix us_Facts ty_Fact rfl ae15 rfl g rfl om).yd) (Ey rfl ((Y.fld fo_Fact_1 ty_Is dc rfl).yd) (Ey rfl (Y.ld1 ty_Is rfl ((Has.hole ae15 m0).sub (cs' := [_]) 1 rfl) rfl) (Emv rfl rfl (Ent.p1 (Est rfl (N.call (pre := [_]) S8 rfl rfl rfl dc rfl (fun w Lp hA => ⟨(by first | assumption | omega), (by first | assumption | omega)⟩)) (fun _ _ => (Eas rfl rfl (En (E.bln (Et (Ez Z3 (Emv rfl rfl (Ey rfl ((Y.add rfl rfl om om).yd) (Eas rfl rfl (Eu (Ent.p1 (Ent.shut (Own.mkFact (x := (v + (o5 C7 (a.take g) : Nat), mkL z7 P0 a[g].2 (v + (o5 C7 (a.take g) : Nat) + 1))) i6 Own.ow) rfl ?_))))))))))))))))))))))))))))))
  exact E.again br (g + 1) ⟨rfl, frI om, rfl, trivial⟩ (a2J (a5c (c := C7) (m := V4) (show g < a.length by omega) rfl)) om om
 ·refine Eu (E.cf rfl (E.exit (E.the (E.the (E.blh (Et (Ew Z2 (Emv rfl rfl (Eas rfl rfl (Eu (E.ret (Ent.cv (congrArg (ow o2 [_]) (show mkL C7 V4 (a.take g) v ++ a.drop g = mkL C7 V4 a v from by first | exact a0Y om | (rw [R1 om]))) ?_))))))))))))
  exact Fg rfl rfl () (by rw [show (v + (o5 C7 a : Nat)) = (v + (o5 C7 (a.take g) : Nat)) from (by first | exact a0Y om | (rw [R1 om]))]; try rfl) rfl
end Go.Proofs.YtdopeopehgdccaaGreat
end
