import Derived.Test.YtdopeopehgdccaaGreatT5
section
namespace Go.Proofs.YtdopeopehgdccaaGreat
open Go.RowKit
set_option linter.all false
set_option maxHeartbeats 2000000
attribute [local irreducible] Nop Yd Yp Ent Has Tr FnP FnP2 Src
variable {v : Int} {a : List Int} {m_a c_a : Nat} {a_a : Option Addr}
theorem X3 : Tr Tryz.prog 22 [.slice a_a m_a c_a, .int .i64 v] (fun w L => 0 ≤ v ∧ v + ((r9 E1 a : Nat) : Int) ≤ 4611686018427387904) [ow eIs [.slice a_a m_a c_a] a] (κ := Unit) (fun k => True) (fun k => .int .i64 (v + (r9 E1 a : Nat))) (fun k => [ow eIs [.slice a_a m_a c_a] (mkL E1 V7 a v)]) := by
 refine n9 Tryz.func22 rfl (n := 19) rfl (by decide +kernel) bl (fr := [(0, .slice a_a m_a c_a), (1, .int .i64 v)]) rfl fun w L hR => ?_
 obtain ⟨as0, as1⟩ := hR
 refine i9 m0 fun ea la => ?_
 subst ea
 refine Ew Z1 (Ei rfl (Eu (Eq_ (Ew Z1 (Ei rfl (Eu (E.block (E.loop (κ := Nat) (fun g => g ≤ a.length) (fun g => [(0, .slice a_a a.length c_a), (1, .int .i64 (v + (r9 E1 (a.take g) : Nat))), (5, .int .i64 (g : Int))]) (fun g => [ow eIs [.slice a_a a.length c_a] (mkL E1 V7 (a.take g) v ++ a.drop g)]) (fun g => a.length - g) 0 (Nat.zero_le _) ⟨rfl, frI (by simp [r9]), rfl, trivial⟩ (.refl _) (fun g pg => ?_)))))))))
 have u1 := R3 (t := E1) (l := a) (g := g)
 have u2 := R3 (t := E1) (l := a) (g := g + 1)
 have hlen : (mkL E1 V7 (a.take g) v ++ a.drop g).length = a.length := by rw [List.length_append, a1H, ← List.length_append, List.take_append_drop]
 refine Eq_ (Ew Z4 (Em rfl (Em rfl (Ey rfl ((Y.len us_Is rfl).yd) (Ey rfl ((Y.lss rfl rfl).yd) (o6 (fun q9 => ?_) (fun q9 => ?_)))))))
 ·have u3 := P7 (t := E1) (show g < a.length by omega)
  have u4 : E1 a[g] = 1 := rfl
  refine Eu (o2 rfl (j5 (Et (Eq_ (E.block (Ew Z5 (Em rfl (Em rfl (Em rfl (a0j m0 om fun ab15 ae15 => (Ey rfl ((r7 us_Is i8 rfl ae15 rfl g rfl om).yd) (Est rfl (N.set (E := Enc.int) (j := g) (ex := v + (r9 E1 (a.take g) : Nat)) (ce := [_]) i8 rfl rfl rfl rfl (Own.int i6) ae15 (Nat.zero_add _) rfl (by simp [a1H]; omega)) (fun _ _ => (Eu (Ez Z3 (Em rfl (Ey rfl ((Y.add rfl rfl om om).yd) (Ei rfl (En (t7 (Et (Ez Z3 (Em rfl (Ey rfl ((Y.add rfl rfl om om).yd) (Ei rfl ?_)))))))))))))))))))))))))
  exact Eu (v8 br (g + 1) ⟨rfl, frI om, rfl, trivial⟩ (a4d (a5P (c := E1) (m := V7) (show g < a.length by omega) rfl)) om om)
 ·refine Eu (o3 rfl (E.exit (o8 (o8 (x9 (Et (Ew Z2 (Em rfl (Ei rfl (Eu (E.ret (j6 (congrArg (ow eIs [_]) (show mkL E1 V7 (a.take g) v ++ a.drop g = mkL E1 V7 a v from by first | exact a2f om | (rw [U8 om]))) ?_))))))))))))
  exact Fg rfl rfl () (by rw [show (v + (r9 E1 a : Nat)) = (v + (r9 E1 (a.take g) : Nat)) from (by first | exact a2f om | (rw [U8 om]))]; try rfl) rfl
theorem a5i (hz : mkL E1 V7 a v = a) : Tr Tryz.prog 47 [.slice a_a m_a c_a, .int .i64 v] (fun w L => Ro w L eIs [.slice a_a m_a c_a] a ∧ 0 ≤ v ∧ v + ((r9 E1 a : Nat) : Int) ≤ 4611686018427387904) [] (κ := Unit) (fun k => True) (fun k => .int .i64 (v + (r9 E1 a : Nat))) (fun k => []) := by
 refine n9 Tryz.func47 rfl (n := 21) rfl (by decide +kernel) bl (fr := [(0, .slice a_a m_a c_a), (1, .int .i64 v)]) rfl fun w L hR => ?_
 obtain ⟨ha, as0, as1⟩ := hR
 obtain ⟨rfl, la⟩ := ha.slen
 refine Ew Z1 (Ei rfl (Eu (Eq_ (Ew Z1 (Ei rfl (Eu (E.block (E.loop (κ := Nat) (fun g => g ≤ a.length) (fun g => [(0, .slice a_a a.length c_a), (1, .int .i64 (v + (r9 E1 (a.take g) : Nat))), (5, .int .i64 (g : Int))]) (fun g => []) (fun g => a.length - g) 0 (Nat.zero_le _) ⟨rfl, frI (by simp [r9]), rfl, trivial⟩ (.refl _) (fun g pg => ?_)))))))))
 have u1 := R3 (t := E1) (l := a) (g := g)
 have u2 := R3 (t := E1) (l := a) (g := g + 1)
 refine Eq_ (Ew Z4 (Em rfl (Em rfl (Ey rfl ((Y.len us_Is rfl).yd) (Ey rfl ((Y.lss rfl rfl).yd) (o6 (fun q9 => ?_) (fun q9 => ?_)))))))
 ·have u3 := P7 (t := E1) (show g < a.length by omega)
  have u4 : E1 a[g] = 1 := rfl
  refine Eu (o2 rfl (j5 (Et (Eq_ (E.block (Eq_ (Ew Z6 (Em rfl (Em rfl ?_)))))))))
  obtain ⟨eb14, eo14, ea14, ei14, eh14⟩ := ha.elemI g om
  refine Ey rfl ((r7 us_Is i8 rfl ea14 rfl g rfl om).yd) (Ey rfl (g9 i8 rfl (eh14 _) rfl) (Em rfl (Ey rfl ((Y.neq rfl rfl).yd) (o6 (fun q17 => ?_) (fun q17 => ?_)))))
  ·exact absurd (a9H hz (show g < a.length by omega)).symm q17
  ·refine Eu (o3 rfl (j5 (Et (Ez Z3 (Em rfl (Ey rfl ((Y.add rfl rfl om om).yd) (Ei rfl (En (t7 (Et (Ez Z3 (Em rfl (Ey rfl ((Y.add rfl rfl om om).yd) (Ei rfl ?_))))))))))))))
   exact Eu (v8 br (g + 1) ⟨rfl, frI om, rfl, trivial⟩ (.refl _) om om)
 ·refine Eu (o3 rfl (E.exit (o8 (o8 (x9 (Et (Ew Z2 (Em rfl (Ei rfl ?_)))))))))
  exact Eu (E.ret (Fg rfl rfl () (congrArg (Value.int .i64) (by rw [U8 om])) rfl))
end Go.Proofs.YtdopeopehgdccaaGreat
end
section
namespace Go.Proofs.YtdopeopehgdccaaGreat
open Go.RowKit
set_option linter.all false
set_option maxHeartbeats 2000000
attribute [local irreducible] Nop Yd Yp Ent Has Tr FnP FnP2 Src
theorem a9h {a_a : Option Addr} {m_a c_a : Nat} {a : List (Int × List Int)} {v : Int} : Tr Tryz.prog 25 [.slice a_a m_a c_a, .int .i64 v] (fun w L => 0 ≤ v ∧ v + ((r9 H2 a : Nat) : Int) ≤ 4611686018427387904) [ow s8 [.slice a_a m_a c_a] a] (κ := Unit) (fun k => True) (fun k => .int .i64 (v + (r9 H2 a : Nat))) (fun k => [ow s8 [.slice a_a m_a c_a] (mkL H2 a0T a v)]) := by
 refine n9 Tryz.func25 rfl (n := 27) rfl (by decide +kernel) bl (fr := [(0, .slice a_a m_a c_a), (1, .int .i64 v)]) rfl fun w L hR => ?_
 obtain ⟨as0, as1⟩ := hR
 refine i9 m0 fun ea la => ?_
 subst ea
 refine Ew Z1 (Ei rfl (Eu (Eq_ (Ew Z1 (Ei rfl (Eu (E.block (E.loop (κ := Nat) (fun g => g ≤ a.length) (fun g => [(0, .slice a_a a.length c_a), (1, .int .i64 (v + (r9 H2 (a.take g) : Nat))), (5, .int .i64 (g : Int))]) (fun g => [ow s8 [.slice a_a a.length c_a] (mkL H2 a0T (a.take g) v ++ a.drop g)]) (fun g => a.length - g) 0 (Nat.zero_le _) ⟨rfl, frI (by simp [r9]), rfl, trivial⟩ (.refl _) (fun g pg => ?_)))))))))
 have u1 := R3 (t := H2) (l := a) (g := g)
 have u2 := R3 (t := H2) (l := a) (g := g + 1)
 have hlen : (mkL H2 a0T (a.take g) v ++ a.drop g).length = a.length := by rw [List.length_append, a1H, ← List.length_append, List.take_append_drop]
 refine Eq_ (Ew Z4 (Em rfl (Em rfl (Ey rfl ((Y.len us_Facts rfl).yd) (Ey rfl ((Y.lss rfl rfl).yd) (o6 (fun q9 => ?_) (fun q9 => ?_)))))))
 ·have u3 := P7 (t := H2) (show g < a.length by omega)
  have u4 : H2 a[g] = 1 + r9 E1 a[g].2 := rfl
  refine Eu (o2 rfl (j5 (Et (Eq_ (E.block (Ew Z6 (Em rfl (Em rfl (Em rfl (a0j m0 om fun ab15 ae15 => (a2e (x := a[g]) g (a7a (show g < a.length by omega)) fun ce15 => (i7 (a5q fun oa15_1 om15_1 oc15_1 oe15 oi15_0 on15_1 => ?_)))))))))))))
  subst oe15
  subst on15_1
  refine Ey rfl ((r7 us_Facts ty_Fact rfl ae15 rfl g rfl om).yd) (Ey rfl ((j7 fo_Fact_0 i8 dc rfl).yd) (i7 (Est rfl (a5n (f := 0) (kk := 2) (vs := [_]) (ce' := [_, _]) i8 rfl rfl rfl rfl rfl ae15 rfl rfl bl rfl rfl) (fun _ _ => (Ev Z3 (Em rfl (Ey rfl ((Y.add rfl rfl om om).yd) (Ei rfl (Eu (Ez Z8 (Em rfl (Em rfl (Ey rfl ((r7 us_Facts ty_Fact rfl ae15 rfl g rfl om).yd) (Ey rfl ((j7 fo_Fact_1 ty_Is dc rfl).yd) (Ey rfl (g9 ty_Is rfl ((Has.hole ae15 m0).sub (cs' := [_]) 1 rfl) rfl) (Em rfl (i7 (Est rfl (N.call (pre := [_]) X3 rfl rfl rfl dc rfl (fun w Lp hA => ⟨(by first | assumption | omega), (by first | assumption | omega)⟩)) (fun _ _ => (Ei rfl (En (t7 (Et (Ez Z3 (Em rfl (Ey rfl ((Y.add rfl rfl om om).yd) (Ei rfl (Eu (i7 (a1h (N0 (x := (v + (r9 H2 (a.take g) : Nat), mkL E1 V7 a[g].2 (v + (r9 H2 (a.take g) : Nat) + 1))) i6 Own.ow) rfl ?_))))))))))))))))))))))))))))))
  exact v8 br (g + 1) ⟨rfl, frI om, rfl, trivial⟩ (a4d (a5P (c := H2) (m := a0T) (show g < a.length by omega) rfl)) om om
 ·refine Eu (o3 rfl (E.exit (o8 (o8 (x9 (Et (Ew Z2 (Em rfl (Ei rfl (Eu (E.ret (j6 (congrArg (ow s8 [_]) (show mkL H2 a0T (a.take g) v ++ a.drop g = mkL H2 a0T a v from by first | exact a2f om | (rw [U8 om]))) ?_))))))))))))
  exact Fg rfl rfl () (by rw [show (v + (r9 H2 a : Nat)) = (v + (r9 H2 (a.take g) : Nat)) from (by first | exact a2f om | (rw [U8 om]))]; try rfl) rfl
end Go.Proofs.YtdopeopehgdccaaGreat
end
