import Derived.Test.YtdopeopehgdccaaBs
import Derived.Test.YtdopeopehgdccaaT1
import Derived.Test.YtdopeopehgdccaaBc
namespace Go.Proofs.Ytdopeopehgdccaa
open Go.RowKit
set_option linter.all false
set_option maxHeartbeats 2000000
attribute [local irreducible] Nop Yd Yp Ent Has Tr FnP FnP2 Src
variable {v : Int} {a : List Int} {m_a c_a : Nat} {a_a : Option Addr}
theorem t9 : Tr Try.prog 17 [.slice a_a m_a c_a, .int .i64 v] (fun w L => 0 ≤ v ∧ v + ((c7 f5 a : Nat) : Int) ≤ 4611686018427387904) [ow eIs [.slice a_a m_a c_a] a] (κ := Unit) (fun k => True) (fun k => .int .i64 (v + (c7 f5 a : Nat))) (fun k => [ow eIs [.slice a_a m_a c_a] (mkL f5 o6 a v)]) := by
 refine Tr.intro Try.func17 rfl (n := 19) rfl (by decide +kernel) bl (fr := [(0, .slice a_a m_a c_a), (1, .int .i64 v)]) rfl fun w L hR => ?_
 obtain ⟨as0, as1⟩ := hR
 refine Ent.lenow m0 fun ea la => ?_
 subst ea
 refine Ew Z1 (Eas rfl rfl (Eu (Eq_ (Ew Z1 (Eas rfl rfl (Eu (E.block (E.loop (κ := Nat) (fun g => g ≤ a.length) (fun g => [(0, .slice a_a a.length c_a), (1, .int .i64 (v + (c7 f5 (a.take g) : Nat))), (5, .int .i64 (g : Int))]) (fun g => [ow eIs [.slice a_a a.length c_a] (mkL f5 o6 (a.take g) v ++ a.drop g)]) (fun g => a.length - g) 0 (Nat.zero_le _) ⟨rfl, frI (by simp [c7]), rfl, trivial⟩ (.refl _) (fun g pg => ?_)))))))))
 have u1 := w9 (t := f5) (l := a) (g := g)
 have u2 := w9 (t := f5) (l := a) (g := g + 1)
 have hlen : (mkL f5 o6 (a.take g) v ++ a.drop g).length = a.length := by rw [List.length_append, C1, ← List.length_append, List.take_append_drop]
 refine Eq_ (Ew Z4 (Emv rfl rfl (Emv rfl rfl (Ey rfl ((Y.len us_Is rfl).yd) (Ey rfl ((Y.lss rfl rfl).yd) (Ent.d (fun q9 => ?_) (fun q9 => ?_)))))))
 ·have u3 := s8 (t := f5) (show g < a.length by omega)
  have u4 : f5 a[g] = 1 := rfl
  refine Eu (E.ct rfl (E.skipc (Et (Eq_ (E.block (Ew Z5 (Emv rfl rfl (Emv rfl rfl (Emv rfl rfl (Ent.adr m0 om fun ab15 ae15 => (Ey rfl ((Y.ix us_Is c6 rfl ae15 rfl g rfl om).yd) (Est rfl (N.set (E := Enc.int) (j := g) (ex := v + (c7 f5 (a.take g) : Nat)) (ce := [_]) c6 rfl rfl rfl rfl (Own.int i6) ae15 (Nat.zero_add _) rfl (by simp [C1]; omega)) (fun _ _ => (Eu (Ez Z3 (Emv rfl rfl (Ey rfl ((Y.add rfl rfl om om).yd) (Eas rfl rfl (En (E.bln (Et (Ez Z3 (Emv rfl rfl (Ey rfl ((Y.add rfl rfl om om).yd) (Eas rfl rfl ?_)))))))))))))))))))))))))
  exact Eu (E.again br (g + 1) ⟨rfl, frI om, rfl, trivial⟩ (a0c (Y1 (c := f5) (m := o6) (show g < a.length by omega) rfl)) om om)
 ·refine Eu (E.cf rfl (E.exit (E.the (E.the (E.blh (Et (Ew Z2 (Emv rfl rfl (Eas rfl rfl (Eu (E.ret (Ent.cv (congrArg (ow eIs [_]) (show mkL f5 o6 (a.take g) v ++ a.drop g = mkL f5 o6 a v from by first | exact J6 om | (rw [y8 om]))) ?_))))))))))))
  exact Fg rfl rfl () (by rw [show (v + (c7 f5 a : Nat)) = (v + (c7 f5 (a.take g) : Nat)) from (by first | exact J6 om | (rw [y8 om]))]; try rfl) rfl
theorem I2 (hz : mkL f5 o6 a v = a) : Tr Try.prog 21 [.slice a_a m_a c_a, .int .i64 v] (fun w L => Ro w L eIs [.slice a_a m_a c_a] a ∧ 0 ≤ v ∧ v + ((c7 f5 a : Nat) : Int) ≤ 4611686018427387904) [] (κ := Unit) (fun k => True) (fun k => .int .i64 (v + (c7 f5 a : Nat))) (fun k => []) := by
 refine Tr.intro Try.func21 rfl (n := 21) rfl (by decide +kernel) bl (fr := [(0, .slice a_a m_a c_a), (1, .int .i64 v)]) rfl fun w L hR => ?_
 obtain ⟨ha, as0, as1⟩ := hR
 obtain ⟨rfl, la⟩ := ha.slen
 refine Ew Z1 (Eas rfl rfl (Eu (Eq_ (Ew Z1 (Eas rfl rfl (Eu (E.block (E.loop (κ := Nat) (fun g => g ≤ a.length) (fun g => [(0, .slice a_a a.length c_a), (1, .int .i64 (v + (c7 f5 (a.take g) : Nat))), (5, .int .i64 (g : Int))]) (fun g => []) (fun g => a.length - g) 0 (Nat.zero_le _) ⟨rfl, frI (by simp [c7]), rfl, trivial⟩ (.refl _) (fun g pg => ?_)))))))))
 have u1 := w9 (t := f5) (l := a) (g := g)
 have u2 := w9 (t := f5) (l := a) (g := g + 1)
 refine Eq_ (Ew Z4 (Emv rfl rfl (Emv rfl rfl (Ey rfl ((Y.len us_Is rfl).yd) (Ey rfl ((Y.lss rfl rfl).yd) (Ent.d (fun q9 => ?_) (fun q9 => ?_)))))))
 ·have u3 := s8 (t := f5) (show g < a.length by omega)
  have u4 : f5 a[g] = 1 := rfl
  refine Eu (E.ct rfl (E.skipc (Et (Eq_ (E.block (Eq_ (Ew Z6 (Emv rfl rfl (Emv rfl rfl ?_)))))))))
  obtain ⟨eb14, eo14, ea14, ei14, eh14⟩ := ha.elemI g om
  refine Ey rfl ((Y.ix us_Is c6 rfl ea14 rfl g rfl om).yd) (Ey rfl (Y.ld1 c6 rfl (eh14 _) rfl) (Emv rfl rfl (Ey rfl ((Y.neq rfl rfl).yd) (Ent.d (fun q17 => ?_) (fun q17 => ?_)))))
  ·exact absurd (a2E hz (show g < a.length by omega)).symm q17
  ·refine Eu (E.cf rfl (E.skipc (Et (Ez Z3 (Emv rfl rfl (Ey rfl ((Y.add rfl rfl om om).yd) (Eas rfl rfl (En (E.bln (Et (Ez Z3 (Emv rfl rfl (Ey rfl ((Y.add rfl rfl om om).yd) (Eas rfl rfl ?_))))))))))))))
   exact Eu (E.again br (g + 1) ⟨rfl, frI om, rfl, trivial⟩ (.refl _) om om)
 ·refine Eu (E.cf rfl (E.exit (E.the (E.the (E.blh (Et (Ew Z2 (Emv rfl rfl (Eas rfl rfl ?_)))))))))
  exact Eu (E.ret (Fg rfl rfl () (congrArg (Value.int .i64) (by rw [y8 om])) rfl))
theorem Q8 {a : List (Int × Int × List Int)} : Tr Try.prog 18 [.slice a_a m_a c_a, .int .i64 v] (fun w L => 0 ≤ v ∧ v + ((c7 j7 a : Nat) : Int) ≤ 4611686018427387904) [ow l5 [.slice a_a m_a c_a] a] (κ := Unit) (fun k => True) (fun k => .int .i64 (v + (c7 j7 a : Nat))) (fun k => [ow l5 [.slice a_a m_a c_a] (mkL j7 B1 a v)]) := by
 refine Tr.intro Try.func18 rfl (n := 34) rfl (by decide +kernel) bl (fr := [(0, .slice a_a m_a c_a), (1, .int .i64 v)]) rfl fun w L hR => ?_
 obtain ⟨as0, as1⟩ := hR
 refine Ent.lenow m0 fun ea la => ?_
 subst ea
 refine Ew Z1 (Eas rfl rfl (Eu (Eq_ (Ew Z1 (Eas rfl rfl (Eu (E.block (E.loop (κ := Nat) (fun g => g ≤ a.length) (fun g => [(0, .slice a_a a.length c_a), (1, .int .i64 (v + (c7 j7 (a.take g) : Nat))), (5, .int .i64 (g : Int))]) (fun g => [ow l5 [.slice a_a a.length c_a] (mkL j7 B1 (a.take g) v ++ a.drop g)]) (fun g => a.length - g) 0 (Nat.zero_le _) ⟨rfl, frI (by simp [c7]), rfl, trivial⟩ (.refl _) (fun g pg => ?_)))))))))
 have u1 := w9 (t := j7) (l := a) (g := g)
 have u2 := w9 (t := j7) (l := a) (g := g + 1)
 have hlen : (mkL j7 B1 (a.take g) v ++ a.drop g).length = a.length := by rw [List.length_append, C1, ← List.length_append, List.take_append_drop]
 refine Eq_ (Ew Z4 (Emv rfl rfl (Emv rfl rfl (Ey rfl ((Y.len us_Rules rfl).yd) (Ey rfl ((Y.lss rfl rfl).yd) (Ent.d (fun q9 => ?_) (fun q9 => ?_)))))))
 ·have u3 := s8 (t := j7) (show g < a.length by omega)
  have u4 : j7 a[g] = 1 + 1 + c7 f5 a[g].2.2 := rfl
  refine Eu (E.ct rfl (E.skipc (Et (Eq_ (E.block (Ew Z6 (Emv rfl rfl (Emv rfl rfl (Emv rfl rfl (Ent.adr m0 om fun ab15 ae15 => (Ent.open (x := a[g]) g (a1m (show g < a.length by omega)) fun ce15 => (Ent.p1 (Ent.oRule fun oa15_2 om15_2 oc15_2 oe15 oi15_0 oi15_1 on15_2 => ?_)))))))))))))
  subst oe15
  subst on15_2
  refine Ey rfl ((Y.ix us_Rules ty_Rule rfl ae15 rfl g rfl om).yd) (Ey rfl ((Y.fld fo_Rule_0 c6 dc rfl).yd) (Ent.p1 (Est rfl (N.sth (f := 0) (kk := 3) (vs := [_]) (ce' := [_, _, _]) c6 rfl rfl rfl rfl rfl ae15 rfl rfl bl rfl rfl) (fun _ _ => (Ev Z3 (Emv rfl rfl (Ey rfl ((Y.add rfl rfl om om).yd) (Eas rfl rfl (Ev Z6 (Emv rfl rfl (Emv rfl rfl (Emv rfl rfl (Ey rfl ((Y.ix us_Rules ty_Rule rfl ae15 rfl g rfl om).yd) (Ey rfl ((Y.fld fo_Rule_1 c6 dc rfl).yd) (Est rfl (N.sth (f := 1) (kk := 3) (vs := [_]) (ce' := [_, _, _]) c6 rfl rfl rfl rfl rfl ae15 rfl rfl bl rfl rfl) (fun _ _ => (Ev Z3 (Emv rfl rfl (Ey rfl ((Y.add rfl rfl om om).yd) (Eas rfl rfl (Eu (Ez Z8 (Emv rfl rfl (Emv rfl rfl (Ey rfl ((Y.ix us_Rules ty_Rule rfl ae15 rfl g rfl om).yd) (Ey rfl ((Y.fld fo_Rule_2 ty_Is dc rfl).yd) (Ey rfl (Y.ld1 ty_Is rfl ((Has.hole ae15 m0).sub (cs' := [_]) 2 rfl) rfl) (Emv rfl rfl (Ent.p1 (Est rfl (N.call (pre := [_]) t9 rfl rfl rfl dc rfl (fun w Lp hA => ⟨(by first | assumption | omega), (by first | assumption | omega)⟩)) (fun _ _ => (Eas rfl rfl (En (E.bln (Et (Ez Z3 (Emv rfl rfl (Ey rfl ((Y.add rfl rfl om om).yd) (Eas rfl rfl (Eu (Ent.p1 (Ent.shut (Own.mkRule (x := (v + (c7 j7 (a.take g) : Nat), (v + (c7 j7 (a.take g) : Nat) + 1), mkL f5 o6 a[g].2.2 ((v + (c7 j7 (a.take g) : Nat) + 1) + 1))) i6 i6 Own.ow) rfl ?_))))))))))))))))))))))))))))))))))))))))))
  exact E.again br (g + 1) ⟨rfl, frI om, rfl, trivial⟩ (a0c (Y1 (c := j7) (m := B1) (show g < a.length by omega) rfl)) om om
 ·refine Eu (E.cf rfl (E.exit (E.the (E.the (E.blh (Et (Ew Z2 (Emv rfl rfl (Eas rfl rfl (Eu (E.ret (Ent.cv (congrArg (ow l5 [_]) (show mkL j7 B1 (a.take g) v ++ a.drop g = mkL j7 B1 a v from by first | exact J6 om | (rw [y8 om]))) ?_))))))))))))
  exact Fg rfl rfl () (by rw [show (v + (c7 j7 a : Nat)) = (v + (c7 j7 (a.take g) : Nat)) from (by first | exact J6 om | (rw [y8 om]))]; try rfl) rfl
theorem S3 {l4 : Int} {i8 : Option Addr} {j3 i9 : Nat} {i7 : List Int} : Tr Try.prog 20 [.agg #[.int .i64 l4, .slice i8 j3 i9], .int .i64 v] (fun w L => I64 l4 ∧ 0 ≤ v ∧ v + ((c7 f5 i7 : Nat) : Int) ≤ 4611686018427387904) [ow eIs [.slice i8 j3 i9] i7] (κ := Unit) (fun k => True) (fun k => .int .i64 (v + ((c7 f5 i7 : Nat) : Int))) (fun k => [ow eIs [.slice i8 j3 i9] (mkL f5 o6 i7 v)]) := by
 refine Tr.intro Try.func20 rfl (n := 10) rfl (by decide +kernel) bl (fr := [(0, .agg #[.int .i64 l4, .slice i8 j3 i9]), (1, .int .i64 v)]) rfl fun w L hR => ?_
 obtain ⟨K1, as0, as1⟩ := hR
 refine Ent.lenow m0 fun a1u F2 => ?_
 subst a1u
 refine Ew Z2 (Est rfl (N.box (cs := [_, _]) rfl dc rfl) (fun b2 _ => (Eas rfl rfl (Ev Z5 (Ey rfl ((Y.fld fo_Fact_1 ty_Is dc rfl).yd) (Ey rfl (Y.ld1 ty_Is rfl ((Has.pt m0).sub (cs' := [_]) 1 rfl) rfl) (Emv rfl rfl (Ent.p1 (Est rfl (N.call (pre := [_]) t9 rfl rfl rfl dc rfl (fun w Lp hA => ⟨(by first | assumption | omega), (by first | assumption | omega)⟩)) (fun _ _ => (Eas rfl rfl (Ev Z2 (Emv rfl rfl (Eas rfl rfl ?_))))))))))))))
 exact Eu (E.ret (Fg rfl rfl () (by rw [show (v + ((c7 f5 i7 : Nat) : Int)) = (v + (c7 f5 i7 : Nat)) from (by first | rfl | omega | (congr 1; omega))]; try rfl) rfl))
end Go.Proofs.Ytdopeopehgdccaa
