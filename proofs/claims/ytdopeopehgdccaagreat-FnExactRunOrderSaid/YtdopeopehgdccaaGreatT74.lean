import Derived.Test.YtdopeopehgdccaaGreatBs
import Derived.Test.YtdopeopehgdccaaGreatT70
import Derived.Test.YtdopeopehgdccaaGreatT16
import Derived.Test.YtdopeopehgdccaaGreatT19
import Derived.Test.YtdopeopehgdccaaGreatDw
import Derived.Test.YtdopeopehgdccaaGreatBm
namespace Go.Proofs.YtdopeopehgdccaaGreat
open Go.RowKit
set_option linter.all false
set_option maxHeartbeats 2000000
attribute [local irreducible] Nop Yd Yp Ent Has Tr FnP FnP2 Src M5 V6 Y1 a0b D2
variable {a : List (Int × Int)} {m_a c_a : Nat} {a_a : Option Addr}
theorem a6T {a0N : Int} {g9 : Int} {a5d : Int} {H5 : Int} : Tr Tryz.prog 98 [.agg #[.int .i64 a0N, .int .i64 g9], .agg #[.int .i64 a5d, .int .i64 H5]] (fun w L => I64 a0N ∧ I64 g9 ∧ I64 a5d ∧ I64 H5) [] (κ := Unit) (fun k => True) (fun k => .bool (decide ((a0N, g9) = (a5d, H5)))) (fun k => []) := by
 refine Tr.intro Tryz.func98 rfl (n := 15) rfl (by decide +kernel) bl (fr := [(0, .agg #[.int .i64 a0N, .int .i64 g9]), (1, .agg #[.int .i64 a5d, .int .i64 H5])]) rfl fun w L hR => ?_
 obtain ⟨b0A, D5, b2P, a2z⟩ := hR
 refine Ew Z3 (Est rfl (N.box (cs := [_, _]) rfl dc rfl) (fun b2 _ => (Est rfl (N.box (cs := [_, _]) rfl dc rfl) (fun b3 _ => (Eas rfl rfl (Eu (Eq_ (Ew Z5 (Ey rfl ((Y.fld fo_Step_0 f8 dc rfl).yd) (Ey rfl (Y.ld1 f8 rfl ((Has.pt (mS m0)).sub (cs' := [_]) 0 rfl) rfl) (Ey rfl ((Y.fld fo_Step_0 f8 dc rfl).yd) (Ey rfl (Y.ld1 f8 rfl ((Has.pt m0).sub (cs' := [_]) 0 rfl) rfl) (Ey rfl ((Y.neq rfl rfl).yd) (Ent.d (fun q9 => ?_) (fun q9 => ?_)))))))))))))))
 ·refine Eu (E.ct rfl (Ew Z1 (Eas rfl rfl ?_)))
  exact Eu (E.ret (E.thr (Fb rfl rfl (by simp_all))))
 ·refine Eu (E.cf rfl (E.skipc (Et (Eq_ (Ew Z5 (Ey rfl ((Y.fld fo_Step_1 f8 dc rfl).yd) (Ey rfl (Y.ld1 f8 rfl ((Has.pt (mS m0)).sub (cs' := [_]) 1 rfl) rfl) (Ey rfl ((Y.fld fo_Step_1 f8 dc rfl).yd) (Ey rfl (Y.ld1 f8 rfl ((Has.pt m0).sub (cs' := [_]) 1 rfl) rfl) (Ey rfl ((Y.neq rfl rfl).yd) (Ent.d (fun q14 => ?_) (fun q14 => ?_))))))))))))
  ·refine Eu (E.ct rfl (Ew Z1 (Eas rfl rfl ?_)))
   exact Eu (E.ret (E.thr (Fb rfl rfl (by simp_all))))
  ·refine Eu (E.cf rfl (E.skipc (Et (Ew Z1 (Eas rfl rfl ?_)))))
   exact Eu (E.ret (Fb rfl rfl (by simp_all)))
theorem a5h {a_b : Option Addr} {m_b c_b : Nat} {b : List (Int × Int)} : Tr Tryz.prog 36 [.slice a_a m_a c_a, .slice a_b m_b c_b] (fun w L => Ro w L K4 [.slice a_a m_a c_a] a ∧ Ro w L K4 [.slice a_b m_b c_b] b) [] (κ := Unit) (fun k => True) (fun k => .bool (decide (a = b))) (fun k => []) := by
 refine Tr.intro Tryz.func36 rfl (n := 27) rfl (by decide +kernel) bl (fr := [(0, .slice a_a m_a c_a), (1, .slice a_b m_b c_b)]) rfl fun w L hR => ?_
 obtain ⟨ha, hb⟩ := hR
 obtain ⟨rfl, la⟩ := ha.slen
 obtain ⟨rfl, lb⟩ := hb.slen
 refine Ew Z1 (Eas rfl rfl (Eu (Eq_ (Ew Z5 (Emv rfl rfl (Ey rfl ((Y.len us_Steps rfl).yd) (Emv rfl rfl (Ey rfl ((Y.len us_Steps rfl).yd) (Ey rfl ((Y.neq rfl rfl).yd) (Ent.d (fun q10 => ?_) (fun q10 => ?_)))))))))))
 ·refine Eu (E.ct rfl (Ew Z1 (Eas rfl rfl ?_)))
  exact Eu (E.ret (E.thr (Fb rfl rfl (by exact Y9 q10))))
 ·refine Eu (E.cf rfl (E.skipc (Et (Eq_ (Ew Z1 (Eas rfl rfl (Eu (E.block (E.loop (κ := Nat) (fun g => g ≤ a.length ∧ a.take g = b.take g) (fun g => [(0, .slice a_a a.length c_a), (1, .slice a_b b.length c_b), (5, .int .i64 (g : Int))]) (fun g => []) (fun g => a.length - g) 0 ⟨by omega, by simp⟩ ⟨rfl, rfl, rfl, trivial⟩ (.refl _) (fun g pg => ?_))))))))))
  obtain ⟨pk, pa⟩ := pg
  refine Eq_ (Ew Z4 (Emv rfl rfl (Emv rfl rfl (Ey rfl ((Y.len us_Steps rfl).yd) (Ey rfl ((Y.lss rfl rfl).yd) (Ent.d (fun q14 => ?_) (fun q14 => ?_)))))))
  ·refine Eu (E.ct rfl (E.skipc (Et (Eq_ (E.block (Eq_ (D.region (fun j => true) mixed (Dyp 0 rfl (Y.mv rfl) (Dyp 1 rfl (Y.mv rfl) ?_)))))))))
   obtain ⟨eb19, eo19, ec19, ea19, er19, el19, eh19⟩ := ha.elem g om
   obtain ⟨rfl, ei19_0, ei19_1⟩ := Ro.pStep er19
   refine Dyp 2 rfl (Y.ix us_Steps ty_Step rfl ea19 rfl g rfl om) (Dy 3 rfl (Y.ldS (cs := [_, _]) ty_Step rfl (eh19 _) rfl) (Dyp 4 rfl (Y.mv rfl) (Dyp 5 rfl (Y.mv rfl) ?_)))
   obtain ⟨eb23, eo23, ec23, ea23, er23, el23, eh23⟩ := hb.elem g om
   obtain ⟨rfl, ei23_0, ei23_1⟩ := Ro.pStep er23
   refine Dyp 6 rfl (Y.ix us_Steps ty_Step rfl ea23 rfl g rfl om) (Dy 7 rfl (Y.ldS (cs := [_, _]) ty_Step rfl (eh23 _) rfl) (D.st 8 rfl rfl kr (fun _ => rfl) (N.call0 a6T rfl rfl rfl dc (fun w Lp hA => ⟨ei19_0, ei19_1, ei23_0, ei23_1⟩)) (fun _ _ => (Ent.b (fun q25 => ?_) (fun q25 => ?_)))))
   ·refine Dyp 9 rfl (Y.not (b := true) rfl) (D.done kr (Et (E.cf rfl (E.skipc (E.bln (Et (Ez Z3 (Emv rfl rfl (Ey rfl ((Y.add rfl rfl om om).yd) (Eas rfl rfl ?_))))))))))
    exact Eu (E.again br (g + 1) rs (.refl _) ⟨by omega, S5 om om pa (of_decide_eq_true q25)⟩ om)
   ·refine Dyp 9 rfl (Y.not (b := false) rfl) (D.done kr (Et (E.ct rfl (Ew Z1 (Eas rfl rfl ?_)))))
    exact Eu (E.ret (E.blr (E.thr (E.thr (E.blr (E.thr (Fb rfl rfl (by exact a0c (show g < a.length by omega) (show g < b.length by omega) (of_decide_eq_false q25)))))))))
  ·refine Eu (E.cf rfl (E.exit (E.the (E.the (E.blh (Et (Ew Z1 (Eas rfl rfl ?_))))))))
   exact Eu (E.ret (Fb rfl rfl (by exact X0 (show a.length ≤ g by omega) (show b.length ≤ g by omega) pa)))
theorem a3M {v : Int} : Tr Tryz.prog 38 [.slice a_a m_a c_a, .int .i64 v] (fun w L => 0 ≤ v ∧ v + ((j8 E9 a : Nat) : Int) ≤ 4611686018427387904) [ow K4 [.slice a_a m_a c_a] a] (κ := Unit) (fun k => True) (fun k => .int .i64 (v + (j8 E9 a : Nat))) (fun k => [ow K4 [.slice a_a m_a c_a] (mkL E9 X6 a v)]) := by
 refine Tr.intro Tryz.func38 rfl (n := 27) rfl (by decide +kernel) bl (fr := [(0, .slice a_a m_a c_a), (1, .int .i64 v)]) rfl fun w L hR => ?_
 obtain ⟨as0, as1⟩ := hR
 refine Ent.lenow m0 fun ea la => ?_
 subst ea
 refine Ew Z1 (Eas rfl rfl (Eu (Eq_ (Ew Z1 (Eas rfl rfl (Eu (E.block (E.loop (κ := Nat) (fun g => g ≤ a.length) (fun g => [(0, .slice a_a a.length c_a), (1, .int .i64 (v + (j8 E9 (a.take g) : Nat))), (5, .int .i64 (g : Int))]) (fun g => [ow K4 [.slice a_a a.length c_a] (mkL E9 X6 (a.take g) v ++ a.drop g)]) (fun g => a.length - g) 0 (Nat.zero_le _) ⟨rfl, frI (by simp [j8]), rfl, trivial⟩ (.refl _) (fun g pg => ?_)))))))))
 have u1 := F0 (t := E9) (l := a) (g := g)
 have u2 := F0 (t := E9) (l := a) (g := g + 1)
 have hlen : (mkL E9 X6 (a.take g) v ++ a.drop g).length = a.length := by rw [List.length_append, T7, ← List.length_append, List.take_append_drop]
 refine Eq_ (Ew Z4 (Emv rfl rfl (Emv rfl rfl (Ey rfl ((Y.len us_Steps rfl).yd) (Ey rfl ((Y.lss rfl rfl).yd) (Ent.d (fun q9 => ?_) (fun q9 => ?_)))))))
 ·have u3 := E8 (t := E9) (show g < a.length by omega)
  have u4 : E9 a[g] = 1 + 1 := rfl
  refine Eu (E.ct rfl (E.skipc (Et (Eq_ (E.block (Ew Z6 (Emv rfl rfl (Emv rfl rfl (Emv rfl rfl (Ent.adr m0 om fun ab15 ae15 => (Ent.open (x := a[g]) g (a1O (show g < a.length by omega)) fun ce15 => (Ent.p1 (Ent.oStep fun  oe15 oi15_0 oi15_1 => ?_)))))))))))))
  subst oe15
  refine Ey rfl ((Y.ix us_Steps ty_Step rfl ae15 rfl g rfl om).yd) (Ey rfl ((Y.fld fo_Step_0 f8 dc rfl).yd) (Est rfl (N.sth (f := 0) (kk := 2) (vs := [_]) (ce' := [_, _]) f8 rfl rfl rfl rfl rfl ae15 rfl rfl bl rfl rfl) (fun _ _ => (Ev Z3 (Emv rfl rfl (Ey rfl ((Y.add rfl rfl om om).yd) (Eas rfl rfl (Ev Z6 (Emv rfl rfl (Emv rfl rfl (Emv rfl rfl (Ey rfl ((Y.ix us_Steps ty_Step rfl ae15 rfl g rfl om).yd) (Ey rfl ((Y.fld fo_Step_1 f8 dc rfl).yd) (Est rfl (N.sth (f := 1) (kk := 2) (vs := [_]) (ce' := [_, _]) f8 rfl rfl rfl rfl rfl ae15 rfl rfl bl rfl rfl) (fun _ _ => (Eu (Ez Z3 (Emv rfl rfl (Ey rfl ((Y.add rfl rfl om om).yd) (Eas rfl rfl (En (E.bln (Et (Ez Z3 (Emv rfl rfl (Ey rfl ((Y.add rfl rfl om om).yd) (Eas rfl rfl (Eu (Ent.shut (Own.mkStep (x := (v + (j8 E9 (a.take g) : Nat), (v + (j8 E9 (a.take g) : Nat) + 1))) i6 i6) rfl ?_)))))))))))))))))))))))))))))
  exact E.again br (g + 1) ⟨rfl, frI om, rfl, trivial⟩ (a1s (a1r (c := E9) (m := X6) (show g < a.length by omega) rfl)) om om
 ·refine Eu (E.cf rfl (E.exit (E.the (E.the (E.blh (Et (Ew Z2 (Emv rfl rfl (Eas rfl rfl (Eu (E.ret (Ent.cv (congrArg (ow K4 [_]) (show mkL E9 X6 (a.take g) v ++ a.drop g = mkL E9 X6 a v from by first | exact U6 om | (rw [G9 om]))) ?_))))))))))))
  exact Fg rfl rfl () (by rw [show (v + (j8 E9 a : Nat)) = (v + (j8 E9 (a.take g) : Nat)) from (by first | exact U6 om | (rw [G9 om]))]; try rfl) rfl
end Go.Proofs.YtdopeopehgdccaaGreat
