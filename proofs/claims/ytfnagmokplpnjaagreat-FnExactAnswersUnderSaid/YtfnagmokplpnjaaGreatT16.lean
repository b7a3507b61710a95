import Derived.Test.YtfnagmokplpnjaaGreatBs
import Derived.Test.YtfnagmokplpnjaaGreatT4
import Derived.Test.YtfnagmokplpnjaaGreatT5
namespace Go.Proofs.YtfnagmokplpnjaaGreat
open Go.RowKit
set_option linter.unusedVariables false
set_option linter.unusedSimpArgs false
set_option maxHeartbeats 2000000
attribute [local irreducible] Nop Yd Yp Ent Has Tr FnP FnP2 Src
theorem t_laws_markFactS {a_a : Option Addr} {m_a c_a : Nat} {a : List (Int × List Int)} {v : Int} : Tr Tryz.prog 36 [.slice a_a m_a c_a, .int .i64 v] (fun w L => 0 ≤ v ∧ v + ((totS cE_Fact a : Nat) : Int) ≤ 4611686018427387904) [ow eFacts [.slice a_a m_a c_a] a] (κ := Unit) (fun k => True) (fun k => .int .i64 (v + (totS cE_Fact a : Nat))) (fun k => [ow eFacts [.slice a_a m_a c_a] (mkL cE_Fact mE_Fact a v)]) := by
  refine Tr.intro Tryz.func36 rfl (n := 27) rfl (by decide +kernel) bl (fr := [(0, .slice a_a m_a c_a), (1, .int .i64 v)]) rfl fun w L hR => ?_
  obtain ⟨as0, as1⟩ := hR
  refine Ent.lenow m0 fun ea la => ?_
  subst ea
  refine Eq_ (Er (l := [0]) rfl (Eas rfl rfl (En (Et (Eq_ (Eq_ (Er (l := [0]) rfl (Eas rfl rfl (En (Et (E.block (E.loop (κ := Nat) (fun g => g ≤ a.length) (fun g => [(0, .slice a_a a.length c_a), (1, .int .i64 (v + (totS cE_Fact (a.take g) : Nat))), (5, .int .i64 (↑g : Int))]) (fun g => [ow eFacts [.slice a_a a.length c_a] (mkL cE_Fact mE_Fact (a.take g) v ++ a.drop g)]) (fun g => a.length - g) 0 (Nat.zero_le _) ⟨rfl, frI (by simp [totS]), rfl, trivial⟩ (.refl _) (fun g pg => ?_)))))))))))))
  have u1 := totS_le (t := cE_Fact) (l := a) (g := g)
  have u2 := totS_le (t := cE_Fact) (l := a) (g := g + 1)
  have hlen : (mkL cE_Fact mE_Fact (a.take g) v ++ a.drop g).length = a.length := by rw [List.length_append, mkL_len, ← List.length_append, List.take_append_drop]
  refine Eq_ (Eq_ (Er (l := [0, 1, 2, 3]) rfl (Emv rfl rfl (Emv rfl rfl (Ey rfl ((Y.len us_Facts rfl).yd) (Ey rfl ((Y.lss rfl rfl).yd) (Ent.d (fun q9 => ?_) (fun q9 => ?_))))))))
  · have u3 := totS_step (t := cE_Fact) (show g < a.length by omega)
    have u4 : cE_Fact a[g] = 1 + totS cE_I a[g].2 := rfl
    refine En (Et (E.ct rfl (E.skipc (Et (Eq_ (E.block (Eq_ (Er (l := [0, 1, 2, 3, 4, 5]) rfl (Emv rfl rfl (Emv rfl rfl (Emv rfl rfl (Ent.adr m0 om fun ab15 ae15 => (Ent.open (x := a[g]) g (mk_get (show g < a.length by omega)) fun ce15 => (Ent.p1 (Ent.oFact fun oa15_1 om15_1 oc15_1 oe15 oi15_0 on15_1 => ?_)))))))))))))))
    subst oe15
    subst on15_1
    refine Ey rfl ((Y.ix us_Facts ty_Fact rfl ae15 rfl g rfl om).yd) (Ey rfl ((Y.fld fo_Fact_0 ty_I dc rfl).yd) (Ent.p1 (Est rfl (N.sth (f := 0) (kk := 2) (vs := [_]) (ce' := [_, _]) ty_I rfl rfl rfl rfl rfl ae15 rfl rfl bl rfl rfl) (fun _ _ => (En (Et (Eq_ (Er (l := [0, 1, 2]) rfl (Emv rfl rfl (Ey rfl ((Y.add rfl rfl om om).yd) (Eas rfl rfl (En (Et (Er (l := [0, 1, 2, 3, 4, 5, 6, 7]) rfl (Emv rfl rfl (Emv rfl rfl (Ey rfl ((Y.ix us_Facts ty_Fact rfl ae15 rfl g rfl om).yd) (Ey rfl ((Y.fld fo_Fact_1 ty_Is dc rfl).yd) (Ey rfl (Y.ld1 ty_Is rfl ((Has.hole ae15 m0).sub (cs' := [_]) 1 rfl) rfl) (Emv rfl rfl (Ent.p1 (Est rfl (N.call (pre := [_]) t_laws_markIntS rfl rfl rfl dc rfl (fun w Lp hA => ⟨(by first | assumption | omega), (by first | assumption | omega)⟩)) (fun _ _ => (Eas rfl rfl (En (E.bln (Et (Er (l := [0, 1, 2]) rfl (Emv rfl rfl (Ey rfl ((Y.add rfl rfl om om).yd) (Eas rfl rfl (En (Et (Ent.p1 (Ent.shut (Own.mkFact (x := (v + (totS cE_Fact (a.take g) : Nat), mkL cE_I mE_I a[g].2 (v + (totS cE_Fact (a.take g) : Nat) + 1))) i6 Own.ow) rfl ?_)))))))))))))))))))))))))))))))))))
    exact E.again br (g + 1) ⟨rfl, frI om, rfl, trivial⟩ (permOw (mk_set (c := cE_Fact) (m := mE_Fact) (show g < a.length by omega) rfl)) om om
  · refine En (Et (E.cf rfl (E.exit (E.the (E.the (E.blh (Et (Eq_ (Er (l := [0, 1]) rfl (Emv rfl rfl (Eas rfl rfl (En (Et (E.ret (Ent.cv (congrArg (ow eFacts [_]) (show mkL cE_Fact mE_Fact (a.take g) v ++ a.drop g = mkL cE_Fact mE_Fact a v from by first | exact mk_all om | (rw [totS_all om]))) ?_)))))))))))))))
    exact F.r1 br rfl rfl () trivial (by rw [show (v + (totS cE_Fact a : Nat)) = (v + (totS cE_Fact (a.take g) : Nat)) from (by first | exact mk_all om | (rw [totS_all om]))]; try rfl) (J := _) (.refl _) (.inl rfl)
end Go.Proofs.YtfnagmokplpnjaaGreat
