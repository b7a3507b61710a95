import Derived.Test.YtfnagmokplpnjaaGreatT4
import Derived.Test.YtfnagmokplpnjaaGreatT5
namespace Go.Proofs.YtfnagmokplpnjaaGreat
open Go.RowKit
set_option linter.unusedVariables false
set_option linter.unusedSimpArgs false
set_option maxHeartbeats 2000000
attribute [local irreducible] Nop Yd Yp Ent Has Tr FnP FnP2 Src
theorem t_laws_markFactS {a_a : Option Addr} {m_a c_a : Nat} {a : List (Int × List Int)} {v : Int} : Tr Tryz.prog 36 [.slice a_a m_a c_a, .int .i64 v] (fun w L => 0 ≤ v ∧ v + ((totS cE_Fact a : Nat) : Int) ≤ 4611686018427387904) [ow eFacts [.slice a_a m_a c_a] a] (κ := Unit) (fun k => True) (fun k => .int .i64 (v + (totS cE_Fact a : Nat))) (fun k => [ow eFacts [.slice a_a m_a c_a] (mkL cE_Fact mE_Fact a v)]) := by
  refine Tr.intro Tryz.func36 rfl (n := 27) rfl (by decide +kernel) (Nat.le_of_ble_eq_true rfl) (fr := [(0, .slice a_a m_a c_a), (1, .int .i64 v)]) rfl fun w L hR => ?_
  obtain ⟨as0, as1⟩ := hR
  refine Ent.lenow m0 fun ea la => ?_
  subst ea
  refine E.seq (E.region (l := [0]) rfl (E.y rfl rfl (by decide) ((Y.as rfl).yd) (E.nil (E.thn (E.seq (E.seq (E.region (l := [0]) rfl (E.y rfl rfl (by decide) ((Y.as rfl).yd) (E.nil (E.thn (E.block (E.loop (κ := Nat) (fun g => g ≤ a.length) (fun g => [(0, .slice a_a a.length c_a), (1, .int .i64 (v + (totS cE_Fact (a.take g) : Nat))), (5, .int .i64 (↑g : Int))]) (fun g => [ow eFacts [.slice a_a a.length c_a] (mkL cE_Fact mE_Fact (a.take g) v ++ a.drop g)]) (fun g => a.length - g) 0 (Nat.zero_le _) ⟨rfl, frI (by simp [totS]), rfl, trivial⟩ (.refl _) (fun g pg => ?_)))))))))))))
  have u1 := totS_le (t := cE_Fact) (l := a) (g := g)
  have u2 := totS_le (t := cE_Fact) (l := a) (g := g + 1)
  have hlen : (mkL cE_Fact mE_Fact (a.take g) v ++ a.drop g).length = a.length := by rw [List.length_append, mkL_len, ← List.length_append, List.take_append_drop]
  refine E.seq (E.seq (E.region (l := [0, 1, 2, 3]) rfl (E.y rfl rfl (by decide) ((Y.mv rfl).yd) (E.y rfl rfl (by decide) ((Y.mv rfl).yd) (E.y rfl rfl (by decide) ((Y.len us_Facts rfl).yd) (E.y rfl rfl (by decide) ((Y.lss rfl rfl).yd) (Ent.d (fun q9 => ?_) (fun q9 => ?_))))))))
  · have u3 := totS_step (t := cE_Fact) (show g < a.length by omega)
    have u4 : cE_Fact a[g] = 1 + totS cE_I a[g].2 := rfl
    refine E.nil (E.thn (E.ct rfl (E.skipc (E.thn (E.seq (E.block (E.seq (E.region (l := [0, 1, 2, 3, 4, 5]) rfl (E.y rfl rfl (by decide) ((Y.mv rfl).yd) (E.y rfl rfl (by decide) ((Y.mv rfl).yd) (E.y rfl rfl (by decide) ((Y.mv rfl).yd) (Ent.adr m0 (by omega) fun ab15 ae15 => (Ent.open (x := a[g]) g (mk_get (show g < a.length by omega)) fun ce15 => (Ent.p1 (Ent.oFact fun oa15_1 om15_1 oc15_1 oe15 oi15_0 on15_1 => ?_)))))))))))))))
    subst oe15
    subst on15_1
    refine E.y rfl rfl (by decide) ((Y.ix us_Facts ty_Fact rfl ae15 rfl g rfl (by omega)).yd) (E.y rfl rfl (by decide) ((Y.fld fo_Fact_0 ty_I (by decide) rfl).yd) (Ent.p1 (E.st rfl rfl (N.sth (f := 0) (kk := 2) (vs := [_]) (ce' := [_, _]) ty_I rfl rfl rfl rfl rfl ae15 rfl rfl (Nat.le_of_ble_eq_true rfl) rfl rfl) (fun _ _ => (E.nil (E.thn (E.seq (E.region (l := [0, 1, 2]) rfl (E.y rfl rfl (by decide) ((Y.mv rfl).yd) (E.y rfl rfl (by decide) ((Y.add rfl rfl (by omega) (by omega)).yd) (E.y rfl rfl (by decide) ((Y.as rfl).yd) (E.nil (E.thn (E.region (l := [0, 1, 2, 3, 4, 5, 6, 7]) rfl (E.y rfl rfl (by decide) ((Y.mv rfl).yd) (E.y rfl rfl (by decide) ((Y.mv rfl).yd) (E.y rfl rfl (by decide) ((Y.ix us_Facts ty_Fact rfl ae15 rfl g rfl (by omega)).yd) (E.y rfl rfl (by decide) ((Y.fld fo_Fact_1 ty_Is (by decide) rfl).yd) (E.y rfl rfl (by decide) (Y.ld1 ty_Is rfl ((Has.hole ae15 m0).sub (cs' := [_]) 1 rfl) rfl) (E.y rfl rfl (by decide) ((Y.mv rfl).yd) (Ent.p1 (E.st rfl rfl (N.call (pre := [_]) t_laws_markIntS rfl rfl rfl (by decide) rfl (fun w Lp hA => ⟨(by first | assumption | omega), (by first | assumption | omega)⟩)) (fun _ _ => ?_)))))))))))))))))))))))
    refine E.y rfl rfl (by decide) ((Y.as rfl).yd) (E.nil (E.bln (E.thn (E.region (l := [0, 1, 2]) rfl (E.y rfl rfl (by decide) ((Y.mv rfl).yd) (E.y rfl rfl (by decide) ((Y.add rfl rfl (by omega) (by omega)).yd) (E.y rfl rfl (by decide) ((Y.as rfl).yd) (E.nil (E.thn (Ent.p1 (Ent.shut (Own.mkFact (x := (v + (totS cE_Fact (a.take g) : Nat), mkL cE_I mE_I a[g].2 (v + (totS cE_Fact (a.take g) : Nat) + 1))) (by first | assumption | (unfold I64; (try dsimp only); omega) | grind) Own.ow) rfl ?_)))))))))))
    exact E.again (Back.refl _ _) (g + 1) ⟨rfl, frI (by omega), rfl, trivial⟩ (permOw (mk_set (c := cE_Fact) (m := mE_Fact) (show g < a.length by omega) rfl)) (by omega) (by omega)
  · refine E.nil (E.thn (E.cf rfl (E.exit (E.the (E.the (E.blh (E.thn (E.seq (E.region (l := [0, 1]) rfl (E.y rfl rfl (by decide) ((Y.mv rfl).yd) (E.y rfl rfl (by decide) ((Y.as rfl).yd) (E.nil (E.thn (E.ret (Ent.cv (congrArg (ow eFacts [_]) (show mkL cE_Fact mE_Fact (a.take g) v ++ a.drop g = mkL cE_Fact mE_Fact a v from by first | exact mk_all (by omega) | (rw [totS_all (by omega)]))) ?_)))))))))))))))
    exact F.r1 (Back.refl _ _) rfl rfl () trivial (by rw [show (v + (totS cE_Fact a : Nat)) = (v + (totS cE_Fact (a.take g) : Nat)) from (by first | exact mk_all (by omega) | (rw [totS_all (by omega)]))]; try rfl) (J := _) (.refl _) (.inl rfl)
end Go.Proofs.YtfnagmokplpnjaaGreat
