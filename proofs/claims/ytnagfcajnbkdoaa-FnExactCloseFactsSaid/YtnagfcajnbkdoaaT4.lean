import Derived.Test.YtnagfcajnbkdoaaT1
import Derived.Test.YtnagfcajnbkdoaaDm
namespace Go.Proofs.Ytnagfcajnbkdoaa
open Go.RowKit
set_option linter.unusedVariables false
set_option linter.unusedSimpArgs false
attribute [local irreducible] Nop Yd Yp Ent Has Tr FnP FnP2 Src
theorem t_laws_markIntS {a_a : Option Addr} {m_a c_a : Nat} {a : List Int} {v : Int} : Tr Try.prog 44 [.slice a_a m_a c_a, .int .i64 v] (fun w L => 0 ≤ v ∧ v + ((totS cE_I a : Nat) : Int) ≤ 4611686018427387904) [ow eIs [.slice a_a m_a c_a] a] (κ := Unit) (fun k => True) (fun k => .int .i64 (v + (totS cE_I a : Nat))) (fun k => [ow eIs [.slice a_a m_a c_a] (mkL cE_I mE_I a v)]) := by
  refine Tr.intro Try.func44 rfl (n := 19) rfl (by decide +kernel) (Nat.le_of_ble_eq_true rfl) (fr := [(0, .slice a_a m_a c_a), (1, .int .i64 v)]) rfl fun w L hR => ?_
  obtain ⟨as0, as1⟩ := hR
  refine Ent.lenow m0 fun ea la => ?_
  subst ea
  refine E.seq (E.region (l := [0]) rfl (E.y rfl rfl (by decide) ((Y.as rfl).yd) ?_))
  refine E.nil (E.thn (E.seq (E.seq (E.region (l := [0]) rfl (E.y rfl rfl (by decide) ((Y.as rfl).yd) ?_)))))
  refine E.nil (E.thn (E.block (E.loop (κ := Nat) (fun g => g ≤ a.length) (fun g => [(0, .slice a_a a.length c_a), (1, .int .i64 (v + (totS cE_I (a.take g) : Nat))), (5, .int .i64 (↑g : Int))]) (fun g => [ow eIs [.slice a_a a.length c_a] (mkL cE_I mE_I (a.take g) v ++ a.drop g)]) (fun g => a.length - g) 0 (Nat.zero_le _) ⟨rfl, frI (by simp [totS]), rfl, trivial⟩ (.refl _) (fun g pg => ?_))))
  have u1 := totS_le (t := cE_I) (l := a) (g := g)
  have u2 := totS_le (t := cE_I) (l := a) (g := g + 1)
  have hlen : (mkL cE_I mE_I (a.take g) v ++ a.drop g).length = a.length := by rw [List.length_append, mkL_len, ← List.length_append, List.take_append_drop]
  refine E.seq (E.seq (E.region (l := [0, 1, 2, 3]) rfl (E.y rfl rfl (by decide) ((Y.mv rfl).yd) ?_)))
  refine E.y rfl rfl (by decide) ((Y.mv rfl).yd) ?_
  refine E.y rfl rfl (by decide) ((Y.len us_Is rfl).yd) ?_
  refine E.y rfl rfl (by decide) ((Y.lss rfl rfl).yd) (Ent.d (fun q9 => ?_) (fun q9 => ?_))
  · have u3 := totS_step (t := cE_I) (show g < a.length by omega)
    have u4 : cE_I a[g] = 1 := rfl
    refine E.nil (E.thn (E.ct rfl (E.skipc (E.thn (E.seq (E.block (E.seq (E.region (l := [0, 1, 2, 3, 4]) rfl (E.y rfl rfl (by decide) ((Y.mv rfl).yd) ?_)))))))))
    refine E.y rfl rfl (by decide) ((Y.mv rfl).yd) ?_
    refine E.y rfl rfl (by decide) ((Y.mv rfl).yd) ?_
    refine Ent.adr m0 (by omega) fun ab15 ae15 => ?_
    refine E.y rfl rfl (by decide) ((Y.ix us_Is ty_I rfl ae15 rfl g rfl (by omega)).yd) ?_
    refine E.st rfl rfl (N.set (E := Enc.int) (j := g) (ex := v + (totS cE_I (a.take g) : Nat)) (ce := [_]) ty_I rfl rfl rfl rfl (Own.int (by first | assumption | (unfold I64; (try dsimp only); omega) | grind)) ae15 (Nat.zero_add _) rfl (by simp [mkL_len]; omega)) (fun _ _ => ?_)
    refine E.nil (E.thn (E.region (l := [0, 1, 2]) rfl (E.y rfl rfl (by decide) ((Y.mv rfl).yd) ?_)))
    refine E.y rfl rfl (by decide) ((Y.add rfl rfl (by omega) (by omega)).yd) ?_
    refine E.y rfl rfl (by decide) ((Y.as rfl).yd) ?_
    refine E.nil (E.bln (E.thn (E.region (l := [0, 1, 2]) rfl (E.y rfl rfl (by decide) ((Y.mv rfl).yd) ?_))))
    refine E.y rfl rfl (by decide) ((Y.add rfl rfl (by omega) (by omega)).yd) ?_
    refine E.y rfl rfl (by decide) ((Y.as rfl).yd) ?_
    exact E.nil (E.thn (E.again (Back.refl _ _) (g + 1) ⟨rfl, frI (by omega), rfl, trivial⟩ (permOw (mk_set (c := cE_I) (m := mE_I) (show g < a.length by omega) rfl)) (by omega) (by omega)))
  · refine E.nil (E.thn (E.cf rfl (E.exit (E.the (E.the (E.blh (E.thn (E.seq (E.region (l := [0, 1]) rfl (E.y rfl rfl (by decide) ((Y.mv rfl).yd) ?_))))))))))
    refine E.y rfl rfl (by decide) ((Y.as rfl).yd) ?_
    refine E.nil (E.thn (E.ret (Ent.cv (congrArg (ow eIs [_]) (show mkL cE_I mE_I (a.take g) v ++ a.drop g = mkL cE_I mE_I a v from by first | exact mk_all (by omega) | (rw [totS_all (by omega)]))) ?_)))
    exact F.r1 (Back.refl _ _) rfl rfl () trivial (by rw [show (v + (totS cE_I a : Nat)) = (v + (totS cE_I (a.take g) : Nat)) from (by first | exact mk_all (by omega) | (rw [totS_all (by omega)]))]; try rfl) (J := _) (.refl _) (.inl rfl)
theorem t_laws_heldIntS {a_a : Option Addr} {m_a c_a : Nat} {a : List Int} {v : Int} (hz : mkL cE_I mE_I a v = a) : Tr Try.prog 48 [.slice a_a m_a c_a, .int .i64 v] (fun w L => Ro w L eIs [.slice a_a m_a c_a] a ∧ 0 ≤ v ∧ v + ((totS cE_I a : Nat) : Int) ≤ 4611686018427387904) [] (κ := Unit) (fun k => True) (fun k => .int .i64 (v + (totS cE_I a : Nat))) (fun k => []) := by
  refine Tr.intro Try.func48 rfl (n := 21) rfl (by decide +kernel) (Nat.le_of_ble_eq_true rfl) (fr := [(0, .slice a_a m_a c_a), (1, .int .i64 v)]) rfl fun w L hR => ?_
  obtain ⟨ha, as0, as1⟩ := hR
  obtain ⟨rfl, la⟩ := ha.slen
  refine E.seq (E.region (l := [0]) rfl (E.y rfl rfl (by decide) ((Y.as rfl).yd) ?_))
  refine E.nil (E.thn (E.seq (E.seq (E.region (l := [0]) rfl (E.y rfl rfl (by decide) ((Y.as rfl).yd) ?_)))))
  refine E.nil (E.thn (E.block (E.loop (κ := Nat) (fun g => g ≤ a.length) (fun g => [(0, .slice a_a a.length c_a), (1, .int .i64 (v + (totS cE_I (a.take g) : Nat))), (5, .int .i64 (↑g : Int))]) (fun g => []) (fun g => a.length - g) 0 (Nat.zero_le _) ⟨rfl, frI (by simp [totS]), rfl, trivial⟩ (.refl _) (fun g pg => ?_))))
  have u1 := totS_le (t := cE_I) (l := a) (g := g)
  have u2 := totS_le (t := cE_I) (l := a) (g := g + 1)
  refine E.seq (E.seq (E.region (l := [0, 1, 2, 3]) rfl (E.y rfl rfl (by decide) ((Y.mv rfl).yd) ?_)))
  refine E.y rfl rfl (by decide) ((Y.mv rfl).yd) ?_
  refine E.y rfl rfl (by decide) ((Y.len us_Is rfl).yd) ?_
  refine E.y rfl rfl (by decide) ((Y.lss rfl rfl).yd) (Ent.d (fun q9 => ?_) (fun q9 => ?_))
  · have u3 := totS_step (t := cE_I) (show g < a.length by omega)
    have u4 : cE_I a[g] = 1 := rfl
    refine E.nil (E.thn (E.ct rfl (E.skipc (E.thn (E.seq (E.block (E.seq (E.seq (E.region (l := [0, 1, 2, 3, 4, 5]) rfl (E.y rfl rfl (by decide) ((Y.mv rfl).yd) ?_))))))))))
    refine E.y rfl rfl (by decide) ((Y.mv rfl).yd) ?_
    obtain ⟨eb14, eo14, ea14, ei14, eh14⟩ := ha.elemI g (by omega)
    refine E.y rfl rfl (by decide) ((Y.ix us_Is ty_I rfl ea14 rfl g rfl (by omega)).yd) ?_
    refine E.y rfl rfl (by decide) (Y.ld1 ty_I rfl (eh14 _) rfl) ?_
    refine E.y rfl rfl (by decide) ((Y.mv rfl).yd) ?_
    refine E.y rfl rfl (by decide) ((Y.neq rfl rfl).yd) (Ent.d (fun q17 => ?_) (fun q17 => ?_))
    · exact absurd (mkL_at hz (show g < a.length by omega)).symm q17
    · refine E.nil (E.thn (E.cf rfl (E.skipc (E.thn (E.region (l := [0, 1, 2]) rfl (E.y rfl rfl (by decide) ((Y.mv rfl).yd) ?_))))))
      refine E.y rfl rfl (by decide) ((Y.add rfl rfl (by omega) (by omega)).yd) ?_
      refine E.y rfl rfl (by decide) ((Y.as rfl).yd) ?_
      refine E.nil (E.bln (E.thn (E.region (l := [0, 1, 2]) rfl (E.y rfl rfl (by decide) ((Y.mv rfl).yd) ?_))))
      refine E.y rfl rfl (by decide) ((Y.add rfl rfl (by omega) (by omega)).yd) ?_
      refine E.y rfl rfl (by decide) ((Y.as rfl).yd) ?_
      exact E.nil (E.thn (E.again (Back.refl _ _) (g + 1) ⟨rfl, frI (by omega), rfl, trivial⟩ (.refl _) (by omega) (by omega)))
  · refine E.nil (E.thn (E.cf rfl (E.exit (E.the (E.the (E.blh (E.thn (E.seq (E.region (l := [0, 1]) rfl (E.y rfl rfl (by decide) ((Y.mv rfl).yd) ?_))))))))))
    refine E.y rfl rfl (by decide) ((Y.as rfl).yd) ?_
    exact E.nil (E.thn (E.ret (F.r1 (Back.refl _ _) rfl rfl () trivial (congrArg (Value.int .i64) (by rw [totS_all (by omega)])) (J := _) (.refl _) (.inl rfl))))
theorem t_laws_markRuleS {a_a : Option Addr} {m_a c_a : Nat} {a : List (Int × Int × List Int)} {v : Int} : Tr Try.prog 45 [.slice a_a m_a c_a, .int .i64 v] (fun w L => 0 ≤ v ∧ v + ((totS cE_Rule a : Nat) : Int) ≤ 4611686018427387904) [ow eRules [.slice a_a m_a c_a] a] (κ := Unit) (fun k => True) (fun k => .int .i64 (v + (totS cE_Rule a : Nat))) (fun k => [ow eRules [.slice a_a m_a c_a] (mkL cE_Rule mE_Rule a v)]) := by
  refine Tr.intro Try.func45 rfl (n := 34) rfl (by decide +kernel) (Nat.le_of_ble_eq_true rfl) (fr := [(0, .slice a_a m_a c_a), (1, .int .i64 v)]) rfl fun w L hR => ?_
  obtain ⟨as0, as1⟩ := hR
  refine Ent.lenow m0 fun ea la => ?_
  subst ea
  refine E.seq (E.region (l := [0]) rfl (E.y rfl rfl (by decide) ((Y.as rfl).yd) ?_))
  refine E.nil (E.thn (E.seq (E.seq (E.region (l := [0]) rfl (E.y rfl rfl (by decide) ((Y.as rfl).yd) ?_)))))
  refine E.nil (E.thn (E.block (E.loop (κ := Nat) (fun g => g ≤ a.length) (fun g => [(0, .slice a_a a.length c_a), (1, .int .i64 (v + (totS cE_Rule (a.take g) : Nat))), (5, .int .i64 (↑g : Int))]) (fun g => [ow eRules [.slice a_a a.length c_a] (mkL cE_Rule mE_Rule (a.take g) v ++ a.drop g)]) (fun g => a.length - g) 0 (Nat.zero_le _) ⟨rfl, frI (by simp [totS]), rfl, trivial⟩ (.refl _) (fun g pg => ?_))))
  have u1 := totS_le (t := cE_Rule) (l := a) (g := g)
  have u2 := totS_le (t := cE_Rule) (l := a) (g := g + 1)
  have hlen : (mkL cE_Rule mE_Rule (a.take g) v ++ a.drop g).length = a.length := by rw [List.length_append, mkL_len, ← List.length_append, List.take_append_drop]
  refine E.seq (E.seq (E.region (l := [0, 1, 2, 3]) rfl (E.y rfl rfl (by decide) ((Y.mv rfl).yd) ?_)))
  refine E.y rfl rfl (by decide) ((Y.mv rfl).yd) ?_
  refine E.y rfl rfl (by decide) ((Y.len us_Rules rfl).yd) ?_
  refine E.y rfl rfl (by decide) ((Y.lss rfl rfl).yd) (Ent.d (fun q9 => ?_) (fun q9 => ?_))
  · have u3 := totS_step (t := cE_Rule) (show g < a.length by omega)
    have u4 : cE_Rule a[g] = 1 + 1 + totS cE_I a[g].2.2 := rfl
    refine E.nil (E.thn (E.ct rfl (E.skipc (E.thn (E.seq (E.block (E.seq (E.region (l := [0, 1, 2, 3, 4, 5]) rfl (E.y rfl rfl (by decide) ((Y.mv rfl).yd) ?_)))))))))
    refine E.y rfl rfl (by decide) ((Y.mv rfl).yd) ?_
    refine E.y rfl rfl (by decide) ((Y.mv rfl).yd) ?_
    refine Ent.adr m0 (by omega) fun ab15 ae15 => ?_
    refine Ent.open (x := a[g]) g (mk_get (show g < a.length by omega)) fun ce15 => ?_
    refine Ent.p1 ?_
    refine Ent.oRule fun oa15_2 om15_2 oc15_2 oe15 oi15_0 oi15_1 on15_2 => ?_
    subst oe15
    subst on15_2
    refine E.y rfl rfl (by decide) ((Y.ix us_Rules ty_Rule rfl ae15 rfl g rfl (by omega)).yd) ?_
    refine E.y rfl rfl (by decide) ((Y.fld fo_Rule_0 ty_I (by decide) rfl).yd) ?_
    refine Ent.p1 ?_
    refine E.st rfl rfl (N.sth (f := 0) (kk := 3) (vs := [_]) (ce' := [_, _, _]) ty_I rfl rfl rfl rfl rfl ae15 rfl rfl (Nat.le_of_ble_eq_true rfl) rfl rfl) (fun _ _ => ?_)
    refine E.nil (E.thn (E.seq (E.region (l := [0, 1, 2]) rfl (E.y rfl rfl (by decide) ((Y.mv rfl).yd) ?_))))
    refine E.y rfl rfl (by decide) ((Y.add rfl rfl (by omega) (by omega)).yd) ?_
    refine E.y rfl rfl (by decide) ((Y.as rfl).yd) ?_
    refine E.nil (E.thn (E.seq (E.region (l := [0, 1, 2, 3, 4, 5]) rfl (E.y rfl rfl (by decide) ((Y.mv rfl).yd) ?_))))
    refine E.y rfl rfl (by decide) ((Y.mv rfl).yd) ?_
    refine E.y rfl rfl (by decide) ((Y.mv rfl).yd) ?_
    refine E.y rfl rfl (by decide) ((Y.ix us_Rules ty_Rule rfl ae15 rfl g rfl (by omega)).yd) ?_
    refine E.y rfl rfl (by decide) ((Y.fld fo_Rule_1 ty_I (by decide) rfl).yd) ?_
    refine E.st rfl rfl (N.sth (f := 1) (kk := 3) (vs := [_]) (ce' := [_, _, _]) ty_I rfl rfl rfl rfl rfl ae15 rfl rfl (Nat.le_of_ble_eq_true rfl) rfl rfl) (fun _ _ => ?_)
    refine E.nil (E.thn (E.seq (E.region (l := [0, 1, 2]) rfl (E.y rfl rfl (by decide) ((Y.mv rfl).yd) ?_))))
    refine E.y rfl rfl (by decide) ((Y.add rfl rfl (by omega) (by omega)).yd) ?_
    refine E.y rfl rfl (by decide) ((Y.as rfl).yd) ?_
    refine E.nil (E.thn (E.region (l := [0, 1, 2, 3, 4, 5, 6, 7]) rfl (E.y rfl rfl (by decide) ((Y.mv rfl).yd) ?_)))
    refine E.y rfl rfl (by decide) ((Y.mv rfl).yd) ?_
    refine E.y rfl rfl (by decide) ((Y.ix us_Rules ty_Rule rfl ae15 rfl g rfl (by omega)).yd) ?_
    refine E.y rfl rfl (by decide) ((Y.fld fo_Rule_2 ty_Is (by decide) rfl).yd) ?_
    refine E.y rfl rfl (by decide) (Y.ld1 ty_Is rfl ((Has.hole ae15 m0).sub (cs' := [_]) 2 rfl) rfl) ?_
    refine E.y rfl rfl (by decide) ((Y.mv rfl).yd) ?_
    refine Ent.p1 ?_
    refine E.st rfl rfl (N.call (pre := [_]) t_laws_markIntS rfl rfl rfl (by decide) rfl (fun w Lp hA => ⟨(by first | assumption | omega), (by first | assumption | omega)⟩)) (fun _ _ => ?_)
    refine E.y rfl rfl (by decide) ((Y.as rfl).yd) ?_
    refine E.nil (E.bln (E.thn (E.region (l := [0, 1, 2]) rfl (E.y rfl rfl (by decide) ((Y.mv rfl).yd) ?_))))
    refine E.y rfl rfl (by decide) ((Y.add rfl rfl (by omega) (by omega)).yd) ?_
    refine E.y rfl rfl (by decide) ((Y.as rfl).yd) ?_
    refine E.nil (E.thn (Ent.p1 ?_))
    refine Ent.shut (Own.mkRule (x := (v + (totS cE_Rule (a.take g) : Nat), (v + (totS cE_Rule (a.take g) : Nat) + 1), mkL cE_I mE_I a[g].2.2 ((v + (totS cE_Rule (a.take g) : Nat) + 1) + 1))) (by first | assumption | (unfold I64; (try dsimp only); omega) | grind) (by first | assumption | (unfold I64; (try dsimp only); omega) | grind) Own.ow) rfl ?_
    exact E.again (Back.refl _ _) (g + 1) ⟨rfl, frI (by omega), rfl, trivial⟩ (permOw (mk_set (c := cE_Rule) (m := mE_Rule) (show g < a.length by omega) rfl)) (by omega) (by omega)
  · refine E.nil (E.thn (E.cf rfl (E.exit (E.the (E.the (E.blh (E.thn (E.seq (E.region (l := [0, 1]) rfl (E.y rfl rfl (by decide) ((Y.mv rfl).yd) ?_))))))))))
    refine E.y rfl rfl (by decide) ((Y.as rfl).yd) ?_
    refine E.nil (E.thn (E.ret (Ent.cv (congrArg (ow eRules [_]) (show mkL cE_Rule mE_Rule (a.take g) v ++ a.drop g = mkL cE_Rule mE_Rule a v from by first | exact mk_all (by omega) | (rw [totS_all (by omega)]))) ?_)))
    exact F.r1 (Back.refl _ _) rfl rfl () trivial (by rw [show (v + (totS cE_Rule a : Nat)) = (v + (totS cE_Rule (a.take g) : Nat)) from (by first | exact mk_all (by omega) | (rw [totS_all (by omega)]))]; try rfl) (J := _) (.refl _) (.inl rfl)
theorem t_laws_markFact {a_Rel : Int} {a_a_Values : Option Addr} {m_a_Values c_a_Values : Nat} {a_Values : List Int} {v : Int} : Tr Try.prog 47 [.agg #[.int .i64 a_Rel, .slice a_a_Values m_a_Values c_a_Values], .int .i64 v] (fun w L => I64 a_Rel ∧ 0 ≤ v ∧ v + ((totS cE_I a_Values : Nat) : Int) ≤ 4611686018427387904) [ow eIs [.slice a_a_Values m_a_Values c_a_Values] a_Values] (κ := Unit) (fun k => True) (fun k => .int .i64 (v + ((totS cE_I a_Values : Nat) : Int))) (fun k => [ow eIs [.slice a_a_Values m_a_Values c_a_Values] (mkL cE_I mE_I a_Values v)]) := by
  refine Tr.intro Try.func47 rfl (n := 10) rfl (by decide +kernel) (Nat.le_of_ble_eq_true rfl) (fr := [(0, .agg #[.int .i64 a_Rel, .slice a_a_Values m_a_Values c_a_Values]), (1, .int .i64 v)]) rfl fun w L hR => ?_
  obtain ⟨i6a_Rel, as0, as1⟩ := hR
  refine Ent.lenow m0 fun ea_Values la_Values => ?_
  subst ea_Values
  refine E.seq (E.region (l := [0, 1]) rfl (E.st rfl rfl (N.box (cs := [_, _]) rfl (by decide) rfl) (fun b2 _ => ?_)))
  refine E.y rfl rfl (by decide) ((Y.as rfl).yd) ?_
  refine E.nil (E.thn (E.seq (E.region (l := [0, 1, 2, 3, 4]) rfl (E.y rfl rfl (by decide) ((Y.fld fo_Fact_1 ty_Is (by decide) rfl).yd) ?_))))
  refine E.y rfl rfl (by decide) (Y.ld1 ty_Is rfl ((Has.pt m0).sub (cs' := [_]) 1 rfl) rfl) ?_
  refine E.y rfl rfl (by decide) ((Y.mv rfl).yd) ?_
  refine Ent.p1 ?_
  refine E.st rfl rfl (N.call (pre := [_]) t_laws_markIntS rfl rfl rfl (by decide) rfl (fun w Lp hA => ⟨(by first | assumption | omega), (by first | assumption | omega)⟩)) (fun _ _ => ?_)
  refine E.y rfl rfl (by decide) ((Y.as rfl).yd) ?_
  refine E.nil (E.thn (E.seq (E.region (l := [0, 1]) rfl (E.y rfl rfl (by decide) ((Y.mv rfl).yd) ?_))))
  refine E.y rfl rfl (by decide) ((Y.as rfl).yd) ?_
  exact E.nil (E.thn (E.ret (F.r1 (Back.refl _ _) rfl rfl () trivial (by rw [show (v + ((totS cE_I a_Values : Nat) : Int)) = (v + (totS cE_I a_Values : Nat)) from (by first | rfl | omega)]; try rfl) (J := _) (.refl _) (.inl rfl))))
end Go.Proofs.Ytnagfcajnbkdoaa
