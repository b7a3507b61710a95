import Derived.Test.YtfnagmokplpnjaaGreatT47
import Derived.Test.YtfnagmokplpnjaaGreatT38
import Derived.Test.YtfnagmokplpnjaaGreatT16
namespace Go.Proofs.YtfnagmokplpnjaaGreat
open Go.RowKit
set_option linter.unusedVariables false
set_option linter.unusedSimpArgs false
set_option maxHeartbeats 2000000
attribute [local irreducible] Nop Yd Yp Ent Has Tr FnP FnP2 Src listsF opnF opn1 opnR chainB
theorem t_laws_markLineS {a_a : Option Addr} {m_a c_a : Nat} {a : List (Int × (Int × List Int) × Int × List Int)} {v : Int} : Tr Tryz.prog 113 [.slice a_a m_a c_a, .int .i64 v] (fun w L => 0 ≤ v ∧ v + ((totS cE_Line a : Nat) : Int) ≤ 4611686018427387904) [ow eLines [.slice a_a m_a c_a] a] (κ := Unit) (fun k => True) (fun k => .int .i64 (v + (totS cE_Line a : Nat))) (fun k => [ow eLines [.slice a_a m_a c_a] (mkL cE_Line mE_Line a v)]) := by
  refine Tr.intro Tryz.func113 rfl (n := 52) rfl (by decide +kernel) (Nat.le_of_ble_eq_true rfl) (fr := [(0, .slice a_a m_a c_a), (1, .int .i64 v)]) rfl fun w L hR => ?_
  obtain ⟨as0, as1⟩ := hR
  refine Ent.lenow m0 fun ea la => ?_
  subst ea
  refine E.seq (E.region (l := [0]) rfl (E.y rfl rfl (by decide) ((Y.as rfl).yd) (E.nil (E.thn (E.seq (E.seq (E.region (l := [0]) rfl (E.y rfl rfl (by decide) ((Y.as rfl).yd) (E.nil (E.thn (E.block (E.loop (κ := Nat) (fun g => g ≤ a.length) (fun g => [(0, .slice a_a a.length c_a), (1, .int .i64 (v + (totS cE_Line (a.take g) : Nat))), (5, .int .i64 (↑g : Int))]) (fun g => [ow eLines [.slice a_a a.length c_a] (mkL cE_Line mE_Line (a.take g) v ++ a.drop g)]) (fun g => a.length - g) 0 (Nat.zero_le _) ⟨rfl, frI (by simp [totS]), rfl, trivial⟩ (.refl _) (fun g pg => ?_)))))))))))))
  have u1 := totS_le (t := cE_Line) (l := a) (g := g)
  have u2 := totS_le (t := cE_Line) (l := a) (g := g + 1)
  have hlen : (mkL cE_Line mE_Line (a.take g) v ++ a.drop g).length = a.length := by rw [List.length_append, mkL_len, ← List.length_append, List.take_append_drop]
  refine E.seq (E.seq (E.region (l := [0, 1, 2, 3]) rfl (E.y rfl rfl (by decide) ((Y.mv rfl).yd) (E.y rfl rfl (by decide) ((Y.mv rfl).yd) (E.y rfl rfl (by decide) ((Y.len us_Lines rfl).yd) (E.y rfl rfl (by decide) ((Y.lss rfl rfl).yd) (Ent.d (fun q9 => ?_) (fun q9 => ?_))))))))
  · have u3 := totS_step (t := cE_Line) (show g < a.length by omega)
    have u4 : cE_Line a[g] = 1 + 1 + totS cE_I a[g].2.1.2 + 1 + totS cE_I a[g].2.2.2 := rfl
    refine E.nil (E.thn (E.ct rfl (E.skipc (E.thn (E.seq (E.block (E.seq (E.region (l := [0, 1, 2, 3, 4, 5]) rfl (E.y rfl rfl (by decide) ((Y.mv rfl).yd) (E.y rfl rfl (by decide) ((Y.mv rfl).yd) (E.y rfl rfl (by decide) ((Y.mv rfl).yd) (Ent.adr m0 (by omega) fun ab15 ae15 => (Ent.open (x := a[g]) g (mk_get (show g < a.length by omega)) fun ce15 => (Ent.p1 (Ent.oLine fun oa15_2 om15_2 oc15_2 oa15_4 om15_4 oc15_4 oe15 oi15_0 oi15_1 on15_2 oi15_3 on15_4 => ?_)))))))))))))))
    subst oe15
    subst on15_2
    subst on15_4
    refine E.y rfl rfl (by decide) ((Y.ix us_Lines ty_Line rfl ae15 rfl g rfl (by omega)).yd) (E.y rfl rfl (by decide) ((Y.fld fo_Line_0 ty_I (by decide) rfl).yd) (Ent.p2 (E.st rfl rfl (N.sth (f := 0) (kk := 5) (vs := [_]) (ce' := [_, _, _, _, _]) ty_I rfl rfl rfl rfl rfl ae15 rfl rfl (Nat.le_of_ble_eq_true rfl) rfl rfl) (fun _ _ => (E.nil (E.thn (E.seq (E.region (l := [0, 1, 2]) rfl (E.y rfl rfl (by decide) ((Y.mv rfl).yd) (E.y rfl rfl (by decide) ((Y.add rfl rfl (by omega) (by omega)).yd) (E.y rfl rfl (by decide) ((Y.as rfl).yd) (E.nil (E.thn (E.seq (E.region (l := [0, 1, 2, 3, 4, 5, 6]) rfl (E.y rfl rfl (by decide) ((Y.mv rfl).yd) (E.y rfl rfl (by decide) ((Y.mv rfl).yd) (E.y rfl rfl (by decide) ((Y.mv rfl).yd) (E.y rfl rfl (by decide) ((Y.ix us_Lines ty_Line rfl ae15 rfl g rfl (by omega)).yd) (E.y rfl rfl (by decide) ((Y.fld fo_Line_1 ty_Access (by decide) rfl).yd) (E.y rfl rfl (by decide) ((Y.fld fo_Access_0 ty_I (by decide) rfl).yd) (E.st rfl rfl (N.sth (f := 1) (kk := 5) (vs := [_]) (ce' := [_, _, _, _, _]) ty_I rfl rfl rfl rfl rfl ae15 rfl rfl (Nat.le_of_ble_eq_true rfl) rfl rfl) (fun _ _ => (E.nil (E.thn (E.seq (E.region (l := [0, 1, 2]) rfl (E.y rfl rfl (by decide) ((Y.mv rfl).yd) ?_))))))))))))))))))))))))))))
    refine E.y rfl rfl (by decide) ((Y.add rfl rfl (by omega) (by omega)).yd) (E.y rfl rfl (by decide) ((Y.as rfl).yd) (E.nil (E.thn (E.seq (E.region (l := [0, 1, 2, 3, 4, 5, 6, 7, 8]) rfl (E.y rfl rfl (by decide) ((Y.mv rfl).yd) (E.y rfl rfl (by decide) ((Y.mv rfl).yd) (E.y rfl rfl (by decide) ((Y.ix us_Lines ty_Line rfl ae15 rfl g rfl (by omega)).yd) (E.y rfl rfl (by decide) ((Y.fld fo_Line_1 ty_Access (by decide) rfl).yd) (E.y rfl rfl (by decide) ((Y.fld fo_Access_1 ty_Is (by decide) rfl).yd) (E.y rfl rfl (by decide) (Y.ld1 ty_Is rfl (((Has.hole ae15 m0).sub (cs' := [_, _]) 1 rfl).sub (cs' := [_]) 1 rfl) rfl) (E.y rfl rfl (by decide) ((Y.mv rfl).yd) (Ent.p1 (E.st rfl rfl (N.call (pre := [_]) t_laws_markIntS rfl rfl rfl (by decide) rfl (fun w Lp hA => ⟨(by first | assumption | omega), (by first | assumption | omega)⟩)) (fun _ _ => (E.y rfl rfl (by decide) ((Y.as rfl).yd) (E.nil (E.thn (E.seq (E.region (l := [0, 1, 2, 3, 4, 5, 6]) rfl (E.y rfl rfl (by decide) ((Y.mv rfl).yd) (E.y rfl rfl (by decide) ((Y.mv rfl).yd) (E.y rfl rfl (by decide) ((Y.mv rfl).yd) ?_)))))))))))))))))))))))
    refine E.y rfl rfl (by decide) ((Y.ix us_Lines ty_Line rfl ae15 rfl g rfl (by omega)).yd) (E.y rfl rfl (by decide) ((Y.fld fo_Line_2 ty_Fact (by decide) rfl).yd) (E.y rfl rfl (by decide) ((Y.fld fo_Fact_0 ty_I (by decide) rfl).yd) (Ent.p1 (E.st rfl rfl (N.sth (f := 3) (kk := 5) (vs := [_]) (ce' := [_, _, _, _, _]) ty_I rfl rfl rfl rfl rfl ae15 rfl rfl (Nat.le_of_ble_eq_true rfl) rfl rfl) (fun _ _ => (E.nil (E.thn (E.seq (E.region (l := [0, 1, 2]) rfl (E.y rfl rfl (by decide) ((Y.mv rfl).yd) (E.y rfl rfl (by decide) ((Y.add rfl rfl (by omega) (by omega)).yd) (E.y rfl rfl (by decide) ((Y.as rfl).yd) (E.nil (E.thn (E.region (l := [0, 1, 2, 3, 4, 5, 6, 7, 8]) rfl (E.y rfl rfl (by decide) ((Y.mv rfl).yd) (E.y rfl rfl (by decide) ((Y.mv rfl).yd) (E.y rfl rfl (by decide) ((Y.ix us_Lines ty_Line rfl ae15 rfl g rfl (by omega)).yd) (E.y rfl rfl (by decide) ((Y.fld fo_Line_2 ty_Fact (by decide) rfl).yd) (E.y rfl rfl (by decide) ((Y.fld fo_Fact_1 ty_Is (by decide) rfl).yd) (E.y rfl rfl (by decide) (Y.ld1 ty_Is rfl (((Has.hole ae15 m0).sub (cs' := [_, _]) 3 rfl).sub (cs' := [_]) 1 rfl) rfl) (E.y rfl rfl (by decide) ((Y.mv rfl).yd) ?_))))))))))))))))))))))
    refine Ent.p2 (E.st rfl rfl (N.call (pre := [_]) t_laws_markIntS rfl rfl rfl (by decide) rfl (fun w Lp hA => ⟨(by first | assumption | omega), (by first | assumption | omega)⟩)) (fun _ _ => (E.y rfl rfl (by decide) ((Y.as rfl).yd) (E.nil (E.bln (E.thn (E.region (l := [0, 1, 2]) rfl (E.y rfl rfl (by decide) ((Y.mv rfl).yd) (E.y rfl rfl (by decide) ((Y.add rfl rfl (by omega) (by omega)).yd) (E.y rfl rfl (by decide) ((Y.as rfl).yd) (E.nil (E.thn (Ent.p2 (Ent.p2 (Ent.shut (Own.mkLine (x := (v + (totS cE_Line (a.take g) : Nat), ((v + (totS cE_Line (a.take g) : Nat) + 1), mkL cE_I mE_I a[g].2.1.2 ((v + (totS cE_Line (a.take g) : Nat) + 1) + 1)), (((v + (totS cE_Line (a.take g) : Nat) + 1) + 1) + (totS cE_I a[g].2.1.2 : Nat), mkL cE_I mE_I a[g].2.2.2 (((v + (totS cE_Line (a.take g) : Nat) + 1) + 1) + (totS cE_I a[g].2.1.2 : Nat) + 1)))) (by first | assumption | (unfold I64; (try dsimp only); omega) | grind) (by first | assumption | (unfold I64; (try dsimp only); omega) | grind) Own.ow (by first | assumption | (unfold I64; (try dsimp only); omega) | grind) Own.ow) rfl ?_)))))))))))))))
    exact E.again (Back.refl _ _) (g + 1) ⟨rfl, frI (by omega), rfl, trivial⟩ (permOw (mk_set (c := cE_Line) (m := mE_Line) (show g < a.length by omega) rfl)) (by omega) (by omega)
  · refine E.nil (E.thn (E.cf rfl (E.exit (E.the (E.the (E.blh (E.thn (E.seq (E.region (l := [0, 1]) rfl (E.y rfl rfl (by decide) ((Y.mv rfl).yd) (E.y rfl rfl (by decide) ((Y.as rfl).yd) (E.nil (E.thn (E.ret (Ent.cv (congrArg (ow eLines [_]) (show mkL cE_Line mE_Line (a.take g) v ++ a.drop g = mkL cE_Line mE_Line a v from by first | exact mk_all (by omega) | (rw [totS_all (by omega)]))) ?_)))))))))))))))
    exact F.r1 (Back.refl _ _) rfl rfl () trivial (by rw [show (v + (totS cE_Line a : Nat)) = (v + (totS cE_Line (a.take g) : Nat)) from (by first | exact mk_all (by omega) | (rw [totS_all (by omega)]))]; try rfl) (J := _) (.refl _) (.inl rfl)
theorem t_laws_heldLineS {a_a : Option Addr} {m_a c_a : Nat} {a : List (Int × (Int × List Int) × Int × List Int)} {v : Int} (hz : mkL cE_Line mE_Line a v = a) : Tr Tryz.prog 114 [.slice a_a m_a c_a, .int .i64 v] (fun w L => Ro w L eLines [.slice a_a m_a c_a] a ∧ 0 ≤ v ∧ v + ((totS cE_Line a : Nat) : Int) ≤ 4611686018427387904) [] (κ := Unit) (fun k => True) (fun k => .int .i64 (v + (totS cE_Line a : Nat))) (fun k => []) := by
  refine Tr.intro Tryz.func114 rfl (n := 62) rfl (by decide +kernel) (Nat.le_of_ble_eq_true rfl) (fr := [(0, .slice a_a m_a c_a), (1, .int .i64 v)]) rfl fun w L hR => ?_
  obtain ⟨ha, as0, as1⟩ := hR
  obtain ⟨rfl, la⟩ := ha.slen
  refine E.seq (E.region (l := [0]) rfl (E.y rfl rfl (by decide) ((Y.as rfl).yd) (E.nil (E.thn (E.seq (E.seq (E.region (l := [0]) rfl (E.y rfl rfl (by decide) ((Y.as rfl).yd) (E.nil (E.thn (E.block (E.loop (κ := Nat) (fun g => g ≤ a.length) (fun g => [(0, .slice a_a a.length c_a), (1, .int .i64 (v + (totS cE_Line (a.take g) : Nat))), (5, .int .i64 (↑g : Int))]) (fun g => []) (fun g => a.length - g) 0 (Nat.zero_le _) ⟨rfl, frI (by simp [totS]), rfl, trivial⟩ (.refl _) (fun g pg => ?_)))))))))))))
  have u1 := totS_le (t := cE_Line) (l := a) (g := g)
  have u2 := totS_le (t := cE_Line) (l := a) (g := g + 1)
  refine E.seq (E.seq (E.region (l := [0, 1, 2, 3]) rfl (E.y rfl rfl (by decide) ((Y.mv rfl).yd) (E.y rfl rfl (by decide) ((Y.mv rfl).yd) (E.y rfl rfl (by decide) ((Y.len us_Lines rfl).yd) (E.y rfl rfl (by decide) ((Y.lss rfl rfl).yd) (Ent.d (fun q9 => ?_) (fun q9 => ?_))))))))
  · have u3 := totS_step (t := cE_Line) (show g < a.length by omega)
    have u4 : cE_Line a[g] = 1 + 1 + totS cE_I a[g].2.1.2 + 1 + totS cE_I a[g].2.2.2 := rfl
    refine E.nil (E.thn (E.ct rfl (E.skipc (E.thn (E.seq (E.block (E.seq (E.seq (E.region (l := [0, 1, 2, 3, 4, 5, 6]) rfl (E.y rfl rfl (by decide) ((Y.mv rfl).yd) (E.y rfl rfl (by decide) ((Y.mv rfl).yd) ?_)))))))))))
    obtain ⟨eb14, eo14, ec14, ea14, er14, el14, eh14⟩ := ha.elem g (by omega)
    obtain ⟨xa14_0, xc14_0, xa14_1, xc14_1, rfl, ei14_0, ei14_1, xh14_0, ei14_3, xh14_1⟩ := Ro.pLine er14
    have := xh14_0.slen.2
    have := xh14_1.slen.2
    refine E.y rfl rfl (by decide) ((Y.ix us_Lines ty_Line rfl ea14 rfl g rfl (by omega)).yd) (E.y rfl rfl (by decide) ((Y.fld fo_Line_0 ty_I (by decide) rfl).yd) (E.y rfl rfl (by decide) (Y.ld1 ty_I rfl ((eh14 _).sub (cs' := [_]) 0 rfl) rfl) (E.y rfl rfl (by decide) ((Y.mv rfl).yd) (E.y rfl rfl (by decide) ((Y.neq rfl rfl).yd) (Ent.d (fun q18 => ?_) (fun q18 => ?_))))))
    · exact absurd (congrArg (fun z => z.1) (mkL_at hz (show g < a.length by omega))).symm q18
    · refine E.nil (E.thn (E.cf rfl (E.skipc (E.thn (E.seq (E.region (l := [0, 1, 2]) rfl (E.y rfl rfl (by decide) ((Y.mv rfl).yd) (E.y rfl rfl (by decide) ((Y.add rfl rfl (by omega) (by omega)).yd) (E.y rfl rfl (by decide) ((Y.as rfl).yd) (E.nil (E.thn (E.seq (E.seq (E.region (l := [0, 1, 2, 3, 4, 5, 6, 7]) rfl (E.y rfl rfl (by decide) ((Y.mv rfl).yd) (E.y rfl rfl (by decide) ((Y.mv rfl).yd) (E.y rfl rfl (by decide) ((Y.ix us_Lines ty_Line rfl ea14 rfl g rfl (by omega)).yd) (E.y rfl rfl (by decide) ((Y.fld fo_Line_1 ty_Access (by decide) rfl).yd) (E.y rfl rfl (by decide) ((Y.fld fo_Access_0 ty_I (by decide) rfl).yd) (E.y rfl rfl (by decide) (Y.ld1 ty_I rfl (((eh14 _).sub (cs' := [_, _]) 1 rfl).sub (cs' := [_]) 0 rfl) rfl) (E.y rfl rfl (by decide) ((Y.mv rfl).yd) (E.y rfl rfl (by decide) ((Y.neq rfl rfl).yd) (Ent.d (fun q28 => ?_) (fun q28 => ?_))))))))))))))))))))))))
      · exact absurd (congrArg (fun z => z.2.1.1) (mkL_at hz (show g < a.length by omega))).symm q28
      · refine E.nil (E.thn (E.cf rfl (E.skipc (E.thn (E.seq (E.region (l := [0, 1, 2]) rfl (E.y rfl rfl (by decide) ((Y.mv rfl).yd) (E.y rfl rfl (by decide) ((Y.add rfl rfl (by omega) (by omega)).yd) (E.y rfl rfl (by decide) ((Y.as rfl).yd) (E.nil (E.thn (E.seq (E.region (l := [0, 1, 2, 3, 4, 5, 6, 7, 8]) rfl (E.y rfl rfl (by decide) ((Y.mv rfl).yd) (E.y rfl rfl (by decide) ((Y.mv rfl).yd) (E.y rfl rfl (by decide) ((Y.ix us_Lines ty_Line rfl ea14 rfl g rfl (by omega)).yd) (E.y rfl rfl (by decide) ((Y.fld fo_Line_1 ty_Access (by decide) rfl).yd) (E.y rfl rfl (by decide) ((Y.fld fo_Access_1 ty_Is (by decide) rfl).yd) (E.y rfl rfl (by decide) (Y.ld1 ty_Is rfl (((eh14 _).sub (cs' := [_, _]) 1 rfl).sub (cs' := [_]) 1 rfl) rfl) (E.y rfl rfl (by decide) ((Y.mv rfl).yd) (E.st rfl rfl (N.call0 (t_laws_heldIntS (congrArg (fun z => z.2.1.2) (mkL_at hz (show g < a.length by omega)))) rfl rfl rfl (by decide) (fun w Lp hA => ⟨hA.ro xh14_0, (by first | assumption | omega), (by first | assumption | omega)⟩)) (fun _ _ => (E.y rfl rfl (by decide) ((Y.as rfl).yd) (E.nil (E.thn (E.seq (E.seq (E.region (l := [0, 1]) rfl (E.y rfl rfl (by decide) ((Y.mv rfl).yd) (E.y rfl rfl (by decide) ((Y.lss rfl rfl).yd) (Ent.d (fun q40 => ?_) (fun q40 => ?_))))))))))))))))))))))))))))))))
        · exact absurd q40 (by omega)
        · refine E.nil (E.thn (E.cf rfl (E.skipc (E.thn (E.seq (E.seq (E.region (l := [0, 1, 2, 3, 4, 5, 6, 7]) rfl (E.y rfl rfl (by decide) ((Y.mv rfl).yd) (E.y rfl rfl (by decide) ((Y.mv rfl).yd) (E.y rfl rfl (by decide) ((Y.ix us_Lines ty_Line rfl ea14 rfl g rfl (by omega)).yd) (E.y rfl rfl (by decide) ((Y.fld fo_Line_2 ty_Fact (by decide) rfl).yd) (E.y rfl rfl (by decide) ((Y.fld fo_Fact_0 ty_I (by decide) rfl).yd) (E.y rfl rfl (by decide) (Y.ld1 ty_I rfl (((eh14 _).sub (cs' := [_, _]) 3 rfl).sub (cs' := [_]) 0 rfl) rfl) (E.y rfl rfl (by decide) ((Y.mv rfl).yd) (E.y rfl rfl (by decide) ((Y.neq rfl rfl).yd) (Ent.d (fun q48 => ?_) (fun q48 => ?_)))))))))))))))))
          · exact absurd (congrArg (fun z => z.2.2.1) (mkL_at hz (show g < a.length by omega))).symm q48
          · refine E.nil (E.thn (E.cf rfl (E.skipc (E.thn (E.seq (E.region (l := [0, 1, 2]) rfl (E.y rfl rfl (by decide) ((Y.mv rfl).yd) (E.y rfl rfl (by decide) ((Y.add rfl rfl (by omega) (by omega)).yd) (E.y rfl rfl (by decide) ((Y.as rfl).yd) (E.nil (E.thn (E.seq (E.region (l := [0, 1, 2, 3, 4, 5, 6, 7, 8]) rfl (E.y rfl rfl (by decide) ((Y.mv rfl).yd) (E.y rfl rfl (by decide) ((Y.mv rfl).yd) (E.y rfl rfl (by decide) ((Y.ix us_Lines ty_Line rfl ea14 rfl g rfl (by omega)).yd) (E.y rfl rfl (by decide) ((Y.fld fo_Line_2 ty_Fact (by decide) rfl).yd) (E.y rfl rfl (by decide) ((Y.fld fo_Fact_1 ty_Is (by decide) rfl).yd) (E.y rfl rfl (by decide) (Y.ld1 ty_Is rfl (((eh14 _).sub (cs' := [_, _]) 3 rfl).sub (cs' := [_]) 1 rfl) rfl) (E.y rfl rfl (by decide) ((Y.mv rfl).yd) (E.st rfl rfl (N.call0 (t_laws_heldIntS (congrArg (fun z => z.2.2.2) (mkL_at hz (show g < a.length by omega)))) rfl rfl rfl (by decide) (fun w Lp hA => ⟨hA.ro xh14_1, (by first | assumption | omega), (by first | assumption | omega)⟩)) (fun _ _ => (E.y rfl rfl (by decide) ((Y.as rfl).yd) (E.nil (E.thn (E.seq (E.region (l := [0, 1]) rfl (E.y rfl rfl (by decide) ((Y.mv rfl).yd) (E.y rfl rfl (by decide) ((Y.lss rfl rfl).yd) (Ent.d (fun q60 => ?_) (fun q60 => ?_)))))))))))))))))))))))))))))))
            · exact absurd q60 (by omega)
            · refine E.nil (E.thn (E.cf rfl (E.skipc (E.bln (E.thn (E.region (l := [0, 1, 2]) rfl (E.y rfl rfl (by decide) ((Y.mv rfl).yd) (E.y rfl rfl (by decide) ((Y.add rfl rfl (by omega) (by omega)).yd) (E.y rfl rfl (by decide) ((Y.as rfl).yd) ?_)))))))))
              exact E.nil (E.thn (E.again (Back.refl _ _) (g + 1) ⟨rfl, frI (by omega), rfl, trivial⟩ (.refl _) (by omega) (by omega)))
  · refine E.nil (E.thn (E.cf rfl (E.exit (E.the (E.the (E.blh (E.thn (E.seq (E.region (l := [0, 1]) rfl (E.y rfl rfl (by decide) ((Y.mv rfl).yd) (E.y rfl rfl (by decide) ((Y.as rfl).yd) ?_)))))))))))
    exact E.nil (E.thn (E.ret (F.r1 (Back.refl _ _) rfl rfl () trivial (congrArg (Value.int .i64) (by rw [totS_all (by omega)])) (J := _) (.refl _) (.inl rfl))))
theorem t_laws_markProof {a_a_Lines : Option Addr} {m_a_Lines c_a_Lines : Nat} {a_Lines : List (Int × (Int × List Int) × Int × List Int)} {v : Int} : Tr Tryz.prog 48 [.agg #[.slice a_a_Lines m_a_Lines c_a_Lines], .int .i64 v] (fun w L => 0 ≤ v ∧ v + ((totS cE_Line a_Lines : Nat) : Int) ≤ 4611686018427387904) [ow eLines [.slice a_a_Lines m_a_Lines c_a_Lines] a_Lines] (κ := Unit) (fun k => True) (fun k => .int .i64 (v + ((totS cE_Line a_Lines : Nat) : Int))) (fun k => [ow eLines [.slice a_a_Lines m_a_Lines c_a_Lines] (mkL cE_Line mE_Line a_Lines v)]) := by
  refine Tr.intro Tryz.func48 rfl (n := 10) rfl (by decide +kernel) (Nat.le_of_ble_eq_true rfl) (fr := [(0, .agg #[.slice a_a_Lines m_a_Lines c_a_Lines]), (1, .int .i64 v)]) rfl fun w L hR => ?_
  obtain ⟨as0, as1⟩ := hR
  refine Ent.lenow m0 fun ea_Lines la_Lines => ?_
  subst ea_Lines
  refine E.seq (E.region (l := [0, 1]) rfl (E.st rfl rfl (N.box (cs := [_]) rfl (by decide) rfl) (fun b2 _ => (E.y rfl rfl (by decide) ((Y.as rfl).yd) (E.nil (E.thn (E.seq (E.region (l := [0, 1, 2, 3, 4]) rfl (E.y rfl rfl (by decide) ((Y.fld fo_Proof_0 ty_Lines (by decide) rfl).yd) (E.y rfl rfl (by decide) (Y.ld1 ty_Lines rfl ((Has.pt m0).sub (cs' := [_]) 0 rfl) rfl) (E.y rfl rfl (by decide) ((Y.mv rfl).yd) (Ent.p1 (E.st rfl rfl (N.call (pre := [_]) t_laws_markLineS rfl rfl rfl (by decide) rfl (fun w Lp hA => ⟨(by first | assumption | omega), (by first | assumption | omega)⟩)) (fun _ _ => (E.y rfl rfl (by decide) ((Y.as rfl).yd) (E.nil (E.thn (E.seq (E.region (l := [0, 1]) rfl (E.y rfl rfl (by decide) ((Y.mv rfl).yd) (E.y rfl rfl (by decide) ((Y.as rfl).yd) ?_)))))))))))))))))))))
  exact E.nil (E.thn (E.ret (F.r1 (Back.refl _ _) rfl rfl () trivial (by rw [show (v + ((totS cE_Line a_Lines : Nat) : Int)) = (v + (totS cE_Line a_Lines : Nat)) from (by first | rfl | omega | (congr 1; omega))]; try rfl) (J := _) (.refl _) (.inl rfl))))
theorem t_laws_heldProof {a_a_Lines : Option Addr} {m_a_Lines c_a_Lines : Nat} {a_Lines : List (Int × (Int × List Int) × Int × List Int)} {v : Int} (hz0 : mkL cE_Line mE_Line a_Lines v = a_Lines) : Tr Tryz.prog 49 [.agg #[.slice a_a_Lines m_a_Lines c_a_Lines], .int .i64 v] (fun w L => Ro w L eLines [.slice a_a_Lines m_a_Lines c_a_Lines] a_Lines ∧ 0 ≤ v ∧ v + ((totS cE_Line a_Lines : Nat) : Int) ≤ 4611686018427387904) [] (κ := Unit) (fun k => True) (fun k => .int .i64 (v + ((totS cE_Line a_Lines : Nat) : Int))) (fun k => []) := by
  refine Tr.intro Tryz.func49 rfl (n := 12) rfl (by decide +kernel) (Nat.le_of_ble_eq_true rfl) (fr := [(0, .agg #[.slice a_a_Lines m_a_Lines c_a_Lines]), (1, .int .i64 v)]) rfl fun w L hR => ?_
  obtain ⟨ha_Lines, as0, as1⟩ := hR
  obtain ⟨rfl, la_Lines⟩ := ha_Lines.slen
  refine E.seq (E.region (l := [0, 1]) rfl (E.st rfl rfl (N.box (cs := [_]) rfl (by decide) rfl) (fun b2 _ => (E.y rfl rfl (by decide) ((Y.as rfl).yd) (E.nil (E.thn (E.seq (E.region (l := [0, 1, 2, 3, 4]) rfl (E.y rfl rfl (by decide) ((Y.fld fo_Proof_0 ty_Lines (by decide) rfl).yd) (E.y rfl rfl (by decide) (Y.ld1 ty_Lines rfl ((Has.pt m0).sub (cs' := [_]) 0 rfl) rfl) (E.y rfl rfl (by decide) ((Y.mv rfl).yd) (E.st rfl rfl (N.call0 (t_laws_heldLineS (by first | omega | assumption | (constructor <;> omega))) rfl rfl rfl (by decide) (fun w Lp hA => ⟨hA.ro ha_Lines, (by first | assumption | omega), (by first | assumption | omega)⟩)) (fun _ _ => (E.y rfl rfl (by decide) ((Y.as rfl).yd) (E.nil (E.thn (E.seq (E.seq (E.region (l := [0, 1]) rfl (E.y rfl rfl (by decide) ((Y.mv rfl).yd) (E.y rfl rfl (by decide) ((Y.lss rfl rfl).yd) (Ent.d (fun q10 => ?_) (fun q10 => ?_)))))))))))))))))))))))
  · exact absurd q10 (by omega)
  · refine E.nil (E.thn (E.cf rfl (E.skipc (E.thn (E.seq (E.region (l := [0, 1]) rfl (E.y rfl rfl (by decide) ((Y.mv rfl).yd) (E.y rfl rfl (by decide) ((Y.as rfl).yd) ?_))))))))
    exact E.nil (E.thn (E.ret (F.r1 (Back.refl _ _) rfl rfl () trivial (congrArg (Value.int .i64) (by first | rfl | omega)) (J := _) (.refl _) (.inl rfl))))
theorem t_laws_FnExactProveReach {a_aS : Option Addr} {m_aS c_aS : Nat} {aS : List Int} {a_aL : Option Addr} {m_aL c_aL : Nat} {aL : List (Int × List Int × Int × Int × Int)} {a_aRules : Option Addr} {m_aRules c_aRules : Nat} {aRules : List (Int × Int × List Int)} {a_aFacts : Option Addr} {m_aFacts c_aFacts : Nat} {aFacts : List (Int × List Int)} {a_aSeeds : Option Addr} {m_aSeeds c_aSeeds : Nat} {aSeeds : List Int} {aF_Rel : Int} {a_aF_Values : Option Addr} {m_aF_Values c_aF_Values : Nat} {aF_Values : List Int} : Tr Tryz.prog 7 [.slice a_aS m_aS c_aS, .slice a_aL m_aL c_aL, .slice a_aRules m_aRules c_aRules, .slice a_aFacts m_aFacts c_aFacts, .slice a_aSeeds m_aSeeds c_aSeeds, .agg #[.int .i64 aF_Rel, .slice a_aF_Values m_aF_Values c_aF_Values]] (fun w L => Ro w L eIs [.slice a_aS m_aS c_aS] aS ∧ Ro w L eMethods [.slice a_aL m_aL c_aL] aL ∧ Ro w L eRules [.slice a_aRules m_aRules c_aRules] aRules ∧ Ro w L eFacts [.slice a_aFacts m_aFacts c_aFacts] aFacts ∧ Ro w L eIs [.slice a_aSeeds m_aSeeds c_aSeeds] aSeeds ∧ I64 aF_Rel ∧ Ro w L eIs [.slice a_aF_Values m_aF_Values c_aF_Values] aF_Values) [] (κ := Unit) (fun k => True) (fun k => .bool (true)) (fun k => []) := by
  refine Tr.intro Tryz.func7 rfl (n := 207) rfl (by decide +kernel) (Nat.le_of_ble_eq_true rfl) (fr := [(0, .slice a_aS m_aS c_aS), (1, .slice a_aL m_aL c_aL), (2, .slice a_aRules m_aRules c_aRules), (3, .slice a_aFacts m_aFacts c_aFacts), (4, .slice a_aSeeds m_aSeeds c_aSeeds), (5, .agg #[.int .i64 aF_Rel, .slice a_aF_Values m_aF_Values c_aF_Values])]) rfl fun w L hR => ?_
  obtain ⟨haS, haL, haRules, haFacts, haSeeds, i6aF_Rel, haF_Values⟩ := hR
  obtain ⟨rfl, laS⟩ := haS.slen
  obtain ⟨rfl, laL⟩ := haL.slen
  obtain ⟨rfl, laRules⟩ := haRules.slen
  obtain ⟨rfl, laFacts⟩ := haFacts.slen
  obtain ⟨rfl, laSeeds⟩ := haSeeds.slen
  obtain ⟨rfl, laF_Values⟩ := haF_Values.slen
  have jb_aS := totS_I (l := aS)
  have jb_aL := totS_lin (c := cE_Method) (t := (fun x => x.2.1.length)) (n := 4) (fun x => by simp only [cE_Method, totS_I]; omega) (l := aL)
  have jc_aL : totL (fun x => x.2.1.length) aL = aL.length + totS (fun x => x.2.1.length) aL := rfl
  have jb_aRules := totS_lin (c := cE_Rule) (t := (fun x => x.2.2.length)) (n := 2) (fun x => by simp only [cE_Rule, totS_I]; omega) (l := aRules)
  have jc_aRules : totL (fun x => x.2.2.length) aRules = aRules.length + totS (fun x => x.2.2.length) aRules := rfl
  have jb_aFacts := totS_lin (c := cE_Fact) (t := (fun x => x.2.length)) (n := 1) (fun x => by simp only [cE_Fact, totS_I]; omega) (l := aFacts)
  have jc_aFacts : totL (fun x => x.2.length) aFacts = aFacts.length + totS (fun x => x.2.length) aFacts := rfl
  have jb_aSeeds := totS_I (l := aSeeds)
  have jb_aF_Values := totS_I (l := aF_Values)
  have r1 := prvL_tot (s := aS) (l := aL) (rules := aRules) (facts := aFacts) (seeds := aSeeds) (f := (aF_Rel, aF_Values))
  refine E.seq (E.region (l := [0, 1]) rfl (E.st rfl rfl (N.box (cs := [_, _]) rfl (by decide) rfl) (fun b11 _ => (E.y rfl rfl (by decide) ((Y.as rfl).yd) (E.nil (E.thn (E.seq (E.seq (E.region (l := [0, 1, 2]) rfl (E.y rfl rfl (by decide) ((Y.mv rfl).yd) (E.y rfl rfl (by decide) ((Y.len us_Is rfl).yd) (E.y rfl rfl (by decide) ((Y.gtr rfl rfl).yd) (Ent.d (fun q31 => ?_) (fun q31 => ?_))))))))))))))
  · refine E.nil (E.thn (E.ct rfl (E.seq (E.region (l := [0]) rfl (E.y rfl rfl (by decide) ((Y.as rfl).yd) ?_)))))
    exact E.nil (E.thn (E.ret (E.thr (F.r1 (Back.refl _ _) rfl rfl () trivial rfl (J := _) (.refl _) (.inl rfl)))))
  · refine E.nil (E.thn (E.cf rfl (E.skipc (E.thn (E.seq (E.seq (E.region (l := [0, 1, 2]) rfl (E.y rfl rfl (by decide) ((Y.mv rfl).yd) (E.y rfl rfl (by decide) ((Y.len us_Is rfl).yd) (E.y rfl rfl (by decide) ((Y.gtr rfl rfl).yd) (Ent.d (fun q34 => ?_) (fun q34 => ?_))))))))))))
    · refine E.nil (E.thn (E.ct rfl (E.seq (E.region (l := [0]) rfl (E.y rfl rfl (by decide) ((Y.as rfl).yd) ?_)))))
      exact E.nil (E.thn (E.ret (E.thr (F.r1 (Back.refl _ _) rfl rfl () trivial rfl (J := _) (.refl _) (.inl rfl)))))
    · refine E.nil (E.thn (E.cf rfl (E.skipc (E.thn (E.seq (E.region (l := [0]) rfl (E.y rfl rfl (by decide) ((Y.as rfl).yd) (E.nil (E.thn (E.seq (E.region (l := [0, 1, 2, 3]) rfl (E.y rfl rfl (by decide) ((Y.mv rfl).yd) (E.y rfl rfl (by decide) ((Y.mv rfl).yd) (E.st rfl rfl (N.call0 t_laws_szMethodS rfl rfl rfl (by decide) (fun w Lp hA => ⟨hA.ro haL, (by first | assumption | omega), (by first | assumption | omega)⟩)) (fun _ _ => (E.y rfl rfl (by decide) ((Y.as rfl).yd) (E.nil (E.thn (E.seq (E.seq (E.region (l := [0, 1]) rfl (E.y rfl rfl (by decide) ((Y.mv rfl).yd) (E.y rfl rfl (by decide) ((Y.lss rfl rfl).yd) (Ent.d (fun q39 => ?_) (fun q39 => ?_)))))))))))))))))))))))))
      · have z39 := szR_bad q39 (by omega)
        refine E.nil (E.thn (E.ct rfl (E.seq (E.region (l := [0]) rfl (E.y rfl rfl (by decide) ((Y.as rfl).yd) ?_)))))
        exact E.nil (E.thn (E.ret (E.thr (F.r1 (Back.refl _ _) rfl rfl () trivial rfl (J := _) (.refl _) (.inl rfl)))))
      · obtain ⟨z39, y39⟩ := szR_ok q39 (by omega)
        refine E.nil (E.thn (E.cf rfl (E.skipc (E.thn (E.seq (E.region (l := [0, 1, 2, 3]) rfl (E.y rfl rfl (by decide) ((Y.mv rfl).yd) (E.y rfl rfl (by decide) ((Y.mv rfl).yd) (E.st rfl rfl (N.call0 t_laws_szRuleS rfl rfl rfl (by decide) (fun w Lp hA => ⟨hA.ro haRules, (by first | assumption | omega), (by first | assumption | omega)⟩)) (fun _ _ => (E.y rfl rfl (by decide) ((Y.as rfl).yd) (E.nil (E.thn (E.seq (E.seq (E.region (l := [0, 1]) rfl (E.y rfl rfl (by decide) ((Y.mv rfl).yd) (E.y rfl rfl (by decide) ((Y.lss rfl rfl).yd) (Ent.d (fun q44 => ?_) (fun q44 => ?_))))))))))))))))))))
        · have z44 := szR_bad q44 (by omega)
          refine E.nil (E.thn (E.ct rfl (E.seq (E.region (l := [0]) rfl (E.y rfl rfl (by decide) ((Y.as rfl).yd) ?_)))))
          exact E.nil (E.thn (E.ret (E.thr (F.r1 (Back.refl _ _) rfl rfl () trivial rfl (J := _) (.refl _) (.inl rfl)))))
        · obtain ⟨z44, y44⟩ := szR_ok q44 (by omega)
          refine E.nil (E.thn (E.cf rfl (E.skipc (E.thn (E.seq (E.region (l := [0, 1, 2, 3]) rfl (E.y rfl rfl (by decide) ((Y.mv rfl).yd) (E.y rfl rfl (by decide) ((Y.mv rfl).yd) (E.st rfl rfl (N.call0 t_laws_szFactS rfl rfl rfl (by decide) (fun w Lp hA => ⟨hA.ro haFacts, (by first | assumption | omega), (by first | assumption | omega)⟩)) (fun _ _ => (E.y rfl rfl (by decide) ((Y.as rfl).yd) (E.nil (E.thn (E.seq (E.seq (E.region (l := [0, 1]) rfl (E.y rfl rfl (by decide) ((Y.mv rfl).yd) (E.y rfl rfl (by decide) ((Y.lss rfl rfl).yd) (Ent.d (fun q49 => ?_) (fun q49 => ?_))))))))))))))))))))
          · have z49 := szR_bad q49 (by omega)
            refine E.nil (E.thn (E.ct rfl (E.seq (E.region (l := [0]) rfl (E.y rfl rfl (by decide) ((Y.as rfl).yd) ?_)))))
            exact E.nil (E.thn (E.ret (E.thr (F.r1 (Back.refl _ _) rfl rfl () trivial rfl (J := _) (.refl _) (.inl rfl)))))
          · obtain ⟨z49, y49⟩ := szR_ok q49 (by omega)
            refine E.nil (E.thn (E.cf rfl (E.skipc (E.thn (E.seq (E.region (l := [0, 1, 2, 3]) rfl (E.y rfl rfl (by decide) (Y.ldS (cs := [_, _]) ty_lFact rfl (Has.pt m0) rfl) (E.y rfl rfl (by decide) ((Y.mv rfl).yd) (E.st rfl rfl (N.call0 t_laws_szFact rfl rfl rfl (by decide) (fun w Lp hA => ⟨i6aF_Rel, hA.ro haF_Values, (by first | assumption | omega), (by first | assumption | omega)⟩)) (fun _ _ => (E.y rfl rfl (by decide) ((Y.as rfl).yd) (E.nil (E.thn (E.seq (E.seq (E.region (l := [0, 1]) rfl (E.y rfl rfl (by decide) ((Y.mv rfl).yd) (E.y rfl rfl (by decide) ((Y.lss rfl rfl).yd) (Ent.d (fun q54 => ?_) (fun q54 => ?_))))))))))))))))))))
            · have z54 := szR_bad q54 (by omega)
              refine E.nil (E.thn (E.ct rfl (E.seq (E.region (l := [0]) rfl (E.y rfl rfl (by decide) ((Y.as rfl).yd) ?_)))))
              exact E.nil (E.thn (E.ret (E.thr (F.r1 (Back.refl _ _) rfl rfl () trivial rfl (J := _) (.refl _) (.inl rfl)))))
            · obtain ⟨z54, y54⟩ := szR_ok q54 (by omega)
              refine E.nil (E.thn (E.cf rfl (E.skipc (E.thn (E.seq (E.mid (κ := Nat × Option Addr × Nat) (fun _ => True) (fun kM => [(0, .slice a_aS aS.length c_aS), (1, .slice a_aL aL.length c_aL), (2, .slice a_aRules aRules.length c_aRules), (3, .slice a_aFacts aFacts.length c_aFacts), (4, .slice a_aSeeds aSeeds.length c_aSeeds), (11, .pointer (some ⟨b11, 0, none⟩)), (14, .pointer (some ⟨kM.1, 0, none⟩)), (15, .bool (prvB aS aL aRules aFacts aSeeds (aF_Rel, aF_Values)))]) (fun kM => [pt kM.1 48 [.slice kM.2.1 (prvL aS aL aRules aFacts aSeeds (aF_Rel, aF_Values)).length kM.2.2], ow eLines [.slice kM.2.1 (prvL aS aL aRules aFacts aSeeds (aF_Rel, aF_Values)).length kM.2.2] (prvL aS aL aRules aFacts aSeeds (aF_Rel, aF_Values)), pt b11 27 [.int .i64 aF_Rel, .slice a_aF_Values aF_Values.length c_aF_Values]]) ?_ (fun kM _ => ?_)))))))
              · refine D.region (fun j => !(Nat.beq j 17)) mixed (D.yp 0 rfl rfl (by decide) (Y.mv rfl) (by kernel_rfl) (D.yp 2 rfl rfl (by decide) (Y.mv rfl) (by kernel_rfl) (D.yp 4 rfl rfl (by decide) (Y.mv rfl) (by kernel_rfl) (D.yp 6 rfl rfl (by decide) (Y.mv rfl) (by kernel_rfl) (D.yp 8 rfl rfl (by decide) (Y.mv rfl) (by kernel_rfl) (D.y 10 rfl rfl (by decide) (Y.ldS (cs := [_, _]) ty_lFact rfl (Has.pt m0) rfl) (by kernel_rfl) (D.ch2 (i := 1) (j := 16) (by kernel_rfl) ?_ ?_)))))))
                · refine D.pk 1 rfl rfl (fun _ => rfl) (N.call (t_laws_toIntS (by first | omega | assumption | (constructor <;> omega))) rfl rfl rfl (by decide) rfl (fun w Lp hA => hA.ro haS)) (fun k57 _ => ?_)
                  obtain ⟨a57, m57, c57⟩ := k57
                  refine Ent.lenow m0 fun e57 l57 => ?_
                  subst e57
                  refine D.ch2 (i := 3) (j := 16) (by kernel_rfl) ?_ ?_
                  · refine D.pk 3 rfl rfl (fun _ => rfl) (N.call (t_laws_toMethodS (by first | omega | assumption | (constructor <;> omega))) rfl rfl rfl (by decide) rfl (fun w Lp hA => hA.ro haL)) (fun k59 _ => ?_)
                    obtain ⟨a59, m59, c59⟩ := k59
                    refine Ent.lenow m0 fun e59 l59 => ?_
                    subst e59
                    refine D.ch2 (i := 5) (j := 16) (by kernel_rfl) ?_ ?_
                    · refine D.pk 5 rfl rfl (fun _ => rfl) (N.call (t_laws_toRuleS (by first | omega | assumption | (constructor <;> omega))) rfl rfl rfl (by decide) rfl (fun w Lp hA => hA.ro haRules)) (fun k61 _ => ?_)
                      obtain ⟨a61, m61, c61⟩ := k61
                      refine Ent.lenow m0 fun e61 l61 => ?_
                      subst e61
                      refine D.ch2 (i := 7) (j := 16) (by kernel_rfl) ?_ ?_
                      · refine D.pk 7 rfl rfl (fun _ => rfl) (N.call (t_laws_toFactS (by first | omega | assumption | (constructor <;> omega))) rfl rfl rfl (by decide) rfl (fun w Lp hA => hA.ro haFacts)) (fun k63 _ => ?_)
                        obtain ⟨a63, m63, c63⟩ := k63
                        refine Ent.lenow m0 fun e63 l63 => ?_
                        subst e63
                        refine D.ch2 (i := 9) (j := 16) (by kernel_rfl) ?_ ?_
                        · refine D.pk 9 rfl rfl (fun _ => rfl) (N.call (t_laws_toIntS (by first | omega | assumption | (constructor <;> omega))) rfl rfl rfl (by decide) rfl (fun w Lp hA => hA.ro haSeeds)) (fun k65 _ => ?_)
                          obtain ⟨a65, m65, c65⟩ := k65
                          refine Ent.lenow m0 fun e65 l65 => ?_
                          subst e65
                          refine D.ch2 (i := 11) (j := 16) (by kernel_rfl) ?_ ?_
                          · refine D.pk 11 rfl rfl (fun _ => rfl) (N.call (t_laws_toFact (by first | omega | assumption | (constructor <;> omega))) rfl rfl rfl (by decide) rfl (fun w Lp hA => ⟨i6aF_Rel, hA.ro haF_Values⟩)) (fun k67 _ => ?_)
                            obtain ⟨a67, m67, c67⟩ := k67
                            refine Ent.lenow m0 fun e67 l67 => ?_
                            subst e67
                            refine D.ch2 (i := 12) (j := 16) (by kernel_rfl) ?_ ?_
                            · refine D.pk 12 rfl rfl (fun _ => rfl) (N.call (t_spec_ProveReach (by first | omega | assumption | (constructor <;> omega))) rfl rfl rfl (by decide) rfl (fun w Lp hA => ⟨hA.ow (mS (mS (mS (mS (mS m0))))), hA.ow (mS (mS (mS (mS m0)))), hA.ow (mS (mS (mS m0))), hA.ow (mS (mS m0)), hA.ow (mS m0), i6aF_Rel, hA.ow m0⟩)) (fun k68 _ => ?_)
                              obtain ⟨a68, m68, c68⟩ := k68
                              refine Ent.lenow m0 fun e68 l68 => ?_
                              subst e68
                              refine D.yp 13 rfl rfl (by decide) (Y.mv rfl) (by kernel_rfl) (D.yp 14 rfl rfl (by decide) (Y.ext rfl rfl) (by kernel_rfl) (D.yp 15 rfl rfl (by decide) (Y.ext rfl rfl) (by kernel_rfl) (D.st 16 rfl rfl (by kernel_rfl) (fun _ => rfl) (N.alloc ty_Proof (by decide)) (fun b14 _ => (D.st 17 rfl rfl (by kernel_rfl) (fun h => by cases h) (N.sto (vs := [_]) (cs' := [_]) ty_Proof rfl rfl rfl rfl rfl (Nat.le_of_ble_eq_true rfl) rfl) (fun _ _ => (D.yp 18 rfl rfl (by decide) (Y.as rfl) (by kernel_rfl) (D.done (by kernel_rfl) (Ent.p2 (Ent.drop (Ent.p2 (Ent.drop (Ent.p2 (Ent.drop (Ent.p2 (Ent.drop (Ent.p2 ?_)))))))))))))))))
                              refine Ent.drop (Ent.p2 (Ent.drop (Ent.p2 (Ent.p2 (Ent.p2 ?_)))))
                              exact E.mdn (b14, a68, c68) trivial ⟨rfl, rfl, rfl, rfl, rfl, rfl, rfl, rfl, trivial⟩ (.refl _)
                            · refine D.pk 16 rfl rfl (fun _ => rfl) (N.alloc ty_Proof (by decide)) (fun b14 _ => (D.st 12 rfl rfl (by kernel_rfl) (fun _ => rfl) (N.call (t_spec_ProveReach (by first | omega | assumption | (constructor <;> omega))) rfl rfl rfl (by decide) rfl (fun w Lp hA => ⟨hA.ow (mS (mS (mS (mS (mS (mS m0)))))), hA.ow (mS (mS (mS (mS (mS m0))))), hA.ow (mS (mS (mS (mS m0)))), hA.ow (mS (mS (mS m0))), hA.ow (mS (mS m0)), i6aF_Rel, hA.ow (mS m0)⟩)) (fun k68 _ => ?_)))
                              obtain ⟨a68, m68, c68⟩ := k68
                              refine Ent.lenow m0 fun e68 l68 => ?_
                              subst e68
                              refine D.yp 13 rfl rfl (by decide) (Y.mv rfl) (by kernel_rfl) (D.yp 14 rfl rfl (by decide) (Y.ext rfl rfl) (by kernel_rfl) (D.yp 15 rfl rfl (by decide) (Y.ext rfl rfl) (by kernel_rfl) (Ent.p1 (D.st 17 rfl rfl (by kernel_rfl) (fun h => by cases h) (N.sto (vs := [_]) (cs' := [_]) ty_Proof rfl rfl rfl rfl rfl (Nat.le_of_ble_eq_true rfl) rfl) (fun _ _ => (D.yp 18 rfl rfl (by decide) (Y.as rfl) (by kernel_rfl) (D.done (by kernel_rfl) (Ent.p2 (Ent.drop (Ent.p2 (Ent.drop (Ent.p2 (Ent.drop (Ent.p2 (Ent.drop (Ent.p2 ?_))))))))))))))))
                              refine Ent.drop (Ent.p2 (Ent.drop (Ent.p2 (Ent.p2 (Ent.p2 ?_)))))
                              exact E.mdn (b14, a68, c68) trivial ⟨rfl, rfl, rfl, rfl, rfl, rfl, rfl, rfl, trivial⟩ (.refl _)
                          · refine D.pk 16 rfl rfl (fun _ => rfl) (N.alloc ty_Proof (by decide)) (fun b14 _ => (D.st 11 rfl rfl (by kernel_rfl) (fun _ => rfl) (N.call (t_laws_toFact (by first | omega | assumption | (constructor <;> omega))) rfl rfl rfl (by decide) rfl (fun w Lp hA => ⟨i6aF_Rel, hA.ro haF_Values⟩)) (fun k67 _ => ?_)))
                            obtain ⟨a67, m67, c67⟩ := k67
                            refine Ent.lenow m0 fun e67 l67 => ?_
                            subst e67
                            refine D.st 12 rfl rfl (by kernel_rfl) (fun _ => rfl) (N.call (t_spec_ProveReach (by first | omega | assumption | (constructor <;> omega))) rfl rfl rfl (by decide) rfl (fun w Lp hA => ⟨hA.ow (mS (mS (mS (mS (mS (mS m0)))))), hA.ow (mS (mS (mS (mS (mS m0))))), hA.ow (mS (mS (mS (mS m0)))), hA.ow (mS (mS (mS m0))), hA.ow (mS (mS m0)), i6aF_Rel, hA.ow m0⟩)) (fun k68 _ => ?_)
                            obtain ⟨a68, m68, c68⟩ := k68
                            refine Ent.lenow m0 fun e68 l68 => ?_
                            subst e68
                            refine D.yp 13 rfl rfl (by decide) (Y.mv rfl) (by kernel_rfl) (D.yp 14 rfl rfl (by decide) (Y.ext rfl rfl) (by kernel_rfl) (D.yp 15 rfl rfl (by decide) (Y.ext rfl rfl) (by kernel_rfl) (Ent.p2 (D.st 17 rfl rfl (by kernel_rfl) (fun h => by cases h) (N.sto (vs := [_]) (cs' := [_]) ty_Proof rfl rfl rfl rfl rfl (Nat.le_of_ble_eq_true rfl) rfl) (fun _ _ => (D.yp 18 rfl rfl (by decide) (Y.as rfl) (by kernel_rfl) (D.done (by kernel_rfl) (Ent.p2 (Ent.drop (Ent.p2 (Ent.drop (Ent.p2 (Ent.drop (Ent.p2 (Ent.drop (Ent.p2 ?_))))))))))))))))
                            refine Ent.drop (Ent.p2 (Ent.drop (Ent.p2 (Ent.p2 (Ent.p2 ?_)))))
                            exact E.mdn (b14, a68, c68) trivial ⟨rfl, rfl, rfl, rfl, rfl, rfl, rfl, rfl, trivial⟩ (.refl _)
                        · refine D.pk 16 rfl rfl (fun _ => rfl) (N.alloc ty_Proof (by decide)) (fun b14 _ => (D.st 9 rfl rfl (by kernel_rfl) (fun _ => rfl) (N.call (t_laws_toIntS (by first | omega | assumption | (constructor <;> omega))) rfl rfl rfl (by decide) rfl (fun w Lp hA => hA.ro haSeeds)) (fun k65 _ => ?_)))
                          obtain ⟨a65, m65, c65⟩ := k65
                          refine Ent.lenow m0 fun e65 l65 => ?_
                          subst e65
                          refine D.st 11 rfl rfl (by kernel_rfl) (fun _ => rfl) (N.call (t_laws_toFact (by first | omega | assumption | (constructor <;> omega))) rfl rfl rfl (by decide) rfl (fun w Lp hA => ⟨i6aF_Rel, hA.ro haF_Values⟩)) (fun k67 _ => ?_)
                          obtain ⟨a67, m67, c67⟩ := k67
                          refine Ent.lenow m0 fun e67 l67 => ?_
                          subst e67
                          refine D.st 12 rfl rfl (by kernel_rfl) (fun _ => rfl) (N.call (t_spec_ProveReach (by first | omega | assumption | (constructor <;> omega))) rfl rfl rfl (by decide) rfl (fun w Lp hA => ⟨hA.ow (mS (mS (mS (mS (mS (mS m0)))))), hA.ow (mS (mS (mS (mS (mS m0))))), hA.ow (mS (mS (mS (mS m0)))), hA.ow (mS (mS (mS m0))), hA.ow (mS m0), i6aF_Rel, hA.ow m0⟩)) (fun k68 _ => ?_)
                          obtain ⟨a68, m68, c68⟩ := k68
                          refine Ent.lenow m0 fun e68 l68 => ?_
                          subst e68
                          refine D.yp 13 rfl rfl (by decide) (Y.mv rfl) (by kernel_rfl) (D.yp 14 rfl rfl (by decide) (Y.ext rfl rfl) (by kernel_rfl) (D.yp 15 rfl rfl (by decide) (Y.ext rfl rfl) (by kernel_rfl) (Ent.p3 (D.st 17 rfl rfl (by kernel_rfl) (fun h => by cases h) (N.sto (vs := [_]) (cs' := [_]) ty_Proof rfl rfl rfl rfl rfl (Nat.le_of_ble_eq_true rfl) rfl) (fun _ _ => (D.yp 18 rfl rfl (by decide) (Y.as rfl) (by kernel_rfl) (D.done (by kernel_rfl) (Ent.p2 (Ent.drop (Ent.p2 (Ent.drop (Ent.p2 (Ent.drop (Ent.p2 (Ent.drop (Ent.p2 ?_))))))))))))))))
                          refine Ent.drop (Ent.p2 (Ent.drop (Ent.p2 (Ent.p2 (Ent.p2 ?_)))))
                          exact E.mdn (b14, a68, c68) trivial ⟨rfl, rfl, rfl, rfl, rfl, rfl, rfl, rfl, trivial⟩ (.refl _)
                      · refine D.pk 16 rfl rfl (fun _ => rfl) (N.alloc ty_Proof (by decide)) (fun b14 _ => (D.st 7 rfl rfl (by kernel_rfl) (fun _ => rfl) (N.call (t_laws_toFactS (by first | omega | assumption | (constructor <;> omega))) rfl rfl rfl (by decide) rfl (fun w Lp hA => hA.ro haFacts)) (fun k63 _ => ?_)))
                        obtain ⟨a63, m63, c63⟩ := k63
                        refine Ent.lenow m0 fun e63 l63 => ?_
                        subst e63
                        refine D.st 9 rfl rfl (by kernel_rfl) (fun _ => rfl) (N.call (t_laws_toIntS (by first | omega | assumption | (constructor <;> omega))) rfl rfl rfl (by decide) rfl (fun w Lp hA => hA.ro haSeeds)) (fun k65 _ => ?_)
                        obtain ⟨a65, m65, c65⟩ := k65
                        refine Ent.lenow m0 fun e65 l65 => ?_
                        subst e65
                        refine D.st 11 rfl rfl (by kernel_rfl) (fun _ => rfl) (N.call (t_laws_toFact (by first | omega | assumption | (constructor <;> omega))) rfl rfl rfl (by decide) rfl (fun w Lp hA => ⟨i6aF_Rel, hA.ro haF_Values⟩)) (fun k67 _ => ?_)
                        obtain ⟨a67, m67, c67⟩ := k67
                        refine Ent.lenow m0 fun e67 l67 => ?_
                        subst e67
                        refine D.st 12 rfl rfl (by kernel_rfl) (fun _ => rfl) (N.call (t_spec_ProveReach (by first | omega | assumption | (constructor <;> omega))) rfl rfl rfl (by decide) rfl (fun w Lp hA => ⟨hA.ow (mS (mS (mS (mS (mS (mS m0)))))), hA.ow (mS (mS (mS (mS (mS m0))))), hA.ow (mS (mS (mS (mS m0)))), hA.ow (mS (mS m0)), hA.ow (mS m0), i6aF_Rel, hA.ow m0⟩)) (fun k68 _ => ?_)
                        obtain ⟨a68, m68, c68⟩ := k68
                        refine Ent.lenow m0 fun e68 l68 => ?_
                        subst e68
                        refine D.yp 13 rfl rfl (by decide) (Y.mv rfl) (by kernel_rfl) (D.yp 14 rfl rfl (by decide) (Y.ext rfl rfl) (by kernel_rfl) (D.yp 15 rfl rfl (by decide) (Y.ext rfl rfl) (by kernel_rfl) (Ent.p4 (D.st 17 rfl rfl (by kernel_rfl) (fun h => by cases h) (N.sto (vs := [_]) (cs' := [_]) ty_Proof rfl rfl rfl rfl rfl (Nat.le_of_ble_eq_true rfl) rfl) (fun _ _ => (D.yp 18 rfl rfl (by decide) (Y.as rfl) (by kernel_rfl) (D.done (by kernel_rfl) (Ent.p2 (Ent.drop (Ent.p2 (Ent.drop (Ent.p2 (Ent.drop (Ent.p2 (Ent.drop (Ent.p2 ?_))))))))))))))))
                        refine Ent.drop (Ent.p2 (Ent.drop (Ent.p2 (Ent.p2 (Ent.p2 ?_)))))
                        exact E.mdn (b14, a68, c68) trivial ⟨rfl, rfl, rfl, rfl, rfl, rfl, rfl, rfl, trivial⟩ (.refl _)
                    · refine D.pk 16 rfl rfl (fun _ => rfl) (N.alloc ty_Proof (by decide)) (fun b14 _ => (D.st 5 rfl rfl (by kernel_rfl) (fun _ => rfl) (N.call (t_laws_toRuleS (by first | omega | assumption | (constructor <;> omega))) rfl rfl rfl (by decide) rfl (fun w Lp hA => hA.ro haRules)) (fun k61 _ => ?_)))
                      obtain ⟨a61, m61, c61⟩ := k61
                      refine Ent.lenow m0 fun e61 l61 => ?_
                      subst e61
                      refine D.st 7 rfl rfl (by kernel_rfl) (fun _ => rfl) (N.call (t_laws_toFactS (by first | omega | assumption | (constructor <;> omega))) rfl rfl rfl (by decide) rfl (fun w Lp hA => hA.ro haFacts)) (fun k63 _ => ?_)
                      obtain ⟨a63, m63, c63⟩ := k63
                      refine Ent.lenow m0 fun e63 l63 => ?_
                      subst e63
                      refine D.st 9 rfl rfl (by kernel_rfl) (fun _ => rfl) (N.call (t_laws_toIntS (by first | omega | assumption | (constructor <;> omega))) rfl rfl rfl (by decide) rfl (fun w Lp hA => hA.ro haSeeds)) (fun k65 _ => ?_)
                      obtain ⟨a65, m65, c65⟩ := k65
                      refine Ent.lenow m0 fun e65 l65 => ?_
                      subst e65
                      refine D.st 11 rfl rfl (by kernel_rfl) (fun _ => rfl) (N.call (t_laws_toFact (by first | omega | assumption | (constructor <;> omega))) rfl rfl rfl (by decide) rfl (fun w Lp hA => ⟨i6aF_Rel, hA.ro haF_Values⟩)) (fun k67 _ => ?_)
                      obtain ⟨a67, m67, c67⟩ := k67
                      refine Ent.lenow m0 fun e67 l67 => ?_
                      subst e67
                      refine D.st 12 rfl rfl (by kernel_rfl) (fun _ => rfl) (N.call (t_spec_ProveReach (by first | omega | assumption | (constructor <;> omega))) rfl rfl rfl (by decide) rfl (fun w Lp hA => ⟨hA.ow (mS (mS (mS (mS (mS (mS m0)))))), hA.ow (mS (mS (mS (mS (mS m0))))), hA.ow (mS (mS (mS m0))), hA.ow (mS (mS m0)), hA.ow (mS m0), i6aF_Rel, hA.ow m0⟩)) (fun k68 _ => ?_)
                      obtain ⟨a68, m68, c68⟩ := k68
                      refine Ent.lenow m0 fun e68 l68 => ?_
                      subst e68
                      refine D.yp 13 rfl rfl (by decide) (Y.mv rfl) (by kernel_rfl) (D.yp 14 rfl rfl (by decide) (Y.ext rfl rfl) (by kernel_rfl) (D.yp 15 rfl rfl (by decide) (Y.ext rfl rfl) (by kernel_rfl) (Ent.p5 (D.st 17 rfl rfl (by kernel_rfl) (fun h => by cases h) (N.sto (vs := [_]) (cs' := [_]) ty_Proof rfl rfl rfl rfl rfl (Nat.le_of_ble_eq_true rfl) rfl) (fun _ _ => (D.yp 18 rfl rfl (by decide) (Y.as rfl) (by kernel_rfl) (D.done (by kernel_rfl) (Ent.p2 (Ent.drop (Ent.p2 (Ent.drop (Ent.p2 (Ent.drop (Ent.p2 (Ent.drop (Ent.p2 ?_))))))))))))))))
                      refine Ent.drop (Ent.p2 (Ent.drop (Ent.p2 (Ent.p2 (Ent.p2 ?_)))))
                      exact E.mdn (b14, a68, c68) trivial ⟨rfl, rfl, rfl, rfl, rfl, rfl, rfl, rfl, trivial⟩ (.refl _)
                  · refine D.pk 16 rfl rfl (fun _ => rfl) (N.alloc ty_Proof (by decide)) (fun b14 _ => (D.st 3 rfl rfl (by kernel_rfl) (fun _ => rfl) (N.call (t_laws_toMethodS (by first | omega | assumption | (constructor <;> omega))) rfl rfl rfl (by decide) rfl (fun w Lp hA => hA.ro haL)) (fun k59 _ => ?_)))
                    obtain ⟨a59, m59, c59⟩ := k59
                    refine Ent.lenow m0 fun e59 l59 => ?_
                    subst e59
                    refine D.st 5 rfl rfl (by kernel_rfl) (fun _ => rfl) (N.call (t_laws_toRuleS (by first | omega | assumption | (constructor <;> omega))) rfl rfl rfl (by decide) rfl (fun w Lp hA => hA.ro haRules)) (fun k61 _ => ?_)
                    obtain ⟨a61, m61, c61⟩ := k61
                    refine Ent.lenow m0 fun e61 l61 => ?_
                    subst e61
                    refine D.st 7 rfl rfl (by kernel_rfl) (fun _ => rfl) (N.call (t_laws_toFactS (by first | omega | assumption | (constructor <;> omega))) rfl rfl rfl (by decide) rfl (fun w Lp hA => hA.ro haFacts)) (fun k63 _ => ?_)
                    obtain ⟨a63, m63, c63⟩ := k63
                    refine Ent.lenow m0 fun e63 l63 => ?_
                    subst e63
                    refine D.st 9 rfl rfl (by kernel_rfl) (fun _ => rfl) (N.call (t_laws_toIntS (by first | omega | assumption | (constructor <;> omega))) rfl rfl rfl (by decide) rfl (fun w Lp hA => hA.ro haSeeds)) (fun k65 _ => ?_)
                    obtain ⟨a65, m65, c65⟩ := k65
                    refine Ent.lenow m0 fun e65 l65 => ?_
                    subst e65
                    refine D.st 11 rfl rfl (by kernel_rfl) (fun _ => rfl) (N.call (t_laws_toFact (by first | omega | assumption | (constructor <;> omega))) rfl rfl rfl (by decide) rfl (fun w Lp hA => ⟨i6aF_Rel, hA.ro haF_Values⟩)) (fun k67 _ => ?_)
                    obtain ⟨a67, m67, c67⟩ := k67
                    refine Ent.lenow m0 fun e67 l67 => ?_
                    subst e67
                    refine D.st 12 rfl rfl (by kernel_rfl) (fun _ => rfl) (N.call (t_spec_ProveReach (by first | omega | assumption | (constructor <;> omega))) rfl rfl rfl (by decide) rfl (fun w Lp hA => ⟨hA.ow (mS (mS (mS (mS (mS (mS m0)))))), hA.ow (mS (mS (mS (mS m0)))), hA.ow (mS (mS (mS m0))), hA.ow (mS (mS m0)), hA.ow (mS m0), i6aF_Rel, hA.ow m0⟩)) (fun k68 _ => ?_)
                    obtain ⟨a68, m68, c68⟩ := k68
                    refine Ent.lenow m0 fun e68 l68 => ?_
                    subst e68
                    refine D.yp 13 rfl rfl (by decide) (Y.mv rfl) (by kernel_rfl) (D.yp 14 rfl rfl (by decide) (Y.ext rfl rfl) (by kernel_rfl) (D.yp 15 rfl rfl (by decide) (Y.ext rfl rfl) (by kernel_rfl) (Ent.p6 (D.st 17 rfl rfl (by kernel_rfl) (fun h => by cases h) (N.sto (vs := [_]) (cs' := [_]) ty_Proof rfl rfl rfl rfl rfl (Nat.le_of_ble_eq_true rfl) rfl) (fun _ _ => (D.yp 18 rfl rfl (by decide) (Y.as rfl) (by kernel_rfl) (D.done (by kernel_rfl) (Ent.p2 (Ent.drop (Ent.p2 (Ent.drop (Ent.p2 (Ent.drop (Ent.p2 (Ent.drop (Ent.p2 ?_))))))))))))))))
                    refine Ent.drop (Ent.p2 (Ent.drop (Ent.p2 (Ent.p2 (Ent.p2 ?_)))))
                    exact E.mdn (b14, a68, c68) trivial ⟨rfl, rfl, rfl, rfl, rfl, rfl, rfl, rfl, trivial⟩ (.refl _)
                · refine D.pk 16 rfl rfl (fun _ => rfl) (N.alloc ty_Proof (by decide)) (fun b14 _ => (D.st 1 rfl rfl (by kernel_rfl) (fun _ => rfl) (N.call (t_laws_toIntS (by first | omega | assumption | (constructor <;> omega))) rfl rfl rfl (by decide) rfl (fun w Lp hA => hA.ro haS)) (fun k57 _ => ?_)))
                  obtain ⟨a57, m57, c57⟩ := k57
                  refine Ent.lenow m0 fun e57 l57 => ?_
                  subst e57
                  refine D.st 3 rfl rfl (by kernel_rfl) (fun _ => rfl) (N.call (t_laws_toMethodS (by first | omega | assumption | (constructor <;> omega))) rfl rfl rfl (by decide) rfl (fun w Lp hA => hA.ro haL)) (fun k59 _ => ?_)
                  obtain ⟨a59, m59, c59⟩ := k59
                  refine Ent.lenow m0 fun e59 l59 => ?_
                  subst e59
                  refine D.st 5 rfl rfl (by kernel_rfl) (fun _ => rfl) (N.call (t_laws_toRuleS (by first | omega | assumption | (constructor <;> omega))) rfl rfl rfl (by decide) rfl (fun w Lp hA => hA.ro haRules)) (fun k61 _ => ?_)
                  obtain ⟨a61, m61, c61⟩ := k61
                  refine Ent.lenow m0 fun e61 l61 => ?_
                  subst e61
                  refine D.st 7 rfl rfl (by kernel_rfl) (fun _ => rfl) (N.call (t_laws_toFactS (by first | omega | assumption | (constructor <;> omega))) rfl rfl rfl (by decide) rfl (fun w Lp hA => hA.ro haFacts)) (fun k63 _ => ?_)
                  obtain ⟨a63, m63, c63⟩ := k63
                  refine Ent.lenow m0 fun e63 l63 => ?_
                  subst e63
                  refine D.st 9 rfl rfl (by kernel_rfl) (fun _ => rfl) (N.call (t_laws_toIntS (by first | omega | assumption | (constructor <;> omega))) rfl rfl rfl (by decide) rfl (fun w Lp hA => hA.ro haSeeds)) (fun k65 _ => ?_)
                  obtain ⟨a65, m65, c65⟩ := k65
                  refine Ent.lenow m0 fun e65 l65 => ?_
                  subst e65
                  refine D.st 11 rfl rfl (by kernel_rfl) (fun _ => rfl) (N.call (t_laws_toFact (by first | omega | assumption | (constructor <;> omega))) rfl rfl rfl (by decide) rfl (fun w Lp hA => ⟨i6aF_Rel, hA.ro haF_Values⟩)) (fun k67 _ => ?_)
                  obtain ⟨a67, m67, c67⟩ := k67
                  refine Ent.lenow m0 fun e67 l67 => ?_
                  subst e67
                  refine D.st 12 rfl rfl (by kernel_rfl) (fun _ => rfl) (N.call (t_spec_ProveReach (by first | omega | assumption | (constructor <;> omega))) rfl rfl rfl (by decide) rfl (fun w Lp hA => ⟨hA.ow (mS (mS (mS (mS (mS m0))))), hA.ow (mS (mS (mS (mS m0)))), hA.ow (mS (mS (mS m0))), hA.ow (mS (mS m0)), hA.ow (mS m0), i6aF_Rel, hA.ow m0⟩)) (fun k68 _ => ?_)
                  obtain ⟨a68, m68, c68⟩ := k68
                  refine Ent.lenow m0 fun e68 l68 => ?_
                  subst e68
                  refine D.yp 13 rfl rfl (by decide) (Y.mv rfl) (by kernel_rfl) (D.yp 14 rfl rfl (by decide) (Y.ext rfl rfl) (by kernel_rfl) (D.yp 15 rfl rfl (by decide) (Y.ext rfl rfl) (by kernel_rfl) (Ent.p7 (D.st 17 rfl rfl (by kernel_rfl) (fun h => by cases h) (N.sto (vs := [_]) (cs' := [_]) ty_Proof rfl rfl rfl rfl rfl (Nat.le_of_ble_eq_true rfl) rfl) (fun _ _ => (D.yp 18 rfl rfl (by decide) (Y.as rfl) (by kernel_rfl) (D.done (by kernel_rfl) (Ent.p2 (Ent.drop (Ent.p2 (Ent.drop (Ent.p2 (Ent.drop (Ent.p2 (Ent.drop (Ent.p2 ?_))))))))))))))))
                  refine Ent.drop (Ent.p2 (Ent.drop (Ent.p2 (Ent.p2 (Ent.p2 ?_)))))
                  exact E.mdn (b14, a68, c68) trivial ⟨rfl, rfl, rfl, rfl, rfl, rfl, rfl, rfl, trivial⟩ (.refl _)
              · obtain ⟨b14, a68, c68⟩ := kM
                show Ent _ _ _ [(0, .slice a_aS aS.length c_aS), (1, .slice a_aL aL.length c_aL), (2, .slice a_aRules aRules.length c_aRules), (3, .slice a_aFacts aFacts.length c_aFacts), (4, .slice a_aSeeds aSeeds.length c_aSeeds), (11, .pointer (some ⟨b11, 0, none⟩)), (14, .pointer (some ⟨b14, 0, none⟩)), (15, .bool (prvB aS aL aRules aFacts aSeeds (aF_Rel, aF_Values)))] [pt b14 48 [.slice a68 (prvL aS aL aRules aFacts aSeeds (aF_Rel, aF_Values)).length c68], ow eLines [.slice a68 (prvL aS aL aRules aFacts aSeeds (aF_Rel, aF_Values)).length c68] (prvL aS aL aRules aFacts aSeeds (aF_Rel, aF_Values)), pt b11 27 [.int .i64 aF_Rel, .slice a_aF_Values aF_Values.length c_aF_Values]] _
                refine E.thn (E.seq (E.region (l := [0, 1, 2]) rfl (E.y rfl rfl (by decide) ((Y.mv rfl).yd) (E.st rfl rfl (N.call (t_laws_toIntS (by first | omega | assumption | (constructor <;> omega))) rfl rfl rfl (by decide) rfl (fun w Lp hA => hA.ro haS)) (fun k72 _ => ?_)))))
                obtain ⟨a72, m72, c72⟩ := k72
                refine Ent.lenow m0 fun e72 l72 => ?_
                subst e72
                refine E.y rfl rfl (by decide) ((Y.as rfl).yd) (E.nil (E.thn (E.seq (E.region (l := [0, 1, 2]) rfl (E.y rfl rfl (by decide) ((Y.mv rfl).yd) (E.st rfl rfl (N.call (t_laws_toMethodS (by first | omega | assumption | (constructor <;> omega))) rfl rfl rfl (by decide) rfl (fun w Lp hA => hA.ro haL)) (fun k74 _ => ?_)))))))
                obtain ⟨a74, m74, c74⟩ := k74
                refine Ent.lenow m0 fun e74 l74 => ?_
                subst e74
                refine E.y rfl rfl (by decide) ((Y.as rfl).yd) (E.nil (E.thn (E.seq (E.region (l := [0, 1, 2]) rfl (E.y rfl rfl (by decide) ((Y.mv rfl).yd) (E.st rfl rfl (N.call (t_laws_toRuleS (by first | omega | assumption | (constructor <;> omega))) rfl rfl rfl (by decide) rfl (fun w Lp hA => hA.ro haRules)) (fun k76 _ => ?_)))))))
                obtain ⟨a76, m76, c76⟩ := k76
                refine Ent.lenow m0 fun e76 l76 => ?_
                subst e76
                refine E.y rfl rfl (by decide) ((Y.as rfl).yd) (E.nil (E.thn (E.seq (E.region (l := [0, 1, 2]) rfl (E.y rfl rfl (by decide) ((Y.mv rfl).yd) (E.st rfl rfl (N.call (t_laws_toFactS (by first | omega | assumption | (constructor <;> omega))) rfl rfl rfl (by decide) rfl (fun w Lp hA => hA.ro haFacts)) (fun k78 _ => ?_)))))))
                obtain ⟨a78, m78, c78⟩ := k78
                refine Ent.lenow m0 fun e78 l78 => ?_
                subst e78
                refine E.y rfl rfl (by decide) ((Y.as rfl).yd) (E.nil (E.thn (E.seq (E.region (l := [0, 1, 2]) rfl (E.y rfl rfl (by decide) ((Y.mv rfl).yd) (E.st rfl rfl (N.call (t_laws_toIntS (by first | omega | assumption | (constructor <;> omega))) rfl rfl rfl (by decide) rfl (fun w Lp hA => hA.ro haSeeds)) (fun k80 _ => ?_)))))))
                obtain ⟨a80, m80, c80⟩ := k80
                refine Ent.lenow m0 fun e80 l80 => ?_
                subst e80
                refine E.y rfl rfl (by decide) ((Y.as rfl).yd) (E.nil (E.thn (E.seq (E.region (l := [0, 1, 2, 3]) rfl (E.y rfl rfl (by decide) (Y.ldS (cs := [_, _]) ty_lFact rfl (Has.pt (mS (mS (mS (mS (mS (mS (mS m0)))))))) rfl) (E.st rfl rfl (N.call (t_laws_toFact (by first | omega | assumption | (constructor <;> omega))) rfl rfl rfl (by decide) rfl (fun w Lp hA => ⟨i6aF_Rel, hA.ro haF_Values⟩)) (fun k82 _ => ?_)))))))
                obtain ⟨a82, m82, c82⟩ := k82
                refine Ent.lenow m0 fun e82 l82 => ?_
                subst e82
                refine E.st rfl rfl (N.alloc ty_Fact (by decide)) (fun b21 _ => (E.st rfl rfl (N.sto (vs := [_, _]) (cs' := [_, _]) ty_Fact rfl rfl rfl rfl rfl (Nat.le_of_ble_eq_true rfl) rfl) (fun _ _ => (E.nil (E.thn (E.seq (E.region (l := [0, 1, 2, 3, 4, 5, 6, 7, 8, 9, 10, 11, 12]) rfl (E.y rfl rfl (by decide) ((Y.mv rfl).yd) (E.y rfl rfl (by decide) ((Y.mv rfl).yd) (E.y rfl rfl (by decide) ((Y.mv rfl).yd) (E.y rfl rfl (by decide) ((Y.mv rfl).yd) (E.y rfl rfl (by decide) ((Y.mv rfl).yd) (E.y rfl rfl (by decide) (Y.ldS (cs := [_, _]) ty_Fact rfl (Has.pt m0) rfl) (E.st rfl rfl (N.call (t_impl_ProveReach (by first | omega | assumption | (constructor <;> omega))) rfl rfl rfl (by decide) rfl (fun w Lp hA => ⟨hA.ow (mS (mS (mS (mS (mS (mS m0)))))), hA.ow (mS (mS (mS (mS (mS m0))))), hA.ow (mS (mS (mS (mS m0)))), hA.ow (mS (mS (mS m0))), hA.ow (mS (mS m0)), i6aF_Rel, hA.ow (mS m0)⟩)) (fun k90 _ => ?_)))))))))))))))
                obtain ⟨a90, m90, c90⟩ := k90
                refine Ent.lenow m0 fun e90 l90 => ?_
                subst e90
                refine E.y rfl rfl (by decide) ((Y.mv rfl).yd) (E.y rfl rfl (by decide) ((Y.ext rfl rfl).yd) (E.y rfl rfl (by decide) ((Y.ext rfl rfl).yd) (E.st rfl rfl (N.alloc ty_Proof (by decide)) (fun b22 _ => (E.st rfl rfl (N.sto (vs := [_]) (cs' := [_]) ty_Proof rfl rfl rfl rfl rfl (Nat.le_of_ble_eq_true rfl) rfl) (fun _ _ => (E.y rfl rfl (by decide) ((Y.as rfl).yd) (E.nil (E.thn (E.seq (E.seq (E.region (l := [0, 1, 2, 3, 4, 5, 6, 7, 8]) rfl (E.y rfl rfl (by decide) (Y.ldS (cs := [_]) ty_Proof rfl (Has.pt m0) rfl) (E.y rfl rfl (by decide) (Y.ldS (cs := [_]) ty_Proof rfl (Has.pt (mS (mS (mS (mS (mS (mS (mS (mS (mS m0)))))))))) rfl) (E.st rfl rfl (N.call0 t_laws_eqProof rfl rfl rfl (by decide) (fun w Lp hA => ⟨hA.ow (mS m0), hA.ow (mS (mS (mS (mS (mS (mS (mS (mS (mS (mS m0))))))))))⟩)) (fun _ _ => (Ent.b (fun q95 => ?_) (fun q95 => ?_))))))))))))))))))
                · refine E.y rfl rfl (by decide) ((Y.not (b := true) rfl).yd) (E.y rfl rfl (by decide) ((Y.mv rfl).yd) (E.y rfl rfl (by decide) ((Y.mv rfl).yd) (E.y rfl rfl (by decide) ((Y.mv rfl).yd) (E.y rfl rfl (by decide) ((Y.neqB (by kernel_rfl) rfl rfl).yd) (Ent.d (fun q100 => ?_) (fun q100 => ?_))))))
                  · exact absurd rfl q100
                  · refine E.y rfl rfl (by decide) ((Y.pkf rfl rfl).yd) (E.nil (E.thn (E.cf rfl (E.skipc (E.thn (E.seq (E.seq (E.region (l := [0, 1, 2, 3, 4]) rfl (E.y rfl rfl (by decide) ((Y.mv rfl).yd) (E.y rfl rfl (by decide) ((Y.mv rfl).yd) (E.st rfl rfl (N.call (t_laws_toIntS (by first | omega | assumption | (constructor <;> omega))) rfl rfl rfl (by decide) rfl (fun w Lp hA => hA.ro haS)) (fun k104 _ => ?_))))))))))))
                    obtain ⟨a104, m104, c104⟩ := k104
                    refine Ent.lenow m0 fun e104 l104 => ?_
                    subst e104
                    refine E.st rfl rfl (N.call0 t_laws_eqIntS rfl rfl rfl (by decide) (fun w Lp hA => ⟨hA.ow (mS (mS (mS (mS (mS (mS (mS (mS (mS m0))))))))), hA.ow m0⟩)) (fun _ _ => (Ent.b (fun q105 => ?_) (fun q105 => ?_)))
                    · refine E.y rfl rfl (by decide) ((Y.not (b := true) rfl).yd) (E.nil (E.thn (E.cf rfl (E.skipc (E.thn (E.seq (E.seq (E.region (l := [0, 1, 2, 3, 4]) rfl (E.y rfl rfl (by decide) ((Y.mv rfl).yd) (E.y rfl rfl (by decide) ((Y.mv rfl).yd) (E.st rfl rfl (N.call (t_laws_toMethodS (by first | omega | assumption | (constructor <;> omega))) rfl rfl rfl (by decide) rfl (fun w Lp hA => hA.ro haL)) (fun k109 _ => ?_))))))))))))
                      obtain ⟨a109, m109, c109⟩ := k109
                      refine Ent.lenow m0 fun e109 l109 => ?_
                      subst e109
                      refine E.st rfl rfl (N.call0 t_laws_eqMethodS rfl rfl rfl (by decide) (fun w Lp hA => ⟨hA.ow (mS (mS (mS (mS (mS (mS (mS (mS (mS m0))))))))), hA.ow m0⟩)) (fun _ _ => (Ent.b (fun q110 => ?_) (fun q110 => ?_)))
                      · refine E.y rfl rfl (by decide) ((Y.not (b := true) rfl).yd) (E.nil (E.thn (E.cf rfl (E.skipc (E.thn (E.seq (E.seq (E.region (l := [0, 1, 2, 3, 4]) rfl (E.y rfl rfl (by decide) ((Y.mv rfl).yd) (E.y rfl rfl (by decide) ((Y.mv rfl).yd) (E.st rfl rfl (N.call (t_laws_toRuleS (by first | omega | assumption | (constructor <;> omega))) rfl rfl rfl (by decide) rfl (fun w Lp hA => hA.ro haRules)) (fun k114 _ => ?_))))))))))))
                        obtain ⟨a114, m114, c114⟩ := k114
                        refine Ent.lenow m0 fun e114 l114 => ?_
                        subst e114
                        refine E.st rfl rfl (N.call0 t_laws_eqRuleS rfl rfl rfl (by decide) (fun w Lp hA => ⟨hA.ow (mS (mS (mS (mS (mS (mS (mS (mS (mS m0))))))))), hA.ow m0⟩)) (fun _ _ => (Ent.b (fun q115 => ?_) (fun q115 => ?_)))
                        · refine E.y rfl rfl (by decide) ((Y.not (b := true) rfl).yd) (E.nil (E.thn (E.cf rfl (E.skipc (E.thn (E.seq (E.seq (E.region (l := [0, 1, 2, 3, 4]) rfl (E.y rfl rfl (by decide) ((Y.mv rfl).yd) (E.y rfl rfl (by decide) ((Y.mv rfl).yd) (E.st rfl rfl (N.call (t_laws_toFactS (by first | omega | assumption | (constructor <;> omega))) rfl rfl rfl (by decide) rfl (fun w Lp hA => hA.ro haFacts)) (fun k119 _ => ?_))))))))))))
                          obtain ⟨a119, m119, c119⟩ := k119
                          refine Ent.lenow m0 fun e119 l119 => ?_
                          subst e119
                          refine E.st rfl rfl (N.call0 t_laws_eqFactS rfl rfl rfl (by decide) (fun w Lp hA => ⟨hA.ow (mS (mS (mS (mS (mS (mS (mS (mS (mS m0))))))))), hA.ow m0⟩)) (fun _ _ => (Ent.b (fun q120 => ?_) (fun q120 => ?_)))
                          · refine E.y rfl rfl (by decide) ((Y.not (b := true) rfl).yd) (E.nil (E.thn (E.cf rfl (E.skipc (E.thn (E.seq (E.seq (E.region (l := [0, 1, 2, 3, 4]) rfl (E.y rfl rfl (by decide) ((Y.mv rfl).yd) (E.y rfl rfl (by decide) ((Y.mv rfl).yd) (E.st rfl rfl (N.call (t_laws_toIntS (by first | omega | assumption | (constructor <;> omega))) rfl rfl rfl (by decide) rfl (fun w Lp hA => hA.ro haSeeds)) (fun k124 _ => ?_))))))))))))
                            obtain ⟨a124, m124, c124⟩ := k124
                            refine Ent.lenow m0 fun e124 l124 => ?_
                            subst e124
                            refine E.st rfl rfl (N.call0 t_laws_eqIntS rfl rfl rfl (by decide) (fun w Lp hA => ⟨hA.ow (mS (mS (mS (mS (mS (mS (mS (mS (mS m0))))))))), hA.ow m0⟩)) (fun _ _ => (Ent.b (fun q125 => ?_) (fun q125 => ?_)))
                            · refine E.y rfl rfl (by decide) ((Y.not (b := true) rfl).yd) (E.nil (E.thn (E.cf rfl (E.skipc (E.thn (E.seq (E.seq (D.region (fun j => true) mixed (D.y 0 rfl rfl (by decide) (Y.ldS (cs := [_, _]) ty_Fact rfl (Has.pt (mS (mS (mS (mS (mS (mS (mS m0)))))))) rfl) (by kernel_rfl) (D.y 1 rfl rfl (by decide) (Y.ldS (cs := [_, _]) ty_lFact rfl (Has.pt (mS (mS (mS (mS (mS (mS (mS (mS (mS (mS (mS (mS (mS (mS (mS (mS m0))))))))))))))))) rfl) (by kernel_rfl) (D.st 2 rfl rfl (by kernel_rfl) (fun _ => rfl) (N.call (t_laws_toFact (by first | omega | assumption | (constructor <;> omega))) rfl rfl rfl (by decide) rfl (fun w Lp hA => ⟨i6aF_Rel, hA.ro haF_Values⟩)) (fun k129 _ => ?_))))))))))))
                              obtain ⟨a129, m129, c129⟩ := k129
                              refine Ent.lenow m0 fun e129 l129 => ?_
                              subst e129
                              refine D.st 3 rfl rfl (by kernel_rfl) (fun _ => rfl) (N.call0 t_laws_eqFact rfl rfl rfl (by decide) (fun w Lp hA => ⟨i6aF_Rel, hA.ow (mS (mS (mS (mS (mS (mS (mS (mS (mS m0))))))))), i6aF_Rel, hA.ow m0⟩)) (fun _ _ => (Ent.b (fun q130 => ?_) (fun q130 => ?_)))
                              · refine D.yp 4 rfl rfl (by decide) (Y.not (b := true) rfl) (by kernel_rfl) (D.done (by kernel_rfl) (E.thn (E.cf rfl (E.skipc (E.thn (E.seq (E.region (l := [0]) rfl (E.y rfl rfl (by decide) ((Y.as rfl).yd) (E.nil (E.thn (E.seq (E.region (l := [0, 1, 2, 3]) rfl (E.y rfl rfl (by decide) ((Y.mv rfl).yd) (E.y rfl rfl (by decide) ((Y.mv rfl).yd) (Ent.p14 (E.st rfl rfl (N.call (pre := [_]) t_laws_markIntS rfl rfl rfl (by decide) rfl (fun w Lp hA => ⟨(by first | assumption | omega), (by first | assumption | omega)⟩)) (fun _ _ => (E.y rfl rfl (by decide) ((Y.as rfl).yd) (E.nil (E.thn (E.seq (E.region (l := [0, 1, 2, 3]) rfl (E.y rfl rfl (by decide) ((Y.mv rfl).yd) (E.y rfl rfl (by decide) ((Y.mv rfl).yd) (Ent.p14 (E.st rfl rfl (N.call (pre := [_]) t_laws_markMethodS rfl rfl rfl (by decide) rfl (fun w Lp hA => ⟨(by first | assumption | omega), (by first | assumption | omega)⟩)) (fun _ _ => (E.y rfl rfl (by decide) ((Y.as rfl).yd) (E.nil (E.thn (E.seq (E.region (l := [0, 1, 2, 3]) rfl (E.y rfl rfl (by decide) ((Y.mv rfl).yd) (E.y rfl rfl (by decide) ((Y.mv rfl).yd) (Ent.p14 ?_)))))))))))))))))))))))))))))))))))
                                refine E.st rfl rfl (N.call (pre := [_]) t_laws_markRuleS rfl rfl rfl (by decide) rfl (fun w Lp hA => ⟨(by first | assumption | omega), (by first | assumption | omega)⟩)) (fun _ _ => (E.y rfl rfl (by decide) ((Y.as rfl).yd) (E.nil (E.thn (E.seq (E.region (l := [0, 1, 2, 3]) rfl (E.y rfl rfl (by decide) ((Y.mv rfl).yd) (E.y rfl rfl (by decide) ((Y.mv rfl).yd) (Ent.p14 (E.st rfl rfl (N.call (pre := [_]) t_laws_markFactS rfl rfl rfl (by decide) rfl (fun w Lp hA => ⟨(by first | assumption | omega), (by first | assumption | omega)⟩)) (fun _ _ => (E.y rfl rfl (by decide) ((Y.as rfl).yd) (E.nil (E.thn (E.seq (E.region (l := [0, 1, 2, 3]) rfl (E.y rfl rfl (by decide) ((Y.mv rfl).yd) (E.y rfl rfl (by decide) ((Y.mv rfl).yd) (Ent.p14 (E.st rfl rfl (N.call (pre := [_]) t_laws_markIntS rfl rfl rfl (by decide) rfl (fun w Lp hA => ⟨(by first | assumption | omega), (by first | assumption | omega)⟩)) (fun _ _ => (E.y rfl rfl (by decide) ((Y.as rfl).yd) (E.nil (E.thn (E.seq (E.region (l := [0, 1, 2, 3]) rfl (E.y rfl rfl (by decide) (Y.ldS (cs := [_, _]) ty_Fact rfl (Has.pt (mS (mS (mS (mS (mS (mS (mS (mS (mS (mS (mS (mS (mS m0)))))))))))))) rfl) (E.y rfl rfl (by decide) ((Y.mv rfl).yd) (Ent.p14 ?_)))))))))))))))))))))))))))))
                                refine E.st rfl rfl (N.call (pre := [_]) t_laws_markFact rfl rfl rfl (by decide) rfl (fun w Lp hA => ⟨i6aF_Rel, (by first | assumption | omega), (by first | assumption | omega)⟩)) (fun _ _ => (E.y rfl rfl (by decide) ((Y.as rfl).yd) (E.nil (E.thn (E.seq (E.seq (E.region (l := [0, 1, 2, 3, 4, 5, 6, 7, 8, 9, 10, 11, 12]) rfl (E.y rfl rfl (by decide) ((Y.mv rfl).yd) (E.y rfl rfl (by decide) ((Y.lss rfl rfl).yd) (Ent.d (fun q151 => ?_) (fun q151 => ?_)))))))))))
                                · exact absurd q151 (by omega)
                                · refine E.y rfl rfl (by decide) ((Y.mv rfl).yd) (E.y rfl rfl (by decide) (Y.ldS (cs := [_]) ty_Proof rfl (Has.pt (mS (mS (mS (mS (mS (mS (mS (mS (mS (mS (mS (mS m0))))))))))))) rfl) (E.y rfl rfl (by decide) (Y.ldS (cs := [_]) ty_Proof rfl (Has.pt (mS (mS (mS (mS (mS (mS (mS (mS (mS (mS (mS (mS (mS (mS (mS m0)))))))))))))))) rfl) (E.st rfl rfl (N.call0 t_laws_eqProof rfl rfl rfl (by decide) (fun w Lp hA => ⟨hA.ow (mS (mS (mS (mS (mS (mS (mS (mS (mS (mS (mS (mS (mS m0))))))))))))), hA.ow (mS (mS (mS (mS (mS (mS (mS (mS (mS (mS (mS (mS (mS (mS (mS (mS m0))))))))))))))))⟩)) (fun _ _ => (Ent.b (fun q155 => ?_) (fun q155 => ?_))))))
                                  · refine E.y rfl rfl (by decide) ((Y.not (b := true) rfl).yd) (E.y rfl rfl (by decide) ((Y.pkf rfl rfl).yd) (E.y rfl rfl (by decide) ((Y.mv rfl).yd) (E.y rfl rfl (by decide) ((Y.mv rfl).yd) (E.y rfl rfl (by decide) ((Y.mv rfl).yd) (E.y rfl rfl (by decide) ((Y.neqB (by kernel_rfl) rfl rfl).yd) (Ent.d (fun q161 => ?_) (fun q161 => ?_)))))))
                                    · exact absurd rfl q161
                                    · refine E.y rfl rfl (by decide) ((Y.pkf rfl rfl).yd) (E.nil (E.thn (E.cf rfl (E.skipc (E.thn (E.seq (E.region (l := [0]) rfl (E.y rfl rfl (by decide) ((Y.as rfl).yd) (E.nil (E.thn (E.seq (E.region (l := [0, 1, 2, 3]) rfl (E.y rfl rfl (by decide) (Y.ldS (cs := [_]) ty_Proof rfl (Has.pt (mS (mS (mS (mS (mS (mS (mS (mS (mS (mS (mS (mS m0))))))))))))) rfl) (E.y rfl rfl (by decide) ((Y.mv rfl).yd) (Ent.p13 (E.st rfl rfl (N.call (pre := [_]) t_laws_markProof rfl rfl rfl (by decide) rfl (fun w Lp hA => ⟨(by first | assumption | omega), (by first | assumption | omega)⟩)) (fun _ _ => (E.y rfl rfl (by decide) ((Y.as rfl).yd) (E.nil (E.thn (E.seq (E.region (l := [0]) rfl (E.y rfl rfl (by decide) ((Y.as rfl).yd) (E.nil (E.thn (E.seq (E.region (l := [0, 1, 2, 3]) rfl (E.y rfl rfl (by decide) (Y.ldS (cs := [_]) ty_Proof rfl (Has.pt (mS (mS (mS (mS (mS (mS (mS (mS (mS (mS (mS (mS (mS m0)))))))))))))) rfl) (E.y rfl rfl (by decide) ((Y.mv rfl).yd) (E.st rfl rfl (N.call0 (t_laws_heldProof (mkL_mk cm_Line mm_Line)) rfl rfl rfl (by decide) (fun w Lp hA => ⟨hA.ow m0, (by (try simp only [mkL_c cm_I, mkL_c cm_Is, mkL_c cm_Fact, mkL_c cm_Facts, mkL_c cm_Atom, mkL_c cm_Atoms, mkL_c cm_Access, mkL_c cm_Accesss, mkL_c cm_Step, mkL_c cm_Steps, mkL_c cm_Query, mkL_c cm_Querys, mkL_c cm_Binding, mkL_c cm_Bindings, mkL_c cm_Method, mkL_c cm_Methods, mkL_c cm_Rule, mkL_c cm_Rules, mkL_c cm_Line, mkL_c cm_Lines]); omega), (by (try simp only [mkL_c cm_I, mkL_c cm_Is, mkL_c cm_Fact, mkL_c cm_Facts, mkL_c cm_Atom, mkL_c cm_Atoms, mkL_c cm_Access, mkL_c cm_Accesss, mkL_c cm_Step, mkL_c cm_Steps, mkL_c cm_Query, mkL_c cm_Querys, mkL_c cm_Binding, mkL_c cm_Bindings, mkL_c cm_Method, mkL_c cm_Methods, mkL_c cm_Rule, mkL_c cm_Rules, mkL_c cm_Line, mkL_c cm_Lines]); omega)⟩)) (fun _ _ => (E.y rfl rfl (by decide) ((Y.as rfl).yd) (E.nil (E.thn (E.seq (E.seq (E.region (l := [0, 1]) rfl (E.y rfl rfl (by decide) ((Y.mv rfl).yd) (E.y rfl rfl (by decide) ((Y.lss rfl rfl).yd) (Ent.d (fun q170 => ?_) (fun q170 => ?_)))))))))))))))))))))))))))))))))))))))))
                                      · exact absurd q170 (by omega)
                                      · refine E.nil (E.thn (E.cf rfl (E.skipc (E.thn (E.seq (E.seq (E.region (l := [0, 1, 2]) rfl (E.y rfl rfl (by decide) ((Y.mv rfl).yd) (E.y rfl rfl (by decide) ((Y.mv rfl).yd) (E.y rfl rfl (by decide) ((Y.neq rfl rfl).yd) (Ent.d (fun q173 => ?_) (fun q173 => ?_))))))))))))
                                        · exact absurd (by simp only [mkL_c cm_I, mkL_c cm_Is, mkL_c cm_Fact, mkL_c cm_Facts, mkL_c cm_Atom, mkL_c cm_Atoms, mkL_c cm_Access, mkL_c cm_Accesss, mkL_c cm_Step, mkL_c cm_Steps, mkL_c cm_Query, mkL_c cm_Querys, mkL_c cm_Binding, mkL_c cm_Bindings, mkL_c cm_Method, mkL_c cm_Methods, mkL_c cm_Rule, mkL_c cm_Rules, mkL_c cm_Line, mkL_c cm_Lines]) q173
                                        · refine E.nil (E.thn (E.cf rfl (E.skipc (E.thn (E.seq (E.mid (κ := Nat × Option Addr × Nat) (fun _ => True) (fun kM => [(14, .pointer (some ⟨b14, 0, none⟩)), (15, .bool (prvB aS aL aRules aFacts aSeeds (aF_Rel, aF_Values))), (22, .pointer (some ⟨b22, 0, none⟩)), (25, .int .i64 (1 + ((totS cE_Line (prvL aS aL aRules aFacts aSeeds (aF_Rel, aF_Values)) : Nat) : Int))), (27, .pointer (some ⟨kM.1, 0, none⟩)), (28, .bool (prvB aS aL aRules aFacts aSeeds (aF_Rel, aF_Values)))]) (fun kM => [pt kM.1 48 [.slice kM.2.1 (prvL aS aL aRules aFacts aSeeds (aF_Rel, aF_Values)).length kM.2.2], ow eLines [.slice kM.2.1 (prvL aS aL aRules aFacts aSeeds (aF_Rel, aF_Values)).length kM.2.2] (prvL aS aL aRules aFacts aSeeds (aF_Rel, aF_Values)), ow eLines [.slice a90 (prvL aS aL aRules aFacts aSeeds (aF_Rel, aF_Values)).length c90] (mkL cE_Line mE_Line (prvL aS aL aRules aFacts aSeeds (aF_Rel, aF_Values)) 1), ow eIs [.slice a82 (aF_Values).length c82] (mkL cE_I mE_I aF_Values (((((1 + (totS cE_I aS : Nat)) + (totS cE_Method aL : Nat)) + (totS cE_Rule aRules : Nat)) + (totS cE_Fact aFacts : Nat)) + (totS cE_I aSeeds : Nat))), ow eIs [.slice a80 (aSeeds).length c80] (mkL cE_I mE_I aSeeds ((((1 + (totS cE_I aS : Nat)) + (totS cE_Method aL : Nat)) + (totS cE_Rule aRules : Nat)) + (totS cE_Fact aFacts : Nat))), ow eFacts [.slice a78 (aFacts).length c78] (mkL cE_Fact mE_Fact aFacts (((1 + (totS cE_I aS : Nat)) + (totS cE_Method aL : Nat)) + (totS cE_Rule aRules : Nat))), ow eRules [.slice a76 (aRules).length c76] (mkL cE_Rule mE_Rule aRules ((1 + (totS cE_I aS : Nat)) + (totS cE_Method aL : Nat))), ow eMethods [.slice a74 (aL).length c74] (mkL cE_Method mE_Method aL (1 + (totS cE_I aS : Nat))), ow eIs [.slice a72 (aS).length c72] (mkL cE_I mE_I aS 1), ow eIs [.slice a129 (aF_Values).length c129] aF_Values, ow eIs [.slice a124 (aSeeds).length c124] aSeeds, ow eFacts [.slice a119 (aFacts).length c119] aFacts, ow eRules [.slice a114 (aRules).length c114] aRules, ow eMethods [.slice a109 (aL).length c109] aL, ow eIs [.slice a104 (aS).length c104] aS, pt b22 48 [.slice a90 (prvL aS aL aRules aFacts aSeeds (aF_Rel, aF_Values)).length c90], pt b21 44 [.int .i64 aF_Rel, .slice a82 (aF_Values).length c82], pt b14 48 [.slice a68 (prvL aS aL aRules aFacts aSeeds (aF_Rel, aF_Values)).length c68], ow eLines [.slice a68 (prvL aS aL aRules aFacts aSeeds (aF_Rel, aF_Values)).length c68] (prvL aS aL aRules aFacts aSeeds (aF_Rel, aF_Values)), pt b11 27 [.int .i64 aF_Rel, .slice a_aF_Values aF_Values.length c_aF_Values]]) ?_ (fun kM _ => ?_)))))))
                                          · refine D.region (fun j => !(Nat.beq j 17)) mixed (D.yp 0 rfl rfl (by decide) (Y.mv rfl) (by kernel_rfl) (D.yp 2 rfl rfl (by decide) (Y.mv rfl) (by kernel_rfl) (D.yp 4 rfl rfl (by decide) (Y.mv rfl) (by kernel_rfl) (D.yp 6 rfl rfl (by decide) (Y.mv rfl) (by kernel_rfl) (D.yp 8 rfl rfl (by decide) (Y.mv rfl) (by kernel_rfl) (D.y 10 rfl rfl (by decide) (Y.ldS (cs := [_, _]) ty_lFact rfl (Has.pt (mS (mS (mS (mS (mS (mS (mS (mS (mS (mS (mS (mS (mS (mS (mS (mS (mS m0)))))))))))))))))) rfl) (by kernel_rfl) (D.ch2 (i := 1) (j := 16) (by kernel_rfl) ?_ ?_)))))))
                                            · refine D.pk 1 rfl rfl (fun _ => rfl) (N.call (t_laws_toIntS (by first | omega | assumption | (constructor <;> omega))) rfl rfl rfl (by decide) rfl (fun w Lp hA => hA.ro haS)) (fun k176 _ => ?_)
                                              obtain ⟨a176, m176, c176⟩ := k176
                                              refine Ent.lenow m0 fun e176 l176 => ?_
                                              subst e176
                                              refine D.ch2 (i := 3) (j := 16) (by kernel_rfl) ?_ ?_
                                              · refine D.pk 3 rfl rfl (fun _ => rfl) (N.call (t_laws_toMethodS (by first | omega | assumption | (constructor <;> omega))) rfl rfl rfl (by decide) rfl (fun w Lp hA => hA.ro haL)) (fun k178 _ => ?_)
                                                obtain ⟨a178, m178, c178⟩ := k178
                                                refine Ent.lenow m0 fun e178 l178 => ?_
                                                subst e178
                                                refine D.ch2 (i := 5) (j := 16) (by kernel_rfl) ?_ ?_
                                                · refine D.pk 5 rfl rfl (fun _ => rfl) (N.call (t_laws_toRuleS (by first | omega | assumption | (constructor <;> omega))) rfl rfl rfl (by decide) rfl (fun w Lp hA => hA.ro haRules)) (fun k180 _ => ?_)
                                                  obtain ⟨a180, m180, c180⟩ := k180
                                                  refine Ent.lenow m0 fun e180 l180 => ?_
                                                  subst e180
                                                  refine D.ch2 (i := 7) (j := 16) (by kernel_rfl) ?_ ?_
                                                  · refine D.pk 7 rfl rfl (fun _ => rfl) (N.call (t_laws_toFactS (by first | omega | assumption | (constructor <;> omega))) rfl rfl rfl (by decide) rfl (fun w Lp hA => hA.ro haFacts)) (fun k182 _ => ?_)
                                                    obtain ⟨a182, m182, c182⟩ := k182
                                                    refine Ent.lenow m0 fun e182 l182 => ?_
                                                    subst e182
                                                    refine D.ch2 (i := 9) (j := 16) (by kernel_rfl) ?_ ?_
                                                    · refine D.pk 9 rfl rfl (fun _ => rfl) (N.call (t_laws_toIntS (by first | omega | assumption | (constructor <;> omega))) rfl rfl rfl (by decide) rfl (fun w Lp hA => hA.ro haSeeds)) (fun k184 _ => ?_)
                                                      obtain ⟨a184, m184, c184⟩ := k184
                                                      refine Ent.lenow m0 fun e184 l184 => ?_
                                                      subst e184
                                                      refine D.ch2 (i := 11) (j := 16) (by kernel_rfl) ?_ ?_
                                                      · refine D.pk 11 rfl rfl (fun _ => rfl) (N.call (t_laws_toFact (by first | omega | assumption | (constructor <;> omega))) rfl rfl rfl (by decide) rfl (fun w Lp hA => ⟨i6aF_Rel, hA.ro haF_Values⟩)) (fun k186 _ => ?_)
                                                        obtain ⟨a186, m186, c186⟩ := k186
                                                        refine Ent.lenow m0 fun e186 l186 => ?_
                                                        subst e186
                                                        refine D.ch2 (i := 12) (j := 16) (by kernel_rfl) ?_ ?_
                                                        · refine D.pk 12 rfl rfl (fun _ => rfl) (N.call (t_impl_ProveReach (by first | omega | assumption | (constructor <;> omega))) rfl rfl rfl (by decide) rfl (fun w Lp hA => ⟨hA.ow (mS (mS (mS (mS (mS m0))))), hA.ow (mS (mS (mS (mS m0)))), hA.ow (mS (mS (mS m0))), hA.ow (mS (mS m0)), hA.ow (mS m0), i6aF_Rel, hA.ow m0⟩)) (fun k187 _ => ?_)
                                                          obtain ⟨a187, m187, c187⟩ := k187
                                                          refine Ent.lenow m0 fun e187 l187 => ?_
                                                          subst e187
                                                          refine D.yp 13 rfl rfl (by decide) (Y.mv rfl) (by kernel_rfl) (D.yp 14 rfl rfl (by decide) (Y.ext rfl rfl) (by kernel_rfl) (D.yp 15 rfl rfl (by decide) (Y.ext rfl rfl) (by kernel_rfl) (D.st 16 rfl rfl (by kernel_rfl) (fun _ => rfl) (N.alloc ty_Proof (by decide)) (fun b27 _ => (D.st 17 rfl rfl (by kernel_rfl) (fun h => by cases h) (N.sto (vs := [_]) (cs' := [_]) ty_Proof rfl rfl rfl rfl rfl (Nat.le_of_ble_eq_true rfl) rfl) (fun _ _ => (D.yp 18 rfl rfl (by decide) (Y.as rfl) (by kernel_rfl) (D.done (by kernel_rfl) (Ent.p2 (Ent.drop (Ent.p2 (Ent.drop (Ent.p2 (Ent.drop (Ent.p2 (Ent.drop (Ent.p2 ?_)))))))))))))))))
                                                          refine Ent.drop (Ent.p2 (Ent.drop (Ent.p19 (Ent.p19 (Ent.p19 (Ent.p19 (Ent.p19 (Ent.p19 (Ent.p19 (Ent.p19 (Ent.p19 (Ent.p19 (Ent.p19 (Ent.p19 ?_))))))))))))))
                                                          refine Ent.p19 (Ent.p19 (Ent.p19 (Ent.p19 (Ent.p19 (Ent.p19 (Ent.p19 (Ent.p19 ?_)))))))
                                                          exact E.mdn (b27, a187, c187) trivial ⟨rfl, rfl, rfl, rfl, rfl, rfl, trivial⟩ (.refl _)
                                                        · refine D.pk 16 rfl rfl (fun _ => rfl) (N.alloc ty_Proof (by decide)) (fun b27 _ => (D.st 12 rfl rfl (by kernel_rfl) (fun _ => rfl) (N.call (t_impl_ProveReach (by first | omega | assumption | (constructor <;> omega))) rfl rfl rfl (by decide) rfl (fun w Lp hA => ⟨hA.ow (mS (mS (mS (mS (mS (mS m0)))))), hA.ow (mS (mS (mS (mS (mS m0))))), hA.ow (mS (mS (mS (mS m0)))), hA.ow (mS (mS (mS m0))), hA.ow (mS (mS m0)), i6aF_Rel, hA.ow (mS m0)⟩)) (fun k187 _ => ?_)))
                                                          obtain ⟨a187, m187, c187⟩ := k187
                                                          refine Ent.lenow m0 fun e187 l187 => ?_
                                                          subst e187
                                                          refine D.yp 13 rfl rfl (by decide) (Y.mv rfl) (by kernel_rfl) (D.yp 14 rfl rfl (by decide) (Y.ext rfl rfl) (by kernel_rfl) (D.yp 15 rfl rfl (by decide) (Y.ext rfl rfl) (by kernel_rfl) (Ent.p1 (D.st 17 rfl rfl (by kernel_rfl) (fun h => by cases h) (N.sto (vs := [_]) (cs' := [_]) ty_Proof rfl rfl rfl rfl rfl (Nat.le_of_ble_eq_true rfl) rfl) (fun _ _ => (D.yp 18 rfl rfl (by decide) (Y.as rfl) (by kernel_rfl) (D.done (by kernel_rfl) (Ent.p2 (Ent.drop (Ent.p2 (Ent.drop (Ent.p2 (Ent.drop (Ent.p2 (Ent.drop (Ent.p2 ?_))))))))))))))))
                                                          refine Ent.drop (Ent.p2 (Ent.drop (Ent.p19 (Ent.p19 (Ent.p19 (Ent.p19 (Ent.p19 (Ent.p19 (Ent.p19 (Ent.p19 (Ent.p19 (Ent.p19 (Ent.p19 (Ent.p19 ?_))))))))))))))
                                                          refine Ent.p19 (Ent.p19 (Ent.p19 (Ent.p19 (Ent.p19 (Ent.p19 (Ent.p19 (Ent.p19 ?_)))))))
                                                          exact E.mdn (b27, a187, c187) trivial ⟨rfl, rfl, rfl, rfl, rfl, rfl, trivial⟩ (.refl _)
                                                      · refine D.pk 16 rfl rfl (fun _ => rfl) (N.alloc ty_Proof (by decide)) (fun b27 _ => (D.st 11 rfl rfl (by kernel_rfl) (fun _ => rfl) (N.call (t_laws_toFact (by first | omega | assumption | (constructor <;> omega))) rfl rfl rfl (by decide) rfl (fun w Lp hA => ⟨i6aF_Rel, hA.ro haF_Values⟩)) (fun k186 _ => ?_)))
                                                        obtain ⟨a186, m186, c186⟩ := k186
                                                        refine Ent.lenow m0 fun e186 l186 => ?_
                                                        subst e186
                                                        refine D.st 12 rfl rfl (by kernel_rfl) (fun _ => rfl) (N.call (t_impl_ProveReach (by first | omega | assumption | (constructor <;> omega))) rfl rfl rfl (by decide) rfl (fun w Lp hA => ⟨hA.ow (mS (mS (mS (mS (mS (mS m0)))))), hA.ow (mS (mS (mS (mS (mS m0))))), hA.ow (mS (mS (mS (mS m0)))), hA.ow (mS (mS (mS m0))), hA.ow (mS (mS m0)), i6aF_Rel, hA.ow m0⟩)) (fun k187 _ => ?_)
                                                        obtain ⟨a187, m187, c187⟩ := k187
                                                        refine Ent.lenow m0 fun e187 l187 => ?_
                                                        subst e187
                                                        refine D.yp 13 rfl rfl (by decide) (Y.mv rfl) (by kernel_rfl) (D.yp 14 rfl rfl (by decide) (Y.ext rfl rfl) (by kernel_rfl) (D.yp 15 rfl rfl (by decide) (Y.ext rfl rfl) (by kernel_rfl) (Ent.p2 (D.st 17 rfl rfl (by kernel_rfl) (fun h => by cases h) (N.sto (vs := [_]) (cs' := [_]) ty_Proof rfl rfl rfl rfl rfl (Nat.le_of_ble_eq_true rfl) rfl) (fun _ _ => (D.yp 18 rfl rfl (by decide) (Y.as rfl) (by kernel_rfl) (D.done (by kernel_rfl) (Ent.p2 (Ent.drop (Ent.p2 (Ent.drop (Ent.p2 (Ent.drop (Ent.p2 (Ent.drop (Ent.p2 ?_))))))))))))))))
                                                        refine Ent.drop (Ent.p2 (Ent.drop (Ent.p19 (Ent.p19 (Ent.p19 (Ent.p19 (Ent.p19 (Ent.p19 (Ent.p19 (Ent.p19 (Ent.p19 (Ent.p19 (Ent.p19 (Ent.p19 ?_))))))))))))))
                                                        refine Ent.p19 (Ent.p19 (Ent.p19 (Ent.p19 (Ent.p19 (Ent.p19 (Ent.p19 (Ent.p19 ?_)))))))
                                                        exact E.mdn (b27, a187, c187) trivial ⟨rfl, rfl, rfl, rfl, rfl, rfl, trivial⟩ (.refl _)
                                                    · refine D.pk 16 rfl rfl (fun _ => rfl) (N.alloc ty_Proof (by decide)) (fun b27 _ => (D.st 9 rfl rfl (by kernel_rfl) (fun _ => rfl) (N.call (t_laws_toIntS (by first | omega | assumption | (constructor <;> omega))) rfl rfl rfl (by decide) rfl (fun w Lp hA => hA.ro haSeeds)) (fun k184 _ => ?_)))
                                                      obtain ⟨a184, m184, c184⟩ := k184
                                                      refine Ent.lenow m0 fun e184 l184 => ?_
                                                      subst e184
                                                      refine D.st 11 rfl rfl (by kernel_rfl) (fun _ => rfl) (N.call (t_laws_toFact (by first | omega | assumption | (constructor <;> omega))) rfl rfl rfl (by decide) rfl (fun w Lp hA => ⟨i6aF_Rel, hA.ro haF_Values⟩)) (fun k186 _ => ?_)
                                                      obtain ⟨a186, m186, c186⟩ := k186
                                                      refine Ent.lenow m0 fun e186 l186 => ?_
                                                      subst e186
                                                      refine D.st 12 rfl rfl (by kernel_rfl) (fun _ => rfl) (N.call (t_impl_ProveReach (by first | omega | assumption | (constructor <;> omega))) rfl rfl rfl (by decide) rfl (fun w Lp hA => ⟨hA.ow (mS (mS (mS (mS (mS (mS m0)))))), hA.ow (mS (mS (mS (mS (mS m0))))), hA.ow (mS (mS (mS (mS m0)))), hA.ow (mS (mS (mS m0))), hA.ow (mS m0), i6aF_Rel, hA.ow m0⟩)) (fun k187 _ => ?_)
                                                      obtain ⟨a187, m187, c187⟩ := k187
                                                      refine Ent.lenow m0 fun e187 l187 => ?_
                                                      subst e187
                                                      refine D.yp 13 rfl rfl (by decide) (Y.mv rfl) (by kernel_rfl) (D.yp 14 rfl rfl (by decide) (Y.ext rfl rfl) (by kernel_rfl) (D.yp 15 rfl rfl (by decide) (Y.ext rfl rfl) (by kernel_rfl) (Ent.p3 (D.st 17 rfl rfl (by kernel_rfl) (fun h => by cases h) (N.sto (vs := [_]) (cs' := [_]) ty_Proof rfl rfl rfl rfl rfl (Nat.le_of_ble_eq_true rfl) rfl) (fun _ _ => (D.yp 18 rfl rfl (by decide) (Y.as rfl) (by kernel_rfl) (D.done (by kernel_rfl) (Ent.p2 (Ent.drop (Ent.p2 (Ent.drop (Ent.p2 (Ent.drop (Ent.p2 (Ent.drop (Ent.p2 ?_))))))))))))))))
                                                      refine Ent.drop (Ent.p2 (Ent.drop (Ent.p19 (Ent.p19 (Ent.p19 (Ent.p19 (Ent.p19 (Ent.p19 (Ent.p19 (Ent.p19 (Ent.p19 (Ent.p19 (Ent.p19 (Ent.p19 ?_))))))))))))))
                                                      refine Ent.p19 (Ent.p19 (Ent.p19 (Ent.p19 (Ent.p19 (Ent.p19 (Ent.p19 (Ent.p19 ?_)))))))
                                                      exact E.mdn (b27, a187, c187) trivial ⟨rfl, rfl, rfl, rfl, rfl, rfl, trivial⟩ (.refl _)
                                                  · refine D.pk 16 rfl rfl (fun _ => rfl) (N.alloc ty_Proof (by decide)) (fun b27 _ => (D.st 7 rfl rfl (by kernel_rfl) (fun _ => rfl) (N.call (t_laws_toFactS (by first | omega | assumption | (constructor <;> omega))) rfl rfl rfl (by decide) rfl (fun w Lp hA => hA.ro haFacts)) (fun k182 _ => ?_)))
                                                    obtain ⟨a182, m182, c182⟩ := k182
                                                    refine Ent.lenow m0 fun e182 l182 => ?_
                                                    subst e182
                                                    refine D.st 9 rfl rfl (by kernel_rfl) (fun _ => rfl) (N.call (t_laws_toIntS (by first | omega | assumption | (constructor <;> omega))) rfl rfl rfl (by decide) rfl (fun w Lp hA => hA.ro haSeeds)) (fun k184 _ => ?_)
                                                    obtain ⟨a184, m184, c184⟩ := k184
                                                    refine Ent.lenow m0 fun e184 l184 => ?_
                                                    subst e184
                                                    refine D.st 11 rfl rfl (by kernel_rfl) (fun _ => rfl) (N.call (t_laws_toFact (by first | omega | assumption | (constructor <;> omega))) rfl rfl rfl (by decide) rfl (fun w Lp hA => ⟨i6aF_Rel, hA.ro haF_Values⟩)) (fun k186 _ => ?_)
                                                    obtain ⟨a186, m186, c186⟩ := k186
                                                    refine Ent.lenow m0 fun e186 l186 => ?_
                                                    subst e186
                                                    refine D.st 12 rfl rfl (by kernel_rfl) (fun _ => rfl) (N.call (t_impl_ProveReach (by first | omega | assumption | (constructor <;> omega))) rfl rfl rfl (by decide) rfl (fun w Lp hA => ⟨hA.ow (mS (mS (mS (mS (mS (mS m0)))))), hA.ow (mS (mS (mS (mS (mS m0))))), hA.ow (mS (mS (mS (mS m0)))), hA.ow (mS (mS m0)), hA.ow (mS m0), i6aF_Rel, hA.ow m0⟩)) (fun k187 _ => ?_)
                                                    obtain ⟨a187, m187, c187⟩ := k187
                                                    refine Ent.lenow m0 fun e187 l187 => ?_
                                                    subst e187
                                                    refine D.yp 13 rfl rfl (by decide) (Y.mv rfl) (by kernel_rfl) (D.yp 14 rfl rfl (by decide) (Y.ext rfl rfl) (by kernel_rfl) (D.yp 15 rfl rfl (by decide) (Y.ext rfl rfl) (by kernel_rfl) (Ent.p4 (D.st 17 rfl rfl (by kernel_rfl) (fun h => by cases h) (N.sto (vs := [_]) (cs' := [_]) ty_Proof rfl rfl rfl rfl rfl (Nat.le_of_ble_eq_true rfl) rfl) (fun _ _ => (D.yp 18 rfl rfl (by decide) (Y.as rfl) (by kernel_rfl) (D.done (by kernel_rfl) (Ent.p2 (Ent.drop (Ent.p2 (Ent.drop (Ent.p2 (Ent.drop (Ent.p2 (Ent.drop (Ent.p2 ?_))))))))))))))))
                                                    refine Ent.drop (Ent.p2 (Ent.drop (Ent.p19 (Ent.p19 (Ent.p19 (Ent.p19 (Ent.p19 (Ent.p19 (Ent.p19 (Ent.p19 (Ent.p19 (Ent.p19 (Ent.p19 (Ent.p19 ?_))))))))))))))
                                                    refine Ent.p19 (Ent.p19 (Ent.p19 (Ent.p19 (Ent.p19 (Ent.p19 (Ent.p19 (Ent.p19 ?_)))))))
                                                    exact E.mdn (b27, a187, c187) trivial ⟨rfl, rfl, rfl, rfl, rfl, rfl, trivial⟩ (.refl _)
                                                · refine D.pk 16 rfl rfl (fun _ => rfl) (N.alloc ty_Proof (by decide)) (fun b27 _ => (D.st 5 rfl rfl (by kernel_rfl) (fun _ => rfl) (N.call (t_laws_toRuleS (by first | omega | assumption | (constructor <;> omega))) rfl rfl rfl (by decide) rfl (fun w Lp hA => hA.ro haRules)) (fun k180 _ => ?_)))
                                                  obtain ⟨a180, m180, c180⟩ := k180
                                                  refine Ent.lenow m0 fun e180 l180 => ?_
                                                  subst e180
                                                  refine D.st 7 rfl rfl (by kernel_rfl) (fun _ => rfl) (N.call (t_laws_toFactS (by first | omega | assumption | (constructor <;> omega))) rfl rfl rfl (by decide) rfl (fun w Lp hA => hA.ro haFacts)) (fun k182 _ => ?_)
                                                  obtain ⟨a182, m182, c182⟩ := k182
                                                  refine Ent.lenow m0 fun e182 l182 => ?_
                                                  subst e182
                                                  refine D.st 9 rfl rfl (by kernel_rfl) (fun _ => rfl) (N.call (t_laws_toIntS (by first | omega | assumption | (constructor <;> omega))) rfl rfl rfl (by decide) rfl (fun w Lp hA => hA.ro haSeeds)) (fun k184 _ => ?_)
                                                  obtain ⟨a184, m184, c184⟩ := k184
                                                  refine Ent.lenow m0 fun e184 l184 => ?_
                                                  subst e184
                                                  refine D.st 11 rfl rfl (by kernel_rfl) (fun _ => rfl) (N.call (t_laws_toFact (by first | omega | assumption | (constructor <;> omega))) rfl rfl rfl (by decide) rfl (fun w Lp hA => ⟨i6aF_Rel, hA.ro haF_Values⟩)) (fun k186 _ => ?_)
                                                  obtain ⟨a186, m186, c186⟩ := k186
                                                  refine Ent.lenow m0 fun e186 l186 => ?_
                                                  subst e186
                                                  refine D.st 12 rfl rfl (by kernel_rfl) (fun _ => rfl) (N.call (t_impl_ProveReach (by first | omega | assumption | (constructor <;> omega))) rfl rfl rfl (by decide) rfl (fun w Lp hA => ⟨hA.ow (mS (mS (mS (mS (mS (mS m0)))))), hA.ow (mS (mS (mS (mS (mS m0))))), hA.ow (mS (mS (mS m0))), hA.ow (mS (mS m0)), hA.ow (mS m0), i6aF_Rel, hA.ow m0⟩)) (fun k187 _ => ?_)
                                                  obtain ⟨a187, m187, c187⟩ := k187
                                                  refine Ent.lenow m0 fun e187 l187 => ?_
                                                  subst e187
                                                  refine D.yp 13 rfl rfl (by decide) (Y.mv rfl) (by kernel_rfl) (D.yp 14 rfl rfl (by decide) (Y.ext rfl rfl) (by kernel_rfl) (D.yp 15 rfl rfl (by decide) (Y.ext rfl rfl) (by kernel_rfl) (Ent.p5 (D.st 17 rfl rfl (by kernel_rfl) (fun h => by cases h) (N.sto (vs := [_]) (cs' := [_]) ty_Proof rfl rfl rfl rfl rfl (Nat.le_of_ble_eq_true rfl) rfl) (fun _ _ => (D.yp 18 rfl rfl (by decide) (Y.as rfl) (by kernel_rfl) (D.done (by kernel_rfl) (Ent.p2 (Ent.drop (Ent.p2 (Ent.drop (Ent.p2 (Ent.drop (Ent.p2 (Ent.drop (Ent.p2 ?_))))))))))))))))
                                                  refine Ent.drop (Ent.p2 (Ent.drop (Ent.p19 (Ent.p19 (Ent.p19 (Ent.p19 (Ent.p19 (Ent.p19 (Ent.p19 (Ent.p19 (Ent.p19 (Ent.p19 (Ent.p19 (Ent.p19 ?_))))))))))))))
                                                  refine Ent.p19 (Ent.p19 (Ent.p19 (Ent.p19 (Ent.p19 (Ent.p19 (Ent.p19 (Ent.p19 ?_)))))))
                                                  exact E.mdn (b27, a187, c187) trivial ⟨rfl, rfl, rfl, rfl, rfl, rfl, trivial⟩ (.refl _)
                                              · refine D.pk 16 rfl rfl (fun _ => rfl) (N.alloc ty_Proof (by decide)) (fun b27 _ => (D.st 3 rfl rfl (by kernel_rfl) (fun _ => rfl) (N.call (t_laws_toMethodS (by first | omega | assumption | (constructor <;> omega))) rfl rfl rfl (by decide) rfl (fun w Lp hA => hA.ro haL)) (fun k178 _ => ?_)))
                                                obtain ⟨a178, m178, c178⟩ := k178
                                                refine Ent.lenow m0 fun e178 l178 => ?_
                                                subst e178
                                                refine D.st 5 rfl rfl (by kernel_rfl) (fun _ => rfl) (N.call (t_laws_toRuleS (by first | omega | assumption | (constructor <;> omega))) rfl rfl rfl (by decide) rfl (fun w Lp hA => hA.ro haRules)) (fun k180 _ => ?_)
                                                obtain ⟨a180, m180, c180⟩ := k180
                                                refine Ent.lenow m0 fun e180 l180 => ?_
                                                subst e180
                                                refine D.st 7 rfl rfl (by kernel_rfl) (fun _ => rfl) (N.call (t_laws_toFactS (by first | omega | assumption | (constructor <;> omega))) rfl rfl rfl (by decide) rfl (fun w Lp hA => hA.ro haFacts)) (fun k182 _ => ?_)
                                                obtain ⟨a182, m182, c182⟩ := k182
                                                refine Ent.lenow m0 fun e182 l182 => ?_
                                                subst e182
                                                refine D.st 9 rfl rfl (by kernel_rfl) (fun _ => rfl) (N.call (t_laws_toIntS (by first | omega | assumption | (constructor <;> omega))) rfl rfl rfl (by decide) rfl (fun w Lp hA => hA.ro haSeeds)) (fun k184 _ => ?_)
                                                obtain ⟨a184, m184, c184⟩ := k184
                                                refine Ent.lenow m0 fun e184 l184 => ?_
                                                subst e184
                                                refine D.st 11 rfl rfl (by kernel_rfl) (fun _ => rfl) (N.call (t_laws_toFact (by first | omega | assumption | (constructor <;> omega))) rfl rfl rfl (by decide) rfl (fun w Lp hA => ⟨i6aF_Rel, hA.ro haF_Values⟩)) (fun k186 _ => ?_)
                                                obtain ⟨a186, m186, c186⟩ := k186
                                                refine Ent.lenow m0 fun e186 l186 => ?_
                                                subst e186
                                                refine D.st 12 rfl rfl (by kernel_rfl) (fun _ => rfl) (N.call (t_impl_ProveReach (by first | omega | assumption | (constructor <;> omega))) rfl rfl rfl (by decide) rfl (fun w Lp hA => ⟨hA.ow (mS (mS (mS (mS (mS (mS m0)))))), hA.ow (mS (mS (mS (mS m0)))), hA.ow (mS (mS (mS m0))), hA.ow (mS (mS m0)), hA.ow (mS m0), i6aF_Rel, hA.ow m0⟩)) (fun k187 _ => ?_)
                                                obtain ⟨a187, m187, c187⟩ := k187
                                                refine Ent.lenow m0 fun e187 l187 => ?_
                                                subst e187
                                                refine D.yp 13 rfl rfl (by decide) (Y.mv rfl) (by kernel_rfl) (D.yp 14 rfl rfl (by decide) (Y.ext rfl rfl) (by kernel_rfl) (D.yp 15 rfl rfl (by decide) (Y.ext rfl rfl) (by kernel_rfl) (Ent.p6 (D.st 17 rfl rfl (by kernel_rfl) (fun h => by cases h) (N.sto (vs := [_]) (cs' := [_]) ty_Proof rfl rfl rfl rfl rfl (Nat.le_of_ble_eq_true rfl) rfl) (fun _ _ => (D.yp 18 rfl rfl (by decide) (Y.as rfl) (by kernel_rfl) (D.done (by kernel_rfl) (Ent.p2 (Ent.drop (Ent.p2 (Ent.drop (Ent.p2 (Ent.drop (Ent.p2 (Ent.drop (Ent.p2 ?_))))))))))))))))
                                                refine Ent.drop (Ent.p2 (Ent.drop (Ent.p19 (Ent.p19 (Ent.p19 (Ent.p19 (Ent.p19 (Ent.p19 (Ent.p19 (Ent.p19 (Ent.p19 (Ent.p19 (Ent.p19 (Ent.p19 ?_))))))))))))))
                                                refine Ent.p19 (Ent.p19 (Ent.p19 (Ent.p19 (Ent.p19 (Ent.p19 (Ent.p19 (Ent.p19 ?_)))))))
                                                exact E.mdn (b27, a187, c187) trivial ⟨rfl, rfl, rfl, rfl, rfl, rfl, trivial⟩ (.refl _)
                                            · refine D.pk 16 rfl rfl (fun _ => rfl) (N.alloc ty_Proof (by decide)) (fun b27 _ => (D.st 1 rfl rfl (by kernel_rfl) (fun _ => rfl) (N.call (t_laws_toIntS (by first | omega | assumption | (constructor <;> omega))) rfl rfl rfl (by decide) rfl (fun w Lp hA => hA.ro haS)) (fun k176 _ => ?_)))
                                              obtain ⟨a176, m176, c176⟩ := k176
                                              refine Ent.lenow m0 fun e176 l176 => ?_
                                              subst e176
                                              refine D.st 3 rfl rfl (by kernel_rfl) (fun _ => rfl) (N.call (t_laws_toMethodS (by first | omega | assumption | (constructor <;> omega))) rfl rfl rfl (by decide) rfl (fun w Lp hA => hA.ro haL)) (fun k178 _ => ?_)
                                              obtain ⟨a178, m178, c178⟩ := k178
                                              refine Ent.lenow m0 fun e178 l178 => ?_
                                              subst e178
                                              refine D.st 5 rfl rfl (by kernel_rfl) (fun _ => rfl) (N.call (t_laws_toRuleS (by first | omega | assumption | (constructor <;> omega))) rfl rfl rfl (by decide) rfl (fun w Lp hA => hA.ro haRules)) (fun k180 _ => ?_)
                                              obtain ⟨a180, m180, c180⟩ := k180
                                              refine Ent.lenow m0 fun e180 l180 => ?_
                                              subst e180
                                              refine D.st 7 rfl rfl (by kernel_rfl) (fun _ => rfl) (N.call (t_laws_toFactS (by first | omega | assumption | (constructor <;> omega))) rfl rfl rfl (by decide) rfl (fun w Lp hA => hA.ro haFacts)) (fun k182 _ => ?_)
                                              obtain ⟨a182, m182, c182⟩ := k182
                                              refine Ent.lenow m0 fun e182 l182 => ?_
                                              subst e182
                                              refine D.st 9 rfl rfl (by kernel_rfl) (fun _ => rfl) (N.call (t_laws_toIntS (by first | omega | assumption | (constructor <;> omega))) rfl rfl rfl (by decide) rfl (fun w Lp hA => hA.ro haSeeds)) (fun k184 _ => ?_)
                                              obtain ⟨a184, m184, c184⟩ := k184
                                              refine Ent.lenow m0 fun e184 l184 => ?_
                                              subst e184
                                              refine D.st 11 rfl rfl (by kernel_rfl) (fun _ => rfl) (N.call (t_laws_toFact (by first | omega | assumption | (constructor <;> omega))) rfl rfl rfl (by decide) rfl (fun w Lp hA => ⟨i6aF_Rel, hA.ro haF_Values⟩)) (fun k186 _ => ?_)
                                              obtain ⟨a186, m186, c186⟩ := k186
                                              refine Ent.lenow m0 fun e186 l186 => ?_
                                              subst e186
                                              refine D.st 12 rfl rfl (by kernel_rfl) (fun _ => rfl) (N.call (t_impl_ProveReach (by first | omega | assumption | (constructor <;> omega))) rfl rfl rfl (by decide) rfl (fun w Lp hA => ⟨hA.ow (mS (mS (mS (mS (mS m0))))), hA.ow (mS (mS (mS (mS m0)))), hA.ow (mS (mS (mS m0))), hA.ow (mS (mS m0)), hA.ow (mS m0), i6aF_Rel, hA.ow m0⟩)) (fun k187 _ => ?_)
                                              obtain ⟨a187, m187, c187⟩ := k187
                                              refine Ent.lenow m0 fun e187 l187 => ?_
                                              subst e187
                                              refine D.yp 13 rfl rfl (by decide) (Y.mv rfl) (by kernel_rfl) (D.yp 14 rfl rfl (by decide) (Y.ext rfl rfl) (by kernel_rfl) (D.yp 15 rfl rfl (by decide) (Y.ext rfl rfl) (by kernel_rfl) (Ent.p7 (D.st 17 rfl rfl (by kernel_rfl) (fun h => by cases h) (N.sto (vs := [_]) (cs' := [_]) ty_Proof rfl rfl rfl rfl rfl (Nat.le_of_ble_eq_true rfl) rfl) (fun _ _ => (D.yp 18 rfl rfl (by decide) (Y.as rfl) (by kernel_rfl) (D.done (by kernel_rfl) (Ent.p2 (Ent.drop (Ent.p2 (Ent.drop (Ent.p2 (Ent.drop (Ent.p2 (Ent.drop (Ent.p2 ?_))))))))))))))))
                                              refine Ent.drop (Ent.p2 (Ent.drop (Ent.p19 (Ent.p19 (Ent.p19 (Ent.p19 (Ent.p19 (Ent.p19 (Ent.p19 (Ent.p19 (Ent.p19 (Ent.p19 (Ent.p19 (Ent.p19 ?_))))))))))))))
                                              refine Ent.p19 (Ent.p19 (Ent.p19 (Ent.p19 (Ent.p19 (Ent.p19 (Ent.p19 (Ent.p19 ?_)))))))
                                              exact E.mdn (b27, a187, c187) trivial ⟨rfl, rfl, rfl, rfl, rfl, rfl, trivial⟩ (.refl _)
                                          · obtain ⟨b27, a187, c187⟩ := kM
                                            show Ent _ _ _ [(14, .pointer (some ⟨b14, 0, none⟩)), (15, .bool (prvB aS aL aRules aFacts aSeeds (aF_Rel, aF_Values))), (22, .pointer (some ⟨b22, 0, none⟩)), (25, .int .i64 (1 + ((totS cE_Line (prvL aS aL aRules aFacts aSeeds (aF_Rel, aF_Values)) : Nat) : Int))), (27, .pointer (some ⟨b27, 0, none⟩)), (28, .bool (prvB aS aL aRules aFacts aSeeds (aF_Rel, aF_Values)))] [pt b27 48 [.slice a187 (prvL aS aL aRules aFacts aSeeds (aF_Rel, aF_Values)).length c187], ow eLines [.slice a187 (prvL aS aL aRules aFacts aSeeds (aF_Rel, aF_Values)).length c187] (prvL aS aL aRules aFacts aSeeds (aF_Rel, aF_Values)), ow eLines [.slice a90 (prvL aS aL aRules aFacts aSeeds (aF_Rel, aF_Values)).length c90] (mkL cE_Line mE_Line (prvL aS aL aRules aFacts aSeeds (aF_Rel, aF_Values)) 1), ow eIs [.slice a82 (aF_Values).length c82] (mkL cE_I mE_I aF_Values (((((1 + (totS cE_I aS : Nat)) + (totS cE_Method aL : Nat)) + (totS cE_Rule aRules : Nat)) + (totS cE_Fact aFacts : Nat)) + (totS cE_I aSeeds : Nat))), ow eIs [.slice a80 (aSeeds).length c80] (mkL cE_I mE_I aSeeds ((((1 + (totS cE_I aS : Nat)) + (totS cE_Method aL : Nat)) + (totS cE_Rule aRules : Nat)) + (totS cE_Fact aFacts : Nat))), ow eFacts [.slice a78 (aFacts).length c78] (mkL cE_Fact mE_Fact aFacts (((1 + (totS cE_I aS : Nat)) + (totS cE_Method aL : Nat)) + (totS cE_Rule aRules : Nat))), ow eRules [.slice a76 (aRules).length c76] (mkL cE_Rule mE_Rule aRules ((1 + (totS cE_I aS : Nat)) + (totS cE_Method aL : Nat))), ow eMethods [.slice a74 (aL).length c74] (mkL cE_Method mE_Method aL (1 + (totS cE_I aS : Nat))), ow eIs [.slice a72 (aS).length c72] (mkL cE_I mE_I aS 1), ow eIs [.slice a129 (aF_Values).length c129] aF_Values, ow eIs [.slice a124 (aSeeds).length c124] aSeeds, ow eFacts [.slice a119 (aFacts).length c119] aFacts, ow eRules [.slice a114 (aRules).length c114] aRules, ow eMethods [.slice a109 (aL).length c109] aL, ow eIs [.slice a104 (aS).length c104] aS, pt b22 48 [.slice a90 (prvL aS aL aRules aFacts aSeeds (aF_Rel, aF_Values)).length c90], pt b21 44 [.int .i64 aF_Rel, .slice a82 (aF_Values).length c82], pt b14 48 [.slice a68 (prvL aS aL aRules aFacts aSeeds (aF_Rel, aF_Values)).length c68], ow eLines [.slice a68 (prvL aS aL aRules aFacts aSeeds (aF_Rel, aF_Values)).length c68] (prvL aS aL aRules aFacts aSeeds (aF_Rel, aF_Values)), pt b11 27 [.int .i64 aF_Rel, .slice a_aF_Values aF_Values.length c_aF_Values]] _
                                            refine E.thn (E.seq (E.seq (E.region (l := [0, 1, 2, 3, 4, 5, 6, 7, 8]) rfl (E.y rfl rfl (by decide) (Y.ldS (cs := [_]) ty_Proof rfl (Has.pt m0) rfl) (E.y rfl rfl (by decide) (Y.ldS (cs := [_]) ty_Proof rfl (Has.pt (mS (mS (mS (mS (mS (mS (mS (mS (mS (mS (mS (mS (mS (mS (mS (mS (mS m0)))))))))))))))))) rfl) (E.st rfl rfl (N.call0 t_laws_eqProof rfl rfl rfl (by decide) (fun w Lp hA => ⟨hA.ow (mS m0), hA.ow (mS (mS (mS (mS (mS (mS (mS (mS (mS (mS (mS (mS (mS (mS (mS (mS (mS (mS m0))))))))))))))))))⟩)) (fun _ _ => (Ent.b (fun q192 => ?_) (fun q192 => ?_)))))))))
                                            · refine E.y rfl rfl (by decide) ((Y.not (b := true) rfl).yd) (E.y rfl rfl (by decide) ((Y.mv rfl).yd) (E.y rfl rfl (by decide) ((Y.mv rfl).yd) (E.y rfl rfl (by decide) ((Y.mv rfl).yd) (E.y rfl rfl (by decide) ((Y.neqB (by kernel_rfl) rfl rfl).yd) (Ent.d (fun q197 => ?_) (fun q197 => ?_))))))
                                              · exact absurd rfl q197
                                              · refine E.y rfl rfl (by decide) ((Y.pkf rfl rfl).yd) (E.nil (E.thn (E.cf rfl (E.skipc (E.thn (E.seq (E.region (l := [0]) rfl (E.y rfl rfl (by decide) ((Y.as rfl).yd) (E.nil (E.thn (E.seq (E.region (l := [0, 1, 2, 3]) rfl (E.y rfl rfl (by decide) (Y.ldS (cs := [_]) ty_Proof rfl (Has.pt (mS (mS (mS (mS (mS (mS (mS (mS (mS (mS (mS (mS (mS (mS (mS m0)))))))))))))))) rfl) (E.y rfl rfl (by decide) ((Y.mv rfl).yd) (E.st rfl rfl (N.call0 (t_laws_heldProof (mkL_mk cm_Line mm_Line)) rfl rfl rfl (by decide) (fun w Lp hA => ⟨hA.ow (mS (mS m0)), (by (try simp only [mkL_c cm_I, mkL_c cm_Is, mkL_c cm_Fact, mkL_c cm_Facts, mkL_c cm_Atom, mkL_c cm_Atoms, mkL_c cm_Access, mkL_c cm_Accesss, mkL_c cm_Step, mkL_c cm_Steps, mkL_c cm_Query, mkL_c cm_Querys, mkL_c cm_Binding, mkL_c cm_Bindings, mkL_c cm_Method, mkL_c cm_Methods, mkL_c cm_Rule, mkL_c cm_Rules, mkL_c cm_Line, mkL_c cm_Lines]); omega), (by (try simp only [mkL_c cm_I, mkL_c cm_Is, mkL_c cm_Fact, mkL_c cm_Facts, mkL_c cm_Atom, mkL_c cm_Atoms, mkL_c cm_Access, mkL_c cm_Accesss, mkL_c cm_Step, mkL_c cm_Steps, mkL_c cm_Query, mkL_c cm_Querys, mkL_c cm_Binding, mkL_c cm_Bindings, mkL_c cm_Method, mkL_c cm_Methods, mkL_c cm_Rule, mkL_c cm_Rules, mkL_c cm_Line, mkL_c cm_Lines]); omega)⟩)) (fun _ _ => (E.y rfl rfl (by decide) ((Y.as rfl).yd) (E.nil (E.thn (E.seq (E.seq (E.region (l := [0, 1]) rfl (E.y rfl rfl (by decide) ((Y.mv rfl).yd) (E.y rfl rfl (by decide) ((Y.lss rfl rfl).yd) (Ent.d (fun q203 => ?_) (fun q203 => ?_))))))))))))))))))))))))))
                                                · exact absurd q203 (by omega)
                                                · refine E.nil (E.thn (E.cf rfl (E.skipc (E.thn (E.seq (E.seq (E.region (l := [0, 1, 2]) rfl (E.y rfl rfl (by decide) ((Y.mv rfl).yd) (E.y rfl rfl (by decide) ((Y.mv rfl).yd) (E.y rfl rfl (by decide) ((Y.neq rfl rfl).yd) (Ent.d (fun q206 => ?_) (fun q206 => ?_))))))))))))
                                                  · exact absurd (by simp only [mkL_c cm_I, mkL_c cm_Is, mkL_c cm_Fact, mkL_c cm_Facts, mkL_c cm_Atom, mkL_c cm_Atoms, mkL_c cm_Access, mkL_c cm_Accesss, mkL_c cm_Step, mkL_c cm_Steps, mkL_c cm_Query, mkL_c cm_Querys, mkL_c cm_Binding, mkL_c cm_Bindings, mkL_c cm_Method, mkL_c cm_Methods, mkL_c cm_Rule, mkL_c cm_Rules, mkL_c cm_Line, mkL_c cm_Lines]) q206
                                                  · refine E.nil (E.thn (E.cf rfl (E.skipc (E.thn (E.seq (E.region (l := [0]) rfl (E.y rfl rfl (by decide) ((Y.as rfl).yd) ?_)))))))
                                                    exact E.nil (E.thn (E.ret (F.r1 (Back.refl _ _) rfl rfl () trivial rfl (J := _) (.refl _) (.inl rfl))))
                                            · refine E.y rfl rfl (by decide) ((Y.not (b := false) rfl).yd) (E.y rfl rfl (by decide) ((Y.mv rfl).yd) (E.skip rfl rfl rfl (E.skip rfl rfl rfl (E.skip rfl rfl rfl (E.y rfl rfl (by decide) ((Y.pkt rfl rfl).yd) (E.nil (E.thn (E.ct rfl (E.seq (E.region (l := [0]) rfl (E.y rfl rfl (by decide) ((Y.as rfl).yd) ?_)))))))))))
                                              exact E.nil (E.thn (E.ret (E.thr (F.r1 (Back.refl _ _) rfl rfl () trivial (congrArg Value.bool (by simp_all)) (J := _) (.refl _) (.inl rfl)))))
                                  · refine E.y rfl rfl (by decide) ((Y.not (b := false) rfl).yd) (E.y rfl rfl (by decide) ((Y.pkf rfl rfl).yd) (E.y rfl rfl (by decide) ((Y.mv rfl).yd) (E.skip rfl rfl rfl (E.skip rfl rfl rfl (E.skip rfl rfl rfl (E.y rfl rfl (by decide) ((Y.pkt rfl rfl).yd) (E.nil (E.thn (E.ct rfl (E.seq (E.region (l := [0]) rfl (E.y rfl rfl (by decide) ((Y.as rfl).yd) ?_))))))))))))
                                    exact E.nil (E.thn (E.ret (E.thr (F.r1 (Back.refl _ _) rfl rfl () trivial (congrArg Value.bool (by simp_all)) (J := _) (.refl _) (.inl rfl)))))
                              · refine D.yp 4 rfl rfl (by decide) (Y.not (b := false) rfl) (by kernel_rfl) (D.done (by kernel_rfl) (E.thn (E.ct rfl (E.seq (E.region (l := [0]) rfl (E.y rfl rfl (by decide) ((Y.as rfl).yd) ?_))))))
                                exact E.nil (E.thn (E.ret (E.thr (F.r1 (Back.refl _ _) rfl rfl () trivial (congrArg Value.bool (by simp_all)) (J := _) (.refl _) (.inl rfl)))))
                            · refine E.y rfl rfl (by decide) ((Y.not (b := false) rfl).yd) (E.nil (E.thn (E.ct rfl (E.seq (E.region (l := [0]) rfl (E.y rfl rfl (by decide) ((Y.as rfl).yd) ?_))))))
                              exact E.nil (E.thn (E.ret (E.thr (F.r1 (Back.refl _ _) rfl rfl () trivial (congrArg Value.bool (by simp_all)) (J := _) (.refl _) (.inl rfl)))))
                          · refine E.y rfl rfl (by decide) ((Y.not (b := false) rfl).yd) (E.nil (E.thn (E.ct rfl (E.seq (E.region (l := [0]) rfl (E.y rfl rfl (by decide) ((Y.as rfl).yd) ?_))))))
                            exact E.nil (E.thn (E.ret (E.thr (F.r1 (Back.refl _ _) rfl rfl () trivial (congrArg Value.bool (by simp_all)) (J := _) (.refl _) (.inl rfl)))))
                        · refine E.y rfl rfl (by decide) ((Y.not (b := false) rfl).yd) (E.nil (E.thn (E.ct rfl (E.seq (E.region (l := [0]) rfl (E.y rfl rfl (by decide) ((Y.as rfl).yd) ?_))))))
                          exact E.nil (E.thn (E.ret (E.thr (F.r1 (Back.refl _ _) rfl rfl () trivial (congrArg Value.bool (by simp_all)) (J := _) (.refl _) (.inl rfl)))))
                      · refine E.y rfl rfl (by decide) ((Y.not (b := false) rfl).yd) (E.nil (E.thn (E.ct rfl (E.seq (E.region (l := [0]) rfl (E.y rfl rfl (by decide) ((Y.as rfl).yd) ?_))))))
                        exact E.nil (E.thn (E.ret (E.thr (F.r1 (Back.refl _ _) rfl rfl () trivial (congrArg Value.bool (by simp_all)) (J := _) (.refl _) (.inl rfl)))))
                    · refine E.y rfl rfl (by decide) ((Y.not (b := false) rfl).yd) (E.nil (E.thn (E.ct rfl (E.seq (E.region (l := [0]) rfl (E.y rfl rfl (by decide) ((Y.as rfl).yd) ?_))))))
                      exact E.nil (E.thn (E.ret (E.thr (F.r1 (Back.refl _ _) rfl rfl () trivial (congrArg Value.bool (by simp_all)) (J := _) (.refl _) (.inl rfl)))))
                · refine E.y rfl rfl (by decide) ((Y.not (b := false) rfl).yd) (E.y rfl rfl (by decide) ((Y.mv rfl).yd) (E.skip rfl rfl rfl (E.skip rfl rfl rfl (E.skip rfl rfl rfl (E.y rfl rfl (by decide) ((Y.pkt rfl rfl).yd) (E.nil (E.thn (E.ct rfl (E.seq (E.region (l := [0]) rfl (E.y rfl rfl (by decide) ((Y.as rfl).yd) ?_)))))))))))
                  exact E.nil (E.thn (E.ret (E.thr (F.r1 (Back.refl _ _) rfl rfl () trivial (congrArg Value.bool (by simp_all)) (J := _) (.refl _) (.inl rfl)))))
end Go.Proofs.YtfnagmokplpnjaaGreat
