import Derived.Test.YtmogfmnamhhbnaaDoorT1
import Derived.Test.YtmogfmnamhhbnaaDoorBc
namespace Go.Proofs.YtmogfmnamhhbnaaDoor
open Go.RowKit
set_option linter.unusedVariables false
set_option linter.unusedSimpArgs false
set_option maxHeartbeats 2000000
attribute [local irreducible] Nop Yd Yp Ent Has Tr FnP FnP2 Src
theorem t_laws_markIntS {a_a : Option Addr} {m_a c_a : Nat} {a : List Int} {v : Int} : Tr Tryd.prog 9 [.slice a_a m_a c_a, .int .i64 v] (fun w L => 0 ≤ v ∧ v + ((totS cE_I a : Nat) : Int) ≤ 4611686018427387904) [ow eIs [.slice a_a m_a c_a] a] (κ := Unit) (fun k => True) (fun k => .int .i64 (v + (totS cE_I a : Nat))) (fun k => [ow eIs [.slice a_a m_a c_a] (mkL cE_I mE_I a v)]) := by
  refine Tr.intro Tryd.func9 rfl (n := 19) rfl (by decide +kernel) (Nat.le_of_ble_eq_true rfl) (fr := [(0, .slice a_a m_a c_a), (1, .int .i64 v)]) rfl fun w L hR => ?_
  obtain ⟨as0, as1⟩ := hR
  refine Ent.lenow m0 fun ea la => ?_
  subst ea
  refine E.seq (E.region (l := [0]) rfl (E.y rfl rfl (by decide) ((Y.as rfl).yd) (E.nil (E.thn (E.seq (E.seq (E.region (l := [0]) rfl (E.y rfl rfl (by decide) ((Y.as rfl).yd) (E.nil (E.thn (E.block (E.loop (κ := Nat) (fun g => g ≤ a.length) (fun g => [(0, .slice a_a a.length c_a), (1, .int .i64 (v + (totS cE_I (a.take g) : Nat))), (5, .int .i64 (↑g : Int))]) (fun g => [ow eIs [.slice a_a a.length c_a] (mkL cE_I mE_I (a.take g) v ++ a.drop g)]) (fun g => a.length - g) 0 (Nat.zero_le _) ⟨rfl, frI (by simp [totS]), rfl, trivial⟩ (.refl _) (fun g pg => ?_)))))))))))))
  have u1 := totS_le (t := cE_I) (l := a) (g := g)
  have u2 := totS_le (t := cE_I) (l := a) (g := g + 1)
  have hlen : (mkL cE_I mE_I (a.take g) v ++ a.drop g).length = a.length := by rw [List.length_append, mkL_len, ← List.length_append, List.take_append_drop]
  refine E.seq (E.seq (E.region (l := [0, 1, 2, 3]) rfl (E.y rfl rfl (by decide) ((Y.mv rfl).yd) (E.y rfl rfl (by decide) ((Y.mv rfl).yd) (E.y rfl rfl (by decide) ((Y.len us_Is rfl).yd) (E.y rfl rfl (by decide) ((Y.lss rfl rfl).yd) (Ent.d (fun q9 => ?_) (fun q9 => ?_))))))))
  · have u3 := totS_step (t := cE_I) (show g < a.length by omega)
    have u4 : cE_I a[g] = 1 := rfl
    refine E.nil (E.thn (E.ct rfl (E.skipc (E.thn (E.seq (E.block (E.seq (E.region (l := [0, 1, 2, 3, 4]) rfl (E.y rfl rfl (by decide) ((Y.mv rfl).yd) (E.y rfl rfl (by decide) ((Y.mv rfl).yd) (E.y rfl rfl (by decide) ((Y.mv rfl).yd) (Ent.adr m0 (by omega) fun ab15 ae15 => (E.y rfl rfl (by decide) ((Y.ix us_Is ty_I rfl ae15 rfl g rfl (by omega)).yd) (E.st rfl rfl (N.set (E := Enc.int) (j := g) (ex := v + (totS cE_I (a.take g) : Nat)) (ce := [_]) ty_I rfl rfl rfl rfl (Own.int (by first | assumption | (unfold I64; (try dsimp only); omega) | grind)) ae15 (Nat.zero_add _) rfl (by simp [mkL_len]; omega)) (fun _ _ => (E.nil (E.thn (E.region (l := [0, 1, 2]) rfl (E.y rfl rfl (by decide) ((Y.mv rfl).yd) (E.y rfl rfl (by decide) ((Y.add rfl rfl (by omega) (by omega)).yd) (E.y rfl rfl (by decide) ((Y.as rfl).yd) (E.nil (E.bln (E.thn (E.region (l := [0, 1, 2]) rfl (E.y rfl rfl (by decide) ((Y.mv rfl).yd) (E.y rfl rfl (by decide) ((Y.add rfl rfl (by omega) (by omega)).yd) (E.y rfl rfl (by decide) ((Y.as rfl).yd) ?_))))))))))))))))))))))))))))
    exact E.nil (E.thn (E.again (Back.refl _ _) (g + 1) ⟨rfl, frI (by omega), rfl, trivial⟩ (permOw (mk_set (c := cE_I) (m := mE_I) (show g < a.length by omega) rfl)) (by omega) (by omega)))
  · refine E.nil (E.thn (E.cf rfl (E.exit (E.the (E.the (E.blh (E.thn (E.seq (E.region (l := [0, 1]) rfl (E.y rfl rfl (by decide) ((Y.mv rfl).yd) (E.y rfl rfl (by decide) ((Y.as rfl).yd) (E.nil (E.thn (E.ret (Ent.cv (congrArg (ow eIs [_]) (show mkL cE_I mE_I (a.take g) v ++ a.drop g = mkL cE_I mE_I a v from by first | exact mk_all (by omega) | (rw [totS_all (by omega)]))) ?_)))))))))))))))
    exact F.r1 (Back.refl _ _) rfl rfl () trivial (by rw [show (v + (totS cE_I a : Nat)) = (v + (totS cE_I (a.take g) : Nat)) from (by first | exact mk_all (by omega) | (rw [totS_all (by omega)]))]; try rfl) (J := _) (.refl _) (.inl rfl)
theorem t_laws_heldIntS {a_a : Option Addr} {m_a c_a : Nat} {a : List Int} {v : Int} (hz : mkL cE_I mE_I a v = a) : Tr Tryd.prog 23 [.slice a_a m_a c_a, .int .i64 v] (fun w L => Ro w L eIs [.slice a_a m_a c_a] a ∧ 0 ≤ v ∧ v + ((totS cE_I a : Nat) : Int) ≤ 4611686018427387904) [] (κ := Unit) (fun k => True) (fun k => .int .i64 (v + (totS cE_I a : Nat))) (fun k => []) := by
  refine Tr.intro Tryd.func23 rfl (n := 21) rfl (by decide +kernel) (Nat.le_of_ble_eq_true rfl) (fr := [(0, .slice a_a m_a c_a), (1, .int .i64 v)]) rfl fun w L hR => ?_
  obtain ⟨ha, as0, as1⟩ := hR
  obtain ⟨rfl, la⟩ := ha.slen
  refine E.seq (E.region (l := [0]) rfl (E.y rfl rfl (by decide) ((Y.as rfl).yd) (E.nil (E.thn (E.seq (E.seq (E.region (l := [0]) rfl (E.y rfl rfl (by decide) ((Y.as rfl).yd) (E.nil (E.thn (E.block (E.loop (κ := Nat) (fun g => g ≤ a.length) (fun g => [(0, .slice a_a a.length c_a), (1, .int .i64 (v + (totS cE_I (a.take g) : Nat))), (5, .int .i64 (↑g : Int))]) (fun g => []) (fun g => a.length - g) 0 (Nat.zero_le _) ⟨rfl, frI (by simp [totS]), rfl, trivial⟩ (.refl _) (fun g pg => ?_)))))))))))))
  have u1 := totS_le (t := cE_I) (l := a) (g := g)
  have u2 := totS_le (t := cE_I) (l := a) (g := g + 1)
  refine E.seq (E.seq (E.region (l := [0, 1, 2, 3]) rfl (E.y rfl rfl (by decide) ((Y.mv rfl).yd) (E.y rfl rfl (by decide) ((Y.mv rfl).yd) (E.y rfl rfl (by decide) ((Y.len us_Is rfl).yd) (E.y rfl rfl (by decide) ((Y.lss rfl rfl).yd) (Ent.d (fun q9 => ?_) (fun q9 => ?_))))))))
  · have u3 := totS_step (t := cE_I) (show g < a.length by omega)
    have u4 : cE_I a[g] = 1 := rfl
    refine E.nil (E.thn (E.ct rfl (E.skipc (E.thn (E.seq (E.block (E.seq (E.seq (E.region (l := [0, 1, 2, 3, 4, 5]) rfl (E.y rfl rfl (by decide) ((Y.mv rfl).yd) (E.y rfl rfl (by decide) ((Y.mv rfl).yd) ?_)))))))))))
    obtain ⟨eb14, eo14, ea14, ei14, eh14⟩ := ha.elemI g (by omega)
    refine E.y rfl rfl (by decide) ((Y.ix us_Is ty_I rfl ea14 rfl g rfl (by omega)).yd) (E.y rfl rfl (by decide) (Y.ld1 ty_I rfl (eh14 _) rfl) (E.y rfl rfl (by decide) ((Y.mv rfl).yd) (E.y rfl rfl (by decide) ((Y.neq rfl rfl).yd) (Ent.d (fun q17 => ?_) (fun q17 => ?_)))))
    · exact absurd (mkL_at hz (show g < a.length by omega)).symm q17
    · refine E.nil (E.thn (E.cf rfl (E.skipc (E.thn (E.region (l := [0, 1, 2]) rfl (E.y rfl rfl (by decide) ((Y.mv rfl).yd) (E.y rfl rfl (by decide) ((Y.add rfl rfl (by omega) (by omega)).yd) (E.y rfl rfl (by decide) ((Y.as rfl).yd) (E.nil (E.bln (E.thn (E.region (l := [0, 1, 2]) rfl (E.y rfl rfl (by decide) ((Y.mv rfl).yd) (E.y rfl rfl (by decide) ((Y.add rfl rfl (by omega) (by omega)).yd) (E.y rfl rfl (by decide) ((Y.as rfl).yd) ?_)))))))))))))))
      exact E.nil (E.thn (E.again (Back.refl _ _) (g + 1) ⟨rfl, frI (by omega), rfl, trivial⟩ (.refl _) (by omega) (by omega)))
  · refine E.nil (E.thn (E.cf rfl (E.exit (E.the (E.the (E.blh (E.thn (E.seq (E.region (l := [0, 1]) rfl (E.y rfl rfl (by decide) ((Y.mv rfl).yd) (E.y rfl rfl (by decide) ((Y.as rfl).yd) ?_)))))))))))
    exact E.nil (E.thn (E.ret (F.r1 (Back.refl _ _) rfl rfl () trivial (congrArg (Value.int .i64) (by rw [totS_all (by omega)])) (J := _) (.refl _) (.inl rfl))))
theorem t_laws_markRule {a_From : Int} {a_To : Int} {a_a_Map : Option Addr} {m_a_Map c_a_Map : Nat} {a_Map : List Int} {v : Int} : Tr Tryd.prog 10 [.agg #[.int .i64 a_From, .int .i64 a_To, .slice a_a_Map m_a_Map c_a_Map], .int .i64 v] (fun w L => I64 a_From ∧ I64 a_To ∧ 0 ≤ v ∧ v + ((totS cE_I a_Map : Nat) : Int) ≤ 4611686018427387904) [ow eIs [.slice a_a_Map m_a_Map c_a_Map] a_Map] (κ := Unit) (fun k => True) (fun k => .int .i64 (v + ((totS cE_I a_Map : Nat) : Int))) (fun k => [ow eIs [.slice a_a_Map m_a_Map c_a_Map] (mkL cE_I mE_I a_Map v)]) := by
  refine Tr.intro Tryd.func10 rfl (n := 10) rfl (by decide +kernel) (Nat.le_of_ble_eq_true rfl) (fr := [(0, .agg #[.int .i64 a_From, .int .i64 a_To, .slice a_a_Map m_a_Map c_a_Map]), (1, .int .i64 v)]) rfl fun w L hR => ?_
  obtain ⟨i6a_From, i6a_To, as0, as1⟩ := hR
  refine Ent.lenow m0 fun ea_Map la_Map => ?_
  subst ea_Map
  refine E.seq (E.region (l := [0, 1]) rfl (E.st rfl rfl (N.box (cs := [_, _, _]) rfl (by decide) rfl) (fun b2 _ => (E.y rfl rfl (by decide) ((Y.as rfl).yd) (E.nil (E.thn (E.seq (E.region (l := [0, 1, 2, 3, 4]) rfl (E.y rfl rfl (by decide) ((Y.fld fo_Rule_2 ty_Is (by decide) rfl).yd) (E.y rfl rfl (by decide) (Y.ld1 ty_Is rfl ((Has.pt m0).sub (cs' := [_]) 2 rfl) rfl) (E.y rfl rfl (by decide) ((Y.mv rfl).yd) (Ent.p1 (E.st rfl rfl (N.call (pre := [_]) t_laws_markIntS rfl rfl rfl (by decide) rfl (fun w Lp hA => ⟨(by first | assumption | omega), (by first | assumption | omega)⟩)) (fun _ _ => (E.y rfl rfl (by decide) ((Y.as rfl).yd) (E.nil (E.thn (E.seq (E.region (l := [0, 1]) rfl (E.y rfl rfl (by decide) ((Y.mv rfl).yd) (E.y rfl rfl (by decide) ((Y.as rfl).yd) ?_)))))))))))))))))))))
  exact E.nil (E.thn (E.ret (F.r1 (Back.refl _ _) rfl rfl () trivial (by rw [show (v + ((totS cE_I a_Map : Nat) : Int)) = (v + (totS cE_I a_Map : Nat)) from (by first | rfl | omega | (congr 1; omega))]; try rfl) (J := _) (.refl _) (.inl rfl))))
theorem t_laws_heldRule {a_From : Int} {a_To : Int} {a_a_Map : Option Addr} {m_a_Map c_a_Map : Nat} {a_Map : List Int} {v : Int} (hz0 : mkL cE_I mE_I a_Map v = a_Map) : Tr Tryd.prog 11 [.agg #[.int .i64 a_From, .int .i64 a_To, .slice a_a_Map m_a_Map c_a_Map], .int .i64 v] (fun w L => I64 a_From ∧ I64 a_To ∧ Ro w L eIs [.slice a_a_Map m_a_Map c_a_Map] a_Map ∧ 0 ≤ v ∧ v + ((totS cE_I a_Map : Nat) : Int) ≤ 4611686018427387904) [] (κ := Unit) (fun k => True) (fun k => .int .i64 (v + ((totS cE_I a_Map : Nat) : Int))) (fun k => []) := by
  refine Tr.intro Tryd.func11 rfl (n := 12) rfl (by decide +kernel) (Nat.le_of_ble_eq_true rfl) (fr := [(0, .agg #[.int .i64 a_From, .int .i64 a_To, .slice a_a_Map m_a_Map c_a_Map]), (1, .int .i64 v)]) rfl fun w L hR => ?_
  obtain ⟨i6a_From, i6a_To, ha_Map, as0, as1⟩ := hR
  obtain ⟨rfl, la_Map⟩ := ha_Map.slen
  refine E.seq (E.region (l := [0, 1]) rfl (E.st rfl rfl (N.box (cs := [_, _, _]) rfl (by decide) rfl) (fun b2 _ => (E.y rfl rfl (by decide) ((Y.as rfl).yd) (E.nil (E.thn (E.seq (E.region (l := [0, 1, 2, 3, 4]) rfl (E.y rfl rfl (by decide) ((Y.fld fo_Rule_2 ty_Is (by decide) rfl).yd) (E.y rfl rfl (by decide) (Y.ld1 ty_Is rfl ((Has.pt m0).sub (cs' := [_]) 2 rfl) rfl) (E.y rfl rfl (by decide) ((Y.mv rfl).yd) (E.st rfl rfl (N.call0 (t_laws_heldIntS (by first | omega | assumption | (constructor <;> omega))) rfl rfl rfl (by decide) (fun w Lp hA => ⟨hA.ro ha_Map, (by first | assumption | omega), (by first | assumption | omega)⟩)) (fun _ _ => (E.y rfl rfl (by decide) ((Y.as rfl).yd) (E.nil (E.thn (E.seq (E.seq (E.region (l := [0, 1]) rfl (E.y rfl rfl (by decide) ((Y.mv rfl).yd) (E.y rfl rfl (by decide) ((Y.lss rfl rfl).yd) (Ent.d (fun q10 => ?_) (fun q10 => ?_)))))))))))))))))))))))
  · exact absurd q10 (by omega)
  · refine E.nil (E.thn (E.cf rfl (E.skipc (E.thn (E.seq (E.region (l := [0, 1]) rfl (E.y rfl rfl (by decide) ((Y.mv rfl).yd) (E.y rfl rfl (by decide) ((Y.as rfl).yd) ?_))))))))
    exact E.nil (E.thn (E.ret (F.r1 (Back.refl _ _) rfl rfl () trivial (congrArg (Value.int .i64) (by first | rfl | omega)) (J := _) (.refl _) (.inl rfl))))
end Go.Proofs.YtmogfmnamhhbnaaDoor
