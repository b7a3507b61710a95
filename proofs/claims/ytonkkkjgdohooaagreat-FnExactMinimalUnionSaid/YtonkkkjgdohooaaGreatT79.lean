import Derived.Test.YtonkkkjgdohooaaGreatT78
import Derived.Test.YtonkkkjgdohooaaGreatT4
import Derived.Test.YtonkkkjgdohooaaGreatT5
namespace Go.Proofs.YtonkkkjgdohooaaGreat
open Go.RowKit
set_option linter.unusedVariables false
set_option linter.unusedSimpArgs false
set_option maxHeartbeats 2000000
attribute [local irreducible] Nop Yd Yp Ent Has Tr FnP FnP2 Src listsF opnF opn1 opnR chainB
theorem t_laws_markQueryS {a_a : Option Addr} {m_a c_a : Nat} {a : List (List Int × List (Int × List Int))} {v : Int} : Tr Tryz.prog 30 [.slice a_a m_a c_a, .int .i64 v] (fun w L => 0 ≤ v ∧ v + ((totS cE_Query a : Nat) : Int) ≤ 4611686018427387904) [ow eQuerys [.slice a_a m_a c_a] a] (κ := Unit) (fun k => True) (fun k => .int .i64 (v + (totS cE_Query a : Nat))) (fun k => [ow eQuerys [.slice a_a m_a c_a] (mkL cE_Query mE_Query a v)]) := by
  refine Tr.intro Tryz.func30 rfl (n := 27) rfl (by decide +kernel) (Nat.le_of_ble_eq_true rfl) (fr := [(0, .slice a_a m_a c_a), (1, .int .i64 v)]) rfl fun w L hR => ?_
  obtain ⟨as0, as1⟩ := hR
  refine Ent.lenow m0 fun ea la => ?_
  subst ea
  refine E.seq (E.region (l := [0]) rfl (E.y rfl rfl (by decide) ((Y.as rfl).yd) (E.nil (E.thn (E.seq (E.seq (E.region (l := [0]) rfl (E.y rfl rfl (by decide) ((Y.as rfl).yd) (E.nil (E.thn (E.block (E.loop (κ := Nat) (fun g => g ≤ a.length) (fun g => [(0, .slice a_a a.length c_a), (1, .int .i64 (v + (totS cE_Query (a.take g) : Nat))), (5, .int .i64 (↑g : Int))]) (fun g => [ow eQuerys [.slice a_a a.length c_a] (mkL cE_Query mE_Query (a.take g) v ++ a.drop g)]) (fun g => a.length - g) 0 (Nat.zero_le _) ⟨rfl, frI (by simp [totS]), rfl, trivial⟩ (.refl _) (fun g pg => ?_)))))))))))))
  have u1 := totS_le (t := cE_Query) (l := a) (g := g)
  have u2 := totS_le (t := cE_Query) (l := a) (g := g + 1)
  have hlen : (mkL cE_Query mE_Query (a.take g) v ++ a.drop g).length = a.length := by rw [List.length_append, mkL_len, ← List.length_append, List.take_append_drop]
  refine E.seq (E.seq (E.region (l := [0, 1, 2, 3]) rfl (E.y rfl rfl (by decide) ((Y.mv rfl).yd) (E.y rfl rfl (by decide) ((Y.mv rfl).yd) (E.y rfl rfl (by decide) ((Y.len us_Querys rfl).yd) (E.y rfl rfl (by decide) ((Y.lss rfl rfl).yd) (Ent.d (fun q9 => ?_) (fun q9 => ?_))))))))
  · have u3 := totS_step (t := cE_Query) (show g < a.length by omega)
    have u4 : cE_Query a[g] = totS cE_I a[g].1 + totS cE_Atom a[g].2 := rfl
    refine E.nil (E.thn (E.ct rfl (E.skipc (E.thn (E.seq (E.block (E.seq (E.region (l := [0, 1, 2, 3, 4, 5, 6, 7]) rfl (E.y rfl rfl (by decide) ((Y.mv rfl).yd) (E.y rfl rfl (by decide) ((Y.mv rfl).yd) (Ent.adr m0 (by omega) fun ab14 ae14 => (Ent.open (x := a[g]) g (mk_get (show g < a.length by omega)) fun ce14 => (Ent.p1 (Ent.oQuery fun oa14_0 om14_0 oc14_0 oa14_1 om14_1 oc14_1 oe14 on14_0 on14_1 => ?_))))))))))))))
    subst oe14
    subst on14_0
    subst on14_1
    refine E.y rfl rfl (by decide) ((Y.ix us_Querys ty_Query rfl ae14 rfl g rfl (by omega)).yd) (E.y rfl rfl (by decide) ((Y.fld fo_Query_0 ty_Is (by decide) rfl).yd) (E.y rfl rfl (by decide) (Y.ld1 ty_Is rfl ((Has.hole ae14 (mS (mS m0))).sub (cs' := [_]) 0 rfl) rfl) (E.y rfl rfl (by decide) ((Y.mv rfl).yd) (E.st rfl rfl (N.call (pre := [_]) t_laws_markIntS rfl rfl rfl (by decide) rfl (fun w Lp hA => ⟨(by first | assumption | omega), (by first | assumption | omega)⟩)) (fun _ _ => (E.y rfl rfl (by decide) ((Y.as rfl).yd) (E.nil (E.thn (E.region (l := [0, 1, 2, 3, 4, 5, 6, 7]) rfl (E.y rfl rfl (by decide) ((Y.mv rfl).yd) (E.y rfl rfl (by decide) ((Y.mv rfl).yd) (E.y rfl rfl (by decide) ((Y.ix us_Querys ty_Query rfl ae14 rfl g rfl (by omega)).yd) (E.y rfl rfl (by decide) ((Y.fld fo_Query_1 ty_Atoms (by decide) rfl).yd) (E.y rfl rfl (by decide) (Y.ld1 ty_Atoms rfl ((Has.hole ae14 (mS (mS m0))).sub (cs' := [_]) 1 rfl) rfl) (E.y rfl rfl (by decide) ((Y.mv rfl).yd) (Ent.p1 (E.st rfl rfl (N.call (pre := [_]) t_laws_markAtomS rfl rfl rfl (by decide) rfl (fun w Lp hA => ⟨(by first | assumption | omega), (by first | assumption | omega)⟩)) (fun _ _ => (E.y rfl rfl (by decide) ((Y.as rfl).yd) ?_)))))))))))))))))))
    refine E.nil (E.bln (E.thn (E.region (l := [0, 1, 2]) rfl (E.y rfl rfl (by decide) ((Y.mv rfl).yd) (E.y rfl rfl (by decide) ((Y.add rfl rfl (by omega) (by omega)).yd) (E.y rfl rfl (by decide) ((Y.as rfl).yd) (E.nil (E.thn (Ent.p1 (Ent.p2 (Ent.shut (Own.mkQuery (x := (mkL cE_I mE_I a[g].1 (v + (totS cE_Query (a.take g) : Nat)), mkL cE_Atom mE_Atom a[g].2 ((v + (totS cE_Query (a.take g) : Nat)) + (totS cE_I a[g].1 : Nat)))) Own.ow Own.ow) rfl ?_)))))))))))
    exact E.again (Back.refl _ _) (g + 1) ⟨rfl, frI (by omega), rfl, trivial⟩ (permOw (mk_set (c := cE_Query) (m := mE_Query) (show g < a.length by omega) rfl)) (by omega) (by omega)
  · refine E.nil (E.thn (E.cf rfl (E.exit (E.the (E.the (E.blh (E.thn (E.seq (E.region (l := [0, 1]) rfl (E.y rfl rfl (by decide) ((Y.mv rfl).yd) (E.y rfl rfl (by decide) ((Y.as rfl).yd) (E.nil (E.thn (E.ret (Ent.cv (congrArg (ow eQuerys [_]) (show mkL cE_Query mE_Query (a.take g) v ++ a.drop g = mkL cE_Query mE_Query a v from by first | exact mk_all (by omega) | (rw [totS_all (by omega)]))) ?_)))))))))))))))
    exact F.r1 (Back.refl _ _) rfl rfl () trivial (by rw [show (v + (totS cE_Query a : Nat)) = (v + (totS cE_Query (a.take g) : Nat)) from (by first | exact mk_all (by omega) | (rw [totS_all (by omega)]))]; try rfl) (J := _) (.refl _) (.inl rfl)
theorem t_laws_heldQueryS {a_a : Option Addr} {m_a c_a : Nat} {a : List (List Int × List (Int × List Int))} {v : Int} (hz : mkL cE_Query mE_Query a v = a) : Tr Tryz.prog 53 [.slice a_a m_a c_a, .int .i64 v] (fun w L => Ro w L eQuerys [.slice a_a m_a c_a] a ∧ 0 ≤ v ∧ v + ((totS cE_Query a : Nat) : Int) ≤ 4611686018427387904) [] (κ := Unit) (fun k => True) (fun k => .int .i64 (v + (totS cE_Query a : Nat))) (fun k => []) := by
  refine Tr.intro Tryz.func53 rfl (n := 31) rfl (by decide +kernel) (Nat.le_of_ble_eq_true rfl) (fr := [(0, .slice a_a m_a c_a), (1, .int .i64 v)]) rfl fun w L hR => ?_
  obtain ⟨ha, as0, as1⟩ := hR
  obtain ⟨rfl, la⟩ := ha.slen
  refine E.seq (E.region (l := [0]) rfl (E.y rfl rfl (by decide) ((Y.as rfl).yd) (E.nil (E.thn (E.seq (E.seq (E.region (l := [0]) rfl (E.y rfl rfl (by decide) ((Y.as rfl).yd) (E.nil (E.thn (E.block (E.loop (κ := Nat) (fun g => g ≤ a.length) (fun g => [(0, .slice a_a a.length c_a), (1, .int .i64 (v + (totS cE_Query (a.take g) : Nat))), (5, .int .i64 (↑g : Int))]) (fun g => []) (fun g => a.length - g) 0 (Nat.zero_le _) ⟨rfl, frI (by simp [totS]), rfl, trivial⟩ (.refl _) (fun g pg => ?_)))))))))))))
  have u1 := totS_le (t := cE_Query) (l := a) (g := g)
  have u2 := totS_le (t := cE_Query) (l := a) (g := g + 1)
  refine E.seq (E.seq (E.region (l := [0, 1, 2, 3]) rfl (E.y rfl rfl (by decide) ((Y.mv rfl).yd) (E.y rfl rfl (by decide) ((Y.mv rfl).yd) (E.y rfl rfl (by decide) ((Y.len us_Querys rfl).yd) (E.y rfl rfl (by decide) ((Y.lss rfl rfl).yd) (Ent.d (fun q9 => ?_) (fun q9 => ?_))))))))
  · have u3 := totS_step (t := cE_Query) (show g < a.length by omega)
    have u4 : cE_Query a[g] = totS cE_I a[g].1 + totS cE_Atom a[g].2 := rfl
    refine E.nil (E.thn (E.ct rfl (E.skipc (E.thn (E.seq (E.block (E.seq (E.region (l := [0, 1, 2, 3, 4, 5, 6, 7]) rfl (E.y rfl rfl (by decide) ((Y.mv rfl).yd) (E.y rfl rfl (by decide) ((Y.mv rfl).yd) ?_))))))))))
    obtain ⟨eb14, eo14, ec14, ea14, er14, el14, eh14⟩ := ha.elem g (by omega)
    obtain ⟨xa14_0, xc14_0, xa14_1, xc14_1, rfl, xh14_0, xh14_1⟩ := Ro.pQuery er14
    have := xh14_0.slen.2
    have := xh14_1.slen.2
    refine E.y rfl rfl (by decide) ((Y.ix us_Querys ty_Query rfl ea14 rfl g rfl (by omega)).yd) (E.y rfl rfl (by decide) ((Y.fld fo_Query_0 ty_Is (by decide) rfl).yd) (E.y rfl rfl (by decide) (Y.ld1 ty_Is rfl ((eh14 _).sub (cs' := [_]) 0 rfl) rfl) (E.y rfl rfl (by decide) ((Y.mv rfl).yd) (E.st rfl rfl (N.call0 (t_laws_heldIntS (congrArg (fun z => z.1) (mkL_at hz (show g < a.length by omega)))) rfl rfl rfl (by decide) (fun w Lp hA => ⟨hA.ro xh14_0, (by first | assumption | omega), (by first | assumption | omega)⟩)) (fun _ _ => (E.y rfl rfl (by decide) ((Y.as rfl).yd) (E.nil (E.thn (E.seq (E.seq (E.region (l := [0, 1]) rfl (E.y rfl rfl (by decide) ((Y.mv rfl).yd) (E.y rfl rfl (by decide) ((Y.lss rfl rfl).yd) (Ent.d (fun q20 => ?_) (fun q20 => ?_)))))))))))))))
    · exact absurd q20 (by omega)
    · refine E.nil (E.thn (E.cf rfl (E.skipc (E.thn (E.seq (E.region (l := [0, 1, 2, 3, 4, 5, 6, 7]) rfl (E.y rfl rfl (by decide) ((Y.mv rfl).yd) (E.y rfl rfl (by decide) ((Y.mv rfl).yd) (E.y rfl rfl (by decide) ((Y.ix us_Querys ty_Query rfl ea14 rfl g rfl (by omega)).yd) (E.y rfl rfl (by decide) ((Y.fld fo_Query_1 ty_Atoms (by decide) rfl).yd) (E.y rfl rfl (by decide) (Y.ld1 ty_Atoms rfl ((eh14 _).sub (cs' := [_]) 1 rfl) rfl) (E.y rfl rfl (by decide) ((Y.mv rfl).yd) (E.st rfl rfl (N.call0 (t_laws_heldAtomS (congrArg (fun z => z.2) (mkL_at hz (show g < a.length by omega)))) rfl rfl rfl (by decide) (fun w Lp hA => ⟨hA.ro xh14_1, (by first | assumption | omega), (by first | assumption | omega)⟩)) (fun _ _ => (E.y rfl rfl (by decide) ((Y.as rfl).yd) (E.nil (E.thn (E.seq (E.region (l := [0, 1]) rfl (E.y rfl rfl (by decide) ((Y.mv rfl).yd) (E.y rfl rfl (by decide) ((Y.lss rfl rfl).yd) (Ent.d (fun q29 => ?_) (fun q29 => ?_)))))))))))))))))))))))
      · exact absurd q29 (by omega)
      · refine E.nil (E.thn (E.cf rfl (E.skipc (E.bln (E.thn (E.region (l := [0, 1, 2]) rfl (E.y rfl rfl (by decide) ((Y.mv rfl).yd) (E.y rfl rfl (by decide) ((Y.add rfl rfl (by omega) (by omega)).yd) (E.y rfl rfl (by decide) ((Y.as rfl).yd) ?_)))))))))
        exact E.nil (E.thn (E.again (Back.refl _ _) (g + 1) ⟨rfl, frI (by omega), rfl, trivial⟩ (.refl _) (by omega) (by omega)))
  · refine E.nil (E.thn (E.cf rfl (E.exit (E.the (E.the (E.blh (E.thn (E.seq (E.region (l := [0, 1]) rfl (E.y rfl rfl (by decide) ((Y.mv rfl).yd) (E.y rfl rfl (by decide) ((Y.as rfl).yd) ?_)))))))))))
    exact E.nil (E.thn (E.ret (F.r1 (Back.refl _ _) rfl rfl () trivial (congrArg (Value.int .i64) (by rw [totS_all (by omega)])) (J := _) (.refl _) (.inl rfl))))
theorem t_laws_FnExactMinimalUnion {a_aS : Option Addr} {m_aS c_aS : Nat} {aS : List Int} {a_aU : Option Addr} {m_aU c_aU : Nat} {aU : List (List Int × List (Int × List Int))} : Tr Tryz.prog 6 [.slice a_aS m_aS c_aS, .slice a_aU m_aU c_aU] (fun w L => Ro w L eIs [.slice a_aS m_aS c_aS] aS ∧ Ro w L eQuerys [.slice a_aU m_aU c_aU] aU) [] (κ := Unit) (fun k => True) (fun k => .bool (true)) (fun k => []) := by
  refine Tr.intro Tryz.func6 rfl (n := 90) rfl (by decide +kernel) (Nat.le_of_ble_eq_true rfl) (fr := [(0, .slice a_aS m_aS c_aS), (1, .slice a_aU m_aU c_aU)]) rfl fun w L hR => ?_
  obtain ⟨haS, haU⟩ := hR
  obtain ⟨rfl, laS⟩ := haS.slen
  obtain ⟨rfl, laU⟩ := haU.slen
  have jb_aS := totS_I (l := aS)
  have jb_aU := totS_lin (c := cE_Query) (t := (fun x => x.1.length + totL (fun x => x.2.length) x.2)) (n := 0) (fun x => by have h1 := totS_lin (c := cE_Atom) (t := fun x => x.2.length) (n := 1) (fun x => by simp only [cE_Atom, totS_I]; omega) (l := x.2); simp only [cE_Query, totS_I, totL] at h1 ⊢; omega) (l := aU)
  have jc_aU : totL (fun x => x.1.length + totL (fun x => x.2.length) x.2) aU = aU.length + totS (fun x => x.1.length + totL (fun x => x.2.length) x.2) aU := rfl
  have r1 := mnu_tot (s := aS) (u := aU) (c := cE_Query)
  refine E.seq (E.region (l := [0]) rfl (E.y rfl rfl (by decide) ((Y.as rfl).yd) (E.nil (E.thn (E.seq (E.seq (E.region (l := [0, 1, 2]) rfl (E.y rfl rfl (by decide) ((Y.mv rfl).yd) (E.y rfl rfl (by decide) ((Y.len us_Is rfl).yd) (E.y rfl rfl (by decide) ((Y.gtr rfl rfl).yd) (Ent.d (fun q16 => ?_) (fun q16 => ?_))))))))))))
  · refine E.nil (E.thn (E.ct rfl (E.seq (E.region (l := [0]) rfl (E.y rfl rfl (by decide) ((Y.as rfl).yd) ?_)))))
    exact E.nil (E.thn (E.ret (E.thr (F.r1 (Back.refl _ _) rfl rfl () trivial rfl (J := _) (.refl _) (.inl rfl)))))
  · refine E.nil (E.thn (E.cf rfl (E.skipc (E.thn (E.seq (E.region (l := [0]) rfl (E.y rfl rfl (by decide) ((Y.as rfl).yd) (E.nil (E.thn (E.seq (E.region (l := [0, 1, 2, 3]) rfl (E.y rfl rfl (by decide) ((Y.mv rfl).yd) (E.y rfl rfl (by decide) ((Y.mv rfl).yd) (E.st rfl rfl (N.call0 t_laws_szQueryS rfl rfl rfl (by decide) (fun w Lp hA => ⟨hA.ro haU, (by first | assumption | omega), (by first | assumption | omega)⟩)) (fun _ _ => (E.y rfl rfl (by decide) ((Y.as rfl).yd) (E.nil (E.thn (E.seq (E.seq (E.region (l := [0, 1]) rfl (E.y rfl rfl (by decide) ((Y.mv rfl).yd) (E.y rfl rfl (by decide) ((Y.lss rfl rfl).yd) (Ent.d (fun q21 => ?_) (fun q21 => ?_)))))))))))))))))))))))))
    · have z21 := szR_bad q21 (by omega)
      refine E.nil (E.thn (E.ct rfl (E.seq (E.region (l := [0]) rfl (E.y rfl rfl (by decide) ((Y.as rfl).yd) ?_)))))
      exact E.nil (E.thn (E.ret (E.thr (F.r1 (Back.refl _ _) rfl rfl () trivial rfl (J := _) (.refl _) (.inl rfl)))))
    · obtain ⟨z21, y21⟩ := szR_ok q21 (by omega)
      refine E.nil (E.thn (E.cf rfl (E.skipc (E.thn (E.seq (E.region (l := [0, 1, 2, 3, 4, 5]) rfl (E.y rfl rfl (by decide) ((Y.mv rfl).yd) (E.st rfl rfl (N.call (t_laws_toIntS (by first | omega | assumption)) rfl rfl rfl (by decide) rfl (fun w Lp hA => hA.ro haS)) (fun k23 _ => ?_)))))))))
      obtain ⟨a23, m23, c23⟩ := k23
      refine Ent.lenow m0 fun e23 l23 => ?_
      subst e23
      refine E.y rfl rfl (by decide) ((Y.mv rfl).yd) (E.st rfl rfl (N.call (t_laws_toQueryS (by first | omega | assumption)) rfl rfl rfl (by decide) rfl (fun w Lp hA => hA.ro haU)) (fun k25 _ => ?_))
      obtain ⟨a25, m25, c25⟩ := k25
      refine Ent.lenow m0 fun e25 l25 => ?_
      subst e25
      refine E.st rfl rfl (N.call (t_spec_MinimalUnion (union_len (u := aU) (by omega)) (union_lenh (u := aU) (by omega)) (by first | omega | assumption)) rfl rfl rfl (by decide) rfl (fun w Lp hA => ⟨hA.ow (mS m0), hA.ow m0⟩)) (fun k26 _ => ?_)
      obtain ⟨a26, m26, c26⟩ := k26
      refine Ent.lenow m0 fun e26 l26 => ?_
      subst e26
      refine E.y rfl rfl (by decide) ((Y.as rfl).yd) (E.nil (E.thn (E.seq (E.region (l := [0, 1, 2]) rfl (E.y rfl rfl (by decide) ((Y.mv rfl).yd) (E.st rfl rfl (N.call (t_laws_toIntS (by first | omega | assumption)) rfl rfl rfl (by decide) rfl (fun w Lp hA => hA.ro haS)) (fun k28 _ => ?_)))))))
      obtain ⟨a28, m28, c28⟩ := k28
      refine Ent.lenow m0 fun e28 l28 => ?_
      subst e28
      refine E.y rfl rfl (by decide) ((Y.as rfl).yd) (E.nil (E.thn (E.seq (E.region (l := [0, 1, 2]) rfl (E.y rfl rfl (by decide) ((Y.mv rfl).yd) (E.st rfl rfl (N.call (t_laws_toQueryS (by first | omega | assumption)) rfl rfl rfl (by decide) rfl (fun w Lp hA => hA.ro haU)) (fun k30 _ => ?_)))))))
      obtain ⟨a30, m30, c30⟩ := k30
      refine Ent.lenow m0 fun e30 l30 => ?_
      subst e30
      refine E.y rfl rfl (by decide) ((Y.as rfl).yd) (E.nil (E.thn (E.seq (E.region (l := [0, 1, 2, 3]) rfl (E.y rfl rfl (by decide) ((Y.mv rfl).yd) (E.y rfl rfl (by decide) ((Y.mv rfl).yd) (E.st rfl rfl (N.call (t_impl_MinimalUnion (union_len (u := aU) (by omega)) (union_lenh (u := aU) (by omega)) (by first | omega | assumption)) rfl rfl rfl (by decide) rfl (fun w Lp hA => ⟨hA.ow (mS m0), hA.ow m0⟩)) (fun k33 _ => ?_))))))))
      obtain ⟨a33, m33, c33⟩ := k33
      refine Ent.lenow m0 fun e33 l33 => ?_
      subst e33
      refine E.y rfl rfl (by decide) ((Y.as rfl).yd) (E.nil (E.thn (E.seq (E.seq (E.region (l := [0, 1, 2, 3]) rfl (E.y rfl rfl (by decide) ((Y.mv rfl).yd) (E.y rfl rfl (by decide) ((Y.mv rfl).yd) (E.st rfl rfl (N.call0 t_laws_eqQueryS rfl rfl rfl (by decide) (fun w Lp hA => ⟨hA.ow m0, hA.ow (mS (mS (mS m0)))⟩)) (fun _ _ => (Ent.b (fun q36 => ?_) (fun q36 => ?_)))))))))))
      · refine E.y rfl rfl (by decide) ((Y.not (b := true) rfl).yd) (E.nil (E.thn (E.cf rfl (E.skipc (E.thn (E.seq (E.seq (E.region (l := [0, 1, 2, 3, 4]) rfl (E.y rfl rfl (by decide) ((Y.mv rfl).yd) (E.y rfl rfl (by decide) ((Y.mv rfl).yd) (E.st rfl rfl (N.call (t_laws_toIntS (by first | omega | assumption)) rfl rfl rfl (by decide) rfl (fun w Lp hA => hA.ro haS)) (fun k40 _ => ?_))))))))))))
        obtain ⟨a40, m40, c40⟩ := k40
        refine Ent.lenow m0 fun e40 l40 => ?_
        subst e40
        refine E.st rfl rfl (N.call0 t_laws_eqIntS rfl rfl rfl (by decide) (fun w Lp hA => ⟨hA.ow (mS (mS (mS m0))), hA.ow m0⟩)) (fun _ _ => (Ent.b (fun q41 => ?_) (fun q41 => ?_)))
        · refine E.y rfl rfl (by decide) ((Y.not (b := true) rfl).yd) (E.nil (E.thn (E.cf rfl (E.skipc (E.thn (E.seq (E.seq (E.region (l := [0, 1, 2, 3, 4]) rfl (E.y rfl rfl (by decide) ((Y.mv rfl).yd) (E.y rfl rfl (by decide) ((Y.mv rfl).yd) (E.st rfl rfl (N.call (t_laws_toQueryS (by first | omega | assumption)) rfl rfl rfl (by decide) rfl (fun w Lp hA => hA.ro haU)) (fun k45 _ => ?_))))))))))))
          obtain ⟨a45, m45, c45⟩ := k45
          refine Ent.lenow m0 fun e45 l45 => ?_
          subst e45
          refine E.st rfl rfl (N.call0 t_laws_eqQueryS rfl rfl rfl (by decide) (fun w Lp hA => ⟨hA.ow (mS (mS (mS m0))), hA.ow m0⟩)) (fun _ _ => (Ent.b (fun q46 => ?_) (fun q46 => ?_)))
          · refine E.y rfl rfl (by decide) ((Y.not (b := true) rfl).yd) (E.nil (E.thn (E.cf rfl (E.skipc (E.thn (E.seq (E.region (l := [0]) rfl (E.y rfl rfl (by decide) ((Y.as rfl).yd) (E.nil (E.thn (E.seq (E.region (l := [0, 1, 2, 3]) rfl (E.y rfl rfl (by decide) ((Y.mv rfl).yd) (E.y rfl rfl (by decide) ((Y.mv rfl).yd) (Ent.p4 (E.st rfl rfl (N.call (pre := [_]) t_laws_markIntS rfl rfl rfl (by decide) rfl (fun w Lp hA => ⟨(by first | assumption | omega), (by first | assumption | omega)⟩)) (fun _ _ => (E.y rfl rfl (by decide) ((Y.as rfl).yd) (E.nil (E.thn (E.seq (E.region (l := [0, 1, 2, 3]) rfl (E.y rfl rfl (by decide) ((Y.mv rfl).yd) (E.y rfl rfl (by decide) ((Y.mv rfl).yd) (Ent.p4 (E.st rfl rfl (N.call (pre := [_]) t_laws_markQueryS rfl rfl rfl (by decide) rfl (fun w Lp hA => ⟨(by first | assumption | omega), (by first | assumption | omega)⟩)) (fun _ _ => (E.y rfl rfl (by decide) ((Y.as rfl).yd) (E.nil (E.thn (E.seq (E.seq (E.region (l := [0, 1, 2, 3, 4, 5, 6, 7]) rfl (E.y rfl rfl (by decide) ((Y.mv rfl).yd) (E.y rfl rfl (by decide) ((Y.lss rfl rfl).yd) (Ent.d (fun q55 => ?_) (fun q55 => ?_)))))))))))))))))))))))))))))))))))))
            · exact absurd q55 (by omega)
            · refine E.y rfl rfl (by decide) ((Y.mv rfl).yd) (E.y rfl rfl (by decide) ((Y.mv rfl).yd) (E.y rfl rfl (by decide) ((Y.mv rfl).yd) (E.st rfl rfl (N.call0 t_laws_eqQueryS rfl rfl rfl (by decide) (fun w Lp hA => ⟨hA.ow (mS (mS (mS (mS m0)))), hA.ow (mS (mS (mS (mS (mS m0)))))⟩)) (fun _ _ => (Ent.b (fun q59 => ?_) (fun q59 => ?_))))))
              · refine E.y rfl rfl (by decide) ((Y.not (b := true) rfl).yd) (E.y rfl rfl (by decide) ((Y.pkf rfl rfl).yd) (E.nil (E.thn (E.cf rfl (E.skipc (E.thn (E.seq (E.region (l := [0]) rfl (E.y rfl rfl (by decide) ((Y.as rfl).yd) (E.nil (E.thn (E.seq (E.region (l := [0, 1, 2, 3]) rfl (E.y rfl rfl (by decide) ((Y.mv rfl).yd) (E.y rfl rfl (by decide) ((Y.mv rfl).yd) (Ent.p4 (E.st rfl rfl (N.call (pre := [_]) t_laws_markQueryS rfl rfl rfl (by decide) rfl (fun w Lp hA => ⟨(by first | assumption | omega), (by first | assumption | omega)⟩)) (fun _ _ => (E.y rfl rfl (by decide) ((Y.as rfl).yd) (E.nil (E.thn (E.seq (E.region (l := [0]) rfl (E.y rfl rfl (by decide) ((Y.as rfl).yd) (E.nil (E.thn (E.seq (E.region (l := [0, 1, 2, 3]) rfl (E.y rfl rfl (by decide) ((Y.mv rfl).yd) (E.y rfl rfl (by decide) ((Y.mv rfl).yd) (E.st rfl rfl (N.call0 (t_laws_heldQueryS (mkL_mk cm_Query mm_Query)) rfl rfl rfl (by decide) (fun w Lp hA => ⟨hA.ow m0, (by (try simp only [mkL_c cm_I, mkL_c cm_Is, mkL_c cm_Fact, mkL_c cm_Facts, mkL_c cm_Atom, mkL_c cm_Atoms, mkL_c cm_Access, mkL_c cm_Accesss, mkL_c cm_Step, mkL_c cm_Steps, mkL_c cm_Query, mkL_c cm_Querys, mkL_c cm_Binding, mkL_c cm_Bindings, mkL_c cm_Method, mkL_c cm_Methods, mkL_c cm_Rule, mkL_c cm_Rules, mkL_c cm_Line, mkL_c cm_Lines]); omega), (by (try simp only [mkL_c cm_I, mkL_c cm_Is, mkL_c cm_Fact, mkL_c cm_Facts, mkL_c cm_Atom, mkL_c cm_Atoms, mkL_c cm_Access, mkL_c cm_Accesss, mkL_c cm_Step, mkL_c cm_Steps, mkL_c cm_Query, mkL_c cm_Querys, mkL_c cm_Binding, mkL_c cm_Bindings, mkL_c cm_Method, mkL_c cm_Methods, mkL_c cm_Rule, mkL_c cm_Rules, mkL_c cm_Line, mkL_c cm_Lines]); omega)⟩)) (fun _ _ => (E.y rfl rfl (by decide) ((Y.as rfl).yd) (E.nil (E.thn (E.seq (E.seq (E.region (l := [0, 1]) rfl (E.y rfl rfl (by decide) ((Y.mv rfl).yd) (E.y rfl rfl (by decide) ((Y.lss rfl rfl).yd) (Ent.d (fun q69 => ?_) (fun q69 => ?_))))))))))))))))))))))))))))))))))))))))))
                · exact absurd q69 (by omega)
                · refine E.nil (E.thn (E.cf rfl (E.skipc (E.thn (E.seq (E.seq (E.region (l := [0, 1, 2]) rfl (E.y rfl rfl (by decide) ((Y.mv rfl).yd) (E.y rfl rfl (by decide) ((Y.mv rfl).yd) (E.y rfl rfl (by decide) ((Y.neq rfl rfl).yd) (Ent.d (fun q72 => ?_) (fun q72 => ?_))))))))))))
                  · exact absurd (by simp only [mkL_c cm_I, mkL_c cm_Is, mkL_c cm_Fact, mkL_c cm_Facts, mkL_c cm_Atom, mkL_c cm_Atoms, mkL_c cm_Access, mkL_c cm_Accesss, mkL_c cm_Step, mkL_c cm_Steps, mkL_c cm_Query, mkL_c cm_Querys, mkL_c cm_Binding, mkL_c cm_Bindings, mkL_c cm_Method, mkL_c cm_Methods, mkL_c cm_Rule, mkL_c cm_Rules, mkL_c cm_Line, mkL_c cm_Lines]) q72
                  · refine E.nil (E.thn (E.cf rfl (E.skipc (E.thn (E.seq (E.region (l := [0, 1, 2, 3, 4, 5]) rfl (E.y rfl rfl (by decide) ((Y.mv rfl).yd) (E.st rfl rfl (N.call (t_laws_toIntS (by first | omega | assumption)) rfl rfl rfl (by decide) rfl (fun w Lp hA => hA.ro haS)) (fun k74 _ => ?_)))))))))
                    obtain ⟨a74, m74, c74⟩ := k74
                    refine Ent.lenow m0 fun e74 l74 => ?_
                    subst e74
                    refine E.y rfl rfl (by decide) ((Y.mv rfl).yd) (E.st rfl rfl (N.call (t_laws_toQueryS (by first | omega | assumption)) rfl rfl rfl (by decide) rfl (fun w Lp hA => hA.ro haU)) (fun k76 _ => ?_))
                    obtain ⟨a76, m76, c76⟩ := k76
                    refine Ent.lenow m0 fun e76 l76 => ?_
                    subst e76
                    refine E.st rfl rfl (N.call (t_impl_MinimalUnion (union_len (u := aU) (by omega)) (union_lenh (u := aU) (by omega)) (by first | omega | assumption)) rfl rfl rfl (by decide) rfl (fun w Lp hA => ⟨hA.ow (mS m0), hA.ow m0⟩)) (fun k77 _ => ?_)
                    obtain ⟨a77, m77, c77⟩ := k77
                    refine Ent.lenow m0 fun e77 l77 => ?_
                    subst e77
                    refine E.y rfl rfl (by decide) ((Y.as rfl).yd) (E.nil (E.thn (E.seq (E.seq (E.region (l := [0, 1, 2, 3]) rfl (E.y rfl rfl (by decide) ((Y.mv rfl).yd) (E.y rfl rfl (by decide) ((Y.mv rfl).yd) (E.st rfl rfl (N.call0 t_laws_eqQueryS rfl rfl rfl (by decide) (fun w Lp hA => ⟨hA.ow m0, hA.ow (mS (mS (mS (mS (mS (mS (mS (mS m0))))))))⟩)) (fun _ _ => (Ent.b (fun q80 => ?_) (fun q80 => ?_)))))))))))
                    · refine E.y rfl rfl (by decide) ((Y.not (b := true) rfl).yd) (E.nil (E.thn (E.cf rfl (E.skipc (E.thn (E.seq (E.region (l := [0]) rfl (E.y rfl rfl (by decide) ((Y.as rfl).yd) (E.nil (E.thn (E.seq (E.region (l := [0, 1, 2, 3]) rfl (E.y rfl rfl (by decide) ((Y.mv rfl).yd) (E.y rfl rfl (by decide) ((Y.mv rfl).yd) (E.st rfl rfl (N.call0 (t_laws_heldQueryS (mkL_mk cm_Query mm_Query)) rfl rfl rfl (by decide) (fun w Lp hA => ⟨hA.ow (mS (mS (mS m0))), (by (try simp only [mkL_c cm_I, mkL_c cm_Is, mkL_c cm_Fact, mkL_c cm_Facts, mkL_c cm_Atom, mkL_c cm_Atoms, mkL_c cm_Access, mkL_c cm_Accesss, mkL_c cm_Step, mkL_c cm_Steps, mkL_c cm_Query, mkL_c cm_Querys, mkL_c cm_Binding, mkL_c cm_Bindings, mkL_c cm_Method, mkL_c cm_Methods, mkL_c cm_Rule, mkL_c cm_Rules, mkL_c cm_Line, mkL_c cm_Lines]); omega), (by (try simp only [mkL_c cm_I, mkL_c cm_Is, mkL_c cm_Fact, mkL_c cm_Facts, mkL_c cm_Atom, mkL_c cm_Atoms, mkL_c cm_Access, mkL_c cm_Accesss, mkL_c cm_Step, mkL_c cm_Steps, mkL_c cm_Query, mkL_c cm_Querys, mkL_c cm_Binding, mkL_c cm_Bindings, mkL_c cm_Method, mkL_c cm_Methods, mkL_c cm_Rule, mkL_c cm_Rules, mkL_c cm_Line, mkL_c cm_Lines]); omega)⟩)) (fun _ _ => (E.y rfl rfl (by decide) ((Y.as rfl).yd) (E.nil (E.thn (E.seq (E.seq (E.region (l := [0, 1]) rfl (E.y rfl rfl (by decide) ((Y.mv rfl).yd) (E.y rfl rfl (by decide) ((Y.lss rfl rfl).yd) (Ent.d (fun q86 => ?_) (fun q86 => ?_))))))))))))))))))))))))))
                      · exact absurd q86 (by omega)
                      · refine E.nil (E.thn (E.cf rfl (E.skipc (E.thn (E.seq (E.seq (E.region (l := [0, 1, 2]) rfl (E.y rfl rfl (by decide) ((Y.mv rfl).yd) (E.y rfl rfl (by decide) ((Y.mv rfl).yd) (E.y rfl rfl (by decide) ((Y.neq rfl rfl).yd) (Ent.d (fun q89 => ?_) (fun q89 => ?_))))))))))))
                        · exact absurd (by simp only [mkL_c cm_I, mkL_c cm_Is, mkL_c cm_Fact, mkL_c cm_Facts, mkL_c cm_Atom, mkL_c cm_Atoms, mkL_c cm_Access, mkL_c cm_Accesss, mkL_c cm_Step, mkL_c cm_Steps, mkL_c cm_Query, mkL_c cm_Querys, mkL_c cm_Binding, mkL_c cm_Bindings, mkL_c cm_Method, mkL_c cm_Methods, mkL_c cm_Rule, mkL_c cm_Rules, mkL_c cm_Line, mkL_c cm_Lines]) q89
                        · refine E.nil (E.thn (E.cf rfl (E.skipc (E.thn (E.seq (E.region (l := [0]) rfl (E.y rfl rfl (by decide) ((Y.as rfl).yd) ?_)))))))
                          exact E.nil (E.thn (E.ret (F.r1 (Back.refl _ _) rfl rfl () trivial rfl (J := _) (.refl _) (.inl rfl))))
                    · refine E.y rfl rfl (by decide) ((Y.not (b := false) rfl).yd) (E.nil (E.thn (E.ct rfl (E.seq (E.region (l := [0]) rfl (E.y rfl rfl (by decide) ((Y.as rfl).yd) ?_))))))
                      exact E.nil (E.thn (E.ret (E.thr (F.r1 (Back.refl _ _) rfl rfl () trivial (congrArg Value.bool (by simp_all)) (J := _) (.refl _) (.inl rfl)))))
              · refine E.y rfl rfl (by decide) ((Y.not (b := false) rfl).yd) (E.y rfl rfl (by decide) ((Y.pkf rfl rfl).yd) (E.nil (E.thn (E.ct rfl (E.seq (E.region (l := [0]) rfl (E.y rfl rfl (by decide) ((Y.as rfl).yd) ?_)))))))
                exact E.nil (E.thn (E.ret (E.thr (F.r1 (Back.refl _ _) rfl rfl () trivial (congrArg Value.bool (by simp_all)) (J := _) (.refl _) (.inl rfl)))))
          · refine E.y rfl rfl (by decide) ((Y.not (b := false) rfl).yd) (E.nil (E.thn (E.ct rfl (E.seq (E.region (l := [0]) rfl (E.y rfl rfl (by decide) ((Y.as rfl).yd) ?_))))))
            exact E.nil (E.thn (E.ret (E.thr (F.r1 (Back.refl _ _) rfl rfl () trivial (congrArg Value.bool (by simp_all)) (J := _) (.refl _) (.inl rfl)))))
        · refine E.y rfl rfl (by decide) ((Y.not (b := false) rfl).yd) (E.nil (E.thn (E.ct rfl (E.seq (E.region (l := [0]) rfl (E.y rfl rfl (by decide) ((Y.as rfl).yd) ?_))))))
          exact E.nil (E.thn (E.ret (E.thr (F.r1 (Back.refl _ _) rfl rfl () trivial (congrArg Value.bool (by simp_all)) (J := _) (.refl _) (.inl rfl)))))
      · refine E.y rfl rfl (by decide) ((Y.not (b := false) rfl).yd) (E.nil (E.thn (E.ct rfl (E.seq (E.region (l := [0]) rfl (E.y rfl rfl (by decide) ((Y.as rfl).yd) ?_))))))
        exact E.nil (E.thn (E.ret (E.thr (F.r1 (Back.refl _ _) rfl rfl () trivial (congrArg Value.bool (by simp_all)) (J := _) (.refl _) (.inl rfl)))))
end Go.Proofs.YtonkkkjgdohooaaGreat
