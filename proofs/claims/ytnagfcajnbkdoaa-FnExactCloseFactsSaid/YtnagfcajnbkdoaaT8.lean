import Derived.Test.YtnagfcajnbkdoaaT3
import Derived.Test.YtnagfcajnbkdoaaT5
import Derived.Test.YtnagfcajnbkdoaaDg
namespace Go.Proofs.Ytnagfcajnbkdoaa
open Go.RowKit
set_option linter.unusedVariables false
set_option linter.unusedSimpArgs false
attribute [local irreducible] Nop Yd Yp Ent Has Tr FnP FnP2 Src
theorem t_laws_szFactS {a_a : Option Addr} {m_a c_a : Nat} {a : List (Int × List Int)} {left : Int} : Tr Try.prog 26 [.slice a_a m_a c_a, .int .i64 left] (fun w L => Ro w L eFacts [.slice a_a m_a c_a] a ∧ 0 ≤ left ∧ left ≤ 1048576) [] (κ := Unit) (fun k => True) (fun k => .int .i64 (szR (totL (fun x => x.2.length) a) left)) (fun k => []) := by
  refine Tr.intro Try.func26 rfl (n := 27) rfl (by decide +kernel) (Nat.le_of_ble_eq_true rfl) (fr := [(0, .slice a_a m_a c_a), (1, .int .i64 left)]) rfl fun w L hR => ?_
  obtain ⟨ha, as0, as1⟩ := hR
  obtain ⟨rfl, la⟩ := ha.slen
  refine E.seq (E.region (l := [0]) rfl (E.y rfl rfl (by decide) ((Y.as rfl).yd) ?_))
  refine E.nil (E.thn (E.seq (E.region (l := [0, 1, 2, 3, 4]) rfl (E.y rfl rfl (by decide) ((Y.mv rfl).yd) ?_))))
  refine E.y rfl rfl (by decide) ((Y.mv rfl).yd) ?_
  refine E.y rfl rfl (by decide) ((Y.len us_lFacts rfl).yd) ?_
  refine E.y rfl rfl (by decide) ((Y.sub rfl rfl (by omega) (by omega)).yd) ?_
  refine E.y rfl rfl (by decide) ((Y.as rfl).yd) ?_
  refine E.nil (E.thn (E.seq (E.seq (E.region (l := [0, 1]) rfl (E.y rfl rfl (by decide) ((Y.mv rfl).yd) ?_)))))
  refine E.y rfl rfl (by decide) ((Y.lss rfl rfl).yd) (Ent.d (fun q11 => ?_) (fun q11 => ?_))
  · refine E.nil (E.thn (E.ct rfl (E.seq (E.region (l := [0]) rfl (E.y rfl rfl (by decide) ((Y.as rfl).yd) ?_)))))
    exact E.nil (E.thn (E.ret (E.thr (F.r1 (Back.refl _ _) rfl rfl () trivial (congrArg (Value.int .i64) (by exact szS_no1 q11)) (J := _) (.refl _) (.inl rfl)))))
  · refine E.nil (E.thn (E.cf rfl (E.skipc (E.thn (E.seq (E.seq (E.region (l := [0]) rfl (E.y rfl rfl (by decide) ((Y.as rfl).yd) ?_))))))))
    refine E.nil (E.thn (E.block (E.loop (κ := Nat) (fun g => g ≤ a.length ∧ (a.length : Int) + (totS (fun x => x.2.length) (a.take g) : Nat) ≤ left) (fun g => [(0, .slice a_a a.length c_a), (1, .int .i64 (left - ((a.length : Int) + (totS (fun x => x.2.length) (a.take g) : Nat)))), (5, .int .i64 (↑g : Int))]) (fun g => []) (fun g => a.length - g) 0 ⟨by omega, by simp [totS]; omega⟩ ⟨rfl, frI (by simp [totS]), rfl, trivial⟩ (.refl _) (fun g pg => ?_))))
    obtain ⟨pk, pa⟩ := pg
    refine E.seq (E.seq (E.region (l := [0, 1, 2, 3]) rfl (E.y rfl rfl (by decide) ((Y.mv rfl).yd) ?_)))
    refine E.y rfl rfl (by decide) ((Y.mv rfl).yd) ?_
    refine E.y rfl rfl (by decide) ((Y.len us_lFacts rfl).yd) ?_
    refine E.y rfl rfl (by decide) ((Y.lss rfl rfl).yd) (Ent.d (fun q15 => ?_) (fun q15 => ?_))
    · refine E.nil (E.thn (E.ct rfl (E.skipc (E.thn (E.seq (E.block (E.seq (E.region (l := [0, 1, 2, 3, 4, 5, 6]) rfl (E.y rfl rfl (by decide) ((Y.mv rfl).yd) ?_)))))))))
      refine E.y rfl rfl (by decide) ((Y.mv rfl).yd) ?_
      obtain ⟨eb20, eo20, ec20, ea20, er20, el20, eh20⟩ := ha.elem g (by omega)
      obtain ⟨xa20_0, xc20_0, rfl, ei20_0, xh20_0⟩ := Ro.pFact er20
      have := xh20_0.slen.2
      refine E.y rfl rfl (by decide) ((Y.ix us_lFacts ty_lFact rfl ea20 rfl g rfl (by omega)).yd) ?_
      refine E.y rfl rfl (by decide) (Y.ldS (cs := [_, _]) ty_lFact rfl (eh20 _) rfl) ?_
      refine E.y rfl rfl (by decide) ((Y.mv rfl).yd) ?_
      refine E.st rfl rfl (N.call0 t_laws_szFact rfl rfl rfl (by decide) (fun w Lp hA => ⟨ei20_0, hA.ro xh20_0, (by first | assumption | omega), (by first | assumption | omega)⟩)) (fun _ _ => ?_)
      refine E.y rfl rfl (by decide) ((Y.as rfl).yd) ?_
      refine E.nil (E.thn (E.seq (E.region (l := [0, 1]) rfl (E.y rfl rfl (by decide) ((Y.mv rfl).yd) ?_))))
      refine E.y rfl rfl (by decide) ((Y.lss rfl rfl).yd) (Ent.d (fun q25 => ?_) (fun q25 => ?_))
      · have z25 := szR_bad q25 (by omega)
        refine E.nil (E.thn (E.ct rfl (E.seq (E.region (l := [0]) rfl (E.y rfl rfl (by decide) ((Y.as rfl).yd) ?_)))))
        exact E.nil (E.thn (E.ret (E.blr (E.thr (E.thr (E.blr (E.thr (F.r1 (Back.refl _ _) rfl rfl () trivial (congrArg (Value.int .i64) (by exact szS_no2 (t := (fun x => x.2.length)) (n := a[g].2.length) (show g < a.length by omega) rfl (by omega))) (J := _) (.refl _) (.inl rfl)))))))))
      · obtain ⟨z25, y25⟩ := szR_ok q25 (by omega)
        refine E.nil (E.thn (E.cf rfl (E.skipc (E.bln (E.thn (E.region (l := [0, 1, 2]) rfl (E.y rfl rfl (by decide) ((Y.mv rfl).yd) ?_)))))))
        refine E.y rfl rfl (by decide) ((Y.add rfl rfl (by omega) (by omega)).yd) ?_
        refine E.y rfl rfl (by decide) ((Y.as rfl).yd) ?_
        exact E.nil (E.thn (E.again (Back.refl _ _) (g + 1) ⟨rfl, frI (by rw [z25]; have y := totS_step (t := (fun x => x.2.length)) (show g < a.length by omega); omega), rfl, trivial⟩ (.refl _) ⟨by omega, by have y := totS_step (t := (fun x => x.2.length)) (show g < a.length by omega); omega⟩ (by omega)))
    · refine E.nil (E.thn (E.cf rfl (E.exit (E.the (E.the (E.blh (E.thn (E.seq (E.region (l := [0, 1]) rfl (E.y rfl rfl (by decide) ((Y.mv rfl).yd) ?_))))))))))
      refine E.y rfl rfl (by decide) ((Y.as rfl).yd) ?_
      exact E.nil (E.thn (E.ret (F.r1 (Back.refl _ _) rfl rfl () trivial (congrArg (Value.int .i64) (by exact szS_yes (t := (fun x => x.2.length)) (show a.length ≤ g by omega) pa)) (J := _) (.refl _) (.inl rfl))))
theorem t_laws_szReached {a_a_Facts : Option Addr} {m_a_Facts c_a_Facts : Nat} {a_Facts : List (Int × List Int)} {a_a_Values : Option Addr} {m_a_Values c_a_Values : Nat} {a_Values : List Int} {a_a_Log : Option Addr} {m_a_Log c_a_Log : Nat} {a_Log : List (Int × List Int)} {a_Rounds : Int} {left : Int} : Tr Try.prog 21 [.agg #[.slice a_a_Facts m_a_Facts c_a_Facts, .slice a_a_Values m_a_Values c_a_Values, .slice a_a_Log m_a_Log c_a_Log, .int .i64 a_Rounds], .int .i64 left] (fun w L => Ro w L eFacts [.slice a_a_Facts m_a_Facts c_a_Facts] a_Facts ∧ Ro w L eIs [.slice a_a_Values m_a_Values c_a_Values] a_Values ∧ Ro w L eAccesss [.slice a_a_Log m_a_Log c_a_Log] a_Log ∧ I64 a_Rounds ∧ 0 ≤ left ∧ left ≤ 1048576) [] (κ := Unit) (fun k => True) (fun k => .int .i64 (szR (totL (fun x => x.2.length) a_Facts + a_Values.length + totL (fun x => x.2.length) a_Log) left)) (fun k => []) := by
  refine Tr.intro Try.func21 rfl (n := 24) rfl (by decide +kernel) (Nat.le_of_ble_eq_true rfl) (fr := [(0, .agg #[.slice a_a_Facts m_a_Facts c_a_Facts, .slice a_a_Values m_a_Values c_a_Values, .slice a_a_Log m_a_Log c_a_Log, .int .i64 a_Rounds]), (1, .int .i64 left)]) rfl fun w L hR => ?_
  obtain ⟨ha_Facts, ha_Values, ha_Log, i6a_Rounds, as0, as1⟩ := hR
  obtain ⟨rfl, la_Facts⟩ := ha_Facts.slen
  obtain ⟨rfl, la_Values⟩ := ha_Values.slen
  obtain ⟨rfl, la_Log⟩ := ha_Log.slen
  refine E.seq (E.region (l := [0, 1]) rfl (E.st rfl rfl (N.box (cs := [_, _, _, _]) rfl (by decide) rfl) (fun b2 _ => ?_)))
  refine E.y rfl rfl (by decide) ((Y.as rfl).yd) ?_
  refine E.nil (E.thn (E.seq (E.region (l := [0, 1, 2, 3, 4]) rfl (E.y rfl rfl (by decide) ((Y.fld fo_lReached_0 ty_lFacts (by decide) rfl).yd) ?_))))
  refine E.y rfl rfl (by decide) (Y.ld1 ty_lFacts rfl ((Has.pt m0).sub (cs' := [_]) 0 rfl) rfl) ?_
  refine E.y rfl rfl (by decide) ((Y.mv rfl).yd) ?_
  refine E.st rfl rfl (N.call0 t_laws_szFactS rfl rfl rfl (by decide) (fun w Lp hA => ⟨hA.ro ha_Facts, (by first | assumption | omega), (by first | assumption | omega)⟩)) (fun _ _ => ?_)
  refine E.y rfl rfl (by decide) ((Y.as rfl).yd) ?_
  refine E.nil (E.thn (E.seq (E.seq (E.region (l := [0, 1]) rfl (E.y rfl rfl (by decide) ((Y.mv rfl).yd) ?_)))))
  refine E.y rfl rfl (by decide) ((Y.lss rfl rfl).yd) (Ent.d (fun q10 => ?_) (fun q10 => ?_))
  · have z10 := szR_bad q10 (by omega)
    refine E.nil (E.thn (E.ct rfl (E.seq (E.region (l := [0]) rfl (E.y rfl rfl (by decide) ((Y.as rfl).yd) ?_)))))
    exact E.nil (E.thn (E.ret (E.thr (F.r1 (Back.refl _ _) rfl rfl () trivial (congrArg (Value.int .i64) (by unfold szR; split <;> omega)) (J := _) (.refl _) (.inl rfl)))))
  · obtain ⟨z10, y10⟩ := szR_ok q10 (by omega)
    refine E.nil (E.thn (E.cf rfl (E.skipc (E.thn (E.seq (E.region (l := [0, 1, 2, 3, 4]) rfl (E.y rfl rfl (by decide) ((Y.fld fo_lReached_1 ty_Is (by decide) rfl).yd) ?_)))))))
    refine E.y rfl rfl (by decide) (Y.ld1 ty_Is rfl ((Has.pt m0).sub (cs' := [_]) 1 rfl) rfl) ?_
    refine E.y rfl rfl (by decide) ((Y.mv rfl).yd) ?_
    refine E.st rfl rfl (N.call0 t_laws_szIntS rfl rfl rfl (by decide) (fun w Lp hA => ⟨hA.ro ha_Values, (by first | assumption | omega), (by first | assumption | omega)⟩)) (fun _ _ => ?_)
    refine E.y rfl rfl (by decide) ((Y.as rfl).yd) ?_
    refine E.nil (E.thn (E.seq (E.seq (E.region (l := [0, 1]) rfl (E.y rfl rfl (by decide) ((Y.mv rfl).yd) ?_)))))
    refine E.y rfl rfl (by decide) ((Y.lss rfl rfl).yd) (Ent.d (fun q16 => ?_) (fun q16 => ?_))
    · have z16 := szR_bad q16 (by omega)
      refine E.nil (E.thn (E.ct rfl (E.seq (E.region (l := [0]) rfl (E.y rfl rfl (by decide) ((Y.as rfl).yd) ?_)))))
      exact E.nil (E.thn (E.ret (E.thr (F.r1 (Back.refl _ _) rfl rfl () trivial (congrArg (Value.int .i64) (by unfold szR; split <;> omega)) (J := _) (.refl _) (.inl rfl)))))
    · obtain ⟨z16, y16⟩ := szR_ok q16 (by omega)
      refine E.nil (E.thn (E.cf rfl (E.skipc (E.thn (E.seq (E.region (l := [0, 1, 2, 3, 4]) rfl (E.y rfl rfl (by decide) ((Y.fld fo_lReached_2 ty_lAccesss (by decide) rfl).yd) ?_)))))))
      refine E.y rfl rfl (by decide) (Y.ld1 ty_lAccesss rfl ((Has.pt m0).sub (cs' := [_]) 2 rfl) rfl) ?_
      refine E.y rfl rfl (by decide) ((Y.mv rfl).yd) ?_
      refine E.st rfl rfl (N.call0 t_laws_szAccessS rfl rfl rfl (by decide) (fun w Lp hA => ⟨hA.ro ha_Log, (by first | assumption | omega), (by first | assumption | omega)⟩)) (fun _ _ => ?_)
      refine E.y rfl rfl (by decide) ((Y.as rfl).yd) ?_
      refine E.nil (E.thn (E.seq (E.seq (E.region (l := [0, 1]) rfl (E.y rfl rfl (by decide) ((Y.mv rfl).yd) ?_)))))
      refine E.y rfl rfl (by decide) ((Y.lss rfl rfl).yd) (Ent.d (fun q22 => ?_) (fun q22 => ?_))
      · have z22 := szR_bad q22 (by omega)
        refine E.nil (E.thn (E.ct rfl (E.seq (E.region (l := [0]) rfl (E.y rfl rfl (by decide) ((Y.as rfl).yd) ?_)))))
        exact E.nil (E.thn (E.ret (E.thr (F.r1 (Back.refl _ _) rfl rfl () trivial (congrArg (Value.int .i64) (by unfold szR; split <;> omega)) (J := _) (.refl _) (.inl rfl)))))
      · obtain ⟨z22, y22⟩ := szR_ok q22 (by omega)
        refine E.nil (E.thn (E.cf rfl (E.skipc (E.thn (E.seq (E.region (l := [0, 1]) rfl (E.y rfl rfl (by decide) ((Y.mv rfl).yd) ?_)))))))
        refine E.y rfl rfl (by decide) ((Y.as rfl).yd) ?_
        exact E.nil (E.thn (E.ret (F.r1 (Back.refl _ _) rfl rfl () trivial (congrArg (Value.int .i64) (by have e : szR (totL (fun x => x.2.length) a_Facts + a_Values.length + totL (fun x => x.2.length) a_Log) left = left - ((totL (fun x => x.2.length) a_Facts + a_Values.length + totL (fun x => x.2.length) a_Log : Nat) : Int) := by { unfold szR; split <;> omega }; omega)) (J := _) (.refl _) (.inl rfl))))
theorem t_laws_toFactS {a_a : Option Addr} {m_a c_a : Nat} {a : List (Int × List Int)} (hz : totL (fun x => x.2.length) a ≤ 1048576) : Tr Try.prog 29 [.slice a_a m_a c_a] (fun w L => Ro w L eFacts [.slice a_a m_a c_a] a) [] (κ := Option Addr × Nat × Nat) (fun k => True) (fun k => .slice k.1 k.2.1 k.2.2) (fun k => [ow eFacts [.slice k.1 k.2.1 k.2.2] a]) := by
  refine Tr.intro Try.func29 rfl (n := 23) rfl (by decide +kernel) (Nat.le_of_ble_eq_true rfl) (fr := [(0, .slice a_a m_a c_a)]) rfl fun w L hR => ?_
  have ha := hR
  obtain ⟨rfl, la⟩ := ha.slen
  have hlen : a.length ≤ totL (fun x => x.2.length) a := by unfold totL; omega
  refine E.seq (E.region (l := [0]) rfl (E.y rfl rfl (by decide) ((Y.as rfl).yd) ?_))
  refine E.nil (E.thn (E.seq (E.region (l := [0, 1, 2, 3]) rfl (E.y rfl rfl (by decide) ((Y.mv rfl).yd) ?_))))
  refine E.y rfl rfl (by decide) ((Y.len us_lFacts rfl).yd) ?_
  refine E.st rfl rfl (N.make (m := a.length) us_Facts ty_Fact rfl rfl rfl (by unfold maxLen; omega) (by omega) (by decide)) (fun b7 _ => ?_)
  refine Ent.mkow (A := [_]) (Own.made (E := eFact) (e := tFact) (zx := (0, [])) (Own.mkFact (x := (0, [])) ⟨by decide, by decide⟩ Own.nil) (by unfold maxLen; omega)) rfl ?_
  refine E.y rfl rfl (by decide) ((Y.as rfl).yd) ?_
  refine E.nil (E.thn (E.seq (E.seq (E.region (l := [0]) rfl (E.y rfl rfl (by decide) ((Y.as rfl).yd) ?_)))))
  refine E.nil (E.thn (E.block (E.loop (κ := Nat) (fun g => g ≤ a.length) (fun g => [(0, .slice a_a a.length c_a), (3, .slice (some ⟨b7, 0, none⟩) a.length a.length), (4, .int .i64 (↑g : Int))]) (fun g => [ow eFacts [.slice (some ⟨b7, 0, none⟩) a.length a.length] (a.take g ++ List.replicate (a.length - g) (0, []))]) (fun g => a.length - g) 0 (Nat.zero_le _) ⟨rfl, rfl, rfl, trivial⟩ (by simp) (fun g pg => ?_))))
  refine E.seq (E.seq (E.region (l := [0, 1, 2, 3]) rfl (E.y rfl rfl (by decide) ((Y.mv rfl).yd) ?_)))
  refine E.y rfl rfl (by decide) ((Y.mv rfl).yd) ?_
  refine E.y rfl rfl (by decide) ((Y.len us_lFacts rfl).yd) ?_
  refine E.y rfl rfl (by decide) ((Y.lss rfl rfl).yd) (Ent.d (fun q11 => ?_) (fun q11 => ?_))
  · refine E.nil (E.thn (E.ct rfl (E.skipc (E.thn (E.seq (E.block (E.region (l := [0, 1, 2, 3, 4, 5, 6, 7, 8]) rfl (E.y rfl rfl (by decide) ((Y.mv rfl).yd) ?_))))))))
    refine E.y rfl rfl (by decide) ((Y.mv rfl).yd) ?_
    refine E.y rfl rfl (by decide) ((Y.mv rfl).yd) ?_
    refine E.y rfl rfl (by decide) ((Y.mv rfl).yd) ?_
    obtain ⟨eb18, eo18, ec18, ea18, er18, el18, eh18⟩ := ha.elem g (by omega)
    obtain ⟨xa18_0, xc18_0, rfl, ei18_0, xh18_0⟩ := Ro.pFact er18
    have := xh18_0.slen.2
    refine E.y rfl rfl (by decide) ((Y.ix us_lFacts ty_lFact rfl ea18 rfl g rfl (by omega)).yd) ?_
    refine E.y rfl rfl (by decide) (Y.ldS (cs := [_, _]) ty_lFact rfl (eh18 _) rfl) ?_
    refine E.st rfl rfl (N.call (t_laws_toFact (by have y := tot_elem (t := (fun x => x.2.length)) (l := a) (g := g) (by omega); omega)) rfl rfl rfl (by decide) rfl (fun w Lp hA => ⟨ei18_0, hA.ro xh18_0⟩)) (fun k20 _ => ?_)
    obtain ⟨a20, m20, c20⟩ := k20
    refine Ent.lenow m0 fun e20 l20 => ?_
    subst e20
    refine E.y rfl rfl (by decide) ((Y.ix us_Facts ty_Fact rfl rfl rfl g rfl (by omega)).yd) ?_
    refine Ent.p1 ?_
    refine E.st rfl rfl (N.set (E := eFact) (j := g) (ex := a[g]) (ce := [_, _]) ty_Fact rfl rfl rfl rfl (Own.mkFact (x := a[g]) ei18_0 Own.ow) rfl (Nat.zero_add _) rfl (by simp; omega)) (fun _ _ => ?_)
    refine E.nil (E.bln (E.thn (E.region (l := [0, 1, 2]) rfl (E.y rfl rfl (by decide) ((Y.mv rfl).yd) ?_))))
    refine E.y rfl rfl (by decide) ((Y.add rfl rfl (by omega) (by omega)).yd) ?_
    refine E.y rfl rfl (by decide) ((Y.as rfl).yd) ?_
    exact E.nil (E.thn (E.again (Back.refl _ _) (g + 1) ⟨rfl, rfl, rfl, trivial⟩ (by rw [set_take (by omega) rfl]) (by omega) (by omega)))
  · refine E.nil (E.thn (E.cf rfl (E.exit (E.the (E.the (E.blh (E.thn (E.seq (E.region (l := [0, 1]) rfl (E.y rfl rfl (by decide) ((Y.mv rfl).yd) ?_))))))))))
    refine E.y rfl rfl (by decide) ((Y.as rfl).yd) ?_
    refine E.nil (E.thn (E.ret (Ent.cv (congrArg (ow eFacts [_]) (show _ = a by exact take_rep_all (by omega))) ?_)))
    exact F.r1 (Back.refl _ _) rfl rfl (_, _, _) trivial rfl (J := _) (.refl _) (.inl rfl)
theorem t_laws_eqFactS {a_a : Option Addr} {m_a c_a : Nat} {a : List (Int × List Int)} {a_b : Option Addr} {m_b c_b : Nat} {b : List (Int × List Int)} : Tr Try.prog 33 [.slice a_a m_a c_a, .slice a_b m_b c_b] (fun w L => Ro w L eFacts [.slice a_a m_a c_a] a ∧ Ro w L eFacts [.slice a_b m_b c_b] b) [] (κ := Unit) (fun k => True) (fun k => .bool (decide (a = b))) (fun k => []) := by
  refine Tr.intro Try.func33 rfl (n := 27) rfl (by decide +kernel) (Nat.le_of_ble_eq_true rfl) (fr := [(0, .slice a_a m_a c_a), (1, .slice a_b m_b c_b)]) rfl fun w L hR => ?_
  obtain ⟨ha, hb⟩ := hR
  obtain ⟨rfl, la⟩ := ha.slen
  obtain ⟨rfl, lb⟩ := hb.slen
  refine E.seq (E.region (l := [0]) rfl (E.y rfl rfl (by decide) ((Y.as rfl).yd) ?_))
  refine E.nil (E.thn (E.seq (E.seq (E.region (l := [0, 1, 2, 3, 4]) rfl (E.y rfl rfl (by decide) ((Y.mv rfl).yd) ?_)))))
  refine E.y rfl rfl (by decide) ((Y.len us_Facts rfl).yd) ?_
  refine E.y rfl rfl (by decide) ((Y.mv rfl).yd) ?_
  refine E.y rfl rfl (by decide) ((Y.len us_Facts rfl).yd) ?_
  refine E.y rfl rfl (by decide) ((Y.neq rfl rfl).yd) (Ent.d (fun q10 => ?_) (fun q10 => ?_))
  · refine E.nil (E.thn (E.ct rfl (E.seq (E.region (l := [0]) rfl (E.y rfl rfl (by decide) ((Y.as rfl).yd) ?_)))))
    exact E.nil (E.thn (E.ret (E.thr (F.r1 (Back.refl _ _) rfl rfl () trivial (congrArg Value.bool (by exact ne_of_len q10)) (J := _) (.refl _) (.inl rfl)))))
  · refine E.nil (E.thn (E.cf rfl (E.skipc (E.thn (E.seq (E.seq (E.region (l := [0]) rfl (E.y rfl rfl (by decide) ((Y.as rfl).yd) ?_))))))))
    refine E.nil (E.thn (E.block (E.loop (κ := Nat) (fun g => g ≤ a.length ∧ a.take g = b.take g) (fun g => [(0, .slice a_a a.length c_a), (1, .slice a_b b.length c_b), (5, .int .i64 (↑g : Int))]) (fun g => []) (fun g => a.length - g) 0 ⟨by omega, by simp⟩ ⟨rfl, rfl, rfl, trivial⟩ (.refl _) (fun g pg => ?_))))
    obtain ⟨pk, pa⟩ := pg
    refine E.seq (E.seq (E.region (l := [0, 1, 2, 3]) rfl (E.y rfl rfl (by decide) ((Y.mv rfl).yd) ?_)))
    refine E.y rfl rfl (by decide) ((Y.mv rfl).yd) ?_
    refine E.y rfl rfl (by decide) ((Y.len us_Facts rfl).yd) ?_
    refine E.y rfl rfl (by decide) ((Y.lss rfl rfl).yd) (Ent.d (fun q14 => ?_) (fun q14 => ?_))
    · refine E.nil (E.thn (E.ct rfl (E.skipc (E.thn (E.seq (E.block (E.seq (D.region (fun j => true) mixed (D.yp 0 rfl rfl (by decide) (Y.mv rfl) (by kernel_rfl) ?_)))))))))
      refine D.yp 1 rfl rfl (by decide) (Y.mv rfl) (by kernel_rfl) ?_
      obtain ⟨eb19, eo19, ec19, ea19, er19, el19, eh19⟩ := ha.elem g (by omega)
      obtain ⟨xa19_0, xc19_0, rfl, ei19_0, xh19_0⟩ := Ro.pFact er19
      have := xh19_0.slen.2
      refine D.yp 2 rfl rfl (by decide) (Y.ix us_Facts ty_Fact rfl ea19 rfl g rfl (by omega)) (by kernel_rfl) ?_
      refine D.y 3 rfl rfl (by decide) (Y.ldS (cs := [_, _]) ty_Fact rfl (eh19 _) rfl) (by kernel_rfl) ?_
      refine D.yp 4 rfl rfl (by decide) (Y.mv rfl) (by kernel_rfl) ?_
      refine D.yp 5 rfl rfl (by decide) (Y.mv rfl) (by kernel_rfl) ?_
      obtain ⟨eb23, eo23, ec23, ea23, er23, el23, eh23⟩ := hb.elem g (by omega)
      obtain ⟨xa23_0, xc23_0, rfl, ei23_0, xh23_0⟩ := Ro.pFact er23
      have := xh23_0.slen.2
      refine D.yp 6 rfl rfl (by decide) (Y.ix us_Facts ty_Fact rfl ea23 rfl g rfl (by omega)) (by kernel_rfl) ?_
      refine D.y 7 rfl rfl (by decide) (Y.ldS (cs := [_, _]) ty_Fact rfl (eh23 _) rfl) (by kernel_rfl) ?_
      refine D.st 8 rfl rfl (by kernel_rfl) (fun _ => rfl) (N.call0 t_laws_eqFact rfl rfl rfl (by decide) (fun w Lp hA => ⟨ei19_0, hA.ro xh19_0, ei23_0, hA.ro xh23_0⟩)) (fun _ _ => (Ent.b (fun q25 => ?_) (fun q25 => ?_)))
      · refine D.yp 9 rfl rfl (by decide) (Y.not (b := true) rfl) (by kernel_rfl) ?_
        refine D.done (by kernel_rfl) (E.thn (E.cf rfl (E.skipc (E.bln (E.thn (E.region (l := [0, 1, 2]) rfl (E.y rfl rfl (by decide) ((Y.mv rfl).yd) ?_)))))))
        refine E.y rfl rfl (by decide) ((Y.add rfl rfl (by omega) (by omega)).yd) ?_
        refine E.y rfl rfl (by decide) ((Y.as rfl).yd) ?_
        exact E.nil (E.thn (E.again (Back.refl _ _) (g + 1) ⟨rfl, rfl, rfl, trivial⟩ (.refl _) ⟨by omega, take_eq_step (by omega) (by omega) pa (of_decide_eq_true q25)⟩ (by omega)))
      · refine D.yp 9 rfl rfl (by decide) (Y.not (b := false) rfl) (by kernel_rfl) ?_
        refine D.done (by kernel_rfl) (E.thn (E.ct rfl (E.seq (E.region (l := [0]) rfl (E.y rfl rfl (by decide) ((Y.as rfl).yd) ?_)))))
        exact E.nil (E.thn (E.ret (E.blr (E.thr (E.thr (E.blr (E.thr (F.r1 (Back.refl _ _) rfl rfl () trivial (congrArg Value.bool (by exact ne_of_get (show g < a.length by omega) (show g < b.length by omega) (of_decide_eq_false q25))) (J := _) (.refl _) (.inl rfl)))))))))
    · refine E.nil (E.thn (E.cf rfl (E.exit (E.the (E.the (E.blh (E.thn (E.seq (E.region (l := [0]) rfl (E.y rfl rfl (by decide) ((Y.as rfl).yd) ?_))))))))))
      exact E.nil (E.thn (E.ret (F.r1 (Back.refl _ _) rfl rfl () trivial (congrArg Value.bool (by exact eq_of_take (show a.length ≤ g by omega) (show b.length ≤ g by omega) pa)) (J := _) (.refl _) (.inl rfl))))
theorem t_laws_toReached {a_a_Facts : Option Addr} {m_a_Facts c_a_Facts : Nat} {a_Facts : List (Int × List Int)} {a_a_Values : Option Addr} {m_a_Values c_a_Values : Nat} {a_Values : List Int} {a_a_Log : Option Addr} {m_a_Log c_a_Log : Nat} {a_Log : List (Int × List Int)} {a_Rounds : Int} (h0 : totL (fun x => x.2.length) a_Facts ≤ 1048576) (h1 : a_Values.length ≤ 1048576) (h2 : totL (fun x => x.2.length) a_Log ≤ 1048576) : Tr Try.prog 23 [.agg #[.slice a_a_Facts m_a_Facts c_a_Facts, .slice a_a_Values m_a_Values c_a_Values, .slice a_a_Log m_a_Log c_a_Log, .int .i64 a_Rounds]] (fun w L => Ro w L eFacts [.slice a_a_Facts m_a_Facts c_a_Facts] a_Facts ∧ Ro w L eIs [.slice a_a_Values m_a_Values c_a_Values] a_Values ∧ Ro w L eAccesss [.slice a_a_Log m_a_Log c_a_Log] a_Log ∧ I64 a_Rounds) [] (κ := (Option Addr × Nat × Nat) × (Option Addr × Nat × Nat) × (Option Addr × Nat × Nat)) (fun k => True) (fun k => .agg #[.slice k.1.1 k.1.2.1 k.1.2.2, .slice k.2.1.1 k.2.1.2.1 k.2.1.2.2, .slice k.2.2.1 k.2.2.2.1 k.2.2.2.2, .int .i64 a_Rounds]) (fun k => [ow eFacts [.slice k.1.1 k.1.2.1 k.1.2.2] a_Facts, ow eIs [.slice k.2.1.1 k.2.1.2.1 k.2.1.2.2] a_Values, ow eAccesss [.slice k.2.2.1 k.2.2.2.1 k.2.2.2.2] a_Log]) := by
  refine Tr.intro Try.func23 rfl (n := 20) rfl (by decide +kernel) (Nat.le_of_ble_eq_true rfl) (fr := [(0, .agg #[.slice a_a_Facts m_a_Facts c_a_Facts, .slice a_a_Values m_a_Values c_a_Values, .slice a_a_Log m_a_Log c_a_Log, .int .i64 a_Rounds])]) rfl fun w L hR => ?_
  obtain ⟨ha_Facts, ha_Values, ha_Log, i6a_Rounds⟩ := hR
  obtain ⟨rfl, la_Facts⟩ := ha_Facts.slen
  obtain ⟨rfl, la_Values⟩ := ha_Values.slen
  obtain ⟨rfl, la_Log⟩ := ha_Log.slen
  refine E.seq (E.region (l := [0, 1]) rfl (E.st rfl rfl (N.box (cs := [_, _, _, _]) rfl (by decide) rfl) (fun b1 _ => ?_)))
  refine E.st rfl rfl (N.alloc ty_Reached (by decide)) (fun b2 _ => ?_)
  refine E.nil (E.thn (E.seq (E.region (l := [0]) rfl (E.st rfl rfl (N.alloc ty_Reached (by decide)) (fun b3 _ => ?_)))))
  refine E.nil (E.thn (E.seq (E.region (l := [0, 1, 2, 3, 4]) rfl (E.y rfl rfl (by decide) ((Y.fld fo_lReached_0 ty_lFacts (by decide) rfl).yd) ?_))))
  refine E.y rfl rfl (by decide) (Y.ld1 ty_lFacts rfl ((Has.pt (mS (mS m0))).sub (cs' := [_]) 0 rfl) rfl) ?_
  refine E.st rfl rfl (N.call (t_laws_toFactS (by first | omega | assumption)) rfl rfl rfl (by decide) rfl (fun w Lp hA => hA.ro ha_Facts)) (fun k6 _ => ?_)
  obtain ⟨a6, m6, c6⟩ := k6
  refine Ent.lenow m0 fun e6 l6 => ?_
  subst e6
  refine E.y rfl rfl (by decide) ((Y.fld fo_Reached_0 ty_Facts (by decide) rfl).yd) ?_
  refine Ent.p1 ?_
  refine E.st rfl rfl (N.sto (vs := [_]) (cs' := [_, _, _, _]) ty_Facts rfl rfl rfl rfl rfl (Nat.le_of_ble_eq_true rfl) rfl) (fun _ _ => ?_)
  refine E.nil (E.thn (E.seq (E.region (l := [0, 1, 2, 3, 4]) rfl (E.y rfl rfl (by decide) ((Y.fld fo_lReached_1 ty_Is (by decide) rfl).yd) ?_))))
  refine E.y rfl rfl (by decide) (Y.ld1 ty_Is rfl ((Has.pt (mS (mS (mS m0)))).sub (cs' := [_]) 1 rfl) rfl) ?_
  refine E.st rfl rfl (N.call (t_laws_toIntS (by first | omega | assumption)) rfl rfl rfl (by decide) rfl (fun w Lp hA => hA.ro ha_Values)) (fun k10 _ => ?_)
  obtain ⟨a10, m10, c10⟩ := k10
  refine Ent.lenow m0 fun e10 l10 => ?_
  subst e10
  refine E.y rfl rfl (by decide) ((Y.fld fo_Reached_1 ty_Is (by decide) rfl).yd) ?_
  refine Ent.p1 ?_
  refine E.st rfl rfl (N.sto (vs := [_]) (cs' := [_, _, _, _]) ty_Is rfl rfl rfl rfl rfl (Nat.le_of_ble_eq_true rfl) rfl) (fun _ _ => ?_)
  refine E.nil (E.thn (E.seq (E.region (l := [0, 1, 2, 3, 4]) rfl (E.y rfl rfl (by decide) ((Y.fld fo_lReached_2 ty_lAccesss (by decide) rfl).yd) ?_))))
  refine E.y rfl rfl (by decide) (Y.ld1 ty_lAccesss rfl ((Has.pt (mS (mS (mS (mS m0))))).sub (cs' := [_]) 2 rfl) rfl) ?_
  refine E.st rfl rfl (N.call (t_laws_toAccessS (by first | omega | assumption)) rfl rfl rfl (by decide) rfl (fun w Lp hA => hA.ro ha_Log)) (fun k14 _ => ?_)
  obtain ⟨a14, m14, c14⟩ := k14
  refine Ent.lenow m0 fun e14 l14 => ?_
  subst e14
  refine E.y rfl rfl (by decide) ((Y.fld fo_Reached_2 ty_Accesss (by decide) rfl).yd) ?_
  refine Ent.p1 ?_
  refine E.st rfl rfl (N.sto (vs := [_]) (cs' := [_, _, _, _]) ty_Accesss rfl rfl rfl rfl rfl (Nat.le_of_ble_eq_true rfl) rfl) (fun _ _ => ?_)
  refine E.nil (E.thn (E.seq (E.region (l := [0, 1, 2, 3]) rfl (E.y rfl rfl (by decide) ((Y.fld fo_lReached_3 ty_I (by decide) rfl).yd) ?_))))
  refine E.y rfl rfl (by decide) (Y.ld1 ty_I rfl ((Has.pt (mS (mS (mS (mS (mS m0)))))).sub (cs' := [_]) 3 rfl) rfl) ?_
  refine E.y rfl rfl (by decide) ((Y.fld fo_Reached_3 ty_I (by decide) rfl).yd) ?_
  refine E.st rfl rfl (N.sto (vs := [_]) (cs' := [_, _, _, _]) ty_I rfl rfl rfl rfl rfl (Nat.le_of_ble_eq_true rfl) rfl) (fun _ _ => ?_)
  refine E.nil (E.thn (E.seq (E.region (l := [0, 1]) rfl (E.y rfl rfl (by decide) (Y.ldS (cs := [_, _, _, _]) ty_Reached rfl (Has.pt m0) rfl) ?_))))
  refine Ent.p4 ?_
  refine E.st rfl rfl (N.sto (vs := [_, _, _, _]) (cs' := [_, _, _, _]) ty_Reached rfl rfl rfl rfl rfl (Nat.le_of_ble_eq_true rfl) rfl) (fun _ _ => ?_)
  refine E.nil (E.thn (E.ret (Ent.p2 ?_)))
  refine Ent.p3 ?_
  refine Ent.p4 ?_
  refine Ent.p2 ?_
  refine Ent.p2 ?_
  refine Ent.p2 ?_
  exact F.c1 (Back.refl _ _) rfl rfl (mS (mS (mS m0))) ty_Reached rfl ((_, _, _), (_, _, _), (_, _, _)) trivial rfl (J := _) (.refl _) (.inl rfl)
theorem t_laws_eqReached {a_a_Facts : Option Addr} {m_a_Facts c_a_Facts : Nat} {a_Facts : List (Int × List Int)} {a_a_Values : Option Addr} {m_a_Values c_a_Values : Nat} {a_Values : List Int} {a_a_Log : Option Addr} {m_a_Log c_a_Log : Nat} {a_Log : List (Int × List Int)} {a_Rounds : Int} {a_b_Facts : Option Addr} {m_b_Facts c_b_Facts : Nat} {b_Facts : List (Int × List Int)} {a_b_Values : Option Addr} {m_b_Values c_b_Values : Nat} {b_Values : List Int} {a_b_Log : Option Addr} {m_b_Log c_b_Log : Nat} {b_Log : List (Int × List Int)} {b_Rounds : Int} : Tr Try.prog 25 [.agg #[.slice a_a_Facts m_a_Facts c_a_Facts, .slice a_a_Values m_a_Values c_a_Values, .slice a_a_Log m_a_Log c_a_Log, .int .i64 a_Rounds], .agg #[.slice a_b_Facts m_b_Facts c_b_Facts, .slice a_b_Values m_b_Values c_b_Values, .slice a_b_Log m_b_Log c_b_Log, .int .i64 b_Rounds]] (fun w L => Ro w L eFacts [.slice a_a_Facts m_a_Facts c_a_Facts] a_Facts ∧ Ro w L eIs [.slice a_a_Values m_a_Values c_a_Values] a_Values ∧ Ro w L eAccesss [.slice a_a_Log m_a_Log c_a_Log] a_Log ∧ I64 a_Rounds ∧ Ro w L eFacts [.slice a_b_Facts m_b_Facts c_b_Facts] b_Facts ∧ Ro w L eIs [.slice a_b_Values m_b_Values c_b_Values] b_Values ∧ Ro w L eAccesss [.slice a_b_Log m_b_Log c_b_Log] b_Log ∧ I64 b_Rounds) [] (κ := Unit) (fun k => True) (fun k => .bool (decide ((a_Facts, a_Values, a_Log, a_Rounds) = (b_Facts, b_Values, b_Log, b_Rounds)))) (fun k => []) := by
  refine Tr.intro Try.func25 rfl (n := 28) rfl (by decide +kernel) (Nat.le_of_ble_eq_true rfl) (fr := [(0, .agg #[.slice a_a_Facts m_a_Facts c_a_Facts, .slice a_a_Values m_a_Values c_a_Values, .slice a_a_Log m_a_Log c_a_Log, .int .i64 a_Rounds]), (1, .agg #[.slice a_b_Facts m_b_Facts c_b_Facts, .slice a_b_Values m_b_Values c_b_Values, .slice a_b_Log m_b_Log c_b_Log, .int .i64 b_Rounds])]) rfl fun w L hR => ?_
  obtain ⟨ha_Facts, ha_Values, ha_Log, i6a_Rounds, hb_Facts, hb_Values, hb_Log, i6b_Rounds⟩ := hR
  obtain ⟨rfl, la_Facts⟩ := ha_Facts.slen
  obtain ⟨rfl, la_Values⟩ := ha_Values.slen
  obtain ⟨rfl, la_Log⟩ := ha_Log.slen
  obtain ⟨rfl, lb_Facts⟩ := hb_Facts.slen
  obtain ⟨rfl, lb_Values⟩ := hb_Values.slen
  obtain ⟨rfl, lb_Log⟩ := hb_Log.slen
  refine E.seq (E.region (l := [0, 1, 2]) rfl (E.st rfl rfl (N.box (cs := [_, _, _, _]) rfl (by decide) rfl) (fun b2 _ => ?_)))
  refine E.st rfl rfl (N.box (cs := [_, _, _, _]) rfl (by decide) rfl) (fun b3 _ => ?_)
  refine E.y rfl rfl (by decide) ((Y.as rfl).yd) ?_
  refine E.nil (E.thn (E.seq (E.seq (E.region (l := [0, 1, 2, 3, 4, 5]) rfl (E.y rfl rfl (by decide) ((Y.fld fo_Reached_0 ty_Facts (by decide) rfl).yd) ?_)))))
  refine E.y rfl rfl (by decide) (Y.ld1 ty_Facts rfl ((Has.pt (mS m0)).sub (cs' := [_]) 0 rfl) rfl) ?_
  refine E.y rfl rfl (by decide) ((Y.fld fo_Reached_0 ty_Facts (by decide) rfl).yd) ?_
  refine E.y rfl rfl (by decide) (Y.ld1 ty_Facts rfl ((Has.pt m0).sub (cs' := [_]) 0 rfl) rfl) ?_
  refine E.st rfl rfl (N.call0 t_laws_eqFactS rfl rfl rfl (by decide) (fun w Lp hA => ⟨hA.ro ha_Facts, hA.ro hb_Facts⟩)) (fun _ _ => (Ent.b (fun q9 => ?_) (fun q9 => ?_)))
  · refine E.y rfl rfl (by decide) ((Y.not (b := true) rfl).yd) ?_
    refine E.nil (E.thn (E.cf rfl (E.skipc (E.thn (E.seq (E.seq (E.region (l := [0, 1, 2, 3, 4, 5]) rfl (E.y rfl rfl (by decide) ((Y.fld fo_Reached_1 ty_Is (by decide) rfl).yd) ?_))))))))
    refine E.y rfl rfl (by decide) (Y.ld1 ty_Is rfl ((Has.pt (mS m0)).sub (cs' := [_]) 1 rfl) rfl) ?_
    refine E.y rfl rfl (by decide) ((Y.fld fo_Reached_1 ty_Is (by decide) rfl).yd) ?_
    refine E.y rfl rfl (by decide) (Y.ld1 ty_Is rfl ((Has.pt m0).sub (cs' := [_]) 1 rfl) rfl) ?_
    refine E.st rfl rfl (N.call0 t_laws_eqIntS rfl rfl rfl (by decide) (fun w Lp hA => ⟨hA.ro ha_Values, hA.ro hb_Values⟩)) (fun _ _ => (Ent.b (fun q15 => ?_) (fun q15 => ?_)))
    · refine E.y rfl rfl (by decide) ((Y.not (b := true) rfl).yd) ?_
      refine E.nil (E.thn (E.cf rfl (E.skipc (E.thn (E.seq (E.seq (E.region (l := [0, 1, 2, 3, 4, 5]) rfl (E.y rfl rfl (by decide) ((Y.fld fo_Reached_2 ty_Accesss (by decide) rfl).yd) ?_))))))))
      refine E.y rfl rfl (by decide) (Y.ld1 ty_Accesss rfl ((Has.pt (mS m0)).sub (cs' := [_]) 2 rfl) rfl) ?_
      refine E.y rfl rfl (by decide) ((Y.fld fo_Reached_2 ty_Accesss (by decide) rfl).yd) ?_
      refine E.y rfl rfl (by decide) (Y.ld1 ty_Accesss rfl ((Has.pt m0).sub (cs' := [_]) 2 rfl) rfl) ?_
      refine E.st rfl rfl (N.call0 t_laws_eqAccessS rfl rfl rfl (by decide) (fun w Lp hA => ⟨hA.ro ha_Log, hA.ro hb_Log⟩)) (fun _ _ => (Ent.b (fun q21 => ?_) (fun q21 => ?_)))
      · refine E.y rfl rfl (by decide) ((Y.not (b := true) rfl).yd) ?_
        refine E.nil (E.thn (E.cf rfl (E.skipc (E.thn (E.seq (E.seq (E.region (l := [0, 1, 2, 3, 4]) rfl (E.y rfl rfl (by decide) ((Y.fld fo_Reached_3 ty_I (by decide) rfl).yd) ?_))))))))
        refine E.y rfl rfl (by decide) (Y.ld1 ty_I rfl ((Has.pt (mS m0)).sub (cs' := [_]) 3 rfl) rfl) ?_
        refine E.y rfl rfl (by decide) ((Y.fld fo_Reached_3 ty_I (by decide) rfl).yd) ?_
        refine E.y rfl rfl (by decide) (Y.ld1 ty_I rfl ((Has.pt m0).sub (cs' := [_]) 3 rfl) rfl) ?_
        refine E.y rfl rfl (by decide) ((Y.neq rfl rfl).yd) (Ent.d (fun q27 => ?_) (fun q27 => ?_))
        · refine E.nil (E.thn (E.ct rfl (E.seq (E.region (l := [0]) rfl (E.y rfl rfl (by decide) ((Y.as rfl).yd) ?_)))))
          exact E.nil (E.thn (E.ret (E.thr (F.r1 (Back.refl _ _) rfl rfl () trivial (congrArg Value.bool (by simp_all)) (J := _) (.refl _) (.inl rfl)))))
        · refine E.nil (E.thn (E.cf rfl (E.skipc (E.thn (E.seq (E.region (l := [0]) rfl (E.y rfl rfl (by decide) ((Y.as rfl).yd) ?_)))))))
          exact E.nil (E.thn (E.ret (F.r1 (Back.refl _ _) rfl rfl () trivial (congrArg Value.bool (by simp_all)) (J := _) (.refl _) (.inl rfl))))
      · refine E.y rfl rfl (by decide) ((Y.not (b := false) rfl).yd) ?_
        refine E.nil (E.thn (E.ct rfl (E.seq (E.region (l := [0]) rfl (E.y rfl rfl (by decide) ((Y.as rfl).yd) ?_)))))
        exact E.nil (E.thn (E.ret (E.thr (F.r1 (Back.refl _ _) rfl rfl () trivial (congrArg Value.bool (by simp_all)) (J := _) (.refl _) (.inl rfl)))))
    · refine E.y rfl rfl (by decide) ((Y.not (b := false) rfl).yd) ?_
      refine E.nil (E.thn (E.ct rfl (E.seq (E.region (l := [0]) rfl (E.y rfl rfl (by decide) ((Y.as rfl).yd) ?_)))))
      exact E.nil (E.thn (E.ret (E.thr (F.r1 (Back.refl _ _) rfl rfl () trivial (congrArg Value.bool (by simp_all)) (J := _) (.refl _) (.inl rfl)))))
  · refine E.y rfl rfl (by decide) ((Y.not (b := false) rfl).yd) ?_
    refine E.nil (E.thn (E.ct rfl (E.seq (E.region (l := [0]) rfl (E.y rfl rfl (by decide) ((Y.as rfl).yd) ?_)))))
    exact E.nil (E.thn (E.ret (E.thr (F.r1 (Back.refl _ _) rfl rfl () trivial (congrArg Value.bool (by simp_all)) (J := _) (.refl _) (.inl rfl)))))
theorem t_cmp_isNaN_int {x : Int} : Tr Try.prog 228 [.int .i64 x] (fun w L => True) [] (κ := Unit) (fun k => True) (fun k => .bool (false)) (fun k => []) := by
  refine Tr.intro Try.func228 rfl (n := 6) rfl (by decide +kernel) (Nat.le_of_ble_eq_true rfl) (fr := [(0, .int .i64 x)]) rfl fun w L hR => ?_
  refine E.seq (E.region (l := [0]) rfl (E.y rfl rfl (by decide) ((Y.as rfl).yd) ?_))
  refine E.nil (E.thn (E.seq (E.region (l := [0, 1, 2, 3]) rfl (E.y rfl rfl (by decide) ((Y.mv rfl).yd) ?_))))
  refine E.y rfl rfl (by decide) ((Y.mv rfl).yd) ?_
  refine E.y rfl rfl (by decide) ((Y.neq rfl rfl).yd) ?_
  refine E.y rfl rfl (by decide) ((Y.as rfl).yd) ?_
  exact E.nil (E.thn (E.ret (F.r1 (Back.refl _ _) rfl rfl () trivial (congrArg Value.bool (by simp)) (J := _) (.refl _) (.inl rfl))))
theorem t_cmp_Compare_int {x : Int} {y : Int} : Tr Try.prog 204 [.int .i64 x, .int .i64 y] (fun w L => True) [] (κ := Unit) (fun k => True) (fun k => .int .i64 (cmpI x y)) (fun k => []) := by
  refine Tr.intro Try.func204 rfl (n := 20) rfl (by decide +kernel) (Nat.le_of_ble_eq_true rfl) (fr := [(0, .int .i64 x), (1, .int .i64 y)]) rfl fun w L hR => ?_
  refine E.seq (E.region (l := [0]) rfl (E.y rfl rfl (by decide) ((Y.as rfl).yd) ?_))
  refine E.nil (E.thn (E.seq (E.region (l := [0, 1, 2]) rfl (E.y rfl rfl (by decide) ((Y.mv rfl).yd) ?_))))
  refine E.st rfl rfl (N.call0 t_cmp_isNaN_int rfl rfl rfl (by decide) (fun w Lp hA => trivial)) (fun _ _ => ?_)
  refine E.y rfl rfl (by decide) ((Y.as rfl).yd) ?_
  refine E.nil (E.thn (E.seq (E.region (l := [0, 1, 2]) rfl (E.y rfl rfl (by decide) ((Y.mv rfl).yd) ?_))))
  refine E.st rfl rfl (N.call0 t_cmp_isNaN_int rfl rfl rfl (by decide) (fun w Lp hA => trivial)) (fun _ _ => ?_)
  refine E.y rfl rfl (by decide) ((Y.as rfl).yd) ?_
  refine E.nil (E.thn (E.seq (E.seq (E.region (l := [0]) rfl (E.y rfl rfl (by decide) ((Y.mv rfl).yd) ?_)))))
  refine E.nil (E.thn (E.cf rfl (E.skipc (E.thn (E.seq (E.seq (E.region (l := [0]) rfl (E.y rfl rfl (by decide) ((Y.mv rfl).yd) ?_))))))))
  refine E.nil (E.thn (E.cf rfl (E.skipc (E.thn (E.seq (E.seq (E.region (l := [0, 1, 2]) rfl (E.y rfl rfl (by decide) ((Y.mv rfl).yd) ?_))))))))
  refine E.y rfl rfl (by decide) ((Y.mv rfl).yd) ?_
  refine E.y rfl rfl (by decide) ((Y.lss rfl rfl).yd) (Ent.d (fun q16 => ?_) (fun q16 => ?_))
  · refine E.nil (E.thn (E.ct rfl (E.seq (E.region (l := [0]) rfl (E.y rfl rfl (by decide) ((Y.as rfl).yd) ?_)))))
    exact E.nil (E.thn (E.ret (E.thr (F.r1 (Back.refl _ _) rfl rfl () trivial (congrArg (Value.int .i64) (by grind [cmpI, List.drop_eq_getElem_cons, List.drop_eq_nil_of_le, List.take_succ_eq_append_getElem, List.take_of_length_le])) (J := _) (.refl _) (.inl rfl)))))
  · refine E.nil (E.thn (E.cf rfl (E.skipc (E.thn (E.seq (E.seq (E.region (l := [0, 1, 2]) rfl (E.y rfl rfl (by decide) ((Y.mv rfl).yd) ?_))))))))
    refine E.y rfl rfl (by decide) ((Y.mv rfl).yd) ?_
    refine E.y rfl rfl (by decide) ((Y.gtr rfl rfl).yd) (Ent.d (fun q19 => ?_) (fun q19 => ?_))
    · refine E.nil (E.thn (E.ct rfl (E.seq (E.region (l := [0]) rfl (E.y rfl rfl (by decide) ((Y.as rfl).yd) ?_)))))
      exact E.nil (E.thn (E.ret (E.thr (F.r1 (Back.refl _ _) rfl rfl () trivial (congrArg (Value.int .i64) (by grind [cmpI, List.drop_eq_getElem_cons, List.drop_eq_nil_of_le, List.take_succ_eq_append_getElem, List.take_of_length_le])) (J := _) (.refl _) (.inl rfl)))))
    · refine E.nil (E.thn (E.cf rfl (E.skipc (E.thn (E.seq (E.region (l := [0]) rfl (E.y rfl rfl (by decide) ((Y.as rfl).yd) ?_)))))))
      exact E.nil (E.thn (E.ret (F.r1 (Back.refl _ _) rfl rfl () trivial (congrArg (Value.int .i64) (by grind [cmpI, List.drop_eq_getElem_cons, List.drop_eq_nil_of_le, List.take_succ_eq_append_getElem, List.take_of_length_le])) (J := _) (.refl _) (.inl rfl))))
theorem t_cmp_Or_int {a_vals : Option Addr} {m_vals c_vals : Nat} {vals : List Int} : Tr Try.prog 203 [.slice a_vals m_vals c_vals] (fun w L => Ro w L eIs [.slice a_vals m_vals c_vals] vals) [] (κ := Unit) (fun k => True) (fun k => .int .i64 (orI vals)) (fun k => []) := by
  refine Tr.intro Try.func203 rfl (n := 18) rfl (by decide +kernel) (Nat.le_of_ble_eq_true rfl) (fr := [(0, .slice a_vals m_vals c_vals)]) rfl fun w L hR => ?_
  have hvals := hR
  obtain ⟨rfl, lvals⟩ := hvals.slen
  refine E.seq (E.region (l := [0]) rfl (E.y rfl rfl (by decide) ((Y.as rfl).yd) ?_))
  refine E.nil (E.thn (E.seq (E.region (l := [0]) rfl (E.y rfl rfl (by decide) ((Y.as rfl).yd) ?_))))
  refine E.nil (E.thn (E.seq (E.seq (E.region (l := [0, 1, 2]) rfl (E.y rfl rfl (by decide) ((Y.mv rfl).yd) ?_)))))
  refine E.y rfl rfl (by decide) ((Y.len us_Is rfl).yd) ?_
  refine E.y rfl rfl (by decide) ((Y.mv rfl).yd) ?_
  refine E.nil (E.thn (E.block (E.loop (κ := Nat) (fun g => g ≤ vals.length ∧ orI vals = orI (vals.drop g)) (fun g => [(3, .int .i64 0), (6, .slice a_vals vals.length c_vals), (7, .int .i64 (↑vals.length : Int)), (8, .int .i64 (↑g : Int))]) (fun g => []) (fun g => vals.length - g) 0 ⟨Nat.zero_le _, by simp⟩ ⟨rfl, rfl, rfl, rfl, trivial⟩ (.refl _) (fun g pg => ?_))))
  obtain ⟨pk, pa⟩ := pg
  refine E.seq (E.region (l := [0]) rfl (E.y rfl rfl (by decide) ((Y.lss rfl rfl).yd) (Ent.d (fun q9 => ?_) (fun q9 => ?_))))
  · obtain ⟨eb10, eo10, ea10, ei10, eh10⟩ := hvals.elemI g (by omega)
    refine E.nil (E.thn (E.seq (E.ct rfl (E.skipc (E.thn (E.seq (E.block (E.seq (E.region (l := [0, 1, 2]) rfl (E.y rfl rfl (by decide) ((Y.ix us_Is ty_I rfl ea10 rfl g rfl (by omega)).yd) ?_))))))))))
    refine E.y rfl rfl (by decide) (Y.ld1 ty_I rfl (eh10 _) rfl) ?_
    refine E.y rfl rfl (by decide) ((Y.as rfl).yd) ?_
    refine E.nil (E.thn (E.seq (E.region (l := [0, 1, 2]) rfl (E.y rfl rfl (by decide) ((Y.mv rfl).yd) ?_))))
    refine E.y rfl rfl (by decide) ((Y.mv rfl).yd) ?_
    refine E.y rfl rfl (by decide) ((Y.neq rfl rfl).yd) (Ent.d (fun q14 => ?_) (fun q14 => ?_))
    · refine E.nil (E.thn (E.ct rfl (E.seq (E.region (l := [0, 1]) rfl (E.y rfl rfl (by decide) ((Y.mv rfl).yd) ?_)))))
      refine E.y rfl rfl (by decide) ((Y.as rfl).yd) ?_
      exact E.nil (E.thn (E.ret (E.blr (E.thr (E.thr (E.blr (E.thr (F.r1 (Back.refl _ _) rfl rfl () trivial (congrArg (Value.int .i64) (by grind [orI, List.drop_eq_getElem_cons, List.drop_eq_nil_of_le, List.take_succ_eq_append_getElem, List.take_of_length_le])) (J := _) (.refl _) (.inl rfl)))))))))
    · refine E.nil (E.thn (E.cf rfl (E.skipc (E.bln (E.thn (E.region (l := [0, 1]) rfl (E.y rfl rfl (by decide) ((Y.add rfl rfl (by omega) (by omega)).yd) ?_)))))))
      refine E.y rfl rfl (by decide) ((Y.mv rfl).yd) ?_
      exact E.nil (E.thn (E.again (Back.refl _ _) (g + 1) ⟨rfl, rfl, rfl, rfl, trivial⟩ (.refl _) ⟨by omega, by grind [orI, List.drop_eq_getElem_cons, List.drop_eq_nil_of_le, List.take_succ_eq_append_getElem, List.take_of_length_le]⟩ (by omega)))
  · refine E.nil (E.thn (E.seq (E.cf rfl (E.exit (E.the (E.the (E.blh (E.thn (E.seq (E.region (l := [0, 1]) rfl (E.y rfl rfl (by decide) ((Y.mv rfl).yd) ?_)))))))))))
    refine E.y rfl rfl (by decide) ((Y.as rfl).yd) ?_
    exact E.nil (E.thn (E.ret (F.r1 (Back.refl _ _) rfl rfl () trivial (congrArg (Value.int .i64) (by grind [orI, List.drop_eq_getElem_cons, List.drop_eq_nil_of_le, List.take_succ_eq_append_getElem, List.take_of_length_le])) (J := _) (.refl _) (.inl rfl))))
theorem t_slices_Compare_int_int {a_s1 : Option Addr} {m_s1 c_s1 : Nat} {s1 : List Int} {a_s2 : Option Addr} {m_s2 c_s2 : Nat} {s2 : List Int} : Tr Try.prog 205 [.slice a_s1 m_s1 c_s1, .slice a_s2 m_s2 c_s2] (fun w L => Ro w L eIs [.slice a_s1 m_s1 c_s1] s1 ∧ Ro w L eIs [.slice a_s2 m_s2 c_s2] s2) [] (κ := Unit) (fun k => True) (fun k => .int .i64 (cmpL s1 s2)) (fun k => []) := by
  refine Tr.intro Try.func205 rfl (n := 36) rfl (by decide +kernel) (Nat.le_of_ble_eq_true rfl) (fr := [(0, .slice a_s1 m_s1 c_s1), (1, .slice a_s2 m_s2 c_s2)]) rfl fun w L hR => ?_
  obtain ⟨hs1, hs2⟩ := hR
  obtain ⟨rfl, ls1⟩ := hs1.slen
  obtain ⟨rfl, ls2⟩ := hs2.slen
  refine E.seq (E.region (l := [0]) rfl (E.y rfl rfl (by decide) ((Y.as rfl).yd) ?_))
  refine E.nil (E.thn (E.seq (E.seq (E.region (l := [0, 1, 2]) rfl (E.y rfl rfl (by decide) ((Y.mv rfl).yd) ?_)))))
  refine E.y rfl rfl (by decide) ((Y.len us_Is rfl).yd) ?_
  refine E.y rfl rfl (by decide) ((Y.mv rfl).yd) ?_
  refine E.nil (E.thn (E.block (E.loop (κ := Nat) (fun g => g ≤ s1.length ∧ cmpL s1 s2 = cmpL (s1.drop g) (s2.drop g)) (fun g => [(0, .slice a_s1 s1.length c_s1), (1, .slice a_s2 s2.length c_s2), (9, .slice a_s1 s1.length c_s1), (10, .int .i64 (↑s1.length : Int)), (11, .int .i64 (↑g : Int))]) (fun g => []) (fun g => s1.length - g) 0 ⟨Nat.zero_le _, by simp⟩ ⟨rfl, rfl, rfl, rfl, rfl, trivial⟩ (.refl _) (fun g pg => ?_))))
  obtain ⟨pk, pa⟩ := pg
  refine E.seq (E.region (l := [0]) rfl (E.y rfl rfl (by decide) ((Y.lss rfl rfl).yd) (Ent.d (fun q12 => ?_) (fun q12 => ?_))))
  · refine E.nil (E.thn (E.seq (E.ct rfl (E.skipc (E.thn (E.seq (E.block (E.seq (E.region (l := [0, 1, 2, 3, 4]) rfl (E.y rfl rfl (by decide) ((Y.mv rfl).yd) ?_))))))))))
    obtain ⟨eb14, eo14, ea14, ei14, eh14⟩ := hs1.elemI g (by omega)
    refine E.y rfl rfl (by decide) ((Y.ix us_Is ty_I rfl ea14 rfl g rfl (by omega)).yd) ?_
    refine E.y rfl rfl (by decide) (Y.ld1 ty_I rfl (eh14 _) rfl) ?_
    refine E.y rfl rfl (by decide) ((Y.as rfl).yd) ?_
    refine E.y rfl rfl (by decide) ((Y.as rfl).yd) ?_
    refine E.nil (E.thn (E.seq (E.seq (E.region (l := [0, 1, 2, 3]) rfl (E.y rfl rfl (by decide) ((Y.mv rfl).yd) ?_)))))
    refine E.y rfl rfl (by decide) ((Y.mv rfl).yd) ?_
    refine E.y rfl rfl (by decide) ((Y.len us_Is rfl).yd) ?_
    refine E.y rfl rfl (by decide) ((Y.geq rfl rfl).yd) (Ent.d (fun q19 => ?_) (fun q19 => ?_))
    · refine E.nil (E.thn (E.ct rfl (E.seq (E.region (l := [0]) rfl (E.y rfl rfl (by decide) ((Y.as rfl).yd) ?_)))))
      exact E.nil (E.thn (E.ret (E.thr (E.blr (E.thr (E.thr (E.blr (E.thr (F.r1 (Back.refl _ _) rfl rfl () trivial (congrArg (Value.int .i64) (by grind [cmpL, List.drop_eq_getElem_cons, List.drop_eq_nil_of_le, List.take_succ_eq_append_getElem, List.take_of_length_le])) (J := _) (.refl _) (.inl rfl))))))))))
    · refine E.nil (E.thn (E.cf rfl (E.skipc (E.thn (E.seq (E.region (l := [0, 1, 2, 3, 4]) rfl (E.y rfl rfl (by decide) ((Y.mv rfl).yd) ?_)))))))
      refine E.y rfl rfl (by decide) ((Y.mv rfl).yd) ?_
      obtain ⟨eb22, eo22, ea22, ei22, eh22⟩ := hs2.elemI g (by omega)
      refine E.y rfl rfl (by decide) ((Y.ix us_Is ty_I rfl ea22 rfl g rfl (by omega)).yd) ?_
      refine E.y rfl rfl (by decide) (Y.ld1 ty_I rfl (eh22 _) rfl) ?_
      refine E.y rfl rfl (by decide) ((Y.as rfl).yd) ?_
      refine E.nil (E.thn (E.seq (E.region (l := [0, 1, 2, 3]) rfl (E.y rfl rfl (by decide) ((Y.mv rfl).yd) ?_))))
      refine E.y rfl rfl (by decide) ((Y.mv rfl).yd) ?_
      refine E.st rfl rfl (N.call0 t_cmp_Compare_int rfl rfl rfl (by decide) (fun w Lp hA => trivial)) (fun _ _ => ?_)
      refine E.y rfl rfl (by decide) ((Y.as rfl).yd) ?_
      refine E.nil (E.thn (E.seq (E.region (l := [0, 1]) rfl (E.y rfl rfl (by decide) ((Y.mv rfl).yd) ?_))))
      refine E.y rfl rfl (by decide) ((Y.neq rfl rfl).yd) (Ent.d (fun q28 => ?_) (fun q28 => ?_))
      · refine E.nil (E.thn (E.ct rfl (E.seq (E.region (l := [0, 1]) rfl (E.y rfl rfl (by decide) ((Y.mv rfl).yd) ?_)))))
        refine E.y rfl rfl (by decide) ((Y.as rfl).yd) ?_
        exact E.nil (E.thn (E.ret (E.blr (E.thr (E.thr (E.blr (E.thr (F.r1 (Back.refl _ _) rfl rfl () trivial (congrArg (Value.int .i64) (by grind [cmpL, List.drop_eq_getElem_cons, List.drop_eq_nil_of_le, List.take_succ_eq_append_getElem, List.take_of_length_le])) (J := _) (.refl _) (.inl rfl)))))))))
      · refine E.nil (E.thn (E.cf rfl (E.skipc (E.bln (E.thn (E.region (l := [0, 1]) rfl (E.y rfl rfl (by decide) ((Y.add rfl rfl (by omega) (by omega)).yd) ?_)))))))
        refine E.y rfl rfl (by decide) ((Y.mv rfl).yd) ?_
        exact E.nil (E.thn (E.again (Back.refl _ _) (g + 1) ⟨rfl, rfl, rfl, rfl, rfl, trivial⟩ (.refl _) ⟨by omega, by grind [cmpL, List.drop_eq_getElem_cons, List.drop_eq_nil_of_le, List.take_succ_eq_append_getElem, List.take_of_length_le]⟩ (by omega)))
  · refine E.nil (E.thn (E.seq (E.cf rfl (E.exit (E.the (E.the (E.blh (E.thn (E.seq (E.seq (E.region (l := [0, 1, 2, 3, 4]) rfl (E.y rfl rfl (by decide) ((Y.mv rfl).yd) ?_))))))))))))
    refine E.y rfl rfl (by decide) ((Y.len us_Is rfl).yd) ?_
    refine E.y rfl rfl (by decide) ((Y.mv rfl).yd) ?_
    refine E.y rfl rfl (by decide) ((Y.len us_Is rfl).yd) ?_
    refine E.y rfl rfl (by decide) ((Y.lss rfl rfl).yd) (Ent.d (fun q35 => ?_) (fun q35 => ?_))
    · refine E.nil (E.thn (E.ct rfl (E.seq (E.region (l := [0]) rfl (E.y rfl rfl (by decide) ((Y.as rfl).yd) ?_)))))
      exact E.nil (E.thn (E.ret (E.thr (F.r1 (Back.refl _ _) rfl rfl () trivial (congrArg (Value.int .i64) (by grind [cmpL, List.drop_eq_getElem_cons, List.drop_eq_nil_of_le, List.take_succ_eq_append_getElem, List.take_of_length_le])) (J := _) (.refl _) (.inl rfl)))))
    · refine E.nil (E.thn (E.cf rfl (E.skipc (E.thn (E.seq (E.region (l := [0]) rfl (E.y rfl rfl (by decide) ((Y.as rfl).yd) ?_)))))))
      exact E.nil (E.thn (E.ret (F.r1 (Back.refl _ _) rfl rfl () trivial (congrArg (Value.int .i64) (by grind [cmpL, List.drop_eq_getElem_cons, List.drop_eq_nil_of_le, List.take_succ_eq_append_getElem, List.take_of_length_le])) (J := _) (.refl _) (.inl rfl))))
theorem t_impl_CompareFacts {a_Rel : Int} {a_a_Values : Option Addr} {m_a_Values c_a_Values : Nat} {a_Values : List Int} {b_Rel : Int} {a_b_Values : Option Addr} {m_b_Values c_b_Values : Nat} {b_Values : List Int} : Tr Try.prog 158 [.agg #[.int .i64 a_Rel, .slice a_a_Values m_a_Values c_a_Values], .agg #[.int .i64 b_Rel, .slice a_b_Values m_b_Values c_b_Values]] (fun w L => I64 a_Rel ∧ Ro w L eIs [.slice a_a_Values m_a_Values c_a_Values] a_Values ∧ I64 b_Rel ∧ Ro w L eIs [.slice a_b_Values m_b_Values c_b_Values] b_Values) [] (κ := Unit) (fun k => True) (fun k => .int .i64 (cmpF (a_Rel, a_Values) (b_Rel, b_Values))) (fun k => []) := by
  refine Tr.intro Try.func158 rfl (n := 17) rfl (by decide +kernel) (Nat.le_of_ble_eq_true rfl) (fr := [(0, .agg #[.int .i64 a_Rel, .slice a_a_Values m_a_Values c_a_Values]), (1, .agg #[.int .i64 b_Rel, .slice a_b_Values m_b_Values c_b_Values])]) rfl fun w L hR => ?_
  obtain ⟨i6a_Rel, ha_Values, i6b_Rel, hb_Values⟩ := hR
  obtain ⟨rfl, la_Values⟩ := ha_Values.slen
  obtain ⟨rfl, lb_Values⟩ := hb_Values.slen
  refine E.seq (E.region (l := [0, 1, 2]) rfl (E.st rfl rfl (N.box (cs := [_, _]) rfl (by decide) rfl) (fun b2 _ => ?_)))
  refine E.st rfl rfl (N.box (cs := [_, _]) rfl (by decide) rfl) (fun b3 _ => ?_)
  refine E.y rfl rfl (by decide) ((Y.as rfl).yd) ?_
  refine E.nil (E.thn (E.seq (D.region (fun j => true) mixed (D.yp 0 rfl rfl (by decide) (Y.fld fo_Fact_0 ty_I (by decide) rfl) (by kernel_rfl) ?_))))
  refine D.y 1 rfl rfl (by decide) (Y.ld1 ty_I rfl ((Has.pt (mS m0)).sub (cs' := [_]) 0 rfl) rfl) (by kernel_rfl) ?_
  refine D.yp 2 rfl rfl (by decide) (Y.fld fo_Fact_0 ty_I (by decide) rfl) (by kernel_rfl) ?_
  refine D.y 3 rfl rfl (by decide) (Y.ld1 ty_I rfl ((Has.pt m0).sub (cs' := [_]) 0 rfl) rfl) (by kernel_rfl) ?_
  refine D.yp 5 rfl rfl (by decide) (Y.fld fo_Fact_1 ty_Is (by decide) rfl) (by kernel_rfl) ?_
  refine D.y 6 rfl rfl (by decide) (Y.ld1 ty_Is rfl ((Has.pt (mS m0)).sub (cs' := [_]) 1 rfl) rfl) (by kernel_rfl) ?_
  refine D.yp 7 rfl rfl (by decide) (Y.fld fo_Fact_1 ty_Is (by decide) rfl) (by kernel_rfl) ?_
  refine D.y 8 rfl rfl (by decide) (Y.ld1 ty_Is rfl ((Has.pt m0).sub (cs' := [_]) 1 rfl) rfl) (by kernel_rfl) ?_
  have j1 := @cmpI_i64 a_Rel b_Rel
  refine D.st 4 rfl rfl (by kernel_rfl) (fun _ => rfl) (N.call0 t_cmp_Compare_int rfl rfl rfl (by decide) (fun w Lp hA => trivial)) (fun _ _ => ?_)
  have j2 := @cmpL_i64 a_Values b_Values
  refine D.st 9 rfl rfl (by kernel_rfl) (fun _ => rfl) (N.call0 t_slices_Compare_int_int rfl rfl rfl (by decide) (fun w Lp hA => ⟨hA.ro ha_Values, hA.ro hb_Values⟩)) (fun _ _ => ?_)
  refine D.st 10 rfl rfl (by kernel_rfl) (fun _ => rfl) (N.bsl (pvs := [_, _]) (cs := [_, _]) us_Is ty_I rfl (by decide) (by decide) (fillZ rfl rfl) rfl (by decide)) (fun b15 _ => ?_)
  refine Ent.mkow (A := [_]) (Own.ints (e := tI) (xs := [cmpI a_Rel b_Rel, cmpL a_Values b_Values]) rfl (by simp [maxLen]) (by simp only [List.forall_mem_cons]; exact ⟨(by first | assumption | (unfold I64; (try dsimp only); omega) | grind), (by first | assumption | (unfold I64; (try dsimp only); omega) | grind), List.forall_mem_nil _⟩)) rfl ?_
  refine D.st 11 rfl rfl (by kernel_rfl) (fun _ => rfl) (N.call0 t_cmp_Or_int rfl rfl rfl (by decide) (fun w Lp hA => hA.ow m0)) (fun _ _ => ?_)
  refine D.yp 12 rfl rfl (by decide) (Y.as rfl) (by kernel_rfl) ?_
  exact D.done (by kernel_rfl) (E.thn (E.ret (F.r1 (Back.refl _ _) rfl rfl () trivial (congrArg (Value.int .i64) (by grind [cmpF, orI, List.drop_eq_getElem_cons, List.drop_eq_nil_of_le, List.take_succ_eq_append_getElem, List.take_of_length_le])) (J := _) (.refl _) (.inl rfl))))
theorem t_spec_CompareFacts {a_Rel : Int} {a_a_Values : Option Addr} {m_a_Values c_a_Values : Nat} {a_Values : List Int} {b_Rel : Int} {a_b_Values : Option Addr} {m_b_Values c_b_Values : Nat} {b_Values : List Int} : Tr Try.prog 153 [.agg #[.int .i64 a_Rel, .slice a_a_Values m_a_Values c_a_Values], .agg #[.int .i64 b_Rel, .slice a_b_Values m_b_Values c_b_Values]] (fun w L => I64 a_Rel ∧ Ro w L eIs [.slice a_a_Values m_a_Values c_a_Values] a_Values ∧ I64 b_Rel ∧ Ro w L eIs [.slice a_b_Values m_b_Values c_b_Values] b_Values) [] (κ := Unit) (fun k => True) (fun k => .int .i64 (cmpF (a_Rel, a_Values) (b_Rel, b_Values))) (fun k => []) := by
  refine Tr.intro Try.func153 rfl (n := 66) rfl (by decide +kernel) (Nat.le_of_ble_eq_true rfl) (fr := [(0, .agg #[.int .i64 a_Rel, .slice a_a_Values m_a_Values c_a_Values]), (1, .agg #[.int .i64 b_Rel, .slice a_b_Values m_b_Values c_b_Values])]) rfl fun w L hR => ?_
  obtain ⟨i6a_Rel, ha_Values, i6b_Rel, hb_Values⟩ := hR
  obtain ⟨rfl, la_Values⟩ := ha_Values.slen
  obtain ⟨rfl, lb_Values⟩ := hb_Values.slen
  refine E.seq (E.region (l := [0, 1, 2]) rfl (E.st rfl rfl (N.box (cs := [_, _]) rfl (by decide) rfl) (fun b2 _ => ?_)))
  refine E.st rfl rfl (N.box (cs := [_, _]) rfl (by decide) rfl) (fun b3 _ => ?_)
  refine E.y rfl rfl (by decide) ((Y.as rfl).yd) ?_
  refine E.nil (E.thn (E.seq (E.seq (E.region (l := [0, 1, 2, 3, 4]) rfl (E.y rfl rfl (by decide) ((Y.fld fo_Fact_0 ty_I (by decide) rfl).yd) ?_)))))
  refine E.y rfl rfl (by decide) (Y.ld1 ty_I rfl ((Has.pt (mS m0)).sub (cs' := [_]) 0 rfl) rfl) ?_
  refine E.y rfl rfl (by decide) ((Y.fld fo_Fact_0 ty_I (by decide) rfl).yd) ?_
  refine E.y rfl rfl (by decide) (Y.ld1 ty_I rfl ((Has.pt m0).sub (cs' := [_]) 0 rfl) rfl) ?_
  refine E.y rfl rfl (by decide) ((Y.neq rfl rfl).yd) (Ent.d (fun q10 => ?_) (fun q10 => ?_))
  · refine E.nil (E.thn (E.ct rfl (E.seq (E.seq (E.region (l := [0, 1, 2, 3, 4]) rfl (E.y rfl rfl (by decide) ((Y.fld fo_Fact_0 ty_I (by decide) rfl).yd) ?_))))))
    refine E.y rfl rfl (by decide) (Y.ld1 ty_I rfl ((Has.pt (mS m0)).sub (cs' := [_]) 0 rfl) rfl) ?_
    refine E.y rfl rfl (by decide) ((Y.fld fo_Fact_0 ty_I (by decide) rfl).yd) ?_
    refine E.y rfl rfl (by decide) (Y.ld1 ty_I rfl ((Has.pt m0).sub (cs' := [_]) 0 rfl) rfl) ?_
    refine E.y rfl rfl (by decide) ((Y.lss rfl rfl).yd) (Ent.d (fun q15 => ?_) (fun q15 => ?_))
    · refine E.nil (E.thn (E.ct rfl (E.seq (E.region (l := [0]) rfl (E.y rfl rfl (by decide) ((Y.as rfl).yd) ?_)))))
      exact E.nil (E.thn (E.ret (E.thr (E.thr (F.r1 (Back.refl _ _) rfl rfl () trivial (congrArg (Value.int .i64) (by grind [cmpF, cmpI, cmpL, List.drop_eq_getElem_cons, List.drop_eq_nil_of_le, List.take_succ_eq_append_getElem, List.take_of_length_le])) (J := _) (.refl _) (.inl rfl))))))
    · refine E.nil (E.thn (E.cf rfl (E.skipc (E.thn (E.seq (E.region (l := [0]) rfl (E.y rfl rfl (by decide) ((Y.as rfl).yd) ?_)))))))
      exact E.nil (E.thn (E.ret (E.thr (F.r1 (Back.refl _ _) rfl rfl () trivial (congrArg (Value.int .i64) (by grind [cmpF, cmpI, cmpL, List.drop_eq_getElem_cons, List.drop_eq_nil_of_le, List.take_succ_eq_append_getElem, List.take_of_length_le])) (J := _) (.refl _) (.inl rfl)))))
  · refine E.nil (E.thn (E.cf rfl (E.skipc (E.thn (E.seq (E.seq (E.region (l := [0]) rfl (E.y rfl rfl (by decide) ((Y.as rfl).yd) ?_))))))))
    refine E.nil (E.thn (E.block (E.loop (κ := Nat) (fun g => g ≤ a_Values.length ∧ g ≤ b_Values.length ∧ cmpL a_Values b_Values = cmpL (a_Values.drop g) (b_Values.drop g)) (fun g => [(2, .pointer (some ⟨b2, 0, none⟩)), (3, .pointer (some ⟨b3, 0, none⟩)), (5, .int .i64 (↑g : Int))]) (fun g => [pt b3 69 [.int .i64 b_Rel, .slice a_b_Values b_Values.length c_b_Values], pt b2 69 [.int .i64 a_Rel, .slice a_a_Values a_Values.length c_a_Values]]) (fun g => a_Values.length - g) 0 ⟨Nat.zero_le _, by simp⟩ ⟨rfl, rfl, rfl, trivial⟩ (.refl _) (fun g pg => ?_))))
    obtain ⟨pk, pa⟩ := pg
    refine E.seq (E.seq (E.region (l := [0, 1, 2, 3, 4, 5, 6, 7, 8, 9, 10, 11]) rfl (E.y rfl rfl (by decide) ((Y.mv rfl).yd) ?_)))
    refine E.y rfl rfl (by decide) ((Y.fld fo_Fact_1 ty_Is (by decide) rfl).yd) ?_
    refine E.y rfl rfl (by decide) (Y.ld1 ty_Is rfl ((Has.pt (mS m0)).sub (cs' := [_]) 1 rfl) rfl) ?_
    refine E.y rfl rfl (by decide) ((Y.len us_Is rfl).yd) ?_
    refine E.y rfl rfl (by decide) ((Y.lss rfl rfl).yd) (Ent.d (fun q20 => ?_) (fun q20 => ?_))
    · refine E.y rfl rfl (by decide) ((Y.mv rfl).yd) ?_
      refine E.y rfl rfl (by decide) ((Y.mv rfl).yd) ?_
      refine E.y rfl rfl (by decide) ((Y.fld fo_Fact_1 ty_Is (by decide) rfl).yd) ?_
      refine E.y rfl rfl (by decide) (Y.ld1 ty_Is rfl ((Has.pt m0).sub (cs' := [_]) 1 rfl) rfl) ?_
      refine E.y rfl rfl (by decide) ((Y.len us_Is rfl).yd) ?_
      refine E.y rfl rfl (by decide) ((Y.lss rfl rfl).yd) (Ent.d (fun q26 => ?_) (fun q26 => ?_))
      · refine E.y rfl rfl (by decide) ((Y.pkt rfl rfl).yd) ?_
        refine E.nil (E.thn (E.ct rfl (E.skipc (E.thn (E.seq (E.block (E.seq (E.seq (D.region (fun j => true) mixed (D.yp 0 rfl rfl (by decide) (Y.fld fo_Fact_1 ty_Is (by decide) rfl) (by kernel_rfl) ?_))))))))))
        refine D.y 1 rfl rfl (by decide) (Y.ld1 ty_Is rfl ((Has.pt (mS m0)).sub (cs' := [_]) 1 rfl) rfl) (by kernel_rfl) ?_
        refine D.yp 2 rfl rfl (by decide) (Y.mv rfl) (by kernel_rfl) ?_
        obtain ⟨eb33, eo33, ea33, ei33, eh33⟩ := ha_Values.elemI g (by omega)
        refine D.yp 3 rfl rfl (by decide) (Y.ix us_Is ty_I rfl ea33 rfl g rfl (by omega)) (by kernel_rfl) ?_
        refine D.y 4 rfl rfl (by decide) (Y.ld1 ty_I rfl (eh33 _) rfl) (by kernel_rfl) ?_
        refine D.yp 5 rfl rfl (by decide) (Y.fld fo_Fact_1 ty_Is (by decide) rfl) (by kernel_rfl) ?_
        refine D.y 6 rfl rfl (by decide) (Y.ld1 ty_Is rfl ((Has.pt m0).sub (cs' := [_]) 1 rfl) rfl) (by kernel_rfl) ?_
        refine D.yp 7 rfl rfl (by decide) (Y.mv rfl) (by kernel_rfl) ?_
        obtain ⟨eb38, eo38, ea38, ei38, eh38⟩ := hb_Values.elemI g (by omega)
        refine D.yp 8 rfl rfl (by decide) (Y.ix us_Is ty_I rfl ea38 rfl g rfl (by omega)) (by kernel_rfl) ?_
        refine D.y 9 rfl rfl (by decide) (Y.ld1 ty_I rfl (eh38 _) rfl) (by kernel_rfl) ?_
        refine D.yp 10 rfl rfl (by decide) (Y.lss rfl rfl) (by kernel_rfl) (Ent.d (fun q40 => ?_) (fun q40 => ?_))
        · refine D.done (by kernel_rfl) (E.thn (E.ct rfl (E.seq (E.region (l := [0]) rfl (E.y rfl rfl (by decide) ((Y.as rfl).yd) ?_)))))
          exact E.nil (E.thn (E.ret (E.thr (E.blr (E.thr (E.thr (E.blr (E.thr (F.r1 (Back.refl _ _) rfl rfl () trivial (congrArg (Value.int .i64) (by grind [cmpF, cmpI, cmpL, List.drop_eq_getElem_cons, List.drop_eq_nil_of_le, List.take_succ_eq_append_getElem, List.take_of_length_le])) (J := _) (.refl _) (.inl rfl))))))))))
        · refine D.done (by kernel_rfl) (E.thn (E.cf rfl (E.skipc (E.thn (E.seq (D.region (fun j => true) mixed (D.yp 0 rfl rfl (by decide) (Y.fld fo_Fact_1 ty_Is (by decide) rfl) (by kernel_rfl) ?_)))))))
          refine D.y 1 rfl rfl (by decide) (Y.ld1 ty_Is rfl ((Has.pt (mS m0)).sub (cs' := [_]) 1 rfl) rfl) (by kernel_rfl) ?_
          refine D.yp 2 rfl rfl (by decide) (Y.mv rfl) (by kernel_rfl) ?_
          refine D.yp 3 rfl rfl (by decide) (Y.ix us_Is ty_I rfl ea33 rfl g rfl (by omega)) (by kernel_rfl) ?_
          refine D.y 4 rfl rfl (by decide) (Y.ld1 ty_I rfl (eh33 _) rfl) (by kernel_rfl) ?_
          refine D.yp 5 rfl rfl (by decide) (Y.fld fo_Fact_1 ty_Is (by decide) rfl) (by kernel_rfl) ?_
          refine D.y 6 rfl rfl (by decide) (Y.ld1 ty_Is rfl ((Has.pt m0).sub (cs' := [_]) 1 rfl) rfl) (by kernel_rfl) ?_
          refine D.yp 7 rfl rfl (by decide) (Y.mv rfl) (by kernel_rfl) ?_
          refine D.yp 8 rfl rfl (by decide) (Y.ix us_Is ty_I rfl ea38 rfl g rfl (by omega)) (by kernel_rfl) ?_
          refine D.y 9 rfl rfl (by decide) (Y.ld1 ty_I rfl (eh38 _) rfl) (by kernel_rfl) ?_
          refine D.yp 10 rfl rfl (by decide) (Y.gtr rfl rfl) (by kernel_rfl) (Ent.d (fun q51 => ?_) (fun q51 => ?_))
          · refine D.done (by kernel_rfl) (E.thn (E.ct rfl (E.seq (E.region (l := [0]) rfl (E.y rfl rfl (by decide) ((Y.as rfl).yd) ?_)))))
            exact E.nil (E.thn (E.ret (E.blr (E.thr (E.thr (E.blr (E.thr (F.r1 (Back.refl _ _) rfl rfl () trivial (congrArg (Value.int .i64) (by grind [cmpF, cmpI, cmpL, List.drop_eq_getElem_cons, List.drop_eq_nil_of_le, List.take_succ_eq_append_getElem, List.take_of_length_le])) (J := _) (.refl _) (.inl rfl)))))))))
          · refine D.done (by kernel_rfl) (E.thn (E.cf rfl (E.skipc (E.bln (E.thn (E.region (l := [0, 1, 2]) rfl (E.y rfl rfl (by decide) ((Y.mv rfl).yd) ?_)))))))
            refine E.y rfl rfl (by decide) ((Y.add rfl rfl (by omega) (by omega)).yd) ?_
            refine E.y rfl rfl (by decide) ((Y.as rfl).yd) ?_
            refine E.nil (E.thn (Ent.p1 ?_))
            refine Ent.p1 ?_
            exact E.again (Back.refl _ _) (g + 1) ⟨rfl, rfl, rfl, trivial⟩ (.refl _) ⟨by omega, by grind [cmpL, cmpI, List.drop_eq_getElem_cons, List.drop_eq_nil_of_le, List.take_succ_eq_append_getElem, List.take_of_length_le]⟩ (by omega)
      · refine E.y rfl rfl (by decide) ((Y.pkt rfl rfl).yd) ?_
        refine E.nil (E.thn (E.cf rfl (E.exit (E.the (E.the (E.blh (E.thn (E.seq (E.seq (E.region (l := [0, 1, 2, 3, 4, 5, 6]) rfl (E.y rfl rfl (by decide) ((Y.fld fo_Fact_1 ty_Is (by decide) rfl).yd) ?_)))))))))))
        refine E.y rfl rfl (by decide) (Y.ld1 ty_Is rfl ((Has.pt (mS m0)).sub (cs' := [_]) 1 rfl) rfl) ?_
        refine E.y rfl rfl (by decide) ((Y.len us_Is rfl).yd) ?_
        refine E.y rfl rfl (by decide) ((Y.fld fo_Fact_1 ty_Is (by decide) rfl).yd) ?_
        refine E.y rfl rfl (by decide) (Y.ld1 ty_Is rfl ((Has.pt m0).sub (cs' := [_]) 1 rfl) rfl) ?_
        refine E.y rfl rfl (by decide) ((Y.len us_Is rfl).yd) ?_
        refine E.y rfl rfl (by decide) ((Y.lss rfl rfl).yd) (Ent.d (fun q58 => ?_) (fun q58 => ?_))
        · refine E.nil (E.thn (E.ct rfl (E.seq (E.region (l := [0]) rfl (E.y rfl rfl (by decide) ((Y.as rfl).yd) ?_)))))
          exact E.nil (E.thn (E.ret (E.thr (F.r1 (Back.refl _ _) rfl rfl () trivial (congrArg (Value.int .i64) (by grind [cmpF, cmpI, cmpL, List.drop_eq_getElem_cons, List.drop_eq_nil_of_le, List.take_succ_eq_append_getElem, List.take_of_length_le])) (J := _) (.refl _) (.inl rfl)))))
        · refine E.nil (E.thn (E.cf rfl (E.skipc (E.thn (E.seq (E.seq (E.region (l := [0, 1, 2, 3, 4, 5, 6]) rfl (E.y rfl rfl (by decide) ((Y.fld fo_Fact_1 ty_Is (by decide) rfl).yd) ?_))))))))
          refine E.y rfl rfl (by decide) (Y.ld1 ty_Is rfl ((Has.pt (mS m0)).sub (cs' := [_]) 1 rfl) rfl) ?_
          refine E.y rfl rfl (by decide) ((Y.len us_Is rfl).yd) ?_
          refine E.y rfl rfl (by decide) ((Y.fld fo_Fact_1 ty_Is (by decide) rfl).yd) ?_
          refine E.y rfl rfl (by decide) (Y.ld1 ty_Is rfl ((Has.pt m0).sub (cs' := [_]) 1 rfl) rfl) ?_
          refine E.y rfl rfl (by decide) ((Y.len us_Is rfl).yd) ?_
          refine E.y rfl rfl (by decide) ((Y.gtr rfl rfl).yd) (Ent.d (fun q65 => ?_) (fun q65 => ?_))
          · refine E.nil (E.thn (E.ct rfl (E.seq (E.region (l := [0]) rfl (E.y rfl rfl (by decide) ((Y.as rfl).yd) ?_)))))
            exact E.nil (E.thn (E.ret (E.thr (F.r1 (Back.refl _ _) rfl rfl () trivial (congrArg (Value.int .i64) (by grind [cmpF, cmpI, cmpL, List.drop_eq_getElem_cons, List.drop_eq_nil_of_le, List.take_succ_eq_append_getElem, List.take_of_length_le])) (J := _) (.refl _) (.inl rfl)))))
          · refine E.nil (E.thn (E.cf rfl (E.skipc (E.thn (E.seq (E.region (l := [0]) rfl (E.y rfl rfl (by decide) ((Y.as rfl).yd) ?_)))))))
            exact E.nil (E.thn (E.ret (F.r1 (Back.refl _ _) rfl rfl () trivial (congrArg (Value.int .i64) (by grind [cmpF, cmpI, cmpL, List.drop_eq_getElem_cons, List.drop_eq_nil_of_le, List.take_succ_eq_append_getElem, List.take_of_length_le])) (J := _) (.refl _) (.inl rfl))))
    · refine E.y rfl rfl (by decide) ((Y.mv rfl).yd) ?_
      refine E.skip rfl rfl rfl ?_
      refine E.skip rfl rfl rfl ?_
      refine E.skip rfl rfl rfl ?_
      refine E.skip rfl rfl rfl ?_
      refine E.skip rfl rfl rfl ?_
      refine E.y rfl rfl (by decide) ((Y.pkf rfl rfl).yd) ?_
      refine E.nil (E.thn (E.cf rfl (E.exit (E.the (E.the (E.blh (E.thn (E.seq (E.seq (E.region (l := [0, 1, 2, 3, 4, 5, 6]) rfl (E.y rfl rfl (by decide) ((Y.fld fo_Fact_1 ty_Is (by decide) rfl).yd) ?_)))))))))))
      refine E.y rfl rfl (by decide) (Y.ld1 ty_Is rfl ((Has.pt (mS m0)).sub (cs' := [_]) 1 rfl) rfl) ?_
      refine E.y rfl rfl (by decide) ((Y.len us_Is rfl).yd) ?_
      refine E.y rfl rfl (by decide) ((Y.fld fo_Fact_1 ty_Is (by decide) rfl).yd) ?_
      refine E.y rfl rfl (by decide) (Y.ld1 ty_Is rfl ((Has.pt m0).sub (cs' := [_]) 1 rfl) rfl) ?_
      refine E.y rfl rfl (by decide) ((Y.len us_Is rfl).yd) ?_
      refine E.y rfl rfl (by decide) ((Y.lss rfl rfl).yd) (Ent.d (fun q58 => ?_) (fun q58 => ?_))
      · refine E.nil (E.thn (E.ct rfl (E.seq (E.region (l := [0]) rfl (E.y rfl rfl (by decide) ((Y.as rfl).yd) ?_)))))
        exact E.nil (E.thn (E.ret (E.thr (F.r1 (Back.refl _ _) rfl rfl () trivial (congrArg (Value.int .i64) (by grind [cmpF, cmpI, cmpL, List.drop_eq_getElem_cons, List.drop_eq_nil_of_le, List.take_succ_eq_append_getElem, List.take_of_length_le])) (J := _) (.refl _) (.inl rfl)))))
      · refine E.nil (E.thn (E.cf rfl (E.skipc (E.thn (E.seq (E.seq (E.region (l := [0, 1, 2, 3, 4, 5, 6]) rfl (E.y rfl rfl (by decide) ((Y.fld fo_Fact_1 ty_Is (by decide) rfl).yd) ?_))))))))
        refine E.y rfl rfl (by decide) (Y.ld1 ty_Is rfl ((Has.pt (mS m0)).sub (cs' := [_]) 1 rfl) rfl) ?_
        refine E.y rfl rfl (by decide) ((Y.len us_Is rfl).yd) ?_
        refine E.y rfl rfl (by decide) ((Y.fld fo_Fact_1 ty_Is (by decide) rfl).yd) ?_
        refine E.y rfl rfl (by decide) (Y.ld1 ty_Is rfl ((Has.pt m0).sub (cs' := [_]) 1 rfl) rfl) ?_
        refine E.y rfl rfl (by decide) ((Y.len us_Is rfl).yd) ?_
        refine E.y rfl rfl (by decide) ((Y.gtr rfl rfl).yd) (Ent.d (fun q65 => ?_) (fun q65 => ?_))
        · refine E.nil (E.thn (E.ct rfl (E.seq (E.region (l := [0]) rfl (E.y rfl rfl (by decide) ((Y.as rfl).yd) ?_)))))
          exact E.nil (E.thn (E.ret (E.thr (F.r1 (Back.refl _ _) rfl rfl () trivial (congrArg (Value.int .i64) (by grind [cmpF, cmpI, cmpL, List.drop_eq_getElem_cons, List.drop_eq_nil_of_le, List.take_succ_eq_append_getElem, List.take_of_length_le])) (J := _) (.refl _) (.inl rfl)))))
        · refine E.nil (E.thn (E.cf rfl (E.skipc (E.thn (E.seq (E.region (l := [0]) rfl (E.y rfl rfl (by decide) ((Y.as rfl).yd) ?_)))))))
          exact E.nil (E.thn (E.ret (F.r1 (Back.refl _ _) rfl rfl () trivial (congrArg (Value.int .i64) (by grind [cmpF, cmpI, cmpL, List.drop_eq_getElem_cons, List.drop_eq_nil_of_le, List.take_succ_eq_append_getElem, List.take_of_length_le])) (J := _) (.refl _) (.inl rfl))))
theorem t_impl_SameFacts_1 {x_Rel : Int} {a_x_Values : Option Addr} {m_x_Values c_x_Values : Nat} {x_Values : List Int} {y_Rel : Int} {a_y_Values : Option Addr} {m_y_Values c_y_Values : Nat} {y_Values : List Int} : Tr Try.prog 157 [.agg #[.int .i64 x_Rel, .slice a_x_Values m_x_Values c_x_Values], .agg #[.int .i64 y_Rel, .slice a_y_Values m_y_Values c_y_Values]] (fun w L => (I64 x_Rel ∧ Ro w L eIs [.slice a_x_Values m_x_Values c_x_Values] x_Values ∧ I64 y_Rel ∧ Ro w L eIs [.slice a_y_Values m_y_Values c_y_Values] y_Values) ∧ True) [] (κ := Unit) (fun k => True) (fun k => .bool (decide (cmpF (x_Rel, x_Values) (y_Rel, y_Values) = 0))) (fun k => []) := by
  refine Tr.intro Try.func157 rfl (n := 9) rfl (by decide +kernel) (Nat.le_of_ble_eq_true rfl) (fr := [(0, .agg #[.int .i64 x_Rel, .slice a_x_Values m_x_Values c_x_Values]), (1, .agg #[.int .i64 y_Rel, .slice a_y_Values m_y_Values c_y_Values])]) rfl fun w L hR => ?_
  obtain ⟨⟨i6x_Rel, hx_Values, i6y_Rel, hy_Values⟩, _⟩ := hR
  obtain ⟨rfl, lx_Values⟩ := hx_Values.slen
  obtain ⟨rfl, ly_Values⟩ := hy_Values.slen
  refine E.seq (E.region (l := [0, 1, 2]) rfl (E.st rfl rfl (N.box (cs := [_, _]) rfl (by decide) rfl) (fun b2 _ => ?_)))
  refine E.st rfl rfl (N.box (cs := [_, _]) rfl (by decide) rfl) (fun b3 _ => ?_)
  refine E.y rfl rfl (by decide) ((Y.as rfl).yd) ?_
  refine E.nil (E.thn (E.seq (E.region (l := [0, 1, 2, 3, 4]) rfl (E.y rfl rfl (by decide) (Y.ldS (cs := [_, _]) ty_Fact rfl (Has.pt (mS m0)) rfl) ?_))))
  refine E.y rfl rfl (by decide) (Y.ldS (cs := [_, _]) ty_Fact rfl (Has.pt m0) rfl) ?_
  refine E.st rfl rfl (N.call0 t_impl_CompareFacts rfl rfl rfl (by decide) (fun w Lp hA => ⟨i6x_Rel, hA.ro hx_Values, i6y_Rel, hA.ro hy_Values⟩)) (fun _ _ => ?_)
  refine E.y rfl rfl (by decide) ((Y.eql rfl rfl).yd) ?_
  refine E.y rfl rfl (by decide) ((Y.as rfl).yd) ?_
  exact E.nil (E.thn (E.ret (F.r1 (Back.refl _ _) rfl rfl () trivial rfl (J := _) (.refl _) (.inl rfl))))
theorem t_EqualFunc_Fact {a_s1 : Option Addr} {m_s1 c_s1 : Nat} {s1 : List (Int × List Int)} {a_s2 : Option Addr} {m_s2 c_s2 : Nat} {s2 : List (Int × List Int)} {eq_g : FuncId} {eq_c : List Value} {eq : (Int × List Int) → (Int × List Int) → Bool} : Tr Try.prog 156 [.slice a_s1 m_s1 c_s1, .slice a_s2 m_s2 c_s2, .func (.func eq_g) #[] eq_c.toArray] (fun w L => Ro w L eFacts [.slice a_s1 m_s1 c_s1] s1 ∧ Ro w L eFacts [.slice a_s2 m_s2 c_s2] s2 ∧ FnP2 Try.prog w L eq_g eq_c eFact valS eq) [] (κ := Unit) (fun k => True) (fun k => .bool (eqP eq s1 s2)) (fun k => []) := by
  refine Tr.intro Try.func156 rfl (n := 32) rfl (by decide +kernel) (Nat.le_of_ble_eq_true rfl) (fr := [(0, .slice a_s1 m_s1 c_s1), (1, .slice a_s2 m_s2 c_s2), (2, .func (.func eq_g) #[] eq_c.toArray)]) rfl fun w L hR => ?_
  obtain ⟨hs1, hs2, heq⟩ := hR
  obtain ⟨rfl, ls1⟩ := hs1.slen
  obtain ⟨rfl, ls2⟩ := hs2.slen
  refine E.seq (E.region (l := [0]) rfl (E.y rfl rfl (by decide) ((Y.as rfl).yd) ?_))
  refine E.nil (E.thn (E.seq (E.seq (E.region (l := [0, 1, 2, 3, 4]) rfl (E.y rfl rfl (by decide) ((Y.mv rfl).yd) ?_)))))
  refine E.y rfl rfl (by decide) ((Y.len us_Facts rfl).yd) ?_
  refine E.y rfl rfl (by decide) ((Y.mv rfl).yd) ?_
  refine E.y rfl rfl (by decide) ((Y.len us_Facts rfl).yd) ?_
  refine E.y rfl rfl (by decide) ((Y.neq rfl rfl).yd) (Ent.d (fun q14 => ?_) (fun q14 => ?_))
  · refine E.nil (E.thn (E.ct rfl (E.seq (E.region (l := [0]) rfl (E.y rfl rfl (by decide) ((Y.as rfl).yd) ?_)))))
    exact E.nil (E.thn (E.ret (E.thr (F.r1 (Back.refl _ _) rfl rfl () trivial (congrArg Value.bool (by grind [eqP, eqP_len, List.drop_eq_getElem_cons, List.drop_eq_nil_of_le, List.take_succ_eq_append_getElem, List.take_of_length_le])) (J := _) (.refl _) (.inl rfl)))))
  · refine E.nil (E.thn (E.cf rfl (E.skipc (E.thn (E.seq (E.seq (E.region (l := [0, 1, 2]) rfl (E.y rfl rfl (by decide) ((Y.mv rfl).yd) ?_))))))))
    refine E.y rfl rfl (by decide) ((Y.len us_Facts rfl).yd) ?_
    refine E.y rfl rfl (by decide) ((Y.mv rfl).yd) ?_
    refine E.nil (E.thn (E.block (E.loop (κ := Nat) (fun g => g ≤ s1.length ∧ s1.length = s2.length ∧ eqP eq s1 s2 = eqP eq (s1.drop g) (s2.drop g)) (fun g => [(1, .slice a_s2 s2.length c_s2), (2, .func (.func eq_g) #[] eq_c.toArray), (15, .slice a_s1 s1.length c_s1), (16, .int .i64 (↑s1.length : Int)), (17, .int .i64 (↑g : Int))]) (fun g => []) (fun g => s1.length - g) 0 ⟨Nat.zero_le _, by exact ⟨by omega, rfl⟩⟩ ⟨rfl, rfl, rfl, rfl, rfl, trivial⟩ (.refl _) (fun g pg => ?_))))
    obtain ⟨pk, pa⟩ := pg
    refine E.seq (E.region (l := [0]) rfl (E.y rfl rfl (by decide) ((Y.lss rfl rfl).yd) (Ent.d (fun q18 => ?_) (fun q18 => ?_))))
    · refine E.nil (E.thn (E.seq (E.ct rfl (E.skipc (E.thn (E.seq (E.block (E.seq (E.region (l := [0, 1, 2, 3, 4, 5]) rfl (E.y rfl rfl (by decide) ((Y.mv rfl).yd) ?_))))))))))
      obtain ⟨eb20, eo20, ec20, ea20, er20, el20, eh20⟩ := hs1.elem g (by omega)
      obtain ⟨xa20_0, xc20_0, rfl, ei20_0, xh20_0⟩ := Ro.pFact er20
      have := xh20_0.slen.2
      refine E.y rfl rfl (by decide) ((Y.ix us_Facts ty_Fact rfl ea20 rfl g rfl (by omega)).yd) ?_
      refine E.y rfl rfl (by decide) (Y.ldS (cs := [_, _]) ty_Fact rfl (eh20 _) rfl) ?_
      refine E.st rfl rfl (N.alloc ty_Fact (by decide)) (fun b8 _ => ?_)
      refine E.y rfl rfl (by decide) ((Y.as rfl).yd) ?_
      refine E.st rfl rfl (N.sto (vs := [_, _]) (cs' := [_, _]) ty_Fact rfl rfl rfl rfl rfl (Nat.le_of_ble_eq_true rfl) rfl) (fun _ _ => ?_)
      refine E.nil (E.thn (E.seq (E.region (l := [0, 1, 2, 3, 4, 5]) rfl (E.y rfl rfl (by decide) ((Y.mv rfl).yd) ?_))))
      refine E.y rfl rfl (by decide) ((Y.mv rfl).yd) ?_
      obtain ⟨eb24, eo24, ec24, ea24, er24, el24, eh24⟩ := hs2.elem g (by omega)
      obtain ⟨xa24_0, xc24_0, rfl, ei24_0, xh24_0⟩ := Ro.pFact er24
      have := xh24_0.slen.2
      refine E.y rfl rfl (by decide) ((Y.ix us_Facts ty_Fact rfl ea24 rfl g rfl (by omega)).yd) ?_
      refine E.y rfl rfl (by decide) (Y.ldS (cs := [_, _]) ty_Fact rfl (eh24 _) rfl) ?_
      refine E.st rfl rfl (N.alloc ty_Fact (by decide)) (fun b9 _ => ?_)
      refine E.st rfl rfl (N.sto (vs := [_, _]) (cs' := [_, _]) ty_Fact rfl rfl rfl rfl rfl (Nat.le_of_ble_eq_true rfl) rfl) (fun _ _ => ?_)
      refine E.nil (E.thn (E.seq (E.region (l := [0, 1, 2, 3, 4]) rfl (E.y rfl rfl (by decide) ((Y.mv rfl).yd) ?_))))
      refine E.y rfl rfl (by decide) (Y.ldS (cs := [_, _]) ty_Fact rfl (Has.pt (mS m0)) rfl) ?_
      refine E.y rfl rfl (by decide) (Y.ldS (cs := [_, _]) ty_Fact rfl (Has.pt m0) rfl) ?_
      refine E.st rfl rfl (N.fn2 (cs := [_, _]) (ds := [_, _]) heq rfl rfl rfl rfl rfl (by decide) (fun w Lp hA => Ro.mkFact (x := s1[g]) ei20_0 (hA.ro xh20_0)) (fun w Lp hA => Ro.mkFact (x := s2[g]) ei24_0 (hA.ro xh24_0))) (fun _ _ => (Ent.b (fun q29 => ?_) (fun q29 => ?_)))
      · refine E.y rfl rfl (by decide) ((Y.not (b := true) rfl).yd) ?_
        refine E.nil (E.thn (E.cf rfl (E.skipc (E.bln (E.thn (E.region (l := [0, 1]) rfl (E.y rfl rfl (by decide) ((Y.add rfl rfl (by omega) (by omega)).yd) ?_)))))))
        refine E.y rfl rfl (by decide) ((Y.mv rfl).yd) ?_
        refine E.nil (E.thn (Ent.drop ?_))
        refine Ent.drop ?_
        exact E.again (Back.refl _ _) (g + 1) ⟨rfl, rfl, rfl, rfl, rfl, trivial⟩ (.refl _) ⟨by omega, by grind [eqP, eqP_len, List.drop_eq_getElem_cons, List.drop_eq_nil_of_le, List.take_succ_eq_append_getElem, List.take_of_length_le]⟩ (by omega)
      · refine E.y rfl rfl (by decide) ((Y.not (b := false) rfl).yd) ?_
        refine E.nil (E.thn (E.ct rfl (E.seq (E.region (l := [0]) rfl (E.y rfl rfl (by decide) ((Y.as rfl).yd) ?_)))))
        exact E.nil (E.thn (E.ret (E.blr (E.thr (E.thr (E.blr (E.thr (F.r1 (Back.refl _ _) rfl rfl () trivial (congrArg Value.bool (by grind [eqP, eqP_len, List.drop_eq_getElem_cons, List.drop_eq_nil_of_le, List.take_succ_eq_append_getElem, List.take_of_length_le])) (J := _) (.refl _) (.inl rfl)))))))))
    · refine E.nil (E.thn (E.seq (E.cf rfl (E.exit (E.the (E.the (E.blh (E.thn (E.seq (E.region (l := [0]) rfl (E.y rfl rfl (by decide) ((Y.as rfl).yd) ?_)))))))))))
      exact E.nil (E.thn (E.ret (F.r1 (Back.refl _ _) rfl rfl () trivial (congrArg Value.bool (by grind [eqP, eqP_len, List.drop_eq_getElem_cons, List.drop_eq_nil_of_le, List.take_succ_eq_append_getElem, List.take_of_length_le])) (J := _) (.refl _) (.inl rfl))))
theorem t_EqualFunc_Access {a_s1 : Option Addr} {m_s1 c_s1 : Nat} {s1 : List (Int × List Int)} {a_s2 : Option Addr} {m_s2 c_s2 : Nat} {s2 : List (Int × List Int)} {eq_g : FuncId} {eq_c : List Value} {eq : (Int × List Int) → (Int × List Int) → Bool} : Tr Try.prog 159 [.slice a_s1 m_s1 c_s1, .slice a_s2 m_s2 c_s2, .func (.func eq_g) #[] eq_c.toArray] (fun w L => Ro w L eAccesss [.slice a_s1 m_s1 c_s1] s1 ∧ Ro w L eAccesss [.slice a_s2 m_s2 c_s2] s2 ∧ FnP2 Try.prog w L eq_g eq_c eAccess valS eq) [] (κ := Unit) (fun k => True) (fun k => .bool (eqP eq s1 s2)) (fun k => []) := by
  refine Tr.intro Try.func159 rfl (n := 32) rfl (by decide +kernel) (Nat.le_of_ble_eq_true rfl) (fr := [(0, .slice a_s1 m_s1 c_s1), (1, .slice a_s2 m_s2 c_s2), (2, .func (.func eq_g) #[] eq_c.toArray)]) rfl fun w L hR => ?_
  obtain ⟨hs1, hs2, heq⟩ := hR
  obtain ⟨rfl, ls1⟩ := hs1.slen
  obtain ⟨rfl, ls2⟩ := hs2.slen
  refine E.seq (E.region (l := [0]) rfl (E.y rfl rfl (by decide) ((Y.as rfl).yd) ?_))
  refine E.nil (E.thn (E.seq (E.seq (E.region (l := [0, 1, 2, 3, 4]) rfl (E.y rfl rfl (by decide) ((Y.mv rfl).yd) ?_)))))
  refine E.y rfl rfl (by decide) ((Y.len us_Accesss rfl).yd) ?_
  refine E.y rfl rfl (by decide) ((Y.mv rfl).yd) ?_
  refine E.y rfl rfl (by decide) ((Y.len us_Accesss rfl).yd) ?_
  refine E.y rfl rfl (by decide) ((Y.neq rfl rfl).yd) (Ent.d (fun q14 => ?_) (fun q14 => ?_))
  · refine E.nil (E.thn (E.ct rfl (E.seq (E.region (l := [0]) rfl (E.y rfl rfl (by decide) ((Y.as rfl).yd) ?_)))))
    exact E.nil (E.thn (E.ret (E.thr (F.r1 (Back.refl _ _) rfl rfl () trivial (congrArg Value.bool (by grind [eqP, eqP_len, List.drop_eq_getElem_cons, List.drop_eq_nil_of_le, List.take_succ_eq_append_getElem, List.take_of_length_le])) (J := _) (.refl _) (.inl rfl)))))
  · refine E.nil (E.thn (E.cf rfl (E.skipc (E.thn (E.seq (E.seq (E.region (l := [0, 1, 2]) rfl (E.y rfl rfl (by decide) ((Y.mv rfl).yd) ?_))))))))
    refine E.y rfl rfl (by decide) ((Y.len us_Accesss rfl).yd) ?_
    refine E.y rfl rfl (by decide) ((Y.mv rfl).yd) ?_
    refine E.nil (E.thn (E.block (E.loop (κ := Nat) (fun g => g ≤ s1.length ∧ s1.length = s2.length ∧ eqP eq s1 s2 = eqP eq (s1.drop g) (s2.drop g)) (fun g => [(1, .slice a_s2 s2.length c_s2), (2, .func (.func eq_g) #[] eq_c.toArray), (15, .slice a_s1 s1.length c_s1), (16, .int .i64 (↑s1.length : Int)), (17, .int .i64 (↑g : Int))]) (fun g => []) (fun g => s1.length - g) 0 ⟨Nat.zero_le _, by exact ⟨by omega, rfl⟩⟩ ⟨rfl, rfl, rfl, rfl, rfl, trivial⟩ (.refl _) (fun g pg => ?_))))
    obtain ⟨pk, pa⟩ := pg
    refine E.seq (E.region (l := [0]) rfl (E.y rfl rfl (by decide) ((Y.lss rfl rfl).yd) (Ent.d (fun q18 => ?_) (fun q18 => ?_))))
    · refine E.nil (E.thn (E.seq (E.ct rfl (E.skipc (E.thn (E.seq (E.block (E.seq (E.region (l := [0, 1, 2, 3, 4, 5]) rfl (E.y rfl rfl (by decide) ((Y.mv rfl).yd) ?_))))))))))
      obtain ⟨eb20, eo20, ec20, ea20, er20, el20, eh20⟩ := hs1.elem g (by omega)
      obtain ⟨xa20_0, xc20_0, rfl, ei20_0, xh20_0⟩ := Ro.pAccess er20
      have := xh20_0.slen.2
      refine E.y rfl rfl (by decide) ((Y.ix us_Accesss ty_Access rfl ea20 rfl g rfl (by omega)).yd) ?_
      refine E.y rfl rfl (by decide) (Y.ldS (cs := [_, _]) ty_Access rfl (eh20 _) rfl) ?_
      refine E.st rfl rfl (N.alloc ty_Access (by decide)) (fun b8 _ => ?_)
      refine E.y rfl rfl (by decide) ((Y.as rfl).yd) ?_
      refine E.st rfl rfl (N.sto (vs := [_, _]) (cs' := [_, _]) ty_Access rfl rfl rfl rfl rfl (Nat.le_of_ble_eq_true rfl) rfl) (fun _ _ => ?_)
      refine E.nil (E.thn (E.seq (E.region (l := [0, 1, 2, 3, 4, 5]) rfl (E.y rfl rfl (by decide) ((Y.mv rfl).yd) ?_))))
      refine E.y rfl rfl (by decide) ((Y.mv rfl).yd) ?_
      obtain ⟨eb24, eo24, ec24, ea24, er24, el24, eh24⟩ := hs2.elem g (by omega)
      obtain ⟨xa24_0, xc24_0, rfl, ei24_0, xh24_0⟩ := Ro.pAccess er24
      have := xh24_0.slen.2
      refine E.y rfl rfl (by decide) ((Y.ix us_Accesss ty_Access rfl ea24 rfl g rfl (by omega)).yd) ?_
      refine E.y rfl rfl (by decide) (Y.ldS (cs := [_, _]) ty_Access rfl (eh24 _) rfl) ?_
      refine E.st rfl rfl (N.alloc ty_Access (by decide)) (fun b9 _ => ?_)
      refine E.st rfl rfl (N.sto (vs := [_, _]) (cs' := [_, _]) ty_Access rfl rfl rfl rfl rfl (Nat.le_of_ble_eq_true rfl) rfl) (fun _ _ => ?_)
      refine E.nil (E.thn (E.seq (E.region (l := [0, 1, 2, 3, 4]) rfl (E.y rfl rfl (by decide) ((Y.mv rfl).yd) ?_))))
      refine E.y rfl rfl (by decide) (Y.ldS (cs := [_, _]) ty_Access rfl (Has.pt (mS m0)) rfl) ?_
      refine E.y rfl rfl (by decide) (Y.ldS (cs := [_, _]) ty_Access rfl (Has.pt m0) rfl) ?_
      refine E.st rfl rfl (N.fn2 (cs := [_, _]) (ds := [_, _]) heq rfl rfl rfl rfl rfl (by decide) (fun w Lp hA => Ro.mkAccess (x := s1[g]) ei20_0 (hA.ro xh20_0)) (fun w Lp hA => Ro.mkAccess (x := s2[g]) ei24_0 (hA.ro xh24_0))) (fun _ _ => (Ent.b (fun q29 => ?_) (fun q29 => ?_)))
      · refine E.y rfl rfl (by decide) ((Y.not (b := true) rfl).yd) ?_
        refine E.nil (E.thn (E.cf rfl (E.skipc (E.bln (E.thn (E.region (l := [0, 1]) rfl (E.y rfl rfl (by decide) ((Y.add rfl rfl (by omega) (by omega)).yd) ?_)))))))
        refine E.y rfl rfl (by decide) ((Y.mv rfl).yd) ?_
        refine E.nil (E.thn (Ent.drop ?_))
        refine Ent.drop ?_
        exact E.again (Back.refl _ _) (g + 1) ⟨rfl, rfl, rfl, rfl, rfl, trivial⟩ (.refl _) ⟨by omega, by grind [eqP, eqP_len, List.drop_eq_getElem_cons, List.drop_eq_nil_of_le, List.take_succ_eq_append_getElem, List.take_of_length_le]⟩ (by omega)
      · refine E.y rfl rfl (by decide) ((Y.not (b := false) rfl).yd) ?_
        refine E.nil (E.thn (E.ct rfl (E.seq (E.region (l := [0]) rfl (E.y rfl rfl (by decide) ((Y.as rfl).yd) ?_)))))
        exact E.nil (E.thn (E.ret (E.blr (E.thr (E.thr (E.blr (E.thr (F.r1 (Back.refl _ _) rfl rfl () trivial (congrArg Value.bool (by grind [eqP, eqP_len, List.drop_eq_getElem_cons, List.drop_eq_nil_of_le, List.take_succ_eq_append_getElem, List.take_of_length_le])) (J := _) (.refl _) (.inl rfl)))))))))
    · refine E.nil (E.thn (E.seq (E.cf rfl (E.exit (E.the (E.the (E.blh (E.thn (E.seq (E.region (l := [0]) rfl (E.y rfl rfl (by decide) ((Y.as rfl).yd) ?_)))))))))))
      exact E.nil (E.thn (E.ret (F.r1 (Back.refl _ _) rfl rfl () trivial (congrArg Value.bool (by grind [eqP, eqP_len, List.drop_eq_getElem_cons, List.drop_eq_nil_of_le, List.take_succ_eq_append_getElem, List.take_of_length_le])) (J := _) (.refl _) (.inl rfl))))
theorem t_impl_SameFacts {a_a : Option Addr} {m_a c_a : Nat} {a : List (Int × List Int)} {a_b : Option Addr} {m_b c_b : Nat} {b : List (Int × List Int)} : Tr Try.prog 94 [.slice a_a m_a c_a, .slice a_b m_b c_b] (fun w L => Ro w L eFacts [.slice a_a m_a c_a] a ∧ Ro w L eFacts [.slice a_b m_b c_b] b) [] (κ := Unit) (fun k => True) (fun k => .bool (decide (a = b))) (fun k => []) := by
  refine Tr.intro Try.func94 rfl (n := 8) rfl (by decide +kernel) (Nat.le_of_ble_eq_true rfl) (fr := [(0, .slice a_a m_a c_a), (1, .slice a_b m_b c_b)]) rfl fun w L hR => ?_
  obtain ⟨ha, hb⟩ := hR
  obtain ⟨rfl, la⟩ := ha.slen
  obtain ⟨rfl, lb⟩ := hb.slen
  refine E.seq (E.region (l := [0]) rfl (E.y rfl rfl (by decide) ((Y.as rfl).yd) ?_))
  refine E.nil (E.thn (E.seq (E.region (l := [0, 1, 2, 3]) rfl (E.y rfl rfl (by decide) ((Y.mv rfl).yd) ?_))))
  refine E.y rfl rfl (by decide) ((Y.mv rfl).yd) ?_
  refine E.st rfl rfl (N.call0 (t_EqualFunc_Fact (eq := (fun z y => decide (cmpF z y = 0)))) rfl rfl rfl (by decide) (fun w Lp hA => ⟨hA.ro ha, hA.ro hb, FnP2.ofFact t_impl_SameFacts_1 (fun w' hk => trivial)⟩)) (fun _ _ => ?_)
  refine E.y rfl rfl (by decide) ((Y.as rfl).yd) ?_
  exact E.nil (E.thn (E.ret (F.r1 (Back.refl _ _) rfl rfl () trivial (congrArg Value.bool (by exact eqP_facts)) (J := _) (.refl _) (.inl rfl))))
theorem t_spec_SameFacts {a_a : Option Addr} {m_a c_a : Nat} {a : List (Int × List Int)} {a_b : Option Addr} {m_b c_b : Nat} {b : List (Int × List Int)} : Tr Try.prog 90 [.slice a_a m_a c_a, .slice a_b m_b c_b] (fun w L => Ro w L eFacts [.slice a_a m_a c_a] a ∧ Ro w L eFacts [.slice a_b m_b c_b] b) [] (κ := Unit) (fun k => True) (fun k => .bool (decide (a = b))) (fun k => []) := by
  refine Tr.intro Try.func90 rfl (n := 27) rfl (by decide +kernel) (Nat.le_of_ble_eq_true rfl) (fr := [(0, .slice a_a m_a c_a), (1, .slice a_b m_b c_b)]) rfl fun w L hR => ?_
  obtain ⟨ha, hb⟩ := hR
  obtain ⟨rfl, la⟩ := ha.slen
  obtain ⟨rfl, lb⟩ := hb.slen
  refine E.seq (E.region (l := [0]) rfl (E.y rfl rfl (by decide) ((Y.as rfl).yd) ?_))
  refine E.nil (E.thn (E.seq (E.seq (E.region (l := [0, 1, 2, 3, 4]) rfl (E.y rfl rfl (by decide) ((Y.mv rfl).yd) ?_)))))
  refine E.y rfl rfl (by decide) ((Y.len us_Facts rfl).yd) ?_
  refine E.y rfl rfl (by decide) ((Y.mv rfl).yd) ?_
  refine E.y rfl rfl (by decide) ((Y.len us_Facts rfl).yd) ?_
  refine E.y rfl rfl (by decide) ((Y.neq rfl rfl).yd) (Ent.d (fun q10 => ?_) (fun q10 => ?_))
  · refine E.nil (E.thn (E.ct rfl (E.seq (E.region (l := [0]) rfl (E.y rfl rfl (by decide) ((Y.as rfl).yd) ?_)))))
    exact E.nil (E.thn (E.ret (E.thr (F.r1 (Back.refl _ _) rfl rfl () trivial (congrArg Value.bool (by rw [← eqP_facts]; grind [eqP, eqP_len, List.drop_eq_getElem_cons, List.drop_eq_nil_of_le, List.take_succ_eq_append_getElem, List.take_of_length_le])) (J := _) (.refl _) (.inl rfl)))))
  · refine E.nil (E.thn (E.cf rfl (E.skipc (E.thn (E.seq (E.seq (E.region (l := [0]) rfl (E.y rfl rfl (by decide) ((Y.as rfl).yd) ?_))))))))
    refine E.nil (E.thn (E.block (E.loop (κ := Nat) (fun g => g ≤ a.length ∧ a.length = b.length ∧ eqP (fun z y => decide (cmpF z y = 0)) a b = eqP (fun z y => decide (cmpF z y = 0)) (a.drop g) (b.drop g)) (fun g => [(0, .slice a_a a.length c_a), (1, .slice a_b b.length c_b), (5, .int .i64 (↑g : Int))]) (fun g => []) (fun g => a.length - g) 0 ⟨Nat.zero_le _, by exact ⟨by omega, rfl⟩⟩ ⟨rfl, rfl, rfl, trivial⟩ (.refl _) (fun g pg => ?_))))
    obtain ⟨pk, pa⟩ := pg
    refine E.seq (E.seq (E.region (l := [0, 1, 2, 3]) rfl (E.y rfl rfl (by decide) ((Y.mv rfl).yd) ?_)))
    refine E.y rfl rfl (by decide) ((Y.mv rfl).yd) ?_
    refine E.y rfl rfl (by decide) ((Y.len us_Facts rfl).yd) ?_
    refine E.y rfl rfl (by decide) ((Y.lss rfl rfl).yd) (Ent.d (fun q14 => ?_) (fun q14 => ?_))
    · refine E.nil (E.thn (E.ct rfl (E.skipc (E.thn (E.seq (E.block (E.seq (D.region (fun j => true) mixed (D.yp 0 rfl rfl (by decide) (Y.mv rfl) (by kernel_rfl) ?_)))))))))
      refine D.yp 1 rfl rfl (by decide) (Y.mv rfl) (by kernel_rfl) ?_
      obtain ⟨eb19, eo19, ec19, ea19, er19, el19, eh19⟩ := ha.elem g (by omega)
      obtain ⟨xa19_0, xc19_0, rfl, ei19_0, xh19_0⟩ := Ro.pFact er19
      have := xh19_0.slen.2
      refine D.yp 2 rfl rfl (by decide) (Y.ix us_Facts ty_Fact rfl ea19 rfl g rfl (by omega)) (by kernel_rfl) ?_
      refine D.y 3 rfl rfl (by decide) (Y.ldS (cs := [_, _]) ty_Fact rfl (eh19 _) rfl) (by kernel_rfl) ?_
      refine D.yp 4 rfl rfl (by decide) (Y.mv rfl) (by kernel_rfl) ?_
      refine D.yp 5 rfl rfl (by decide) (Y.mv rfl) (by kernel_rfl) ?_
      obtain ⟨eb23, eo23, ec23, ea23, er23, el23, eh23⟩ := hb.elem g (by omega)
      obtain ⟨xa23_0, xc23_0, rfl, ei23_0, xh23_0⟩ := Ro.pFact er23
      have := xh23_0.slen.2
      refine D.yp 6 rfl rfl (by decide) (Y.ix us_Facts ty_Fact rfl ea23 rfl g rfl (by omega)) (by kernel_rfl) ?_
      refine D.y 7 rfl rfl (by decide) (Y.ldS (cs := [_, _]) ty_Fact rfl (eh23 _) rfl) (by kernel_rfl) ?_
      refine D.st 8 rfl rfl (by kernel_rfl) (fun _ => rfl) (N.call0 t_spec_CompareFacts rfl rfl rfl (by decide) (fun w Lp hA => ⟨ei19_0, hA.ro xh19_0, ei23_0, hA.ro xh23_0⟩)) (fun _ _ => ?_)
      refine D.yp 9 rfl rfl (by decide) (Y.neq rfl rfl) (by kernel_rfl) (Ent.d (fun q26 => ?_) (fun q26 => ?_))
      · refine D.done (by kernel_rfl) (E.thn (E.ct rfl (E.seq (E.region (l := [0]) rfl (E.y rfl rfl (by decide) ((Y.as rfl).yd) ?_)))))
        exact E.nil (E.thn (E.ret (E.blr (E.thr (E.thr (E.blr (E.thr (F.r1 (Back.refl _ _) rfl rfl () trivial (congrArg Value.bool (by rw [← eqP_facts]; grind [eqP, eqP_len, List.drop_eq_getElem_cons, List.drop_eq_nil_of_le, List.take_succ_eq_append_getElem, List.take_of_length_le])) (J := _) (.refl _) (.inl rfl)))))))))
      · refine D.done (by kernel_rfl) (E.thn (E.cf rfl (E.skipc (E.bln (E.thn (E.region (l := [0, 1, 2]) rfl (E.y rfl rfl (by decide) ((Y.mv rfl).yd) ?_)))))))
        refine E.y rfl rfl (by decide) ((Y.add rfl rfl (by omega) (by omega)).yd) ?_
        refine E.y rfl rfl (by decide) ((Y.as rfl).yd) ?_
        exact E.nil (E.thn (E.again (Back.refl _ _) (g + 1) ⟨rfl, rfl, rfl, trivial⟩ (.refl _) ⟨by omega, by grind [eqP, eqP_len, List.drop_eq_getElem_cons, List.drop_eq_nil_of_le, List.take_succ_eq_append_getElem, List.take_of_length_le]⟩ (by omega)))
    · refine E.nil (E.thn (E.cf rfl (E.exit (E.the (E.the (E.blh (E.thn (E.seq (E.region (l := [0]) rfl (E.y rfl rfl (by decide) ((Y.as rfl).yd) ?_))))))))))
      exact E.nil (E.thn (E.ret (F.r1 (Back.refl _ _) rfl rfl () trivial (congrArg Value.bool (by rw [← eqP_facts]; grind [eqP, eqP_len, List.drop_eq_getElem_cons, List.drop_eq_nil_of_le, List.take_succ_eq_append_getElem, List.take_of_length_le])) (J := _) (.refl _) (.inl rfl))))
theorem t_slices_Equal_int_int {a_s1 : Option Addr} {m_s1 c_s1 : Nat} {s1 : List Int} {a_s2 : Option Addr} {m_s2 c_s2 : Nat} {s2 : List Int} : Tr Try.prog 95 [.slice a_s1 m_s1 c_s1, .slice a_s2 m_s2 c_s2] (fun w L => Ro w L eIs [.slice a_s1 m_s1 c_s1] s1 ∧ Ro w L eIs [.slice a_s2 m_s2 c_s2] s2) [] (κ := Unit) (fun k => True) (fun k => .bool (decide (s1 = s2))) (fun k => []) := by
  refine Tr.intro Try.func95 rfl (n := 26) rfl (by decide +kernel) (Nat.le_of_ble_eq_true rfl) (fr := [(0, .slice a_s1 m_s1 c_s1), (1, .slice a_s2 m_s2 c_s2)]) rfl fun w L hR => ?_
  obtain ⟨hs1, hs2⟩ := hR
  obtain ⟨rfl, ls1⟩ := hs1.slen
  obtain ⟨rfl, ls2⟩ := hs2.slen
  refine E.seq (E.region (l := [0]) rfl (E.y rfl rfl (by decide) ((Y.as rfl).yd) ?_))
  refine E.nil (E.thn (E.seq (E.seq (E.region (l := [0, 1, 2, 3, 4]) rfl (E.y rfl rfl (by decide) ((Y.mv rfl).yd) ?_)))))
  refine E.y rfl rfl (by decide) ((Y.len us_Is rfl).yd) ?_
  refine E.y rfl rfl (by decide) ((Y.mv rfl).yd) ?_
  refine E.y rfl rfl (by decide) ((Y.len us_Is rfl).yd) ?_
  refine E.y rfl rfl (by decide) ((Y.neq rfl rfl).yd) (Ent.d (fun q10 => ?_) (fun q10 => ?_))
  · refine E.nil (E.thn (E.ct rfl (E.seq (E.region (l := [0]) rfl (E.y rfl rfl (by decide) ((Y.as rfl).yd) ?_)))))
    exact E.nil (E.thn (E.ret (E.thr (F.r1 (Back.refl _ _) rfl rfl () trivial (congrArg Value.bool (by grind [List.drop_eq_getElem_cons, List.drop_eq_nil_of_le, List.take_succ_eq_append_getElem, List.take_of_length_le])) (J := _) (.refl _) (.inl rfl)))))
  · refine E.nil (E.thn (E.cf rfl (E.skipc (E.thn (E.seq (E.seq (E.region (l := [0, 1, 2]) rfl (E.y rfl rfl (by decide) ((Y.mv rfl).yd) ?_))))))))
    refine E.y rfl rfl (by decide) ((Y.len us_Is rfl).yd) ?_
    refine E.y rfl rfl (by decide) ((Y.mv rfl).yd) ?_
    refine E.nil (E.thn (E.block (E.loop (κ := Nat) (fun g => g ≤ s1.length ∧ s1.length = s2.length ∧ (s1 = s2 ↔ s1.drop g = s2.drop g)) (fun g => [(0, .slice a_s1 s1.length c_s1), (1, .slice a_s2 s2.length c_s2), (12, .int .i64 (↑s1.length : Int)), (13, .int .i64 (↑g : Int))]) (fun g => []) (fun g => s1.length - g) 0 ⟨Nat.zero_le _, by exact ⟨by omega, by simp⟩⟩ ⟨rfl, rfl, rfl, rfl, trivial⟩ (.refl _) (fun g pg => ?_))))
    obtain ⟨pk, pa⟩ := pg
    refine E.seq (E.region (l := [0]) rfl (E.y rfl rfl (by decide) ((Y.lss rfl rfl).yd) (Ent.d (fun q14 => ?_) (fun q14 => ?_))))
    · refine E.nil (E.thn (E.seq (E.ct rfl (E.skipc (E.thn (E.seq (E.block (E.seq (E.region (l := [0, 1]) rfl (E.y rfl rfl (by decide) ((Y.mv rfl).yd) ?_))))))))))
      refine E.y rfl rfl (by decide) ((Y.as rfl).yd) ?_
      refine E.nil (E.thn (E.seq (D.region (fun j => true) mixed (D.yp 0 rfl rfl (by decide) (Y.mv rfl) (by kernel_rfl) ?_))))
      refine D.yp 1 rfl rfl (by decide) (Y.mv rfl) (by kernel_rfl) ?_
      obtain ⟨eb18, eo18, ea18, ei18, eh18⟩ := hs1.elemI g (by omega)
      refine D.yp 2 rfl rfl (by decide) (Y.ix us_Is ty_I rfl ea18 rfl g rfl (by omega)) (by kernel_rfl) ?_
      refine D.y 3 rfl rfl (by decide) (Y.ld1 ty_I rfl (eh18 _) rfl) (by kernel_rfl) ?_
      refine D.yp 4 rfl rfl (by decide) (Y.mv rfl) (by kernel_rfl) ?_
      refine D.yp 5 rfl rfl (by decide) (Y.mv rfl) (by kernel_rfl) ?_
      obtain ⟨eb22, eo22, ea22, ei22, eh22⟩ := hs2.elemI g (by omega)
      refine D.yp 6 rfl rfl (by decide) (Y.ix us_Is ty_I rfl ea22 rfl g rfl (by omega)) (by kernel_rfl) ?_
      refine D.y 7 rfl rfl (by decide) (Y.ld1 ty_I rfl (eh22 _) rfl) (by kernel_rfl) ?_
      refine D.yp 8 rfl rfl (by decide) (Y.neq rfl rfl) (by kernel_rfl) (Ent.d (fun q24 => ?_) (fun q24 => ?_))
      · refine D.done (by kernel_rfl) (E.thn (E.ct rfl (E.seq (E.region (l := [0]) rfl (E.y rfl rfl (by decide) ((Y.as rfl).yd) ?_)))))
        exact E.nil (E.thn (E.ret (E.blr (E.thr (E.thr (E.blr (E.thr (F.r1 (Back.refl _ _) rfl rfl () trivial (congrArg Value.bool (by grind [List.drop_eq_getElem_cons, List.drop_eq_nil_of_le, List.take_succ_eq_append_getElem, List.take_of_length_le])) (J := _) (.refl _) (.inl rfl)))))))))
      · refine D.done (by kernel_rfl) (E.thn (E.cf rfl (E.skipc (E.bln (E.thn (E.region (l := [0, 1]) rfl (E.y rfl rfl (by decide) ((Y.add rfl rfl (by omega) (by omega)).yd) ?_)))))))
        refine E.y rfl rfl (by decide) ((Y.mv rfl).yd) ?_
        exact E.nil (E.thn (E.again (Back.refl _ _) (g + 1) ⟨rfl, rfl, rfl, rfl, trivial⟩ (.refl _) ⟨by omega, by grind [List.drop_eq_getElem_cons, List.drop_eq_nil_of_le, List.take_succ_eq_append_getElem, List.take_of_length_le]⟩ (by omega)))
    · refine E.nil (E.thn (E.seq (E.cf rfl (E.exit (E.the (E.the (E.blh (E.thn (E.seq (E.region (l := [0]) rfl (E.y rfl rfl (by decide) ((Y.as rfl).yd) ?_)))))))))))
      exact E.nil (E.thn (E.ret (F.r1 (Back.refl _ _) rfl rfl () trivial (congrArg Value.bool (by grind [List.drop_eq_getElem_cons, List.drop_eq_nil_of_le, List.take_succ_eq_append_getElem, List.take_of_length_le])) (J := _) (.refl _) (.inl rfl))))
theorem t_spec_l2Ints {a_a : Option Addr} {m_a c_a : Nat} {a : List Int} {a_b : Option Addr} {m_b c_b : Nat} {b : List Int} : Tr Try.prog 91 [.slice a_a m_a c_a, .slice a_b m_b c_b] (fun w L => Ro w L eIs [.slice a_a m_a c_a] a ∧ Ro w L eIs [.slice a_b m_b c_b] b) [] (κ := Unit) (fun k => True) (fun k => .bool (decide (a = b))) (fun k => []) := by
  refine Tr.intro Try.func91 rfl (n := 26) rfl (by decide +kernel) (Nat.le_of_ble_eq_true rfl) (fr := [(0, .slice a_a m_a c_a), (1, .slice a_b m_b c_b)]) rfl fun w L hR => ?_
  obtain ⟨ha, hb⟩ := hR
  obtain ⟨rfl, la⟩ := ha.slen
  obtain ⟨rfl, lb⟩ := hb.slen
  refine E.seq (E.region (l := [0]) rfl (E.y rfl rfl (by decide) ((Y.as rfl).yd) ?_))
  refine E.nil (E.thn (E.seq (E.seq (E.region (l := [0, 1, 2, 3, 4]) rfl (E.y rfl rfl (by decide) ((Y.mv rfl).yd) ?_)))))
  refine E.y rfl rfl (by decide) ((Y.len us_Is rfl).yd) ?_
  refine E.y rfl rfl (by decide) ((Y.mv rfl).yd) ?_
  refine E.y rfl rfl (by decide) ((Y.len us_Is rfl).yd) ?_
  refine E.y rfl rfl (by decide) ((Y.neq rfl rfl).yd) (Ent.d (fun q10 => ?_) (fun q10 => ?_))
  · refine E.nil (E.thn (E.ct rfl (E.seq (E.region (l := [0]) rfl (E.y rfl rfl (by decide) ((Y.as rfl).yd) ?_)))))
    exact E.nil (E.thn (E.ret (E.thr (F.r1 (Back.refl _ _) rfl rfl () trivial (congrArg Value.bool (by grind [List.drop_eq_getElem_cons, List.drop_eq_nil_of_le, List.take_succ_eq_append_getElem, List.take_of_length_le])) (J := _) (.refl _) (.inl rfl)))))
  · refine E.nil (E.thn (E.cf rfl (E.skipc (E.thn (E.seq (E.seq (E.region (l := [0]) rfl (E.y rfl rfl (by decide) ((Y.as rfl).yd) ?_))))))))
    refine E.nil (E.thn (E.block (E.loop (κ := Nat) (fun g => g ≤ a.length ∧ a.length = b.length ∧ (a = b ↔ a.drop g = b.drop g)) (fun g => [(0, .slice a_a a.length c_a), (1, .slice a_b b.length c_b), (5, .int .i64 (↑g : Int))]) (fun g => []) (fun g => a.length - g) 0 ⟨Nat.zero_le _, by exact ⟨by omega, by simp⟩⟩ ⟨rfl, rfl, rfl, trivial⟩ (.refl _) (fun g pg => ?_))))
    obtain ⟨pk, pa⟩ := pg
    refine E.seq (E.seq (E.region (l := [0, 1, 2, 3]) rfl (E.y rfl rfl (by decide) ((Y.mv rfl).yd) ?_)))
    refine E.y rfl rfl (by decide) ((Y.mv rfl).yd) ?_
    refine E.y rfl rfl (by decide) ((Y.len us_Is rfl).yd) ?_
    refine E.y rfl rfl (by decide) ((Y.lss rfl rfl).yd) (Ent.d (fun q14 => ?_) (fun q14 => ?_))
    · refine E.nil (E.thn (E.ct rfl (E.skipc (E.thn (E.seq (E.block (E.seq (D.region (fun j => true) mixed (D.yp 0 rfl rfl (by decide) (Y.mv rfl) (by kernel_rfl) ?_)))))))))
      refine D.yp 1 rfl rfl (by decide) (Y.mv rfl) (by kernel_rfl) ?_
      obtain ⟨eb19, eo19, ea19, ei19, eh19⟩ := ha.elemI g (by omega)
      refine D.yp 2 rfl rfl (by decide) (Y.ix us_Is ty_I rfl ea19 rfl g rfl (by omega)) (by kernel_rfl) ?_
      refine D.y 3 rfl rfl (by decide) (Y.ld1 ty_I rfl (eh19 _) rfl) (by kernel_rfl) ?_
      refine D.yp 4 rfl rfl (by decide) (Y.mv rfl) (by kernel_rfl) ?_
      refine D.yp 5 rfl rfl (by decide) (Y.mv rfl) (by kernel_rfl) ?_
      obtain ⟨eb23, eo23, ea23, ei23, eh23⟩ := hb.elemI g (by omega)
      refine D.yp 6 rfl rfl (by decide) (Y.ix us_Is ty_I rfl ea23 rfl g rfl (by omega)) (by kernel_rfl) ?_
      refine D.y 7 rfl rfl (by decide) (Y.ld1 ty_I rfl (eh23 _) rfl) (by kernel_rfl) ?_
      refine D.yp 8 rfl rfl (by decide) (Y.neq rfl rfl) (by kernel_rfl) (Ent.d (fun q25 => ?_) (fun q25 => ?_))
      · refine D.done (by kernel_rfl) (E.thn (E.ct rfl (E.seq (E.region (l := [0]) rfl (E.y rfl rfl (by decide) ((Y.as rfl).yd) ?_)))))
        exact E.nil (E.thn (E.ret (E.blr (E.thr (E.thr (E.blr (E.thr (F.r1 (Back.refl _ _) rfl rfl () trivial (congrArg Value.bool (by grind [List.drop_eq_getElem_cons, List.drop_eq_nil_of_le, List.take_succ_eq_append_getElem, List.take_of_length_le])) (J := _) (.refl _) (.inl rfl)))))))))
      · refine D.done (by kernel_rfl) (E.thn (E.cf rfl (E.skipc (E.bln (E.thn (E.region (l := [0, 1, 2]) rfl (E.y rfl rfl (by decide) ((Y.mv rfl).yd) ?_)))))))
        refine E.y rfl rfl (by decide) ((Y.add rfl rfl (by omega) (by omega)).yd) ?_
        refine E.y rfl rfl (by decide) ((Y.as rfl).yd) ?_
        exact E.nil (E.thn (E.again (Back.refl _ _) (g + 1) ⟨rfl, rfl, rfl, trivial⟩ (.refl _) ⟨by omega, by grind [List.drop_eq_getElem_cons, List.drop_eq_nil_of_le, List.take_succ_eq_append_getElem, List.take_of_length_le]⟩ (by omega)))
    · refine E.nil (E.thn (E.cf rfl (E.exit (E.the (E.the (E.blh (E.thn (E.seq (E.region (l := [0]) rfl (E.y rfl rfl (by decide) ((Y.as rfl).yd) ?_))))))))))
      exact E.nil (E.thn (E.ret (F.r1 (Back.refl _ _) rfl rfl () trivial (congrArg Value.bool (by grind [List.drop_eq_getElem_cons, List.drop_eq_nil_of_le, List.take_succ_eq_append_getElem, List.take_of_length_le])) (J := _) (.refl _) (.inl rfl))))
theorem t_impl_sameAccess {a_Method : Int} {a_a_Values : Option Addr} {m_a_Values c_a_Values : Nat} {a_Values : List Int} {b_Method : Int} {a_b_Values : Option Addr} {m_b_Values c_b_Values : Nat} {b_Values : List Int} : Tr Try.prog 160 [.agg #[.int .i64 a_Method, .slice a_a_Values m_a_Values c_a_Values], .agg #[.int .i64 b_Method, .slice a_b_Values m_b_Values c_b_Values]] (fun w L => (I64 a_Method ∧ Ro w L eIs [.slice a_a_Values m_a_Values c_a_Values] a_Values ∧ I64 b_Method ∧ Ro w L eIs [.slice a_b_Values m_b_Values c_b_Values] b_Values) ∧ True) [] (κ := Unit) (fun k => True) (fun k => .bool (decide ((a_Method, a_Values) = (b_Method, b_Values)))) (fun k => []) := by
  refine Tr.intro Try.func160 rfl (n := 17) rfl (by decide +kernel) (Nat.le_of_ble_eq_true rfl) (fr := [(0, .agg #[.int .i64 a_Method, .slice a_a_Values m_a_Values c_a_Values]), (1, .agg #[.int .i64 b_Method, .slice a_b_Values m_b_Values c_b_Values])]) rfl fun w L hR => ?_
  obtain ⟨⟨i6a_Method, ha_Values, i6b_Method, hb_Values⟩, _⟩ := hR
  obtain ⟨rfl, la_Values⟩ := ha_Values.slen
  obtain ⟨rfl, lb_Values⟩ := hb_Values.slen
  refine E.seq (E.region (l := [0, 1, 2]) rfl (E.st rfl rfl (N.box (cs := [_, _]) rfl (by decide) rfl) (fun b2 _ => ?_)))
  refine E.st rfl rfl (N.box (cs := [_, _]) rfl (by decide) rfl) (fun b3 _ => ?_)
  refine E.y rfl rfl (by decide) ((Y.as rfl).yd) ?_
  refine E.nil (E.thn (E.seq (E.region (l := [0, 1, 2, 3, 4, 5, 6, 7, 8, 9, 10, 11, 12]) rfl (E.y rfl rfl (by decide) ((Y.fld fo_Access_0 ty_I (by decide) rfl).yd) ?_))))
  refine E.y rfl rfl (by decide) (Y.ld1 ty_I rfl ((Has.pt (mS m0)).sub (cs' := [_]) 0 rfl) rfl) ?_
  refine E.y rfl rfl (by decide) ((Y.fld fo_Access_0 ty_I (by decide) rfl).yd) ?_
  refine E.y rfl rfl (by decide) (Y.ld1 ty_I rfl ((Has.pt m0).sub (cs' := [_]) 0 rfl) rfl) ?_
  refine E.y rfl rfl (by decide) ((Y.eql rfl rfl).yd) (Ent.d (fun q9 => ?_) (fun q9 => ?_))
  · refine E.y rfl rfl (by decide) ((Y.mv rfl).yd) ?_
    refine E.y rfl rfl (by decide) ((Y.fld fo_Access_1 ty_Is (by decide) rfl).yd) ?_
    refine E.y rfl rfl (by decide) (Y.ld1 ty_Is rfl ((Has.pt (mS m0)).sub (cs' := [_]) 1 rfl) rfl) ?_
    refine E.y rfl rfl (by decide) ((Y.fld fo_Access_1 ty_Is (by decide) rfl).yd) ?_
    refine E.y rfl rfl (by decide) (Y.ld1 ty_Is rfl ((Has.pt m0).sub (cs' := [_]) 1 rfl) rfl) ?_
    refine E.st rfl rfl (N.call0 t_slices_Equal_int_int rfl rfl rfl (by decide) (fun w Lp hA => ⟨hA.ro ha_Values, hA.ro hb_Values⟩)) (fun _ _ => ?_)
    refine E.y rfl rfl (by decide) ((Y.pkt rfl rfl).yd) ?_
    refine E.y rfl rfl (by decide) ((Y.as rfl).yd) ?_
    exact E.nil (E.thn (E.ret (F.r1 (Back.refl _ _) rfl rfl () trivial (congrArg Value.bool (by grind [List.drop_eq_getElem_cons, List.drop_eq_nil_of_le, List.take_succ_eq_append_getElem, List.take_of_length_le])) (J := _) (.refl _) (.inl rfl))))
  · refine E.y rfl rfl (by decide) ((Y.mv rfl).yd) ?_
    refine E.skip rfl rfl rfl ?_
    refine E.skip rfl rfl rfl ?_
    refine E.skip rfl rfl rfl ?_
    refine E.skip rfl rfl rfl ?_
    refine E.skip rfl rfl rfl ?_
    refine E.y rfl rfl (by decide) ((Y.pkf rfl rfl).yd) ?_
    refine E.y rfl rfl (by decide) ((Y.as rfl).yd) ?_
    exact E.nil (E.thn (E.ret (F.r1 (Back.refl _ _) rfl rfl () trivial (congrArg Value.bool (by grind [List.drop_eq_getElem_cons, List.drop_eq_nil_of_le, List.take_succ_eq_append_getElem, List.take_of_length_le])) (J := _) (.refl _) (.inl rfl))))
theorem t_spec_l5Same {a_Method : Int} {a_a_Values : Option Addr} {m_a_Values c_a_Values : Nat} {a_Values : List Int} {b_Method : Int} {a_b_Values : Option Addr} {m_b_Values c_b_Values : Nat} {b_Values : List Int} : Tr Try.prog 154 [.agg #[.int .i64 a_Method, .slice a_a_Values m_a_Values c_a_Values], .agg #[.int .i64 b_Method, .slice a_b_Values m_b_Values c_b_Values]] (fun w L => I64 a_Method ∧ Ro w L eIs [.slice a_a_Values m_a_Values c_a_Values] a_Values ∧ I64 b_Method ∧ Ro w L eIs [.slice a_b_Values m_b_Values c_b_Values] b_Values) [] (κ := Unit) (fun k => True) (fun k => .bool (decide ((a_Method, a_Values) = (b_Method, b_Values)))) (fun k => []) := by
  refine Tr.intro Try.func154 rfl (n := 17) rfl (by decide +kernel) (Nat.le_of_ble_eq_true rfl) (fr := [(0, .agg #[.int .i64 a_Method, .slice a_a_Values m_a_Values c_a_Values]), (1, .agg #[.int .i64 b_Method, .slice a_b_Values m_b_Values c_b_Values])]) rfl fun w L hR => ?_
  obtain ⟨i6a_Method, ha_Values, i6b_Method, hb_Values⟩ := hR
  obtain ⟨rfl, la_Values⟩ := ha_Values.slen
  obtain ⟨rfl, lb_Values⟩ := hb_Values.slen
  refine E.seq (E.region (l := [0, 1, 2]) rfl (E.st rfl rfl (N.box (cs := [_, _]) rfl (by decide) rfl) (fun b2 _ => ?_)))
  refine E.st rfl rfl (N.box (cs := [_, _]) rfl (by decide) rfl) (fun b3 _ => ?_)
  refine E.y rfl rfl (by decide) ((Y.as rfl).yd) ?_
  refine E.nil (E.thn (E.seq (E.region (l := [0, 1, 2, 3, 4, 5, 6, 7, 8, 9, 10, 11, 12]) rfl (E.y rfl rfl (by decide) ((Y.fld fo_Access_0 ty_I (by decide) rfl).yd) ?_))))
  refine E.y rfl rfl (by decide) (Y.ld1 ty_I rfl ((Has.pt (mS m0)).sub (cs' := [_]) 0 rfl) rfl) ?_
  refine E.y rfl rfl (by decide) ((Y.fld fo_Access_0 ty_I (by decide) rfl).yd) ?_
  refine E.y rfl rfl (by decide) (Y.ld1 ty_I rfl ((Has.pt m0).sub (cs' := [_]) 0 rfl) rfl) ?_
  refine E.y rfl rfl (by decide) ((Y.eql rfl rfl).yd) (Ent.d (fun q9 => ?_) (fun q9 => ?_))
  · refine E.y rfl rfl (by decide) ((Y.mv rfl).yd) ?_
    refine E.y rfl rfl (by decide) ((Y.fld fo_Access_1 ty_Is (by decide) rfl).yd) ?_
    refine E.y rfl rfl (by decide) (Y.ld1 ty_Is rfl ((Has.pt (mS m0)).sub (cs' := [_]) 1 rfl) rfl) ?_
    refine E.y rfl rfl (by decide) ((Y.fld fo_Access_1 ty_Is (by decide) rfl).yd) ?_
    refine E.y rfl rfl (by decide) (Y.ld1 ty_Is rfl ((Has.pt m0).sub (cs' := [_]) 1 rfl) rfl) ?_
    refine E.st rfl rfl (N.call0 t_spec_l2Ints rfl rfl rfl (by decide) (fun w Lp hA => ⟨hA.ro ha_Values, hA.ro hb_Values⟩)) (fun _ _ => ?_)
    refine E.y rfl rfl (by decide) ((Y.pkt rfl rfl).yd) ?_
    refine E.y rfl rfl (by decide) ((Y.as rfl).yd) ?_
    exact E.nil (E.thn (E.ret (F.r1 (Back.refl _ _) rfl rfl () trivial (congrArg Value.bool (by grind [List.drop_eq_getElem_cons, List.drop_eq_nil_of_le, List.take_succ_eq_append_getElem, List.take_of_length_le])) (J := _) (.refl _) (.inl rfl))))
  · refine E.y rfl rfl (by decide) ((Y.mv rfl).yd) ?_
    refine E.skip rfl rfl rfl ?_
    refine E.skip rfl rfl rfl ?_
    refine E.skip rfl rfl rfl ?_
    refine E.skip rfl rfl rfl ?_
    refine E.skip rfl rfl rfl ?_
    refine E.y rfl rfl (by decide) ((Y.pkf rfl rfl).yd) ?_
    refine E.y rfl rfl (by decide) ((Y.as rfl).yd) ?_
    exact E.nil (E.thn (E.ret (F.r1 (Back.refl _ _) rfl rfl () trivial (congrArg Value.bool (by grind [List.drop_eq_getElem_cons, List.drop_eq_nil_of_le, List.take_succ_eq_append_getElem, List.take_of_length_le])) (J := _) (.refl _) (.inl rfl))))
theorem t_impl_SameAccesses {a_a : Option Addr} {m_a c_a : Nat} {a : List (Int × List Int)} {a_b : Option Addr} {m_b c_b : Nat} {b : List (Int × List Int)} : Tr Try.prog 96 [.slice a_a m_a c_a, .slice a_b m_b c_b] (fun w L => Ro w L eAccesss [.slice a_a m_a c_a] a ∧ Ro w L eAccesss [.slice a_b m_b c_b] b) [] (κ := Unit) (fun k => True) (fun k => .bool (decide (a = b))) (fun k => []) := by
  refine Tr.intro Try.func96 rfl (n := 8) rfl (by decide +kernel) (Nat.le_of_ble_eq_true rfl) (fr := [(0, .slice a_a m_a c_a), (1, .slice a_b m_b c_b)]) rfl fun w L hR => ?_
  obtain ⟨ha, hb⟩ := hR
  obtain ⟨rfl, la⟩ := ha.slen
  obtain ⟨rfl, lb⟩ := hb.slen
  refine E.seq (E.region (l := [0]) rfl (E.y rfl rfl (by decide) ((Y.as rfl).yd) ?_))
  refine E.nil (E.thn (E.seq (E.region (l := [0, 1, 2, 3]) rfl (E.y rfl rfl (by decide) ((Y.mv rfl).yd) ?_))))
  refine E.y rfl rfl (by decide) ((Y.mv rfl).yd) ?_
  refine E.st rfl rfl (N.call0 (t_EqualFunc_Access (eq := (fun z y => decide (z = y)))) rfl rfl rfl (by decide) (fun w Lp hA => ⟨hA.ro ha, hA.ro hb, FnP2.ofAccess t_impl_sameAccess (fun w' hk => trivial)⟩)) (fun _ _ => ?_)
  refine E.y rfl rfl (by decide) ((Y.as rfl).yd) ?_
  exact E.nil (E.thn (E.ret (F.r1 (Back.refl _ _) rfl rfl () trivial (congrArg Value.bool (by exact eqP_dec)) (J := _) (.refl _) (.inl rfl))))
theorem t_spec_SameAccesses {a_a : Option Addr} {m_a c_a : Nat} {a : List (Int × List Int)} {a_b : Option Addr} {m_b c_b : Nat} {b : List (Int × List Int)} : Tr Try.prog 92 [.slice a_a m_a c_a, .slice a_b m_b c_b] (fun w L => Ro w L eAccesss [.slice a_a m_a c_a] a ∧ Ro w L eAccesss [.slice a_b m_b c_b] b) [] (κ := Unit) (fun k => True) (fun k => .bool (decide (a = b))) (fun k => []) := by
  refine Tr.intro Try.func92 rfl (n := 27) rfl (by decide +kernel) (Nat.le_of_ble_eq_true rfl) (fr := [(0, .slice a_a m_a c_a), (1, .slice a_b m_b c_b)]) rfl fun w L hR => ?_
  obtain ⟨ha, hb⟩ := hR
  obtain ⟨rfl, la⟩ := ha.slen
  obtain ⟨rfl, lb⟩ := hb.slen
  refine E.seq (E.region (l := [0]) rfl (E.y rfl rfl (by decide) ((Y.as rfl).yd) ?_))
  refine E.nil (E.thn (E.seq (E.seq (E.region (l := [0, 1, 2, 3, 4]) rfl (E.y rfl rfl (by decide) ((Y.mv rfl).yd) ?_)))))
  refine E.y rfl rfl (by decide) ((Y.len us_Accesss rfl).yd) ?_
  refine E.y rfl rfl (by decide) ((Y.mv rfl).yd) ?_
  refine E.y rfl rfl (by decide) ((Y.len us_Accesss rfl).yd) ?_
  refine E.y rfl rfl (by decide) ((Y.neq rfl rfl).yd) (Ent.d (fun q10 => ?_) (fun q10 => ?_))
  · refine E.nil (E.thn (E.ct rfl (E.seq (E.region (l := [0]) rfl (E.y rfl rfl (by decide) ((Y.as rfl).yd) ?_)))))
    exact E.nil (E.thn (E.ret (E.thr (F.r1 (Back.refl _ _) rfl rfl () trivial (congrArg Value.bool (by grind [List.drop_eq_getElem_cons, List.drop_eq_nil_of_le, List.take_succ_eq_append_getElem, List.take_of_length_le])) (J := _) (.refl _) (.inl rfl)))))
  · refine E.nil (E.thn (E.cf rfl (E.skipc (E.thn (E.seq (E.seq (E.region (l := [0]) rfl (E.y rfl rfl (by decide) ((Y.as rfl).yd) ?_))))))))
    refine E.nil (E.thn (E.block (E.loop (κ := Nat) (fun g => g ≤ a.length ∧ a.length = b.length ∧ (a = b ↔ a.drop g = b.drop g)) (fun g => [(0, .slice a_a a.length c_a), (1, .slice a_b b.length c_b), (5, .int .i64 (↑g : Int))]) (fun g => []) (fun g => a.length - g) 0 ⟨Nat.zero_le _, by exact ⟨by omega, by simp⟩⟩ ⟨rfl, rfl, rfl, trivial⟩ (.refl _) (fun g pg => ?_))))
    obtain ⟨pk, pa⟩ := pg
    refine E.seq (E.seq (E.region (l := [0, 1, 2, 3]) rfl (E.y rfl rfl (by decide) ((Y.mv rfl).yd) ?_)))
    refine E.y rfl rfl (by decide) ((Y.mv rfl).yd) ?_
    refine E.y rfl rfl (by decide) ((Y.len us_Accesss rfl).yd) ?_
    refine E.y rfl rfl (by decide) ((Y.lss rfl rfl).yd) (Ent.d (fun q14 => ?_) (fun q14 => ?_))
    · refine E.nil (E.thn (E.ct rfl (E.skipc (E.thn (E.seq (E.block (E.seq (D.region (fun j => true) mixed (D.yp 0 rfl rfl (by decide) (Y.mv rfl) (by kernel_rfl) ?_)))))))))
      refine D.yp 1 rfl rfl (by decide) (Y.mv rfl) (by kernel_rfl) ?_
      obtain ⟨eb19, eo19, ec19, ea19, er19, el19, eh19⟩ := ha.elem g (by omega)
      obtain ⟨xa19_0, xc19_0, rfl, ei19_0, xh19_0⟩ := Ro.pAccess er19
      have := xh19_0.slen.2
      refine D.yp 2 rfl rfl (by decide) (Y.ix us_Accesss ty_Access rfl ea19 rfl g rfl (by omega)) (by kernel_rfl) ?_
      refine D.y 3 rfl rfl (by decide) (Y.ldS (cs := [_, _]) ty_Access rfl (eh19 _) rfl) (by kernel_rfl) ?_
      refine D.yp 4 rfl rfl (by decide) (Y.mv rfl) (by kernel_rfl) ?_
      refine D.yp 5 rfl rfl (by decide) (Y.mv rfl) (by kernel_rfl) ?_
      obtain ⟨eb23, eo23, ec23, ea23, er23, el23, eh23⟩ := hb.elem g (by omega)
      obtain ⟨xa23_0, xc23_0, rfl, ei23_0, xh23_0⟩ := Ro.pAccess er23
      have := xh23_0.slen.2
      refine D.yp 6 rfl rfl (by decide) (Y.ix us_Accesss ty_Access rfl ea23 rfl g rfl (by omega)) (by kernel_rfl) ?_
      refine D.y 7 rfl rfl (by decide) (Y.ldS (cs := [_, _]) ty_Access rfl (eh23 _) rfl) (by kernel_rfl) ?_
      refine D.st 8 rfl rfl (by kernel_rfl) (fun _ => rfl) (N.call0 t_spec_l5Same rfl rfl rfl (by decide) (fun w Lp hA => ⟨ei19_0, hA.ro xh19_0, ei23_0, hA.ro xh23_0⟩)) (fun _ _ => (Ent.b (fun q25 => ?_) (fun q25 => ?_)))
      · refine D.yp 9 rfl rfl (by decide) (Y.not (b := true) rfl) (by kernel_rfl) ?_
        refine D.done (by kernel_rfl) (E.thn (E.cf rfl (E.skipc (E.bln (E.thn (E.region (l := [0, 1, 2]) rfl (E.y rfl rfl (by decide) ((Y.mv rfl).yd) ?_)))))))
        refine E.y rfl rfl (by decide) ((Y.add rfl rfl (by omega) (by omega)).yd) ?_
        refine E.y rfl rfl (by decide) ((Y.as rfl).yd) ?_
        exact E.nil (E.thn (E.again (Back.refl _ _) (g + 1) ⟨rfl, rfl, rfl, trivial⟩ (.refl _) ⟨by omega, by grind [List.drop_eq_getElem_cons, List.drop_eq_nil_of_le, List.take_succ_eq_append_getElem, List.take_of_length_le]⟩ (by omega)))
      · refine D.yp 9 rfl rfl (by decide) (Y.not (b := false) rfl) (by kernel_rfl) ?_
        refine D.done (by kernel_rfl) (E.thn (E.ct rfl (E.seq (E.region (l := [0]) rfl (E.y rfl rfl (by decide) ((Y.as rfl).yd) ?_)))))
        exact E.nil (E.thn (E.ret (E.blr (E.thr (E.thr (E.blr (E.thr (F.r1 (Back.refl _ _) rfl rfl () trivial (congrArg Value.bool (by grind [List.drop_eq_getElem_cons, List.drop_eq_nil_of_le, List.take_succ_eq_append_getElem, List.take_of_length_le])) (J := _) (.refl _) (.inl rfl)))))))))
    · refine E.nil (E.thn (E.cf rfl (E.exit (E.the (E.the (E.blh (E.thn (E.seq (E.region (l := [0]) rfl (E.y rfl rfl (by decide) ((Y.as rfl).yd) ?_))))))))))
      exact E.nil (E.thn (E.ret (F.r1 (Back.refl _ _) rfl rfl () trivial (congrArg Value.bool (by grind [List.drop_eq_getElem_cons, List.drop_eq_nil_of_le, List.take_succ_eq_append_getElem, List.take_of_length_le])) (J := _) (.refl _) (.inl rfl))))
theorem t_impl_EqualReached {a_a_Facts : Option Addr} {m_a_Facts c_a_Facts : Nat} {a_Facts : List (Int × List Int)} {a_a_Values : Option Addr} {m_a_Values c_a_Values : Nat} {a_Values : List Int} {a_a_Log : Option Addr} {m_a_Log c_a_Log : Nat} {a_Log : List (Int × List Int)} {a_Rounds : Int} {a_b_Facts : Option Addr} {m_b_Facts c_b_Facts : Nat} {b_Facts : List (Int × List Int)} {a_b_Values : Option Addr} {m_b_Values c_b_Values : Nat} {b_Values : List Int} {a_b_Log : Option Addr} {m_b_Log c_b_Log : Nat} {b_Log : List (Int × List Int)} {b_Rounds : Int} : Tr Try.prog 24 [.agg #[.slice a_a_Facts m_a_Facts c_a_Facts, .slice a_a_Values m_a_Values c_a_Values, .slice a_a_Log m_a_Log c_a_Log, .int .i64 a_Rounds], .agg #[.slice a_b_Facts m_b_Facts c_b_Facts, .slice a_b_Values m_b_Values c_b_Values, .slice a_b_Log m_b_Log c_b_Log, .int .i64 b_Rounds]] (fun w L => Ro w L eFacts [.slice a_a_Facts m_a_Facts c_a_Facts] a_Facts ∧ Ro w L eIs [.slice a_a_Values m_a_Values c_a_Values] a_Values ∧ Ro w L eAccesss [.slice a_a_Log m_a_Log c_a_Log] a_Log ∧ I64 a_Rounds ∧ Ro w L eFacts [.slice a_b_Facts m_b_Facts c_b_Facts] b_Facts ∧ Ro w L eIs [.slice a_b_Values m_b_Values c_b_Values] b_Values ∧ Ro w L eAccesss [.slice a_b_Log m_b_Log c_b_Log] b_Log ∧ I64 b_Rounds) [] (κ := Unit) (fun k => True) (fun k => .bool (decide ((a_Facts, a_Values, a_Log, a_Rounds) = (b_Facts, b_Values, b_Log, b_Rounds)))) (fun k => []) := by
  refine Tr.intro Try.func24 rfl (n := 31) rfl (by decide +kernel) (Nat.le_of_ble_eq_true rfl) (fr := [(0, .agg #[.slice a_a_Facts m_a_Facts c_a_Facts, .slice a_a_Values m_a_Values c_a_Values, .slice a_a_Log m_a_Log c_a_Log, .int .i64 a_Rounds]), (1, .agg #[.slice a_b_Facts m_b_Facts c_b_Facts, .slice a_b_Values m_b_Values c_b_Values, .slice a_b_Log m_b_Log c_b_Log, .int .i64 b_Rounds])]) rfl fun w L hR => ?_
  obtain ⟨ha_Facts, ha_Values, ha_Log, i6a_Rounds, hb_Facts, hb_Values, hb_Log, i6b_Rounds⟩ := hR
  obtain ⟨rfl, la_Facts⟩ := ha_Facts.slen
  obtain ⟨rfl, la_Values⟩ := ha_Values.slen
  obtain ⟨rfl, la_Log⟩ := ha_Log.slen
  obtain ⟨rfl, lb_Facts⟩ := hb_Facts.slen
  obtain ⟨rfl, lb_Values⟩ := hb_Values.slen
  obtain ⟨rfl, lb_Log⟩ := hb_Log.slen
  refine E.seq (E.region (l := [0, 1, 2]) rfl (E.st rfl rfl (N.box (cs := [_, _, _, _]) rfl (by decide) rfl) (fun b2 _ => ?_)))
  refine E.st rfl rfl (N.box (cs := [_, _, _, _]) rfl (by decide) rfl) (fun b3 _ => ?_)
  refine E.y rfl rfl (by decide) ((Y.as rfl).yd) ?_
  refine E.nil (E.thn (E.seq (E.region (l := [0, 1, 2, 3, 4, 5, 6, 7, 8, 9, 10, 11, 12, 13, 14, 15, 16, 17, 18, 19, 20, 21, 22, 23, 24, 25, 26]) rfl (E.y rfl rfl (by decide) ((Y.fld fo_Reached_0 ty_Facts (by decide) rfl).yd) ?_))))
  refine E.y rfl rfl (by decide) (Y.ld1 ty_Facts rfl ((Has.pt (mS m0)).sub (cs' := [_]) 0 rfl) rfl) ?_
  refine E.y rfl rfl (by decide) ((Y.fld fo_Reached_0 ty_Facts (by decide) rfl).yd) ?_
  refine E.y rfl rfl (by decide) (Y.ld1 ty_Facts rfl ((Has.pt m0).sub (cs' := [_]) 0 rfl) rfl) ?_
  refine E.st rfl rfl (N.call0 t_impl_SameFacts rfl rfl rfl (by decide) (fun w Lp hA => ⟨hA.ro ha_Facts, hA.ro hb_Facts⟩)) (fun _ _ => (Ent.b (fun q9 => ?_) (fun q9 => ?_)))
  · refine E.y rfl rfl (by decide) ((Y.mv rfl).yd) ?_
    refine E.y rfl rfl (by decide) ((Y.fld fo_Reached_1 ty_Is (by decide) rfl).yd) ?_
    refine E.y rfl rfl (by decide) (Y.ld1 ty_Is rfl ((Has.pt (mS m0)).sub (cs' := [_]) 1 rfl) rfl) ?_
    refine E.y rfl rfl (by decide) ((Y.fld fo_Reached_1 ty_Is (by decide) rfl).yd) ?_
    refine E.y rfl rfl (by decide) (Y.ld1 ty_Is rfl ((Has.pt m0).sub (cs' := [_]) 1 rfl) rfl) ?_
    refine E.st rfl rfl (N.call0 t_slices_Equal_int_int rfl rfl rfl (by decide) (fun w Lp hA => ⟨hA.ro ha_Values, hA.ro hb_Values⟩)) (fun _ _ => (Ent.b (fun q15 => ?_) (fun q15 => ?_)))
    · refine E.y rfl rfl (by decide) ((Y.pkt rfl rfl).yd) ?_
      refine E.y rfl rfl (by decide) ((Y.mv rfl).yd) ?_
      refine E.y rfl rfl (by decide) ((Y.fld fo_Reached_2 ty_Accesss (by decide) rfl).yd) ?_
      refine E.y rfl rfl (by decide) (Y.ld1 ty_Accesss rfl ((Has.pt (mS m0)).sub (cs' := [_]) 2 rfl) rfl) ?_
      refine E.y rfl rfl (by decide) ((Y.fld fo_Reached_2 ty_Accesss (by decide) rfl).yd) ?_
      refine E.y rfl rfl (by decide) (Y.ld1 ty_Accesss rfl ((Has.pt m0).sub (cs' := [_]) 2 rfl) rfl) ?_
      refine E.st rfl rfl (N.call0 t_impl_SameAccesses rfl rfl rfl (by decide) (fun w Lp hA => ⟨hA.ro ha_Log, hA.ro hb_Log⟩)) (fun _ _ => (Ent.b (fun q22 => ?_) (fun q22 => ?_)))
      · refine E.y rfl rfl (by decide) ((Y.pkt rfl rfl).yd) ?_
        refine E.y rfl rfl (by decide) ((Y.mv rfl).yd) ?_
        refine E.y rfl rfl (by decide) ((Y.fld fo_Reached_3 ty_I (by decide) rfl).yd) ?_
        refine E.y rfl rfl (by decide) (Y.ld1 ty_I rfl ((Has.pt (mS m0)).sub (cs' := [_]) 3 rfl) rfl) ?_
        refine E.y rfl rfl (by decide) ((Y.fld fo_Reached_3 ty_I (by decide) rfl).yd) ?_
        refine E.y rfl rfl (by decide) (Y.ld1 ty_I rfl ((Has.pt m0).sub (cs' := [_]) 3 rfl) rfl) ?_
        refine E.y rfl rfl (by decide) ((Y.eql rfl rfl).yd) ?_
        refine E.y rfl rfl (by decide) ((Y.pkt rfl rfl).yd) ?_
        refine E.y rfl rfl (by decide) ((Y.as rfl).yd) ?_
        exact E.nil (E.thn (E.ret (F.r1 (Back.refl _ _) rfl rfl () trivial (congrArg Value.bool (by grind [List.drop_eq_getElem_cons, List.drop_eq_nil_of_le, List.take_succ_eq_append_getElem, List.take_of_length_le])) (J := _) (.refl _) (.inl rfl))))
      · refine E.y rfl rfl (by decide) ((Y.pkt rfl rfl).yd) ?_
        refine E.y rfl rfl (by decide) ((Y.mv rfl).yd) ?_
        refine E.skip rfl rfl rfl ?_
        refine E.skip rfl rfl rfl ?_
        refine E.skip rfl rfl rfl ?_
        refine E.skip rfl rfl rfl ?_
        refine E.skip rfl rfl rfl ?_
        refine E.y rfl rfl (by decide) ((Y.pkf rfl rfl).yd) ?_
        refine E.y rfl rfl (by decide) ((Y.as rfl).yd) ?_
        exact E.nil (E.thn (E.ret (F.r1 (Back.refl _ _) rfl rfl () trivial (congrArg Value.bool (by grind [List.drop_eq_getElem_cons, List.drop_eq_nil_of_le, List.take_succ_eq_append_getElem, List.take_of_length_le])) (J := _) (.refl _) (.inl rfl))))
    · refine E.y rfl rfl (by decide) ((Y.pkt rfl rfl).yd) ?_
      refine E.y rfl rfl (by decide) ((Y.mv rfl).yd) ?_
      refine E.skip rfl rfl rfl ?_
      refine E.skip rfl rfl rfl ?_
      refine E.skip rfl rfl rfl ?_
      refine E.skip rfl rfl rfl ?_
      refine E.skip rfl rfl rfl ?_
      refine E.y rfl rfl (by decide) ((Y.pkf rfl rfl).yd) ?_
      refine E.y rfl rfl (by decide) ((Y.mv rfl).yd) ?_
      refine E.skip rfl rfl rfl ?_
      refine E.skip rfl rfl rfl ?_
      refine E.skip rfl rfl rfl ?_
      refine E.skip rfl rfl rfl ?_
      refine E.skip rfl rfl rfl ?_
      refine E.y rfl rfl (by decide) ((Y.pkf rfl rfl).yd) ?_
      refine E.y rfl rfl (by decide) ((Y.as rfl).yd) ?_
      exact E.nil (E.thn (E.ret (F.r1 (Back.refl _ _) rfl rfl () trivial (congrArg Value.bool (by grind [List.drop_eq_getElem_cons, List.drop_eq_nil_of_le, List.take_succ_eq_append_getElem, List.take_of_length_le])) (J := _) (.refl _) (.inl rfl))))
  · refine E.y rfl rfl (by decide) ((Y.mv rfl).yd) ?_
    refine E.skip rfl rfl rfl ?_
    refine E.skip rfl rfl rfl ?_
    refine E.skip rfl rfl rfl ?_
    refine E.skip rfl rfl rfl ?_
    refine E.skip rfl rfl rfl ?_
    refine E.y rfl rfl (by decide) ((Y.pkf rfl rfl).yd) ?_
    refine E.y rfl rfl (by decide) ((Y.mv rfl).yd) ?_
    refine E.skip rfl rfl rfl ?_
    refine E.skip rfl rfl rfl ?_
    refine E.skip rfl rfl rfl ?_
    refine E.skip rfl rfl rfl ?_
    refine E.skip rfl rfl rfl ?_
    refine E.y rfl rfl (by decide) ((Y.pkf rfl rfl).yd) ?_
    refine E.y rfl rfl (by decide) ((Y.mv rfl).yd) ?_
    refine E.skip rfl rfl rfl ?_
    refine E.skip rfl rfl rfl ?_
    refine E.skip rfl rfl rfl ?_
    refine E.skip rfl rfl rfl ?_
    refine E.skip rfl rfl rfl ?_
    refine E.y rfl rfl (by decide) ((Y.pkf rfl rfl).yd) ?_
    refine E.y rfl rfl (by decide) ((Y.as rfl).yd) ?_
    exact E.nil (E.thn (E.ret (F.r1 (Back.refl _ _) rfl rfl () trivial (congrArg Value.bool (by grind [List.drop_eq_getElem_cons, List.drop_eq_nil_of_le, List.take_succ_eq_append_getElem, List.take_of_length_le])) (J := _) (.refl _) (.inl rfl))))
theorem t_spec_EqualReached {a_a_Facts : Option Addr} {m_a_Facts c_a_Facts : Nat} {a_Facts : List (Int × List Int)} {a_a_Values : Option Addr} {m_a_Values c_a_Values : Nat} {a_Values : List Int} {a_a_Log : Option Addr} {m_a_Log c_a_Log : Nat} {a_Log : List (Int × List Int)} {a_Rounds : Int} {a_b_Facts : Option Addr} {m_b_Facts c_b_Facts : Nat} {b_Facts : List (Int × List Int)} {a_b_Values : Option Addr} {m_b_Values c_b_Values : Nat} {b_Values : List Int} {a_b_Log : Option Addr} {m_b_Log c_b_Log : Nat} {b_Log : List (Int × List Int)} {b_Rounds : Int} : Tr Try.prog 22 [.agg #[.slice a_a_Facts m_a_Facts c_a_Facts, .slice a_a_Values m_a_Values c_a_Values, .slice a_a_Log m_a_Log c_a_Log, .int .i64 a_Rounds], .agg #[.slice a_b_Facts m_b_Facts c_b_Facts, .slice a_b_Values m_b_Values c_b_Values, .slice a_b_Log m_b_Log c_b_Log, .int .i64 b_Rounds]] (fun w L => Ro w L eFacts [.slice a_a_Facts m_a_Facts c_a_Facts] a_Facts ∧ Ro w L eIs [.slice a_a_Values m_a_Values c_a_Values] a_Values ∧ Ro w L eAccesss [.slice a_a_Log m_a_Log c_a_Log] a_Log ∧ I64 a_Rounds ∧ Ro w L eFacts [.slice a_b_Facts m_b_Facts c_b_Facts] b_Facts ∧ Ro w L eIs [.slice a_b_Values m_b_Values c_b_Values] b_Values ∧ Ro w L eAccesss [.slice a_b_Log m_b_Log c_b_Log] b_Log ∧ I64 b_Rounds) [] (κ := Unit) (fun k => True) (fun k => .bool (decide ((a_Facts, a_Values, a_Log, a_Rounds) = (b_Facts, b_Values, b_Log, b_Rounds)))) (fun k => []) := by
  refine Tr.intro Try.func22 rfl (n := 31) rfl (by decide +kernel) (Nat.le_of_ble_eq_true rfl) (fr := [(0, .agg #[.slice a_a_Facts m_a_Facts c_a_Facts, .slice a_a_Values m_a_Values c_a_Values, .slice a_a_Log m_a_Log c_a_Log, .int .i64 a_Rounds]), (1, .agg #[.slice a_b_Facts m_b_Facts c_b_Facts, .slice a_b_Values m_b_Values c_b_Values, .slice a_b_Log m_b_Log c_b_Log, .int .i64 b_Rounds])]) rfl fun w L hR => ?_
  obtain ⟨ha_Facts, ha_Values, ha_Log, i6a_Rounds, hb_Facts, hb_Values, hb_Log, i6b_Rounds⟩ := hR
  obtain ⟨rfl, la_Facts⟩ := ha_Facts.slen
  obtain ⟨rfl, la_Values⟩ := ha_Values.slen
  obtain ⟨rfl, la_Log⟩ := ha_Log.slen
  obtain ⟨rfl, lb_Facts⟩ := hb_Facts.slen
  obtain ⟨rfl, lb_Values⟩ := hb_Values.slen
  obtain ⟨rfl, lb_Log⟩ := hb_Log.slen
  refine E.seq (E.region (l := [0, 1, 2]) rfl (E.st rfl rfl (N.box (cs := [_, _, _, _]) rfl (by decide) rfl) (fun b2 _ => ?_)))
  refine E.st rfl rfl (N.box (cs := [_, _, _, _]) rfl (by decide) rfl) (fun b3 _ => ?_)
  refine E.y rfl rfl (by decide) ((Y.as rfl).yd) ?_
  refine E.nil (E.thn (E.seq (E.region (l := [0, 1, 2, 3, 4, 5, 6, 7, 8, 9, 10, 11, 12, 13, 14, 15, 16, 17, 18, 19, 20, 21, 22, 23, 24, 25, 26]) rfl (E.y rfl rfl (by decide) ((Y.fld fo_Reached_0 ty_Facts (by decide) rfl).yd) ?_))))
  refine E.y rfl rfl (by decide) (Y.ld1 ty_Facts rfl ((Has.pt (mS m0)).sub (cs' := [_]) 0 rfl) rfl) ?_
  refine E.y rfl rfl (by decide) ((Y.fld fo_Reached_0 ty_Facts (by decide) rfl).yd) ?_
  refine E.y rfl rfl (by decide) (Y.ld1 ty_Facts rfl ((Has.pt m0).sub (cs' := [_]) 0 rfl) rfl) ?_
  refine E.st rfl rfl (N.call0 t_spec_SameFacts rfl rfl rfl (by decide) (fun w Lp hA => ⟨hA.ro ha_Facts, hA.ro hb_Facts⟩)) (fun _ _ => (Ent.b (fun q9 => ?_) (fun q9 => ?_)))
  · refine E.y rfl rfl (by decide) ((Y.mv rfl).yd) ?_
    refine E.y rfl rfl (by decide) ((Y.fld fo_Reached_1 ty_Is (by decide) rfl).yd) ?_
    refine E.y rfl rfl (by decide) (Y.ld1 ty_Is rfl ((Has.pt (mS m0)).sub (cs' := [_]) 1 rfl) rfl) ?_
    refine E.y rfl rfl (by decide) ((Y.fld fo_Reached_1 ty_Is (by decide) rfl).yd) ?_
    refine E.y rfl rfl (by decide) (Y.ld1 ty_Is rfl ((Has.pt m0).sub (cs' := [_]) 1 rfl) rfl) ?_
    refine E.st rfl rfl (N.call0 t_spec_l2Ints rfl rfl rfl (by decide) (fun w Lp hA => ⟨hA.ro ha_Values, hA.ro hb_Values⟩)) (fun _ _ => (Ent.b (fun q15 => ?_) (fun q15 => ?_)))
    · refine E.y rfl rfl (by decide) ((Y.pkt rfl rfl).yd) ?_
      refine E.y rfl rfl (by decide) ((Y.mv rfl).yd) ?_
      refine E.y rfl rfl (by decide) ((Y.fld fo_Reached_2 ty_Accesss (by decide) rfl).yd) ?_
      refine E.y rfl rfl (by decide) (Y.ld1 ty_Accesss rfl ((Has.pt (mS m0)).sub (cs' := [_]) 2 rfl) rfl) ?_
      refine E.y rfl rfl (by decide) ((Y.fld fo_Reached_2 ty_Accesss (by decide) rfl).yd) ?_
      refine E.y rfl rfl (by decide) (Y.ld1 ty_Accesss rfl ((Has.pt m0).sub (cs' := [_]) 2 rfl) rfl) ?_
      refine E.st rfl rfl (N.call0 t_spec_SameAccesses rfl rfl rfl (by decide) (fun w Lp hA => ⟨hA.ro ha_Log, hA.ro hb_Log⟩)) (fun _ _ => (Ent.b (fun q22 => ?_) (fun q22 => ?_)))
      · refine E.y rfl rfl (by decide) ((Y.pkt rfl rfl).yd) ?_
        refine E.y rfl rfl (by decide) ((Y.mv rfl).yd) ?_
        refine E.y rfl rfl (by decide) ((Y.fld fo_Reached_3 ty_I (by decide) rfl).yd) ?_
        refine E.y rfl rfl (by decide) (Y.ld1 ty_I rfl ((Has.pt (mS m0)).sub (cs' := [_]) 3 rfl) rfl) ?_
        refine E.y rfl rfl (by decide) ((Y.fld fo_Reached_3 ty_I (by decide) rfl).yd) ?_
        refine E.y rfl rfl (by decide) (Y.ld1 ty_I rfl ((Has.pt m0).sub (cs' := [_]) 3 rfl) rfl) ?_
        refine E.y rfl rfl (by decide) ((Y.eql rfl rfl).yd) ?_
        refine E.y rfl rfl (by decide) ((Y.pkt rfl rfl).yd) ?_
        refine E.y rfl rfl (by decide) ((Y.as rfl).yd) ?_
        exact E.nil (E.thn (E.ret (F.r1 (Back.refl _ _) rfl rfl () trivial (congrArg Value.bool (by grind [List.drop_eq_getElem_cons, List.drop_eq_nil_of_le, List.take_succ_eq_append_getElem, List.take_of_length_le])) (J := _) (.refl _) (.inl rfl))))
      · refine E.y rfl rfl (by decide) ((Y.pkt rfl rfl).yd) ?_
        refine E.y rfl rfl (by decide) ((Y.mv rfl).yd) ?_
        refine E.skip rfl rfl rfl ?_
        refine E.skip rfl rfl rfl ?_
        refine E.skip rfl rfl rfl ?_
        refine E.skip rfl rfl rfl ?_
        refine E.skip rfl rfl rfl ?_
        refine E.y rfl rfl (by decide) ((Y.pkf rfl rfl).yd) ?_
        refine E.y rfl rfl (by decide) ((Y.as rfl).yd) ?_
        exact E.nil (E.thn (E.ret (F.r1 (Back.refl _ _) rfl rfl () trivial (congrArg Value.bool (by grind [List.drop_eq_getElem_cons, List.drop_eq_nil_of_le, List.take_succ_eq_append_getElem, List.take_of_length_le])) (J := _) (.refl _) (.inl rfl))))
    · refine E.y rfl rfl (by decide) ((Y.pkt rfl rfl).yd) ?_
      refine E.y rfl rfl (by decide) ((Y.mv rfl).yd) ?_
      refine E.skip rfl rfl rfl ?_
      refine E.skip rfl rfl rfl ?_
      refine E.skip rfl rfl rfl ?_
      refine E.skip rfl rfl rfl ?_
      refine E.skip rfl rfl rfl ?_
      refine E.y rfl rfl (by decide) ((Y.pkf rfl rfl).yd) ?_
      refine E.y rfl rfl (by decide) ((Y.mv rfl).yd) ?_
      refine E.skip rfl rfl rfl ?_
      refine E.skip rfl rfl rfl ?_
      refine E.skip rfl rfl rfl ?_
      refine E.skip rfl rfl rfl ?_
      refine E.skip rfl rfl rfl ?_
      refine E.y rfl rfl (by decide) ((Y.pkf rfl rfl).yd) ?_
      refine E.y rfl rfl (by decide) ((Y.as rfl).yd) ?_
      exact E.nil (E.thn (E.ret (F.r1 (Back.refl _ _) rfl rfl () trivial (congrArg Value.bool (by grind [List.drop_eq_getElem_cons, List.drop_eq_nil_of_le, List.take_succ_eq_append_getElem, List.take_of_length_le])) (J := _) (.refl _) (.inl rfl))))
  · refine E.y rfl rfl (by decide) ((Y.mv rfl).yd) ?_
    refine E.skip rfl rfl rfl ?_
    refine E.skip rfl rfl rfl ?_
    refine E.skip rfl rfl rfl ?_
    refine E.skip rfl rfl rfl ?_
    refine E.skip rfl rfl rfl ?_
    refine E.y rfl rfl (by decide) ((Y.pkf rfl rfl).yd) ?_
    refine E.y rfl rfl (by decide) ((Y.mv rfl).yd) ?_
    refine E.skip rfl rfl rfl ?_
    refine E.skip rfl rfl rfl ?_
    refine E.skip rfl rfl rfl ?_
    refine E.skip rfl rfl rfl ?_
    refine E.skip rfl rfl rfl ?_
    refine E.y rfl rfl (by decide) ((Y.pkf rfl rfl).yd) ?_
    refine E.y rfl rfl (by decide) ((Y.mv rfl).yd) ?_
    refine E.skip rfl rfl rfl ?_
    refine E.skip rfl rfl rfl ?_
    refine E.skip rfl rfl rfl ?_
    refine E.skip rfl rfl rfl ?_
    refine E.skip rfl rfl rfl ?_
    refine E.y rfl rfl (by decide) ((Y.pkf rfl rfl).yd) ?_
    refine E.y rfl rfl (by decide) ((Y.as rfl).yd) ?_
    exact E.nil (E.thn (E.ret (F.r1 (Back.refl _ _) rfl rfl () trivial (congrArg Value.bool (by grind [List.drop_eq_getElem_cons, List.drop_eq_nil_of_le, List.take_succ_eq_append_getElem, List.take_of_length_le])) (J := _) (.refl _) (.inl rfl))))
theorem t_laws_FnExactEqualReached {a_aA_Facts : Option Addr} {m_aA_Facts c_aA_Facts : Nat} {aA_Facts : List (Int × List Int)} {a_aA_Values : Option Addr} {m_aA_Values c_aA_Values : Nat} {aA_Values : List Int} {a_aA_Log : Option Addr} {m_aA_Log c_aA_Log : Nat} {aA_Log : List (Int × List Int)} {aA_Rounds : Int} {a_aB_Facts : Option Addr} {m_aB_Facts c_aB_Facts : Nat} {aB_Facts : List (Int × List Int)} {a_aB_Values : Option Addr} {m_aB_Values c_aB_Values : Nat} {aB_Values : List Int} {a_aB_Log : Option Addr} {m_aB_Log c_aB_Log : Nat} {aB_Log : List (Int × List Int)} {aB_Rounds : Int} : Tr Try.prog 4 [.agg #[.slice a_aA_Facts m_aA_Facts c_aA_Facts, .slice a_aA_Values m_aA_Values c_aA_Values, .slice a_aA_Log m_aA_Log c_aA_Log, .int .i64 aA_Rounds], .agg #[.slice a_aB_Facts m_aB_Facts c_aB_Facts, .slice a_aB_Values m_aB_Values c_aB_Values, .slice a_aB_Log m_aB_Log c_aB_Log, .int .i64 aB_Rounds]] (fun w L => Ro w L eFacts [.slice a_aA_Facts m_aA_Facts c_aA_Facts] aA_Facts ∧ Ro w L eIs [.slice a_aA_Values m_aA_Values c_aA_Values] aA_Values ∧ Ro w L eAccesss [.slice a_aA_Log m_aA_Log c_aA_Log] aA_Log ∧ I64 aA_Rounds ∧ Ro w L eFacts [.slice a_aB_Facts m_aB_Facts c_aB_Facts] aB_Facts ∧ Ro w L eIs [.slice a_aB_Values m_aB_Values c_aB_Values] aB_Values ∧ Ro w L eAccesss [.slice a_aB_Log m_aB_Log c_aB_Log] aB_Log ∧ I64 aB_Rounds) [] (κ := Unit) (fun k => True) (fun k => .bool (true)) (fun k => []) := by
  refine Tr.intro Try.func4 rfl (n := 45) rfl (by decide +kernel) (Nat.le_of_ble_eq_true rfl) (fr := [(0, .agg #[.slice a_aA_Facts m_aA_Facts c_aA_Facts, .slice a_aA_Values m_aA_Values c_aA_Values, .slice a_aA_Log m_aA_Log c_aA_Log, .int .i64 aA_Rounds]), (1, .agg #[.slice a_aB_Facts m_aB_Facts c_aB_Facts, .slice a_aB_Values m_aB_Values c_aB_Values, .slice a_aB_Log m_aB_Log c_aB_Log, .int .i64 aB_Rounds])]) rfl fun w L hR => ?_
  obtain ⟨haA_Facts, haA_Values, haA_Log, i6aA_Rounds, haB_Facts, haB_Values, haB_Log, i6aB_Rounds⟩ := hR
  obtain ⟨rfl, laA_Facts⟩ := haA_Facts.slen
  obtain ⟨rfl, laA_Values⟩ := haA_Values.slen
  obtain ⟨rfl, laA_Log⟩ := haA_Log.slen
  obtain ⟨rfl, laB_Facts⟩ := haB_Facts.slen
  obtain ⟨rfl, laB_Values⟩ := haB_Values.slen
  obtain ⟨rfl, laB_Log⟩ := haB_Log.slen
  refine E.seq (E.region (l := [0, 1, 2]) rfl (E.st rfl rfl (N.box (cs := [_, _, _, _]) rfl (by decide) rfl) (fun b2 _ => ?_)))
  refine E.st rfl rfl (N.box (cs := [_, _, _, _]) rfl (by decide) rfl) (fun b3 _ => ?_)
  refine E.y rfl rfl (by decide) ((Y.as rfl).yd) ?_
  refine E.nil (E.thn (E.seq (E.region (l := [0]) rfl (E.y rfl rfl (by decide) ((Y.as rfl).yd) ?_))))
  refine E.nil (E.thn (E.seq (E.region (l := [0, 1, 2, 3]) rfl (E.y rfl rfl (by decide) (Y.ldS (cs := [_, _, _, _]) ty_lReached rfl (Has.pt (mS m0)) rfl) ?_))))
  refine E.y rfl rfl (by decide) ((Y.mv rfl).yd) ?_
  refine E.st rfl rfl (N.call0 t_laws_szReached rfl rfl rfl (by decide) (fun w Lp hA => ⟨hA.ro haA_Facts, hA.ro haA_Values, hA.ro haA_Log, i6aA_Rounds, (by first | assumption | omega), (by first | assumption | omega)⟩)) (fun _ _ => ?_)
  refine E.y rfl rfl (by decide) ((Y.as rfl).yd) ?_
  refine E.nil (E.thn (E.seq (E.seq (E.region (l := [0, 1]) rfl (E.y rfl rfl (by decide) ((Y.mv rfl).yd) ?_)))))
  refine E.y rfl rfl (by decide) ((Y.lss rfl rfl).yd) (Ent.d (fun q14 => ?_) (fun q14 => ?_))
  · have z14 := szR_bad q14 (by omega)
    refine E.nil (E.thn (E.ct rfl (E.seq (E.region (l := [0]) rfl (E.y rfl rfl (by decide) ((Y.as rfl).yd) ?_)))))
    exact E.nil (E.thn (E.ret (E.thr (F.r1 (Back.refl _ _) rfl rfl () trivial rfl (J := _) (.refl _) (.inl rfl)))))
  · obtain ⟨z14, y14⟩ := szR_ok q14 (by omega)
    refine E.nil (E.thn (E.cf rfl (E.skipc (E.thn (E.seq (E.region (l := [0, 1, 2, 3]) rfl (E.y rfl rfl (by decide) (Y.ldS (cs := [_, _, _, _]) ty_lReached rfl (Has.pt m0) rfl) ?_)))))))
    refine E.y rfl rfl (by decide) ((Y.mv rfl).yd) ?_
    refine E.st rfl rfl (N.call0 t_laws_szReached rfl rfl rfl (by decide) (fun w Lp hA => ⟨hA.ro haB_Facts, hA.ro haB_Values, hA.ro haB_Log, i6aB_Rounds, (by first | assumption | omega), (by first | assumption | omega)⟩)) (fun _ _ => ?_)
    refine E.y rfl rfl (by decide) ((Y.as rfl).yd) ?_
    refine E.nil (E.thn (E.seq (E.seq (E.region (l := [0, 1]) rfl (E.y rfl rfl (by decide) ((Y.mv rfl).yd) ?_)))))
    refine E.y rfl rfl (by decide) ((Y.lss rfl rfl).yd) (Ent.d (fun q19 => ?_) (fun q19 => ?_))
    · have z19 := szR_bad q19 (by omega)
      refine E.nil (E.thn (E.ct rfl (E.seq (E.region (l := [0]) rfl (E.y rfl rfl (by decide) ((Y.as rfl).yd) ?_)))))
      exact E.nil (E.thn (E.ret (E.thr (F.r1 (Back.refl _ _) rfl rfl () trivial rfl (J := _) (.refl _) (.inl rfl)))))
    · obtain ⟨z19, y19⟩ := szR_ok q19 (by omega)
      refine E.nil (E.thn (E.cf rfl (E.skipc (E.thn (E.seq (D.region (fun j => true) mixed (D.y 0 rfl rfl (by decide) (Y.ldS (cs := [_, _, _, _]) ty_lReached rfl (Has.pt (mS m0)) rfl) (by kernel_rfl) ?_)))))))
      refine D.y 2 rfl rfl (by decide) (Y.ldS (cs := [_, _, _, _]) ty_lReached rfl (Has.pt m0) rfl) (by kernel_rfl) ?_
      refine D.st 1 rfl rfl (by kernel_rfl) (fun _ => rfl) (N.call (t_laws_toReached (by first | omega | assumption) (by first | omega | assumption) (by first | omega | assumption)) rfl rfl rfl (by decide) rfl (fun w Lp hA => ⟨hA.ro haA_Facts, hA.ro haA_Values, hA.ro haA_Log, i6aA_Rounds⟩)) (fun k21 _ => ?_)
      obtain ⟨⟨a21_0, m21_0, c21_0⟩, ⟨a21_1, m21_1, c21_1⟩, ⟨a21_2, m21_2, c21_2⟩⟩ := k21
      refine Ent.lenow m0 fun e21_0 l21_0 => ?_
      subst e21_0
      refine Ent.lenow (mS m0) fun e21_1 l21_1 => ?_
      subst e21_1
      refine Ent.lenow (mS (mS m0)) fun e21_2 l21_2 => ?_
      subst e21_2
      refine D.st 3 rfl rfl (by kernel_rfl) (fun _ => rfl) (N.call (t_laws_toReached (by first | omega | assumption) (by first | omega | assumption) (by first | omega | assumption)) rfl rfl rfl (by decide) rfl (fun w Lp hA => ⟨hA.ro haB_Facts, hA.ro haB_Values, hA.ro haB_Log, i6aB_Rounds⟩)) (fun k23 _ => ?_)
      obtain ⟨⟨a23_0, m23_0, c23_0⟩, ⟨a23_1, m23_1, c23_1⟩, ⟨a23_2, m23_2, c23_2⟩⟩ := k23
      refine Ent.lenow m0 fun e23_0 l23_0 => ?_
      subst e23_0
      refine Ent.lenow (mS m0) fun e23_1 l23_1 => ?_
      subst e23_1
      refine Ent.lenow (mS (mS m0)) fun e23_2 l23_2 => ?_
      subst e23_2
      refine D.st 4 rfl rfl (by kernel_rfl) (fun _ => rfl) (N.call0 t_spec_EqualReached rfl rfl rfl (by decide) (fun w Lp hA => ⟨hA.ow (mS (mS (mS m0))), hA.ow (mS (mS (mS (mS m0)))), hA.ow (mS (mS (mS (mS (mS m0))))), i6aA_Rounds, hA.ow m0, hA.ow (mS m0), hA.ow (mS (mS m0)), i6aB_Rounds⟩)) (fun _ _ => ?_)
      refine D.yp 5 rfl rfl (by decide) (Y.as rfl) (by kernel_rfl) ?_
      refine D.done (by kernel_rfl) (E.thn (E.seq (E.region (l := [0, 1, 2, 3]) rfl (E.y rfl rfl (by decide) (Y.ldS (cs := [_, _, _, _]) ty_lReached rfl (Has.pt (mS (mS (mS (mS (mS (mS (mS m0)))))))) rfl) ?_))))
      refine E.st rfl rfl (N.call (t_laws_toReached (by first | omega | assumption) (by first | omega | assumption) (by first | omega | assumption)) rfl rfl rfl (by decide) rfl (fun w Lp hA => ⟨hA.ro haA_Facts, hA.ro haA_Values, hA.ro haA_Log, i6aA_Rounds⟩)) (fun k26 _ => ?_)
      obtain ⟨⟨a26_0, m26_0, c26_0⟩, ⟨a26_1, m26_1, c26_1⟩, ⟨a26_2, m26_2, c26_2⟩⟩ := k26
      refine Ent.lenow m0 fun e26_0 l26_0 => ?_
      subst e26_0
      refine Ent.lenow (mS m0) fun e26_1 l26_1 => ?_
      subst e26_1
      refine Ent.lenow (mS (mS m0)) fun e26_2 l26_2 => ?_
      subst e26_2
      refine E.st rfl rfl (N.alloc ty_Reached (by decide)) (fun b7 _ => ?_)
      refine E.st rfl rfl (N.sto (vs := [_, _, _, _]) (cs' := [_, _, _, _]) ty_Reached rfl rfl rfl rfl rfl (Nat.le_of_ble_eq_true rfl) rfl) (fun _ _ => ?_)
      refine E.nil (E.thn (E.seq (E.region (l := [0, 1, 2, 3]) rfl (E.y rfl rfl (by decide) (Y.ldS (cs := [_, _, _, _]) ty_lReached rfl (Has.pt (mS (mS (mS (mS (mS (mS (mS (mS (mS (mS m0))))))))))) rfl) ?_))))
      refine E.st rfl rfl (N.call (t_laws_toReached (by first | omega | assumption) (by first | omega | assumption) (by first | omega | assumption)) rfl rfl rfl (by decide) rfl (fun w Lp hA => ⟨hA.ro haB_Facts, hA.ro haB_Values, hA.ro haB_Log, i6aB_Rounds⟩)) (fun k28 _ => ?_)
      obtain ⟨⟨a28_0, m28_0, c28_0⟩, ⟨a28_1, m28_1, c28_1⟩, ⟨a28_2, m28_2, c28_2⟩⟩ := k28
      refine Ent.lenow m0 fun e28_0 l28_0 => ?_
      subst e28_0
      refine Ent.lenow (mS m0) fun e28_1 l28_1 => ?_
      subst e28_1
      refine Ent.lenow (mS (mS m0)) fun e28_2 l28_2 => ?_
      subst e28_2
      refine E.st rfl rfl (N.alloc ty_Reached (by decide)) (fun b8 _ => ?_)
      refine E.st rfl rfl (N.sto (vs := [_, _, _, _]) (cs' := [_, _, _, _]) ty_Reached rfl rfl rfl rfl rfl (Nat.le_of_ble_eq_true rfl) rfl) (fun _ _ => ?_)
      refine E.nil (E.thn (E.seq (E.region (l := [0, 1, 2, 3]) rfl (E.y rfl rfl (by decide) (Y.ldS (cs := [_, _, _, _]) ty_Reached rfl (Has.pt (mS (mS (mS (mS m0))))) rfl) ?_))))
      refine E.y rfl rfl (by decide) (Y.ldS (cs := [_, _, _, _]) ty_Reached rfl (Has.pt m0) rfl) ?_
      refine E.st rfl rfl (N.call0 t_impl_EqualReached rfl rfl rfl (by decide) (fun w Lp hA => ⟨hA.ow (mS (mS (mS (mS (mS m0))))), hA.ow (mS (mS (mS (mS (mS (mS m0)))))), hA.ow (mS (mS (mS (mS (mS (mS (mS m0))))))), i6aA_Rounds, hA.ow (mS m0), hA.ow (mS (mS m0)), hA.ow (mS (mS (mS m0))), i6aB_Rounds⟩)) (fun _ _ => ?_)
      refine E.y rfl rfl (by decide) ((Y.as rfl).yd) ?_
      refine E.nil (E.thn (E.seq (E.seq (E.region (l := [0, 1, 2]) rfl (E.y rfl rfl (by decide) ((Y.mv rfl).yd) ?_)))))
      refine E.y rfl rfl (by decide) ((Y.mv rfl).yd) ?_
      refine E.y rfl rfl (by decide) ((Y.neqB (by kernel_rfl) rfl rfl).yd) (Ent.d (fun q34 => ?_) (fun q34 => ?_))
      · exact absurd rfl q34
      · refine E.nil (E.thn (E.cf rfl (E.skipc (E.thn (E.seq (E.seq (D.region (fun j => true) mixed (D.y 0 rfl rfl (by decide) (Y.ldS (cs := [_, _, _, _]) ty_Reached rfl (Has.pt (mS (mS (mS (mS m0))))) rfl) (by kernel_rfl) ?_))))))))
        refine D.y 1 rfl rfl (by decide) (Y.ldS (cs := [_, _, _, _]) ty_lReached rfl (Has.pt (mS (mS (mS (mS (mS (mS (mS (mS (mS (mS (mS (mS (mS (mS (mS m0)))))))))))))))) rfl) (by kernel_rfl) ?_
        refine D.st 2 rfl rfl (by kernel_rfl) (fun _ => rfl) (N.call (t_laws_toReached (by first | omega | assumption) (by first | omega | assumption) (by first | omega | assumption)) rfl rfl rfl (by decide) rfl (fun w Lp hA => ⟨hA.ro haA_Facts, hA.ro haA_Values, hA.ro haA_Log, i6aA_Rounds⟩)) (fun k37 _ => ?_)
        obtain ⟨⟨a37_0, m37_0, c37_0⟩, ⟨a37_1, m37_1, c37_1⟩, ⟨a37_2, m37_2, c37_2⟩⟩ := k37
        refine Ent.lenow m0 fun e37_0 l37_0 => ?_
        subst e37_0
        refine Ent.lenow (mS m0) fun e37_1 l37_1 => ?_
        subst e37_1
        refine Ent.lenow (mS (mS m0)) fun e37_2 l37_2 => ?_
        subst e37_2
        refine D.st 3 rfl rfl (by kernel_rfl) (fun _ => rfl) (N.call0 t_laws_eqReached rfl rfl rfl (by decide) (fun w Lp hA => ⟨hA.ow (mS (mS (mS (mS (mS (mS (mS (mS m0)))))))), hA.ow (mS (mS (mS (mS (mS (mS (mS (mS (mS m0))))))))), hA.ow (mS (mS (mS (mS (mS (mS (mS (mS (mS (mS m0)))))))))), i6aA_Rounds, hA.ow m0, hA.ow (mS m0), hA.ow (mS (mS m0)), i6aA_Rounds⟩)) (fun _ _ => (Ent.b (fun q38 => ?_) (fun q38 => ?_)))
        · refine D.yp 4 rfl rfl (by decide) (Y.not (b := true) rfl) (by kernel_rfl) ?_
          refine D.done (by kernel_rfl) (E.thn (E.cf rfl (E.skipc (E.thn (E.seq (E.seq (D.region (fun j => true) mixed (D.y 0 rfl rfl (by decide) (Y.ldS (cs := [_, _, _, _]) ty_Reached rfl (Has.pt (mS (mS (mS m0)))) rfl) (by kernel_rfl) ?_))))))))
          refine D.y 1 rfl rfl (by decide) (Y.ldS (cs := [_, _, _, _]) ty_lReached rfl (Has.pt (mS (mS (mS (mS (mS (mS (mS (mS (mS (mS (mS (mS (mS (mS (mS (mS (mS m0)))))))))))))))))) rfl) (by kernel_rfl) ?_
          refine D.st 2 rfl rfl (by kernel_rfl) (fun _ => rfl) (N.call (t_laws_toReached (by first | omega | assumption) (by first | omega | assumption) (by first | omega | assumption)) rfl rfl rfl (by decide) rfl (fun w Lp hA => ⟨hA.ro haB_Facts, hA.ro haB_Values, hA.ro haB_Log, i6aB_Rounds⟩)) (fun k42 _ => ?_)
          obtain ⟨⟨a42_0, m42_0, c42_0⟩, ⟨a42_1, m42_1, c42_1⟩, ⟨a42_2, m42_2, c42_2⟩⟩ := k42
          refine Ent.lenow m0 fun e42_0 l42_0 => ?_
          subst e42_0
          refine Ent.lenow (mS m0) fun e42_1 l42_1 => ?_
          subst e42_1
          refine Ent.lenow (mS (mS m0)) fun e42_2 l42_2 => ?_
          subst e42_2
          refine D.st 3 rfl rfl (by kernel_rfl) (fun _ => rfl) (N.call0 t_laws_eqReached rfl rfl rfl (by decide) (fun w Lp hA => ⟨hA.ow (mS (mS (mS (mS (mS (mS (mS m0))))))), hA.ow (mS (mS (mS (mS (mS (mS (mS (mS m0)))))))), hA.ow (mS (mS (mS (mS (mS (mS (mS (mS (mS m0))))))))), i6aB_Rounds, hA.ow m0, hA.ow (mS m0), hA.ow (mS (mS m0)), i6aB_Rounds⟩)) (fun _ _ => (Ent.b (fun q43 => ?_) (fun q43 => ?_)))
          · refine D.yp 4 rfl rfl (by decide) (Y.not (b := true) rfl) (by kernel_rfl) ?_
            refine D.done (by kernel_rfl) (E.thn (E.cf rfl (E.skipc (E.thn (E.seq (E.region (l := [0]) rfl (E.y rfl rfl (by decide) ((Y.as rfl).yd) ?_)))))))
            exact E.nil (E.thn (E.ret (F.r1 (Back.refl _ _) rfl rfl () trivial rfl (J := _) (.refl _) (.inl rfl))))
          · refine D.yp 4 rfl rfl (by decide) (Y.not (b := false) rfl) (by kernel_rfl) ?_
            refine D.done (by kernel_rfl) (E.thn (E.ct rfl (E.seq (E.region (l := [0]) rfl (E.y rfl rfl (by decide) ((Y.as rfl).yd) ?_)))))
            exact E.nil (E.thn (E.ret (E.thr (F.r1 (Back.refl _ _) rfl rfl () trivial (congrArg Value.bool (by simp_all)) (J := _) (.refl _) (.inl rfl)))))
        · refine D.yp 4 rfl rfl (by decide) (Y.not (b := false) rfl) (by kernel_rfl) ?_
          refine D.done (by kernel_rfl) (E.thn (E.ct rfl (E.seq (E.region (l := [0]) rfl (E.y rfl rfl (by decide) ((Y.as rfl).yd) ?_)))))
          exact E.nil (E.thn (E.ret (E.thr (F.r1 (Back.refl _ _) rfl rfl () trivial (congrArg Value.bool (by simp_all)) (J := _) (.refl _) (.inl rfl)))))
end Go.Proofs.Ytnagfcajnbkdoaa
