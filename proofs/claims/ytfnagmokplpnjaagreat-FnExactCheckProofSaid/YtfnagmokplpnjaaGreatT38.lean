import Derived.Test.YtfnagmokplpnjaaGreatT37
import Derived.Test.YtfnagmokplpnjaaGreatT30
namespace Go.Proofs.YtfnagmokplpnjaaGreat
open Go.RowKit
set_option linter.unusedVariables false
set_option linter.unusedSimpArgs false
set_option maxHeartbeats 2000000
attribute [local irreducible] Nop Yd Yp Ent Has Tr FnP FnP2 Src listsF opnF opn1 opnR chainB
theorem t_laws_szLine {a_Rule : Int} {a_Access_Method : Int} {a_a_Access_Values : Option Addr} {m_a_Access_Values c_a_Access_Values : Nat} {a_Access_Values : List Int} {a_Fact_Rel : Int} {a_a_Fact_Values : Option Addr} {m_a_Fact_Values c_a_Fact_Values : Nat} {a_Fact_Values : List Int} {left : Int} : Tr Tryz.prog 134 [.agg #[.int .i64 a_Rule, .int .i64 a_Access_Method, .slice a_a_Access_Values m_a_Access_Values c_a_Access_Values, .int .i64 a_Fact_Rel, .slice a_a_Fact_Values m_a_Fact_Values c_a_Fact_Values], .int .i64 left] (fun w L => I64 a_Rule ∧ I64 a_Access_Method ∧ Ro w L eIs [.slice a_a_Access_Values m_a_Access_Values c_a_Access_Values] a_Access_Values ∧ I64 a_Fact_Rel ∧ Ro w L eIs [.slice a_a_Fact_Values m_a_Fact_Values c_a_Fact_Values] a_Fact_Values ∧ 0 ≤ left ∧ left ≤ 1048576) [] (κ := Unit) (fun k => True) (fun k => .int .i64 (szR (a_Access_Values.length + a_Fact_Values.length) left)) (fun k => []) := by
  refine Tr.intro Tryz.func134 rfl (n := 18) rfl (by decide +kernel) (Nat.le_of_ble_eq_true rfl) (fr := [(0, .agg #[.int .i64 a_Rule, .int .i64 a_Access_Method, .slice a_a_Access_Values m_a_Access_Values c_a_Access_Values, .int .i64 a_Fact_Rel, .slice a_a_Fact_Values m_a_Fact_Values c_a_Fact_Values]), (1, .int .i64 left)]) rfl fun w L hR => ?_
  obtain ⟨i6a_Rule, i6a_Access_Method, ha_Access_Values, i6a_Fact_Rel, ha_Fact_Values, as0, as1⟩ := hR
  obtain ⟨rfl, la_Access_Values⟩ := ha_Access_Values.slen
  obtain ⟨rfl, la_Fact_Values⟩ := ha_Fact_Values.slen
  refine E.seq (E.region (l := [0, 1]) rfl (E.st rfl rfl (N.box (cs := [_, _, _, _, _]) rfl (by decide) rfl) (fun b2 _ => ?_)))
  refine E.y rfl rfl (by decide) ((Y.as rfl).yd) ?_
  refine E.nil (E.thn (E.seq (E.region (l := [0, 1, 2, 3, 4]) rfl (E.y rfl rfl (by decide) ((Y.fld fo_lLine_1 ty_lAccess (by decide) rfl).yd) ?_))))
  refine E.y rfl rfl (by decide) (Y.ldS (cs := [_, _]) ty_lAccess rfl ((Has.pt m0).sub (cs' := [_, _]) 1 rfl) rfl) ?_
  refine E.y rfl rfl (by decide) ((Y.mv rfl).yd) ?_
  refine E.st rfl rfl (N.call0 t_laws_szAccess rfl rfl rfl (by decide) (fun w Lp hA => ⟨i6a_Access_Method, hA.ro ha_Access_Values, (by first | assumption | omega), (by first | assumption | omega)⟩)) (fun _ _ => ?_)
  refine E.y rfl rfl (by decide) ((Y.as rfl).yd) ?_
  refine E.nil (E.thn (E.seq (E.seq (E.region (l := [0, 1]) rfl (E.y rfl rfl (by decide) ((Y.mv rfl).yd) ?_)))))
  refine E.y rfl rfl (by decide) ((Y.lss rfl rfl).yd) (Ent.d (fun q10 => ?_) (fun q10 => ?_))
  · have z10 := szR_bad q10 (by omega)
    refine E.nil (E.thn (E.ct rfl (E.seq (E.region (l := [0]) rfl (E.y rfl rfl (by decide) ((Y.as rfl).yd) ?_)))))
    exact E.nil (E.thn (E.ret (E.thr (F.r1 (Back.refl _ _) rfl rfl () trivial (congrArg (Value.int .i64) (by unfold szR; split <;> omega)) (J := _) (.refl _) (.inl rfl)))))
  · obtain ⟨z10, y10⟩ := szR_ok q10 (by omega)
    refine E.nil (E.thn (E.cf rfl (E.skipc (E.thn (E.seq (E.region (l := [0, 1, 2, 3, 4]) rfl (E.y rfl rfl (by decide) ((Y.fld fo_lLine_2 ty_lFact (by decide) rfl).yd) ?_)))))))
    refine E.y rfl rfl (by decide) (Y.ldS (cs := [_, _]) ty_lFact rfl ((Has.pt m0).sub (cs' := [_, _]) 3 rfl) rfl) ?_
    refine E.y rfl rfl (by decide) ((Y.mv rfl).yd) ?_
    refine E.st rfl rfl (N.call0 t_laws_szFact rfl rfl rfl (by decide) (fun w Lp hA => ⟨i6a_Fact_Rel, hA.ro ha_Fact_Values, (by first | assumption | omega), (by first | assumption | omega)⟩)) (fun _ _ => ?_)
    refine E.y rfl rfl (by decide) ((Y.as rfl).yd) ?_
    refine E.nil (E.thn (E.seq (E.seq (E.region (l := [0, 1]) rfl (E.y rfl rfl (by decide) ((Y.mv rfl).yd) ?_)))))
    refine E.y rfl rfl (by decide) ((Y.lss rfl rfl).yd) (Ent.d (fun q16 => ?_) (fun q16 => ?_))
    · have z16 := szR_bad q16 (by omega)
      refine E.nil (E.thn (E.ct rfl (E.seq (E.region (l := [0]) rfl (E.y rfl rfl (by decide) ((Y.as rfl).yd) ?_)))))
      exact E.nil (E.thn (E.ret (E.thr (F.r1 (Back.refl _ _) rfl rfl () trivial (congrArg (Value.int .i64) (by unfold szR; split <;> omega)) (J := _) (.refl _) (.inl rfl)))))
    · obtain ⟨z16, y16⟩ := szR_ok q16 (by omega)
      refine E.nil (E.thn (E.cf rfl (E.skipc (E.thn (E.seq (E.region (l := [0, 1]) rfl (E.y rfl rfl (by decide) ((Y.mv rfl).yd) ?_)))))))
      refine E.y rfl rfl (by decide) ((Y.as rfl).yd) ?_
      exact E.nil (E.thn (E.ret (F.r1 (Back.refl _ _) rfl rfl () trivial (congrArg (Value.int .i64) (by have e : szR (a_Access_Values.length + a_Fact_Values.length) left = left - ((a_Access_Values.length + a_Fact_Values.length : Nat) : Int) := by { unfold szR; split <;> omega }; omega)) (J := _) (.refl _) (.inl rfl))))
theorem t_laws_toLine {a_Rule : Int} {a_Access_Method : Int} {a_a_Access_Values : Option Addr} {m_a_Access_Values c_a_Access_Values : Nat} {a_Access_Values : List Int} {a_Fact_Rel : Int} {a_a_Fact_Values : Option Addr} {m_a_Fact_Values c_a_Fact_Values : Nat} {a_Fact_Values : List Int} (h2 : a_Access_Values.length ≤ 1048576) (h4 : a_Fact_Values.length ≤ 1048576) : Tr Tryz.prog 140 [.agg #[.int .i64 a_Rule, .int .i64 a_Access_Method, .slice a_a_Access_Values m_a_Access_Values c_a_Access_Values, .int .i64 a_Fact_Rel, .slice a_a_Fact_Values m_a_Fact_Values c_a_Fact_Values]] (fun w L => I64 a_Rule ∧ I64 a_Access_Method ∧ Ro w L eIs [.slice a_a_Access_Values m_a_Access_Values c_a_Access_Values] a_Access_Values ∧ I64 a_Fact_Rel ∧ Ro w L eIs [.slice a_a_Fact_Values m_a_Fact_Values c_a_Fact_Values] a_Fact_Values) [] (κ := (Option Addr × Nat × Nat) × (Option Addr × Nat × Nat)) (fun k => True) (fun k => .agg #[.int .i64 a_Rule, .int .i64 a_Access_Method, .slice k.1.1 k.1.2.1 k.1.2.2, .int .i64 a_Fact_Rel, .slice k.2.1 k.2.2.1 k.2.2.2]) (fun k => [ow eIs [.slice k.1.1 k.1.2.1 k.1.2.2] a_Access_Values, ow eIs [.slice k.2.1 k.2.2.1 k.2.2.2] a_Fact_Values]) := by
  refine Tr.intro Tryz.func140 rfl (n := 16) rfl (by decide +kernel) (Nat.le_of_ble_eq_true rfl) (fr := [(0, .agg #[.int .i64 a_Rule, .int .i64 a_Access_Method, .slice a_a_Access_Values m_a_Access_Values c_a_Access_Values, .int .i64 a_Fact_Rel, .slice a_a_Fact_Values m_a_Fact_Values c_a_Fact_Values])]) rfl fun w L hR => ?_
  obtain ⟨i6a_Rule, i6a_Access_Method, ha_Access_Values, i6a_Fact_Rel, ha_Fact_Values⟩ := hR
  obtain ⟨rfl, la_Access_Values⟩ := ha_Access_Values.slen
  obtain ⟨rfl, la_Fact_Values⟩ := ha_Fact_Values.slen
  refine E.seq (E.region (l := [0, 1]) rfl (E.st rfl rfl (N.box (cs := [_, _, _, _, _]) rfl (by decide) rfl) (fun b1 _ => ?_)))
  refine E.st rfl rfl (N.alloc ty_Line (by decide)) (fun b2 _ => ?_)
  refine E.nil (E.thn (E.seq (E.region (l := [0]) rfl (E.st rfl rfl (N.alloc ty_Line (by decide)) (fun b3 _ => ?_)))))
  refine E.nil (E.thn (E.seq (E.region (l := [0, 1, 2, 3]) rfl (E.y rfl rfl (by decide) ((Y.fld fo_lLine_0 ty_I (by decide) rfl).yd) ?_))))
  refine E.y rfl rfl (by decide) (Y.ld1 ty_I rfl ((Has.pt (mS (mS m0))).sub (cs' := [_]) 0 rfl) rfl) ?_
  refine E.y rfl rfl (by decide) ((Y.fld fo_Line_0 ty_I (by decide) rfl).yd) ?_
  refine E.st rfl rfl (N.sto (vs := [_]) (cs' := [_, _, _, _, _]) ty_I rfl rfl rfl rfl rfl (Nat.le_of_ble_eq_true rfl) rfl) (fun _ _ => ?_)
  refine E.nil (E.thn (E.seq (E.region (l := [0, 1, 2, 3, 4]) rfl (E.y rfl rfl (by decide) ((Y.fld fo_lLine_1 ty_lAccess (by decide) rfl).yd) ?_))))
  refine E.y rfl rfl (by decide) (Y.ldS (cs := [_, _]) ty_lAccess rfl ((Has.pt (mS (mS m0))).sub (cs' := [_, _]) 1 rfl) rfl) ?_
  refine E.st rfl rfl (N.call (t_laws_toAccess (by first | omega | assumption | (constructor <;> omega))) rfl rfl rfl (by decide) rfl (fun w Lp hA => ⟨i6a_Access_Method, hA.ro ha_Access_Values⟩)) (fun k9 _ => ?_)
  obtain ⟨a9, m9, c9⟩ := k9
  refine Ent.lenow m0 fun e9 l9 => ?_
  subst e9
  refine E.y rfl rfl (by decide) ((Y.fld fo_Line_1 ty_Access (by decide) rfl).yd) ?_
  refine Ent.p1 ?_
  refine E.st rfl rfl (N.sto (vs := [_, _]) (cs' := [_, _, _, _, _]) ty_Access rfl rfl rfl rfl rfl (Nat.le_of_ble_eq_true rfl) rfl) (fun _ _ => ?_)
  refine E.nil (E.thn (E.seq (E.region (l := [0, 1, 2, 3, 4]) rfl (E.y rfl rfl (by decide) ((Y.fld fo_lLine_2 ty_lFact (by decide) rfl).yd) ?_))))
  refine E.y rfl rfl (by decide) (Y.ldS (cs := [_, _]) ty_lFact rfl ((Has.pt (mS (mS (mS m0)))).sub (cs' := [_, _]) 3 rfl) rfl) ?_
  refine E.st rfl rfl (N.call (t_laws_toFact (by first | omega | assumption | (constructor <;> omega))) rfl rfl rfl (by decide) rfl (fun w Lp hA => ⟨i6a_Fact_Rel, hA.ro ha_Fact_Values⟩)) (fun k13 _ => ?_)
  obtain ⟨a13, m13, c13⟩ := k13
  refine Ent.lenow m0 fun e13 l13 => ?_
  subst e13
  refine E.y rfl rfl (by decide) ((Y.fld fo_Line_2 ty_Fact (by decide) rfl).yd) ?_
  refine Ent.p1 ?_
  refine E.st rfl rfl (N.sto (vs := [_, _]) (cs' := [_, _, _, _, _]) ty_Fact rfl rfl rfl rfl rfl (Nat.le_of_ble_eq_true rfl) rfl) (fun _ _ => ?_)
  refine E.nil (E.thn (E.seq (E.region (l := [0, 1]) rfl (E.y rfl rfl (by decide) (Y.ldS (cs := [_, _, _, _, _]) ty_Line rfl (Has.pt m0) rfl) ?_))))
  refine Ent.p3 ?_
  refine E.st rfl rfl (N.sto (vs := [_, _, _, _, _]) (cs' := [_, _, _, _, _]) ty_Line rfl rfl rfl rfl rfl (Nat.le_of_ble_eq_true rfl) rfl) (fun _ _ => ?_)
  refine E.nil (E.thn (E.ret (Ent.p2 ?_)))
  refine Ent.p3 ?_
  refine Ent.p1 ?_
  refine Ent.p1 ?_
  exact F.c1 (Back.refl _ _) rfl rfl (mS (mS m0)) ty_Line rfl ((_, _, _), (_, _, _)) trivial rfl (J := _) (.refl _) (.inl rfl)
theorem t_laws_eqLine {a_Rule : Int} {a_Access_Method : Int} {a_a_Access_Values : Option Addr} {m_a_Access_Values c_a_Access_Values : Nat} {a_Access_Values : List Int} {a_Fact_Rel : Int} {a_a_Fact_Values : Option Addr} {m_a_Fact_Values c_a_Fact_Values : Nat} {a_Fact_Values : List Int} {b_Rule : Int} {b_Access_Method : Int} {a_b_Access_Values : Option Addr} {m_b_Access_Values c_b_Access_Values : Nat} {b_Access_Values : List Int} {b_Fact_Rel : Int} {a_b_Fact_Values : Option Addr} {m_b_Fact_Values c_b_Fact_Values : Nat} {b_Fact_Values : List Int} : Tr Tryz.prog 158 [.agg #[.int .i64 a_Rule, .int .i64 a_Access_Method, .slice a_a_Access_Values m_a_Access_Values c_a_Access_Values, .int .i64 a_Fact_Rel, .slice a_a_Fact_Values m_a_Fact_Values c_a_Fact_Values], .agg #[.int .i64 b_Rule, .int .i64 b_Access_Method, .slice a_b_Access_Values m_b_Access_Values c_b_Access_Values, .int .i64 b_Fact_Rel, .slice a_b_Fact_Values m_b_Fact_Values c_b_Fact_Values]] (fun w L => I64 a_Rule ∧ I64 a_Access_Method ∧ Ro w L eIs [.slice a_a_Access_Values m_a_Access_Values c_a_Access_Values] a_Access_Values ∧ I64 a_Fact_Rel ∧ Ro w L eIs [.slice a_a_Fact_Values m_a_Fact_Values c_a_Fact_Values] a_Fact_Values ∧ I64 b_Rule ∧ I64 b_Access_Method ∧ Ro w L eIs [.slice a_b_Access_Values m_b_Access_Values c_b_Access_Values] b_Access_Values ∧ I64 b_Fact_Rel ∧ Ro w L eIs [.slice a_b_Fact_Values m_b_Fact_Values c_b_Fact_Values] b_Fact_Values) [] (κ := Unit) (fun k => True) (fun k => .bool (decide ((a_Rule, (a_Access_Method, a_Access_Values), (a_Fact_Rel, a_Fact_Values)) = (b_Rule, (b_Access_Method, b_Access_Values), (b_Fact_Rel, b_Fact_Values))))) (fun k => []) := by
  refine Tr.intro Tryz.func158 rfl (n := 22) rfl (by decide +kernel) (Nat.le_of_ble_eq_true rfl) (fr := [(0, .agg #[.int .i64 a_Rule, .int .i64 a_Access_Method, .slice a_a_Access_Values m_a_Access_Values c_a_Access_Values, .int .i64 a_Fact_Rel, .slice a_a_Fact_Values m_a_Fact_Values c_a_Fact_Values]), (1, .agg #[.int .i64 b_Rule, .int .i64 b_Access_Method, .slice a_b_Access_Values m_b_Access_Values c_b_Access_Values, .int .i64 b_Fact_Rel, .slice a_b_Fact_Values m_b_Fact_Values c_b_Fact_Values])]) rfl fun w L hR => ?_
  obtain ⟨i6a_Rule, i6a_Access_Method, ha_Access_Values, i6a_Fact_Rel, ha_Fact_Values, i6b_Rule, i6b_Access_Method, hb_Access_Values, i6b_Fact_Rel, hb_Fact_Values⟩ := hR
  obtain ⟨rfl, la_Access_Values⟩ := ha_Access_Values.slen
  obtain ⟨rfl, la_Fact_Values⟩ := ha_Fact_Values.slen
  obtain ⟨rfl, lb_Access_Values⟩ := hb_Access_Values.slen
  obtain ⟨rfl, lb_Fact_Values⟩ := hb_Fact_Values.slen
  refine E.seq (E.region (l := [0, 1, 2]) rfl (E.st rfl rfl (N.box (cs := [_, _, _, _, _]) rfl (by decide) rfl) (fun b2 _ => ?_)))
  refine E.st rfl rfl (N.box (cs := [_, _, _, _, _]) rfl (by decide) rfl) (fun b3 _ => ?_)
  refine E.y rfl rfl (by decide) ((Y.as rfl).yd) ?_
  refine E.nil (E.thn (E.seq (E.seq (E.region (l := [0, 1, 2, 3, 4]) rfl (E.y rfl rfl (by decide) ((Y.fld fo_Line_0 ty_I (by decide) rfl).yd) ?_)))))
  refine E.y rfl rfl (by decide) (Y.ld1 ty_I rfl ((Has.pt (mS m0)).sub (cs' := [_]) 0 rfl) rfl) ?_
  refine E.y rfl rfl (by decide) ((Y.fld fo_Line_0 ty_I (by decide) rfl).yd) ?_
  refine E.y rfl rfl (by decide) (Y.ld1 ty_I rfl ((Has.pt m0).sub (cs' := [_]) 0 rfl) rfl) ?_
  refine E.y rfl rfl (by decide) ((Y.neq rfl rfl).yd) (Ent.d (fun q9 => ?_) (fun q9 => ?_))
  · refine E.nil (E.thn (E.ct rfl (E.seq (E.region (l := [0]) rfl (E.y rfl rfl (by decide) ((Y.as rfl).yd) ?_)))))
    exact E.nil (E.thn (E.ret (E.thr (F.r1 (Back.refl _ _) rfl rfl () trivial (congrArg Value.bool (by simp_all)) (J := _) (.refl _) (.inl rfl)))))
  · refine E.nil (E.thn (E.cf rfl (E.skipc (E.thn (E.seq (E.seq (E.region (l := [0, 1, 2, 3, 4, 5]) rfl (E.y rfl rfl (by decide) ((Y.fld fo_Line_1 ty_Access (by decide) rfl).yd) ?_))))))))
    refine E.y rfl rfl (by decide) (Y.ldS (cs := [_, _]) ty_Access rfl ((Has.pt (mS m0)).sub (cs' := [_, _]) 1 rfl) rfl) ?_
    refine E.y rfl rfl (by decide) ((Y.fld fo_Line_1 ty_Access (by decide) rfl).yd) ?_
    refine E.y rfl rfl (by decide) (Y.ldS (cs := [_, _]) ty_Access rfl ((Has.pt m0).sub (cs' := [_, _]) 1 rfl) rfl) ?_
    refine E.st rfl rfl (N.call0 t_laws_eqAccess rfl rfl rfl (by decide) (fun w Lp hA => ⟨i6a_Access_Method, hA.ro ha_Access_Values, i6b_Access_Method, hA.ro hb_Access_Values⟩)) (fun _ _ => (Ent.b (fun q14 => ?_) (fun q14 => ?_)))
    · refine E.y rfl rfl (by decide) ((Y.not (b := true) rfl).yd) ?_
      refine E.nil (E.thn (E.cf rfl (E.skipc (E.thn (E.seq (E.seq (E.region (l := [0, 1, 2, 3, 4, 5]) rfl (E.y rfl rfl (by decide) ((Y.fld fo_Line_2 ty_Fact (by decide) rfl).yd) ?_))))))))
      refine E.y rfl rfl (by decide) (Y.ldS (cs := [_, _]) ty_Fact rfl ((Has.pt (mS m0)).sub (cs' := [_, _]) 3 rfl) rfl) ?_
      refine E.y rfl rfl (by decide) ((Y.fld fo_Line_2 ty_Fact (by decide) rfl).yd) ?_
      refine E.y rfl rfl (by decide) (Y.ldS (cs := [_, _]) ty_Fact rfl ((Has.pt m0).sub (cs' := [_, _]) 3 rfl) rfl) ?_
      refine E.st rfl rfl (N.call0 t_laws_eqFact rfl rfl rfl (by decide) (fun w Lp hA => ⟨i6a_Fact_Rel, hA.ro ha_Fact_Values, i6b_Fact_Rel, hA.ro hb_Fact_Values⟩)) (fun _ _ => (Ent.b (fun q20 => ?_) (fun q20 => ?_)))
      · refine E.y rfl rfl (by decide) ((Y.not (b := true) rfl).yd) ?_
        refine E.nil (E.thn (E.cf rfl (E.skipc (E.thn (E.seq (E.region (l := [0]) rfl (E.y rfl rfl (by decide) ((Y.as rfl).yd) ?_)))))))
        exact E.nil (E.thn (E.ret (F.r1 (Back.refl _ _) rfl rfl () trivial (congrArg Value.bool (by simp_all)) (J := _) (.refl _) (.inl rfl))))
      · refine E.y rfl rfl (by decide) ((Y.not (b := false) rfl).yd) ?_
        refine E.nil (E.thn (E.ct rfl (E.seq (E.region (l := [0]) rfl (E.y rfl rfl (by decide) ((Y.as rfl).yd) ?_)))))
        exact E.nil (E.thn (E.ret (E.thr (F.r1 (Back.refl _ _) rfl rfl () trivial (congrArg Value.bool (by simp_all)) (J := _) (.refl _) (.inl rfl)))))
    · refine E.y rfl rfl (by decide) ((Y.not (b := false) rfl).yd) ?_
      refine E.nil (E.thn (E.ct rfl (E.seq (E.region (l := [0]) rfl (E.y rfl rfl (by decide) ((Y.as rfl).yd) ?_)))))
      exact E.nil (E.thn (E.ret (E.thr (F.r1 (Back.refl _ _) rfl rfl () trivial (congrArg Value.bool (by simp_all)) (J := _) (.refl _) (.inl rfl)))))
theorem t_laws_szLineS {a_a : Option Addr} {m_a c_a : Nat} {a : List (Int × (Int × List Int) × Int × List Int)} {left : Int} : Tr Tryz.prog 64 [.slice a_a m_a c_a, .int .i64 left] (fun w L => Ro w L eLines [.slice a_a m_a c_a] a ∧ 0 ≤ left ∧ left ≤ 1048576) [] (κ := Unit) (fun k => True) (fun k => .int .i64 (szR (totL (fun x => x.2.1.2.length + x.2.2.2.length) a) left)) (fun k => []) := by
  refine Tr.intro Tryz.func64 rfl (n := 27) rfl (by decide +kernel) (Nat.le_of_ble_eq_true rfl) (fr := [(0, .slice a_a m_a c_a), (1, .int .i64 left)]) rfl fun w L hR => ?_
  obtain ⟨ha, as0, as1⟩ := hR
  obtain ⟨rfl, la⟩ := ha.slen
  refine E.seq (E.region (l := [0]) rfl (E.y rfl rfl (by decide) ((Y.as rfl).yd) ?_))
  refine E.nil (E.thn (E.seq (E.region (l := [0, 1, 2, 3, 4]) rfl (E.y rfl rfl (by decide) ((Y.mv rfl).yd) ?_))))
  refine E.y rfl rfl (by decide) ((Y.mv rfl).yd) ?_
  refine E.y rfl rfl (by decide) ((Y.len us_lLines rfl).yd) ?_
  refine E.y rfl rfl (by decide) ((Y.sub rfl rfl (by omega) (by omega)).yd) ?_
  refine E.y rfl rfl (by decide) ((Y.as rfl).yd) ?_
  refine E.nil (E.thn (E.seq (E.seq (E.region (l := [0, 1]) rfl (E.y rfl rfl (by decide) ((Y.mv rfl).yd) ?_)))))
  refine E.y rfl rfl (by decide) ((Y.lss rfl rfl).yd) (Ent.d (fun q11 => ?_) (fun q11 => ?_))
  · refine E.nil (E.thn (E.ct rfl (E.seq (E.region (l := [0]) rfl (E.y rfl rfl (by decide) ((Y.as rfl).yd) ?_)))))
    exact E.nil (E.thn (E.ret (E.thr (F.r1 (Back.refl _ _) rfl rfl () trivial (congrArg (Value.int .i64) (by exact szS_no1 q11)) (J := _) (.refl _) (.inl rfl)))))
  · refine E.nil (E.thn (E.cf rfl (E.skipc (E.thn (E.seq (E.seq (E.region (l := [0]) rfl (E.y rfl rfl (by decide) ((Y.as rfl).yd) ?_))))))))
    refine E.nil (E.thn (E.block (E.loop (κ := Nat) (fun g => g ≤ a.length ∧ (a.length : Int) + (totS (fun x => x.2.1.2.length + x.2.2.2.length) (a.take g) : Nat) ≤ left) (fun g => [(0, .slice a_a a.length c_a), (1, .int .i64 (left - ((a.length : Int) + (totS (fun x => x.2.1.2.length + x.2.2.2.length) (a.take g) : Nat)))), (5, .int .i64 (↑g : Int))]) (fun g => []) (fun g => a.length - g) 0 ⟨by omega, by simp [totS]; omega⟩ ⟨rfl, frI (by simp [totS]), rfl, trivial⟩ (.refl _) (fun g pg => ?_))))
    obtain ⟨pk, pa⟩ := pg
    refine E.seq (E.seq (E.region (l := [0, 1, 2, 3]) rfl (E.y rfl rfl (by decide) ((Y.mv rfl).yd) ?_)))
    refine E.y rfl rfl (by decide) ((Y.mv rfl).yd) ?_
    refine E.y rfl rfl (by decide) ((Y.len us_lLines rfl).yd) ?_
    refine E.y rfl rfl (by decide) ((Y.lss rfl rfl).yd) (Ent.d (fun q15 => ?_) (fun q15 => ?_))
    · refine E.nil (E.thn (E.ct rfl (E.skipc (E.thn (E.seq (E.block (E.seq (E.region (l := [0, 1, 2, 3, 4, 5, 6]) rfl (E.y rfl rfl (by decide) ((Y.mv rfl).yd) ?_)))))))))
      refine E.y rfl rfl (by decide) ((Y.mv rfl).yd) ?_
      obtain ⟨eb20, eo20, ec20, ea20, er20, el20, eh20⟩ := ha.elem g (by omega)
      obtain ⟨xa20_0, xc20_0, xa20_1, xc20_1, rfl, ei20_0, ei20_1, xh20_0, ei20_3, xh20_1⟩ := Ro.pLine er20
      have := xh20_0.slen.2
      have := xh20_1.slen.2
      refine E.y rfl rfl (by decide) ((Y.ix us_lLines ty_lLine rfl ea20 rfl g rfl (by omega)).yd) ?_
      refine E.y rfl rfl (by decide) (Y.ldS (cs := [_, _, _, _, _]) ty_lLine rfl (eh20 _) rfl) ?_
      refine E.y rfl rfl (by decide) ((Y.mv rfl).yd) ?_
      refine E.st rfl rfl (N.call0 t_laws_szLine rfl rfl rfl (by decide) (fun w Lp hA => ⟨ei20_0, ei20_1, hA.ro xh20_0, ei20_3, hA.ro xh20_1, (by first | assumption | omega), (by first | assumption | omega)⟩)) (fun _ _ => ?_)
      refine E.y rfl rfl (by decide) ((Y.as rfl).yd) ?_
      refine E.nil (E.thn (E.seq (E.region (l := [0, 1]) rfl (E.y rfl rfl (by decide) ((Y.mv rfl).yd) ?_))))
      refine E.y rfl rfl (by decide) ((Y.lss rfl rfl).yd) (Ent.d (fun q25 => ?_) (fun q25 => ?_))
      · have z25 := szR_bad q25 (by omega)
        refine E.nil (E.thn (E.ct rfl (E.seq (E.region (l := [0]) rfl (E.y rfl rfl (by decide) ((Y.as rfl).yd) ?_)))))
        exact E.nil (E.thn (E.ret (E.blr (E.thr (E.thr (E.blr (E.thr (F.r1 (Back.refl _ _) rfl rfl () trivial (congrArg (Value.int .i64) (by exact szS_no2 (t := (fun x => x.2.1.2.length + x.2.2.2.length)) (n := a[g].2.1.2.length + a[g].2.2.2.length) (show g < a.length by omega) rfl (by omega))) (J := _) (.refl _) (.inl rfl)))))))))
      · obtain ⟨z25, y25⟩ := szR_ok q25 (by omega)
        refine E.nil (E.thn (E.cf rfl (E.skipc (E.bln (E.thn (E.region (l := [0, 1, 2]) rfl (E.y rfl rfl (by decide) ((Y.mv rfl).yd) ?_)))))))
        refine E.y rfl rfl (by decide) ((Y.add rfl rfl (by omega) (by omega)).yd) ?_
        refine E.y rfl rfl (by decide) ((Y.as rfl).yd) ?_
        exact E.nil (E.thn (E.again (Back.refl _ _) (g + 1) ⟨rfl, frI (by rw [z25]; have y := totS_step (t := (fun x => x.2.1.2.length + x.2.2.2.length)) (show g < a.length by omega); omega), rfl, trivial⟩ (.refl _) ⟨by omega, by have y := totS_step (t := (fun x => x.2.1.2.length + x.2.2.2.length)) (show g < a.length by omega); omega⟩ (by omega)))
    · refine E.nil (E.thn (E.cf rfl (E.exit (E.the (E.the (E.blh (E.thn (E.seq (E.region (l := [0, 1]) rfl (E.y rfl rfl (by decide) ((Y.mv rfl).yd) ?_))))))))))
      refine E.y rfl rfl (by decide) ((Y.as rfl).yd) ?_
      exact E.nil (E.thn (E.ret (F.r1 (Back.refl _ _) rfl rfl () trivial (congrArg (Value.int .i64) (by exact szS_yes (t := (fun x => x.2.1.2.length + x.2.2.2.length)) (show a.length ≤ g by omega) pa)) (J := _) (.refl _) (.inl rfl))))
theorem t_laws_toLineS {a_a : Option Addr} {m_a c_a : Nat} {a : List (Int × (Int × List Int) × Int × List Int)} (hz : totL (fun x => x.2.1.2.length + x.2.2.2.length) a ≤ 1048576) : Tr Tryz.prog 80 [.slice a_a m_a c_a] (fun w L => Ro w L eLines [.slice a_a m_a c_a] a) [] (κ := Option Addr × Nat × Nat) (fun k => True) (fun k => .slice k.1 k.2.1 k.2.2) (fun k => [ow eLines [.slice k.1 k.2.1 k.2.2] a]) := by
  refine Tr.intro Tryz.func80 rfl (n := 23) rfl (by decide +kernel) (Nat.le_of_ble_eq_true rfl) (fr := [(0, .slice a_a m_a c_a)]) rfl fun w L hR => ?_
  have ha := hR
  obtain ⟨rfl, la⟩ := ha.slen
  have hlen : a.length ≤ totL (fun x => x.2.1.2.length + x.2.2.2.length) a := by unfold totL; omega
  refine E.seq (E.region (l := [0]) rfl (E.y rfl rfl (by decide) ((Y.as rfl).yd) ?_))
  refine E.nil (E.thn (E.seq (E.region (l := [0, 1, 2, 3]) rfl (E.y rfl rfl (by decide) ((Y.mv rfl).yd) ?_))))
  refine E.y rfl rfl (by decide) ((Y.len us_lLines rfl).yd) ?_
  refine E.st rfl rfl (N.make (m := a.length) us_Lines ty_Line rfl rfl rfl (by unfold maxLen; omega) (by omega) (by decide)) (fun b7 _ => ?_)
  refine Ent.mkow (A := [_]) (Own.made (E := eLine) (e := tLine) (zx := (0, (0, []), (0, []))) (Own.mkLine (x := (0, (0, []), (0, []))) ⟨by decide, by decide⟩ ⟨by decide, by decide⟩ Own.nil ⟨by decide, by decide⟩ Own.nil) (by unfold maxLen; omega)) rfl ?_
  refine E.y rfl rfl (by decide) ((Y.as rfl).yd) ?_
  refine E.nil (E.thn (E.seq (E.seq (E.region (l := [0]) rfl (E.y rfl rfl (by decide) ((Y.as rfl).yd) ?_)))))
  refine E.nil (E.thn (E.block (E.loop (κ := Nat) (fun g => g ≤ a.length) (fun g => [(0, .slice a_a a.length c_a), (3, .slice (some ⟨b7, 0, none⟩) a.length a.length), (4, .int .i64 (↑g : Int))]) (fun g => [ow eLines [.slice (some ⟨b7, 0, none⟩) a.length a.length] (a.take g ++ List.replicate (a.length - g) (0, (0, []), (0, [])))]) (fun g => a.length - g) 0 (Nat.zero_le _) ⟨rfl, rfl, rfl, trivial⟩ (by simp) (fun g pg => ?_))))
  refine E.seq (E.seq (E.region (l := [0, 1, 2, 3]) rfl (E.y rfl rfl (by decide) ((Y.mv rfl).yd) ?_)))
  refine E.y rfl rfl (by decide) ((Y.mv rfl).yd) ?_
  refine E.y rfl rfl (by decide) ((Y.len us_lLines rfl).yd) ?_
  refine E.y rfl rfl (by decide) ((Y.lss rfl rfl).yd) (Ent.d (fun q11 => ?_) (fun q11 => ?_))
  · refine E.nil (E.thn (E.ct rfl (E.skipc (E.thn (E.seq (E.block (E.region (l := [0, 1, 2, 3, 4, 5, 6, 7, 8]) rfl (E.y rfl rfl (by decide) ((Y.mv rfl).yd) ?_))))))))
    refine E.y rfl rfl (by decide) ((Y.mv rfl).yd) ?_
    refine E.y rfl rfl (by decide) ((Y.mv rfl).yd) ?_
    refine E.y rfl rfl (by decide) ((Y.mv rfl).yd) ?_
    obtain ⟨eb18, eo18, ec18, ea18, er18, el18, eh18⟩ := ha.elem g (by omega)
    obtain ⟨xa18_0, xc18_0, xa18_1, xc18_1, rfl, ei18_0, ei18_1, xh18_0, ei18_3, xh18_1⟩ := Ro.pLine er18
    have := xh18_0.slen.2
    have := xh18_1.slen.2
    refine E.y rfl rfl (by decide) ((Y.ix us_lLines ty_lLine rfl ea18 rfl g rfl (by omega)).yd) ?_
    refine E.y rfl rfl (by decide) (Y.ldS (cs := [_, _, _, _, _]) ty_lLine rfl (eh18 _) rfl) ?_
    refine E.st rfl rfl (N.call (t_laws_toLine (by have y := tot_elem (t := (fun x => x.2.1.2.length + x.2.2.2.length)) (l := a) (g := g) (by omega); omega) (by have y := tot_elem (t := (fun x => x.2.1.2.length + x.2.2.2.length)) (l := a) (g := g) (by omega); omega)) rfl rfl rfl (by decide) rfl (fun w Lp hA => ⟨ei18_0, ei18_1, hA.ro xh18_0, ei18_3, hA.ro xh18_1⟩)) (fun k20 _ => ?_)
    obtain ⟨⟨a20_0, m20_0, c20_0⟩, ⟨a20_1, m20_1, c20_1⟩⟩ := k20
    refine Ent.lenow m0 fun e20_0 l20_0 => ?_
    subst e20_0
    refine Ent.lenow (mS m0) fun e20_1 l20_1 => ?_
    subst e20_1
    refine E.y rfl rfl (by decide) ((Y.ix us_Lines ty_Line rfl rfl rfl g rfl (by omega)).yd) ?_
    refine Ent.p1 ?_
    refine Ent.p1 ?_
    refine Ent.p2 ?_
    refine E.st rfl rfl (N.set (E := eLine) (j := g) (ex := a[g]) (ce := [_, _, _, _, _]) ty_Line rfl rfl rfl rfl (Own.mkLine (x := a[g]) ei18_0 ei18_1 Own.ow ei18_3 Own.ow) rfl (Nat.zero_add _) rfl (by simp; omega)) (fun _ _ => ?_)
    refine E.nil (E.bln (E.thn (E.region (l := [0, 1, 2]) rfl (E.y rfl rfl (by decide) ((Y.mv rfl).yd) ?_))))
    refine E.y rfl rfl (by decide) ((Y.add rfl rfl (by omega) (by omega)).yd) ?_
    refine E.y rfl rfl (by decide) ((Y.as rfl).yd) ?_
    exact E.nil (E.thn (E.again (Back.refl _ _) (g + 1) ⟨rfl, rfl, rfl, trivial⟩ (by rw [set_take (by omega) rfl]) (by omega) (by omega)))
  · refine E.nil (E.thn (E.cf rfl (E.exit (E.the (E.the (E.blh (E.thn (E.seq (E.region (l := [0, 1]) rfl (E.y rfl rfl (by decide) ((Y.mv rfl).yd) ?_))))))))))
    refine E.y rfl rfl (by decide) ((Y.as rfl).yd) ?_
    refine E.nil (E.thn (E.ret (Ent.cv (congrArg (ow eLines [_]) (show _ = a by exact take_rep_all (by omega))) ?_)))
    exact F.r1 (Back.refl _ _) rfl rfl (_, _, _) trivial rfl (J := _) (.refl _) (.inl rfl)
theorem t_laws_eqLineS {a_a : Option Addr} {m_a c_a : Nat} {a : List (Int × (Int × List Int) × Int × List Int)} {a_b : Option Addr} {m_b c_b : Nat} {b : List (Int × (Int × List Int) × Int × List Int)} : Tr Tryz.prog 87 [.slice a_a m_a c_a, .slice a_b m_b c_b] (fun w L => Ro w L eLines [.slice a_a m_a c_a] a ∧ Ro w L eLines [.slice a_b m_b c_b] b) [] (κ := Unit) (fun k => True) (fun k => .bool (decide (a = b))) (fun k => []) := by
  refine Tr.intro Tryz.func87 rfl (n := 27) rfl (by decide +kernel) (Nat.le_of_ble_eq_true rfl) (fr := [(0, .slice a_a m_a c_a), (1, .slice a_b m_b c_b)]) rfl fun w L hR => ?_
  obtain ⟨ha, hb⟩ := hR
  obtain ⟨rfl, la⟩ := ha.slen
  obtain ⟨rfl, lb⟩ := hb.slen
  refine E.seq (E.region (l := [0]) rfl (E.y rfl rfl (by decide) ((Y.as rfl).yd) ?_))
  refine E.nil (E.thn (E.seq (E.seq (E.region (l := [0, 1, 2, 3, 4]) rfl (E.y rfl rfl (by decide) ((Y.mv rfl).yd) ?_)))))
  refine E.y rfl rfl (by decide) ((Y.len us_Lines rfl).yd) ?_
  refine E.y rfl rfl (by decide) ((Y.mv rfl).yd) ?_
  refine E.y rfl rfl (by decide) ((Y.len us_Lines rfl).yd) ?_
  refine E.y rfl rfl (by decide) ((Y.neq rfl rfl).yd) (Ent.d (fun q10 => ?_) (fun q10 => ?_))
  · refine E.nil (E.thn (E.ct rfl (E.seq (E.region (l := [0]) rfl (E.y rfl rfl (by decide) ((Y.as rfl).yd) ?_)))))
    exact E.nil (E.thn (E.ret (E.thr (F.r1 (Back.refl _ _) rfl rfl () trivial (congrArg Value.bool (by exact ne_of_len q10)) (J := _) (.refl _) (.inl rfl)))))
  · refine E.nil (E.thn (E.cf rfl (E.skipc (E.thn (E.seq (E.seq (E.region (l := [0]) rfl (E.y rfl rfl (by decide) ((Y.as rfl).yd) ?_))))))))
    refine E.nil (E.thn (E.block (E.loop (κ := Nat) (fun g => g ≤ a.length ∧ a.take g = b.take g) (fun g => [(0, .slice a_a a.length c_a), (1, .slice a_b b.length c_b), (5, .int .i64 (↑g : Int))]) (fun g => []) (fun g => a.length - g) 0 ⟨by omega, by simp⟩ ⟨rfl, rfl, rfl, trivial⟩ (.refl _) (fun g pg => ?_))))
    obtain ⟨pk, pa⟩ := pg
    refine E.seq (E.seq (E.region (l := [0, 1, 2, 3]) rfl (E.y rfl rfl (by decide) ((Y.mv rfl).yd) ?_)))
    refine E.y rfl rfl (by decide) ((Y.mv rfl).yd) ?_
    refine E.y rfl rfl (by decide) ((Y.len us_Lines rfl).yd) ?_
    refine E.y rfl rfl (by decide) ((Y.lss rfl rfl).yd) (Ent.d (fun q14 => ?_) (fun q14 => ?_))
    · refine E.nil (E.thn (E.ct rfl (E.skipc (E.thn (E.seq (E.block (E.seq (D.region (fun j => true) mixed (D.yp 0 rfl rfl (by decide) (Y.mv rfl) (by kernel_rfl) ?_)))))))))
      refine D.yp 1 rfl rfl (by decide) (Y.mv rfl) (by kernel_rfl) ?_
      obtain ⟨eb19, eo19, ec19, ea19, er19, el19, eh19⟩ := ha.elem g (by omega)
      obtain ⟨xa19_0, xc19_0, xa19_1, xc19_1, rfl, ei19_0, ei19_1, xh19_0, ei19_3, xh19_1⟩ := Ro.pLine er19
      have := xh19_0.slen.2
      have := xh19_1.slen.2
      refine D.yp 2 rfl rfl (by decide) (Y.ix us_Lines ty_Line rfl ea19 rfl g rfl (by omega)) (by kernel_rfl) ?_
      refine D.y 3 rfl rfl (by decide) (Y.ldS (cs := [_, _, _, _, _]) ty_Line rfl (eh19 _) rfl) (by kernel_rfl) ?_
      refine D.yp 4 rfl rfl (by decide) (Y.mv rfl) (by kernel_rfl) ?_
      refine D.yp 5 rfl rfl (by decide) (Y.mv rfl) (by kernel_rfl) ?_
      obtain ⟨eb23, eo23, ec23, ea23, er23, el23, eh23⟩ := hb.elem g (by omega)
      obtain ⟨xa23_0, xc23_0, xa23_1, xc23_1, rfl, ei23_0, ei23_1, xh23_0, ei23_3, xh23_1⟩ := Ro.pLine er23
      have := xh23_0.slen.2
      have := xh23_1.slen.2
      refine D.yp 6 rfl rfl (by decide) (Y.ix us_Lines ty_Line rfl ea23 rfl g rfl (by omega)) (by kernel_rfl) ?_
      refine D.y 7 rfl rfl (by decide) (Y.ldS (cs := [_, _, _, _, _]) ty_Line rfl (eh23 _) rfl) (by kernel_rfl) ?_
      refine D.st 8 rfl rfl (by kernel_rfl) (fun _ => rfl) (N.call0 t_laws_eqLine rfl rfl rfl (by decide) (fun w Lp hA => ⟨ei19_0, ei19_1, hA.ro xh19_0, ei19_3, hA.ro xh19_1, ei23_0, ei23_1, hA.ro xh23_0, ei23_3, hA.ro xh23_1⟩)) (fun _ _ => (Ent.b (fun q25 => ?_) (fun q25 => ?_)))
      · refine D.yp 9 rfl rfl (by decide) (Y.not (b := true) rfl) (by kernel_rfl) ?_
        refine D.done (by kernel_rfl) (E.thn (E.cf rfl (E.skipc (E.bln (E.thn (E.region (l := [0, 1, 2]) rfl (E.y rfl rfl (by decide) ((Y.mv rfl).yd) ?_)))))))
        refine E.y rfl rfl (by decide) ((Y.add rfl rfl (by omega) (by omega)).yd) ?_
        refine E.y rfl rfl (by decide) ((Y.as rfl).yd) ?_
        exact E.nil (E.thn (E.again (Back.refl _ _) (g + 1) ⟨rfl, rfl, rfl, trivial⟩ (.refl _) ⟨by omega, take_eq_step (by omega) (by omega) pa (of_decide_eq_true q25)⟩ (by omega)))
      · refine D.yp 9 rfl rfl (by decide) (Y.not (b := false) rfl) (by kernel_rfl) ?_
        refine D.done (by kernel_rfl) (E.thn (E.ct rfl (E.seq (E.region (l := [0]) rfl (E.y rfl rfl (by decide) ((Y.as rfl).yd) ?_)))))
        exact E.nil (E.thn (E.ret (E.blr (E.thr (E.thr (E.blr (E.thr (F.r1 (Back.refl _ _) rfl rfl () trivial (congrArg Value.bool (by exact ne_of_get (show g < a.length by omega) (show g < b.length by omega) (of_decide_eq_false q25))) (J := _) (.refl _) (.inl rfl)))))))))
    · refine E.nil (E.thn (E.cf rfl (E.exit (E.the (E.the (E.blh (E.thn (E.seq (E.region (l := [0]) rfl (E.y rfl rfl (by decide) ((Y.as rfl).yd) ?_))))))))))
      exact E.nil (E.thn (E.ret (F.r1 (Back.refl _ _) rfl rfl () trivial (congrArg Value.bool (by exact eq_of_take (show a.length ≤ g by omega) (show b.length ≤ g by omega) pa)) (J := _) (.refl _) (.inl rfl))))
theorem t_laws_szProof {a_a_Lines : Option Addr} {m_a_Lines c_a_Lines : Nat} {a_Lines : List (Int × (Int × List Int) × Int × List Int)} {left : Int} : Tr Tryz.prog 14 [.agg #[.slice a_a_Lines m_a_Lines c_a_Lines], .int .i64 left] (fun w L => Ro w L eLines [.slice a_a_Lines m_a_Lines c_a_Lines] a_Lines ∧ 0 ≤ left ∧ left ≤ 1048576) [] (κ := Unit) (fun k => True) (fun k => .int .i64 (szR (totL (fun x => x.2.1.2.length + x.2.2.2.length) (a_Lines)) left)) (fun k => []) := by
  refine Tr.intro Tryz.func14 rfl (n := 12) rfl (by decide +kernel) (Nat.le_of_ble_eq_true rfl) (fr := [(0, .agg #[.slice a_a_Lines m_a_Lines c_a_Lines]), (1, .int .i64 left)]) rfl fun w L hR => ?_
  obtain ⟨ha_Lines, as0, as1⟩ := hR
  obtain ⟨rfl, la_Lines⟩ := ha_Lines.slen
  refine E.seq (E.region (l := [0, 1]) rfl (E.st rfl rfl (N.box (cs := [_]) rfl (by decide) rfl) (fun b2 _ => ?_)))
  refine E.y rfl rfl (by decide) ((Y.as rfl).yd) ?_
  refine E.nil (E.thn (E.seq (E.region (l := [0, 1, 2, 3, 4]) rfl (E.y rfl rfl (by decide) ((Y.fld fo_lProof_0 ty_lLines (by decide) rfl).yd) ?_))))
  refine E.y rfl rfl (by decide) (Y.ld1 ty_lLines rfl ((Has.pt m0).sub (cs' := [_]) 0 rfl) rfl) ?_
  refine E.y rfl rfl (by decide) ((Y.mv rfl).yd) ?_
  refine E.st rfl rfl (N.call0 t_laws_szLineS rfl rfl rfl (by decide) (fun w Lp hA => ⟨hA.ro ha_Lines, (by first | assumption | omega), (by first | assumption | omega)⟩)) (fun _ _ => ?_)
  refine E.y rfl rfl (by decide) ((Y.as rfl).yd) ?_
  refine E.nil (E.thn (E.seq (E.seq (E.region (l := [0, 1]) rfl (E.y rfl rfl (by decide) ((Y.mv rfl).yd) ?_)))))
  refine E.y rfl rfl (by decide) ((Y.lss rfl rfl).yd) (Ent.d (fun q10 => ?_) (fun q10 => ?_))
  · have z10 := szR_bad q10 (by omega)
    refine E.nil (E.thn (E.ct rfl (E.seq (E.region (l := [0]) rfl (E.y rfl rfl (by decide) ((Y.as rfl).yd) ?_)))))
    exact E.nil (E.thn (E.ret (E.thr (F.r1 (Back.refl _ _) rfl rfl () trivial (congrArg (Value.int .i64) (by unfold szR; split <;> omega)) (J := _) (.refl _) (.inl rfl)))))
  · obtain ⟨z10, y10⟩ := szR_ok q10 (by omega)
    refine E.nil (E.thn (E.cf rfl (E.skipc (E.thn (E.seq (E.region (l := [0, 1]) rfl (E.y rfl rfl (by decide) ((Y.mv rfl).yd) ?_)))))))
    refine E.y rfl rfl (by decide) ((Y.as rfl).yd) ?_
    exact E.nil (E.thn (E.ret (F.r1 (Back.refl _ _) rfl rfl () trivial (congrArg (Value.int .i64) (by have e : szR (totL (fun x => x.2.1.2.length + x.2.2.2.length) (a_Lines)) left = left - ((totL (fun x => x.2.1.2.length + x.2.2.2.length) (a_Lines) : Nat) : Int) := by { unfold szR; split <;> omega }; omega)) (J := _) (.refl _) (.inl rfl))))
theorem t_laws_toProof {a_a_Lines : Option Addr} {m_a_Lines c_a_Lines : Nat} {a_Lines : List (Int × (Int × List Int) × Int × List Int)} (h0 : totL (fun x => x.2.1.2.length + x.2.2.2.length) a_Lines ≤ 1048576) : Tr Tryz.prog 21 [.agg #[.slice a_a_Lines m_a_Lines c_a_Lines]] (fun w L => Ro w L eLines [.slice a_a_Lines m_a_Lines c_a_Lines] a_Lines) [] (κ := Option Addr × Nat × Nat) (fun k => True) (fun k => .agg #[.slice k.1 k.2.1 k.2.2]) (fun k => [ow eLines [.slice k.1 k.2.1 k.2.2] (a_Lines)]) := by
  refine Tr.intro Tryz.func21 rfl (n := 9) rfl (by decide +kernel) (Nat.le_of_ble_eq_true rfl) (fr := [(0, .agg #[.slice a_a_Lines m_a_Lines c_a_Lines])]) rfl fun w L hR => ?_
  have ha_Lines := hR
  obtain ⟨rfl, la_Lines⟩ := ha_Lines.slen
  refine E.seq (E.region (l := [0, 1]) rfl (E.st rfl rfl (N.box (cs := [_]) rfl (by decide) rfl) (fun b1 _ => ?_)))
  refine E.st rfl rfl (N.alloc ty_Proof (by decide)) (fun b2 _ => ?_)
  refine E.nil (E.thn (E.seq (E.region (l := [0]) rfl (E.st rfl rfl (N.alloc ty_Proof (by decide)) (fun b3 _ => ?_)))))
  refine E.nil (E.thn (E.seq (E.region (l := [0, 1, 2, 3, 4]) rfl (E.y rfl rfl (by decide) ((Y.fld fo_lProof_0 ty_lLines (by decide) rfl).yd) ?_))))
  refine E.y rfl rfl (by decide) (Y.ld1 ty_lLines rfl ((Has.pt (mS (mS m0))).sub (cs' := [_]) 0 rfl) rfl) ?_
  refine E.st rfl rfl (N.call (t_laws_toLineS (by first | omega | assumption | (constructor <;> omega))) rfl rfl rfl (by decide) rfl (fun w Lp hA => hA.ro ha_Lines)) (fun k6 _ => ?_)
  obtain ⟨a6, m6, c6⟩ := k6
  refine Ent.lenow m0 fun e6 l6 => ?_
  subst e6
  refine E.y rfl rfl (by decide) ((Y.fld fo_Proof_0 ty_Lines (by decide) rfl).yd) ?_
  refine Ent.p1 ?_
  refine E.st rfl rfl (N.sto (vs := [_]) (cs' := [_]) ty_Lines rfl rfl rfl rfl rfl (Nat.le_of_ble_eq_true rfl) rfl) (fun _ _ => ?_)
  refine E.nil (E.thn (E.seq (E.region (l := [0, 1]) rfl (E.y rfl rfl (by decide) (Y.ldS (cs := [_]) ty_Proof rfl (Has.pt m0) rfl) ?_))))
  refine Ent.p2 ?_
  refine E.st rfl rfl (N.sto (vs := [_]) (cs' := [_]) ty_Proof rfl rfl rfl rfl rfl (Nat.le_of_ble_eq_true rfl) rfl) (fun _ _ => ?_)
  refine E.nil (E.thn (E.ret (Ent.p2 ?_)))
  refine Ent.cv (congrArg (ow eLines [_]) (show _ = (a_Lines) by simp_all)) ?_
  exact F.c1 (Back.refl _ _) rfl rfl (mS m0) ty_Proof rfl (_, _, _) trivial rfl (J := _) (.refl _) (.inl rfl)
theorem t_laws_eqProof {a_a_Lines : Option Addr} {m_a_Lines c_a_Lines : Nat} {a_Lines : List (Int × (Int × List Int) × Int × List Int)} {a_b_Lines : Option Addr} {m_b_Lines c_b_Lines : Nat} {b_Lines : List (Int × (Int × List Int) × Int × List Int)} : Tr Tryz.prog 28 [.agg #[.slice a_a_Lines m_a_Lines c_a_Lines], .agg #[.slice a_b_Lines m_b_Lines c_b_Lines]] (fun w L => Ro w L eLines [.slice a_a_Lines m_a_Lines c_a_Lines] a_Lines ∧ Ro w L eLines [.slice a_b_Lines m_b_Lines c_b_Lines] b_Lines) [] (κ := Unit) (fun k => True) (fun k => .bool (decide ((a_Lines) = (b_Lines)))) (fun k => []) := by
  refine Tr.intro Tryz.func28 rfl (n := 11) rfl (by decide +kernel) (Nat.le_of_ble_eq_true rfl) (fr := [(0, .agg #[.slice a_a_Lines m_a_Lines c_a_Lines]), (1, .agg #[.slice a_b_Lines m_b_Lines c_b_Lines])]) rfl fun w L hR => ?_
  obtain ⟨ha_Lines, hb_Lines⟩ := hR
  obtain ⟨rfl, la_Lines⟩ := ha_Lines.slen
  obtain ⟨rfl, lb_Lines⟩ := hb_Lines.slen
  refine E.seq (E.region (l := [0, 1, 2]) rfl (E.st rfl rfl (N.box (cs := [_]) rfl (by decide) rfl) (fun b2 _ => ?_)))
  refine E.st rfl rfl (N.box (cs := [_]) rfl (by decide) rfl) (fun b3 _ => ?_)
  refine E.y rfl rfl (by decide) ((Y.as rfl).yd) ?_
  refine E.nil (E.thn (E.seq (E.seq (E.region (l := [0, 1, 2, 3, 4, 5]) rfl (E.y rfl rfl (by decide) ((Y.fld fo_Proof_0 ty_Lines (by decide) rfl).yd) ?_)))))
  refine E.y rfl rfl (by decide) (Y.ld1 ty_Lines rfl ((Has.pt (mS m0)).sub (cs' := [_]) 0 rfl) rfl) ?_
  refine E.y rfl rfl (by decide) ((Y.fld fo_Proof_0 ty_Lines (by decide) rfl).yd) ?_
  refine E.y rfl rfl (by decide) (Y.ld1 ty_Lines rfl ((Has.pt m0).sub (cs' := [_]) 0 rfl) rfl) ?_
  refine E.st rfl rfl (N.call0 t_laws_eqLineS rfl rfl rfl (by decide) (fun w Lp hA => ⟨hA.ro ha_Lines, hA.ro hb_Lines⟩)) (fun _ _ => (Ent.b (fun q9 => ?_) (fun q9 => ?_)))
  · refine E.y rfl rfl (by decide) ((Y.not (b := true) rfl).yd) ?_
    refine E.nil (E.thn (E.cf rfl (E.skipc (E.thn (E.seq (E.region (l := [0]) rfl (E.y rfl rfl (by decide) ((Y.as rfl).yd) ?_)))))))
    exact E.nil (E.thn (E.ret (F.r1 (Back.refl _ _) rfl rfl () trivial (congrArg Value.bool (by simp_all)) (J := _) (.refl _) (.inl rfl))))
  · refine E.y rfl rfl (by decide) ((Y.not (b := false) rfl).yd) ?_
    refine E.nil (E.thn (E.ct rfl (E.seq (E.region (l := [0]) rfl (E.y rfl rfl (by decide) ((Y.as rfl).yd) ?_)))))
    exact E.nil (E.thn (E.ret (E.thr (F.r1 (Back.refl _ _) rfl rfl () trivial (congrArg Value.bool (by simp_all)) (J := _) (.refl _) (.inl rfl)))))
theorem t_impl_CheckProof {a_s : Option Addr} {m_s c_s : Nat} {s : List Int} {a_l : Option Addr} {m_l c_l : Nat} {l : List (Int × List Int × Int × Int × Int)} {a_rules : Option Addr} {m_rules c_rules : Nat} {rules : List (Int × Int × List Int)} {a_facts : Option Addr} {m_facts c_facts : Nat} {facts : List (Int × List Int)} {a_seeds : Option Addr} {m_seeds c_seeds : Nat} {seeds : List Int} {f_Rel : Int} {a_f_Values : Option Addr} {m_f_Values c_f_Values : Nat} {f_Values : List Int} {a_p_Lines : Option Addr} {m_p_Lines c_p_Lines : Nat} {p_Lines : List (Int × (Int × List Int) × Int × List Int)} : Tr Tryz.prog 22 [.slice a_s m_s c_s, .slice a_l m_l c_l, .slice a_rules m_rules c_rules, .slice a_facts m_facts c_facts, .slice a_seeds m_seeds c_seeds, .agg #[.int .i64 f_Rel, .slice a_f_Values m_f_Values c_f_Values], .agg #[.slice a_p_Lines m_p_Lines c_p_Lines]] (fun w L => Ro w L eIs [.slice a_s m_s c_s] s ∧ Ro w L eMethods [.slice a_l m_l c_l] l ∧ Ro w L eRules [.slice a_rules m_rules c_rules] rules ∧ Ro w L eFacts [.slice a_facts m_facts c_facts] facts ∧ Ro w L eIs [.slice a_seeds m_seeds c_seeds] seeds ∧ I64 f_Rel ∧ Ro w L eIs [.slice a_f_Values m_f_Values c_f_Values] f_Values ∧ Ro w L eLines [.slice a_p_Lines m_p_Lines c_p_Lines] p_Lines) [] (κ := Unit) (fun k => True) (fun k => .bool (checkP s l rules facts seeds (f_Rel, f_Values) p_Lines)) (fun k => []) := by
  refine Tr.intro Tryz.func22 rfl (n := 69) rfl (by decide +kernel) (Nat.le_of_ble_eq_true rfl) (fr := [(0, .slice a_s m_s c_s), (1, .slice a_l m_l c_l), (2, .slice a_rules m_rules c_rules), (3, .slice a_facts m_facts c_facts), (4, .slice a_seeds m_seeds c_seeds), (5, .agg #[.int .i64 f_Rel, .slice a_f_Values m_f_Values c_f_Values]), (6, .agg #[.slice a_p_Lines m_p_Lines c_p_Lines])]) rfl fun w L hR => ?_
  obtain ⟨hs, hl, hrules, hfacts, hseeds, i6f_Rel, hf_Values, hp_Lines⟩ := hR
  obtain ⟨rfl, ls⟩ := hs.slen
  obtain ⟨rfl, ll⟩ := hl.slen
  obtain ⟨rfl, lrules⟩ := hrules.slen
  obtain ⟨rfl, lfacts⟩ := hfacts.slen
  obtain ⟨rfl, lseeds⟩ := hseeds.slen
  obtain ⟨rfl, lf_Values⟩ := hf_Values.slen
  obtain ⟨rfl, lp_Lines⟩ := hp_Lines.slen
  refine E.seq (E.region (l := [0, 1, 2]) rfl (E.st rfl rfl (N.box (cs := [_, _]) rfl (by decide) rfl) (fun b12 _ => ?_)))
  refine E.st rfl rfl (N.box (cs := [_]) rfl (by decide) rfl) (fun b13 _ => ?_)
  refine E.y rfl rfl (by decide) ((Y.as rfl).yd) ?_
  refine E.nil (E.thn (E.seq (E.region (l := [0, 1, 2, 3]) rfl (E.y rfl rfl (by decide) ((Y.fld fo_Proof_0 ty_Lines (by decide) rfl).yd) ?_))))
  refine E.y rfl rfl (by decide) (Y.ld1 ty_Lines rfl ((Has.pt m0).sub (cs' := [_]) 0 rfl) rfl) ?_
  refine E.y rfl rfl (by decide) ((Y.len us_Lines rfl).yd) ?_
  refine E.y rfl rfl (by decide) ((Y.as rfl).yd) ?_
  refine E.nil (E.thn (E.seq (E.seq (D.region (fun j => true) mixed (D.yp 0 rfl rfl (by decide) (Y.mv rfl) (by kernel_rfl) ?_)))))
  refine D.yp 1 rfl rfl (by decide) (Y.mv rfl) (by kernel_rfl) ?_
  refine D.yp 2 rfl rfl (by decide) (Y.mv rfl) (by kernel_rfl) ?_
  refine D.st 3 rfl rfl (by kernel_rfl) (fun _ => rfl) (N.call0 t_impl_areUnder rfl rfl rfl (by decide) (fun w Lp hA => ⟨hA.ro hs, hA.ro hl, hA.ro hrules⟩)) (fun _ _ => (Ent.b (fun q24 => ?_) (fun q24 => ?_)))
  · refine D.yp 4 rfl rfl (by decide) (Y.not (b := true) rfl) (by kernel_rfl) ?_
    refine D.yp 5 rfl rfl (by decide) (Y.mv rfl) (by kernel_rfl) ?_
    refine D.yp 6 rfl rfl (by decide) (Y.mv rfl) (by kernel_rfl) ?_
    refine D.yp 7 rfl rfl (by decide) (Y.mv rfl) (by kernel_rfl) ?_
    refine D.st 8 rfl rfl (by kernel_rfl) (fun _ => rfl) (N.call0 t_impl_AreFacts rfl rfl rfl (by decide) (fun w Lp hA => ⟨hA.ro hs, hA.ro hfacts⟩)) (fun _ _ => (Ent.b (fun q29 => ?_) (fun q29 => ?_)))
    · refine D.yp 9 rfl rfl (by decide) (Y.not (b := true) rfl) (by kernel_rfl) ?_
      refine D.yp 10 rfl rfl (by decide) (Y.pkf rfl rfl) (by kernel_rfl) ?_
      refine D.yp 11 rfl rfl (by decide) (Y.mv rfl) (by kernel_rfl) ?_
      refine D.yp 12 rfl rfl (by decide) (Y.mv rfl) (by kernel_rfl) ?_
      refine D.yp 13 rfl rfl (by decide) (Y.eql rfl rfl) (by kernel_rfl) (Ent.d (fun q34 => ?_) (fun q34 => ?_))
      · refine D.yp 14 rfl rfl (by decide) (Y.pkf rfl rfl) (by kernel_rfl) ?_
        refine D.yp 15 rfl rfl (by decide) (Y.mv rfl) (by kernel_rfl) ?_
        refine D.skip 16 rfl rfl (by kernel_rfl) rfl ?_
        refine D.skip 17 rfl rfl (by kernel_rfl) rfl ?_
        refine D.skip 18 rfl rfl (by kernel_rfl) rfl ?_
        refine D.skip 19 rfl rfl (by kernel_rfl) rfl ?_
        refine D.skip 20 rfl rfl (by kernel_rfl) rfl ?_
        refine D.skip 21 rfl rfl (by kernel_rfl) rfl ?_
        refine D.skip 22 rfl rfl (by kernel_rfl) rfl ?_
        refine D.skip 23 rfl rfl (by kernel_rfl) rfl ?_
        refine D.skip 24 rfl rfl (by kernel_rfl) rfl ?_
        refine D.skip 25 rfl rfl (by kernel_rfl) rfl ?_
        refine D.yp 26 rfl rfl (by decide) (Y.pkt rfl rfl) (by kernel_rfl) ?_
        refine D.done (by kernel_rfl) (E.thn (E.ct rfl (E.seq (E.region (l := [0]) rfl (E.y rfl rfl (by decide) ((Y.as rfl).yd) ?_)))))
        exact E.nil (E.thn (E.ret (E.thr (F.r1 (Back.refl _ _) rfl rfl () trivial (congrArg Value.bool (by grind [checkP, lastC_get, holdsG_step, holdsG_end, List.drop_eq_getElem_cons, List.drop_eq_nil_of_le, List.take_succ_eq_append_getElem, List.take_of_length_le])) (J := _) (.refl _) (.inl rfl)))))
      · refine D.yp 14 rfl rfl (by decide) (Y.pkf rfl rfl) (by kernel_rfl) ?_
        refine D.yp 15 rfl rfl (by decide) (Y.mv rfl) (by kernel_rfl) ?_
        refine D.yp 16 rfl rfl (by decide) (Y.fld fo_Proof_0 ty_Lines (by decide) rfl) (by kernel_rfl) ?_
        refine D.y 17 rfl rfl (by decide) (Y.ld1 ty_Lines rfl ((Has.pt m0).sub (cs' := [_]) 0 rfl) rfl) (by kernel_rfl) ?_
        refine D.yp 18 rfl rfl (by decide) (Y.mv rfl) (by kernel_rfl) ?_
        refine D.yp 19 rfl rfl (by decide) (Y.sub rfl rfl (by omega) (by omega)) (by kernel_rfl) ?_
        obtain ⟨eb41, eo41, ec41, ea41, er41, el41, eh41⟩ := hp_Lines.elem (p_Lines.length - 1) (by omega)
        obtain ⟨xa41_0, xc41_0, xa41_1, xc41_1, rfl, ei41_0, ei41_1, xh41_0, ei41_3, xh41_1⟩ := Ro.pLine er41
        have := xh41_0.slen.2
        have := xh41_1.slen.2
        refine D.yp 20 rfl rfl (by decide) (Y.ix us_Lines ty_Line rfl ea41 rfl (p_Lines.length - 1) (by omega) (by omega)) (by kernel_rfl) ?_
        refine D.yp 21 rfl rfl (by decide) (Y.fld fo_Line_2 ty_Fact (by decide) rfl) (by kernel_rfl) ?_
        refine D.y 22 rfl rfl (by decide) (Y.ldS (cs := [_, _]) ty_Fact rfl ((eh41 _).sub (cs' := [_, _]) 3 rfl) rfl) (by kernel_rfl) ?_
        refine D.y 23 rfl rfl (by decide) (Y.ldS (cs := [_, _]) ty_Fact rfl (Has.pt (mS m0)) rfl) (by kernel_rfl) ?_
        refine D.st 24 rfl rfl (by kernel_rfl) (fun _ => rfl) (N.call0 t_impl_CompareFacts rfl rfl rfl (by decide) (fun w Lp hA => ⟨ei41_3, hA.ro xh41_1, i6f_Rel, hA.ro hf_Values⟩)) (fun _ _ => ?_)
        refine D.yp 25 rfl rfl (by decide) (Y.neq rfl rfl) (by kernel_rfl) (Ent.d (fun q46 => ?_) (fun q46 => ?_))
        · refine D.yp 26 rfl rfl (by decide) (Y.pkf rfl rfl) (by kernel_rfl) ?_
          refine D.done (by kernel_rfl) (E.thn (E.ct rfl (E.seq (E.region (l := [0]) rfl (E.y rfl rfl (by decide) ((Y.as rfl).yd) ?_)))))
          exact E.nil (E.thn (E.ret (E.thr (F.r1 (Back.refl _ _) rfl rfl () trivial (congrArg Value.bool (by grind [checkP, lastC_get, holdsG_step, holdsG_end, List.drop_eq_getElem_cons, List.drop_eq_nil_of_le, List.take_succ_eq_append_getElem, List.take_of_length_le])) (J := _) (.refl _) (.inl rfl)))))
        · refine D.yp 26 rfl rfl (by decide) (Y.pkf rfl rfl) (by kernel_rfl) ?_
          refine D.done (by kernel_rfl) (E.thn (E.cf rfl (E.skipc (E.thn (E.seq (E.seq (E.region (l := [0, 1, 2, 3]) rfl (E.y rfl rfl (by decide) ((Y.fld fo_Proof_0 ty_Lines (by decide) rfl).yd) ?_))))))))
          refine E.y rfl rfl (by decide) (Y.ld1 ty_Lines rfl ((Has.pt m0).sub (cs' := [_]) 0 rfl) rfl) ?_
          refine E.y rfl rfl (by decide) ((Y.len us_Lines rfl).yd) ?_
          refine E.y rfl rfl (by decide) ((Y.mv rfl).yd) ?_
          refine E.nil (E.thn (E.block (E.loop (κ := Nat) (fun g => g ≤ p_Lines.length ∧ holdsG s l rules facts seeds p_Lines 0 = holdsG s l rules facts seeds p_Lines g) (fun g => [(0, .slice a_s s.length c_s), (1, .slice a_l l.length c_l), (2, .slice a_rules rules.length c_rules), (3, .slice a_facts facts.length c_facts), (4, .slice a_seeds seeds.length c_seeds), (13, .pointer (some ⟨b13, 0, none⟩)), (49, .slice a_p_Lines p_Lines.length c_p_Lines), (50, .int .i64 (↑p_Lines.length : Int)), (51, .int .i64 (↑g : Int))]) (fun g => [pt b13 48 [.slice a_p_Lines p_Lines.length c_p_Lines], pt b12 44 [.int .i64 f_Rel, .slice a_f_Values f_Values.length c_f_Values]]) (fun g => p_Lines.length - g) 0 ⟨Nat.zero_le _, by simp⟩ ⟨rfl, rfl, rfl, rfl, rfl, rfl, rfl, rfl, rfl, trivial⟩ (.refl _) (fun g pg => ?_))))
          obtain ⟨pk, pa⟩ := pg
          refine E.seq (E.region (l := [0]) rfl (E.y rfl rfl (by decide) ((Y.lss rfl rfl).yd) (Ent.d (fun q52 => ?_) (fun q52 => ?_))))
          · refine E.nil (E.thn (E.seq (E.ct rfl (E.skipc (E.thn (E.seq (E.block (E.seq (E.region (l := [0, 1, 2, 3, 4, 5]) rfl (E.y rfl rfl (by decide) ((Y.mv rfl).yd) ?_))))))))))
            obtain ⟨eb54, eo54, ec54, ea54, er54, el54, eh54⟩ := hp_Lines.elem g (by omega)
            obtain ⟨xa54_0, xc54_0, xa54_1, xc54_1, rfl, ei54_0, ei54_1, xh54_0, ei54_3, xh54_1⟩ := Ro.pLine er54
            have := xh54_0.slen.2
            have := xh54_1.slen.2
            refine E.y rfl rfl (by decide) ((Y.ix us_Lines ty_Line rfl ea54 rfl g rfl (by omega)).yd) ?_
            refine E.y rfl rfl (by decide) (Y.ldS (cs := [_, _, _, _, _]) ty_Line rfl (eh54 _) rfl) ?_
            refine E.st rfl rfl (N.alloc ty_Line (by decide)) (fun b17 _ => ?_)
            refine E.y rfl rfl (by decide) ((Y.as rfl).yd) ?_
            refine E.st rfl rfl (N.sto (vs := [_, _, _, _, _]) (cs' := [_, _, _, _, _]) ty_Line rfl rfl rfl rfl rfl (Nat.le_of_ble_eq_true rfl) rfl) (fun _ _ => ?_)
            refine E.nil (E.thn (E.seq (D.region (fun j => true) mixed (D.y 0 rfl rfl (by decide) (Y.ldS (cs := [_, _, _, _, _]) ty_Line rfl (Has.pt m0) rfl) (by kernel_rfl) ?_))))
            refine D.yp 1 rfl rfl (by decide) (Y.mv rfl) (by kernel_rfl) ?_
            refine D.yp 2 rfl rfl (by decide) (Y.mv rfl) (by kernel_rfl) ?_
            refine D.yp 3 rfl rfl (by decide) (Y.mv rfl) (by kernel_rfl) ?_
            refine D.yp 4 rfl rfl (by decide) (Y.mv rfl) (by kernel_rfl) ?_
            refine D.yp 5 rfl rfl (by decide) (Y.mv rfl) (by kernel_rfl) ?_
            refine D.yp 6 rfl rfl (by decide) (Y.fld fo_Proof_0 ty_Lines (by decide) rfl) (by kernel_rfl) ?_
            refine D.y 7 rfl rfl (by decide) (Y.ld1 ty_Lines rfl ((Has.pt (mS m0)).sub (cs' := [_]) 0 rfl) rfl) (by kernel_rfl) ?_
            refine D.yp 8 rfl rfl (by decide) (Y.mv rfl) (by kernel_rfl) ?_
            have rs65 := hp_Lines.upto g (by omega)
            have rl65 := rs65.slen.1
            have rc65 := hp_Lines.cap
            refine D.yp 9 rfl rfl (by decide) (Y.slTo (h := g) us_Lines ty_Line rfl rfl (by omega)) (by kernel_rfl) ?_
            refine D.st 10 rfl rfl (by kernel_rfl) (fun _ => rfl) (N.call0 (t_impl_Line_holds (by first | omega | assumption | (constructor <;> omega))) rfl rfl rfl (by decide) (fun w Lp hA => ⟨ei54_0, ei54_1, hA.ro xh54_0, ei54_3, hA.ro xh54_1, hA.ro hs, hA.ro hl, hA.ro hrules, hA.ro hfacts, hA.ro hseeds, hA.ro rs65⟩)) (fun _ _ => (Ent.b (fun q66 => ?_) (fun q66 => ?_)))
            · refine D.yp 11 rfl rfl (by decide) (Y.not (b := true) rfl) (by kernel_rfl) ?_
              refine D.done (by kernel_rfl) (E.thn (E.cf rfl (E.skipc (E.bln (E.thn (E.region (l := [0, 1]) rfl (E.y rfl rfl (by decide) ((Y.add rfl rfl (by omega) (by omega)).yd) ?_)))))))
              refine E.y rfl rfl (by decide) ((Y.mv rfl).yd) ?_
              refine E.nil (E.thn (Ent.drop ?_))
              refine Ent.p1 ?_
              refine Ent.p1 ?_
              exact E.again (Back.refl _ _) (g + 1) ⟨rfl, rfl, rfl, rfl, rfl, rfl, rfl, rfl, rfl, trivial⟩ (.refl _) ⟨by omega, by grind [holdsG_step, holdsG_end, List.drop_eq_getElem_cons, List.drop_eq_nil_of_le, List.take_succ_eq_append_getElem, List.take_of_length_le]⟩ (by omega)
            · refine D.yp 11 rfl rfl (by decide) (Y.not (b := false) rfl) (by kernel_rfl) ?_
              refine D.done (by kernel_rfl) (E.thn (E.ct rfl (E.seq (E.region (l := [0]) rfl (E.y rfl rfl (by decide) ((Y.as rfl).yd) ?_)))))
              exact E.nil (E.thn (E.ret (E.blr (E.thr (E.thr (E.blr (E.thr (F.r1 (Back.refl _ _) rfl rfl () trivial (congrArg Value.bool (by grind [checkP, lastC_get, holdsG_step, holdsG_end, List.drop_eq_getElem_cons, List.drop_eq_nil_of_le, List.take_succ_eq_append_getElem, List.take_of_length_le])) (J := _) (.refl _) (.inl rfl)))))))))
          · refine E.nil (E.thn (E.seq (E.cf rfl (E.exit (E.the (E.the (E.blh (E.thn (E.seq (E.region (l := [0]) rfl (E.y rfl rfl (by decide) ((Y.as rfl).yd) ?_)))))))))))
            exact E.nil (E.thn (E.ret (F.r1 (Back.refl _ _) rfl rfl () trivial (congrArg Value.bool (by grind [checkP, lastC_get, holdsG_step, holdsG_end, List.drop_eq_getElem_cons, List.drop_eq_nil_of_le, List.take_succ_eq_append_getElem, List.take_of_length_le])) (J := _) (.refl _) (.inl rfl))))
    · refine D.yp 9 rfl rfl (by decide) (Y.not (b := false) rfl) (by kernel_rfl) ?_
      refine D.yp 10 rfl rfl (by decide) (Y.pkf rfl rfl) (by kernel_rfl) ?_
      refine D.yp 11 rfl rfl (by decide) (Y.mv rfl) (by kernel_rfl) ?_
      refine D.skip 12 rfl rfl (by kernel_rfl) rfl ?_
      refine D.skip 13 rfl rfl (by kernel_rfl) rfl ?_
      refine D.yp 14 rfl rfl (by decide) (Y.pkt rfl rfl) (by kernel_rfl) ?_
      refine D.yp 15 rfl rfl (by decide) (Y.mv rfl) (by kernel_rfl) ?_
      refine D.skip 16 rfl rfl (by kernel_rfl) rfl ?_
      refine D.skip 17 rfl rfl (by kernel_rfl) rfl ?_
      refine D.skip 18 rfl rfl (by kernel_rfl) rfl ?_
      refine D.skip 19 rfl rfl (by kernel_rfl) rfl ?_
      refine D.skip 20 rfl rfl (by kernel_rfl) rfl ?_
      refine D.skip 21 rfl rfl (by kernel_rfl) rfl ?_
      refine D.skip 22 rfl rfl (by kernel_rfl) rfl ?_
      refine D.skip 23 rfl rfl (by kernel_rfl) rfl ?_
      refine D.skip 24 rfl rfl (by kernel_rfl) rfl ?_
      refine D.skip 25 rfl rfl (by kernel_rfl) rfl ?_
      refine D.yp 26 rfl rfl (by decide) (Y.pkt rfl rfl) (by kernel_rfl) ?_
      refine D.done (by kernel_rfl) (E.thn (E.ct rfl (E.seq (E.region (l := [0]) rfl (E.y rfl rfl (by decide) ((Y.as rfl).yd) ?_)))))
      exact E.nil (E.thn (E.ret (E.thr (F.r1 (Back.refl _ _) rfl rfl () trivial (congrArg Value.bool (by grind [checkP, lastC_get, holdsG_step, holdsG_end, List.drop_eq_getElem_cons, List.drop_eq_nil_of_le, List.take_succ_eq_append_getElem, List.take_of_length_le])) (J := _) (.refl _) (.inl rfl)))))
  · refine D.yp 4 rfl rfl (by decide) (Y.not (b := false) rfl) (by kernel_rfl) ?_
    refine D.yp 5 rfl rfl (by decide) (Y.mv rfl) (by kernel_rfl) ?_
    refine D.skip 6 rfl rfl (by kernel_rfl) rfl ?_
    refine D.skip 7 rfl rfl (by kernel_rfl) rfl ?_
    refine D.skip 8 rfl rfl (by kernel_rfl) rfl ?_
    refine D.skip 9 rfl rfl (by kernel_rfl) rfl ?_
    refine D.yp 10 rfl rfl (by decide) (Y.pkt rfl rfl) (by kernel_rfl) ?_
    refine D.yp 11 rfl rfl (by decide) (Y.mv rfl) (by kernel_rfl) ?_
    refine D.skip 12 rfl rfl (by kernel_rfl) rfl ?_
    refine D.skip 13 rfl rfl (by kernel_rfl) rfl ?_
    refine D.yp 14 rfl rfl (by decide) (Y.pkt rfl rfl) (by kernel_rfl) ?_
    refine D.yp 15 rfl rfl (by decide) (Y.mv rfl) (by kernel_rfl) ?_
    refine D.skip 16 rfl rfl (by kernel_rfl) rfl ?_
    refine D.skip 17 rfl rfl (by kernel_rfl) rfl ?_
    refine D.skip 18 rfl rfl (by kernel_rfl) rfl ?_
    refine D.skip 19 rfl rfl (by kernel_rfl) rfl ?_
    refine D.skip 20 rfl rfl (by kernel_rfl) rfl ?_
    refine D.skip 21 rfl rfl (by kernel_rfl) rfl ?_
    refine D.skip 22 rfl rfl (by kernel_rfl) rfl ?_
    refine D.skip 23 rfl rfl (by kernel_rfl) rfl ?_
    refine D.skip 24 rfl rfl (by kernel_rfl) rfl ?_
    refine D.skip 25 rfl rfl (by kernel_rfl) rfl ?_
    refine D.yp 26 rfl rfl (by decide) (Y.pkt rfl rfl) (by kernel_rfl) ?_
    refine D.done (by kernel_rfl) (E.thn (E.ct rfl (E.seq (E.region (l := [0]) rfl (E.y rfl rfl (by decide) ((Y.as rfl).yd) ?_)))))
    exact E.nil (E.thn (E.ret (E.thr (F.r1 (Back.refl _ _) rfl rfl () trivial (congrArg Value.bool (by grind [checkP, lastC_get, holdsG_step, holdsG_end, List.drop_eq_getElem_cons, List.drop_eq_nil_of_le, List.take_succ_eq_append_getElem, List.take_of_length_le])) (J := _) (.refl _) (.inl rfl)))))
theorem t_spec_CheckProof {a_s : Option Addr} {m_s c_s : Nat} {s : List Int} {a_l : Option Addr} {m_l c_l : Nat} {l : List (Int × List Int × Int × Int × Int)} {a_rules : Option Addr} {m_rules c_rules : Nat} {rules : List (Int × Int × List Int)} {a_facts : Option Addr} {m_facts c_facts : Nat} {facts : List (Int × List Int)} {a_seeds : Option Addr} {m_seeds c_seeds : Nat} {seeds : List Int} {f_Rel : Int} {a_f_Values : Option Addr} {m_f_Values c_f_Values : Nat} {f_Values : List Int} {a_p_Lines : Option Addr} {m_p_Lines c_p_Lines : Nat} {p_Lines : List (Int × (Int × List Int) × Int × List Int)} (hz1 : seeds.length ≤ 1048576) (hz2 : totL (fun x => x.2.1.2.length + x.2.2.2.length) p_Lines ≤ 1048576) : Tr Tryz.prog 15 [.slice a_s m_s c_s, .slice a_l m_l c_l, .slice a_rules m_rules c_rules, .slice a_facts m_facts c_facts, .slice a_seeds m_seeds c_seeds, .agg #[.int .i64 f_Rel, .slice a_f_Values m_f_Values c_f_Values], .agg #[.slice a_p_Lines m_p_Lines c_p_Lines]] (fun w L => Ro w L eIs [.slice a_s m_s c_s] s ∧ Ro w L eMethods [.slice a_l m_l c_l] l ∧ Ro w L eRules [.slice a_rules m_rules c_rules] rules ∧ Ro w L eFacts [.slice a_facts m_facts c_facts] facts ∧ Ro w L eIs [.slice a_seeds m_seeds c_seeds] seeds ∧ I64 f_Rel ∧ Ro w L eIs [.slice a_f_Values m_f_Values c_f_Values] f_Values ∧ Ro w L eLines [.slice a_p_Lines m_p_Lines c_p_Lines] p_Lines) [] (κ := Unit) (fun k => True) (fun k => .bool (checkP s l rules facts seeds (f_Rel, f_Values) p_Lines)) (fun k => []) := by
  refine Tr.intro Tryz.func15 rfl (n := 170) rfl (by decide +kernel) (Nat.le_of_ble_eq_true rfl) (fr := [(0, .slice a_s m_s c_s), (1, .slice a_l m_l c_l), (2, .slice a_rules m_rules c_rules), (3, .slice a_facts m_facts c_facts), (4, .slice a_seeds m_seeds c_seeds), (5, .agg #[.int .i64 f_Rel, .slice a_f_Values m_f_Values c_f_Values]), (6, .agg #[.slice a_p_Lines m_p_Lines c_p_Lines])]) rfl fun w L hR => ?_
  obtain ⟨hs, hl, hrules, hfacts, hseeds, i6f_Rel, hf_Values, hp_Lines⟩ := hR
  obtain ⟨rfl, ls⟩ := hs.slen
  obtain ⟨rfl, ll⟩ := hl.slen
  obtain ⟨rfl, lrules⟩ := hrules.slen
  obtain ⟨rfl, lfacts⟩ := hfacts.slen
  obtain ⟨rfl, lseeds⟩ := hseeds.slen
  obtain ⟨rfl, lf_Values⟩ := hf_Values.slen
  obtain ⟨rfl, lp_Lines⟩ := hp_Lines.slen
  refine E.seq (E.region (l := [0, 1, 2]) rfl (E.st rfl rfl (N.box (cs := [_, _]) rfl (by decide) rfl) (fun b12 _ => ?_)))
  refine E.st rfl rfl (N.box (cs := [_]) rfl (by decide) rfl) (fun b13 _ => ?_)
  refine E.y rfl rfl (by decide) ((Y.as rfl).yd) ?_
  refine E.nil (E.thn (E.seq (E.seq (E.region (l := [0, 1, 2, 3, 4, 5, 6, 7, 8, 9, 10, 11, 12, 13, 14, 15, 16]) rfl (E.y rfl rfl (by decide) ((Y.mv rfl).yd) ?_)))))
  refine E.y rfl rfl (by decide) ((Y.mv rfl).yd) ?_
  refine E.y rfl rfl (by decide) ((Y.mv rfl).yd) ?_
  refine E.st rfl rfl (N.call0 t_spec_l14Fine rfl rfl rfl (by decide) (fun w Lp hA => ⟨hA.ro hs, hA.ro hl, hA.ro hrules⟩)) (fun _ _ => (Ent.b (fun q23 => ?_) (fun q23 => ?_)))
  · refine E.y rfl rfl (by decide) ((Y.not (b := true) rfl).yd) ?_
    refine E.y rfl rfl (by decide) ((Y.mv rfl).yd) ?_
    refine E.y rfl rfl (by decide) ((Y.mv rfl).yd) ?_
    refine E.y rfl rfl (by decide) ((Y.mv rfl).yd) ?_
    refine E.st rfl rfl (N.call0 t_spec_AreFacts rfl rfl rfl (by decide) (fun w Lp hA => ⟨hA.ro hs, hA.ro hfacts⟩)) (fun _ _ => (Ent.b (fun q28 => ?_) (fun q28 => ?_)))
    · refine E.y rfl rfl (by decide) ((Y.not (b := true) rfl).yd) ?_
      refine E.y rfl rfl (by decide) ((Y.pkf rfl rfl).yd) ?_
      refine E.y rfl rfl (by decide) ((Y.mv rfl).yd) ?_
      refine E.y rfl rfl (by decide) ((Y.fld fo_Proof_0 ty_Lines (by decide) rfl).yd) ?_
      refine E.y rfl rfl (by decide) (Y.ld1 ty_Lines rfl ((Has.pt m0).sub (cs' := [_]) 0 rfl) rfl) ?_
      refine E.y rfl rfl (by decide) ((Y.len us_Lines rfl).yd) ?_
      refine E.y rfl rfl (by decide) ((Y.eql rfl rfl).yd) (Ent.d (fun q35 => ?_) (fun q35 => ?_))
      · refine E.y rfl rfl (by decide) ((Y.pkf rfl rfl).yd) ?_
        refine E.nil (E.thn (E.ct rfl (E.seq (E.region (l := [0]) rfl (E.y rfl rfl (by decide) ((Y.as rfl).yd) ?_)))))
        exact E.nil (E.thn (E.ret (E.thr (F.r1 (Back.refl _ _) rfl rfl () trivial (congrArg Value.bool (by grind [specG_step, specG_end, specL, accL, rulL, atM_get, atR_get, spec_check, lastC_get, hasI, fctsL_step, valsL_step, mid_one, ruleK_one, List.drop_eq_getElem_cons, List.drop_eq_nil_of_le, List.take_succ_eq_append_getElem, List.take_of_length_le])) (J := _) (.refl _) (.inl rfl)))))
      · refine E.y rfl rfl (by decide) ((Y.pkf rfl rfl).yd) ?_
        refine E.nil (E.thn (E.cf rfl (E.skipc (E.thn (E.seq (E.region (l := [0, 1, 2, 3]) rfl (E.y rfl rfl (by decide) ((Y.mv rfl).yd) ?_)))))))
        refine E.st rfl rfl (N.call (t_spec_StartReach ((by first | omega | assumption))) rfl rfl rfl (by decide) rfl (fun w Lp hA => hA.ro hseeds)) (fun k38 _ => ?_)
        obtain ⟨⟨a38_0, m38_0, c38_0⟩, ⟨a38_1, m38_1, c38_1⟩, ⟨a38_2, m38_2, c38_2⟩⟩ := k38
        refine Ent.lenow m0 fun e38_0 l38_0 => ?_
        subst e38_0
        refine Ent.lenow (mS m0) fun e38_1 l38_1 => ?_
        subst e38_1
        refine Ent.lenow (mS (mS m0)) fun e38_2 l38_2 => ?_
        subst e38_2
        refine E.st rfl rfl (N.alloc ty_Reached (by decide)) (fun b15 _ => ?_)
        refine E.st rfl rfl (N.sto (vs := [_, _, _, _]) (cs' := [_, _, _, _]) ty_Reached rfl rfl rfl rfl rfl (Nat.le_of_ble_eq_true rfl) rfl) (fun _ _ => ?_)
        refine E.nil (E.thn (E.seq (E.seq (E.region (l := [0]) rfl (E.y rfl rfl (by decide) ((Y.as rfl).yd) ?_)))))
        refine E.nil (E.thn (E.block (Ent.p1 ?_)))
        refine Ent.cv (congrArg (ow eFacts [_]) (show ([] : List (Int × List Int)) = fctsL p_Lines 0 from by first | rfl | (simp; done) | grind [specG_step, specG_end, specL, accL, rulL, atM_get, atR_get, spec_check, lastC_get, hasI, fctsL_step, valsL_step, mid_one, ruleK_one, List.drop_eq_getElem_cons, List.drop_eq_nil_of_le, List.take_succ_eq_append_getElem, List.take_of_length_le])) ?_
        refine Ent.p2 ?_
        refine Ent.cv (congrArg (ow eIs [_]) (show setI (seeds.filter (fun t => inR t 0 9)) = valsL seeds p_Lines 0 from by first | rfl | (simp; done) | grind [specG_step, specG_end, specL, accL, rulL, atM_get, atR_get, spec_check, lastC_get, hasI, fctsL_step, valsL_step, mid_one, ruleK_one, List.drop_eq_getElem_cons, List.drop_eq_nil_of_le, List.take_succ_eq_append_getElem, List.take_of_length_le])) ?_
        refine E.loop (κ := Nat × Option Addr × Nat × Nat × Option Addr × Nat × Nat) (fun g => g.1 ≤ p_Lines.length ∧ (specG s l rules facts seeds p_Lines 0 = specG s l rules facts seeds p_Lines g.1 ∧ ∀ y ∈ p_Lines.take g.1, okFact s y.2.2 = true)) (fun g => [(0, .slice a_s s.length c_s), (1, .slice a_l l.length c_l), (2, .slice a_rules rules.length c_rules), (3, .slice a_facts facts.length c_facts), (12, .pointer (some ⟨b12, 0, none⟩)), (13, .pointer (some ⟨b13, 0, none⟩)), (15, .pointer (some ⟨b15, 0, none⟩)), (16, .int .i64 (↑g.1 : Int))]) (fun g => [ow eIs [.slice g.2.2.2.2.1 g.2.2.2.2.2.1 g.2.2.2.2.2.2] (valsL seeds p_Lines g.1), ow eFacts [.slice g.2.1 g.2.2.1 g.2.2.2.1] (fctsL p_Lines g.1), pt b15 63 [.slice g.2.1 g.2.2.1 g.2.2.2.1, .slice g.2.2.2.2.1 g.2.2.2.2.2.1 g.2.2.2.2.2.2, .slice a38_2 (([] : List (Int × List Int))).length c38_2, .int .i64 0], ow eAccesss [.slice a38_2 (([] : List (Int × List Int))).length c38_2] ([] : List (Int × List Int)), pt b13 48 [.slice a_p_Lines p_Lines.length c_p_Lines], pt b12 44 [.int .i64 f_Rel, .slice a_f_Values f_Values.length c_f_Values]]) (fun g => p_Lines.length - g.1) (0, a38_0, (([] : List (Int × List Int))).length, c38_0, a38_1, (setI (seeds.filter (fun t => inR t 0 9))).length, c38_1) ⟨Nat.zero_le _, by simp⟩ ⟨rfl, rfl, rfl, rfl, rfl, rfl, rfl, rfl, trivial⟩ (.refl _) (fun g pg => ?_)
        obtain ⟨g, aA0_0, mA0_0, cA0_0, aA0_1, mA0_1, cA0_1⟩ := g
        try dsimp only at pg
        show Ent _ _ _ [(0, .slice a_s s.length c_s), (1, .slice a_l l.length c_l), (2, .slice a_rules rules.length c_rules), (3, .slice a_facts facts.length c_facts), (12, .pointer (some ⟨b12, 0, none⟩)), (13, .pointer (some ⟨b13, 0, none⟩)), (15, .pointer (some ⟨b15, 0, none⟩)), (16, .int .i64 (↑g : Int))] [ow eIs [.slice aA0_1 mA0_1 cA0_1] (valsL seeds p_Lines g), ow eFacts [.slice aA0_0 mA0_0 cA0_0] (fctsL p_Lines g), pt b15 63 [.slice aA0_0 mA0_0 cA0_0, .slice aA0_1 mA0_1 cA0_1, .slice a38_2 (([] : List (Int × List Int))).length c38_2, .int .i64 0], ow eAccesss [.slice a38_2 (([] : List (Int × List Int))).length c38_2] ([] : List (Int × List Int)), pt b13 48 [.slice a_p_Lines p_Lines.length c_p_Lines], pt b12 44 [.int .i64 f_Rel, .slice a_f_Values f_Values.length c_f_Values]] _
        obtain ⟨pk, pa⟩ := pg
        have pg0 := pa
        refine Ent.lenow (mS m0) fun eaA0_0 laA0_0 => ?_
        subst eaA0_0
        refine Ent.lenow m0 fun eaA0_1 laA0_1 => ?_
        subst eaA0_1
        refine E.seq (E.seq (E.region (l := [0, 1, 2, 3, 4]) rfl (E.y rfl rfl (by decide) ((Y.mv rfl).yd) ?_)))
        refine E.y rfl rfl (by decide) ((Y.fld fo_Proof_0 ty_Lines (by decide) rfl).yd) ?_
        refine E.y rfl rfl (by decide) (Y.ld1 ty_Lines rfl ((Has.pt (mS (mS (mS (mS m0))))).sub (cs' := [_]) 0 rfl) rfl) ?_
        refine E.y rfl rfl (by decide) ((Y.len us_Lines rfl).yd) ?_
        refine E.y rfl rfl (by decide) ((Y.lss rfl rfl).yd) (Ent.d (fun q43 => ?_) (fun q43 => ?_))
        · refine E.nil (E.thn (E.ct rfl (E.skipc (E.thn (E.seq (E.block (E.seq (E.region (l := [0, 1, 2, 3, 4, 5, 6]) rfl (E.y rfl rfl (by decide) ((Y.fld fo_Proof_0 ty_Lines (by decide) rfl).yd) ?_)))))))))
          refine E.y rfl rfl (by decide) (Y.ld1 ty_Lines rfl ((Has.pt (mS (mS (mS (mS m0))))).sub (cs' := [_]) 0 rfl) rfl) ?_
          refine E.y rfl rfl (by decide) ((Y.mv rfl).yd) ?_
          obtain ⟨eb49, eo49, ec49, ea49, er49, el49, eh49⟩ := hp_Lines.elem g (by omega)
          obtain ⟨xa49_0, xc49_0, xa49_1, xc49_1, rfl, ei49_0, ei49_1, xh49_0, ei49_3, xh49_1⟩ := Ro.pLine er49
          have := xh49_0.slen.2
          have := xh49_1.slen.2
          refine E.y rfl rfl (by decide) ((Y.ix us_Lines ty_Line rfl ea49 rfl g rfl (by omega)).yd) ?_
          refine E.y rfl rfl (by decide) (Y.ldS (cs := [_, _, _, _, _]) ty_Line rfl (eh49 _) rfl) ?_
          refine E.st rfl rfl (N.alloc ty_Line (by decide)) (fun b17 _ => ?_)
          refine E.st rfl rfl (N.sto (vs := [_, _, _, _, _]) (cs' := [_, _, _, _, _]) ty_Line rfl rfl rfl rfl rfl (Nat.le_of_ble_eq_true rfl) rfl) (fun _ _ => ?_)
          refine E.nil (E.thn (E.seq (E.seq (E.region (l := [0, 1, 2]) rfl (E.y rfl rfl (by decide) ((Y.fld fo_Line_0 ty_I (by decide) rfl).yd) ?_)))))
          refine E.y rfl rfl (by decide) (Y.ld1 ty_I rfl ((Has.pt m0).sub (cs' := [_]) 0 rfl) rfl) ?_
          refine E.y rfl rfl (by decide) ((Y.eql rfl rfl).yd) (Ent.d (fun q53 => ?_) (fun q53 => ?_))
          · refine E.nil (E.thn (E.ct rfl (E.seq (E.seq (D.region (fun j => true) mixed (D.yp 0 rfl rfl (by decide) (Y.mv rfl) (by kernel_rfl) ?_))))))
            refine D.yp 1 rfl rfl (by decide) (Y.mv rfl) (by kernel_rfl) ?_
            refine D.yp 2 rfl rfl (by decide) (Y.fld fo_Line_1 ty_Access (by decide) rfl) (by kernel_rfl) ?_
            refine D.y 3 rfl rfl (by decide) (Y.ldS (cs := [_, _]) ty_Access rfl ((Has.pt m0).sub (cs' := [_, _]) 1 rfl) rfl) (by kernel_rfl) ?_
            refine D.st 4 rfl rfl (by kernel_rfl) (fun _ => rfl) (N.call0 t_spec_IsAccess rfl rfl rfl (by decide) (fun w Lp hA => ⟨hA.ro hs, hA.ro hl, ei49_1, hA.ro xh49_0⟩)) (fun _ _ => (Ent.b (fun q58 => ?_) (fun q58 => ?_)))
            · have zx : okAcc s l p_Lines[g].2.1 = true := q58
              have zz := (okAcc_all zx).2.1
              refine D.yp 5 rfl rfl (by decide) (Y.not (b := true) rfl) (by kernel_rfl) ?_
              refine D.yp 6 rfl rfl (by decide) (Y.mv rfl) (by kernel_rfl) ?_
              refine D.yp 7 rfl rfl (by decide) (Y.mv rfl) (by kernel_rfl) ?_
              refine D.yp 8 rfl rfl (by decide) (Y.fld fo_Line_1 ty_Access (by decide) rfl) (by kernel_rfl) ?_
              refine D.yp 9 rfl rfl (by decide) (Y.fld fo_Access_0 ty_I (by decide) rfl) (by kernel_rfl) ?_
              refine D.y 10 rfl rfl (by decide) (Y.ld1 ty_I rfl (((Has.pt m0).sub (cs' := [_, _]) 1 rfl).sub (cs' := [_]) 0 rfl) rfl) (by kernel_rfl) ?_
              obtain ⟨eb65, eo65, ec65, ea65, er65, el65, eh65⟩ := hl.elem p_Lines[g].2.1.1.toNat (by omega)
              obtain ⟨xa65_0, xc65_0, rfl, ei65_0, xh65_0, ei65_2, ei65_3, ei65_4⟩ := Ro.pMethod er65
              have := xh65_0.slen.2
              refine D.yp 11 rfl rfl (by decide) (Y.ix us_Methods ty_Method rfl ea65 rfl p_Lines[g].2.1.1.toNat (by omega) (by omega)) (by kernel_rfl) ?_
              refine D.yp 12 rfl rfl (by decide) (Y.fld fo_Method_2 ty_I (by decide) rfl) (by kernel_rfl) ?_
              refine D.y 13 rfl rfl (by decide) (Y.ld1 ty_I rfl ((eh65 _).sub (cs' := [_]) 2 rfl) rfl) (by kernel_rfl) ?_
              refine D.yp 14 rfl rfl (by decide) (Y.neq rfl rfl) (by kernel_rfl) (Ent.d (fun q68 => ?_) (fun q68 => ?_))
              · refine D.yp 15 rfl rfl (by decide) (Y.pkf rfl rfl) (by kernel_rfl) ?_
                refine D.yp 16 rfl rfl (by decide) (Y.mv rfl) (by kernel_rfl) ?_
                refine D.skip 17 rfl rfl (by kernel_rfl) rfl ?_
                refine D.skip 18 rfl rfl (by kernel_rfl) rfl ?_
                refine D.skip 19 rfl rfl (by kernel_rfl) rfl ?_
                refine D.skip 20 rfl rfl (by kernel_rfl) rfl ?_
                refine D.skip 21 rfl rfl (by kernel_rfl) rfl ?_
                refine D.skip 22 rfl rfl (by kernel_rfl) rfl ?_
                refine D.skip 23 rfl rfl (by kernel_rfl) rfl ?_
                refine D.skip 24 rfl rfl (by kernel_rfl) rfl ?_
                refine D.skip 25 rfl rfl (by kernel_rfl) rfl ?_
                refine D.skip 26 rfl rfl (by kernel_rfl) rfl ?_
                refine D.skip 27 rfl rfl (by kernel_rfl) rfl ?_
                refine D.skip 28 rfl rfl (by kernel_rfl) rfl ?_
                refine D.skip 29 rfl rfl (by kernel_rfl) rfl ?_
                refine D.skip 30 rfl rfl (by kernel_rfl) rfl ?_
                refine D.skip 31 rfl rfl (by kernel_rfl) rfl ?_
                refine D.yp 32 rfl rfl (by decide) (Y.pkt rfl rfl) (by kernel_rfl) ?_
                refine D.done (by kernel_rfl) (E.thn (E.ct rfl (E.seq (E.region (l := [0]) rfl (E.y rfl rfl (by decide) ((Y.as rfl).yd) ?_)))))
                exact E.nil (E.thn (E.ret (E.thr (E.thr (E.blr (E.thr (E.thr (E.blr (E.thr (F.r1 (Back.refl _ _) rfl rfl () trivial (congrArg Value.bool (by grind [specG_step, specG_end, specL, accL, rulL, atM_get, atR_get, spec_check, lastC_get, hasI, fctsL_step, valsL_step, mid_one, ruleK_one, List.drop_eq_getElem_cons, List.drop_eq_nil_of_le, List.take_succ_eq_append_getElem, List.take_of_length_le])) (J := _) (.refl _) (.inl rfl)))))))))))
              · refine D.yp 15 rfl rfl (by decide) (Y.pkf rfl rfl) (by kernel_rfl) ?_
                refine D.yp 16 rfl rfl (by decide) (Y.mv rfl) (by kernel_rfl) ?_
                refine D.yp 17 rfl rfl (by decide) (Y.mv rfl) (by kernel_rfl) ?_
                refine D.yp 18 rfl rfl (by decide) (Y.fld fo_Line_1 ty_Access (by decide) rfl) (by kernel_rfl) ?_
                refine D.yp 19 rfl rfl (by decide) (Y.fld fo_Access_0 ty_I (by decide) rfl) (by kernel_rfl) ?_
                refine D.y 20 rfl rfl (by decide) (Y.ld1 ty_I rfl (((Has.pt m0).sub (cs' := [_, _]) 1 rfl).sub (cs' := [_]) 0 rfl) rfl) (by kernel_rfl) ?_
                refine D.yp 21 rfl rfl (by decide) (Y.ix us_Methods ty_Method rfl ea65 rfl p_Lines[g].2.1.1.toNat (by omega) (by omega)) (by kernel_rfl) ?_
                refine D.y 22 rfl rfl (by decide) (Y.ldS (cs := [_, _, _, _, _]) ty_Method rfl (eh65 _) rfl) (by kernel_rfl) ?_
                refine D.yp 23 rfl rfl (by decide) (Y.fld fo_Line_1 ty_Access (by decide) rfl) (by kernel_rfl) ?_
                refine D.yp 24 rfl rfl (by decide) (Y.fld fo_Access_1 ty_Is (by decide) rfl) (by kernel_rfl) ?_
                refine D.y 25 rfl rfl (by decide) (Y.ld1 ty_Is rfl (((Has.pt m0).sub (cs' := [_, _]) 1 rfl).sub (cs' := [_]) 1 rfl) rfl) (by kernel_rfl) ?_
                refine D.yp 26 rfl rfl (by decide) (Y.mv rfl) (by kernel_rfl) ?_
                refine D.yp 28 rfl rfl (by decide) (Y.fld fo_Line_2 ty_Fact (by decide) rfl) (by kernel_rfl) ?_
                refine D.y 29 rfl rfl (by decide) (Y.ldS (cs := [_, _]) ty_Fact rfl ((Has.pt m0).sub (cs' := [_, _]) 3 rfl) rfl) (by kernel_rfl) ?_
                refine D.st 27 rfl rfl (by kernel_rfl) (fun _ => rfl) (N.call (t_spec_l5Matches ((by have zc := (okAcc_all zx).2.2.1; rw [atM_get (okAcc_all zx).2.1.2] at zc; exact Nat.le_of_eq zc.symm)) ((by have zc := acc_in zx q28; rw [atM_get (okAcc_all zx).2.1.2] at zc; exact zc)) ((Nat.le_trans (okFacts_all q28).1 (by decide))) ((fun f hf => Nat.le_trans (okFact_len ((okFacts_all q28).2 f hf)) (by decide)))) rfl rfl rfl (by decide) rfl (fun w Lp hA => ⟨ei65_0, hA.ro xh65_0, ei65_2, ei65_3, ei65_4, hA.ro xh49_0, hA.ro hfacts⟩)) (fun k81 _ => ?_)
                obtain ⟨a81, m81, c81⟩ := k81
                refine Ent.lenow m0 fun e81 l81 => ?_
                subst e81
                refine D.st 30 rfl rfl (by kernel_rfl) (fun _ => rfl) (N.call0 t_spec_HasFact rfl rfl rfl (by decide) (fun w Lp hA => ⟨hA.ow m0, ei49_3, hA.ro xh49_1⟩)) (fun _ _ => (Ent.b (fun q84 => ?_) (fun q84 => ?_)))
                · refine D.yp 31 rfl rfl (by decide) (Y.not (b := true) rfl) (by kernel_rfl) ?_
                  refine D.yp 32 rfl rfl (by decide) (Y.pkf rfl rfl) (by kernel_rfl) ?_
                  refine D.done (by kernel_rfl) (E.thn (E.cf rfl (E.skipc (E.thn (E.seq (E.region (l := [0]) rfl (E.y rfl rfl (by decide) ((Y.as rfl).yd) ?_)))))))
                  refine E.nil (E.thn (E.block (E.loop (κ := Nat) (fun k => k ≤ p_Lines[g].2.1.2.length ∧ (p_Lines[g].2.1.2.any fun v => !hasI (valsL seeds p_Lines g) v) = ((p_Lines[g].2.1.2.drop k).any fun v => !hasI (valsL seeds p_Lines g) v)) (fun k => [(0, .slice a_s s.length c_s), (1, .slice a_l l.length c_l), (2, .slice a_rules rules.length c_rules), (3, .slice a_facts facts.length c_facts), (12, .pointer (some ⟨b12, 0, none⟩)), (13, .pointer (some ⟨b13, 0, none⟩)), (15, .pointer (some ⟨b15, 0, none⟩)), (16, .int .i64 (↑g : Int)), (17, .pointer (some ⟨b17, 0, none⟩)), (18, .int .i64 (↑k : Int))]) (fun k => [ow eFacts [.slice a81 (facts.filter (fitsF ((l[p_Lines[g].2.1.1.toNat].1), (l[p_Lines[g].2.1.1.toNat].2.1), (l[p_Lines[g].2.1.1.toNat].2.2.1), (l[p_Lines[g].2.1.1.toNat].2.2.2.1), (l[p_Lines[g].2.1.1.toNat].2.2.2.2)) p_Lines[g].2.1.2)).length c81] (facts.filter (fitsF ((l[p_Lines[g].2.1.1.toNat].1), (l[p_Lines[g].2.1.1.toNat].2.1), (l[p_Lines[g].2.1.1.toNat].2.2.1), (l[p_Lines[g].2.1.1.toNat].2.2.2.1), (l[p_Lines[g].2.1.1.toNat].2.2.2.2)) p_Lines[g].2.1.2)), pt b17 113 [.int .i64 p_Lines[g].1, .int .i64 p_Lines[g].2.1.1, .slice xa49_0 p_Lines[g].2.1.2.length xc49_0, .int .i64 p_Lines[g].2.2.1, .slice xa49_1 p_Lines[g].2.2.2.length xc49_1], ow eIs [.slice aA0_1 (valsL seeds p_Lines g).length cA0_1] (valsL seeds p_Lines g), ow eFacts [.slice aA0_0 (fctsL p_Lines g).length cA0_0] (fctsL p_Lines g), pt b15 63 [.slice aA0_0 (fctsL p_Lines g).length cA0_0, .slice aA0_1 (valsL seeds p_Lines g).length cA0_1, .slice a38_2 (([] : List (Int × List Int))).length c38_2, .int .i64 0], ow eAccesss [.slice a38_2 (([] : List (Int × List Int))).length c38_2] ([] : List (Int × List Int)), pt b13 48 [.slice a_p_Lines p_Lines.length c_p_Lines], pt b12 44 [.int .i64 f_Rel, .slice a_f_Values f_Values.length c_f_Values]]) (fun k => p_Lines[g].2.1.2.length - k) 0 ⟨Nat.zero_le _, by simp⟩ ⟨rfl, rfl, rfl, rfl, rfl, rfl, rfl, rfl, rfl, rfl, trivial⟩ (.refl _) (fun k pk => ?_))))
                  obtain ⟨pk, pa⟩ := pk
                  refine E.seq (E.seq (E.region (l := [0, 1, 2, 3, 4, 5]) rfl (E.y rfl rfl (by decide) ((Y.mv rfl).yd) ?_)))
                  refine E.y rfl rfl (by decide) ((Y.fld fo_Line_1 ty_Access (by decide) rfl).yd) ?_
                  refine E.y rfl rfl (by decide) ((Y.fld fo_Access_1 ty_Is (by decide) rfl).yd) ?_
                  refine E.y rfl rfl (by decide) (Y.ld1 ty_Is rfl (((Has.pt (mS m0)).sub (cs' := [_, _]) 1 rfl).sub (cs' := [_]) 1 rfl) rfl) ?_
                  refine E.y rfl rfl (by decide) ((Y.len us_Is rfl).yd) ?_
                  refine E.y rfl rfl (by decide) ((Y.lss rfl rfl).yd) (Ent.d (fun q92 => ?_) (fun q92 => ?_))
                  · refine E.nil (E.thn (E.ct rfl (E.skipc (E.thn (E.seq (E.block (E.seq (D.region (fun j => true) mixed (D.yp 0 rfl rfl (by decide) (Y.fld fo_Reached_1 ty_Is (by decide) rfl) (by kernel_rfl) ?_)))))))))
                    refine D.y 1 rfl rfl (by decide) (Y.ld1 ty_Is rfl ((Has.pt (mS (mS (mS (mS m0))))).sub (cs' := [_]) 1 rfl) rfl) (by kernel_rfl) ?_
                    refine D.yp 2 rfl rfl (by decide) (Y.fld fo_Line_1 ty_Access (by decide) rfl) (by kernel_rfl) ?_
                    refine D.yp 3 rfl rfl (by decide) (Y.fld fo_Access_1 ty_Is (by decide) rfl) (by kernel_rfl) ?_
                    refine D.y 4 rfl rfl (by decide) (Y.ld1 ty_Is rfl (((Has.pt (mS m0)).sub (cs' := [_, _]) 1 rfl).sub (cs' := [_]) 1 rfl) rfl) (by kernel_rfl) ?_
                    refine D.yp 5 rfl rfl (by decide) (Y.mv rfl) (by kernel_rfl) ?_
                    obtain ⟨eb101, eo101, ea101, ei101, eh101⟩ := xh49_0.elemI k (by omega)
                    refine D.yp 6 rfl rfl (by decide) (Y.ix us_Is ty_I rfl ea101 rfl k rfl (by omega)) (by kernel_rfl) ?_
                    refine D.y 7 rfl rfl (by decide) (Y.ld1 ty_I rfl (eh101 _) rfl) (by kernel_rfl) ?_
                    refine D.st 8 rfl rfl (by kernel_rfl) (fun _ => rfl) (N.call0 t_spec_l2Has rfl rfl rfl (by decide) (fun w Lp hA => hA.ow (mS (mS m0)))) (fun _ _ => (Ent.b (fun q103 => ?_) (fun q103 => ?_)))
                    · refine D.yp 9 rfl rfl (by decide) (Y.not (b := true) rfl) (by kernel_rfl) ?_
                      refine D.done (by kernel_rfl) (E.thn (E.cf rfl (E.skipc (E.bln (E.thn (E.region (l := [0, 1, 2]) rfl (E.y rfl rfl (by decide) ((Y.mv rfl).yd) ?_)))))))
                      refine E.y rfl rfl (by decide) ((Y.add rfl rfl (by omega) (by omega)).yd) ?_
                      refine E.y rfl rfl (by decide) ((Y.as rfl).yd) ?_
                      refine E.nil (E.thn (Ent.p7 ?_))
                      refine Ent.p7 ?_
                      refine Ent.p7 ?_
                      refine Ent.p7 ?_
                      refine Ent.p7 ?_
                      refine Ent.p7 ?_
                      refine Ent.p7 ?_
                      refine Ent.p7 ?_
                      exact E.again (Back.refl _ _) (k + 1) ⟨rfl, rfl, rfl, rfl, rfl, rfl, rfl, rfl, rfl, rfl, trivial⟩ (.refl _) ⟨by omega, by grind [List.drop_eq_getElem_cons, List.drop_eq_nil_of_le, List.take_succ_eq_append_getElem, List.take_of_length_le]⟩ (by omega)
                    · refine D.yp 9 rfl rfl (by decide) (Y.not (b := false) rfl) (by kernel_rfl) ?_
                      refine D.done (by kernel_rfl) (E.thn (E.ct rfl (E.seq (E.region (l := [0]) rfl (E.y rfl rfl (by decide) ((Y.as rfl).yd) ?_)))))
                      exact E.nil (E.thn (E.ret (E.blr (E.thr (E.thr (E.blr (E.thr (E.blr (E.thr (E.thr (E.blr (E.thr (F.r1 (Back.refl _ _) rfl rfl () trivial (congrArg Value.bool (by grind [specG_step, specG_end, specL, accL, rulL, atM_get, atR_get, spec_check, lastC_get, hasI, fctsL_step, valsL_step, mid_one, ruleK_one, List.drop_eq_getElem_cons, List.drop_eq_nil_of_le, List.take_succ_eq_append_getElem, List.take_of_length_le])) (J := _) (.refl _) (.inl rfl))))))))))))))
                  · refine E.nil (E.thn (E.cf rfl (E.exit (E.the (E.the (E.blh (E.thn (E.seq (E.region (l := [0, 1, 2, 3, 4, 5, 6]) rfl (E.y rfl rfl (by decide) ((Y.fld fo_Reached_0 ty_Facts (by decide) rfl).yd) ?_))))))))))
                    refine E.y rfl rfl (by decide) (Y.ld1 ty_Facts rfl ((Has.pt (mS (mS (mS (mS m0))))).sub (cs' := [_]) 0 rfl) rfl) ?_
                    refine E.y rfl rfl (by decide) ((Y.fld fo_Line_2 ty_Fact (by decide) rfl).yd) ?_
                    refine E.y rfl rfl (by decide) (Y.ldS (cs := [_, _]) ty_Fact rfl ((Has.pt (mS m0)).sub (cs' := [_, _]) 3 rfl) rfl) ?_
                    refine E.st rfl rfl (N.call (t_spec_AddFact ((Nat.le_trans (fctsL_len hz2) (by decide))) ((fctsL_el hz2)) ((line_len hz2 _ (List.getElem_mem (by omega))).1)) rfl rfl rfl (by decide) rfl (fun w Lp hA => ⟨hA.ow (mS (mS (mS m0))), ei49_3, hA.ro xh49_1⟩)) (fun k138 _ => ?_)
                    obtain ⟨a138, m138, c138⟩ := k138
                    refine Ent.lenow m0 fun e138 l138 => ?_
                    subst e138
                    refine E.y rfl rfl (by decide) ((Y.fld fo_Reached_0 ty_Facts (by decide) rfl).yd) ?_
                    refine Ent.p5 ?_
                    refine E.st rfl rfl (N.sto (vs := [_]) (cs' := [_, _, _, _]) ty_Facts rfl rfl rfl rfl rfl (Nat.le_of_ble_eq_true rfl) rfl) (fun _ _ => ?_)
                    refine E.nil (E.thn (E.seq (E.region (l := [0]) rfl (E.y rfl rfl (by decide) ((Y.as rfl).yd) ?_))))
                    refine E.nil (E.thn (E.block (Ent.p4 ?_)))
                    refine Ent.cv (congrArg (ow eIs [_]) (show valsL seeds p_Lines g = (p_Lines[g].2.2.2.take 0).foldl putI (valsL seeds p_Lines g) from by first | rfl | (simp; done) | grind [specG_step, specG_end, specL, accL, rulL, atM_get, atR_get, spec_check, lastC_get, hasI, fctsL_step, valsL_step, mid_one, ruleK_one, List.drop_eq_getElem_cons, List.drop_eq_nil_of_le, List.take_succ_eq_append_getElem, List.take_of_length_le])) ?_
                    refine E.loop (κ := Nat × Option Addr × Nat × Nat) (fun j => j.1 ≤ p_Lines[g].2.2.2.length ∧ True) (fun j => [(0, .slice a_s s.length c_s), (1, .slice a_l l.length c_l), (2, .slice a_rules rules.length c_rules), (3, .slice a_facts facts.length c_facts), (12, .pointer (some ⟨b12, 0, none⟩)), (13, .pointer (some ⟨b13, 0, none⟩)), (15, .pointer (some ⟨b15, 0, none⟩)), (16, .int .i64 (↑g : Int)), (17, .pointer (some ⟨b17, 0, none⟩)), (19, .int .i64 (↑j.1 : Int))]) (fun j => [ow eIs [.slice j.2.1 j.2.2.1 j.2.2.2] ((p_Lines[g].2.2.2.take j.1).foldl putI (valsL seeds p_Lines g)), pt b15 63 [.slice a138 (addF (fctsL p_Lines g) p_Lines[g].2.2).length c138, .slice j.2.1 j.2.2.1 j.2.2.2, .slice a38_2 (([] : List (Int × List Int))).length c38_2, .int .i64 0], ow eFacts [.slice a138 (addF (fctsL p_Lines g) p_Lines[g].2.2).length c138] (addF (fctsL p_Lines g) p_Lines[g].2.2), ow eFacts [.slice a81 (facts.filter (fitsF ((l[p_Lines[g].2.1.1.toNat].1), (l[p_Lines[g].2.1.1.toNat].2.1), (l[p_Lines[g].2.1.1.toNat].2.2.1), (l[p_Lines[g].2.1.1.toNat].2.2.2.1), (l[p_Lines[g].2.1.1.toNat].2.2.2.2)) p_Lines[g].2.1.2)).length c81] (facts.filter (fitsF ((l[p_Lines[g].2.1.1.toNat].1), (l[p_Lines[g].2.1.1.toNat].2.1), (l[p_Lines[g].2.1.1.toNat].2.2.1), (l[p_Lines[g].2.1.1.toNat].2.2.2.1), (l[p_Lines[g].2.1.1.toNat].2.2.2.2)) p_Lines[g].2.1.2)), pt b17 113 [.int .i64 p_Lines[g].1, .int .i64 p_Lines[g].2.1.1, .slice xa49_0 p_Lines[g].2.1.2.length xc49_0, .int .i64 p_Lines[g].2.2.1, .slice xa49_1 p_Lines[g].2.2.2.length xc49_1], ow eFacts [.slice aA0_0 (fctsL p_Lines g).length cA0_0] (fctsL p_Lines g), ow eAccesss [.slice a38_2 (([] : List (Int × List Int))).length c38_2] ([] : List (Int × List Int)), pt b13 48 [.slice a_p_Lines p_Lines.length c_p_Lines], pt b12 44 [.int .i64 f_Rel, .slice a_f_Values f_Values.length c_f_Values]]) (fun j => p_Lines[g].2.2.2.length - j.1) (0, aA0_1, (valsL seeds p_Lines g).length, cA0_1) ⟨Nat.zero_le _, by simp⟩ ⟨rfl, rfl, rfl, rfl, rfl, rfl, rfl, rfl, rfl, rfl, trivial⟩ (.refl _) (fun j pj => ?_)
                    obtain ⟨j, aA2_0, mA2_0, cA2_0⟩ := j
                    try dsimp only at pj
                    show Ent _ _ _ [(0, .slice a_s s.length c_s), (1, .slice a_l l.length c_l), (2, .slice a_rules rules.length c_rules), (3, .slice a_facts facts.length c_facts), (12, .pointer (some ⟨b12, 0, none⟩)), (13, .pointer (some ⟨b13, 0, none⟩)), (15, .pointer (some ⟨b15, 0, none⟩)), (16, .int .i64 (↑g : Int)), (17, .pointer (some ⟨b17, 0, none⟩)), (19, .int .i64 (↑j : Int))] [ow eIs [.slice aA2_0 mA2_0 cA2_0] ((p_Lines[g].2.2.2.take j).foldl putI (valsL seeds p_Lines g)), pt b15 63 [.slice a138 (addF (fctsL p_Lines g) p_Lines[g].2.2).length c138, .slice aA2_0 mA2_0 cA2_0, .slice a38_2 (([] : List (Int × List Int))).length c38_2, .int .i64 0], ow eFacts [.slice a138 (addF (fctsL p_Lines g) p_Lines[g].2.2).length c138] (addF (fctsL p_Lines g) p_Lines[g].2.2), ow eFacts [.slice a81 (facts.filter (fitsF ((l[p_Lines[g].2.1.1.toNat].1), (l[p_Lines[g].2.1.1.toNat].2.1), (l[p_Lines[g].2.1.1.toNat].2.2.1), (l[p_Lines[g].2.1.1.toNat].2.2.2.1), (l[p_Lines[g].2.1.1.toNat].2.2.2.2)) p_Lines[g].2.1.2)).length c81] (facts.filter (fitsF ((l[p_Lines[g].2.1.1.toNat].1), (l[p_Lines[g].2.1.1.toNat].2.1), (l[p_Lines[g].2.1.1.toNat].2.2.1), (l[p_Lines[g].2.1.1.toNat].2.2.2.1), (l[p_Lines[g].2.1.1.toNat].2.2.2.2)) p_Lines[g].2.1.2)), pt b17 113 [.int .i64 p_Lines[g].1, .int .i64 p_Lines[g].2.1.1, .slice xa49_0 p_Lines[g].2.1.2.length xc49_0, .int .i64 p_Lines[g].2.2.1, .slice xa49_1 p_Lines[g].2.2.2.length xc49_1], ow eFacts [.slice aA0_0 (fctsL p_Lines g).length cA0_0] (fctsL p_Lines g), ow eAccesss [.slice a38_2 (([] : List (Int × List Int))).length c38_2] ([] : List (Int × List Int)), pt b13 48 [.slice a_p_Lines p_Lines.length c_p_Lines], pt b12 44 [.int .i64 f_Rel, .slice a_f_Values f_Values.length c_f_Values]] _
                    obtain ⟨pk, pa⟩ := pj
                    refine Ent.lenow m0 fun eaA2_0 laA2_0 => ?_
                    subst eaA2_0
                    refine E.seq (E.seq (E.region (l := [0, 1, 2, 3, 4, 5]) rfl (E.y rfl rfl (by decide) ((Y.mv rfl).yd) ?_)))
                    refine E.y rfl rfl (by decide) ((Y.fld fo_Line_2 ty_Fact (by decide) rfl).yd) ?_
                    refine E.y rfl rfl (by decide) ((Y.fld fo_Fact_1 ty_Is (by decide) rfl).yd) ?_
                    refine E.y rfl rfl (by decide) (Y.ld1 ty_Is rfl (((Has.pt (mS (mS (mS (mS m0))))).sub (cs' := [_, _]) 3 rfl).sub (cs' := [_]) 1 rfl) rfl) ?_
                    refine E.y rfl rfl (by decide) ((Y.len us_Is rfl).yd) ?_
                    refine E.y rfl rfl (by decide) ((Y.lss rfl rfl).yd) (Ent.d (fun q145 => ?_) (fun q145 => ?_))
                    · refine E.nil (E.thn (E.ct rfl (E.skipc (E.thn (E.seq (E.block (D.region (fun j => !(Nat.beq j 8) && !(Nat.beq j 10)) mixed (D.yp 0 rfl rfl (by decide) (Y.fld fo_Reached_1 ty_Is (by decide) rfl) (by kernel_rfl) ?_))))))))
                      refine D.y 1 rfl rfl (by decide) (Y.ld1 ty_Is rfl ((Has.pt (mS m0)).sub (cs' := [_]) 1 rfl) rfl) (by kernel_rfl) ?_
                      refine D.yp 2 rfl rfl (by decide) (Y.fld fo_Line_2 ty_Fact (by decide) rfl) (by kernel_rfl) ?_
                      refine D.yp 3 rfl rfl (by decide) (Y.fld fo_Fact_1 ty_Is (by decide) rfl) (by kernel_rfl) ?_
                      refine D.y 4 rfl rfl (by decide) (Y.ld1 ty_Is rfl (((Has.pt (mS (mS (mS (mS m0))))).sub (cs' := [_, _]) 3 rfl).sub (cs' := [_]) 1 rfl) rfl) (by kernel_rfl) ?_
                      refine D.yp 5 rfl rfl (by decide) (Y.mv rfl) (by kernel_rfl) ?_
                      obtain ⟨eb154, eo154, ea154, ei154, eh154⟩ := xh49_1.elemI j (by omega)
                      refine D.yp 6 rfl rfl (by decide) (Y.ix us_Is ty_I rfl ea154 rfl j rfl (by omega)) (by kernel_rfl) ?_
                      refine D.y 7 rfl rfl (by decide) (Y.ld1 ty_I rfl (eh154 _) rfl) (by kernel_rfl) ?_
                      refine D.st 8 rfl rfl (by kernel_rfl) (fun h => by cases h) (N.call (pre := [_]) (t_spec_l3Put ((Nat.le_trans (valsL_len2 hz1 hz2 (by omega)) (by decide)))) rfl rfl rfl (by decide) rfl (fun w Lp hA => ei154)) (fun k156 _ => ?_)
                      obtain ⟨a156, m156, c156⟩ := k156
                      refine Ent.lenow m0 fun e156 l156 => ?_
                      subst e156
                      refine D.yp 9 rfl rfl (by decide) (Y.fld fo_Reached_1 ty_Is (by decide) rfl) (by kernel_rfl) ?_
                      refine Ent.p1 ?_
                      refine D.st 10 rfl rfl (by kernel_rfl) (fun h => by cases h) (N.sto (vs := [_]) (cs' := [_, _, _, _]) ty_Is rfl rfl rfl rfl rfl (Nat.le_of_ble_eq_true rfl) rfl) (fun _ _ => ?_)
                      refine D.done (by kernel_rfl) (E.bln (E.thn (E.region (l := [0, 1, 2]) rfl (E.y rfl rfl (by decide) ((Y.mv rfl).yd) ?_))))
                      refine E.y rfl rfl (by decide) ((Y.add rfl rfl (by omega) (by omega)).yd) ?_
                      refine E.y rfl rfl (by decide) ((Y.as rfl).yd) ?_
                      refine E.nil (E.thn (Ent.p1 ?_))
                      refine Ent.cv (congrArg (ow eIs [_]) (show putI ((p_Lines[g].2.2.2.take j).foldl putI (valsL seeds p_Lines g)) p_Lines[g].2.2.2[j] = (p_Lines[g].2.2.2.take (j + 1)).foldl putI (valsL seeds p_Lines g) from by grind [specG_step, specG_end, specL, accL, rulL, atM_get, atR_get, spec_check, lastC_get, hasI, fctsL_step, valsL_step, mid_one, ruleK_one, List.drop_eq_getElem_cons, List.drop_eq_nil_of_le, List.take_succ_eq_append_getElem, List.take_of_length_le])) ?_
                      refine Ent.p8 ?_
                      refine Ent.p8 ?_
                      refine Ent.p8 ?_
                      refine Ent.p8 ?_
                      refine Ent.p8 ?_
                      refine Ent.p8 ?_
                      refine Ent.p8 ?_
                      refine Ent.p8 ?_
                      refine Ent.p8 ?_
                      exact E.again (Back.refl _ _) (j + 1, a156, (putI ((p_Lines[g].2.2.2.take j).foldl putI (valsL seeds p_Lines g)) p_Lines[g].2.2.2[j]).length, c156) ⟨rfl, rfl, rfl, rfl, rfl, rfl, rfl, rfl, rfl, rfl, trivial⟩ (.refl _) ⟨(show j + 1 ≤ p_Lines[g].2.2.2.length from by omega), (show True from by grind [List.drop_eq_getElem_cons, List.drop_eq_nil_of_le, List.take_succ_eq_append_getElem, List.take_of_length_le])⟩ (show p_Lines[g].2.2.2.length - (j + 1) < p_Lines[g].2.2.2.length - j from by omega)
                    · refine E.nil (E.thn (E.cf rfl (E.exit (E.the (E.the (E.blh (E.bln (E.thn (E.region (l := [0, 1, 2]) rfl (E.y rfl rfl (by decide) ((Y.mv rfl).yd) ?_))))))))))
                      refine E.y rfl rfl (by decide) ((Y.add rfl rfl (by omega) (by omega)).yd) ?_
                      refine E.y rfl rfl (by decide) ((Y.as rfl).yd) ?_
                      have zs : specL s l rules facts (fctsL p_Lines g) (valsL seeds p_Lines g) p_Lines[g] = true := by grind [specG_step, specG_end, specL, accL, rulL, atM_get, atR_get, spec_check, lastC_get, hasI, fctsL_step, valsL_step, mid_one, ruleK_one, List.drop_eq_getElem_cons, List.drop_eq_nil_of_le, List.take_succ_eq_append_getElem, List.take_of_length_le]
                      refine E.nil (E.thn (Ent.p3 ?_))
                      refine Ent.drop ?_
                      refine Ent.p3 ?_
                      refine Ent.drop ?_
                      refine Ent.p3 ?_
                      refine Ent.drop ?_
                      refine Ent.p2 ?_
                      refine Ent.cv (congrArg (ow eFacts [_]) (show addF (fctsL p_Lines g) p_Lines[g].2.2 = fctsL p_Lines (g + 1) from by grind [specG_step, specG_end, specL, accL, rulL, atM_get, atR_get, spec_check, lastC_get, hasI, fctsL_step, valsL_step, mid_one, ruleK_one, List.drop_eq_getElem_cons, List.drop_eq_nil_of_le, List.take_succ_eq_append_getElem, List.take_of_length_le])) ?_
                      refine Ent.p1 ?_
                      refine Ent.cv (congrArg (ow eIs [_]) (show (p_Lines[g].2.2.2.take j).foldl putI (valsL seeds p_Lines g) = valsL seeds p_Lines (g + 1) from by grind [specG_step, specG_end, specL, accL, rulL, atM_get, atR_get, spec_check, lastC_get, hasI, fctsL_step, valsL_step, mid_one, ruleK_one, List.drop_eq_getElem_cons, List.drop_eq_nil_of_le, List.take_succ_eq_append_getElem, List.take_of_length_le])) ?_
                      refine Ent.p5 ?_
                      refine Ent.p5 ?_
                      refine Ent.p5 ?_
                      refine Ent.p5 ?_
                      refine Ent.p5 ?_
                      refine Ent.p5 ?_
                      exact E.again (Back.refl _ _) (g + 1, a138, (addF (fctsL p_Lines g) p_Lines[g].2.2).length, c138, aA2_0, ((p_Lines[g].2.2.2.take j).foldl putI (valsL seeds p_Lines g)).length, cA2_0) ⟨rfl, rfl, rfl, rfl, rfl, rfl, rfl, rfl, trivial⟩ (.refl _) ⟨(show g + 1 ≤ p_Lines.length from by omega), (show (specG s l rules facts seeds p_Lines 0 = specG s l rules facts seeds p_Lines (g + 1) ∧ ∀ y ∈ p_Lines.take (g + 1), okFact s y.2.2 = true) from by exact ⟨by rw [pg0.1, specG_step (by omega), zs, Bool.true_and], ok_snoc pg0.2 (by omega) (spec_ok q28 zs)⟩)⟩ (show p_Lines.length - (g + 1) < p_Lines.length - g from by omega)
                · refine D.yp 31 rfl rfl (by decide) (Y.not (b := false) rfl) (by kernel_rfl) ?_
                  refine D.yp 32 rfl rfl (by decide) (Y.pkf rfl rfl) (by kernel_rfl) ?_
                  refine D.done (by kernel_rfl) (E.thn (E.ct rfl (E.seq (E.region (l := [0]) rfl (E.y rfl rfl (by decide) ((Y.as rfl).yd) ?_)))))
                  exact E.nil (E.thn (E.ret (E.thr (E.thr (E.blr (E.thr (E.thr (E.blr (E.thr (F.r1 (Back.refl _ _) rfl rfl () trivial (congrArg Value.bool (by grind [specG_step, specG_end, specL, accL, rulL, atM_get, atR_get, spec_check, lastC_get, hasI, fctsL_step, valsL_step, mid_one, ruleK_one, List.drop_eq_getElem_cons, List.drop_eq_nil_of_le, List.take_succ_eq_append_getElem, List.take_of_length_le])) (J := _) (.refl _) (.inl rfl)))))))))))
            · refine D.yp 5 rfl rfl (by decide) (Y.not (b := false) rfl) (by kernel_rfl) ?_
              refine D.yp 6 rfl rfl (by decide) (Y.mv rfl) (by kernel_rfl) ?_
              refine D.skip 7 rfl rfl (by kernel_rfl) rfl ?_
              refine D.skip 8 rfl rfl (by kernel_rfl) rfl ?_
              refine D.skip 9 rfl rfl (by kernel_rfl) rfl ?_
              refine D.skip 10 rfl rfl (by kernel_rfl) rfl ?_
              refine D.skip 11 rfl rfl (by kernel_rfl) rfl ?_
              refine D.skip 12 rfl rfl (by kernel_rfl) rfl ?_
              refine D.skip 13 rfl rfl (by kernel_rfl) rfl ?_
              refine D.skip 14 rfl rfl (by kernel_rfl) rfl ?_
              refine D.yp 15 rfl rfl (by decide) (Y.pkt rfl rfl) (by kernel_rfl) ?_
              refine D.yp 16 rfl rfl (by decide) (Y.mv rfl) (by kernel_rfl) ?_
              refine D.skip 17 rfl rfl (by kernel_rfl) rfl ?_
              refine D.skip 18 rfl rfl (by kernel_rfl) rfl ?_
              refine D.skip 19 rfl rfl (by kernel_rfl) rfl ?_
              refine D.skip 20 rfl rfl (by kernel_rfl) rfl ?_
              refine D.skip 21 rfl rfl (by kernel_rfl) rfl ?_
              refine D.skip 22 rfl rfl (by kernel_rfl) rfl ?_
              refine D.skip 23 rfl rfl (by kernel_rfl) rfl ?_
              refine D.skip 24 rfl rfl (by kernel_rfl) rfl ?_
              refine D.skip 25 rfl rfl (by kernel_rfl) rfl ?_
              refine D.skip 26 rfl rfl (by kernel_rfl) rfl ?_
              refine D.skip 27 rfl rfl (by kernel_rfl) rfl ?_
              refine D.skip 28 rfl rfl (by kernel_rfl) rfl ?_
              refine D.skip 29 rfl rfl (by kernel_rfl) rfl ?_
              refine D.skip 30 rfl rfl (by kernel_rfl) rfl ?_
              refine D.skip 31 rfl rfl (by kernel_rfl) rfl ?_
              refine D.yp 32 rfl rfl (by decide) (Y.pkt rfl rfl) (by kernel_rfl) ?_
              refine D.done (by kernel_rfl) (E.thn (E.ct rfl (E.seq (E.region (l := [0]) rfl (E.y rfl rfl (by decide) ((Y.as rfl).yd) ?_)))))
              exact E.nil (E.thn (E.ret (E.thr (E.thr (E.blr (E.thr (E.thr (E.blr (E.thr (F.r1 (Back.refl _ _) rfl rfl () trivial (congrArg Value.bool (by grind [specG_step, specG_end, specL, accL, rulL, atM_get, atR_get, spec_check, lastC_get, hasI, fctsL_step, valsL_step, mid_one, ruleK_one, List.drop_eq_getElem_cons, List.drop_eq_nil_of_le, List.take_succ_eq_append_getElem, List.take_of_length_le])) (J := _) (.refl _) (.inl rfl)))))))))))
          · refine E.nil (E.thn (E.cf rfl (E.seq (D.region (fun j => true) mixed (D.yp 0 rfl rfl (by decide) (Y.fld fo_Line_0 ty_I (by decide) rfl) (by kernel_rfl) ?_)))))
            refine D.y 1 rfl rfl (by decide) (Y.ld1 ty_I rfl ((Has.pt m0).sub (cs' := [_]) 0 rfl) rfl) (by kernel_rfl) ?_
            refine D.yp 2 rfl rfl (by decide) (Y.mv rfl) (by kernel_rfl) ?_
            refine D.yp 3 rfl rfl (by decide) (Y.len us_Rules rfl) (by kernel_rfl) ?_
            refine D.yp 4 rfl rfl (by decide) (Y.sub rfl rfl (by omega) (by omega)) (by kernel_rfl) ?_
            refine D.st 5 rfl rfl (by kernel_rfl) (fun _ => rfl) (N.call0 t_spec_l1In rfl rfl rfl (by decide) (fun w Lp hA => trivial)) (fun _ _ => (Ent.b (fun q110 => ?_) (fun q110 => ?_)))
            · have zz := inR_le q110
              refine D.yp 6 rfl rfl (by decide) (Y.not (b := true) rfl) (by kernel_rfl) ?_
              refine D.yp 7 rfl rfl (by decide) (Y.mv rfl) (by kernel_rfl) ?_
              refine D.yp 8 rfl rfl (by decide) (Y.mv rfl) (by kernel_rfl) ?_
              refine D.yp 9 rfl rfl (by decide) (Y.fld fo_Line_2 ty_Fact (by decide) rfl) (by kernel_rfl) ?_
              refine D.y 10 rfl rfl (by decide) (Y.ldS (cs := [_, _]) ty_Fact rfl ((Has.pt m0).sub (cs' := [_, _]) 3 rfl) rfl) (by kernel_rfl) ?_
              refine D.st 11 rfl rfl (by kernel_rfl) (fun _ => rfl) (N.call0 t_spec_IsFact rfl rfl rfl (by decide) (fun w Lp hA => ⟨hA.ro hs, ei49_3, hA.ro xh49_1⟩)) (fun _ _ => (Ent.b (fun q116 => ?_) (fun q116 => ?_)))
              · refine D.yp 12 rfl rfl (by decide) (Y.not (b := true) rfl) (by kernel_rfl) ?_
                refine D.yp 13 rfl rfl (by decide) (Y.pkf rfl rfl) (by kernel_rfl) ?_
                refine D.yp 14 rfl rfl (by decide) (Y.mv rfl) (by kernel_rfl) ?_
                refine D.yp 15 rfl rfl (by decide) (Y.mv rfl) (by kernel_rfl) ?_
                refine D.yp 16 rfl rfl (by decide) (Y.fld fo_Line_0 ty_I (by decide) rfl) (by kernel_rfl) ?_
                refine D.y 17 rfl rfl (by decide) (Y.ld1 ty_I rfl ((Has.pt m0).sub (cs' := [_]) 0 rfl) rfl) (by kernel_rfl) ?_
                refine D.yp 18 rfl rfl (by decide) (Y.fld fo_Line_0 ty_I (by decide) rfl) (by kernel_rfl) ?_
                refine D.y 19 rfl rfl (by decide) (Y.ld1 ty_I rfl ((Has.pt m0).sub (cs' := [_]) 0 rfl) rfl) (by kernel_rfl) ?_
                refine D.yp 20 rfl rfl (by decide) (Y.add rfl rfl (by omega) (by omega)) (by kernel_rfl) ?_
                have rc126 := hrules.cap
                have rs126 : Ro _ _ eRules [.slice (if c_rules = (p_Lines[g].1).toNat then a_rules else a_rules.map (·.add ((p_Lines[g].1).toNat * 3))) (((p_Lines[g].1 + 1)).toNat - (p_Lines[g].1).toNat) (c_rules - (p_Lines[g].1).toNat)] ((rules.take (((p_Lines[g].1 + 1)).toNat)).drop ((p_Lines[g].1).toNat)) := (hrules.upto (((p_Lines[g].1 + 1)).toNat) (by omega)).frm ((p_Lines[g].1).toNat) (by omega)
                refine D.yp 21 rfl rfl (by decide) (Y.slMid us_Rules ty_Rule rfl rfl rfl (by omega) (by omega) (by omega)) (by kernel_rfl) ?_
                refine D.yp 22 rfl rfl (by decide) (Y.fld fo_Reached_0 ty_Facts (by decide) rfl) (by kernel_rfl) ?_
                refine D.y 23 rfl rfl (by decide) (Y.ld1 ty_Facts rfl ((Has.pt (mS (mS (mS m0)))).sub (cs' := [_]) 0 rfl) rfl) (by kernel_rfl) ?_
                refine D.yp 24 rfl rfl (by decide) (Y.fld fo_Line_2 ty_Fact (by decide) rfl) (by kernel_rfl) ?_
                refine D.y 25 rfl rfl (by decide) (Y.ldS (cs := [_, _]) ty_Fact rfl ((Has.pt m0).sub (cs' := [_, _]) 3 rfl) rfl) (by kernel_rfl) ?_
                refine D.st 26 rfl rfl (by kernel_rfl) (fun _ => rfl) (N.call0 (t_spec_l14Rule ((mid_rule q23 (fctsL_ok pa.2))) ((mid_rlen q23))) rfl rfl rfl (by decide) (fun w Lp hA => ⟨hA.ro rs126, hA.ow (mS (mS m0)), ei49_3, hA.ro xh49_1⟩)) (fun _ _ => ?_)
                refine D.yp 27 rfl rfl (by decide) (Y.neq rfl rfl) (by kernel_rfl) (Ent.d (fun q132 => ?_) (fun q132 => ?_))
                · refine D.yp 28 rfl rfl (by decide) (Y.pkf rfl rfl) (by kernel_rfl) ?_
                  refine D.done (by kernel_rfl) (E.thn (E.ct rfl (E.seq (E.region (l := [0]) rfl (E.y rfl rfl (by decide) ((Y.as rfl).yd) ?_)))))
                  exact E.nil (E.thn (E.ret (E.thr (E.blr (E.thr (E.thr (E.blr (E.thr (F.r1 (Back.refl _ _) rfl rfl () trivial (congrArg Value.bool (by grind [specG_step, specG_end, specL, accL, rulL, atM_get, atR_get, spec_check, lastC_get, hasI, fctsL_step, valsL_step, mid_one, ruleK_one, List.drop_eq_getElem_cons, List.drop_eq_nil_of_le, List.take_succ_eq_append_getElem, List.take_of_length_le])) (J := _) (.refl _) (.inl rfl))))))))))
                · refine D.yp 28 rfl rfl (by decide) (Y.pkf rfl rfl) (by kernel_rfl) ?_
                  refine D.done (by kernel_rfl) (E.thn (E.cf rfl (E.skipc (E.thn (E.seq (E.region (l := [0, 1, 2, 3, 4, 5, 6]) rfl (E.y rfl rfl (by decide) ((Y.fld fo_Reached_0 ty_Facts (by decide) rfl).yd) ?_)))))))
                  refine E.y rfl rfl (by decide) (Y.ld1 ty_Facts rfl ((Has.pt (mS (mS (mS m0)))).sub (cs' := [_]) 0 rfl) rfl) ?_
                  refine E.y rfl rfl (by decide) ((Y.fld fo_Line_2 ty_Fact (by decide) rfl).yd) ?_
                  refine E.y rfl rfl (by decide) (Y.ldS (cs := [_, _]) ty_Fact rfl ((Has.pt m0).sub (cs' := [_, _]) 3 rfl) rfl) ?_
                  refine E.st rfl rfl (N.call (t_spec_AddFact ((Nat.le_trans (fctsL_len hz2) (by decide))) ((fctsL_el hz2)) ((line_len hz2 _ (List.getElem_mem (by omega))).1)) rfl rfl rfl (by decide) rfl (fun w Lp hA => ⟨hA.ow (mS (mS m0)), ei49_3, hA.ro xh49_1⟩)) (fun k138 _ => ?_)
                  obtain ⟨a138, m138, c138⟩ := k138
                  refine Ent.lenow m0 fun e138 l138 => ?_
                  subst e138
                  refine E.y rfl rfl (by decide) ((Y.fld fo_Reached_0 ty_Facts (by decide) rfl).yd) ?_
                  refine Ent.p4 ?_
                  refine E.st rfl rfl (N.sto (vs := [_]) (cs' := [_, _, _, _]) ty_Facts rfl rfl rfl rfl rfl (Nat.le_of_ble_eq_true rfl) rfl) (fun _ _ => ?_)
                  refine E.nil (E.thn (E.seq (E.region (l := [0]) rfl (E.y rfl rfl (by decide) ((Y.as rfl).yd) ?_))))
                  refine E.nil (E.thn (E.block (Ent.p3 ?_)))
                  refine Ent.cv (congrArg (ow eIs [_]) (show valsL seeds p_Lines g = (p_Lines[g].2.2.2.take 0).foldl putI (valsL seeds p_Lines g) from by first | rfl | (simp; done) | grind [specG_step, specG_end, specL, accL, rulL, atM_get, atR_get, spec_check, lastC_get, hasI, fctsL_step, valsL_step, mid_one, ruleK_one, List.drop_eq_getElem_cons, List.drop_eq_nil_of_le, List.take_succ_eq_append_getElem, List.take_of_length_le])) ?_
                  refine E.loop (κ := Nat × Option Addr × Nat × Nat) (fun j => j.1 ≤ p_Lines[g].2.2.2.length ∧ True) (fun j => [(0, .slice a_s s.length c_s), (1, .slice a_l l.length c_l), (2, .slice a_rules rules.length c_rules), (3, .slice a_facts facts.length c_facts), (12, .pointer (some ⟨b12, 0, none⟩)), (13, .pointer (some ⟨b13, 0, none⟩)), (15, .pointer (some ⟨b15, 0, none⟩)), (16, .int .i64 (↑g : Int)), (17, .pointer (some ⟨b17, 0, none⟩)), (19, .int .i64 (↑j.1 : Int))]) (fun j => [ow eIs [.slice j.2.1 j.2.2.1 j.2.2.2] ((p_Lines[g].2.2.2.take j.1).foldl putI (valsL seeds p_Lines g)), pt b15 63 [.slice a138 (addF (fctsL p_Lines g) p_Lines[g].2.2).length c138, .slice j.2.1 j.2.2.1 j.2.2.2, .slice a38_2 (([] : List (Int × List Int))).length c38_2, .int .i64 0], ow eFacts [.slice a138 (addF (fctsL p_Lines g) p_Lines[g].2.2).length c138] (addF (fctsL p_Lines g) p_Lines[g].2.2), pt b17 113 [.int .i64 p_Lines[g].1, .int .i64 p_Lines[g].2.1.1, .slice xa49_0 p_Lines[g].2.1.2.length xc49_0, .int .i64 p_Lines[g].2.2.1, .slice xa49_1 p_Lines[g].2.2.2.length xc49_1], ow eFacts [.slice aA0_0 (fctsL p_Lines g).length cA0_0] (fctsL p_Lines g), ow eAccesss [.slice a38_2 (([] : List (Int × List Int))).length c38_2] ([] : List (Int × List Int)), pt b13 48 [.slice a_p_Lines p_Lines.length c_p_Lines], pt b12 44 [.int .i64 f_Rel, .slice a_f_Values f_Values.length c_f_Values]]) (fun j => p_Lines[g].2.2.2.length - j.1) (0, aA0_1, (valsL seeds p_Lines g).length, cA0_1) ⟨Nat.zero_le _, by simp⟩ ⟨rfl, rfl, rfl, rfl, rfl, rfl, rfl, rfl, rfl, rfl, trivial⟩ (.refl _) (fun j pj => ?_)
                  obtain ⟨j, aA2_0, mA2_0, cA2_0⟩ := j
                  try dsimp only at pj
                  show Ent _ _ _ [(0, .slice a_s s.length c_s), (1, .slice a_l l.length c_l), (2, .slice a_rules rules.length c_rules), (3, .slice a_facts facts.length c_facts), (12, .pointer (some ⟨b12, 0, none⟩)), (13, .pointer (some ⟨b13, 0, none⟩)), (15, .pointer (some ⟨b15, 0, none⟩)), (16, .int .i64 (↑g : Int)), (17, .pointer (some ⟨b17, 0, none⟩)), (19, .int .i64 (↑j : Int))] [ow eIs [.slice aA2_0 mA2_0 cA2_0] ((p_Lines[g].2.2.2.take j).foldl putI (valsL seeds p_Lines g)), pt b15 63 [.slice a138 (addF (fctsL p_Lines g) p_Lines[g].2.2).length c138, .slice aA2_0 mA2_0 cA2_0, .slice a38_2 (([] : List (Int × List Int))).length c38_2, .int .i64 0], ow eFacts [.slice a138 (addF (fctsL p_Lines g) p_Lines[g].2.2).length c138] (addF (fctsL p_Lines g) p_Lines[g].2.2), pt b17 113 [.int .i64 p_Lines[g].1, .int .i64 p_Lines[g].2.1.1, .slice xa49_0 p_Lines[g].2.1.2.length xc49_0, .int .i64 p_Lines[g].2.2.1, .slice xa49_1 p_Lines[g].2.2.2.length xc49_1], ow eFacts [.slice aA0_0 (fctsL p_Lines g).length cA0_0] (fctsL p_Lines g), ow eAccesss [.slice a38_2 (([] : List (Int × List Int))).length c38_2] ([] : List (Int × List Int)), pt b13 48 [.slice a_p_Lines p_Lines.length c_p_Lines], pt b12 44 [.int .i64 f_Rel, .slice a_f_Values f_Values.length c_f_Values]] _
                  obtain ⟨pk, pa⟩ := pj
                  refine Ent.lenow m0 fun eaA2_0 laA2_0 => ?_
                  subst eaA2_0
                  refine E.seq (E.seq (E.region (l := [0, 1, 2, 3, 4, 5]) rfl (E.y rfl rfl (by decide) ((Y.mv rfl).yd) ?_)))
                  refine E.y rfl rfl (by decide) ((Y.fld fo_Line_2 ty_Fact (by decide) rfl).yd) ?_
                  refine E.y rfl rfl (by decide) ((Y.fld fo_Fact_1 ty_Is (by decide) rfl).yd) ?_
                  refine E.y rfl rfl (by decide) (Y.ld1 ty_Is rfl (((Has.pt (mS (mS (mS m0)))).sub (cs' := [_, _]) 3 rfl).sub (cs' := [_]) 1 rfl) rfl) ?_
                  refine E.y rfl rfl (by decide) ((Y.len us_Is rfl).yd) ?_
                  refine E.y rfl rfl (by decide) ((Y.lss rfl rfl).yd) (Ent.d (fun q145 => ?_) (fun q145 => ?_))
                  · refine E.nil (E.thn (E.ct rfl (E.skipc (E.thn (E.seq (E.block (D.region (fun j => !(Nat.beq j 8) && !(Nat.beq j 10)) mixed (D.yp 0 rfl rfl (by decide) (Y.fld fo_Reached_1 ty_Is (by decide) rfl) (by kernel_rfl) ?_))))))))
                    refine D.y 1 rfl rfl (by decide) (Y.ld1 ty_Is rfl ((Has.pt (mS m0)).sub (cs' := [_]) 1 rfl) rfl) (by kernel_rfl) ?_
                    refine D.yp 2 rfl rfl (by decide) (Y.fld fo_Line_2 ty_Fact (by decide) rfl) (by kernel_rfl) ?_
                    refine D.yp 3 rfl rfl (by decide) (Y.fld fo_Fact_1 ty_Is (by decide) rfl) (by kernel_rfl) ?_
                    refine D.y 4 rfl rfl (by decide) (Y.ld1 ty_Is rfl (((Has.pt (mS (mS (mS m0)))).sub (cs' := [_, _]) 3 rfl).sub (cs' := [_]) 1 rfl) rfl) (by kernel_rfl) ?_
                    refine D.yp 5 rfl rfl (by decide) (Y.mv rfl) (by kernel_rfl) ?_
                    obtain ⟨eb154, eo154, ea154, ei154, eh154⟩ := xh49_1.elemI j (by omega)
                    refine D.yp 6 rfl rfl (by decide) (Y.ix us_Is ty_I rfl ea154 rfl j rfl (by omega)) (by kernel_rfl) ?_
                    refine D.y 7 rfl rfl (by decide) (Y.ld1 ty_I rfl (eh154 _) rfl) (by kernel_rfl) ?_
                    refine D.st 8 rfl rfl (by kernel_rfl) (fun h => by cases h) (N.call (pre := [_]) (t_spec_l3Put ((Nat.le_trans (valsL_len2 hz1 hz2 (by omega)) (by decide)))) rfl rfl rfl (by decide) rfl (fun w Lp hA => ei154)) (fun k156 _ => ?_)
                    obtain ⟨a156, m156, c156⟩ := k156
                    refine Ent.lenow m0 fun e156 l156 => ?_
                    subst e156
                    refine D.yp 9 rfl rfl (by decide) (Y.fld fo_Reached_1 ty_Is (by decide) rfl) (by kernel_rfl) ?_
                    refine Ent.p1 ?_
                    refine D.st 10 rfl rfl (by kernel_rfl) (fun h => by cases h) (N.sto (vs := [_]) (cs' := [_, _, _, _]) ty_Is rfl rfl rfl rfl rfl (Nat.le_of_ble_eq_true rfl) rfl) (fun _ _ => ?_)
                    refine D.done (by kernel_rfl) (E.bln (E.thn (E.region (l := [0, 1, 2]) rfl (E.y rfl rfl (by decide) ((Y.mv rfl).yd) ?_))))
                    refine E.y rfl rfl (by decide) ((Y.add rfl rfl (by omega) (by omega)).yd) ?_
                    refine E.y rfl rfl (by decide) ((Y.as rfl).yd) ?_
                    refine E.nil (E.thn (Ent.p1 ?_))
                    refine Ent.cv (congrArg (ow eIs [_]) (show putI ((p_Lines[g].2.2.2.take j).foldl putI (valsL seeds p_Lines g)) p_Lines[g].2.2.2[j] = (p_Lines[g].2.2.2.take (j + 1)).foldl putI (valsL seeds p_Lines g) from by grind [specG_step, specG_end, specL, accL, rulL, atM_get, atR_get, spec_check, lastC_get, hasI, fctsL_step, valsL_step, mid_one, ruleK_one, List.drop_eq_getElem_cons, List.drop_eq_nil_of_le, List.take_succ_eq_append_getElem, List.take_of_length_le])) ?_
                    refine Ent.p7 ?_
                    refine Ent.p7 ?_
                    refine Ent.p7 ?_
                    refine Ent.p7 ?_
                    refine Ent.p7 ?_
                    refine Ent.p7 ?_
                    refine Ent.p7 ?_
                    refine Ent.p7 ?_
                    exact E.again (Back.refl _ _) (j + 1, a156, (putI ((p_Lines[g].2.2.2.take j).foldl putI (valsL seeds p_Lines g)) p_Lines[g].2.2.2[j]).length, c156) ⟨rfl, rfl, rfl, rfl, rfl, rfl, rfl, rfl, rfl, rfl, trivial⟩ (.refl _) ⟨(show j + 1 ≤ p_Lines[g].2.2.2.length from by omega), (show True from by grind [List.drop_eq_getElem_cons, List.drop_eq_nil_of_le, List.take_succ_eq_append_getElem, List.take_of_length_le])⟩ (show p_Lines[g].2.2.2.length - (j + 1) < p_Lines[g].2.2.2.length - j from by omega)
                  · refine E.nil (E.thn (E.cf rfl (E.exit (E.the (E.the (E.blh (E.bln (E.thn (E.region (l := [0, 1, 2]) rfl (E.y rfl rfl (by decide) ((Y.mv rfl).yd) ?_))))))))))
                    refine E.y rfl rfl (by decide) ((Y.add rfl rfl (by omega) (by omega)).yd) ?_
                    refine E.y rfl rfl (by decide) ((Y.as rfl).yd) ?_
                    have zs : specL s l rules facts (fctsL p_Lines g) (valsL seeds p_Lines g) p_Lines[g] = true := by grind [specG_step, specG_end, specL, accL, rulL, atM_get, atR_get, spec_check, lastC_get, hasI, fctsL_step, valsL_step, mid_one, ruleK_one, List.drop_eq_getElem_cons, List.drop_eq_nil_of_le, List.take_succ_eq_append_getElem, List.take_of_length_le]
                    refine E.nil (E.thn (Ent.p3 ?_))
                    refine Ent.drop ?_
                    refine Ent.p3 ?_
                    refine Ent.drop ?_
                    refine Ent.p2 ?_
                    refine Ent.cv (congrArg (ow eFacts [_]) (show addF (fctsL p_Lines g) p_Lines[g].2.2 = fctsL p_Lines (g + 1) from by grind [specG_step, specG_end, specL, accL, rulL, atM_get, atR_get, spec_check, lastC_get, hasI, fctsL_step, valsL_step, mid_one, ruleK_one, List.drop_eq_getElem_cons, List.drop_eq_nil_of_le, List.take_succ_eq_append_getElem, List.take_of_length_le])) ?_
                    refine Ent.p1 ?_
                    refine Ent.cv (congrArg (ow eIs [_]) (show (p_Lines[g].2.2.2.take j).foldl putI (valsL seeds p_Lines g) = valsL seeds p_Lines (g + 1) from by grind [specG_step, specG_end, specL, accL, rulL, atM_get, atR_get, spec_check, lastC_get, hasI, fctsL_step, valsL_step, mid_one, ruleK_one, List.drop_eq_getElem_cons, List.drop_eq_nil_of_le, List.take_succ_eq_append_getElem, List.take_of_length_le])) ?_
                    refine Ent.p5 ?_
                    refine Ent.p5 ?_
                    refine Ent.p5 ?_
                    refine Ent.p5 ?_
                    refine Ent.p5 ?_
                    refine Ent.p5 ?_
                    exact E.again (Back.refl _ _) (g + 1, a138, (addF (fctsL p_Lines g) p_Lines[g].2.2).length, c138, aA2_0, ((p_Lines[g].2.2.2.take j).foldl putI (valsL seeds p_Lines g)).length, cA2_0) ⟨rfl, rfl, rfl, rfl, rfl, rfl, rfl, rfl, trivial⟩ (.refl _) ⟨(show g + 1 ≤ p_Lines.length from by omega), (show (specG s l rules facts seeds p_Lines 0 = specG s l rules facts seeds p_Lines (g + 1) ∧ ∀ y ∈ p_Lines.take (g + 1), okFact s y.2.2 = true) from by exact ⟨by rw [pg0.1, specG_step (by omega), zs, Bool.true_and], ok_snoc pg0.2 (by omega) (spec_ok q28 zs)⟩)⟩ (show p_Lines.length - (g + 1) < p_Lines.length - g from by omega)
              · refine D.yp 12 rfl rfl (by decide) (Y.not (b := false) rfl) (by kernel_rfl) ?_
                refine D.yp 13 rfl rfl (by decide) (Y.pkf rfl rfl) (by kernel_rfl) ?_
                refine D.yp 14 rfl rfl (by decide) (Y.mv rfl) (by kernel_rfl) ?_
                refine D.skip 15 rfl rfl (by kernel_rfl) rfl ?_
                refine D.skip 16 rfl rfl (by kernel_rfl) rfl ?_
                refine D.skip 17 rfl rfl (by kernel_rfl) rfl ?_
                refine D.skip 18 rfl rfl (by kernel_rfl) rfl ?_
                refine D.skip 19 rfl rfl (by kernel_rfl) rfl ?_
                refine D.skip 20 rfl rfl (by kernel_rfl) rfl ?_
                refine D.skip 21 rfl rfl (by kernel_rfl) rfl ?_
                refine D.skip 22 rfl rfl (by kernel_rfl) rfl ?_
                refine D.skip 23 rfl rfl (by kernel_rfl) rfl ?_
                refine D.skip 24 rfl rfl (by kernel_rfl) rfl ?_
                refine D.skip 25 rfl rfl (by kernel_rfl) rfl ?_
                refine D.skip 26 rfl rfl (by kernel_rfl) rfl ?_
                refine D.skip 27 rfl rfl (by kernel_rfl) rfl ?_
                refine D.yp 28 rfl rfl (by decide) (Y.pkt rfl rfl) (by kernel_rfl) ?_
                refine D.done (by kernel_rfl) (E.thn (E.ct rfl (E.seq (E.region (l := [0]) rfl (E.y rfl rfl (by decide) ((Y.as rfl).yd) ?_)))))
                exact E.nil (E.thn (E.ret (E.thr (E.blr (E.thr (E.thr (E.blr (E.thr (F.r1 (Back.refl _ _) rfl rfl () trivial (congrArg Value.bool (by grind [specG_step, specG_end, specL, accL, rulL, atM_get, atR_get, spec_check, lastC_get, hasI, fctsL_step, valsL_step, mid_one, ruleK_one, List.drop_eq_getElem_cons, List.drop_eq_nil_of_le, List.take_succ_eq_append_getElem, List.take_of_length_le])) (J := _) (.refl _) (.inl rfl))))))))))
            · refine D.yp 6 rfl rfl (by decide) (Y.not (b := false) rfl) (by kernel_rfl) ?_
              refine D.yp 7 rfl rfl (by decide) (Y.mv rfl) (by kernel_rfl) ?_
              refine D.skip 8 rfl rfl (by kernel_rfl) rfl ?_
              refine D.skip 9 rfl rfl (by kernel_rfl) rfl ?_
              refine D.skip 10 rfl rfl (by kernel_rfl) rfl ?_
              refine D.skip 11 rfl rfl (by kernel_rfl) rfl ?_
              refine D.skip 12 rfl rfl (by kernel_rfl) rfl ?_
              refine D.yp 13 rfl rfl (by decide) (Y.pkt rfl rfl) (by kernel_rfl) ?_
              refine D.yp 14 rfl rfl (by decide) (Y.mv rfl) (by kernel_rfl) ?_
              refine D.skip 15 rfl rfl (by kernel_rfl) rfl ?_
              refine D.skip 16 rfl rfl (by kernel_rfl) rfl ?_
              refine D.skip 17 rfl rfl (by kernel_rfl) rfl ?_
              refine D.skip 18 rfl rfl (by kernel_rfl) rfl ?_
              refine D.skip 19 rfl rfl (by kernel_rfl) rfl ?_
              refine D.skip 20 rfl rfl (by kernel_rfl) rfl ?_
              refine D.skip 21 rfl rfl (by kernel_rfl) rfl ?_
              refine D.skip 22 rfl rfl (by kernel_rfl) rfl ?_
              refine D.skip 23 rfl rfl (by kernel_rfl) rfl ?_
              refine D.skip 24 rfl rfl (by kernel_rfl) rfl ?_
              refine D.skip 25 rfl rfl (by kernel_rfl) rfl ?_
              refine D.skip 26 rfl rfl (by kernel_rfl) rfl ?_
              refine D.skip 27 rfl rfl (by kernel_rfl) rfl ?_
              refine D.yp 28 rfl rfl (by decide) (Y.pkt rfl rfl) (by kernel_rfl) ?_
              refine D.done (by kernel_rfl) (E.thn (E.ct rfl (E.seq (E.region (l := [0]) rfl (E.y rfl rfl (by decide) ((Y.as rfl).yd) ?_)))))
              exact E.nil (E.thn (E.ret (E.thr (E.blr (E.thr (E.thr (E.blr (E.thr (F.r1 (Back.refl _ _) rfl rfl () trivial (congrArg Value.bool (by grind [specG_step, specG_end, specL, accL, rulL, atM_get, atR_get, spec_check, lastC_get, hasI, fctsL_step, valsL_step, mid_one, ruleK_one, List.drop_eq_getElem_cons, List.drop_eq_nil_of_le, List.take_succ_eq_append_getElem, List.take_of_length_le])) (J := _) (.refl _) (.inl rfl))))))))))
        · refine E.nil (E.thn (E.cf rfl (E.exit (E.the (E.the (E.blh (E.thn (E.seq (D.region (fun j => true) mixed (D.yp 0 rfl rfl (by decide) (Y.fld fo_Proof_0 ty_Lines (by decide) rfl) (by kernel_rfl) ?_))))))))))
          refine D.y 1 rfl rfl (by decide) (Y.ld1 ty_Lines rfl ((Has.pt (mS (mS (mS (mS m0))))).sub (cs' := [_]) 0 rfl) rfl) (by kernel_rfl) ?_
          refine D.yp 2 rfl rfl (by decide) (Y.fld fo_Proof_0 ty_Lines (by decide) rfl) (by kernel_rfl) ?_
          refine D.y 3 rfl rfl (by decide) (Y.ld1 ty_Lines rfl ((Has.pt (mS (mS (mS (mS m0))))).sub (cs' := [_]) 0 rfl) rfl) (by kernel_rfl) ?_
          refine D.yp 4 rfl rfl (by decide) (Y.len us_Lines rfl) (by kernel_rfl) ?_
          refine D.yp 5 rfl rfl (by decide) (Y.sub rfl rfl (by omega) (by omega)) (by kernel_rfl) ?_
          obtain ⟨eb164, eo164, ec164, ea164, er164, el164, eh164⟩ := hp_Lines.elem (p_Lines.length - 1) (by omega)
          obtain ⟨xa164_0, xc164_0, xa164_1, xc164_1, rfl, ei164_0, ei164_1, xh164_0, ei164_3, xh164_1⟩ := Ro.pLine er164
          have := xh164_0.slen.2
          have := xh164_1.slen.2
          refine D.yp 6 rfl rfl (by decide) (Y.ix us_Lines ty_Line rfl ea164 rfl (p_Lines.length - 1) (by omega) (by omega)) (by kernel_rfl) ?_
          refine D.yp 7 rfl rfl (by decide) (Y.fld fo_Line_2 ty_Fact (by decide) rfl) (by kernel_rfl) ?_
          refine D.y 8 rfl rfl (by decide) (Y.ldS (cs := [_, _]) ty_Fact rfl ((eh164 _).sub (cs' := [_, _]) 3 rfl) rfl) (by kernel_rfl) ?_
          refine D.y 9 rfl rfl (by decide) (Y.ldS (cs := [_, _]) ty_Fact rfl (Has.pt (mS (mS (mS (mS (mS m0)))))) rfl) (by kernel_rfl) ?_
          refine D.st 10 rfl rfl (by kernel_rfl) (fun _ => rfl) (N.call0 t_spec_CompareFacts rfl rfl rfl (by decide) (fun w Lp hA => ⟨ei164_3, hA.ro xh164_1, i6f_Rel, hA.ro hf_Values⟩)) (fun _ _ => ?_)
          refine D.yp 11 rfl rfl (by decide) (Y.eql rfl rfl) (by kernel_rfl) ?_
          refine D.yp 12 rfl rfl (by decide) (Y.as rfl) (by kernel_rfl) ?_
          exact D.done (by kernel_rfl) (E.thn (E.ret (F.r1 (Back.refl _ _) rfl rfl () trivial (congrArg Value.bool (by grind [specG_step, specG_end, specL, accL, rulL, atM_get, atR_get, spec_check, lastC_get, hasI, fctsL_step, valsL_step, mid_one, ruleK_one, List.drop_eq_getElem_cons, List.drop_eq_nil_of_le, List.take_succ_eq_append_getElem, List.take_of_length_le])) (J := _) (.refl _) (.inl rfl))))
    · refine E.y rfl rfl (by decide) ((Y.not (b := false) rfl).yd) ?_
      refine E.y rfl rfl (by decide) ((Y.pkf rfl rfl).yd) ?_
      refine E.y rfl rfl (by decide) ((Y.mv rfl).yd) ?_
      refine E.skip rfl rfl rfl ?_
      refine E.skip rfl rfl rfl ?_
      refine E.skip rfl rfl rfl ?_
      refine E.skip rfl rfl rfl ?_
      refine E.y rfl rfl (by decide) ((Y.pkt rfl rfl).yd) ?_
      refine E.nil (E.thn (E.ct rfl (E.seq (E.region (l := [0]) rfl (E.y rfl rfl (by decide) ((Y.as rfl).yd) ?_)))))
      exact E.nil (E.thn (E.ret (E.thr (F.r1 (Back.refl _ _) rfl rfl () trivial (congrArg Value.bool (by grind [specG_step, specG_end, specL, accL, rulL, atM_get, atR_get, spec_check, lastC_get, hasI, fctsL_step, valsL_step, mid_one, ruleK_one, List.drop_eq_getElem_cons, List.drop_eq_nil_of_le, List.take_succ_eq_append_getElem, List.take_of_length_le])) (J := _) (.refl _) (.inl rfl)))))
  · refine E.y rfl rfl (by decide) ((Y.not (b := false) rfl).yd) ?_
    refine E.y rfl rfl (by decide) ((Y.mv rfl).yd) ?_
    refine E.skip rfl rfl rfl ?_
    refine E.skip rfl rfl rfl ?_
    refine E.skip rfl rfl rfl ?_
    refine E.skip rfl rfl rfl ?_
    refine E.y rfl rfl (by decide) ((Y.pkt rfl rfl).yd) ?_
    refine E.y rfl rfl (by decide) ((Y.mv rfl).yd) ?_
    refine E.skip rfl rfl rfl ?_
    refine E.skip rfl rfl rfl ?_
    refine E.skip rfl rfl rfl ?_
    refine E.skip rfl rfl rfl ?_
    refine E.y rfl rfl (by decide) ((Y.pkt rfl rfl).yd) ?_
    refine E.nil (E.thn (E.ct rfl (E.seq (E.region (l := [0]) rfl (E.y rfl rfl (by decide) ((Y.as rfl).yd) ?_)))))
    exact E.nil (E.thn (E.ret (E.thr (F.r1 (Back.refl _ _) rfl rfl () trivial (congrArg Value.bool (by grind [specG_step, specG_end, specL, accL, rulL, atM_get, atR_get, spec_check, lastC_get, hasI, fctsL_step, valsL_step, mid_one, ruleK_one, List.drop_eq_getElem_cons, List.drop_eq_nil_of_le, List.take_succ_eq_append_getElem, List.take_of_length_le])) (J := _) (.refl _) (.inl rfl)))))
theorem t_laws_FnExactCheckProof {a_aS : Option Addr} {m_aS c_aS : Nat} {aS : List Int} {a_aL : Option Addr} {m_aL c_aL : Nat} {aL : List (Int × List Int × Int × Int × Int)} {a_aRules : Option Addr} {m_aRules c_aRules : Nat} {aRules : List (Int × Int × List Int)} {a_aFacts : Option Addr} {m_aFacts c_aFacts : Nat} {aFacts : List (Int × List Int)} {a_aSeeds : Option Addr} {m_aSeeds c_aSeeds : Nat} {aSeeds : List Int} {aF_Rel : Int} {a_aF_Values : Option Addr} {m_aF_Values c_aF_Values : Nat} {aF_Values : List Int} {a_aP_Lines : Option Addr} {m_aP_Lines c_aP_Lines : Nat} {aP_Lines : List (Int × (Int × List Int) × Int × List Int)} : Tr Tryz.prog 3 [.slice a_aS m_aS c_aS, .slice a_aL m_aL c_aL, .slice a_aRules m_aRules c_aRules, .slice a_aFacts m_aFacts c_aFacts, .slice a_aSeeds m_aSeeds c_aSeeds, .agg #[.int .i64 aF_Rel, .slice a_aF_Values m_aF_Values c_aF_Values], .agg #[.slice a_aP_Lines m_aP_Lines c_aP_Lines]] (fun w L => Ro w L eIs [.slice a_aS m_aS c_aS] aS ∧ Ro w L eMethods [.slice a_aL m_aL c_aL] aL ∧ Ro w L eRules [.slice a_aRules m_aRules c_aRules] aRules ∧ Ro w L eFacts [.slice a_aFacts m_aFacts c_aFacts] aFacts ∧ Ro w L eIs [.slice a_aSeeds m_aSeeds c_aSeeds] aSeeds ∧ I64 aF_Rel ∧ Ro w L eIs [.slice a_aF_Values m_aF_Values c_aF_Values] aF_Values ∧ Ro w L eLines [.slice a_aP_Lines m_aP_Lines c_aP_Lines] aP_Lines) [] (κ := Unit) (fun k => True) (fun k => .bool (true)) (fun k => []) := by
  refine Tr.intro Tryz.func3 rfl (n := 131) rfl (by decide +kernel) (Nat.le_of_ble_eq_true rfl) (fr := [(0, .slice a_aS m_aS c_aS), (1, .slice a_aL m_aL c_aL), (2, .slice a_aRules m_aRules c_aRules), (3, .slice a_aFacts m_aFacts c_aFacts), (4, .slice a_aSeeds m_aSeeds c_aSeeds), (5, .agg #[.int .i64 aF_Rel, .slice a_aF_Values m_aF_Values c_aF_Values]), (6, .agg #[.slice a_aP_Lines m_aP_Lines c_aP_Lines])]) rfl fun w L hR => ?_
  obtain ⟨haS, haL, haRules, haFacts, haSeeds, i6aF_Rel, haF_Values, haP_Lines⟩ := hR
  obtain ⟨rfl, laS⟩ := haS.slen
  obtain ⟨rfl, laL⟩ := haL.slen
  obtain ⟨rfl, laRules⟩ := haRules.slen
  obtain ⟨rfl, laFacts⟩ := haFacts.slen
  obtain ⟨rfl, laSeeds⟩ := haSeeds.slen
  obtain ⟨rfl, laF_Values⟩ := haF_Values.slen
  obtain ⟨rfl, laP_Lines⟩ := haP_Lines.slen
  refine E.seq (E.region (l := [0, 1, 2]) rfl (E.st rfl rfl (N.box (cs := [_, _]) rfl (by decide) rfl) (fun b12 _ => ?_)))
  refine E.st rfl rfl (N.box (cs := [_]) rfl (by decide) rfl) (fun b13 _ => ?_)
  refine E.y rfl rfl (by decide) ((Y.as rfl).yd) ?_
  refine E.nil (E.thn (E.seq (E.seq (E.region (l := [0, 1, 2]) rfl (E.y rfl rfl (by decide) ((Y.mv rfl).yd) ?_)))))
  refine E.y rfl rfl (by decide) ((Y.len us_Is rfl).yd) ?_
  refine E.y rfl rfl (by decide) ((Y.gtr rfl rfl).yd) (Ent.d (fun q27 => ?_) (fun q27 => ?_))
  · refine E.nil (E.thn (E.ct rfl (E.seq (E.region (l := [0]) rfl (E.y rfl rfl (by decide) ((Y.as rfl).yd) ?_)))))
    exact E.nil (E.thn (E.ret (E.thr (F.r1 (Back.refl _ _) rfl rfl () trivial rfl (J := _) (.refl _) (.inl rfl)))))
  · refine E.nil (E.thn (E.cf rfl (E.skipc (E.thn (E.seq (E.seq (E.region (l := [0, 1, 2]) rfl (E.y rfl rfl (by decide) ((Y.mv rfl).yd) ?_))))))))
    refine E.y rfl rfl (by decide) ((Y.len us_Is rfl).yd) ?_
    refine E.y rfl rfl (by decide) ((Y.gtr rfl rfl).yd) (Ent.d (fun q30 => ?_) (fun q30 => ?_))
    · refine E.nil (E.thn (E.ct rfl (E.seq (E.region (l := [0]) rfl (E.y rfl rfl (by decide) ((Y.as rfl).yd) ?_)))))
      exact E.nil (E.thn (E.ret (E.thr (F.r1 (Back.refl _ _) rfl rfl () trivial rfl (J := _) (.refl _) (.inl rfl)))))
    · refine E.nil (E.thn (E.cf rfl (E.skipc (E.thn (E.seq (E.region (l := [0]) rfl (E.y rfl rfl (by decide) ((Y.as rfl).yd) ?_)))))))
      refine E.nil (E.thn (E.seq (E.region (l := [0, 1, 2, 3]) rfl (E.y rfl rfl (by decide) ((Y.mv rfl).yd) ?_))))
      refine E.y rfl rfl (by decide) ((Y.mv rfl).yd) ?_
      refine E.st rfl rfl (N.call0 t_laws_szMethodS rfl rfl rfl (by decide) (fun w Lp hA => ⟨hA.ro haL, (by first | assumption | omega), (by first | assumption | omega)⟩)) (fun _ _ => ?_)
      refine E.y rfl rfl (by decide) ((Y.as rfl).yd) ?_
      refine E.nil (E.thn (E.seq (E.seq (E.region (l := [0, 1]) rfl (E.y rfl rfl (by decide) ((Y.mv rfl).yd) ?_)))))
      refine E.y rfl rfl (by decide) ((Y.lss rfl rfl).yd) (Ent.d (fun q35 => ?_) (fun q35 => ?_))
      · have z35 := szR_bad q35 (by omega)
        refine E.nil (E.thn (E.ct rfl (E.seq (E.region (l := [0]) rfl (E.y rfl rfl (by decide) ((Y.as rfl).yd) ?_)))))
        exact E.nil (E.thn (E.ret (E.thr (F.r1 (Back.refl _ _) rfl rfl () trivial rfl (J := _) (.refl _) (.inl rfl)))))
      · obtain ⟨z35, y35⟩ := szR_ok q35 (by omega)
        refine E.nil (E.thn (E.cf rfl (E.skipc (E.thn (E.seq (E.region (l := [0, 1, 2, 3]) rfl (E.y rfl rfl (by decide) ((Y.mv rfl).yd) ?_)))))))
        refine E.y rfl rfl (by decide) ((Y.mv rfl).yd) ?_
        refine E.st rfl rfl (N.call0 t_laws_szRuleS rfl rfl rfl (by decide) (fun w Lp hA => ⟨hA.ro haRules, (by first | assumption | omega), (by first | assumption | omega)⟩)) (fun _ _ => ?_)
        refine E.y rfl rfl (by decide) ((Y.as rfl).yd) ?_
        refine E.nil (E.thn (E.seq (E.seq (E.region (l := [0, 1]) rfl (E.y rfl rfl (by decide) ((Y.mv rfl).yd) ?_)))))
        refine E.y rfl rfl (by decide) ((Y.lss rfl rfl).yd) (Ent.d (fun q40 => ?_) (fun q40 => ?_))
        · have z40 := szR_bad q40 (by omega)
          refine E.nil (E.thn (E.ct rfl (E.seq (E.region (l := [0]) rfl (E.y rfl rfl (by decide) ((Y.as rfl).yd) ?_)))))
          exact E.nil (E.thn (E.ret (E.thr (F.r1 (Back.refl _ _) rfl rfl () trivial rfl (J := _) (.refl _) (.inl rfl)))))
        · obtain ⟨z40, y40⟩ := szR_ok q40 (by omega)
          refine E.nil (E.thn (E.cf rfl (E.skipc (E.thn (E.seq (E.region (l := [0, 1, 2, 3]) rfl (E.y rfl rfl (by decide) ((Y.mv rfl).yd) ?_)))))))
          refine E.y rfl rfl (by decide) ((Y.mv rfl).yd) ?_
          refine E.st rfl rfl (N.call0 t_laws_szFactS rfl rfl rfl (by decide) (fun w Lp hA => ⟨hA.ro haFacts, (by first | assumption | omega), (by first | assumption | omega)⟩)) (fun _ _ => ?_)
          refine E.y rfl rfl (by decide) ((Y.as rfl).yd) ?_
          refine E.nil (E.thn (E.seq (E.seq (E.region (l := [0, 1]) rfl (E.y rfl rfl (by decide) ((Y.mv rfl).yd) ?_)))))
          refine E.y rfl rfl (by decide) ((Y.lss rfl rfl).yd) (Ent.d (fun q45 => ?_) (fun q45 => ?_))
          · have z45 := szR_bad q45 (by omega)
            refine E.nil (E.thn (E.ct rfl (E.seq (E.region (l := [0]) rfl (E.y rfl rfl (by decide) ((Y.as rfl).yd) ?_)))))
            exact E.nil (E.thn (E.ret (E.thr (F.r1 (Back.refl _ _) rfl rfl () trivial rfl (J := _) (.refl _) (.inl rfl)))))
          · obtain ⟨z45, y45⟩ := szR_ok q45 (by omega)
            refine E.nil (E.thn (E.cf rfl (E.skipc (E.thn (E.seq (E.region (l := [0, 1, 2, 3]) rfl (E.y rfl rfl (by decide) (Y.ldS (cs := [_, _]) ty_lFact rfl (Has.pt (mS m0)) rfl) ?_)))))))
            refine E.y rfl rfl (by decide) ((Y.mv rfl).yd) ?_
            refine E.st rfl rfl (N.call0 t_laws_szFact rfl rfl rfl (by decide) (fun w Lp hA => ⟨i6aF_Rel, hA.ro haF_Values, (by first | assumption | omega), (by first | assumption | omega)⟩)) (fun _ _ => ?_)
            refine E.y rfl rfl (by decide) ((Y.as rfl).yd) ?_
            refine E.nil (E.thn (E.seq (E.seq (E.region (l := [0, 1]) rfl (E.y rfl rfl (by decide) ((Y.mv rfl).yd) ?_)))))
            refine E.y rfl rfl (by decide) ((Y.lss rfl rfl).yd) (Ent.d (fun q50 => ?_) (fun q50 => ?_))
            · have z50 := szR_bad q50 (by omega)
              refine E.nil (E.thn (E.ct rfl (E.seq (E.region (l := [0]) rfl (E.y rfl rfl (by decide) ((Y.as rfl).yd) ?_)))))
              exact E.nil (E.thn (E.ret (E.thr (F.r1 (Back.refl _ _) rfl rfl () trivial rfl (J := _) (.refl _) (.inl rfl)))))
            · obtain ⟨z50, y50⟩ := szR_ok q50 (by omega)
              refine E.nil (E.thn (E.cf rfl (E.skipc (E.thn (E.seq (E.region (l := [0, 1, 2, 3]) rfl (E.y rfl rfl (by decide) (Y.ldS (cs := [_]) ty_lProof rfl (Has.pt m0) rfl) ?_)))))))
              refine E.y rfl rfl (by decide) ((Y.mv rfl).yd) ?_
              refine E.st rfl rfl (N.call0 t_laws_szProof rfl rfl rfl (by decide) (fun w Lp hA => ⟨hA.ro haP_Lines, (by first | assumption | omega), (by first | assumption | omega)⟩)) (fun _ _ => ?_)
              refine E.y rfl rfl (by decide) ((Y.as rfl).yd) ?_
              refine E.nil (E.thn (E.seq (E.seq (E.region (l := [0, 1]) rfl (E.y rfl rfl (by decide) ((Y.mv rfl).yd) ?_)))))
              refine E.y rfl rfl (by decide) ((Y.lss rfl rfl).yd) (Ent.d (fun q55 => ?_) (fun q55 => ?_))
              · have z55 := szR_bad q55 (by omega)
                refine E.nil (E.thn (E.ct rfl (E.seq (E.region (l := [0]) rfl (E.y rfl rfl (by decide) ((Y.as rfl).yd) ?_)))))
                exact E.nil (E.thn (E.ret (E.thr (F.r1 (Back.refl _ _) rfl rfl () trivial rfl (J := _) (.refl _) (.inl rfl)))))
              · obtain ⟨z55, y55⟩ := szR_ok q55 (by omega)
                refine E.nil (E.thn (E.cf rfl (E.skipc (E.thn (E.seq (D.region (fun j => true) mixed (D.yp 0 rfl rfl (by decide) (Y.mv rfl) (by kernel_rfl) ?_)))))))
                refine D.yp 2 rfl rfl (by decide) (Y.mv rfl) (by kernel_rfl) ?_
                refine D.yp 4 rfl rfl (by decide) (Y.mv rfl) (by kernel_rfl) ?_
                refine D.yp 6 rfl rfl (by decide) (Y.mv rfl) (by kernel_rfl) ?_
                refine D.yp 8 rfl rfl (by decide) (Y.mv rfl) (by kernel_rfl) ?_
                refine D.y 10 rfl rfl (by decide) (Y.ldS (cs := [_, _]) ty_lFact rfl (Has.pt (mS m0)) rfl) (by kernel_rfl) ?_
                refine D.y 12 rfl rfl (by decide) (Y.ldS (cs := [_]) ty_lProof rfl (Has.pt m0) rfl) (by kernel_rfl) ?_
                refine D.st 1 rfl rfl (by kernel_rfl) (fun _ => rfl) (N.call (t_laws_toIntS (by first | omega | assumption | (constructor <;> omega))) rfl rfl rfl (by decide) rfl (fun w Lp hA => hA.ro haS)) (fun k57 _ => ?_)
                obtain ⟨a57, m57, c57⟩ := k57
                refine Ent.lenow m0 fun e57 l57 => ?_
                subst e57
                refine D.st 3 rfl rfl (by kernel_rfl) (fun _ => rfl) (N.call (t_laws_toMethodS (by first | omega | assumption | (constructor <;> omega))) rfl rfl rfl (by decide) rfl (fun w Lp hA => hA.ro haL)) (fun k59 _ => ?_)
                obtain ⟨a59, m59, c59⟩ := k59
                refine Ent.lenow m0 fun e59 l59 => ?_
                subst e59
                refine D.st 5 rfl rfl (by kernel_rfl) (fun _ => rfl) (N.call (t_laws_toRuleS (by first | omega | assumption | (constructor <;> omega))) rfl rfl rfl (by decide) rfl (fun w Lp hA => hA.ro haRules)) (fun k61 _ => ?_)
                obtain ⟨a61, m61, c61⟩ := k61
                refine Ent.lenow m0 fun e61 l61 => ?_
                subst e61
                refine D.st 7 rfl rfl (by kernel_rfl) (fun _ => rfl) (N.call (t_laws_toFactS (by first | omega | assumption | (constructor <;> omega))) rfl rfl rfl (by decide) rfl (fun w Lp hA => hA.ro haFacts)) (fun k63 _ => ?_)
                obtain ⟨a63, m63, c63⟩ := k63
                refine Ent.lenow m0 fun e63 l63 => ?_
                subst e63
                refine D.st 9 rfl rfl (by kernel_rfl) (fun _ => rfl) (N.call (t_laws_toIntS (by first | omega | assumption | (constructor <;> omega))) rfl rfl rfl (by decide) rfl (fun w Lp hA => hA.ro haSeeds)) (fun k65 _ => ?_)
                obtain ⟨a65, m65, c65⟩ := k65
                refine Ent.lenow m0 fun e65 l65 => ?_
                subst e65
                refine D.st 11 rfl rfl (by kernel_rfl) (fun _ => rfl) (N.call (t_laws_toFact (by first | omega | assumption | (constructor <;> omega))) rfl rfl rfl (by decide) rfl (fun w Lp hA => ⟨i6aF_Rel, hA.ro haF_Values⟩)) (fun k67 _ => ?_)
                obtain ⟨a67, m67, c67⟩ := k67
                refine Ent.lenow m0 fun e67 l67 => ?_
                subst e67
                refine D.st 13 rfl rfl (by kernel_rfl) (fun _ => rfl) (N.call (t_laws_toProof (by first | omega | assumption | (constructor <;> omega))) rfl rfl rfl (by decide) rfl (fun w Lp hA => hA.ro haP_Lines)) (fun k69 _ => ?_)
                obtain ⟨a69, m69, c69⟩ := k69
                refine Ent.lenow m0 fun e69 l69 => ?_
                subst e69
                refine D.st 14 rfl rfl (by kernel_rfl) (fun _ => rfl) (N.call0 (t_spec_CheckProof (by first | omega | assumption | (constructor <;> omega)) (by first | omega | assumption | (constructor <;> omega))) rfl rfl rfl (by decide) (fun w Lp hA => ⟨hA.ow (mS (mS (mS (mS (mS (mS m0)))))), hA.ow (mS (mS (mS (mS (mS m0))))), hA.ow (mS (mS (mS (mS m0)))), hA.ow (mS (mS (mS m0))), hA.ow (mS (mS m0)), i6aF_Rel, hA.ow (mS m0), hA.ow m0⟩)) (fun _ _ => ?_)
                refine D.yp 15 rfl rfl (by decide) (Y.as rfl) (by kernel_rfl) ?_
                refine D.done (by kernel_rfl) (E.thn (E.seq (E.region (l := [0, 1, 2]) rfl (E.y rfl rfl (by decide) ((Y.mv rfl).yd) ?_))))
                refine E.st rfl rfl (N.call (t_laws_toIntS (by first | omega | assumption | (constructor <;> omega))) rfl rfl rfl (by decide) rfl (fun w Lp hA => hA.ro haS)) (fun k72 _ => ?_)
                obtain ⟨a72, m72, c72⟩ := k72
                refine Ent.lenow m0 fun e72 l72 => ?_
                subst e72
                refine E.y rfl rfl (by decide) ((Y.as rfl).yd) ?_
                refine E.nil (E.thn (E.seq (E.region (l := [0, 1, 2]) rfl (E.y rfl rfl (by decide) ((Y.mv rfl).yd) ?_))))
                refine E.st rfl rfl (N.call (t_laws_toMethodS (by first | omega | assumption | (constructor <;> omega))) rfl rfl rfl (by decide) rfl (fun w Lp hA => hA.ro haL)) (fun k74 _ => ?_)
                obtain ⟨a74, m74, c74⟩ := k74
                refine Ent.lenow m0 fun e74 l74 => ?_
                subst e74
                refine E.y rfl rfl (by decide) ((Y.as rfl).yd) ?_
                refine E.nil (E.thn (E.seq (E.region (l := [0, 1, 2]) rfl (E.y rfl rfl (by decide) ((Y.mv rfl).yd) ?_))))
                refine E.st rfl rfl (N.call (t_laws_toRuleS (by first | omega | assumption | (constructor <;> omega))) rfl rfl rfl (by decide) rfl (fun w Lp hA => hA.ro haRules)) (fun k76 _ => ?_)
                obtain ⟨a76, m76, c76⟩ := k76
                refine Ent.lenow m0 fun e76 l76 => ?_
                subst e76
                refine E.y rfl rfl (by decide) ((Y.as rfl).yd) ?_
                refine E.nil (E.thn (E.seq (E.region (l := [0, 1, 2]) rfl (E.y rfl rfl (by decide) ((Y.mv rfl).yd) ?_))))
                refine E.st rfl rfl (N.call (t_laws_toFactS (by first | omega | assumption | (constructor <;> omega))) rfl rfl rfl (by decide) rfl (fun w Lp hA => hA.ro haFacts)) (fun k78 _ => ?_)
                obtain ⟨a78, m78, c78⟩ := k78
                refine Ent.lenow m0 fun e78 l78 => ?_
                subst e78
                refine E.y rfl rfl (by decide) ((Y.as rfl).yd) ?_
                refine E.nil (E.thn (E.seq (E.region (l := [0, 1, 2]) rfl (E.y rfl rfl (by decide) ((Y.mv rfl).yd) ?_))))
                refine E.st rfl rfl (N.call (t_laws_toIntS (by first | omega | assumption | (constructor <;> omega))) rfl rfl rfl (by decide) rfl (fun w Lp hA => hA.ro haSeeds)) (fun k80 _ => ?_)
                obtain ⟨a80, m80, c80⟩ := k80
                refine Ent.lenow m0 fun e80 l80 => ?_
                subst e80
                refine E.y rfl rfl (by decide) ((Y.as rfl).yd) ?_
                refine E.nil (E.thn (E.seq (E.region (l := [0, 1, 2, 3]) rfl (E.y rfl rfl (by decide) (Y.ldS (cs := [_, _]) ty_lFact rfl (Has.pt (mS (mS (mS (mS (mS (mS (mS (mS (mS (mS (mS (mS (mS m0)))))))))))))) rfl) ?_))))
                refine E.st rfl rfl (N.call (t_laws_toFact (by first | omega | assumption | (constructor <;> omega))) rfl rfl rfl (by decide) rfl (fun w Lp hA => ⟨i6aF_Rel, hA.ro haF_Values⟩)) (fun k82 _ => ?_)
                obtain ⟨a82, m82, c82⟩ := k82
                refine Ent.lenow m0 fun e82 l82 => ?_
                subst e82
                refine E.st rfl rfl (N.alloc ty_Fact (by decide)) (fun b22 _ => ?_)
                refine E.st rfl rfl (N.sto (vs := [_, _]) (cs' := [_, _]) ty_Fact rfl rfl rfl rfl rfl (Nat.le_of_ble_eq_true rfl) rfl) (fun _ _ => ?_)
                refine E.nil (E.thn (E.seq (E.region (l := [0, 1, 2, 3]) rfl (E.y rfl rfl (by decide) (Y.ldS (cs := [_]) ty_lProof rfl (Has.pt (mS (mS (mS (mS (mS (mS (mS (mS (mS (mS (mS (mS (mS (mS m0))))))))))))))) rfl) ?_))))
                refine E.st rfl rfl (N.call (t_laws_toProof (by first | omega | assumption | (constructor <;> omega))) rfl rfl rfl (by decide) rfl (fun w Lp hA => hA.ro haP_Lines)) (fun k84 _ => ?_)
                obtain ⟨a84, m84, c84⟩ := k84
                refine Ent.lenow m0 fun e84 l84 => ?_
                subst e84
                refine E.st rfl rfl (N.alloc ty_Proof (by decide)) (fun b23 _ => ?_)
                refine E.st rfl rfl (N.sto (vs := [_]) (cs' := [_]) ty_Proof rfl rfl rfl rfl rfl (Nat.le_of_ble_eq_true rfl) rfl) (fun _ _ => ?_)
                refine E.nil (E.thn (E.seq (E.region (l := [0, 1, 2, 3, 4, 5, 6, 7, 8]) rfl (E.y rfl rfl (by decide) ((Y.mv rfl).yd) ?_))))
                refine E.y rfl rfl (by decide) ((Y.mv rfl).yd) ?_
                refine E.y rfl rfl (by decide) ((Y.mv rfl).yd) ?_
                refine E.y rfl rfl (by decide) ((Y.mv rfl).yd) ?_
                refine E.y rfl rfl (by decide) ((Y.mv rfl).yd) ?_
                refine E.y rfl rfl (by decide) (Y.ldS (cs := [_, _]) ty_Fact rfl (Has.pt (mS (mS m0))) rfl) ?_
                refine E.y rfl rfl (by decide) (Y.ldS (cs := [_]) ty_Proof rfl (Has.pt m0) rfl) ?_
                refine E.st rfl rfl (N.call0 t_impl_CheckProof rfl rfl rfl (by decide) (fun w Lp hA => ⟨hA.ow (mS (mS (mS (mS (mS (mS (mS (mS m0)))))))), hA.ow (mS (mS (mS (mS (mS (mS (mS m0))))))), hA.ow (mS (mS (mS (mS (mS (mS m0)))))), hA.ow (mS (mS (mS (mS (mS m0))))), hA.ow (mS (mS (mS (mS m0)))), i6aF_Rel, hA.ow (mS (mS (mS m0))), hA.ow (mS m0)⟩)) (fun _ _ => ?_)
                refine E.y rfl rfl (by decide) ((Y.as rfl).yd) ?_
                refine E.nil (E.thn (E.seq (E.seq (E.region (l := [0, 1, 2]) rfl (E.y rfl rfl (by decide) ((Y.mv rfl).yd) ?_)))))
                refine E.y rfl rfl (by decide) ((Y.mv rfl).yd) ?_
                refine E.y rfl rfl (by decide) ((Y.neqB (by kernel_rfl) rfl rfl).yd) (Ent.d (fun q95 => ?_) (fun q95 => ?_))
                · exact absurd rfl q95
                · refine E.nil (E.thn (E.cf rfl (E.skipc (E.thn (E.seq (E.seq (E.region (l := [0, 1, 2, 3, 4]) rfl (E.y rfl rfl (by decide) ((Y.mv rfl).yd) ?_))))))))
                  refine E.y rfl rfl (by decide) ((Y.mv rfl).yd) ?_
                  refine E.st rfl rfl (N.call (t_laws_toIntS (by first | omega | assumption | (constructor <;> omega))) rfl rfl rfl (by decide) rfl (fun w Lp hA => hA.ro haS)) (fun k98 _ => ?_)
                  obtain ⟨a98, m98, c98⟩ := k98
                  refine Ent.lenow m0 fun e98 l98 => ?_
                  subst e98
                  refine E.st rfl rfl (N.call0 t_laws_eqIntS rfl rfl rfl (by decide) (fun w Lp hA => ⟨hA.ow (mS (mS (mS (mS (mS (mS (mS (mS (mS m0))))))))), hA.ow m0⟩)) (fun _ _ => (Ent.b (fun q99 => ?_) (fun q99 => ?_)))
                  · refine E.y rfl rfl (by decide) ((Y.not (b := true) rfl).yd) ?_
                    refine E.nil (E.thn (E.cf rfl (E.skipc (E.thn (E.seq (E.seq (E.region (l := [0, 1, 2, 3, 4]) rfl (E.y rfl rfl (by decide) ((Y.mv rfl).yd) ?_))))))))
                    refine E.y rfl rfl (by decide) ((Y.mv rfl).yd) ?_
                    refine E.st rfl rfl (N.call (t_laws_toMethodS (by first | omega | assumption | (constructor <;> omega))) rfl rfl rfl (by decide) rfl (fun w Lp hA => hA.ro haL)) (fun k103 _ => ?_)
                    obtain ⟨a103, m103, c103⟩ := k103
                    refine Ent.lenow m0 fun e103 l103 => ?_
                    subst e103
                    refine E.st rfl rfl (N.call0 t_laws_eqMethodS rfl rfl rfl (by decide) (fun w Lp hA => ⟨hA.ow (mS (mS (mS (mS (mS (mS (mS (mS (mS m0))))))))), hA.ow m0⟩)) (fun _ _ => (Ent.b (fun q104 => ?_) (fun q104 => ?_)))
                    · refine E.y rfl rfl (by decide) ((Y.not (b := true) rfl).yd) ?_
                      refine E.nil (E.thn (E.cf rfl (E.skipc (E.thn (E.seq (E.seq (E.region (l := [0, 1, 2, 3, 4]) rfl (E.y rfl rfl (by decide) ((Y.mv rfl).yd) ?_))))))))
                      refine E.y rfl rfl (by decide) ((Y.mv rfl).yd) ?_
                      refine E.st rfl rfl (N.call (t_laws_toRuleS (by first | omega | assumption | (constructor <;> omega))) rfl rfl rfl (by decide) rfl (fun w Lp hA => hA.ro haRules)) (fun k108 _ => ?_)
                      obtain ⟨a108, m108, c108⟩ := k108
                      refine Ent.lenow m0 fun e108 l108 => ?_
                      subst e108
                      refine E.st rfl rfl (N.call0 t_laws_eqRuleS rfl rfl rfl (by decide) (fun w Lp hA => ⟨hA.ow (mS (mS (mS (mS (mS (mS (mS (mS (mS m0))))))))), hA.ow m0⟩)) (fun _ _ => (Ent.b (fun q109 => ?_) (fun q109 => ?_)))
                      · refine E.y rfl rfl (by decide) ((Y.not (b := true) rfl).yd) ?_
                        refine E.nil (E.thn (E.cf rfl (E.skipc (E.thn (E.seq (E.seq (E.region (l := [0, 1, 2, 3, 4]) rfl (E.y rfl rfl (by decide) ((Y.mv rfl).yd) ?_))))))))
                        refine E.y rfl rfl (by decide) ((Y.mv rfl).yd) ?_
                        refine E.st rfl rfl (N.call (t_laws_toFactS (by first | omega | assumption | (constructor <;> omega))) rfl rfl rfl (by decide) rfl (fun w Lp hA => hA.ro haFacts)) (fun k113 _ => ?_)
                        obtain ⟨a113, m113, c113⟩ := k113
                        refine Ent.lenow m0 fun e113 l113 => ?_
                        subst e113
                        refine E.st rfl rfl (N.call0 t_laws_eqFactS rfl rfl rfl (by decide) (fun w Lp hA => ⟨hA.ow (mS (mS (mS (mS (mS (mS (mS (mS (mS m0))))))))), hA.ow m0⟩)) (fun _ _ => (Ent.b (fun q114 => ?_) (fun q114 => ?_)))
                        · refine E.y rfl rfl (by decide) ((Y.not (b := true) rfl).yd) ?_
                          refine E.nil (E.thn (E.cf rfl (E.skipc (E.thn (E.seq (E.seq (E.region (l := [0, 1, 2, 3, 4]) rfl (E.y rfl rfl (by decide) ((Y.mv rfl).yd) ?_))))))))
                          refine E.y rfl rfl (by decide) ((Y.mv rfl).yd) ?_
                          refine E.st rfl rfl (N.call (t_laws_toIntS (by first | omega | assumption | (constructor <;> omega))) rfl rfl rfl (by decide) rfl (fun w Lp hA => hA.ro haSeeds)) (fun k118 _ => ?_)
                          obtain ⟨a118, m118, c118⟩ := k118
                          refine Ent.lenow m0 fun e118 l118 => ?_
                          subst e118
                          refine E.st rfl rfl (N.call0 t_laws_eqIntS rfl rfl rfl (by decide) (fun w Lp hA => ⟨hA.ow (mS (mS (mS (mS (mS (mS (mS (mS (mS m0))))))))), hA.ow m0⟩)) (fun _ _ => (Ent.b (fun q119 => ?_) (fun q119 => ?_)))
                          · refine E.y rfl rfl (by decide) ((Y.not (b := true) rfl).yd) ?_
                            refine E.nil (E.thn (E.cf rfl (E.skipc (E.thn (E.seq (E.seq (D.region (fun j => true) mixed (D.y 0 rfl rfl (by decide) (Y.ldS (cs := [_, _]) ty_Fact rfl (Has.pt (mS (mS (mS (mS (mS (mS (mS m0)))))))) rfl) (by kernel_rfl) ?_))))))))
                            refine D.y 1 rfl rfl (by decide) (Y.ldS (cs := [_, _]) ty_lFact rfl (Has.pt (mS (mS (mS (mS (mS (mS (mS (mS (mS (mS (mS (mS (mS (mS (mS (mS (mS (mS (mS (mS (mS (mS m0))))))))))))))))))))))) rfl) (by kernel_rfl) ?_
                            refine D.st 2 rfl rfl (by kernel_rfl) (fun _ => rfl) (N.call (t_laws_toFact (by first | omega | assumption | (constructor <;> omega))) rfl rfl rfl (by decide) rfl (fun w Lp hA => ⟨i6aF_Rel, hA.ro haF_Values⟩)) (fun k123 _ => ?_)
                            obtain ⟨a123, m123, c123⟩ := k123
                            refine Ent.lenow m0 fun e123 l123 => ?_
                            subst e123
                            refine D.st 3 rfl rfl (by kernel_rfl) (fun _ => rfl) (N.call0 t_laws_eqFact rfl rfl rfl (by decide) (fun w Lp hA => ⟨i6aF_Rel, hA.ow (mS (mS (mS (mS (mS (mS (mS (mS (mS m0))))))))), i6aF_Rel, hA.ow m0⟩)) (fun _ _ => (Ent.b (fun q124 => ?_) (fun q124 => ?_)))
                            · refine D.yp 4 rfl rfl (by decide) (Y.not (b := true) rfl) (by kernel_rfl) ?_
                              refine D.done (by kernel_rfl) (E.thn (E.cf rfl (E.skipc (E.thn (E.seq (E.seq (D.region (fun j => true) mixed (D.y 0 rfl rfl (by decide) (Y.ldS (cs := [_]) ty_Proof rfl (Has.pt (mS (mS (mS (mS (mS (mS m0))))))) rfl) (by kernel_rfl) ?_))))))))
                              refine D.y 1 rfl rfl (by decide) (Y.ldS (cs := [_]) ty_lProof rfl (Has.pt (mS (mS (mS (mS (mS (mS (mS (mS (mS (mS (mS (mS (mS (mS (mS (mS (mS (mS (mS (mS (mS (mS m0))))))))))))))))))))))) rfl) (by kernel_rfl) ?_
                              refine D.st 2 rfl rfl (by kernel_rfl) (fun _ => rfl) (N.call (t_laws_toProof (by first | omega | assumption | (constructor <;> omega))) rfl rfl rfl (by decide) rfl (fun w Lp hA => hA.ro haP_Lines)) (fun k128 _ => ?_)
                              obtain ⟨a128, m128, c128⟩ := k128
                              refine Ent.lenow m0 fun e128 l128 => ?_
                              subst e128
                              refine D.st 3 rfl rfl (by kernel_rfl) (fun _ => rfl) (N.call0 t_laws_eqProof rfl rfl rfl (by decide) (fun w Lp hA => ⟨hA.ow (mS (mS (mS (mS (mS (mS (mS (mS m0)))))))), hA.ow m0⟩)) (fun _ _ => (Ent.b (fun q129 => ?_) (fun q129 => ?_)))
                              · refine D.yp 4 rfl rfl (by decide) (Y.not (b := true) rfl) (by kernel_rfl) ?_
                                refine D.done (by kernel_rfl) (E.thn (E.cf rfl (E.skipc (E.thn (E.seq (E.region (l := [0]) rfl (E.y rfl rfl (by decide) ((Y.as rfl).yd) ?_)))))))
                                exact E.nil (E.thn (E.ret (F.r1 (Back.refl _ _) rfl rfl () trivial rfl (J := _) (.refl _) (.inl rfl))))
                              · refine D.yp 4 rfl rfl (by decide) (Y.not (b := false) rfl) (by kernel_rfl) ?_
                                refine D.done (by kernel_rfl) (E.thn (E.ct rfl (E.seq (E.region (l := [0]) rfl (E.y rfl rfl (by decide) ((Y.as rfl).yd) ?_)))))
                                exact E.nil (E.thn (E.ret (E.thr (F.r1 (Back.refl _ _) rfl rfl () trivial (congrArg Value.bool (by simp_all)) (J := _) (.refl _) (.inl rfl)))))
                            · refine D.yp 4 rfl rfl (by decide) (Y.not (b := false) rfl) (by kernel_rfl) ?_
                              refine D.done (by kernel_rfl) (E.thn (E.ct rfl (E.seq (E.region (l := [0]) rfl (E.y rfl rfl (by decide) ((Y.as rfl).yd) ?_)))))
                              exact E.nil (E.thn (E.ret (E.thr (F.r1 (Back.refl _ _) rfl rfl () trivial (congrArg Value.bool (by simp_all)) (J := _) (.refl _) (.inl rfl)))))
                          · refine E.y rfl rfl (by decide) ((Y.not (b := false) rfl).yd) ?_
                            refine E.nil (E.thn (E.ct rfl (E.seq (E.region (l := [0]) rfl (E.y rfl rfl (by decide) ((Y.as rfl).yd) ?_)))))
                            exact E.nil (E.thn (E.ret (E.thr (F.r1 (Back.refl _ _) rfl rfl () trivial (congrArg Value.bool (by simp_all)) (J := _) (.refl _) (.inl rfl)))))
                        · refine E.y rfl rfl (by decide) ((Y.not (b := false) rfl).yd) ?_
                          refine E.nil (E.thn (E.ct rfl (E.seq (E.region (l := [0]) rfl (E.y rfl rfl (by decide) ((Y.as rfl).yd) ?_)))))
                          exact E.nil (E.thn (E.ret (E.thr (F.r1 (Back.refl _ _) rfl rfl () trivial (congrArg Value.bool (by simp_all)) (J := _) (.refl _) (.inl rfl)))))
                      · refine E.y rfl rfl (by decide) ((Y.not (b := false) rfl).yd) ?_
                        refine E.nil (E.thn (E.ct rfl (E.seq (E.region (l := [0]) rfl (E.y rfl rfl (by decide) ((Y.as rfl).yd) ?_)))))
                        exact E.nil (E.thn (E.ret (E.thr (F.r1 (Back.refl _ _) rfl rfl () trivial (congrArg Value.bool (by simp_all)) (J := _) (.refl _) (.inl rfl)))))
                    · refine E.y rfl rfl (by decide) ((Y.not (b := false) rfl).yd) ?_
                      refine E.nil (E.thn (E.ct rfl (E.seq (E.region (l := [0]) rfl (E.y rfl rfl (by decide) ((Y.as rfl).yd) ?_)))))
                      exact E.nil (E.thn (E.ret (E.thr (F.r1 (Back.refl _ _) rfl rfl () trivial (congrArg Value.bool (by simp_all)) (J := _) (.refl _) (.inl rfl)))))
                  · refine E.y rfl rfl (by decide) ((Y.not (b := false) rfl).yd) ?_
                    refine E.nil (E.thn (E.ct rfl (E.seq (E.region (l := [0]) rfl (E.y rfl rfl (by decide) ((Y.as rfl).yd) ?_)))))
                    exact E.nil (E.thn (E.ret (E.thr (F.r1 (Back.refl _ _) rfl rfl () trivial (congrArg Value.bool (by simp_all)) (J := _) (.refl _) (.inl rfl)))))
end Go.Proofs.YtfnagmokplpnjaaGreat
