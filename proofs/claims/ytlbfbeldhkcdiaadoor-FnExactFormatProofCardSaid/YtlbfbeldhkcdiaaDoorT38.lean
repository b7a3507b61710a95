import Derived.Test.YtlbfbeldhkcdiaaDoorBe
import Derived.Test.YtlbfbeldhkcdiaaDoorBb
import Derived.Test.YtlbfbeldhkcdiaaDoorT3
import Derived.Test.YtlbfbeldhkcdiaaDoorT5
import Derived.Test.YtlbfbeldhkcdiaaDoorBd
import Derived.Test.YtlbfbeldhkcdiaaDoorT1
import Derived.Test.YtlbfbeldhkcdiaaDoorBc
import Derived.Test.YtlbfbeldhkcdiaaDoorDx
import Derived.Test.YtlbfbeldhkcdiaaDoorBf
import Derived.Test.YtlbfbeldhkcdiaaDoorDy
import Derived.Test.YtlbfbeldhkcdiaaDoorBn
import Derived.Test.YtlbfbeldhkcdiaaDoorEf
import Derived.Test.YtlbfbeldhkcdiaaDoorDr
import Derived.Test.YtlbfbeldhkcdiaaDoorBh
import Derived.Test.YtlbfbeldhkcdiaaDoorDs
import Derived.Test.YtlbfbeldhkcdiaaDoorBi
import Derived.Test.YtlbfbeldhkcdiaaDoorBk
namespace Go.Proofs.YtlbfbeldhkcdiaaDoor
open Go.RowKit
set_option linter.unusedVariables false
set_option linter.unusedSimpArgs false
set_option maxHeartbeats 2000000
attribute [local irreducible] Nop Yd Yp Ent Has Tr FnP FnP2 Src listsF opnF opn1 opnR chainB
theorem t_laws_szLine {a_Rule : Int} {a_Access_Method : Int} {a_a_Access_Values : Option Addr} {m_a_Access_Values c_a_Access_Values : Nat} {a_Access_Values : List Int} {a_Fact_Rel : Int} {a_a_Fact_Values : Option Addr} {m_a_Fact_Values c_a_Fact_Values : Nat} {a_Fact_Values : List Int} {left : Int} : Tr Tryd.prog 74 [.agg #[.int .i64 a_Rule, .int .i64 a_Access_Method, .slice a_a_Access_Values m_a_Access_Values c_a_Access_Values, .int .i64 a_Fact_Rel, .slice a_a_Fact_Values m_a_Fact_Values c_a_Fact_Values], .int .i64 left] (fun w L => I64 a_Rule ∧ I64 a_Access_Method ∧ Ro w L eIs [.slice a_a_Access_Values m_a_Access_Values c_a_Access_Values] a_Access_Values ∧ I64 a_Fact_Rel ∧ Ro w L eIs [.slice a_a_Fact_Values m_a_Fact_Values c_a_Fact_Values] a_Fact_Values ∧ 0 ≤ left ∧ left ≤ 1048576) [] (κ := Unit) (fun k => True) (fun k => .int .i64 (szR (a_Access_Values.length + a_Fact_Values.length) left)) (fun k => []) := by
  refine Tr.intro Tryd.func74 rfl (n := 18) rfl (by decide +kernel) (Nat.le_of_ble_eq_true rfl) (fr := [(0, .agg #[.int .i64 a_Rule, .int .i64 a_Access_Method, .slice a_a_Access_Values m_a_Access_Values c_a_Access_Values, .int .i64 a_Fact_Rel, .slice a_a_Fact_Values m_a_Fact_Values c_a_Fact_Values]), (1, .int .i64 left)]) rfl fun w L hR => ?_
  obtain ⟨i6a_Rule, i6a_Access_Method, ha_Access_Values, i6a_Fact_Rel, ha_Fact_Values, as0, as1⟩ := hR
  obtain ⟨rfl, la_Access_Values⟩ := ha_Access_Values.slen
  obtain ⟨rfl, la_Fact_Values⟩ := ha_Fact_Values.slen
  refine E.seq (E.region (l := [0, 1]) rfl (E.st rfl rfl (N.box (cs := [_, _, _, _, _]) rfl (by decide) rfl) (fun b2 _ => ?_)))
  refine E.y rfl rfl (by decide) ((Y.as rfl).yd) ?_
  refine E.nil (E.thn (E.seq (E.region (l := [0, 1, 2, 3, 4]) rfl (E.y rfl rfl (by decide) ((Y.fld fo_lLine_1 ty_lAccess (by decide) rfl).yd) ?_))))
  refine E.y rfl rfl (by decide) (Y.ldS (cs := [_, _]) ty_lAccess rfl ((Has.pt m0).sub (cs' := [_, _]) 1 rfl) rfl) ?_
  refine E.y rfl rfl (by decide) ((Y.mv rfl).yd) ?_
  refine E.st rfl rfl (N.call0 t_laws_szAccess rfl rfl rfl (by decide) (fun w Lp hA => ⟨i6a_Access_Method, hA.ro ha_Access_Values, (by first | assumption | omega), (by first | assumption | omega)⟩)) (fun _ _ => ?_)
  refine E.y rfl rfl (by decide) ((Y.as rfl).yd) ?_
  refine E.nil (E.thn (E.seq (E.seq (E.region (l := [0, 1]) rfl (E.y rfl rfl (by decide) ((Y.mv rfl).yd) ?_)))))
  refine E.y rfl rfl (by decide) ((Y.lss rfl rfl).yd) (Ent.d (fun q10 => ?_) (fun q10 => ?_))
  · have z10 := szR_bad q10 (by omega)
    refine E.nil (E.thn (E.ct rfl (E.seq (E.region (l := [0]) rfl (E.y rfl rfl (by decide) ((Y.as rfl).yd) ?_)))))
    exact E.nil (E.thn (E.ret (E.thr (F.r1 (Back.refl _ _) rfl rfl () trivial (congrArg (Value.int .i64) (by unfold szR; split <;> omega)) (J := _) (.refl _) (.inl rfl)))))
  · obtain ⟨z10, y10⟩ := szR_ok q10 (by omega)
    refine E.nil (E.thn (E.cf rfl (E.skipc (E.thn (E.seq (E.region (l := [0, 1, 2, 3, 4]) rfl (E.y rfl rfl (by decide) ((Y.fld fo_lLine_2 ty_lFact (by decide) rfl).yd) ?_)))))))
    refine E.y rfl rfl (by decide) (Y.ldS (cs := [_, _]) ty_lFact rfl ((Has.pt m0).sub (cs' := [_, _]) 3 rfl) rfl) ?_
    refine E.y rfl rfl (by decide) ((Y.mv rfl).yd) ?_
    refine E.st rfl rfl (N.call0 t_laws_szFact rfl rfl rfl (by decide) (fun w Lp hA => ⟨i6a_Fact_Rel, hA.ro ha_Fact_Values, (by first | assumption | omega), (by first | assumption | omega)⟩)) (fun _ _ => ?_)
    refine E.y rfl rfl (by decide) ((Y.as rfl).yd) ?_
    refine E.nil (E.thn (E.seq (E.seq (E.region (l := [0, 1]) rfl (E.y rfl rfl (by decide) ((Y.mv rfl).yd) ?_)))))
    refine E.y rfl rfl (by decide) ((Y.lss rfl rfl).yd) (Ent.d (fun q16 => ?_) (fun q16 => ?_))
    · have z16 := szR_bad q16 (by omega)
      refine E.nil (E.thn (E.ct rfl (E.seq (E.region (l := [0]) rfl (E.y rfl rfl (by decide) ((Y.as rfl).yd) ?_)))))
      exact E.nil (E.thn (E.ret (E.thr (F.r1 (Back.refl _ _) rfl rfl () trivial (congrArg (Value.int .i64) (by unfold szR; split <;> omega)) (J := _) (.refl _) (.inl rfl)))))
    · obtain ⟨z16, y16⟩ := szR_ok q16 (by omega)
      refine E.nil (E.thn (E.cf rfl (E.skipc (E.thn (E.seq (E.region (l := [0, 1]) rfl (E.y rfl rfl (by decide) ((Y.mv rfl).yd) ?_)))))))
      refine E.y rfl rfl (by decide) ((Y.as rfl).yd) ?_
      exact E.nil (E.thn (E.ret (F.r1 (Back.refl _ _) rfl rfl () trivial (congrArg (Value.int .i64) (by have e : szR (a_Access_Values.length + a_Fact_Values.length) left = left - ((a_Access_Values.length + a_Fact_Values.length : Nat) : Int) := by { unfold szR; split <;> omega }; omega)) (J := _) (.refl _) (.inl rfl))))
theorem t_laws_toLine {a_Rule : Int} {a_Access_Method : Int} {a_a_Access_Values : Option Addr} {m_a_Access_Values c_a_Access_Values : Nat} {a_Access_Values : List Int} {a_Fact_Rel : Int} {a_a_Fact_Values : Option Addr} {m_a_Fact_Values c_a_Fact_Values : Nat} {a_Fact_Values : List Int} (h2 : a_Access_Values.length ≤ 1048576) (h4 : a_Fact_Values.length ≤ 1048576) : Tr Tryd.prog 75 [.agg #[.int .i64 a_Rule, .int .i64 a_Access_Method, .slice a_a_Access_Values m_a_Access_Values c_a_Access_Values, .int .i64 a_Fact_Rel, .slice a_a_Fact_Values m_a_Fact_Values c_a_Fact_Values]] (fun w L => I64 a_Rule ∧ I64 a_Access_Method ∧ Ro w L eIs [.slice a_a_Access_Values m_a_Access_Values c_a_Access_Values] a_Access_Values ∧ I64 a_Fact_Rel ∧ Ro w L eIs [.slice a_a_Fact_Values m_a_Fact_Values c_a_Fact_Values] a_Fact_Values) [] (κ := (Option Addr × Nat × Nat) × (Option Addr × Nat × Nat)) (fun k => True) (fun k => .agg #[.int .i64 a_Rule, .int .i64 a_Access_Method, .slice k.1.1 k.1.2.1 k.1.2.2, .int .i64 a_Fact_Rel, .slice k.2.1 k.2.2.1 k.2.2.2]) (fun k => [ow eIs [.slice k.1.1 k.1.2.1 k.1.2.2] a_Access_Values, ow eIs [.slice k.2.1 k.2.2.1 k.2.2.2] a_Fact_Values]) := by
  refine Tr.intro Tryd.func75 rfl (n := 16) rfl (by decide +kernel) (Nat.le_of_ble_eq_true rfl) (fr := [(0, .agg #[.int .i64 a_Rule, .int .i64 a_Access_Method, .slice a_a_Access_Values m_a_Access_Values c_a_Access_Values, .int .i64 a_Fact_Rel, .slice a_a_Fact_Values m_a_Fact_Values c_a_Fact_Values])]) rfl fun w L hR => ?_
  obtain ⟨i6a_Rule, i6a_Access_Method, ha_Access_Values, i6a_Fact_Rel, ha_Fact_Values⟩ := hR
  obtain ⟨rfl, la_Access_Values⟩ := ha_Access_Values.slen
  obtain ⟨rfl, la_Fact_Values⟩ := ha_Fact_Values.slen
  refine E.seq (E.region (l := [0, 1]) rfl (E.st rfl rfl (N.box (cs := [_, _, _, _, _]) rfl (by decide) rfl) (fun b1 _ => ?_)))
  refine E.st rfl rfl (N.alloc ty_Line (by decide)) (fun b2 _ => ?_)
  refine E.nil (E.thn (E.seq (E.region (l := [0]) rfl (E.st rfl rfl (N.alloc ty_Line (by decide)) (fun b3 _ => ?_)))))
  refine E.nil (E.thn (E.seq (E.region (l := [0, 1, 2, 3]) rfl (E.y rfl rfl (by decide) ((Y.fld fo_lLine_0 ty_I (by decide) rfl).yd) ?_))))
  refine E.y rfl rfl (by decide) (Y.ld1 ty_I rfl ((Has.pt (mS (mS m0))).sub (cs' := [_]) 0 rfl) rfl) ?_
  refine E.y rfl rfl (by decide) ((Y.fld fo_Line_0 ty_I (by decide) rfl).yd) ?_
  refine E.st rfl rfl (N.sto (vs := [_]) (cs' := [_, _, _, _, _]) ty_I rfl rfl rfl rfl rfl (Nat.le_of_ble_eq_true rfl) rfl) (fun _ _ => ?_)
  refine E.nil (E.thn (E.seq (E.region (l := [0, 1, 2, 3, 4]) rfl (E.y rfl rfl (by decide) ((Y.fld fo_lLine_1 ty_lAccess (by decide) rfl).yd) ?_))))
  refine E.y rfl rfl (by decide) (Y.ldS (cs := [_, _]) ty_lAccess rfl ((Has.pt (mS (mS m0))).sub (cs' := [_, _]) 1 rfl) rfl) ?_
  refine E.st rfl rfl (N.call (t_laws_toAccess (by first | omega | assumption | (constructor <;> omega))) rfl rfl rfl (by decide) rfl (fun w Lp hA => ⟨i6a_Access_Method, hA.ro ha_Access_Values⟩)) (fun k9 _ => ?_)
  obtain ⟨a9, m9, c9⟩ := k9
  refine Ent.lenow m0 fun e9 l9 => ?_
  subst e9
  refine E.y rfl rfl (by decide) ((Y.fld fo_Line_1 ty_Access (by decide) rfl).yd) ?_
  refine Ent.p1 ?_
  refine E.st rfl rfl (N.sto (vs := [_, _]) (cs' := [_, _, _, _, _]) ty_Access rfl rfl rfl rfl rfl (Nat.le_of_ble_eq_true rfl) rfl) (fun _ _ => ?_)
  refine E.nil (E.thn (E.seq (E.region (l := [0, 1, 2, 3, 4]) rfl (E.y rfl rfl (by decide) ((Y.fld fo_lLine_2 ty_lFact (by decide) rfl).yd) ?_))))
  refine E.y rfl rfl (by decide) (Y.ldS (cs := [_, _]) ty_lFact rfl ((Has.pt (mS (mS (mS m0)))).sub (cs' := [_, _]) 3 rfl) rfl) ?_
  refine E.st rfl rfl (N.call (t_laws_toFact (by first | omega | assumption | (constructor <;> omega))) rfl rfl rfl (by decide) rfl (fun w Lp hA => ⟨i6a_Fact_Rel, hA.ro ha_Fact_Values⟩)) (fun k13 _ => ?_)
  obtain ⟨a13, m13, c13⟩ := k13
  refine Ent.lenow m0 fun e13 l13 => ?_
  subst e13
  refine E.y rfl rfl (by decide) ((Y.fld fo_Line_2 ty_Fact (by decide) rfl).yd) ?_
  refine Ent.p1 ?_
  refine E.st rfl rfl (N.sto (vs := [_, _]) (cs' := [_, _, _, _, _]) ty_Fact rfl rfl rfl rfl rfl (Nat.le_of_ble_eq_true rfl) rfl) (fun _ _ => ?_)
  refine E.nil (E.thn (E.seq (E.region (l := [0, 1]) rfl (E.y rfl rfl (by decide) (Y.ldS (cs := [_, _, _, _, _]) ty_Line rfl (Has.pt m0) rfl) ?_))))
  refine Ent.p3 ?_
  refine E.st rfl rfl (N.sto (vs := [_, _, _, _, _]) (cs' := [_, _, _, _, _]) ty_Line rfl rfl rfl rfl rfl (Nat.le_of_ble_eq_true rfl) rfl) (fun _ _ => ?_)
  refine E.nil (E.thn (E.ret (Ent.p2 ?_)))
  refine Ent.p3 ?_
  refine Ent.p1 ?_
  refine Ent.p1 ?_
  exact F.c1 (Back.refl _ _) rfl rfl (mS (mS m0)) ty_Line rfl ((_, _, _), (_, _, _)) trivial rfl (J := _) (.refl _) (.inl rfl)
theorem t_laws_eqLine {a_Rule : Int} {a_Access_Method : Int} {a_a_Access_Values : Option Addr} {m_a_Access_Values c_a_Access_Values : Nat} {a_Access_Values : List Int} {a_Fact_Rel : Int} {a_a_Fact_Values : Option Addr} {m_a_Fact_Values c_a_Fact_Values : Nat} {a_Fact_Values : List Int} {b_Rule : Int} {b_Access_Method : Int} {a_b_Access_Values : Option Addr} {m_b_Access_Values c_b_Access_Values : Nat} {b_Access_Values : List Int} {b_Fact_Rel : Int} {a_b_Fact_Values : Option Addr} {m_b_Fact_Values c_b_Fact_Values : Nat} {b_Fact_Values : List Int} : Tr Tryd.prog 77 [.agg #[.int .i64 a_Rule, .int .i64 a_Access_Method, .slice a_a_Access_Values m_a_Access_Values c_a_Access_Values, .int .i64 a_Fact_Rel, .slice a_a_Fact_Values m_a_Fact_Values c_a_Fact_Values], .agg #[.int .i64 b_Rule, .int .i64 b_Access_Method, .slice a_b_Access_Values m_b_Access_Values c_b_Access_Values, .int .i64 b_Fact_Rel, .slice a_b_Fact_Values m_b_Fact_Values c_b_Fact_Values]] (fun w L => I64 a_Rule ∧ I64 a_Access_Method ∧ Ro w L eIs [.slice a_a_Access_Values m_a_Access_Values c_a_Access_Values] a_Access_Values ∧ I64 a_Fact_Rel ∧ Ro w L eIs [.slice a_a_Fact_Values m_a_Fact_Values c_a_Fact_Values] a_Fact_Values ∧ I64 b_Rule ∧ I64 b_Access_Method ∧ Ro w L eIs [.slice a_b_Access_Values m_b_Access_Values c_b_Access_Values] b_Access_Values ∧ I64 b_Fact_Rel ∧ Ro w L eIs [.slice a_b_Fact_Values m_b_Fact_Values c_b_Fact_Values] b_Fact_Values) [] (κ := Unit) (fun k => True) (fun k => .bool (decide ((a_Rule, (a_Access_Method, a_Access_Values), (a_Fact_Rel, a_Fact_Values)) = (b_Rule, (b_Access_Method, b_Access_Values), (b_Fact_Rel, b_Fact_Values))))) (fun k => []) := by
  refine Tr.intro Tryd.func77 rfl (n := 22) rfl (by decide +kernel) (Nat.le_of_ble_eq_true rfl) (fr := [(0, .agg #[.int .i64 a_Rule, .int .i64 a_Access_Method, .slice a_a_Access_Values m_a_Access_Values c_a_Access_Values, .int .i64 a_Fact_Rel, .slice a_a_Fact_Values m_a_Fact_Values c_a_Fact_Values]), (1, .agg #[.int .i64 b_Rule, .int .i64 b_Access_Method, .slice a_b_Access_Values m_b_Access_Values c_b_Access_Values, .int .i64 b_Fact_Rel, .slice a_b_Fact_Values m_b_Fact_Values c_b_Fact_Values])]) rfl fun w L hR => ?_
  obtain ⟨i6a_Rule, i6a_Access_Method, ha_Access_Values, i6a_Fact_Rel, ha_Fact_Values, i6b_Rule, i6b_Access_Method, hb_Access_Values, i6b_Fact_Rel, hb_Fact_Values⟩ := hR
  obtain ⟨rfl, la_Access_Values⟩ := ha_Access_Values.slen
  obtain ⟨rfl, la_Fact_Values⟩ := ha_Fact_Values.slen
  obtain ⟨rfl, lb_Access_Values⟩ := hb_Access_Values.slen
  obtain ⟨rfl, lb_Fact_Values⟩ := hb_Fact_Values.slen
  refine E.seq (E.region (l := [0, 1, 2]) rfl (E.st rfl rfl (N.box (cs := [_, _, _, _, _]) rfl (by decide) rfl) (fun b2 _ => ?_)))
  refine E.st rfl rfl (N.box (cs := [_, _, _, _, _]) rfl (by decide) rfl) (fun b3 _ => ?_)
  refine E.y rfl rfl (by decide) ((Y.as rfl).yd) ?_
  refine E.nil (E.thn (E.seq (E.seq (E.region (l := [0, 1, 2, 3, 4]) rfl (E.y rfl rfl (by decide) ((Y.fld fo_Line_0 ty_I (by decide) rfl).yd) ?_)))))
  refine E.y rfl rfl (by decide) (Y.ld1 ty_I rfl ((Has.pt (mS m0)).sub (cs' := [_]) 0 rfl) rfl) ?_
  refine E.y rfl rfl (by decide) ((Y.fld fo_Line_0 ty_I (by decide) rfl).yd) ?_
  refine E.y rfl rfl (by decide) (Y.ld1 ty_I rfl ((Has.pt m0).sub (cs' := [_]) 0 rfl) rfl) ?_
  refine E.y rfl rfl (by decide) ((Y.neq rfl rfl).yd) (Ent.d (fun q9 => ?_) (fun q9 => ?_))
  · refine E.nil (E.thn (E.ct rfl (E.seq (E.region (l := [0]) rfl (E.y rfl rfl (by decide) ((Y.as rfl).yd) ?_)))))
    exact E.nil (E.thn (E.ret (E.thr (F.r1 (Back.refl _ _) rfl rfl () trivial (congrArg Value.bool (by simp_all)) (J := _) (.refl _) (.inl rfl)))))
  · refine E.nil (E.thn (E.cf rfl (E.skipc (E.thn (E.seq (E.seq (E.region (l := [0, 1, 2, 3, 4, 5]) rfl (E.y rfl rfl (by decide) ((Y.fld fo_Line_1 ty_Access (by decide) rfl).yd) ?_))))))))
    refine E.y rfl rfl (by decide) (Y.ldS (cs := [_, _]) ty_Access rfl ((Has.pt (mS m0)).sub (cs' := [_, _]) 1 rfl) rfl) ?_
    refine E.y rfl rfl (by decide) ((Y.fld fo_Line_1 ty_Access (by decide) rfl).yd) ?_
    refine E.y rfl rfl (by decide) (Y.ldS (cs := [_, _]) ty_Access rfl ((Has.pt m0).sub (cs' := [_, _]) 1 rfl) rfl) ?_
    refine E.st rfl rfl (N.call0 t_laws_eqAccess rfl rfl rfl (by decide) (fun w Lp hA => ⟨i6a_Access_Method, hA.ro ha_Access_Values, i6b_Access_Method, hA.ro hb_Access_Values⟩)) (fun _ _ => (Ent.b (fun q14 => ?_) (fun q14 => ?_)))
    · refine E.y rfl rfl (by decide) ((Y.not (b := true) rfl).yd) ?_
      refine E.nil (E.thn (E.cf rfl (E.skipc (E.thn (E.seq (E.seq (E.region (l := [0, 1, 2, 3, 4, 5]) rfl (E.y rfl rfl (by decide) ((Y.fld fo_Line_2 ty_Fact (by decide) rfl).yd) ?_))))))))
      refine E.y rfl rfl (by decide) (Y.ldS (cs := [_, _]) ty_Fact rfl ((Has.pt (mS m0)).sub (cs' := [_, _]) 3 rfl) rfl) ?_
      refine E.y rfl rfl (by decide) ((Y.fld fo_Line_2 ty_Fact (by decide) rfl).yd) ?_
      refine E.y rfl rfl (by decide) (Y.ldS (cs := [_, _]) ty_Fact rfl ((Has.pt m0).sub (cs' := [_, _]) 3 rfl) rfl) ?_
      refine E.st rfl rfl (N.call0 t_laws_eqFact rfl rfl rfl (by decide) (fun w Lp hA => ⟨i6a_Fact_Rel, hA.ro ha_Fact_Values, i6b_Fact_Rel, hA.ro hb_Fact_Values⟩)) (fun _ _ => (Ent.b (fun q20 => ?_) (fun q20 => ?_)))
      · refine E.y rfl rfl (by decide) ((Y.not (b := true) rfl).yd) ?_
        refine E.nil (E.thn (E.cf rfl (E.skipc (E.thn (E.seq (E.region (l := [0]) rfl (E.y rfl rfl (by decide) ((Y.as rfl).yd) ?_)))))))
        exact E.nil (E.thn (E.ret (F.r1 (Back.refl _ _) rfl rfl () trivial (congrArg Value.bool (by simp_all)) (J := _) (.refl _) (.inl rfl))))
      · refine E.y rfl rfl (by decide) ((Y.not (b := false) rfl).yd) ?_
        refine E.nil (E.thn (E.ct rfl (E.seq (E.region (l := [0]) rfl (E.y rfl rfl (by decide) ((Y.as rfl).yd) ?_)))))
        exact E.nil (E.thn (E.ret (E.thr (F.r1 (Back.refl _ _) rfl rfl () trivial (congrArg Value.bool (by simp_all)) (J := _) (.refl _) (.inl rfl)))))
    · refine E.y rfl rfl (by decide) ((Y.not (b := false) rfl).yd) ?_
      refine E.nil (E.thn (E.ct rfl (E.seq (E.region (l := [0]) rfl (E.y rfl rfl (by decide) ((Y.as rfl).yd) ?_)))))
      exact E.nil (E.thn (E.ret (E.thr (F.r1 (Back.refl _ _) rfl rfl () trivial (congrArg Value.bool (by simp_all)) (J := _) (.refl _) (.inl rfl)))))
theorem t_laws_szLineS {a_a : Option Addr} {m_a c_a : Nat} {a : List (Int × (Int × List Int) × Int × List Int)} {left : Int} : Tr Tryd.prog 50 [.slice a_a m_a c_a, .int .i64 left] (fun w L => Ro w L eLines [.slice a_a m_a c_a] a ∧ 0 ≤ left ∧ left ≤ 1048576) [] (κ := Unit) (fun k => True) (fun k => .int .i64 (szR (totL (fun x => x.2.1.2.length + x.2.2.2.length) a) left)) (fun k => []) := by
  refine Tr.intro Tryd.func50 rfl (n := 27) rfl (by decide +kernel) (Nat.le_of_ble_eq_true rfl) (fr := [(0, .slice a_a m_a c_a), (1, .int .i64 left)]) rfl fun w L hR => ?_
  obtain ⟨ha, as0, as1⟩ := hR
  obtain ⟨rfl, la⟩ := ha.slen
  refine E.seq (E.region (l := [0]) rfl (E.y rfl rfl (by decide) ((Y.as rfl).yd) ?_))
  refine E.nil (E.thn (E.seq (E.region (l := [0, 1, 2, 3, 4]) rfl (E.y rfl rfl (by decide) ((Y.mv rfl).yd) ?_))))
  refine E.y rfl rfl (by decide) ((Y.mv rfl).yd) ?_
  refine E.y rfl rfl (by decide) ((Y.len us_lLines rfl).yd) ?_
  refine E.y rfl rfl (by decide) ((Y.sub rfl rfl (by omega) (by omega)).yd) ?_
  refine E.y rfl rfl (by decide) ((Y.as rfl).yd) ?_
  refine E.nil (E.thn (E.seq (E.seq (E.region (l := [0, 1]) rfl (E.y rfl rfl (by decide) ((Y.mv rfl).yd) ?_)))))
  refine E.y rfl rfl (by decide) ((Y.lss rfl rfl).yd) (Ent.d (fun q11 => ?_) (fun q11 => ?_))
  · refine E.nil (E.thn (E.ct rfl (E.seq (E.region (l := [0]) rfl (E.y rfl rfl (by decide) ((Y.as rfl).yd) ?_)))))
    exact E.nil (E.thn (E.ret (E.thr (F.r1 (Back.refl _ _) rfl rfl () trivial (congrArg (Value.int .i64) (by exact szS_no1 q11)) (J := _) (.refl _) (.inl rfl)))))
  · refine E.nil (E.thn (E.cf rfl (E.skipc (E.thn (E.seq (E.seq (E.region (l := [0]) rfl (E.y rfl rfl (by decide) ((Y.as rfl).yd) ?_))))))))
    refine E.nil (E.thn (E.block (E.loop (κ := Nat) (fun g => g ≤ a.length ∧ (a.length : Int) + (totS (fun x => x.2.1.2.length + x.2.2.2.length) (a.take g) : Nat) ≤ left) (fun g => [(0, .slice a_a a.length c_a), (1, .int .i64 (left - ((a.length : Int) + (totS (fun x => x.2.1.2.length + x.2.2.2.length) (a.take g) : Nat)))), (5, .int .i64 (↑g : Int))]) (fun g => []) (fun g => a.length - g) 0 ⟨by omega, by simp [totS]; omega⟩ ⟨rfl, frI (by simp [totS]), rfl, trivial⟩ (.refl _) (fun g pg => ?_))))
    obtain ⟨pk, pa⟩ := pg
    refine E.seq (E.seq (E.region (l := [0, 1, 2, 3]) rfl (E.y rfl rfl (by decide) ((Y.mv rfl).yd) ?_)))
    refine E.y rfl rfl (by decide) ((Y.mv rfl).yd) ?_
    refine E.y rfl rfl (by decide) ((Y.len us_lLines rfl).yd) ?_
    refine E.y rfl rfl (by decide) ((Y.lss rfl rfl).yd) (Ent.d (fun q15 => ?_) (fun q15 => ?_))
    · refine E.nil (E.thn (E.ct rfl (E.skipc (E.thn (E.seq (E.block (E.seq (E.region (l := [0, 1, 2, 3, 4, 5, 6]) rfl (E.y rfl rfl (by decide) ((Y.mv rfl).yd) ?_)))))))))
      refine E.y rfl rfl (by decide) ((Y.mv rfl).yd) ?_
      obtain ⟨eb20, eo20, ec20, ea20, er20, el20, eh20⟩ := ha.elem g (by omega)
      obtain ⟨xa20_0, xc20_0, xa20_1, xc20_1, rfl, ei20_0, ei20_1, xh20_0, ei20_3, xh20_1⟩ := Ro.pLine er20
      have := xh20_0.slen.2
      have := xh20_1.slen.2
      refine E.y rfl rfl (by decide) ((Y.ix us_lLines ty_lLine rfl ea20 rfl g rfl (by omega)).yd) ?_
      refine E.y rfl rfl (by decide) (Y.ldS (cs := [_, _, _, _, _]) ty_lLine rfl (eh20 _) rfl) ?_
      refine E.y rfl rfl (by decide) ((Y.mv rfl).yd) ?_
      refine E.st rfl rfl (N.call0 t_laws_szLine rfl rfl rfl (by decide) (fun w Lp hA => ⟨ei20_0, ei20_1, hA.ro xh20_0, ei20_3, hA.ro xh20_1, (by first | assumption | omega), (by first | assumption | omega)⟩)) (fun _ _ => ?_)
      refine E.y rfl rfl (by decide) ((Y.as rfl).yd) ?_
      refine E.nil (E.thn (E.seq (E.region (l := [0, 1]) rfl (E.y rfl rfl (by decide) ((Y.mv rfl).yd) ?_))))
      refine E.y rfl rfl (by decide) ((Y.lss rfl rfl).yd) (Ent.d (fun q25 => ?_) (fun q25 => ?_))
      · have z25 := szR_bad q25 (by omega)
        refine E.nil (E.thn (E.ct rfl (E.seq (E.region (l := [0]) rfl (E.y rfl rfl (by decide) ((Y.as rfl).yd) ?_)))))
        exact E.nil (E.thn (E.ret (E.blr (E.thr (E.thr (E.blr (E.thr (F.r1 (Back.refl _ _) rfl rfl () trivial (congrArg (Value.int .i64) (by exact szS_no2 (t := (fun x => x.2.1.2.length + x.2.2.2.length)) (n := a[g].2.1.2.length + a[g].2.2.2.length) (show g < a.length by omega) rfl (by omega))) (J := _) (.refl _) (.inl rfl)))))))))
      · obtain ⟨z25, y25⟩ := szR_ok q25 (by omega)
        refine E.nil (E.thn (E.cf rfl (E.skipc (E.bln (E.thn (E.region (l := [0, 1, 2]) rfl (E.y rfl rfl (by decide) ((Y.mv rfl).yd) ?_)))))))
        refine E.y rfl rfl (by decide) ((Y.add rfl rfl (by omega) (by omega)).yd) ?_
        refine E.y rfl rfl (by decide) ((Y.as rfl).yd) ?_
        exact E.nil (E.thn (E.again (Back.refl _ _) (g + 1) ⟨rfl, frI (by rw [z25]; have y := totS_step (t := (fun x => x.2.1.2.length + x.2.2.2.length)) (show g < a.length by omega); omega), rfl, trivial⟩ (.refl _) ⟨by omega, by have y := totS_step (t := (fun x => x.2.1.2.length + x.2.2.2.length)) (show g < a.length by omega); omega⟩ (by omega)))
    · refine E.nil (E.thn (E.cf rfl (E.exit (E.the (E.the (E.blh (E.thn (E.seq (E.region (l := [0, 1]) rfl (E.y rfl rfl (by decide) ((Y.mv rfl).yd) ?_))))))))))
      refine E.y rfl rfl (by decide) ((Y.as rfl).yd) ?_
      exact E.nil (E.thn (E.ret (F.r1 (Back.refl _ _) rfl rfl () trivial (congrArg (Value.int .i64) (by exact szS_yes (t := (fun x => x.2.1.2.length + x.2.2.2.length)) (show a.length ≤ g by omega) pa)) (J := _) (.refl _) (.inl rfl))))
theorem t_laws_toLineS {a_a : Option Addr} {m_a c_a : Nat} {a : List (Int × (Int × List Int) × Int × List Int)} (hz : totL (fun x => x.2.1.2.length + x.2.2.2.length) a ≤ 1048576) : Tr Tryd.prog 53 [.slice a_a m_a c_a] (fun w L => Ro w L eLines [.slice a_a m_a c_a] a) [] (κ := Option Addr × Nat × Nat) (fun k => True) (fun k => .slice k.1 k.2.1 k.2.2) (fun k => [ow eLines [.slice k.1 k.2.1 k.2.2] a]) := by
  refine Tr.intro Tryd.func53 rfl (n := 23) rfl (by decide +kernel) (Nat.le_of_ble_eq_true rfl) (fr := [(0, .slice a_a m_a c_a)]) rfl fun w L hR => ?_
  have ha := hR
  obtain ⟨rfl, la⟩ := ha.slen
  have hlen : a.length ≤ totL (fun x => x.2.1.2.length + x.2.2.2.length) a := by unfold totL; omega
  refine E.seq (E.region (l := [0]) rfl (E.y rfl rfl (by decide) ((Y.as rfl).yd) ?_))
  refine E.nil (E.thn (E.seq (E.region (l := [0, 1, 2, 3]) rfl (E.y rfl rfl (by decide) ((Y.mv rfl).yd) ?_))))
  refine E.y rfl rfl (by decide) ((Y.len us_lLines rfl).yd) ?_
  refine E.st rfl rfl (N.make (m := a.length) us_Lines ty_Line rfl rfl rfl (by unfold maxLen; omega) (by omega) (by decide)) (fun b7 _ => ?_)
  refine Ent.mkow (A := [_]) (Own.made (E := eLine) (e := tLine) (zx := (0, (0, []), (0, []))) (Own.mkLine (x := (0, (0, []), (0, []))) ⟨by decide, by decide⟩ ⟨by decide, by decide⟩ Own.nil ⟨by decide, by decide⟩ Own.nil) (by unfold maxLen; omega)) rfl ?_
  refine E.y rfl rfl (by decide) ((Y.as rfl).yd) ?_
  refine E.nil (E.thn (E.seq (E.seq (E.region (l := [0]) rfl (E.y rfl rfl (by decide) ((Y.as rfl).yd) ?_)))))
  refine E.nil (E.thn (E.block (E.loop (κ := Nat) (fun g => g ≤ a.length) (fun g => [(0, .slice a_a a.length c_a), (3, .slice (some ⟨b7, 0, none⟩) a.length a.length), (4, .int .i64 (↑g : Int))]) (fun g => [ow eLines [.slice (some ⟨b7, 0, none⟩) a.length a.length] (a.take g ++ List.replicate (a.length - g) (0, (0, []), (0, [])))]) (fun g => a.length - g) 0 (Nat.zero_le _) ⟨rfl, rfl, rfl, trivial⟩ (by simp) (fun g pg => ?_))))
  refine E.seq (E.seq (E.region (l := [0, 1, 2, 3]) rfl (E.y rfl rfl (by decide) ((Y.mv rfl).yd) ?_)))
  refine E.y rfl rfl (by decide) ((Y.mv rfl).yd) ?_
  refine E.y rfl rfl (by decide) ((Y.len us_lLines rfl).yd) ?_
  refine E.y rfl rfl (by decide) ((Y.lss rfl rfl).yd) (Ent.d (fun q11 => ?_) (fun q11 => ?_))
  · refine E.nil (E.thn (E.ct rfl (E.skipc (E.thn (E.seq (E.block (E.region (l := [0, 1, 2, 3, 4, 5, 6, 7, 8]) rfl (E.y rfl rfl (by decide) ((Y.mv rfl).yd) ?_))))))))
    refine E.y rfl rfl (by decide) ((Y.mv rfl).yd) ?_
    refine E.y rfl rfl (by decide) ((Y.mv rfl).yd) ?_
    refine E.y rfl rfl (by decide) ((Y.mv rfl).yd) ?_
    obtain ⟨eb18, eo18, ec18, ea18, er18, el18, eh18⟩ := ha.elem g (by omega)
    obtain ⟨xa18_0, xc18_0, xa18_1, xc18_1, rfl, ei18_0, ei18_1, xh18_0, ei18_3, xh18_1⟩ := Ro.pLine er18
    have := xh18_0.slen.2
    have := xh18_1.slen.2
    refine E.y rfl rfl (by decide) ((Y.ix us_lLines ty_lLine rfl ea18 rfl g rfl (by omega)).yd) ?_
    refine E.y rfl rfl (by decide) (Y.ldS (cs := [_, _, _, _, _]) ty_lLine rfl (eh18 _) rfl) ?_
    refine E.st rfl rfl (N.call (t_laws_toLine (by have y := tot_elem (t := (fun x => x.2.1.2.length + x.2.2.2.length)) (l := a) (g := g) (by omega); omega) (by have y := tot_elem (t := (fun x => x.2.1.2.length + x.2.2.2.length)) (l := a) (g := g) (by omega); omega)) rfl rfl rfl (by decide) rfl (fun w Lp hA => ⟨ei18_0, ei18_1, hA.ro xh18_0, ei18_3, hA.ro xh18_1⟩)) (fun k20 _ => ?_)
    obtain ⟨⟨a20_0, m20_0, c20_0⟩, ⟨a20_1, m20_1, c20_1⟩⟩ := k20
    refine Ent.lenow m0 fun e20_0 l20_0 => ?_
    subst e20_0
    refine Ent.lenow (mS m0) fun e20_1 l20_1 => ?_
    subst e20_1
    refine E.y rfl rfl (by decide) ((Y.ix us_Lines ty_Line rfl rfl rfl g rfl (by omega)).yd) ?_
    refine Ent.p1 ?_
    refine Ent.p1 ?_
    refine Ent.p2 ?_
    refine E.st rfl rfl (N.set (E := eLine) (j := g) (ex := a[g]) (ce := [_, _, _, _, _]) ty_Line rfl rfl rfl rfl (Own.mkLine (x := a[g]) ei18_0 ei18_1 Own.ow ei18_3 Own.ow) rfl (Nat.zero_add _) rfl (by simp; omega)) (fun _ _ => ?_)
    refine E.nil (E.bln (E.thn (E.region (l := [0, 1, 2]) rfl (E.y rfl rfl (by decide) ((Y.mv rfl).yd) ?_))))
    refine E.y rfl rfl (by decide) ((Y.add rfl rfl (by omega) (by omega)).yd) ?_
    refine E.y rfl rfl (by decide) ((Y.as rfl).yd) ?_
    exact E.nil (E.thn (E.again (Back.refl _ _) (g + 1) ⟨rfl, rfl, rfl, trivial⟩ (by rw [set_take (by omega) rfl]) (by omega) (by omega)))
  · refine E.nil (E.thn (E.cf rfl (E.exit (E.the (E.the (E.blh (E.thn (E.seq (E.region (l := [0, 1]) rfl (E.y rfl rfl (by decide) ((Y.mv rfl).yd) ?_))))))))))
    refine E.y rfl rfl (by decide) ((Y.as rfl).yd) ?_
    refine E.nil (E.thn (E.ret (Ent.cv (congrArg (ow eLines [_]) (show _ = a by exact take_rep_all (by omega))) ?_)))
    exact F.r1 (Back.refl _ _) rfl rfl (_, _, _) trivial rfl (J := _) (.refl _) (.inl rfl)
theorem t_laws_eqLineS {a_a : Option Addr} {m_a c_a : Nat} {a : List (Int × (Int × List Int) × Int × List Int)} {a_b : Option Addr} {m_b c_b : Nat} {b : List (Int × (Int × List Int) × Int × List Int)} : Tr Tryd.prog 56 [.slice a_a m_a c_a, .slice a_b m_b c_b] (fun w L => Ro w L eLines [.slice a_a m_a c_a] a ∧ Ro w L eLines [.slice a_b m_b c_b] b) [] (κ := Unit) (fun k => True) (fun k => .bool (decide (a = b))) (fun k => []) := by
  refine Tr.intro Tryd.func56 rfl (n := 27) rfl (by decide +kernel) (Nat.le_of_ble_eq_true rfl) (fr := [(0, .slice a_a m_a c_a), (1, .slice a_b m_b c_b)]) rfl fun w L hR => ?_
  obtain ⟨ha, hb⟩ := hR
  obtain ⟨rfl, la⟩ := ha.slen
  obtain ⟨rfl, lb⟩ := hb.slen
  refine E.seq (E.region (l := [0]) rfl (E.y rfl rfl (by decide) ((Y.as rfl).yd) ?_))
  refine E.nil (E.thn (E.seq (E.seq (E.region (l := [0, 1, 2, 3, 4]) rfl (E.y rfl rfl (by decide) ((Y.mv rfl).yd) ?_)))))
  refine E.y rfl rfl (by decide) ((Y.len us_Lines rfl).yd) ?_
  refine E.y rfl rfl (by decide) ((Y.mv rfl).yd) ?_
  refine E.y rfl rfl (by decide) ((Y.len us_Lines rfl).yd) ?_
  refine E.y rfl rfl (by decide) ((Y.neq rfl rfl).yd) (Ent.d (fun q10 => ?_) (fun q10 => ?_))
  · refine E.nil (E.thn (E.ct rfl (E.seq (E.region (l := [0]) rfl (E.y rfl rfl (by decide) ((Y.as rfl).yd) ?_)))))
    exact E.nil (E.thn (E.ret (E.thr (F.r1 (Back.refl _ _) rfl rfl () trivial (congrArg Value.bool (by exact ne_of_len q10)) (J := _) (.refl _) (.inl rfl)))))
  · refine E.nil (E.thn (E.cf rfl (E.skipc (E.thn (E.seq (E.seq (E.region (l := [0]) rfl (E.y rfl rfl (by decide) ((Y.as rfl).yd) ?_))))))))
    refine E.nil (E.thn (E.block (E.loop (κ := Nat) (fun g => g ≤ a.length ∧ a.take g = b.take g) (fun g => [(0, .slice a_a a.length c_a), (1, .slice a_b b.length c_b), (5, .int .i64 (↑g : Int))]) (fun g => []) (fun g => a.length - g) 0 ⟨by omega, by simp⟩ ⟨rfl, rfl, rfl, trivial⟩ (.refl _) (fun g pg => ?_))))
    obtain ⟨pk, pa⟩ := pg
    refine E.seq (E.seq (E.region (l := [0, 1, 2, 3]) rfl (E.y rfl rfl (by decide) ((Y.mv rfl).yd) ?_)))
    refine E.y rfl rfl (by decide) ((Y.mv rfl).yd) ?_
    refine E.y rfl rfl (by decide) ((Y.len us_Lines rfl).yd) ?_
    refine E.y rfl rfl (by decide) ((Y.lss rfl rfl).yd) (Ent.d (fun q14 => ?_) (fun q14 => ?_))
    · refine E.nil (E.thn (E.ct rfl (E.skipc (E.thn (E.seq (E.block (E.seq (D.region (fun j => true) mixed (D.yp 0 rfl rfl (by decide) (Y.mv rfl) (by kernel_rfl) ?_)))))))))
      refine D.yp 1 rfl rfl (by decide) (Y.mv rfl) (by kernel_rfl) ?_
      obtain ⟨eb19, eo19, ec19, ea19, er19, el19, eh19⟩ := ha.elem g (by omega)
      obtain ⟨xa19_0, xc19_0, xa19_1, xc19_1, rfl, ei19_0, ei19_1, xh19_0, ei19_3, xh19_1⟩ := Ro.pLine er19
      have := xh19_0.slen.2
      have := xh19_1.slen.2
      refine D.yp 2 rfl rfl (by decide) (Y.ix us_Lines ty_Line rfl ea19 rfl g rfl (by omega)) (by kernel_rfl) ?_
      refine D.y 3 rfl rfl (by decide) (Y.ldS (cs := [_, _, _, _, _]) ty_Line rfl (eh19 _) rfl) (by kernel_rfl) ?_
      refine D.yp 4 rfl rfl (by decide) (Y.mv rfl) (by kernel_rfl) ?_
      refine D.yp 5 rfl rfl (by decide) (Y.mv rfl) (by kernel_rfl) ?_
      obtain ⟨eb23, eo23, ec23, ea23, er23, el23, eh23⟩ := hb.elem g (by omega)
      obtain ⟨xa23_0, xc23_0, xa23_1, xc23_1, rfl, ei23_0, ei23_1, xh23_0, ei23_3, xh23_1⟩ := Ro.pLine er23
      have := xh23_0.slen.2
      have := xh23_1.slen.2
      refine D.yp 6 rfl rfl (by decide) (Y.ix us_Lines ty_Line rfl ea23 rfl g rfl (by omega)) (by kernel_rfl) ?_
      refine D.y 7 rfl rfl (by decide) (Y.ldS (cs := [_, _, _, _, _]) ty_Line rfl (eh23 _) rfl) (by kernel_rfl) ?_
      refine D.st 8 rfl rfl (by kernel_rfl) (fun _ => rfl) (N.call0 t_laws_eqLine rfl rfl rfl (by decide) (fun w Lp hA => ⟨ei19_0, ei19_1, hA.ro xh19_0, ei19_3, hA.ro xh19_1, ei23_0, ei23_1, hA.ro xh23_0, ei23_3, hA.ro xh23_1⟩)) (fun _ _ => (Ent.b (fun q25 => ?_) (fun q25 => ?_)))
      · refine D.yp 9 rfl rfl (by decide) (Y.not (b := true) rfl) (by kernel_rfl) ?_
        refine D.done (by kernel_rfl) (E.thn (E.cf rfl (E.skipc (E.bln (E.thn (E.region (l := [0, 1, 2]) rfl (E.y rfl rfl (by decide) ((Y.mv rfl).yd) ?_)))))))
        refine E.y rfl rfl (by decide) ((Y.add rfl rfl (by omega) (by omega)).yd) ?_
        refine E.y rfl rfl (by decide) ((Y.as rfl).yd) ?_
        exact E.nil (E.thn (E.again (Back.refl _ _) (g + 1) ⟨rfl, rfl, rfl, trivial⟩ (.refl _) ⟨by omega, take_eq_step (by omega) (by omega) pa (of_decide_eq_true q25)⟩ (by omega)))
      · refine D.yp 9 rfl rfl (by decide) (Y.not (b := false) rfl) (by kernel_rfl) ?_
        refine D.done (by kernel_rfl) (E.thn (E.ct rfl (E.seq (E.region (l := [0]) rfl (E.y rfl rfl (by decide) ((Y.as rfl).yd) ?_)))))
        exact E.nil (E.thn (E.ret (E.blr (E.thr (E.thr (E.blr (E.thr (F.r1 (Back.refl _ _) rfl rfl () trivial (congrArg Value.bool (by exact ne_of_get (show g < a.length by omega) (show g < b.length by omega) (of_decide_eq_false q25))) (J := _) (.refl _) (.inl rfl)))))))))
    · refine E.nil (E.thn (E.cf rfl (E.exit (E.the (E.the (E.blh (E.thn (E.seq (E.region (l := [0]) rfl (E.y rfl rfl (by decide) ((Y.as rfl).yd) ?_))))))))))
      exact E.nil (E.thn (E.ret (F.r1 (Back.refl _ _) rfl rfl () trivial (congrArg Value.bool (by exact eq_of_take (show a.length ≤ g by omega) (show b.length ≤ g by omega) pa)) (J := _) (.refl _) (.inl rfl))))
theorem t_laws_szProof {a_a_Lines : Option Addr} {m_a_Lines c_a_Lines : Nat} {a_Lines : List (Int × (Int × List Int) × Int × List Int)} {left : Int} : Tr Tryd.prog 22 [.agg #[.slice a_a_Lines m_a_Lines c_a_Lines], .int .i64 left] (fun w L => Ro w L eLines [.slice a_a_Lines m_a_Lines c_a_Lines] a_Lines ∧ 0 ≤ left ∧ left ≤ 1048576) [] (κ := Unit) (fun k => True) (fun k => .int .i64 (szR (totL (fun x => x.2.1.2.length + x.2.2.2.length) (a_Lines)) left)) (fun k => []) := by
  refine Tr.intro Tryd.func22 rfl (n := 12) rfl (by decide +kernel) (Nat.le_of_ble_eq_true rfl) (fr := [(0, .agg #[.slice a_a_Lines m_a_Lines c_a_Lines]), (1, .int .i64 left)]) rfl fun w L hR => ?_
  obtain ⟨ha_Lines, as0, as1⟩ := hR
  obtain ⟨rfl, la_Lines⟩ := ha_Lines.slen
  refine E.seq (E.region (l := [0, 1]) rfl (E.st rfl rfl (N.box (cs := [_]) rfl (by decide) rfl) (fun b2 _ => ?_)))
  refine E.y rfl rfl (by decide) ((Y.as rfl).yd) ?_
  refine E.nil (E.thn (E.seq (E.region (l := [0, 1, 2, 3, 4]) rfl (E.y rfl rfl (by decide) ((Y.fld fo_lProof_0 ty_lLines (by decide) rfl).yd) ?_))))
  refine E.y rfl rfl (by decide) (Y.ld1 ty_lLines rfl ((Has.pt m0).sub (cs' := [_]) 0 rfl) rfl) ?_
  refine E.y rfl rfl (by decide) ((Y.mv rfl).yd) ?_
  refine E.st rfl rfl (N.call0 t_laws_szLineS rfl rfl rfl (by decide) (fun w Lp hA => ⟨hA.ro ha_Lines, (by first | assumption | omega), (by first | assumption | omega)⟩)) (fun _ _ => ?_)
  refine E.y rfl rfl (by decide) ((Y.as rfl).yd) ?_
  refine E.nil (E.thn (E.seq (E.seq (E.region (l := [0, 1]) rfl (E.y rfl rfl (by decide) ((Y.mv rfl).yd) ?_)))))
  refine E.y rfl rfl (by decide) ((Y.lss rfl rfl).yd) (Ent.d (fun q10 => ?_) (fun q10 => ?_))
  · have z10 := szR_bad q10 (by omega)
    refine E.nil (E.thn (E.ct rfl (E.seq (E.region (l := [0]) rfl (E.y rfl rfl (by decide) ((Y.as rfl).yd) ?_)))))
    exact E.nil (E.thn (E.ret (E.thr (F.r1 (Back.refl _ _) rfl rfl () trivial (congrArg (Value.int .i64) (by unfold szR; split <;> omega)) (J := _) (.refl _) (.inl rfl)))))
  · obtain ⟨z10, y10⟩ := szR_ok q10 (by omega)
    refine E.nil (E.thn (E.cf rfl (E.skipc (E.thn (E.seq (E.region (l := [0, 1]) rfl (E.y rfl rfl (by decide) ((Y.mv rfl).yd) ?_)))))))
    refine E.y rfl rfl (by decide) ((Y.as rfl).yd) ?_
    exact E.nil (E.thn (E.ret (F.r1 (Back.refl _ _) rfl rfl () trivial (congrArg (Value.int .i64) (by have e : szR (totL (fun x => x.2.1.2.length + x.2.2.2.length) (a_Lines)) left = left - ((totL (fun x => x.2.1.2.length + x.2.2.2.length) (a_Lines) : Nat) : Int) := by { unfold szR; split <;> omega }; omega)) (J := _) (.refl _) (.inl rfl))))
theorem t_laws_toProof {a_a_Lines : Option Addr} {m_a_Lines c_a_Lines : Nat} {a_Lines : List (Int × (Int × List Int) × Int × List Int)} (h0 : totL (fun x => x.2.1.2.length + x.2.2.2.length) a_Lines ≤ 1048576) : Tr Tryd.prog 24 [.agg #[.slice a_a_Lines m_a_Lines c_a_Lines]] (fun w L => Ro w L eLines [.slice a_a_Lines m_a_Lines c_a_Lines] a_Lines) [] (κ := Option Addr × Nat × Nat) (fun k => True) (fun k => .agg #[.slice k.1 k.2.1 k.2.2]) (fun k => [ow eLines [.slice k.1 k.2.1 k.2.2] (a_Lines)]) := by
  refine Tr.intro Tryd.func24 rfl (n := 9) rfl (by decide +kernel) (Nat.le_of_ble_eq_true rfl) (fr := [(0, .agg #[.slice a_a_Lines m_a_Lines c_a_Lines])]) rfl fun w L hR => ?_
  have ha_Lines := hR
  obtain ⟨rfl, la_Lines⟩ := ha_Lines.slen
  refine E.seq (E.region (l := [0, 1]) rfl (E.st rfl rfl (N.box (cs := [_]) rfl (by decide) rfl) (fun b1 _ => ?_)))
  refine E.st rfl rfl (N.alloc ty_Proof (by decide)) (fun b2 _ => ?_)
  refine E.nil (E.thn (E.seq (E.region (l := [0]) rfl (E.st rfl rfl (N.alloc ty_Proof (by decide)) (fun b3 _ => ?_)))))
  refine E.nil (E.thn (E.seq (E.region (l := [0, 1, 2, 3, 4]) rfl (E.y rfl rfl (by decide) ((Y.fld fo_lProof_0 ty_lLines (by decide) rfl).yd) ?_))))
  refine E.y rfl rfl (by decide) (Y.ld1 ty_lLines rfl ((Has.pt (mS (mS m0))).sub (cs' := [_]) 0 rfl) rfl) ?_
  refine E.st rfl rfl (N.call (t_laws_toLineS (by first | omega | assumption | (constructor <;> omega))) rfl rfl rfl (by decide) rfl (fun w Lp hA => hA.ro ha_Lines)) (fun k6 _ => ?_)
  obtain ⟨a6, m6, c6⟩ := k6
  refine Ent.lenow m0 fun e6 l6 => ?_
  subst e6
  refine E.y rfl rfl (by decide) ((Y.fld fo_Proof_0 ty_Lines (by decide) rfl).yd) ?_
  refine Ent.p1 ?_
  refine E.st rfl rfl (N.sto (vs := [_]) (cs' := [_]) ty_Lines rfl rfl rfl rfl rfl (Nat.le_of_ble_eq_true rfl) rfl) (fun _ _ => ?_)
  refine E.nil (E.thn (E.seq (E.region (l := [0, 1]) rfl (E.y rfl rfl (by decide) (Y.ldS (cs := [_]) ty_Proof rfl (Has.pt m0) rfl) ?_))))
  refine Ent.p2 ?_
  refine E.st rfl rfl (N.sto (vs := [_]) (cs' := [_]) ty_Proof rfl rfl rfl rfl rfl (Nat.le_of_ble_eq_true rfl) rfl) (fun _ _ => ?_)
  refine E.nil (E.thn (E.ret (Ent.p2 ?_)))
  refine Ent.cv (congrArg (ow eLines [_]) (show _ = (a_Lines) by simp_all)) ?_
  exact F.c1 (Back.refl _ _) rfl rfl (mS m0) ty_Proof rfl (_, _, _) trivial rfl (J := _) (.refl _) (.inl rfl)
theorem t_laws_eqProof {a_a_Lines : Option Addr} {m_a_Lines c_a_Lines : Nat} {a_Lines : List (Int × (Int × List Int) × Int × List Int)} {a_b_Lines : Option Addr} {m_b_Lines c_b_Lines : Nat} {b_Lines : List (Int × (Int × List Int) × Int × List Int)} : Tr Tryd.prog 26 [.agg #[.slice a_a_Lines m_a_Lines c_a_Lines], .agg #[.slice a_b_Lines m_b_Lines c_b_Lines]] (fun w L => Ro w L eLines [.slice a_a_Lines m_a_Lines c_a_Lines] a_Lines ∧ Ro w L eLines [.slice a_b_Lines m_b_Lines c_b_Lines] b_Lines) [] (κ := Unit) (fun k => True) (fun k => .bool (decide ((a_Lines) = (b_Lines)))) (fun k => []) := by
  refine Tr.intro Tryd.func26 rfl (n := 11) rfl (by decide +kernel) (Nat.le_of_ble_eq_true rfl) (fr := [(0, .agg #[.slice a_a_Lines m_a_Lines c_a_Lines]), (1, .agg #[.slice a_b_Lines m_b_Lines c_b_Lines])]) rfl fun w L hR => ?_
  obtain ⟨ha_Lines, hb_Lines⟩ := hR
  obtain ⟨rfl, la_Lines⟩ := ha_Lines.slen
  obtain ⟨rfl, lb_Lines⟩ := hb_Lines.slen
  refine E.seq (E.region (l := [0, 1, 2]) rfl (E.st rfl rfl (N.box (cs := [_]) rfl (by decide) rfl) (fun b2 _ => ?_)))
  refine E.st rfl rfl (N.box (cs := [_]) rfl (by decide) rfl) (fun b3 _ => ?_)
  refine E.y rfl rfl (by decide) ((Y.as rfl).yd) ?_
  refine E.nil (E.thn (E.seq (E.seq (E.region (l := [0, 1, 2, 3, 4, 5]) rfl (E.y rfl rfl (by decide) ((Y.fld fo_Proof_0 ty_Lines (by decide) rfl).yd) ?_)))))
  refine E.y rfl rfl (by decide) (Y.ld1 ty_Lines rfl ((Has.pt (mS m0)).sub (cs' := [_]) 0 rfl) rfl) ?_
  refine E.y rfl rfl (by decide) ((Y.fld fo_Proof_0 ty_Lines (by decide) rfl).yd) ?_
  refine E.y rfl rfl (by decide) (Y.ld1 ty_Lines rfl ((Has.pt m0).sub (cs' := [_]) 0 rfl) rfl) ?_
  refine E.st rfl rfl (N.call0 t_laws_eqLineS rfl rfl rfl (by decide) (fun w Lp hA => ⟨hA.ro ha_Lines, hA.ro hb_Lines⟩)) (fun _ _ => (Ent.b (fun q9 => ?_) (fun q9 => ?_)))
  · refine E.y rfl rfl (by decide) ((Y.not (b := true) rfl).yd) ?_
    refine E.nil (E.thn (E.cf rfl (E.skipc (E.thn (E.seq (E.region (l := [0]) rfl (E.y rfl rfl (by decide) ((Y.as rfl).yd) ?_)))))))
    exact E.nil (E.thn (E.ret (F.r1 (Back.refl _ _) rfl rfl () trivial (congrArg Value.bool (by simp_all)) (J := _) (.refl _) (.inl rfl))))
  · refine E.y rfl rfl (by decide) ((Y.not (b := false) rfl).yd) ?_
    refine E.nil (E.thn (E.ct rfl (E.seq (E.region (l := [0]) rfl (E.y rfl rfl (by decide) ((Y.as rfl).yd) ?_)))))
    exact E.nil (E.thn (E.ret (E.thr (F.r1 (Back.refl _ _) rfl rfl () trivial (congrArg Value.bool (by simp_all)) (J := _) (.refl _) (.inl rfl)))))
end Go.Proofs.YtlbfbeldhkcdiaaDoor
