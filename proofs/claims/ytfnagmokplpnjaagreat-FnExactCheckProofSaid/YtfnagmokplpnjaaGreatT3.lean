import Derived.Test.YtfnagmokplpnjaaGreatT1
import Derived.Test.YtfnagmokplpnjaaGreatBc
namespace Go.Proofs.YtfnagmokplpnjaaGreat
open Go.RowKit
set_option linter.unusedVariables false
set_option linter.unusedSimpArgs false
set_option maxHeartbeats 2000000
attribute [local irreducible] Nop Yd Yp Ent Has Tr FnP FnP2 Src
theorem t_laws_szMethod {a_Rel : Int} {a_a_Inputs : Option Addr} {m_a_Inputs c_a_Inputs : Nat} {a_Inputs : List Int} {a_Limit : Int} {a_Cost : Int} {a_Quota : Int} {left : Int} : Tr Tryz.prog 61 [.agg #[.int .i64 a_Rel, .slice a_a_Inputs m_a_Inputs c_a_Inputs, .int .i64 a_Limit, .int .i64 a_Cost, .int .i64 a_Quota], .int .i64 left] (fun w L => I64 a_Rel ∧ Ro w L eIs [.slice a_a_Inputs m_a_Inputs c_a_Inputs] a_Inputs ∧ I64 a_Limit ∧ I64 a_Cost ∧ I64 a_Quota ∧ 0 ≤ left ∧ left ≤ 1048576) [] (κ := Unit) (fun k => True) (fun k => .int .i64 (szR (a_Inputs.length) left)) (fun k => []) := by
  refine Tr.intro Tryz.func61 rfl (n := 12) rfl (by decide +kernel) (Nat.le_of_ble_eq_true rfl) (fr := [(0, .agg #[.int .i64 a_Rel, .slice a_a_Inputs m_a_Inputs c_a_Inputs, .int .i64 a_Limit, .int .i64 a_Cost, .int .i64 a_Quota]), (1, .int .i64 left)]) rfl fun w L hR => ?_
  obtain ⟨i6a_Rel, ha_Inputs, i6a_Limit, i6a_Cost, i6a_Quota, as0, as1⟩ := hR
  obtain ⟨rfl, la_Inputs⟩ := ha_Inputs.slen
  refine E.seq (E.region (l := [0, 1]) rfl (E.st rfl rfl (N.box (cs := [_, _, _, _, _]) rfl (by decide) rfl) (fun b2 _ => ?_)))
  refine E.y rfl rfl (by decide) ((Y.as rfl).yd) ?_
  refine E.nil (E.thn (E.seq (E.region (l := [0, 1, 2, 3, 4]) rfl (E.y rfl rfl (by decide) ((Y.fld fo_lMethod_1 ty_Is (by decide) rfl).yd) ?_))))
  refine E.y rfl rfl (by decide) (Y.ld1 ty_Is rfl ((Has.pt m0).sub (cs' := [_]) 1 rfl) rfl) ?_
  refine E.y rfl rfl (by decide) ((Y.mv rfl).yd) ?_
  refine E.st rfl rfl (N.call0 t_laws_szIntS rfl rfl rfl (by decide) (fun w Lp hA => ⟨hA.ro ha_Inputs, (by first | assumption | omega), (by first | assumption | omega)⟩)) (fun _ _ => ?_)
  refine E.y rfl rfl (by decide) ((Y.as rfl).yd) ?_
  refine E.nil (E.thn (E.seq (E.seq (E.region (l := [0, 1]) rfl (E.y rfl rfl (by decide) ((Y.mv rfl).yd) ?_)))))
  refine E.y rfl rfl (by decide) ((Y.lss rfl rfl).yd) (Ent.d (fun q10 => ?_) (fun q10 => ?_))
  · have z10 := szR_bad q10 (by omega)
    refine E.nil (E.thn (E.ct rfl (E.seq (E.region (l := [0]) rfl (E.y rfl rfl (by decide) ((Y.as rfl).yd) ?_)))))
    exact E.nil (E.thn (E.ret (E.thr (F.r1 (Back.refl _ _) rfl rfl () trivial (congrArg (Value.int .i64) (by unfold szR; split <;> omega)) (J := _) (.refl _) (.inl rfl)))))
  · obtain ⟨z10, y10⟩ := szR_ok q10 (by omega)
    refine E.nil (E.thn (E.cf rfl (E.skipc (E.thn (E.seq (E.region (l := [0, 1]) rfl (E.y rfl rfl (by decide) ((Y.mv rfl).yd) ?_)))))))
    refine E.y rfl rfl (by decide) ((Y.as rfl).yd) ?_
    exact E.nil (E.thn (E.ret (F.r1 (Back.refl _ _) rfl rfl () trivial (congrArg (Value.int .i64) (by have e : szR (a_Inputs.length) left = left - ((a_Inputs.length : Nat) : Int) := by { unfold szR; split <;> omega }; omega)) (J := _) (.refl _) (.inl rfl))))
theorem t_laws_toMethod {a_Rel : Int} {a_a_Inputs : Option Addr} {m_a_Inputs c_a_Inputs : Nat} {a_Inputs : List Int} {a_Limit : Int} {a_Cost : Int} {a_Quota : Int} (h1 : a_Inputs.length ≤ 1048576) : Tr Tryz.prog 78 [.agg #[.int .i64 a_Rel, .slice a_a_Inputs m_a_Inputs c_a_Inputs, .int .i64 a_Limit, .int .i64 a_Cost, .int .i64 a_Quota]] (fun w L => I64 a_Rel ∧ Ro w L eIs [.slice a_a_Inputs m_a_Inputs c_a_Inputs] a_Inputs ∧ I64 a_Limit ∧ I64 a_Cost ∧ I64 a_Quota) [] (κ := Option Addr × Nat × Nat) (fun k => True) (fun k => .agg #[.int .i64 a_Rel, .slice k.1 k.2.1 k.2.2, .int .i64 a_Limit, .int .i64 a_Cost, .int .i64 a_Quota]) (fun k => [ow eIs [.slice k.1 k.2.1 k.2.2] a_Inputs]) := by
  refine Tr.intro Tryz.func78 rfl (n := 21) rfl (by decide +kernel) (Nat.le_of_ble_eq_true rfl) (fr := [(0, .agg #[.int .i64 a_Rel, .slice a_a_Inputs m_a_Inputs c_a_Inputs, .int .i64 a_Limit, .int .i64 a_Cost, .int .i64 a_Quota])]) rfl fun w L hR => ?_
  obtain ⟨i6a_Rel, ha_Inputs, i6a_Limit, i6a_Cost, i6a_Quota⟩ := hR
  obtain ⟨rfl, la_Inputs⟩ := ha_Inputs.slen
  refine E.seq (E.region (l := [0, 1]) rfl (E.st rfl rfl (N.box (cs := [_, _, _, _, _]) rfl (by decide) rfl) (fun b1 _ => ?_)))
  refine E.st rfl rfl (N.alloc ty_Method (by decide)) (fun b2 _ => ?_)
  refine E.nil (E.thn (E.seq (E.region (l := [0]) rfl (E.st rfl rfl (N.alloc ty_Method (by decide)) (fun b3 _ => ?_)))))
  refine E.nil (E.thn (E.seq (E.region (l := [0, 1, 2, 3]) rfl (E.y rfl rfl (by decide) ((Y.fld fo_lMethod_0 ty_I (by decide) rfl).yd) ?_))))
  refine E.y rfl rfl (by decide) (Y.ld1 ty_I rfl ((Has.pt (mS (mS m0))).sub (cs' := [_]) 0 rfl) rfl) ?_
  refine E.y rfl rfl (by decide) ((Y.fld fo_Method_0 ty_I (by decide) rfl).yd) ?_
  refine E.st rfl rfl (N.sto (vs := [_]) (cs' := [_, _, _, _, _]) ty_I rfl rfl rfl rfl rfl (Nat.le_of_ble_eq_true rfl) rfl) (fun _ _ => ?_)
  refine E.nil (E.thn (E.seq (E.region (l := [0, 1, 2, 3, 4]) rfl (E.y rfl rfl (by decide) ((Y.fld fo_lMethod_1 ty_Is (by decide) rfl).yd) ?_))))
  refine E.y rfl rfl (by decide) (Y.ld1 ty_Is rfl ((Has.pt (mS (mS m0))).sub (cs' := [_]) 1 rfl) rfl) ?_
  refine E.st rfl rfl (N.call (t_laws_toIntS (by first | omega | assumption | (constructor <;> omega))) rfl rfl rfl (by decide) rfl (fun w Lp hA => hA.ro ha_Inputs)) (fun k9 _ => ?_)
  obtain ⟨a9, m9, c9⟩ := k9
  refine Ent.lenow m0 fun e9 l9 => ?_
  subst e9
  refine E.y rfl rfl (by decide) ((Y.fld fo_Method_1 ty_Is (by decide) rfl).yd) ?_
  refine Ent.p1 ?_
  refine E.st rfl rfl (N.sto (vs := [_]) (cs' := [_, _, _, _, _]) ty_Is rfl rfl rfl rfl rfl (Nat.le_of_ble_eq_true rfl) rfl) (fun _ _ => ?_)
  refine E.nil (E.thn (E.seq (E.region (l := [0, 1, 2, 3]) rfl (E.y rfl rfl (by decide) ((Y.fld fo_lMethod_2 ty_I (by decide) rfl).yd) ?_))))
  refine E.y rfl rfl (by decide) (Y.ld1 ty_I rfl ((Has.pt (mS (mS (mS m0)))).sub (cs' := [_]) 2 rfl) rfl) ?_
  refine E.y rfl rfl (by decide) ((Y.fld fo_Method_2 ty_I (by decide) rfl).yd) ?_
  refine E.st rfl rfl (N.sto (vs := [_]) (cs' := [_, _, _, _, _]) ty_I rfl rfl rfl rfl rfl (Nat.le_of_ble_eq_true rfl) rfl) (fun _ _ => ?_)
  refine E.nil (E.thn (E.seq (E.region (l := [0, 1, 2, 3]) rfl (E.y rfl rfl (by decide) ((Y.fld fo_lMethod_3 ty_I (by decide) rfl).yd) ?_))))
  refine E.y rfl rfl (by decide) (Y.ld1 ty_I rfl ((Has.pt (mS (mS (mS m0)))).sub (cs' := [_]) 3 rfl) rfl) ?_
  refine E.y rfl rfl (by decide) ((Y.fld fo_Method_3 ty_I (by decide) rfl).yd) ?_
  refine E.st rfl rfl (N.sto (vs := [_]) (cs' := [_, _, _, _, _]) ty_I rfl rfl rfl rfl rfl (Nat.le_of_ble_eq_true rfl) rfl) (fun _ _ => ?_)
  refine E.nil (E.thn (E.seq (E.region (l := [0, 1, 2, 3]) rfl (E.y rfl rfl (by decide) ((Y.fld fo_lMethod_4 ty_I (by decide) rfl).yd) ?_))))
  refine E.y rfl rfl (by decide) (Y.ld1 ty_I rfl ((Has.pt (mS (mS (mS m0)))).sub (cs' := [_]) 4 rfl) rfl) ?_
  refine E.y rfl rfl (by decide) ((Y.fld fo_Method_4 ty_I (by decide) rfl).yd) ?_
  refine E.st rfl rfl (N.sto (vs := [_]) (cs' := [_, _, _, _, _]) ty_I rfl rfl rfl rfl rfl (Nat.le_of_ble_eq_true rfl) rfl) (fun _ _ => ?_)
  refine E.nil (E.thn (E.seq (E.region (l := [0, 1]) rfl (E.y rfl rfl (by decide) (Y.ldS (cs := [_, _, _, _, _]) ty_Method rfl (Has.pt m0) rfl) ?_))))
  refine Ent.p2 ?_
  refine E.st rfl rfl (N.sto (vs := [_, _, _, _, _]) (cs' := [_, _, _, _, _]) ty_Method rfl rfl rfl rfl rfl (Nat.le_of_ble_eq_true rfl) rfl) (fun _ _ => ?_)
  refine E.nil (E.thn (E.ret (Ent.p2 ?_)))
  exact F.c1 (Back.refl _ _) rfl rfl (mS m0) ty_Method rfl (_, _, _) trivial rfl (J := _) (.refl _) (.inl rfl)
theorem t_laws_eqMethod {a_Rel : Int} {a_a_Inputs : Option Addr} {m_a_Inputs c_a_Inputs : Nat} {a_Inputs : List Int} {a_Limit : Int} {a_Cost : Int} {a_Quota : Int} {b_Rel : Int} {a_b_Inputs : Option Addr} {m_b_Inputs c_b_Inputs : Nat} {b_Inputs : List Int} {b_Limit : Int} {b_Cost : Int} {b_Quota : Int} : Tr Tryz.prog 85 [.agg #[.int .i64 a_Rel, .slice a_a_Inputs m_a_Inputs c_a_Inputs, .int .i64 a_Limit, .int .i64 a_Cost, .int .i64 a_Quota], .agg #[.int .i64 b_Rel, .slice a_b_Inputs m_b_Inputs c_b_Inputs, .int .i64 b_Limit, .int .i64 b_Cost, .int .i64 b_Quota]] (fun w L => I64 a_Rel ∧ Ro w L eIs [.slice a_a_Inputs m_a_Inputs c_a_Inputs] a_Inputs ∧ I64 a_Limit ∧ I64 a_Cost ∧ I64 a_Quota ∧ I64 b_Rel ∧ Ro w L eIs [.slice a_b_Inputs m_b_Inputs c_b_Inputs] b_Inputs ∧ I64 b_Limit ∧ I64 b_Cost ∧ I64 b_Quota) [] (κ := Unit) (fun k => True) (fun k => .bool (decide ((a_Rel, a_Inputs, a_Limit, a_Cost, a_Quota) = (b_Rel, b_Inputs, b_Limit, b_Cost, b_Quota)))) (fun k => []) := by
  refine Tr.intro Tryz.func85 rfl (n := 31) rfl (by decide +kernel) (Nat.le_of_ble_eq_true rfl) (fr := [(0, .agg #[.int .i64 a_Rel, .slice a_a_Inputs m_a_Inputs c_a_Inputs, .int .i64 a_Limit, .int .i64 a_Cost, .int .i64 a_Quota]), (1, .agg #[.int .i64 b_Rel, .slice a_b_Inputs m_b_Inputs c_b_Inputs, .int .i64 b_Limit, .int .i64 b_Cost, .int .i64 b_Quota])]) rfl fun w L hR => ?_
  obtain ⟨i6a_Rel, ha_Inputs, i6a_Limit, i6a_Cost, i6a_Quota, i6b_Rel, hb_Inputs, i6b_Limit, i6b_Cost, i6b_Quota⟩ := hR
  obtain ⟨rfl, la_Inputs⟩ := ha_Inputs.slen
  obtain ⟨rfl, lb_Inputs⟩ := hb_Inputs.slen
  refine E.seq (E.region (l := [0, 1, 2]) rfl (E.st rfl rfl (N.box (cs := [_, _, _, _, _]) rfl (by decide) rfl) (fun b2 _ => ?_)))
  refine E.st rfl rfl (N.box (cs := [_, _, _, _, _]) rfl (by decide) rfl) (fun b3 _ => ?_)
  refine E.y rfl rfl (by decide) ((Y.as rfl).yd) ?_
  refine E.nil (E.thn (E.seq (E.seq (E.region (l := [0, 1, 2, 3, 4]) rfl (E.y rfl rfl (by decide) ((Y.fld fo_Method_0 ty_I (by decide) rfl).yd) ?_)))))
  refine E.y rfl rfl (by decide) (Y.ld1 ty_I rfl ((Has.pt (mS m0)).sub (cs' := [_]) 0 rfl) rfl) ?_
  refine E.y rfl rfl (by decide) ((Y.fld fo_Method_0 ty_I (by decide) rfl).yd) ?_
  refine E.y rfl rfl (by decide) (Y.ld1 ty_I rfl ((Has.pt m0).sub (cs' := [_]) 0 rfl) rfl) ?_
  refine E.y rfl rfl (by decide) ((Y.neq rfl rfl).yd) (Ent.d (fun q9 => ?_) (fun q9 => ?_))
  · refine E.nil (E.thn (E.ct rfl (E.seq (E.region (l := [0]) rfl (E.y rfl rfl (by decide) ((Y.as rfl).yd) ?_)))))
    exact E.nil (E.thn (E.ret (E.thr (F.r1 (Back.refl _ _) rfl rfl () trivial (congrArg Value.bool (by simp_all)) (J := _) (.refl _) (.inl rfl)))))
  · refine E.nil (E.thn (E.cf rfl (E.skipc (E.thn (E.seq (E.seq (E.region (l := [0, 1, 2, 3, 4, 5]) rfl (E.y rfl rfl (by decide) ((Y.fld fo_Method_1 ty_Is (by decide) rfl).yd) ?_))))))))
    refine E.y rfl rfl (by decide) (Y.ld1 ty_Is rfl ((Has.pt (mS m0)).sub (cs' := [_]) 1 rfl) rfl) ?_
    refine E.y rfl rfl (by decide) ((Y.fld fo_Method_1 ty_Is (by decide) rfl).yd) ?_
    refine E.y rfl rfl (by decide) (Y.ld1 ty_Is rfl ((Has.pt m0).sub (cs' := [_]) 1 rfl) rfl) ?_
    refine E.st rfl rfl (N.call0 t_laws_eqIntS rfl rfl rfl (by decide) (fun w Lp hA => ⟨hA.ro ha_Inputs, hA.ro hb_Inputs⟩)) (fun _ _ => (Ent.b (fun q14 => ?_) (fun q14 => ?_)))
    · refine E.y rfl rfl (by decide) ((Y.not (b := true) rfl).yd) ?_
      refine E.nil (E.thn (E.cf rfl (E.skipc (E.thn (E.seq (E.seq (E.region (l := [0, 1, 2, 3, 4]) rfl (E.y rfl rfl (by decide) ((Y.fld fo_Method_2 ty_I (by decide) rfl).yd) ?_))))))))
      refine E.y rfl rfl (by decide) (Y.ld1 ty_I rfl ((Has.pt (mS m0)).sub (cs' := [_]) 2 rfl) rfl) ?_
      refine E.y rfl rfl (by decide) ((Y.fld fo_Method_2 ty_I (by decide) rfl).yd) ?_
      refine E.y rfl rfl (by decide) (Y.ld1 ty_I rfl ((Has.pt m0).sub (cs' := [_]) 2 rfl) rfl) ?_
      refine E.y rfl rfl (by decide) ((Y.neq rfl rfl).yd) (Ent.d (fun q20 => ?_) (fun q20 => ?_))
      · refine E.nil (E.thn (E.ct rfl (E.seq (E.region (l := [0]) rfl (E.y rfl rfl (by decide) ((Y.as rfl).yd) ?_)))))
        exact E.nil (E.thn (E.ret (E.thr (F.r1 (Back.refl _ _) rfl rfl () trivial (congrArg Value.bool (by simp_all)) (J := _) (.refl _) (.inl rfl)))))
      · refine E.nil (E.thn (E.cf rfl (E.skipc (E.thn (E.seq (E.seq (E.region (l := [0, 1, 2, 3, 4]) rfl (E.y rfl rfl (by decide) ((Y.fld fo_Method_3 ty_I (by decide) rfl).yd) ?_))))))))
        refine E.y rfl rfl (by decide) (Y.ld1 ty_I rfl ((Has.pt (mS m0)).sub (cs' := [_]) 3 rfl) rfl) ?_
        refine E.y rfl rfl (by decide) ((Y.fld fo_Method_3 ty_I (by decide) rfl).yd) ?_
        refine E.y rfl rfl (by decide) (Y.ld1 ty_I rfl ((Has.pt m0).sub (cs' := [_]) 3 rfl) rfl) ?_
        refine E.y rfl rfl (by decide) ((Y.neq rfl rfl).yd) (Ent.d (fun q25 => ?_) (fun q25 => ?_))
        · refine E.nil (E.thn (E.ct rfl (E.seq (E.region (l := [0]) rfl (E.y rfl rfl (by decide) ((Y.as rfl).yd) ?_)))))
          exact E.nil (E.thn (E.ret (E.thr (F.r1 (Back.refl _ _) rfl rfl () trivial (congrArg Value.bool (by simp_all)) (J := _) (.refl _) (.inl rfl)))))
        · refine E.nil (E.thn (E.cf rfl (E.skipc (E.thn (E.seq (E.seq (E.region (l := [0, 1, 2, 3, 4]) rfl (E.y rfl rfl (by decide) ((Y.fld fo_Method_4 ty_I (by decide) rfl).yd) ?_))))))))
          refine E.y rfl rfl (by decide) (Y.ld1 ty_I rfl ((Has.pt (mS m0)).sub (cs' := [_]) 4 rfl) rfl) ?_
          refine E.y rfl rfl (by decide) ((Y.fld fo_Method_4 ty_I (by decide) rfl).yd) ?_
          refine E.y rfl rfl (by decide) (Y.ld1 ty_I rfl ((Has.pt m0).sub (cs' := [_]) 4 rfl) rfl) ?_
          refine E.y rfl rfl (by decide) ((Y.neq rfl rfl).yd) (Ent.d (fun q30 => ?_) (fun q30 => ?_))
          · refine E.nil (E.thn (E.ct rfl (E.seq (E.region (l := [0]) rfl (E.y rfl rfl (by decide) ((Y.as rfl).yd) ?_)))))
            exact E.nil (E.thn (E.ret (E.thr (F.r1 (Back.refl _ _) rfl rfl () trivial (congrArg Value.bool (by simp_all)) (J := _) (.refl _) (.inl rfl)))))
          · refine E.nil (E.thn (E.cf rfl (E.skipc (E.thn (E.seq (E.region (l := [0]) rfl (E.y rfl rfl (by decide) ((Y.as rfl).yd) ?_)))))))
            exact E.nil (E.thn (E.ret (F.r1 (Back.refl _ _) rfl rfl () trivial (congrArg Value.bool (by simp_all)) (J := _) (.refl _) (.inl rfl))))
    · refine E.y rfl rfl (by decide) ((Y.not (b := false) rfl).yd) ?_
      refine E.nil (E.thn (E.ct rfl (E.seq (E.region (l := [0]) rfl (E.y rfl rfl (by decide) ((Y.as rfl).yd) ?_)))))
      exact E.nil (E.thn (E.ret (E.thr (F.r1 (Back.refl _ _) rfl rfl () trivial (congrArg Value.bool (by simp_all)) (J := _) (.refl _) (.inl rfl)))))
theorem t_laws_szAccess {a_Method : Int} {a_a_Values : Option Addr} {m_a_Values c_a_Values : Nat} {a_Values : List Int} {left : Int} : Tr Tryz.prog 159 [.agg #[.int .i64 a_Method, .slice a_a_Values m_a_Values c_a_Values], .int .i64 left] (fun w L => I64 a_Method ∧ Ro w L eIs [.slice a_a_Values m_a_Values c_a_Values] a_Values ∧ 0 ≤ left ∧ left ≤ 1048576) [] (κ := Unit) (fun k => True) (fun k => .int .i64 (szR (a_Values.length) left)) (fun k => []) := by
  refine Tr.intro Tryz.func159 rfl (n := 12) rfl (by decide +kernel) (Nat.le_of_ble_eq_true rfl) (fr := [(0, .agg #[.int .i64 a_Method, .slice a_a_Values m_a_Values c_a_Values]), (1, .int .i64 left)]) rfl fun w L hR => ?_
  obtain ⟨i6a_Method, ha_Values, as0, as1⟩ := hR
  obtain ⟨rfl, la_Values⟩ := ha_Values.slen
  refine E.seq (E.region (l := [0, 1]) rfl (E.st rfl rfl (N.box (cs := [_, _]) rfl (by decide) rfl) (fun b2 _ => ?_)))
  refine E.y rfl rfl (by decide) ((Y.as rfl).yd) ?_
  refine E.nil (E.thn (E.seq (E.region (l := [0, 1, 2, 3, 4]) rfl (E.y rfl rfl (by decide) ((Y.fld fo_lAccess_1 ty_Is (by decide) rfl).yd) ?_))))
  refine E.y rfl rfl (by decide) (Y.ld1 ty_Is rfl ((Has.pt m0).sub (cs' := [_]) 1 rfl) rfl) ?_
  refine E.y rfl rfl (by decide) ((Y.mv rfl).yd) ?_
  refine E.st rfl rfl (N.call0 t_laws_szIntS rfl rfl rfl (by decide) (fun w Lp hA => ⟨hA.ro ha_Values, (by first | assumption | omega), (by first | assumption | omega)⟩)) (fun _ _ => ?_)
  refine E.y rfl rfl (by decide) ((Y.as rfl).yd) ?_
  refine E.nil (E.thn (E.seq (E.seq (E.region (l := [0, 1]) rfl (E.y rfl rfl (by decide) ((Y.mv rfl).yd) ?_)))))
  refine E.y rfl rfl (by decide) ((Y.lss rfl rfl).yd) (Ent.d (fun q10 => ?_) (fun q10 => ?_))
  · have z10 := szR_bad q10 (by omega)
    refine E.nil (E.thn (E.ct rfl (E.seq (E.region (l := [0]) rfl (E.y rfl rfl (by decide) ((Y.as rfl).yd) ?_)))))
    exact E.nil (E.thn (E.ret (E.thr (F.r1 (Back.refl _ _) rfl rfl () trivial (congrArg (Value.int .i64) (by unfold szR; split <;> omega)) (J := _) (.refl _) (.inl rfl)))))
  · obtain ⟨z10, y10⟩ := szR_ok q10 (by omega)
    refine E.nil (E.thn (E.cf rfl (E.skipc (E.thn (E.seq (E.region (l := [0, 1]) rfl (E.y rfl rfl (by decide) ((Y.mv rfl).yd) ?_)))))))
    refine E.y rfl rfl (by decide) ((Y.as rfl).yd) ?_
    exact E.nil (E.thn (E.ret (F.r1 (Back.refl _ _) rfl rfl () trivial (congrArg (Value.int .i64) (by have e : szR (a_Values.length) left = left - ((a_Values.length : Nat) : Int) := by { unfold szR; split <;> omega }; omega)) (J := _) (.refl _) (.inl rfl))))
theorem t_laws_toAccess {a_Method : Int} {a_a_Values : Option Addr} {m_a_Values c_a_Values : Nat} {a_Values : List Int} (h1 : a_Values.length ≤ 1048576) : Tr Tryz.prog 164 [.agg #[.int .i64 a_Method, .slice a_a_Values m_a_Values c_a_Values]] (fun w L => I64 a_Method ∧ Ro w L eIs [.slice a_a_Values m_a_Values c_a_Values] a_Values) [] (κ := Option Addr × Nat × Nat) (fun k => True) (fun k => .agg #[.int .i64 a_Method, .slice k.1 k.2.1 k.2.2]) (fun k => [ow eIs [.slice k.1 k.2.1 k.2.2] a_Values]) := by
  refine Tr.intro Tryz.func164 rfl (n := 12) rfl (by decide +kernel) (Nat.le_of_ble_eq_true rfl) (fr := [(0, .agg #[.int .i64 a_Method, .slice a_a_Values m_a_Values c_a_Values])]) rfl fun w L hR => ?_
  obtain ⟨i6a_Method, ha_Values⟩ := hR
  obtain ⟨rfl, la_Values⟩ := ha_Values.slen
  refine E.seq (E.region (l := [0, 1]) rfl (E.st rfl rfl (N.box (cs := [_, _]) rfl (by decide) rfl) (fun b1 _ => ?_)))
  refine E.st rfl rfl (N.alloc ty_Access (by decide)) (fun b2 _ => ?_)
  refine E.nil (E.thn (E.seq (E.region (l := [0]) rfl (E.st rfl rfl (N.alloc ty_Access (by decide)) (fun b3 _ => ?_)))))
  refine E.nil (E.thn (E.seq (E.region (l := [0, 1, 2, 3]) rfl (E.y rfl rfl (by decide) ((Y.fld fo_lAccess_0 ty_I (by decide) rfl).yd) ?_))))
  refine E.y rfl rfl (by decide) (Y.ld1 ty_I rfl ((Has.pt (mS (mS m0))).sub (cs' := [_]) 0 rfl) rfl) ?_
  refine E.y rfl rfl (by decide) ((Y.fld fo_Access_0 ty_I (by decide) rfl).yd) ?_
  refine E.st rfl rfl (N.sto (vs := [_]) (cs' := [_, _]) ty_I rfl rfl rfl rfl rfl (Nat.le_of_ble_eq_true rfl) rfl) (fun _ _ => ?_)
  refine E.nil (E.thn (E.seq (E.region (l := [0, 1, 2, 3, 4]) rfl (E.y rfl rfl (by decide) ((Y.fld fo_lAccess_1 ty_Is (by decide) rfl).yd) ?_))))
  refine E.y rfl rfl (by decide) (Y.ld1 ty_Is rfl ((Has.pt (mS (mS m0))).sub (cs' := [_]) 1 rfl) rfl) ?_
  refine E.st rfl rfl (N.call (t_laws_toIntS (by first | omega | assumption | (constructor <;> omega))) rfl rfl rfl (by decide) rfl (fun w Lp hA => hA.ro ha_Values)) (fun k9 _ => ?_)
  obtain ⟨a9, m9, c9⟩ := k9
  refine Ent.lenow m0 fun e9 l9 => ?_
  subst e9
  refine E.y rfl rfl (by decide) ((Y.fld fo_Access_1 ty_Is (by decide) rfl).yd) ?_
  refine Ent.p1 ?_
  refine E.st rfl rfl (N.sto (vs := [_]) (cs' := [_, _]) ty_Is rfl rfl rfl rfl rfl (Nat.le_of_ble_eq_true rfl) rfl) (fun _ _ => ?_)
  refine E.nil (E.thn (E.seq (E.region (l := [0, 1]) rfl (E.y rfl rfl (by decide) (Y.ldS (cs := [_, _]) ty_Access rfl (Has.pt m0) rfl) ?_))))
  refine Ent.p2 ?_
  refine E.st rfl rfl (N.sto (vs := [_, _]) (cs' := [_, _]) ty_Access rfl rfl rfl rfl rfl (Nat.le_of_ble_eq_true rfl) rfl) (fun _ _ => ?_)
  refine E.nil (E.thn (E.ret (Ent.p2 ?_)))
  exact F.c1 (Back.refl _ _) rfl rfl (mS m0) ty_Access rfl (_, _, _) trivial rfl (J := _) (.refl _) (.inl rfl)
theorem t_laws_eqAccess {a_Method : Int} {a_a_Values : Option Addr} {m_a_Values c_a_Values : Nat} {a_Values : List Int} {b_Method : Int} {a_b_Values : Option Addr} {m_b_Values c_b_Values : Nat} {b_Values : List Int} : Tr Tryz.prog 176 [.agg #[.int .i64 a_Method, .slice a_a_Values m_a_Values c_a_Values], .agg #[.int .i64 b_Method, .slice a_b_Values m_b_Values c_b_Values]] (fun w L => I64 a_Method ∧ Ro w L eIs [.slice a_a_Values m_a_Values c_a_Values] a_Values ∧ I64 b_Method ∧ Ro w L eIs [.slice a_b_Values m_b_Values c_b_Values] b_Values) [] (κ := Unit) (fun k => True) (fun k => .bool (decide ((a_Method, a_Values) = (b_Method, b_Values)))) (fun k => []) := by
  refine Tr.intro Tryz.func176 rfl (n := 16) rfl (by decide +kernel) (Nat.le_of_ble_eq_true rfl) (fr := [(0, .agg #[.int .i64 a_Method, .slice a_a_Values m_a_Values c_a_Values]), (1, .agg #[.int .i64 b_Method, .slice a_b_Values m_b_Values c_b_Values])]) rfl fun w L hR => ?_
  obtain ⟨i6a_Method, ha_Values, i6b_Method, hb_Values⟩ := hR
  obtain ⟨rfl, la_Values⟩ := ha_Values.slen
  obtain ⟨rfl, lb_Values⟩ := hb_Values.slen
  refine E.seq (E.region (l := [0, 1, 2]) rfl (E.st rfl rfl (N.box (cs := [_, _]) rfl (by decide) rfl) (fun b2 _ => ?_)))
  refine E.st rfl rfl (N.box (cs := [_, _]) rfl (by decide) rfl) (fun b3 _ => ?_)
  refine E.y rfl rfl (by decide) ((Y.as rfl).yd) ?_
  refine E.nil (E.thn (E.seq (E.seq (E.region (l := [0, 1, 2, 3, 4]) rfl (E.y rfl rfl (by decide) ((Y.fld fo_Access_0 ty_I (by decide) rfl).yd) ?_)))))
  refine E.y rfl rfl (by decide) (Y.ld1 ty_I rfl ((Has.pt (mS m0)).sub (cs' := [_]) 0 rfl) rfl) ?_
  refine E.y rfl rfl (by decide) ((Y.fld fo_Access_0 ty_I (by decide) rfl).yd) ?_
  refine E.y rfl rfl (by decide) (Y.ld1 ty_I rfl ((Has.pt m0).sub (cs' := [_]) 0 rfl) rfl) ?_
  refine E.y rfl rfl (by decide) ((Y.neq rfl rfl).yd) (Ent.d (fun q9 => ?_) (fun q9 => ?_))
  · refine E.nil (E.thn (E.ct rfl (E.seq (E.region (l := [0]) rfl (E.y rfl rfl (by decide) ((Y.as rfl).yd) ?_)))))
    exact E.nil (E.thn (E.ret (E.thr (F.r1 (Back.refl _ _) rfl rfl () trivial (congrArg Value.bool (by simp_all)) (J := _) (.refl _) (.inl rfl)))))
  · refine E.nil (E.thn (E.cf rfl (E.skipc (E.thn (E.seq (E.seq (E.region (l := [0, 1, 2, 3, 4, 5]) rfl (E.y rfl rfl (by decide) ((Y.fld fo_Access_1 ty_Is (by decide) rfl).yd) ?_))))))))
    refine E.y rfl rfl (by decide) (Y.ld1 ty_Is rfl ((Has.pt (mS m0)).sub (cs' := [_]) 1 rfl) rfl) ?_
    refine E.y rfl rfl (by decide) ((Y.fld fo_Access_1 ty_Is (by decide) rfl).yd) ?_
    refine E.y rfl rfl (by decide) (Y.ld1 ty_Is rfl ((Has.pt m0).sub (cs' := [_]) 1 rfl) rfl) ?_
    refine E.st rfl rfl (N.call0 t_laws_eqIntS rfl rfl rfl (by decide) (fun w Lp hA => ⟨hA.ro ha_Values, hA.ro hb_Values⟩)) (fun _ _ => (Ent.b (fun q14 => ?_) (fun q14 => ?_)))
    · refine E.y rfl rfl (by decide) ((Y.not (b := true) rfl).yd) ?_
      refine E.nil (E.thn (E.cf rfl (E.skipc (E.thn (E.seq (E.region (l := [0]) rfl (E.y rfl rfl (by decide) ((Y.as rfl).yd) ?_)))))))
      exact E.nil (E.thn (E.ret (F.r1 (Back.refl _ _) rfl rfl () trivial (congrArg Value.bool (by simp_all)) (J := _) (.refl _) (.inl rfl))))
    · refine E.y rfl rfl (by decide) ((Y.not (b := false) rfl).yd) ?_
      refine E.nil (E.thn (E.ct rfl (E.seq (E.region (l := [0]) rfl (E.y rfl rfl (by decide) ((Y.as rfl).yd) ?_)))))
      exact E.nil (E.thn (E.ret (E.thr (F.r1 (Back.refl _ _) rfl rfl () trivial (congrArg Value.bool (by simp_all)) (J := _) (.refl _) (.inl rfl)))))
theorem t_laws_szMethodS {a_a : Option Addr} {m_a c_a : Nat} {a : List (Int × List Int × Int × Int × Int)} {left : Int} : Tr Tryz.prog 10 [.slice a_a m_a c_a, .int .i64 left] (fun w L => Ro w L eMethods [.slice a_a m_a c_a] a ∧ 0 ≤ left ∧ left ≤ 1048576) [] (κ := Unit) (fun k => True) (fun k => .int .i64 (szR (totL (fun x => x.2.1.length) a) left)) (fun k => []) := by
  refine Tr.intro Tryz.func10 rfl (n := 27) rfl (by decide +kernel) (Nat.le_of_ble_eq_true rfl) (fr := [(0, .slice a_a m_a c_a), (1, .int .i64 left)]) rfl fun w L hR => ?_
  obtain ⟨ha, as0, as1⟩ := hR
  obtain ⟨rfl, la⟩ := ha.slen
  refine E.seq (E.region (l := [0]) rfl (E.y rfl rfl (by decide) ((Y.as rfl).yd) ?_))
  refine E.nil (E.thn (E.seq (E.region (l := [0, 1, 2, 3, 4]) rfl (E.y rfl rfl (by decide) ((Y.mv rfl).yd) ?_))))
  refine E.y rfl rfl (by decide) ((Y.mv rfl).yd) ?_
  refine E.y rfl rfl (by decide) ((Y.len us_lMethods rfl).yd) ?_
  refine E.y rfl rfl (by decide) ((Y.sub rfl rfl (by omega) (by omega)).yd) ?_
  refine E.y rfl rfl (by decide) ((Y.as rfl).yd) ?_
  refine E.nil (E.thn (E.seq (E.seq (E.region (l := [0, 1]) rfl (E.y rfl rfl (by decide) ((Y.mv rfl).yd) ?_)))))
  refine E.y rfl rfl (by decide) ((Y.lss rfl rfl).yd) (Ent.d (fun q11 => ?_) (fun q11 => ?_))
  · refine E.nil (E.thn (E.ct rfl (E.seq (E.region (l := [0]) rfl (E.y rfl rfl (by decide) ((Y.as rfl).yd) ?_)))))
    exact E.nil (E.thn (E.ret (E.thr (F.r1 (Back.refl _ _) rfl rfl () trivial (congrArg (Value.int .i64) (by exact szS_no1 q11)) (J := _) (.refl _) (.inl rfl)))))
  · refine E.nil (E.thn (E.cf rfl (E.skipc (E.thn (E.seq (E.seq (E.region (l := [0]) rfl (E.y rfl rfl (by decide) ((Y.as rfl).yd) ?_))))))))
    refine E.nil (E.thn (E.block (E.loop (κ := Nat) (fun g => g ≤ a.length ∧ (a.length : Int) + (totS (fun x => x.2.1.length) (a.take g) : Nat) ≤ left) (fun g => [(0, .slice a_a a.length c_a), (1, .int .i64 (left - ((a.length : Int) + (totS (fun x => x.2.1.length) (a.take g) : Nat)))), (5, .int .i64 (↑g : Int))]) (fun g => []) (fun g => a.length - g) 0 ⟨by omega, by simp [totS]; omega⟩ ⟨rfl, frI (by simp [totS]), rfl, trivial⟩ (.refl _) (fun g pg => ?_))))
    obtain ⟨pk, pa⟩ := pg
    refine E.seq (E.seq (E.region (l := [0, 1, 2, 3]) rfl (E.y rfl rfl (by decide) ((Y.mv rfl).yd) ?_)))
    refine E.y rfl rfl (by decide) ((Y.mv rfl).yd) ?_
    refine E.y rfl rfl (by decide) ((Y.len us_lMethods rfl).yd) ?_
    refine E.y rfl rfl (by decide) ((Y.lss rfl rfl).yd) (Ent.d (fun q15 => ?_) (fun q15 => ?_))
    · refine E.nil (E.thn (E.ct rfl (E.skipc (E.thn (E.seq (E.block (E.seq (E.region (l := [0, 1, 2, 3, 4, 5, 6]) rfl (E.y rfl rfl (by decide) ((Y.mv rfl).yd) ?_)))))))))
      refine E.y rfl rfl (by decide) ((Y.mv rfl).yd) ?_
      obtain ⟨eb20, eo20, ec20, ea20, er20, el20, eh20⟩ := ha.elem g (by omega)
      obtain ⟨xa20_0, xc20_0, rfl, ei20_0, xh20_0, ei20_2, ei20_3, ei20_4⟩ := Ro.pMethod er20
      have := xh20_0.slen.2
      refine E.y rfl rfl (by decide) ((Y.ix us_lMethods ty_lMethod rfl ea20 rfl g rfl (by omega)).yd) ?_
      refine E.y rfl rfl (by decide) (Y.ldS (cs := [_, _, _, _, _]) ty_lMethod rfl (eh20 _) rfl) ?_
      refine E.y rfl rfl (by decide) ((Y.mv rfl).yd) ?_
      refine E.st rfl rfl (N.call0 t_laws_szMethod rfl rfl rfl (by decide) (fun w Lp hA => ⟨ei20_0, hA.ro xh20_0, ei20_2, ei20_3, ei20_4, (by first | assumption | omega), (by first | assumption | omega)⟩)) (fun _ _ => ?_)
      refine E.y rfl rfl (by decide) ((Y.as rfl).yd) ?_
      refine E.nil (E.thn (E.seq (E.region (l := [0, 1]) rfl (E.y rfl rfl (by decide) ((Y.mv rfl).yd) ?_))))
      refine E.y rfl rfl (by decide) ((Y.lss rfl rfl).yd) (Ent.d (fun q25 => ?_) (fun q25 => ?_))
      · have z25 := szR_bad q25 (by omega)
        refine E.nil (E.thn (E.ct rfl (E.seq (E.region (l := [0]) rfl (E.y rfl rfl (by decide) ((Y.as rfl).yd) ?_)))))
        exact E.nil (E.thn (E.ret (E.blr (E.thr (E.thr (E.blr (E.thr (F.r1 (Back.refl _ _) rfl rfl () trivial (congrArg (Value.int .i64) (by exact szS_no2 (t := (fun x => x.2.1.length)) (n := a[g].2.1.length) (show g < a.length by omega) rfl (by omega))) (J := _) (.refl _) (.inl rfl)))))))))
      · obtain ⟨z25, y25⟩ := szR_ok q25 (by omega)
        refine E.nil (E.thn (E.cf rfl (E.skipc (E.bln (E.thn (E.region (l := [0, 1, 2]) rfl (E.y rfl rfl (by decide) ((Y.mv rfl).yd) ?_)))))))
        refine E.y rfl rfl (by decide) ((Y.add rfl rfl (by omega) (by omega)).yd) ?_
        refine E.y rfl rfl (by decide) ((Y.as rfl).yd) ?_
        exact E.nil (E.thn (E.again (Back.refl _ _) (g + 1) ⟨rfl, frI (by rw [z25]; have y := totS_step (t := (fun x => x.2.1.length)) (show g < a.length by omega); omega), rfl, trivial⟩ (.refl _) ⟨by omega, by have y := totS_step (t := (fun x => x.2.1.length)) (show g < a.length by omega); omega⟩ (by omega)))
    · refine E.nil (E.thn (E.cf rfl (E.exit (E.the (E.the (E.blh (E.thn (E.seq (E.region (l := [0, 1]) rfl (E.y rfl rfl (by decide) ((Y.mv rfl).yd) ?_))))))))))
      refine E.y rfl rfl (by decide) ((Y.as rfl).yd) ?_
      exact E.nil (E.thn (E.ret (F.r1 (Back.refl _ _) rfl rfl () trivial (congrArg (Value.int .i64) (by exact szS_yes (t := (fun x => x.2.1.length)) (show a.length ≤ g by omega) pa)) (J := _) (.refl _) (.inl rfl))))
theorem t_laws_toMethodS {a_a : Option Addr} {m_a c_a : Nat} {a : List (Int × List Int × Int × Int × Int)} (hz : totL (fun x => x.2.1.length) a ≤ 1048576) : Tr Tryz.prog 17 [.slice a_a m_a c_a] (fun w L => Ro w L eMethods [.slice a_a m_a c_a] a) [] (κ := Option Addr × Nat × Nat) (fun k => True) (fun k => .slice k.1 k.2.1 k.2.2) (fun k => [ow eMethods [.slice k.1 k.2.1 k.2.2] a]) := by
  refine Tr.intro Tryz.func17 rfl (n := 23) rfl (by decide +kernel) (Nat.le_of_ble_eq_true rfl) (fr := [(0, .slice a_a m_a c_a)]) rfl fun w L hR => ?_
  have ha := hR
  obtain ⟨rfl, la⟩ := ha.slen
  have hlen : a.length ≤ totL (fun x => x.2.1.length) a := by unfold totL; omega
  refine E.seq (E.region (l := [0]) rfl (E.y rfl rfl (by decide) ((Y.as rfl).yd) ?_))
  refine E.nil (E.thn (E.seq (E.region (l := [0, 1, 2, 3]) rfl (E.y rfl rfl (by decide) ((Y.mv rfl).yd) ?_))))
  refine E.y rfl rfl (by decide) ((Y.len us_lMethods rfl).yd) ?_
  refine E.st rfl rfl (N.make (m := a.length) us_Methods ty_Method rfl rfl rfl (by unfold maxLen; omega) (by omega) (by decide)) (fun b7 _ => ?_)
  refine Ent.mkow (A := [_]) (Own.made (E := eMethod) (e := tMethod) (zx := (0, [], 0, 0, 0)) (Own.mkMethod (x := (0, [], 0, 0, 0)) ⟨by decide, by decide⟩ Own.nil ⟨by decide, by decide⟩ ⟨by decide, by decide⟩ ⟨by decide, by decide⟩) (by unfold maxLen; omega)) rfl ?_
  refine E.y rfl rfl (by decide) ((Y.as rfl).yd) ?_
  refine E.nil (E.thn (E.seq (E.seq (E.region (l := [0]) rfl (E.y rfl rfl (by decide) ((Y.as rfl).yd) ?_)))))
  refine E.nil (E.thn (E.block (E.loop (κ := Nat) (fun g => g ≤ a.length) (fun g => [(0, .slice a_a a.length c_a), (3, .slice (some ⟨b7, 0, none⟩) a.length a.length), (4, .int .i64 (↑g : Int))]) (fun g => [ow eMethods [.slice (some ⟨b7, 0, none⟩) a.length a.length] (a.take g ++ List.replicate (a.length - g) (0, [], 0, 0, 0))]) (fun g => a.length - g) 0 (Nat.zero_le _) ⟨rfl, rfl, rfl, trivial⟩ (by simp) (fun g pg => ?_))))
  refine E.seq (E.seq (E.region (l := [0, 1, 2, 3]) rfl (E.y rfl rfl (by decide) ((Y.mv rfl).yd) ?_)))
  refine E.y rfl rfl (by decide) ((Y.mv rfl).yd) ?_
  refine E.y rfl rfl (by decide) ((Y.len us_lMethods rfl).yd) ?_
  refine E.y rfl rfl (by decide) ((Y.lss rfl rfl).yd) (Ent.d (fun q11 => ?_) (fun q11 => ?_))
  · refine E.nil (E.thn (E.ct rfl (E.skipc (E.thn (E.seq (E.block (E.region (l := [0, 1, 2, 3, 4, 5, 6, 7, 8]) rfl (E.y rfl rfl (by decide) ((Y.mv rfl).yd) ?_))))))))
    refine E.y rfl rfl (by decide) ((Y.mv rfl).yd) ?_
    refine E.y rfl rfl (by decide) ((Y.mv rfl).yd) ?_
    refine E.y rfl rfl (by decide) ((Y.mv rfl).yd) ?_
    obtain ⟨eb18, eo18, ec18, ea18, er18, el18, eh18⟩ := ha.elem g (by omega)
    obtain ⟨xa18_0, xc18_0, rfl, ei18_0, xh18_0, ei18_2, ei18_3, ei18_4⟩ := Ro.pMethod er18
    have := xh18_0.slen.2
    refine E.y rfl rfl (by decide) ((Y.ix us_lMethods ty_lMethod rfl ea18 rfl g rfl (by omega)).yd) ?_
    refine E.y rfl rfl (by decide) (Y.ldS (cs := [_, _, _, _, _]) ty_lMethod rfl (eh18 _) rfl) ?_
    refine E.st rfl rfl (N.call (t_laws_toMethod (by have y := tot_elem (t := (fun x => x.2.1.length)) (l := a) (g := g) (by omega); omega)) rfl rfl rfl (by decide) rfl (fun w Lp hA => ⟨ei18_0, hA.ro xh18_0, ei18_2, ei18_3, ei18_4⟩)) (fun k20 _ => ?_)
    obtain ⟨a20, m20, c20⟩ := k20
    refine Ent.lenow m0 fun e20 l20 => ?_
    subst e20
    refine E.y rfl rfl (by decide) ((Y.ix us_Methods ty_Method rfl rfl rfl g rfl (by omega)).yd) ?_
    refine Ent.p1 ?_
    refine E.st rfl rfl (N.set (E := eMethod) (j := g) (ex := a[g]) (ce := [_, _, _, _, _]) ty_Method rfl rfl rfl rfl (Own.mkMethod (x := a[g]) ei18_0 Own.ow ei18_2 ei18_3 ei18_4) rfl (Nat.zero_add _) rfl (by simp; omega)) (fun _ _ => ?_)
    refine E.nil (E.bln (E.thn (E.region (l := [0, 1, 2]) rfl (E.y rfl rfl (by decide) ((Y.mv rfl).yd) ?_))))
    refine E.y rfl rfl (by decide) ((Y.add rfl rfl (by omega) (by omega)).yd) ?_
    refine E.y rfl rfl (by decide) ((Y.as rfl).yd) ?_
    exact E.nil (E.thn (E.again (Back.refl _ _) (g + 1) ⟨rfl, rfl, rfl, trivial⟩ (by rw [set_take (by omega) rfl]) (by omega) (by omega)))
  · refine E.nil (E.thn (E.cf rfl (E.exit (E.the (E.the (E.blh (E.thn (E.seq (E.region (l := [0, 1]) rfl (E.y rfl rfl (by decide) ((Y.mv rfl).yd) ?_))))))))))
    refine E.y rfl rfl (by decide) ((Y.as rfl).yd) ?_
    refine E.nil (E.thn (E.ret (Ent.cv (congrArg (ow eMethods [_]) (show _ = a by exact take_rep_all (by omega))) ?_)))
    exact F.r1 (Back.refl _ _) rfl rfl (_, _, _) trivial rfl (J := _) (.refl _) (.inl rfl)
theorem t_laws_eqMethodS {a_a : Option Addr} {m_a c_a : Nat} {a : List (Int × List Int × Int × Int × Int)} {a_b : Option Addr} {m_b c_b : Nat} {b : List (Int × List Int × Int × Int × Int)} : Tr Tryz.prog 24 [.slice a_a m_a c_a, .slice a_b m_b c_b] (fun w L => Ro w L eMethods [.slice a_a m_a c_a] a ∧ Ro w L eMethods [.slice a_b m_b c_b] b) [] (κ := Unit) (fun k => True) (fun k => .bool (decide (a = b))) (fun k => []) := by
  refine Tr.intro Tryz.func24 rfl (n := 27) rfl (by decide +kernel) (Nat.le_of_ble_eq_true rfl) (fr := [(0, .slice a_a m_a c_a), (1, .slice a_b m_b c_b)]) rfl fun w L hR => ?_
  obtain ⟨ha, hb⟩ := hR
  obtain ⟨rfl, la⟩ := ha.slen
  obtain ⟨rfl, lb⟩ := hb.slen
  refine E.seq (E.region (l := [0]) rfl (E.y rfl rfl (by decide) ((Y.as rfl).yd) ?_))
  refine E.nil (E.thn (E.seq (E.seq (E.region (l := [0, 1, 2, 3, 4]) rfl (E.y rfl rfl (by decide) ((Y.mv rfl).yd) ?_)))))
  refine E.y rfl rfl (by decide) ((Y.len us_Methods rfl).yd) ?_
  refine E.y rfl rfl (by decide) ((Y.mv rfl).yd) ?_
  refine E.y rfl rfl (by decide) ((Y.len us_Methods rfl).yd) ?_
  refine E.y rfl rfl (by decide) ((Y.neq rfl rfl).yd) (Ent.d (fun q10 => ?_) (fun q10 => ?_))
  · refine E.nil (E.thn (E.ct rfl (E.seq (E.region (l := [0]) rfl (E.y rfl rfl (by decide) ((Y.as rfl).yd) ?_)))))
    exact E.nil (E.thn (E.ret (E.thr (F.r1 (Back.refl _ _) rfl rfl () trivial (congrArg Value.bool (by exact ne_of_len q10)) (J := _) (.refl _) (.inl rfl)))))
  · refine E.nil (E.thn (E.cf rfl (E.skipc (E.thn (E.seq (E.seq (E.region (l := [0]) rfl (E.y rfl rfl (by decide) ((Y.as rfl).yd) ?_))))))))
    refine E.nil (E.thn (E.block (E.loop (κ := Nat) (fun g => g ≤ a.length ∧ a.take g = b.take g) (fun g => [(0, .slice a_a a.length c_a), (1, .slice a_b b.length c_b), (5, .int .i64 (↑g : Int))]) (fun g => []) (fun g => a.length - g) 0 ⟨by omega, by simp⟩ ⟨rfl, rfl, rfl, trivial⟩ (.refl _) (fun g pg => ?_))))
    obtain ⟨pk, pa⟩ := pg
    refine E.seq (E.seq (E.region (l := [0, 1, 2, 3]) rfl (E.y rfl rfl (by decide) ((Y.mv rfl).yd) ?_)))
    refine E.y rfl rfl (by decide) ((Y.mv rfl).yd) ?_
    refine E.y rfl rfl (by decide) ((Y.len us_Methods rfl).yd) ?_
    refine E.y rfl rfl (by decide) ((Y.lss rfl rfl).yd) (Ent.d (fun q14 => ?_) (fun q14 => ?_))
    · refine E.nil (E.thn (E.ct rfl (E.skipc (E.thn (E.seq (E.block (E.seq (D.region (fun j => true) mixed (D.yp 0 rfl rfl (by decide) (Y.mv rfl) (by kernel_rfl) ?_)))))))))
      refine D.yp 1 rfl rfl (by decide) (Y.mv rfl) (by kernel_rfl) ?_
      obtain ⟨eb19, eo19, ec19, ea19, er19, el19, eh19⟩ := ha.elem g (by omega)
      obtain ⟨xa19_0, xc19_0, rfl, ei19_0, xh19_0, ei19_2, ei19_3, ei19_4⟩ := Ro.pMethod er19
      have := xh19_0.slen.2
      refine D.yp 2 rfl rfl (by decide) (Y.ix us_Methods ty_Method rfl ea19 rfl g rfl (by omega)) (by kernel_rfl) ?_
      refine D.y 3 rfl rfl (by decide) (Y.ldS (cs := [_, _, _, _, _]) ty_Method rfl (eh19 _) rfl) (by kernel_rfl) ?_
      refine D.yp 4 rfl rfl (by decide) (Y.mv rfl) (by kernel_rfl) ?_
      refine D.yp 5 rfl rfl (by decide) (Y.mv rfl) (by kernel_rfl) ?_
      obtain ⟨eb23, eo23, ec23, ea23, er23, el23, eh23⟩ := hb.elem g (by omega)
      obtain ⟨xa23_0, xc23_0, rfl, ei23_0, xh23_0, ei23_2, ei23_3, ei23_4⟩ := Ro.pMethod er23
      have := xh23_0.slen.2
      refine D.yp 6 rfl rfl (by decide) (Y.ix us_Methods ty_Method rfl ea23 rfl g rfl (by omega)) (by kernel_rfl) ?_
      refine D.y 7 rfl rfl (by decide) (Y.ldS (cs := [_, _, _, _, _]) ty_Method rfl (eh23 _) rfl) (by kernel_rfl) ?_
      refine D.st 8 rfl rfl (by kernel_rfl) (fun _ => rfl) (N.call0 t_laws_eqMethod rfl rfl rfl (by decide) (fun w Lp hA => ⟨ei19_0, hA.ro xh19_0, ei19_2, ei19_3, ei19_4, ei23_0, hA.ro xh23_0, ei23_2, ei23_3, ei23_4⟩)) (fun _ _ => (Ent.b (fun q25 => ?_) (fun q25 => ?_)))
      · refine D.yp 9 rfl rfl (by decide) (Y.not (b := true) rfl) (by kernel_rfl) ?_
        refine D.done (by kernel_rfl) (E.thn (E.cf rfl (E.skipc (E.bln (E.thn (E.region (l := [0, 1, 2]) rfl (E.y rfl rfl (by decide) ((Y.mv rfl).yd) ?_)))))))
        refine E.y rfl rfl (by decide) ((Y.add rfl rfl (by omega) (by omega)).yd) ?_
        refine E.y rfl rfl (by decide) ((Y.as rfl).yd) ?_
        exact E.nil (E.thn (E.again (Back.refl _ _) (g + 1) ⟨rfl, rfl, rfl, trivial⟩ (.refl _) ⟨by omega, take_eq_step (by omega) (by omega) pa (of_decide_eq_true q25)⟩ (by omega)))
      · refine D.yp 9 rfl rfl (by decide) (Y.not (b := false) rfl) (by kernel_rfl) ?_
        refine D.done (by kernel_rfl) (E.thn (E.ct rfl (E.seq (E.region (l := [0]) rfl (E.y rfl rfl (by decide) ((Y.as rfl).yd) ?_)))))
        exact E.nil (E.thn (E.ret (E.blr (E.thr (E.thr (E.blr (E.thr (F.r1 (Back.refl _ _) rfl rfl () trivial (congrArg Value.bool (by exact ne_of_get (show g < a.length by omega) (show g < b.length by omega) (of_decide_eq_false q25))) (J := _) (.refl _) (.inl rfl)))))))))
    · refine E.nil (E.thn (E.cf rfl (E.exit (E.the (E.the (E.blh (E.thn (E.seq (E.region (l := [0]) rfl (E.y rfl rfl (by decide) ((Y.as rfl).yd) ?_))))))))))
      exact E.nil (E.thn (E.ret (F.r1 (Back.refl _ _) rfl rfl () trivial (congrArg Value.bool (by exact eq_of_take (show a.length ≤ g by omega) (show b.length ≤ g by omega) pa)) (J := _) (.refl _) (.inl rfl))))
theorem t_laws_szAccessS {a_a : Option Addr} {m_a c_a : Nat} {a : List (Int × List Int)} {left : Int} : Tr Tryz.prog 88 [.slice a_a m_a c_a, .int .i64 left] (fun w L => Ro w L eAccesss [.slice a_a m_a c_a] a ∧ 0 ≤ left ∧ left ≤ 1048576) [] (κ := Unit) (fun k => True) (fun k => .int .i64 (szR (totL (fun x => x.2.length) a) left)) (fun k => []) := by
  refine Tr.intro Tryz.func88 rfl (n := 27) rfl (by decide +kernel) (Nat.le_of_ble_eq_true rfl) (fr := [(0, .slice a_a m_a c_a), (1, .int .i64 left)]) rfl fun w L hR => ?_
  obtain ⟨ha, as0, as1⟩ := hR
  obtain ⟨rfl, la⟩ := ha.slen
  refine E.seq (E.region (l := [0]) rfl (E.y rfl rfl (by decide) ((Y.as rfl).yd) ?_))
  refine E.nil (E.thn (E.seq (E.region (l := [0, 1, 2, 3, 4]) rfl (E.y rfl rfl (by decide) ((Y.mv rfl).yd) ?_))))
  refine E.y rfl rfl (by decide) ((Y.mv rfl).yd) ?_
  refine E.y rfl rfl (by decide) ((Y.len us_lAccesss rfl).yd) ?_
  refine E.y rfl rfl (by decide) ((Y.sub rfl rfl (by omega) (by omega)).yd) ?_
  refine E.y rfl rfl (by decide) ((Y.as rfl).yd) ?_
  refine E.nil (E.thn (E.seq (E.seq (E.region (l := [0, 1]) rfl (E.y rfl rfl (by decide) ((Y.mv rfl).yd) ?_)))))
  refine E.y rfl rfl (by decide) ((Y.lss rfl rfl).yd) (Ent.d (fun q11 => ?_) (fun q11 => ?_))
  · refine E.nil (E.thn (E.ct rfl (E.seq (E.region (l := [0]) rfl (E.y rfl rfl (by decide) ((Y.as rfl).yd) ?_)))))
    exact E.nil (E.thn (E.ret (E.thr (F.r1 (Back.refl _ _) rfl rfl () trivial (congrArg (Value.int .i64) (by exact szS_no1 q11)) (J := _) (.refl _) (.inl rfl)))))
  · refine E.nil (E.thn (E.cf rfl (E.skipc (E.thn (E.seq (E.seq (E.region (l := [0]) rfl (E.y rfl rfl (by decide) ((Y.as rfl).yd) ?_))))))))
    refine E.nil (E.thn (E.block (E.loop (κ := Nat) (fun g => g ≤ a.length ∧ (a.length : Int) + (totS (fun x => x.2.length) (a.take g) : Nat) ≤ left) (fun g => [(0, .slice a_a a.length c_a), (1, .int .i64 (left - ((a.length : Int) + (totS (fun x => x.2.length) (a.take g) : Nat)))), (5, .int .i64 (↑g : Int))]) (fun g => []) (fun g => a.length - g) 0 ⟨by omega, by simp [totS]; omega⟩ ⟨rfl, frI (by simp [totS]), rfl, trivial⟩ (.refl _) (fun g pg => ?_))))
    obtain ⟨pk, pa⟩ := pg
    refine E.seq (E.seq (E.region (l := [0, 1, 2, 3]) rfl (E.y rfl rfl (by decide) ((Y.mv rfl).yd) ?_)))
    refine E.y rfl rfl (by decide) ((Y.mv rfl).yd) ?_
    refine E.y rfl rfl (by decide) ((Y.len us_lAccesss rfl).yd) ?_
    refine E.y rfl rfl (by decide) ((Y.lss rfl rfl).yd) (Ent.d (fun q15 => ?_) (fun q15 => ?_))
    · refine E.nil (E.thn (E.ct rfl (E.skipc (E.thn (E.seq (E.block (E.seq (E.region (l := [0, 1, 2, 3, 4, 5, 6]) rfl (E.y rfl rfl (by decide) ((Y.mv rfl).yd) ?_)))))))))
      refine E.y rfl rfl (by decide) ((Y.mv rfl).yd) ?_
      obtain ⟨eb20, eo20, ec20, ea20, er20, el20, eh20⟩ := ha.elem g (by omega)
      obtain ⟨xa20_0, xc20_0, rfl, ei20_0, xh20_0⟩ := Ro.pAccess er20
      have := xh20_0.slen.2
      refine E.y rfl rfl (by decide) ((Y.ix us_lAccesss ty_lAccess rfl ea20 rfl g rfl (by omega)).yd) ?_
      refine E.y rfl rfl (by decide) (Y.ldS (cs := [_, _]) ty_lAccess rfl (eh20 _) rfl) ?_
      refine E.y rfl rfl (by decide) ((Y.mv rfl).yd) ?_
      refine E.st rfl rfl (N.call0 t_laws_szAccess rfl rfl rfl (by decide) (fun w Lp hA => ⟨ei20_0, hA.ro xh20_0, (by first | assumption | omega), (by first | assumption | omega)⟩)) (fun _ _ => ?_)
      refine E.y rfl rfl (by decide) ((Y.as rfl).yd) ?_
      refine E.nil (E.thn (E.seq (E.region (l := [0, 1]) rfl (E.y rfl rfl (by decide) ((Y.mv rfl).yd) ?_))))
      refine E.y rfl rfl (by decide) ((Y.lss rfl rfl).yd) (Ent.d (fun q25 => ?_) (fun q25 => ?_))
      · have z25 := szR_bad q25 (by omega)
        refine E.nil (E.thn (E.ct rfl (E.seq (E.region (l := [0]) rfl (E.y rfl rfl (by decide) ((Y.as rfl).yd) ?_)))))
        exact E.nil (E.thn (E.ret (E.blr (E.thr (E.thr (E.blr (E.thr (F.r1 (Back.refl _ _) rfl rfl () trivial (congrArg (Value.int .i64) (by exact szS_no2 (t := (fun x => x.2.length)) (n := a[g].2.length) (show g < a.length by omega) rfl (by omega))) (J := _) (.refl _) (.inl rfl)))))))))
      · obtain ⟨z25, y25⟩ := szR_ok q25 (by omega)
        refine E.nil (E.thn (E.cf rfl (E.skipc (E.bln (E.thn (E.region (l := [0, 1, 2]) rfl (E.y rfl rfl (by decide) ((Y.mv rfl).yd) ?_)))))))
        refine E.y rfl rfl (by decide) ((Y.add rfl rfl (by omega) (by omega)).yd) ?_
        refine E.y rfl rfl (by decide) ((Y.as rfl).yd) ?_
        exact E.nil (E.thn (E.again (Back.refl _ _) (g + 1) ⟨rfl, frI (by rw [z25]; have y := totS_step (t := (fun x => x.2.length)) (show g < a.length by omega); omega), rfl, trivial⟩ (.refl _) ⟨by omega, by have y := totS_step (t := (fun x => x.2.length)) (show g < a.length by omega); omega⟩ (by omega)))
    · refine E.nil (E.thn (E.cf rfl (E.exit (E.the (E.the (E.blh (E.thn (E.seq (E.region (l := [0, 1]) rfl (E.y rfl rfl (by decide) ((Y.mv rfl).yd) ?_))))))))))
      refine E.y rfl rfl (by decide) ((Y.as rfl).yd) ?_
      exact E.nil (E.thn (E.ret (F.r1 (Back.refl _ _) rfl rfl () trivial (congrArg (Value.int .i64) (by exact szS_yes (t := (fun x => x.2.length)) (show a.length ≤ g by omega) pa)) (J := _) (.refl _) (.inl rfl))))
theorem t_laws_toAccessS {a_a : Option Addr} {m_a c_a : Nat} {a : List (Int × List Int)} (hz : totL (fun x => x.2.length) a ≤ 1048576) : Tr Tryz.prog 93 [.slice a_a m_a c_a] (fun w L => Ro w L eAccesss [.slice a_a m_a c_a] a) [] (κ := Option Addr × Nat × Nat) (fun k => True) (fun k => .slice k.1 k.2.1 k.2.2) (fun k => [ow eAccesss [.slice k.1 k.2.1 k.2.2] a]) := by
  refine Tr.intro Tryz.func93 rfl (n := 23) rfl (by decide +kernel) (Nat.le_of_ble_eq_true rfl) (fr := [(0, .slice a_a m_a c_a)]) rfl fun w L hR => ?_
  have ha := hR
  obtain ⟨rfl, la⟩ := ha.slen
  have hlen : a.length ≤ totL (fun x => x.2.length) a := by unfold totL; omega
  refine E.seq (E.region (l := [0]) rfl (E.y rfl rfl (by decide) ((Y.as rfl).yd) ?_))
  refine E.nil (E.thn (E.seq (E.region (l := [0, 1, 2, 3]) rfl (E.y rfl rfl (by decide) ((Y.mv rfl).yd) ?_))))
  refine E.y rfl rfl (by decide) ((Y.len us_lAccesss rfl).yd) ?_
  refine E.st rfl rfl (N.make (m := a.length) us_Accesss ty_Access rfl rfl rfl (by unfold maxLen; omega) (by omega) (by decide)) (fun b7 _ => ?_)
  refine Ent.mkow (A := [_]) (Own.made (E := eAccess) (e := tAccess) (zx := (0, [])) (Own.mkAccess (x := (0, [])) ⟨by decide, by decide⟩ Own.nil) (by unfold maxLen; omega)) rfl ?_
  refine E.y rfl rfl (by decide) ((Y.as rfl).yd) ?_
  refine E.nil (E.thn (E.seq (E.seq (E.region (l := [0]) rfl (E.y rfl rfl (by decide) ((Y.as rfl).yd) ?_)))))
  refine E.nil (E.thn (E.block (E.loop (κ := Nat) (fun g => g ≤ a.length) (fun g => [(0, .slice a_a a.length c_a), (3, .slice (some ⟨b7, 0, none⟩) a.length a.length), (4, .int .i64 (↑g : Int))]) (fun g => [ow eAccesss [.slice (some ⟨b7, 0, none⟩) a.length a.length] (a.take g ++ List.replicate (a.length - g) (0, []))]) (fun g => a.length - g) 0 (Nat.zero_le _) ⟨rfl, rfl, rfl, trivial⟩ (by simp) (fun g pg => ?_))))
  refine E.seq (E.seq (E.region (l := [0, 1, 2, 3]) rfl (E.y rfl rfl (by decide) ((Y.mv rfl).yd) ?_)))
  refine E.y rfl rfl (by decide) ((Y.mv rfl).yd) ?_
  refine E.y rfl rfl (by decide) ((Y.len us_lAccesss rfl).yd) ?_
  refine E.y rfl rfl (by decide) ((Y.lss rfl rfl).yd) (Ent.d (fun q11 => ?_) (fun q11 => ?_))
  · refine E.nil (E.thn (E.ct rfl (E.skipc (E.thn (E.seq (E.block (E.region (l := [0, 1, 2, 3, 4, 5, 6, 7, 8]) rfl (E.y rfl rfl (by decide) ((Y.mv rfl).yd) ?_))))))))
    refine E.y rfl rfl (by decide) ((Y.mv rfl).yd) ?_
    refine E.y rfl rfl (by decide) ((Y.mv rfl).yd) ?_
    refine E.y rfl rfl (by decide) ((Y.mv rfl).yd) ?_
    obtain ⟨eb18, eo18, ec18, ea18, er18, el18, eh18⟩ := ha.elem g (by omega)
    obtain ⟨xa18_0, xc18_0, rfl, ei18_0, xh18_0⟩ := Ro.pAccess er18
    have := xh18_0.slen.2
    refine E.y rfl rfl (by decide) ((Y.ix us_lAccesss ty_lAccess rfl ea18 rfl g rfl (by omega)).yd) ?_
    refine E.y rfl rfl (by decide) (Y.ldS (cs := [_, _]) ty_lAccess rfl (eh18 _) rfl) ?_
    refine E.st rfl rfl (N.call (t_laws_toAccess (by have y := tot_elem (t := (fun x => x.2.length)) (l := a) (g := g) (by omega); omega)) rfl rfl rfl (by decide) rfl (fun w Lp hA => ⟨ei18_0, hA.ro xh18_0⟩)) (fun k20 _ => ?_)
    obtain ⟨a20, m20, c20⟩ := k20
    refine Ent.lenow m0 fun e20 l20 => ?_
    subst e20
    refine E.y rfl rfl (by decide) ((Y.ix us_Accesss ty_Access rfl rfl rfl g rfl (by omega)).yd) ?_
    refine Ent.p1 ?_
    refine E.st rfl rfl (N.set (E := eAccess) (j := g) (ex := a[g]) (ce := [_, _]) ty_Access rfl rfl rfl rfl (Own.mkAccess (x := a[g]) ei18_0 Own.ow) rfl (Nat.zero_add _) rfl (by simp; omega)) (fun _ _ => ?_)
    refine E.nil (E.bln (E.thn (E.region (l := [0, 1, 2]) rfl (E.y rfl rfl (by decide) ((Y.mv rfl).yd) ?_))))
    refine E.y rfl rfl (by decide) ((Y.add rfl rfl (by omega) (by omega)).yd) ?_
    refine E.y rfl rfl (by decide) ((Y.as rfl).yd) ?_
    exact E.nil (E.thn (E.again (Back.refl _ _) (g + 1) ⟨rfl, rfl, rfl, trivial⟩ (by rw [set_take (by omega) rfl]) (by omega) (by omega)))
  · refine E.nil (E.thn (E.cf rfl (E.exit (E.the (E.the (E.blh (E.thn (E.seq (E.region (l := [0, 1]) rfl (E.y rfl rfl (by decide) ((Y.mv rfl).yd) ?_))))))))))
    refine E.y rfl rfl (by decide) ((Y.as rfl).yd) ?_
    refine E.nil (E.thn (E.ret (Ent.cv (congrArg (ow eAccesss [_]) (show _ = a by exact take_rep_all (by omega))) ?_)))
    exact F.r1 (Back.refl _ _) rfl rfl (_, _, _) trivial rfl (J := _) (.refl _) (.inl rfl)
theorem t_laws_eqAccessS {a_a : Option Addr} {m_a c_a : Nat} {a : List (Int × List Int)} {a_b : Option Addr} {m_b c_b : Nat} {b : List (Int × List Int)} : Tr Tryz.prog 99 [.slice a_a m_a c_a, .slice a_b m_b c_b] (fun w L => Ro w L eAccesss [.slice a_a m_a c_a] a ∧ Ro w L eAccesss [.slice a_b m_b c_b] b) [] (κ := Unit) (fun k => True) (fun k => .bool (decide (a = b))) (fun k => []) := by
  refine Tr.intro Tryz.func99 rfl (n := 27) rfl (by decide +kernel) (Nat.le_of_ble_eq_true rfl) (fr := [(0, .slice a_a m_a c_a), (1, .slice a_b m_b c_b)]) rfl fun w L hR => ?_
  obtain ⟨ha, hb⟩ := hR
  obtain ⟨rfl, la⟩ := ha.slen
  obtain ⟨rfl, lb⟩ := hb.slen
  refine E.seq (E.region (l := [0]) rfl (E.y rfl rfl (by decide) ((Y.as rfl).yd) ?_))
  refine E.nil (E.thn (E.seq (E.seq (E.region (l := [0, 1, 2, 3, 4]) rfl (E.y rfl rfl (by decide) ((Y.mv rfl).yd) ?_)))))
  refine E.y rfl rfl (by decide) ((Y.len us_Accesss rfl).yd) ?_
  refine E.y rfl rfl (by decide) ((Y.mv rfl).yd) ?_
  refine E.y rfl rfl (by decide) ((Y.len us_Accesss rfl).yd) ?_
  refine E.y rfl rfl (by decide) ((Y.neq rfl rfl).yd) (Ent.d (fun q10 => ?_) (fun q10 => ?_))
  · refine E.nil (E.thn (E.ct rfl (E.seq (E.region (l := [0]) rfl (E.y rfl rfl (by decide) ((Y.as rfl).yd) ?_)))))
    exact E.nil (E.thn (E.ret (E.thr (F.r1 (Back.refl _ _) rfl rfl () trivial (congrArg Value.bool (by exact ne_of_len q10)) (J := _) (.refl _) (.inl rfl)))))
  · refine E.nil (E.thn (E.cf rfl (E.skipc (E.thn (E.seq (E.seq (E.region (l := [0]) rfl (E.y rfl rfl (by decide) ((Y.as rfl).yd) ?_))))))))
    refine E.nil (E.thn (E.block (E.loop (κ := Nat) (fun g => g ≤ a.length ∧ a.take g = b.take g) (fun g => [(0, .slice a_a a.length c_a), (1, .slice a_b b.length c_b), (5, .int .i64 (↑g : Int))]) (fun g => []) (fun g => a.length - g) 0 ⟨by omega, by simp⟩ ⟨rfl, rfl, rfl, trivial⟩ (.refl _) (fun g pg => ?_))))
    obtain ⟨pk, pa⟩ := pg
    refine E.seq (E.seq (E.region (l := [0, 1, 2, 3]) rfl (E.y rfl rfl (by decide) ((Y.mv rfl).yd) ?_)))
    refine E.y rfl rfl (by decide) ((Y.mv rfl).yd) ?_
    refine E.y rfl rfl (by decide) ((Y.len us_Accesss rfl).yd) ?_
    refine E.y rfl rfl (by decide) ((Y.lss rfl rfl).yd) (Ent.d (fun q14 => ?_) (fun q14 => ?_))
    · refine E.nil (E.thn (E.ct rfl (E.skipc (E.thn (E.seq (E.block (E.seq (D.region (fun j => true) mixed (D.yp 0 rfl rfl (by decide) (Y.mv rfl) (by kernel_rfl) ?_)))))))))
      refine D.yp 1 rfl rfl (by decide) (Y.mv rfl) (by kernel_rfl) ?_
      obtain ⟨eb19, eo19, ec19, ea19, er19, el19, eh19⟩ := ha.elem g (by omega)
      obtain ⟨xa19_0, xc19_0, rfl, ei19_0, xh19_0⟩ := Ro.pAccess er19
      have := xh19_0.slen.2
      refine D.yp 2 rfl rfl (by decide) (Y.ix us_Accesss ty_Access rfl ea19 rfl g rfl (by omega)) (by kernel_rfl) ?_
      refine D.y 3 rfl rfl (by decide) (Y.ldS (cs := [_, _]) ty_Access rfl (eh19 _) rfl) (by kernel_rfl) ?_
      refine D.yp 4 rfl rfl (by decide) (Y.mv rfl) (by kernel_rfl) ?_
      refine D.yp 5 rfl rfl (by decide) (Y.mv rfl) (by kernel_rfl) ?_
      obtain ⟨eb23, eo23, ec23, ea23, er23, el23, eh23⟩ := hb.elem g (by omega)
      obtain ⟨xa23_0, xc23_0, rfl, ei23_0, xh23_0⟩ := Ro.pAccess er23
      have := xh23_0.slen.2
      refine D.yp 6 rfl rfl (by decide) (Y.ix us_Accesss ty_Access rfl ea23 rfl g rfl (by omega)) (by kernel_rfl) ?_
      refine D.y 7 rfl rfl (by decide) (Y.ldS (cs := [_, _]) ty_Access rfl (eh23 _) rfl) (by kernel_rfl) ?_
      refine D.st 8 rfl rfl (by kernel_rfl) (fun _ => rfl) (N.call0 t_laws_eqAccess rfl rfl rfl (by decide) (fun w Lp hA => ⟨ei19_0, hA.ro xh19_0, ei23_0, hA.ro xh23_0⟩)) (fun _ _ => (Ent.b (fun q25 => ?_) (fun q25 => ?_)))
      · refine D.yp 9 rfl rfl (by decide) (Y.not (b := true) rfl) (by kernel_rfl) ?_
        refine D.done (by kernel_rfl) (E.thn (E.cf rfl (E.skipc (E.bln (E.thn (E.region (l := [0, 1, 2]) rfl (E.y rfl rfl (by decide) ((Y.mv rfl).yd) ?_)))))))
        refine E.y rfl rfl (by decide) ((Y.add rfl rfl (by omega) (by omega)).yd) ?_
        refine E.y rfl rfl (by decide) ((Y.as rfl).yd) ?_
        exact E.nil (E.thn (E.again (Back.refl _ _) (g + 1) ⟨rfl, rfl, rfl, trivial⟩ (.refl _) ⟨by omega, take_eq_step (by omega) (by omega) pa (of_decide_eq_true q25)⟩ (by omega)))
      · refine D.yp 9 rfl rfl (by decide) (Y.not (b := false) rfl) (by kernel_rfl) ?_
        refine D.done (by kernel_rfl) (E.thn (E.ct rfl (E.seq (E.region (l := [0]) rfl (E.y rfl rfl (by decide) ((Y.as rfl).yd) ?_)))))
        exact E.nil (E.thn (E.ret (E.blr (E.thr (E.thr (E.blr (E.thr (F.r1 (Back.refl _ _) rfl rfl () trivial (congrArg Value.bool (by exact ne_of_get (show g < a.length by omega) (show g < b.length by omega) (of_decide_eq_false q25))) (J := _) (.refl _) (.inl rfl)))))))))
    · refine E.nil (E.thn (E.cf rfl (E.exit (E.the (E.the (E.blh (E.thn (E.seq (E.region (l := [0]) rfl (E.y rfl rfl (by decide) ((Y.as rfl).yd) ?_))))))))))
      exact E.nil (E.thn (E.ret (F.r1 (Back.refl _ _) rfl rfl () trivial (congrArg Value.bool (by exact eq_of_take (show a.length ≤ g by omega) (show b.length ≤ g by omega) pa)) (J := _) (.refl _) (.inl rfl))))
theorem t_impl_bit {is : Bool} : Tr Tryz.prog 175 [.bool is] (fun w L => True) [] (κ := Unit) (fun k => True) (fun k => .int .i64 (bitI is)) (fun k => []) := by
  refine Tr.intro Tryz.func175 rfl (n := 4) rfl (by decide +kernel) (Nat.le_of_ble_eq_true rfl) (fr := [(0, .bool is)]) rfl fun w L hR => ?_
  refine E.seq (E.region (l := [0]) rfl (E.y rfl rfl (by decide) ((Y.as rfl).yd) ?_))
  refine E.nil (E.thn (E.seq (E.seq (E.region (l := [0]) rfl (E.y rfl rfl (by decide) ((Y.mv rfl).yd) (Ent.b (fun q3 => ?_) (fun q3 => ?_)))))))
  · refine E.nil (E.thn (E.ct rfl (E.seq (E.region (l := [0]) rfl (E.y rfl rfl (by decide) ((Y.as rfl).yd) ?_)))))
    exact E.nil (E.thn (E.ret (E.thr (F.r1 (Back.refl _ _) rfl rfl () trivial (congrArg (Value.int .i64) (by simp_all [bitI])) (J := _) (.refl _) (.inl rfl)))))
  · refine E.nil (E.thn (E.cf rfl (E.skipc (E.thn (E.seq (E.region (l := [0]) rfl (E.y rfl rfl (by decide) ((Y.as rfl).yd) ?_)))))))
    exact E.nil (E.thn (E.ret (F.r1 (Back.refl _ _) rfl rfl () trivial (congrArg (Value.int .i64) (by simp_all [bitI])) (J := _) (.refl _) (.inl rfl))))
end Go.Proofs.YtfnagmokplpnjaaGreat
