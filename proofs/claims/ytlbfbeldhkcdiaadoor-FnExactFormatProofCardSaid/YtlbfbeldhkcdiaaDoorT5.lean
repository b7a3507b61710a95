import Derived.Test.YtlbfbeldhkcdiaaDoorT1
import Derived.Test.YtlbfbeldhkcdiaaDoorBc
namespace Go.Proofs.YtlbfbeldhkcdiaaDoor
open Go.RowKit
set_option linter.unusedVariables false
set_option linter.unusedSimpArgs false
set_option maxHeartbeats 2000000
attribute [local irreducible] Nop Yd Yp Ent Has Tr FnP FnP2 Src
theorem t_laws_szFact {a_Rel : Int} {a_a_Values : Option Addr} {m_a_Values c_a_Values : Nat} {a_Values : List Int} {left : Int} : Tr Tryd.prog 92 [.agg #[.int .i64 a_Rel, .slice a_a_Values m_a_Values c_a_Values], .int .i64 left] (fun w L => I64 a_Rel ∧ Ro w L eIs [.slice a_a_Values m_a_Values c_a_Values] a_Values ∧ 0 ≤ left ∧ left ≤ 1048576) [] (κ := Unit) (fun k => True) (fun k => .int .i64 (szR (a_Values.length) left)) (fun k => []) := by
  refine Tr.intro Tryd.func92 rfl (n := 12) rfl (by decide +kernel) (Nat.le_of_ble_eq_true rfl) (fr := [(0, .agg #[.int .i64 a_Rel, .slice a_a_Values m_a_Values c_a_Values]), (1, .int .i64 left)]) rfl fun w L hR => ?_
  obtain ⟨i6a_Rel, ha_Values, as0, as1⟩ := hR
  obtain ⟨rfl, la_Values⟩ := ha_Values.slen
  refine E.seq (E.region (l := [0, 1]) rfl (E.st rfl rfl (N.box (cs := [_, _]) rfl (by decide) rfl) (fun b2 _ => ?_)))
  refine E.y rfl rfl (by decide) ((Y.as rfl).yd) ?_
  refine E.nil (E.thn (E.seq (E.region (l := [0, 1, 2, 3, 4]) rfl (E.y rfl rfl (by decide) ((Y.fld fo_lFact_1 ty_Is (by decide) rfl).yd) ?_))))
  refine E.y rfl rfl (by decide) (Y.ld1 ty_Is rfl ((Has.pt m0).sub (cs' := [_]) 1 rfl) rfl) ?_
  refine E.y rfl rfl (by decide) ((Y.mv rfl).yd) ?_
  refine E.st rfl rfl (N.call0 t_laws_szIntS rfl rfl rfl (by decide) (fun w Lp hA => ⟨hA.ro ha_Values, (by first | assumption | omega), (by first | assumption | omega)⟩)) (fun _ _ => ?_)
  refine E.y rfl rfl (by decide) ((Y.as rfl).yd) ?_
  refine E.nil (E.thn (E.seq (E.seq (E.region (l := [0, 1]) rfl (E.y rfl rfl (by decide) ((Y.mv rfl).yd) ?_)))))
  refine E.y rfl rfl (by decide) ((Y.lss rfl rfl).yd) (Ent.d (fun q10 => ?_) (fun q10 => ?_))
  · have z10 := szR_bad q10 (by omega)
    refine E.nil (E.thn (E.ct rfl (E.seq (E.region (l := [0]) rfl (E.y rfl rfl (by decide) ((Y.as rfl).yd) ?_)))))
    exact E.nil (E.thn (E.ret (E.thr (F.r1 (Back.refl _ _) rfl rfl () trivial (congrArg (Value.int .i64) (by unfold szR; split <;> omega)) (J := _) (.refl _) (.inl rfl)))))
  · obtain ⟨z10, y10⟩ := szR_ok q10 (by omega)
    refine E.nil (E.thn (E.cf rfl (E.skipc (E.thn (E.seq (E.region (l := [0, 1]) rfl (E.y rfl rfl (by decide) ((Y.mv rfl).yd) ?_)))))))
    refine E.y rfl rfl (by decide) ((Y.as rfl).yd) ?_
    exact E.nil (E.thn (E.ret (F.r1 (Back.refl _ _) rfl rfl () trivial (congrArg (Value.int .i64) (by have e : szR (a_Values.length) left = left - ((a_Values.length : Nat) : Int) := by { unfold szR; split <;> omega }; omega)) (J := _) (.refl _) (.inl rfl))))
theorem t_laws_toFact {a_Rel : Int} {a_a_Values : Option Addr} {m_a_Values c_a_Values : Nat} {a_Values : List Int} (h1 : a_Values.length ≤ 1048576) : Tr Tryd.prog 94 [.agg #[.int .i64 a_Rel, .slice a_a_Values m_a_Values c_a_Values]] (fun w L => I64 a_Rel ∧ Ro w L eIs [.slice a_a_Values m_a_Values c_a_Values] a_Values) [] (κ := Option Addr × Nat × Nat) (fun k => True) (fun k => .agg #[.int .i64 a_Rel, .slice k.1 k.2.1 k.2.2]) (fun k => [ow eIs [.slice k.1 k.2.1 k.2.2] a_Values]) := by
  refine Tr.intro Tryd.func94 rfl (n := 12) rfl (by decide +kernel) (Nat.le_of_ble_eq_true rfl) (fr := [(0, .agg #[.int .i64 a_Rel, .slice a_a_Values m_a_Values c_a_Values])]) rfl fun w L hR => ?_
  obtain ⟨i6a_Rel, ha_Values⟩ := hR
  obtain ⟨rfl, la_Values⟩ := ha_Values.slen
  refine E.seq (E.region (l := [0, 1]) rfl (E.st rfl rfl (N.box (cs := [_, _]) rfl (by decide) rfl) (fun b1 _ => ?_)))
  refine E.st rfl rfl (N.alloc ty_Fact (by decide)) (fun b2 _ => ?_)
  refine E.nil (E.thn (E.seq (E.region (l := [0]) rfl (E.st rfl rfl (N.alloc ty_Fact (by decide)) (fun b3 _ => ?_)))))
  refine E.nil (E.thn (E.seq (E.region (l := [0, 1, 2, 3]) rfl (E.y rfl rfl (by decide) ((Y.fld fo_lFact_0 ty_I (by decide) rfl).yd) ?_))))
  refine E.y rfl rfl (by decide) (Y.ld1 ty_I rfl ((Has.pt (mS (mS m0))).sub (cs' := [_]) 0 rfl) rfl) ?_
  refine E.y rfl rfl (by decide) ((Y.fld fo_Fact_0 ty_I (by decide) rfl).yd) ?_
  refine E.st rfl rfl (N.sto (vs := [_]) (cs' := [_, _]) ty_I rfl rfl rfl rfl rfl (Nat.le_of_ble_eq_true rfl) rfl) (fun _ _ => ?_)
  refine E.nil (E.thn (E.seq (E.region (l := [0, 1, 2, 3, 4]) rfl (E.y rfl rfl (by decide) ((Y.fld fo_lFact_1 ty_Is (by decide) rfl).yd) ?_))))
  refine E.y rfl rfl (by decide) (Y.ld1 ty_Is rfl ((Has.pt (mS (mS m0))).sub (cs' := [_]) 1 rfl) rfl) ?_
  refine E.st rfl rfl (N.call (t_laws_toIntS (by first | omega | assumption | (constructor <;> omega))) rfl rfl rfl (by decide) rfl (fun w Lp hA => hA.ro ha_Values)) (fun k9 _ => ?_)
  obtain ⟨a9, m9, c9⟩ := k9
  refine Ent.lenow m0 fun e9 l9 => ?_
  subst e9
  refine E.y rfl rfl (by decide) ((Y.fld fo_Fact_1 ty_Is (by decide) rfl).yd) ?_
  refine Ent.p1 ?_
  refine E.st rfl rfl (N.sto (vs := [_]) (cs' := [_, _]) ty_Is rfl rfl rfl rfl rfl (Nat.le_of_ble_eq_true rfl) rfl) (fun _ _ => ?_)
  refine E.nil (E.thn (E.seq (E.region (l := [0, 1]) rfl (E.y rfl rfl (by decide) (Y.ldS (cs := [_, _]) ty_Fact rfl (Has.pt m0) rfl) ?_))))
  refine Ent.p2 ?_
  refine E.st rfl rfl (N.sto (vs := [_, _]) (cs' := [_, _]) ty_Fact rfl rfl rfl rfl rfl (Nat.le_of_ble_eq_true rfl) rfl) (fun _ _ => ?_)
  refine E.nil (E.thn (E.ret (Ent.p2 ?_)))
  exact F.c1 (Back.refl _ _) rfl rfl (mS m0) ty_Fact rfl (_, _, _) trivial rfl (J := _) (.refl _) (.inl rfl)
theorem t_laws_eqFact {a_Rel : Int} {a_a_Values : Option Addr} {m_a_Values c_a_Values : Nat} {a_Values : List Int} {b_Rel : Int} {a_b_Values : Option Addr} {m_b_Values c_b_Values : Nat} {b_Values : List Int} : Tr Tryd.prog 98 [.agg #[.int .i64 a_Rel, .slice a_a_Values m_a_Values c_a_Values], .agg #[.int .i64 b_Rel, .slice a_b_Values m_b_Values c_b_Values]] (fun w L => I64 a_Rel ∧ Ro w L eIs [.slice a_a_Values m_a_Values c_a_Values] a_Values ∧ I64 b_Rel ∧ Ro w L eIs [.slice a_b_Values m_b_Values c_b_Values] b_Values) [] (κ := Unit) (fun k => True) (fun k => .bool (decide ((a_Rel, a_Values) = (b_Rel, b_Values)))) (fun k => []) := by
  refine Tr.intro Tryd.func98 rfl (n := 16) rfl (by decide +kernel) (Nat.le_of_ble_eq_true rfl) (fr := [(0, .agg #[.int .i64 a_Rel, .slice a_a_Values m_a_Values c_a_Values]), (1, .agg #[.int .i64 b_Rel, .slice a_b_Values m_b_Values c_b_Values])]) rfl fun w L hR => ?_
  obtain ⟨i6a_Rel, ha_Values, i6b_Rel, hb_Values⟩ := hR
  obtain ⟨rfl, la_Values⟩ := ha_Values.slen
  obtain ⟨rfl, lb_Values⟩ := hb_Values.slen
  refine E.seq (E.region (l := [0, 1, 2]) rfl (E.st rfl rfl (N.box (cs := [_, _]) rfl (by decide) rfl) (fun b2 _ => ?_)))
  refine E.st rfl rfl (N.box (cs := [_, _]) rfl (by decide) rfl) (fun b3 _ => ?_)
  refine E.y rfl rfl (by decide) ((Y.as rfl).yd) ?_
  refine E.nil (E.thn (E.seq (E.seq (E.region (l := [0, 1, 2, 3, 4]) rfl (E.y rfl rfl (by decide) ((Y.fld fo_Fact_0 ty_I (by decide) rfl).yd) ?_)))))
  refine E.y rfl rfl (by decide) (Y.ld1 ty_I rfl ((Has.pt (mS m0)).sub (cs' := [_]) 0 rfl) rfl) ?_
  refine E.y rfl rfl (by decide) ((Y.fld fo_Fact_0 ty_I (by decide) rfl).yd) ?_
  refine E.y rfl rfl (by decide) (Y.ld1 ty_I rfl ((Has.pt m0).sub (cs' := [_]) 0 rfl) rfl) ?_
  refine E.y rfl rfl (by decide) ((Y.neq rfl rfl).yd) (Ent.d (fun q9 => ?_) (fun q9 => ?_))
  · refine E.nil (E.thn (E.ct rfl (E.seq (E.region (l := [0]) rfl (E.y rfl rfl (by decide) ((Y.as rfl).yd) ?_)))))
    exact E.nil (E.thn (E.ret (E.thr (F.r1 (Back.refl _ _) rfl rfl () trivial (congrArg Value.bool (by simp_all)) (J := _) (.refl _) (.inl rfl)))))
  · refine E.nil (E.thn (E.cf rfl (E.skipc (E.thn (E.seq (E.seq (E.region (l := [0, 1, 2, 3, 4, 5]) rfl (E.y rfl rfl (by decide) ((Y.fld fo_Fact_1 ty_Is (by decide) rfl).yd) ?_))))))))
    refine E.y rfl rfl (by decide) (Y.ld1 ty_Is rfl ((Has.pt (mS m0)).sub (cs' := [_]) 1 rfl) rfl) ?_
    refine E.y rfl rfl (by decide) ((Y.fld fo_Fact_1 ty_Is (by decide) rfl).yd) ?_
    refine E.y rfl rfl (by decide) (Y.ld1 ty_Is rfl ((Has.pt m0).sub (cs' := [_]) 1 rfl) rfl) ?_
    refine E.st rfl rfl (N.call0 t_laws_eqIntS rfl rfl rfl (by decide) (fun w Lp hA => ⟨hA.ro ha_Values, hA.ro hb_Values⟩)) (fun _ _ => (Ent.b (fun q14 => ?_) (fun q14 => ?_)))
    · refine E.y rfl rfl (by decide) ((Y.not (b := true) rfl).yd) ?_
      refine E.nil (E.thn (E.cf rfl (E.skipc (E.thn (E.seq (E.region (l := [0]) rfl (E.y rfl rfl (by decide) ((Y.as rfl).yd) ?_)))))))
      exact E.nil (E.thn (E.ret (F.r1 (Back.refl _ _) rfl rfl () trivial (congrArg Value.bool (by simp_all)) (J := _) (.refl _) (.inl rfl))))
    · refine E.y rfl rfl (by decide) ((Y.not (b := false) rfl).yd) ?_
      refine E.nil (E.thn (E.ct rfl (E.seq (E.region (l := [0]) rfl (E.y rfl rfl (by decide) ((Y.as rfl).yd) ?_)))))
      exact E.nil (E.thn (E.ret (E.thr (F.r1 (Back.refl _ _) rfl rfl () trivial (congrArg Value.bool (by simp_all)) (J := _) (.refl _) (.inl rfl)))))
theorem t_impl_isValue {n : Int} : Tr Tryd.prog 96 [.int .i64 n] (fun w L => True) [] (κ := Unit) (fun k => True) (fun k => .bool (inR n 0 9)) (fun k => []) := by
  refine Tr.intro Tryd.func96 rfl (n := 5) rfl (by decide +kernel) (Nat.le_of_ble_eq_true rfl) (fr := [(0, .int .i64 n)]) rfl fun w L hR => ?_
  refine E.seq (E.region (l := [0]) rfl (E.y rfl rfl (by decide) ((Y.as rfl).yd) ?_))
  refine E.nil (E.thn (E.seq (E.region (l := [0, 1, 2]) rfl (E.y rfl rfl (by decide) ((Y.mv rfl).yd) ?_))))
  refine E.st rfl rfl (N.call0 t_impl_within rfl rfl rfl (by decide) (fun w Lp hA => trivial)) (fun _ _ => ?_)
  refine E.y rfl rfl (by decide) ((Y.as rfl).yd) ?_
  exact E.nil (E.thn (E.ret (F.r1 (Back.refl _ _) rfl rfl () trivial rfl (J := _) (.refl _) (.inl rfl))))
theorem t_impl_areValues_1 {n : Int} : Tr Tryd.prog 95 [.int .i64 n] (fun w L => (I64 n) ∧ True) [] (κ := Unit) (fun k => True) (fun k => .bool (!inR n 0 9)) (fun k => []) := by
  refine Tr.intro Tryd.func95 rfl (n := 6) rfl (by decide +kernel) (Nat.le_of_ble_eq_true rfl) (fr := [(0, .int .i64 n)]) rfl fun w L hR => ?_
  obtain ⟨i6n, _⟩ := hR
  refine E.seq (E.region (l := [0]) rfl (E.y rfl rfl (by decide) ((Y.as rfl).yd) ?_))
  refine E.nil (E.thn (E.seq (E.region (l := [0, 1, 2, 3]) rfl (E.y rfl rfl (by decide) ((Y.mv rfl).yd) ?_))))
  refine E.st rfl rfl (N.call0 t_impl_isValue rfl rfl rfl (by decide) (fun w Lp hA => trivial)) (fun _ _ => ?_)
  refine E.y rfl rfl (by decide) ((Y.not rfl).yd) ?_
  refine E.y rfl rfl (by decide) ((Y.as rfl).yd) ?_
  exact E.nil (E.thn (E.ret (F.r1 (Back.refl _ _) rfl rfl () trivial (congrArg Value.bool (by simp_all)) (J := _) (.refl _) (.inl rfl))))
theorem t_impl_areValues {a_l : Option Addr} {m_l c_l : Nat} {l : List Int} : Tr Tryd.prog 76 [.slice a_l m_l c_l] (fun w L => Ro w L eIs [.slice a_l m_l c_l] l) [] (κ := Unit) (fun k => True) (fun k => .bool (okVals l)) (fun k => []) := by
  refine Tr.intro Tryd.func76 rfl (n := 6) rfl (by decide +kernel) (Nat.le_of_ble_eq_true rfl) (fr := [(0, .slice a_l m_l c_l)]) rfl fun w L hR => ?_
  have hl := hR
  obtain ⟨rfl, ll⟩ := hl.slen
  refine E.seq (E.region (l := [0]) rfl (E.y rfl rfl (by decide) ((Y.as rfl).yd) ?_))
  refine E.nil (E.thn (E.seq (E.region (l := [0, 1, 2, 3]) rfl (E.y rfl rfl (by decide) ((Y.mv rfl).yd) ?_))))
  refine E.st rfl rfl (N.call0 (t_ContainsFunc_I (f := (fun n => !inR n 0 9)) (D_f := (fun _ => True)) (by intros; exact trivial)) rfl rfl rfl (by decide) (fun w Lp hA => ⟨hA.ro hl, FnP.ofI (D := (fun _ => True)) (fun hd => t_impl_areValues_1) (fun w' hk => trivial)⟩)) (fun _ _ => ?_)
  refine E.y rfl rfl (by decide) ((Y.not rfl).yd) ?_
  refine E.y rfl rfl (by decide) ((Y.as rfl).yd) ?_
  exact E.nil (E.thn (E.ret (F.r1 (Back.refl _ _) rfl rfl () trivial (congrArg Value.bool (by rfl)) (J := _) (.refl _) (.inl rfl))))
end Go.Proofs.YtlbfbeldhkcdiaaDoor
