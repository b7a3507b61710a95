import Derived.Test.YtlcfbfbdnnoifaaGreatT1
import Derived.Test.YtlcfbfbdnnoifaaGreatBc
namespace Go.Proofs.YtlcfbfbdnnoifaaGreat
open Go.RowKit
set_option linter.unusedVariables false
set_option linter.unusedSimpArgs false
set_option maxHeartbeats 2000000
attribute [local irreducible] Nop Yd Yp Ent Has Tr FnP FnP2 Src
theorem t_laws_szFact {a_Rel : Int} {a_a_Values : Option Addr} {m_a_Values c_a_Values : Nat} {a_Values : List Int} {left : Int} : Tr Tryz.prog 67 [.agg #[.int .i64 a_Rel, .slice a_a_Values m_a_Values c_a_Values], .int .i64 left] (fun w L => I64 a_Rel ∧ Ro w L eIs [.slice a_a_Values m_a_Values c_a_Values] a_Values ∧ 0 ≤ left ∧ left ≤ 1048576) [] (κ := Unit) (fun k => True) (fun k => .int .i64 (szR (a_Values.length) left)) (fun k => []) := by
  refine Tr.intro Tryz.func67 rfl (n := 12) rfl (by decide +kernel) (Nat.le_of_ble_eq_true rfl) (fr := [(0, .agg #[.int .i64 a_Rel, .slice a_a_Values m_a_Values c_a_Values]), (1, .int .i64 left)]) rfl fun w L hR => ?_
  obtain ⟨i6a_Rel, ha_Values, as0, as1⟩ := hR
  obtain ⟨rfl, la_Values⟩ := ha_Values.slen
  refine E.seq (E.region (l := [0, 1]) rfl (E.st rfl rfl (N.box (cs := [_, _]) rfl (by decide) rfl) (fun b2 _ => ?_)))
  refine E.y rfl rfl (by decide) ((Y.as rfl).yd) ?_
  refine E.nil (E.thn (E.seq (E.region (l := [0, 1, 2, 3, 4]) rfl (E.y rfl rfl (by decide) ((Y.fld fo_lFact_1 ty_Is (by decide) rfl).yd) ?_))))
  refine E.y rfl rfl (by decide) (Y.ld1 ty_Is rfl ((Has.pt m0).sub (cs' := [_]) 1 rfl) rfl) ?_
  refine E.y rfl rfl (by decide) ((Y.mv rfl).yd) ?_
  refine E.st rfl rfl (N.call0 t_laws_szIntS rfl rfl rfl (by decide) (fun w Lp hA => ⟨hA.ro ha_Values, (by first | assumption | omega), (by first | assumption | omega)⟩)) (fun _ _ => ?_)
  refine E.y rfl rfl (by decide) ((Y.as rfl).yd) ?_
  refine E.nil (E.thn (E.seq (E.seq (E.region (l := [0, 1]) rfl (E.y rfl rfl (by decide) ((Y.mv rfl).yd) ?_)))))
  refine E.y rfl rfl (by decide) ((Y.lss rfl rfl).yd) (Ent.d (fun q10 => ?_) (fun q10 => ?_))
  · have z10 := szR_bad q10 (by omega)
    refine E.nil (E.thn (E.ct rfl (E.seq (E.region (l := [0]) rfl (E.y rfl rfl (by decide) ((Y.as rfl).yd) ?_)))))
    exact E.nil (E.thn (E.ret (E.thr (F.r1 (Back.refl _ _) rfl rfl () trivial (congrArg (Value.int .i64) (by unfold szR; split <;> omega)) (J := _) (.refl _) (.inl rfl)))))
  · obtain ⟨z10, y10⟩ := szR_ok q10 (by omega)
    refine E.nil (E.thn (E.cf rfl (E.skipc (E.thn (E.seq (E.region (l := [0, 1]) rfl (E.y rfl rfl (by decide) ((Y.mv rfl).yd) ?_)))))))
    refine E.y rfl rfl (by decide) ((Y.as rfl).yd) ?_
    exact E.nil (E.thn (E.ret (F.r1 (Back.refl _ _) rfl rfl () trivial (congrArg (Value.int .i64) (by have e : szR (a_Values.length) left = left - ((a_Values.length : Nat) : Int) := by { unfold szR; split <;> omega }; omega)) (J := _) (.refl _) (.inl rfl))))
theorem t_laws_toFact {a_Rel : Int} {a_a_Values : Option Addr} {m_a_Values c_a_Values : Nat} {a_Values : List Int} (h1 : a_Values.length ≤ 1048576) : Tr Tryz.prog 71 [.agg #[.int .i64 a_Rel, .slice a_a_Values m_a_Values c_a_Values]] (fun w L => I64 a_Rel ∧ Ro w L eIs [.slice a_a_Values m_a_Values c_a_Values] a_Values) [] (κ := Option Addr × Nat × Nat) (fun k => True) (fun k => .agg #[.int .i64 a_Rel, .slice k.1 k.2.1 k.2.2]) (fun k => [ow eIs [.slice k.1 k.2.1 k.2.2] a_Values]) := by
  refine Tr.intro Tryz.func71 rfl (n := 12) rfl (by decide +kernel) (Nat.le_of_ble_eq_true rfl) (fr := [(0, .agg #[.int .i64 a_Rel, .slice a_a_Values m_a_Values c_a_Values])]) rfl fun w L hR => ?_
  obtain ⟨i6a_Rel, ha_Values⟩ := hR
  obtain ⟨rfl, la_Values⟩ := ha_Values.slen
  refine E.seq (E.region (l := [0, 1]) rfl (E.st rfl rfl (N.box (cs := [_, _]) rfl (by decide) rfl) (fun b1 _ => ?_)))
  refine E.st rfl rfl (N.alloc ty_Fact (by decide)) (fun b2 _ => ?_)
  refine E.nil (E.thn (E.seq (E.region (l := [0]) rfl (E.st rfl rfl (N.alloc ty_Fact (by decide)) (fun b3 _ => ?_)))))
  refine E.nil (E.thn (E.seq (E.region (l := [0, 1, 2, 3]) rfl (E.y rfl rfl (by decide) ((Y.fld fo_lFact_0 ty_I (by decide) rfl).yd) ?_))))
  refine E.y rfl rfl (by decide) (Y.ld1 ty_I rfl ((Has.pt (mS (mS m0))).sub (cs' := [_]) 0 rfl) rfl) ?_
  refine E.y rfl rfl (by decide) ((Y.fld fo_Fact_0 ty_I (by decide) rfl).yd) ?_
  refine E.st rfl rfl (N.sto (vs := [_]) (cs' := [_, _]) ty_I rfl rfl rfl rfl rfl (Nat.le_of_ble_eq_true rfl) rfl) (fun _ _ => ?_)
  refine E.nil (E.thn (E.seq (E.region (l := [0, 1, 2, 3, 4]) rfl (E.y rfl rfl (by decide) ((Y.fld fo_lFact_1 ty_Is (by decide) rfl).yd) ?_))))
  refine E.y rfl rfl (by decide) (Y.ld1 ty_Is rfl ((Has.pt (mS (mS m0))).sub (cs' := [_]) 1 rfl) rfl) ?_
  refine E.st rfl rfl (N.call (t_laws_toIntS (by first | omega | assumption | (constructor <;> omega))) rfl rfl rfl (by decide) rfl (fun w Lp hA => hA.ro ha_Values)) (fun k9 _ => ?_)
  obtain ⟨a9, m9, c9⟩ := k9
  refine Ent.lenow m0 fun e9 l9 => ?_
  subst e9
  refine E.y rfl rfl (by decide) ((Y.fld fo_Fact_1 ty_Is (by decide) rfl).yd) ?_
  refine Ent.p1 ?_
  refine E.st rfl rfl (N.sto (vs := [_]) (cs' := [_, _]) ty_Is rfl rfl rfl rfl rfl (Nat.le_of_ble_eq_true rfl) rfl) (fun _ _ => ?_)
  refine E.nil (E.thn (E.seq (E.region (l := [0, 1]) rfl (E.y rfl rfl (by decide) (Y.ldS (cs := [_, _]) ty_Fact rfl (Has.pt m0) rfl) ?_))))
  refine Ent.p2 ?_
  refine E.st rfl rfl (N.sto (vs := [_, _]) (cs' := [_, _]) ty_Fact rfl rfl rfl rfl rfl (Nat.le_of_ble_eq_true rfl) rfl) (fun _ _ => ?_)
  refine E.nil (E.thn (E.ret (Ent.p2 ?_)))
  exact F.c1 (Back.refl _ _) rfl rfl (mS m0) ty_Fact rfl (_, _, _) trivial rfl (J := _) (.refl _) (.inl rfl)
theorem t_laws_eqFact {a_Rel : Int} {a_a_Values : Option Addr} {m_a_Values c_a_Values : Nat} {a_Values : List Int} {b_Rel : Int} {a_b_Values : Option Addr} {m_b_Values c_b_Values : Nat} {b_Values : List Int} : Tr Tryz.prog 74 [.agg #[.int .i64 a_Rel, .slice a_a_Values m_a_Values c_a_Values], .agg #[.int .i64 b_Rel, .slice a_b_Values m_b_Values c_b_Values]] (fun w L => I64 a_Rel ∧ Ro w L eIs [.slice a_a_Values m_a_Values c_a_Values] a_Values ∧ I64 b_Rel ∧ Ro w L eIs [.slice a_b_Values m_b_Values c_b_Values] b_Values) [] (κ := Unit) (fun k => True) (fun k => .bool (decide ((a_Rel, a_Values) = (b_Rel, b_Values)))) (fun k => []) := by
  refine Tr.intro Tryz.func74 rfl (n := 16) rfl (by decide +kernel) (Nat.le_of_ble_eq_true rfl) (fr := [(0, .agg #[.int .i64 a_Rel, .slice a_a_Values m_a_Values c_a_Values]), (1, .agg #[.int .i64 b_Rel, .slice a_b_Values m_b_Values c_b_Values])]) rfl fun w L hR => ?_
  obtain ⟨i6a_Rel, ha_Values, i6b_Rel, hb_Values⟩ := hR
  obtain ⟨rfl, la_Values⟩ := ha_Values.slen
  obtain ⟨rfl, lb_Values⟩ := hb_Values.slen
  refine E.seq (E.region (l := [0, 1, 2]) rfl (E.st rfl rfl (N.box (cs := [_, _]) rfl (by decide) rfl) (fun b2 _ => ?_)))
  refine E.st rfl rfl (N.box (cs := [_, _]) rfl (by decide) rfl) (fun b3 _ => ?_)
  refine E.y rfl rfl (by decide) ((Y.as rfl).yd) ?_
  refine E.nil (E.thn (E.seq (E.seq (E.region (l := [0, 1, 2, 3, 4]) rfl (E.y rfl rfl (by decide) ((Y.fld fo_Fact_0 ty_I (by decide) rfl).yd) ?_)))))
  refine E.y rfl rfl (by decide) (Y.ld1 ty_I rfl ((Has.pt (mS m0)).sub (cs' := [_]) 0 rfl) rfl) ?_
  refine E.y rfl rfl (by decide) ((Y.fld fo_Fact_0 ty_I (by decide) rfl).yd) ?_
  refine E.y rfl rfl (by decide) (Y.ld1 ty_I rfl ((Has.pt m0).sub (cs' := [_]) 0 rfl) rfl) ?_
  refine E.y rfl rfl (by decide) ((Y.neq rfl rfl).yd) (Ent.d (fun q9 => ?_) (fun q9 => ?_))
  · refine E.nil (E.thn (E.ct rfl (E.seq (E.region (l := [0]) rfl (E.y rfl rfl (by decide) ((Y.as rfl).yd) ?_)))))
    exact E.nil (E.thn (E.ret (E.thr (F.r1 (Back.refl _ _) rfl rfl () trivial (congrArg Value.bool (by simp_all)) (J := _) (.refl _) (.inl rfl)))))
  · refine E.nil (E.thn (E.cf rfl (E.skipc (E.thn (E.seq (E.seq (E.region (l := [0, 1, 2, 3, 4, 5]) rfl (E.y rfl rfl (by decide) ((Y.fld fo_Fact_1 ty_Is (by decide) rfl).yd) ?_))))))))
    refine E.y rfl rfl (by decide) (Y.ld1 ty_Is rfl ((Has.pt (mS m0)).sub (cs' := [_]) 1 rfl) rfl) ?_
    refine E.y rfl rfl (by decide) ((Y.fld fo_Fact_1 ty_Is (by decide) rfl).yd) ?_
    refine E.y rfl rfl (by decide) (Y.ld1 ty_Is rfl ((Has.pt m0).sub (cs' := [_]) 1 rfl) rfl) ?_
    refine E.st rfl rfl (N.call0 t_laws_eqIntS rfl rfl rfl (by decide) (fun w Lp hA => ⟨hA.ro ha_Values, hA.ro hb_Values⟩)) (fun _ _ => (Ent.b (fun q14 => ?_) (fun q14 => ?_)))
    · refine E.y rfl rfl (by decide) ((Y.not (b := true) rfl).yd) ?_
      refine E.nil (E.thn (E.cf rfl (E.skipc (E.thn (E.seq (E.region (l := [0]) rfl (E.y rfl rfl (by decide) ((Y.as rfl).yd) ?_)))))))
      exact E.nil (E.thn (E.ret (F.r1 (Back.refl _ _) rfl rfl () trivial (congrArg Value.bool (by simp_all)) (J := _) (.refl _) (.inl rfl))))
    · refine E.y rfl rfl (by decide) ((Y.not (b := false) rfl).yd) ?_
      refine E.nil (E.thn (E.ct rfl (E.seq (E.region (l := [0]) rfl (E.y rfl rfl (by decide) ((Y.as rfl).yd) ?_)))))
      exact E.nil (E.thn (E.ret (E.thr (F.r1 (Back.refl _ _) rfl rfl () trivial (congrArg Value.bool (by simp_all)) (J := _) (.refl _) (.inl rfl)))))
theorem t_impl_isValue {n : Int} : Tr Tryz.prog 171 [.int .i64 n] (fun w L => True) [] (κ := Unit) (fun k => True) (fun k => .bool (inR n 0 9)) (fun k => []) := by
  refine Tr.intro Tryz.func171 rfl (n := 5) rfl (by decide +kernel) (Nat.le_of_ble_eq_true rfl) (fr := [(0, .int .i64 n)]) rfl fun w L hR => ?_
  refine E.seq (E.region (l := [0]) rfl (E.y rfl rfl (by decide) ((Y.as rfl).yd) ?_))
  refine E.nil (E.thn (E.seq (E.region (l := [0, 1, 2]) rfl (E.y rfl rfl (by decide) ((Y.mv rfl).yd) ?_))))
  refine E.st rfl rfl (N.call0 t_impl_within rfl rfl rfl (by decide) (fun w Lp hA => trivial)) (fun _ _ => ?_)
  refine E.y rfl rfl (by decide) ((Y.as rfl).yd) ?_
  exact E.nil (E.thn (E.ret (F.r1 (Back.refl _ _) rfl rfl () trivial rfl (J := _) (.refl _) (.inl rfl))))
theorem t_impl_areValues_1 {n : Int} : Tr Tryz.prog 197 [.int .i64 n] (fun w L => (I64 n) ∧ True) [] (κ := Unit) (fun k => True) (fun k => .bool (!inR n 0 9)) (fun k => []) := by
  refine Tr.intro Tryz.func197 rfl (n := 6) rfl (by decide +kernel) (Nat.le_of_ble_eq_true rfl) (fr := [(0, .int .i64 n)]) rfl fun w L hR => ?_
  obtain ⟨i6n, _⟩ := hR
  refine E.seq (E.region (l := [0]) rfl (E.y rfl rfl (by decide) ((Y.as rfl).yd) ?_))
  refine E.nil (E.thn (E.seq (E.region (l := [0, 1, 2, 3]) rfl (E.y rfl rfl (by decide) ((Y.mv rfl).yd) ?_))))
  refine E.st rfl rfl (N.call0 t_impl_isValue rfl rfl rfl (by decide) (fun w Lp hA => trivial)) (fun _ _ => ?_)
  refine E.y rfl rfl (by decide) ((Y.not rfl).yd) ?_
  refine E.y rfl rfl (by decide) ((Y.as rfl).yd) ?_
  exact E.nil (E.thn (E.ret (F.r1 (Back.refl _ _) rfl rfl () trivial (congrArg Value.bool (by simp_all)) (J := _) (.refl _) (.inl rfl))))
theorem t_impl_areValues {a_l : Option Addr} {m_l c_l : Nat} {l : List Int} : Tr Tryz.prog 175 [.slice a_l m_l c_l] (fun w L => Ro w L eIs [.slice a_l m_l c_l] l) [] (κ := Unit) (fun k => True) (fun k => .bool (okVals l)) (fun k => []) := by
  refine Tr.intro Tryz.func175 rfl (n := 6) rfl (by decide +kernel) (Nat.le_of_ble_eq_true rfl) (fr := [(0, .slice a_l m_l c_l)]) rfl fun w L hR => ?_
  have hl := hR
  obtain ⟨rfl, ll⟩ := hl.slen
  refine E.seq (E.region (l := [0]) rfl (E.y rfl rfl (by decide) ((Y.as rfl).yd) ?_))
  refine E.nil (E.thn (E.seq (E.region (l := [0, 1, 2, 3]) rfl (E.y rfl rfl (by decide) ((Y.mv rfl).yd) ?_))))
  refine E.st rfl rfl (N.call0 (t_ContainsFunc_I (f := (fun n => !inR n 0 9)) (D_f := (fun _ => True)) (by intros; exact trivial)) rfl rfl rfl (by decide) (fun w Lp hA => ⟨hA.ro hl, FnP.ofI (D := (fun _ => True)) (fun hd => t_impl_areValues_1) (fun w' hk => trivial)⟩)) (fun _ _ => ?_)
  refine E.y rfl rfl (by decide) ((Y.not rfl).yd) ?_
  refine E.y rfl rfl (by decide) ((Y.as rfl).yd) ?_
  exact E.nil (E.thn (E.ret (F.r1 (Back.refl _ _) rfl rfl () trivial (congrArg Value.bool (by rfl)) (J := _) (.refl _) (.inl rfl))))
theorem t_impl_IsFact {a_s : Option Addr} {m_s c_s : Nat} {s : List Int} {f_Rel : Int} {a_f_Values : Option Addr} {m_f_Values c_f_Values : Nat} {f_Values : List Int} : Tr Tryz.prog 133 [.slice a_s m_s c_s, .agg #[.int .i64 f_Rel, .slice a_f_Values m_f_Values c_f_Values]] (fun w L => Ro w L eIs [.slice a_s m_s c_s] s ∧ I64 f_Rel ∧ Ro w L eIs [.slice a_f_Values m_f_Values c_f_Values] f_Values) [] (κ := Unit) (fun k => True) (fun k => .bool (okFact s (f_Rel, f_Values))) (fun k => []) := by
  refine Tr.intro Tryz.func133 rfl (n := 25) rfl (by decide +kernel) (Nat.le_of_ble_eq_true rfl) (fr := [(0, .slice a_s m_s c_s), (1, .agg #[.int .i64 f_Rel, .slice a_f_Values m_f_Values c_f_Values])]) rfl fun w L hR => ?_
  obtain ⟨hs, i6f_Rel, hf_Values⟩ := hR
  obtain ⟨rfl, ls⟩ := hs.slen
  obtain ⟨rfl, lf_Values⟩ := hf_Values.slen
  refine E.seq (E.region (l := [0, 1]) rfl (E.st rfl rfl (N.box (cs := [_, _]) rfl (by decide) rfl) (fun b3 _ => ?_)))
  refine E.y rfl rfl (by decide) ((Y.as rfl).yd) ?_
  refine E.nil (E.thn (E.seq (D.region (fun j => true) mixed (D.yp 0 rfl rfl (by decide) (Y.mv rfl) (by kernel_rfl) ?_))))
  refine D.yp 1 rfl rfl (by decide) (Y.fld fo_Fact_0 ty_I (by decide) rfl) (by kernel_rfl) ?_
  refine D.y 2 rfl rfl (by decide) (Y.ld1 ty_I rfl ((Has.pt m0).sub (cs' := [_]) 0 rfl) rfl) (by kernel_rfl) ?_
  refine D.st 3 rfl rfl (by kernel_rfl) (fun _ => rfl) (N.call0 t_impl_hasRel rfl rfl rfl (by decide) (fun w Lp hA => hA.ro hs)) (fun _ _ => (Ent.b (fun q8 => ?_) (fun q8 => ?_)))
  · obtain ⟨z1, z2, _, _⟩ := okRel_lt q8
    refine D.yp 4 rfl rfl (by decide) (Y.mv rfl) (by kernel_rfl) ?_
    refine D.yp 5 rfl rfl (by decide) (Y.fld fo_Fact_1 ty_Is (by decide) rfl) (by kernel_rfl) ?_
    refine D.y 6 rfl rfl (by decide) (Y.ld1 ty_Is rfl ((Has.pt m0).sub (cs' := [_]) 1 rfl) rfl) (by kernel_rfl) ?_
    refine D.yp 7 rfl rfl (by decide) (Y.len us_Is rfl) (by kernel_rfl) ?_
    refine D.yp 8 rfl rfl (by decide) (Y.mv rfl) (by kernel_rfl) ?_
    refine D.yp 9 rfl rfl (by decide) (Y.fld fo_Fact_0 ty_I (by decide) rfl) (by kernel_rfl) ?_
    refine D.y 10 rfl rfl (by decide) (Y.ld1 ty_I rfl ((Has.pt m0).sub (cs' := [_]) 0 rfl) rfl) (by kernel_rfl) ?_
    obtain ⟨eb16, eo16, ea16, ei16, eh16⟩ := hs.elemI f_Rel.toNat (by omega)
    refine D.yp 11 rfl rfl (by decide) (Y.ix us_Is ty_I rfl ea16 rfl f_Rel.toNat (by omega) (by omega)) (by kernel_rfl) ?_
    refine D.y 12 rfl rfl (by decide) (Y.ld1 ty_I rfl (eh16 _) rfl) (by kernel_rfl) ?_
    refine D.yp 13 rfl rfl (by decide) (Y.eql rfl rfl) (by kernel_rfl) (Ent.d (fun q18 => ?_) (fun q18 => ?_))
    · refine D.yp 14 rfl rfl (by decide) (Y.pkt rfl rfl) (by kernel_rfl) ?_
      refine D.yp 15 rfl rfl (by decide) (Y.mv rfl) (by kernel_rfl) ?_
      refine D.yp 16 rfl rfl (by decide) (Y.fld fo_Fact_1 ty_Is (by decide) rfl) (by kernel_rfl) ?_
      refine D.y 17 rfl rfl (by decide) (Y.ld1 ty_Is rfl ((Has.pt m0).sub (cs' := [_]) 1 rfl) rfl) (by kernel_rfl) ?_
      refine D.st 18 rfl rfl (by kernel_rfl) (fun _ => rfl) (N.call0 t_impl_areValues rfl rfl rfl (by decide) (fun w Lp hA => hA.ro hf_Values)) (fun _ _ => ?_)
      refine D.yp 19 rfl rfl (by decide) (Y.pkt rfl rfl) (by kernel_rfl) ?_
      refine D.yp 20 rfl rfl (by decide) (Y.as rfl) (by kernel_rfl) ?_
      exact D.done (by kernel_rfl) (E.thn (E.ret (F.r1 (Back.refl _ _) rfl rfl () trivial (congrArg Value.bool (by exact okFact_is (f := (f_Rel, f_Values)) q8 (at0_get (i := f_Rel) (show f_Rel.toNat < s.length by omega)) q18)) (J := _) (.refl _) (.inl rfl))))
    · refine D.yp 14 rfl rfl (by decide) (Y.pkt rfl rfl) (by kernel_rfl) ?_
      refine D.yp 15 rfl rfl (by decide) (Y.mv rfl) (by kernel_rfl) ?_
      refine D.skip 16 rfl rfl (by kernel_rfl) rfl ?_
      refine D.skip 17 rfl rfl (by kernel_rfl) rfl ?_
      refine D.skip 18 rfl rfl (by kernel_rfl) rfl ?_
      refine D.yp 19 rfl rfl (by decide) (Y.pkf rfl rfl) (by kernel_rfl) ?_
      refine D.yp 20 rfl rfl (by decide) (Y.as rfl) (by kernel_rfl) ?_
      exact D.done (by kernel_rfl) (E.thn (E.ret (F.r1 (Back.refl _ _) rfl rfl () trivial (congrArg Value.bool (by exact okFact_no2 (at0_get (i := f_Rel) (show f_Rel.toNat < s.length by omega)) q18)) (J := _) (.refl _) (.inl rfl))))
  · refine D.yp 4 rfl rfl (by decide) (Y.mv rfl) (by kernel_rfl) ?_
    refine D.skip 5 rfl rfl (by kernel_rfl) rfl ?_
    refine D.skip 6 rfl rfl (by kernel_rfl) rfl ?_
    refine D.skip 7 rfl rfl (by kernel_rfl) rfl ?_
    refine D.skip 8 rfl rfl (by kernel_rfl) rfl ?_
    refine D.skip 9 rfl rfl (by kernel_rfl) rfl ?_
    refine D.skip 10 rfl rfl (by kernel_rfl) rfl ?_
    refine D.skip 11 rfl rfl (by kernel_rfl) rfl ?_
    refine D.skip 12 rfl rfl (by kernel_rfl) rfl ?_
    refine D.skip 13 rfl rfl (by kernel_rfl) rfl ?_
    refine D.yp 14 rfl rfl (by decide) (Y.pkf rfl rfl) (by kernel_rfl) ?_
    refine D.yp 15 rfl rfl (by decide) (Y.mv rfl) (by kernel_rfl) ?_
    refine D.skip 16 rfl rfl (by kernel_rfl) rfl ?_
    refine D.skip 17 rfl rfl (by kernel_rfl) rfl ?_
    refine D.skip 18 rfl rfl (by kernel_rfl) rfl ?_
    refine D.yp 19 rfl rfl (by decide) (Y.pkf rfl rfl) (by kernel_rfl) ?_
    refine D.yp 20 rfl rfl (by decide) (Y.as rfl) (by kernel_rfl) ?_
    exact D.done (by kernel_rfl) (E.thn (E.ret (F.r1 (Back.refl _ _) rfl rfl () trivial (congrArg Value.bool (by exact okFact_no1 q8)) (J := _) (.refl _) (.inl rfl))))
theorem t_spec_IsFact {a_s : Option Addr} {m_s c_s : Nat} {s : List Int} {f_Rel : Int} {a_f_Values : Option Addr} {m_f_Values c_f_Values : Nat} {f_Values : List Int} : Tr Tryz.prog 130 [.slice a_s m_s c_s, .agg #[.int .i64 f_Rel, .slice a_f_Values m_f_Values c_f_Values]] (fun w L => Ro w L eIs [.slice a_s m_s c_s] s ∧ I64 f_Rel ∧ Ro w L eIs [.slice a_f_Values m_f_Values c_f_Values] f_Values) [] (κ := Unit) (fun k => True) (fun k => .bool (okFact s (f_Rel, f_Values))) (fun k => []) := by
  refine Tr.intro Tryz.func130 rfl (n := 43) rfl (by decide +kernel) (Nat.le_of_ble_eq_true rfl) (fr := [(0, .slice a_s m_s c_s), (1, .agg #[.int .i64 f_Rel, .slice a_f_Values m_f_Values c_f_Values])]) rfl fun w L hR => ?_
  obtain ⟨hs, i6f_Rel, hf_Values⟩ := hR
  obtain ⟨rfl, ls⟩ := hs.slen
  obtain ⟨rfl, lf_Values⟩ := hf_Values.slen
  refine E.seq (E.region (l := [0, 1]) rfl (E.st rfl rfl (N.box (cs := [_, _]) rfl (by decide) rfl) (fun b3 _ => ?_)))
  refine E.y rfl rfl (by decide) ((Y.as rfl).yd) ?_
  refine E.nil (E.thn (E.seq (E.seq (D.region (fun j => true) mixed (D.yp 0 rfl rfl (by decide) (Y.mv rfl) (by kernel_rfl) ?_)))))
  refine D.st 1 rfl rfl (by kernel_rfl) (fun _ => rfl) (N.call0 t_spec_IsSchema rfl rfl rfl (by decide) (fun w Lp hA => hA.ro hs)) (fun _ _ => (Ent.b (fun q7 => ?_) (fun q7 => ?_)))
  · refine D.yp 2 rfl rfl (by decide) (Y.not (b := true) rfl) (by kernel_rfl) ?_
    refine D.yp 3 rfl rfl (by decide) (Y.mv rfl) (by kernel_rfl) ?_
    refine D.yp 4 rfl rfl (by decide) (Y.fld fo_Fact_0 ty_I (by decide) rfl) (by kernel_rfl) ?_
    refine D.y 5 rfl rfl (by decide) (Y.ld1 ty_I rfl ((Has.pt m0).sub (cs' := [_]) 0 rfl) rfl) (by kernel_rfl) ?_
    refine D.yp 6 rfl rfl (by decide) (Y.mv rfl) (by kernel_rfl) ?_
    refine D.yp 7 rfl rfl (by decide) (Y.len us_Is rfl) (by kernel_rfl) ?_
    refine D.yp 8 rfl rfl (by decide) (Y.sub rfl rfl (by omega) (by omega)) (by kernel_rfl) ?_
    refine D.st 9 rfl rfl (by kernel_rfl) (fun _ => rfl) (N.call0 t_spec_l1In rfl rfl rfl (by decide) (fun w Lp hA => trivial)) (fun _ _ => (Ent.b (fun q15 => ?_) (fun q15 => ?_)))
    · have y1 : okRel s f_Rel = true := by rw [okRel, q7, q15]; rfl
      obtain ⟨z1, z2, _, _⟩ := okRel_lt y1
      refine D.yp 10 rfl rfl (by decide) (Y.not (b := true) rfl) (by kernel_rfl) ?_
      refine D.yp 11 rfl rfl (by decide) (Y.pkf rfl rfl) (by kernel_rfl) ?_
      refine D.yp 12 rfl rfl (by decide) (Y.mv rfl) (by kernel_rfl) ?_
      refine D.yp 13 rfl rfl (by decide) (Y.fld fo_Fact_1 ty_Is (by decide) rfl) (by kernel_rfl) ?_
      refine D.y 14 rfl rfl (by decide) (Y.ld1 ty_Is rfl ((Has.pt m0).sub (cs' := [_]) 1 rfl) rfl) (by kernel_rfl) ?_
      refine D.yp 15 rfl rfl (by decide) (Y.len us_Is rfl) (by kernel_rfl) ?_
      refine D.yp 16 rfl rfl (by decide) (Y.mv rfl) (by kernel_rfl) ?_
      refine D.yp 17 rfl rfl (by decide) (Y.fld fo_Fact_0 ty_I (by decide) rfl) (by kernel_rfl) ?_
      refine D.y 18 rfl rfl (by decide) (Y.ld1 ty_I rfl ((Has.pt m0).sub (cs' := [_]) 0 rfl) rfl) (by kernel_rfl) ?_
      obtain ⟨eb25, eo25, ea25, ei25, eh25⟩ := hs.elemI f_Rel.toNat (by omega)
      refine D.yp 19 rfl rfl (by decide) (Y.ix us_Is ty_I rfl ea25 rfl f_Rel.toNat (by omega) (by omega)) (by kernel_rfl) ?_
      refine D.y 20 rfl rfl (by decide) (Y.ld1 ty_I rfl (eh25 _) rfl) (by kernel_rfl) ?_
      refine D.yp 21 rfl rfl (by decide) (Y.neq rfl rfl) (by kernel_rfl) (Ent.d (fun q27 => ?_) (fun q27 => ?_))
      · refine D.yp 22 rfl rfl (by decide) (Y.pkf rfl rfl) (by kernel_rfl) ?_
        refine D.done (by kernel_rfl) (E.thn (E.ct rfl (E.seq (E.region (l := [0]) rfl (E.y rfl rfl (by decide) ((Y.as rfl).yd) ?_)))))
        exact E.nil (E.thn (E.ret (E.thr (F.r1 (Back.refl _ _) rfl rfl () trivial (congrArg Value.bool (by exact okFact_no2 (at0_get (i := f_Rel) (show f_Rel.toNat < s.length by omega)) q27)) (J := _) (.refl _) (.inl rfl)))))
      · refine D.yp 22 rfl rfl (by decide) (Y.pkf rfl rfl) (by kernel_rfl) ?_
        refine D.done (by kernel_rfl) (E.thn (E.cf rfl (E.skipc (E.thn (E.seq (E.seq (E.region (l := [0]) rfl (E.y rfl rfl (by decide) ((Y.as rfl).yd) ?_))))))))
        refine E.nil (E.thn (E.block (E.loop (κ := Nat) (fun g => g ≤ f_Values.length ∧ ∀ x ∈ f_Values.take g, (!inR x 0 9) = false) (fun g => [(3, .pointer (some ⟨b3, 0, none⟩)), (5, .int .i64 (↑g : Int))]) (fun g => [pt b3 95 [.int .i64 f_Rel, .slice a_f_Values f_Values.length c_f_Values]]) (fun g => f_Values.length - g) 0 ⟨by omega, by simp⟩ ⟨rfl, rfl, trivial⟩ (.refl _) (fun g pg => ?_))))
        obtain ⟨pk, pa⟩ := pg
        refine E.seq (E.seq (E.region (l := [0, 1, 2, 3, 4]) rfl (E.y rfl rfl (by decide) ((Y.mv rfl).yd) ?_)))
        refine E.y rfl rfl (by decide) ((Y.fld fo_Fact_1 ty_Is (by decide) rfl).yd) ?_
        refine E.y rfl rfl (by decide) (Y.ld1 ty_Is rfl ((Has.pt m0).sub (cs' := [_]) 1 rfl) rfl) ?_
        refine E.y rfl rfl (by decide) ((Y.len us_Is rfl).yd) ?_
        refine E.y rfl rfl (by decide) ((Y.lss rfl rfl).yd) (Ent.d (fun q33 => ?_) (fun q33 => ?_))
        · refine E.nil (E.thn (E.ct rfl (E.skipc (E.thn (E.seq (E.block (E.seq (E.region (l := [0, 1, 2, 3, 4, 5, 6]) rfl (E.y rfl rfl (by decide) ((Y.fld fo_Fact_1 ty_Is (by decide) rfl).yd) ?_)))))))))
          refine E.y rfl rfl (by decide) (Y.ld1 ty_Is rfl ((Has.pt m0).sub (cs' := [_]) 1 rfl) rfl) ?_
          refine E.y rfl rfl (by decide) ((Y.mv rfl).yd) ?_
          obtain ⟨eb39, eo39, ea39, ei39, eh39⟩ := hf_Values.elemI g (by omega)
          refine E.y rfl rfl (by decide) ((Y.ix us_Is ty_I rfl ea39 rfl g rfl (by omega)).yd) ?_
          refine E.y rfl rfl (by decide) (Y.ld1 ty_I rfl (eh39 _) rfl) ?_
          refine E.st rfl rfl (N.call0 t_spec_l1In rfl rfl rfl (by decide) (fun w Lp hA => trivial)) (fun _ _ => (Ent.b (fun q41 => ?_) (fun q41 => ?_)))
          · refine E.y rfl rfl (by decide) ((Y.not (b := true) rfl).yd) ?_
            refine E.nil (E.thn (E.cf rfl (E.skipc (E.bln (E.thn (E.region (l := [0, 1, 2]) rfl (E.y rfl rfl (by decide) ((Y.mv rfl).yd) ?_)))))))
            refine E.y rfl rfl (by decide) ((Y.add rfl rfl (by omega) (by omega)).yd) ?_
            refine E.y rfl rfl (by decide) ((Y.as rfl).yd) ?_
            exact E.nil (E.thn (E.again (Back.refl _ _) (g + 1) ⟨rfl, rfl, trivial⟩ (.refl _) ⟨by omega, take_step (by omega) pa (by rw [q41]; rfl)⟩ (by omega)))
          · refine E.y rfl rfl (by decide) ((Y.not (b := false) rfl).yd) ?_
            refine E.nil (E.thn (E.ct rfl (E.seq (E.region (l := [0]) rfl (E.y rfl rfl (by decide) ((Y.as rfl).yd) ?_)))))
            exact E.nil (E.thn (E.ret (E.blr (E.thr (E.thr (E.blr (E.thr (F.r1 (Back.refl _ _) rfl rfl () trivial (congrArg Value.bool (by exact okFact_no3 (by rw [okVals, any_hit (k := g) (show g < f_Values.length by omega) (by rw [q41]; rfl)]; rfl))) (J := _) (.refl _) (.inl rfl)))))))))
        · refine E.nil (E.thn (E.cf rfl (E.exit (E.the (E.the (E.blh (E.thn (E.seq (E.region (l := [0]) rfl (E.y rfl rfl (by decide) ((Y.as rfl).yd) ?_))))))))))
          exact E.nil (E.thn (E.ret (F.r1 (Back.refl _ _) rfl rfl () trivial (congrArg Value.bool (by rw [← okFact_is (f := (f_Rel, f_Values)) y1 (at0_get (i := f_Rel) (show f_Rel.toNat < s.length by omega)) (show (f_Values.length : Int) = s[f_Rel.toNat] by omega), okVals, any_miss (show ¬ g < f_Values.length by omega) pa]; rfl)) (J := _) (.refl _) (.inl rfl))))
    · refine D.yp 10 rfl rfl (by decide) (Y.not (b := false) rfl) (by kernel_rfl) ?_
      refine D.yp 11 rfl rfl (by decide) (Y.pkf rfl rfl) (by kernel_rfl) ?_
      refine D.yp 12 rfl rfl (by decide) (Y.mv rfl) (by kernel_rfl) ?_
      refine D.skip 13 rfl rfl (by kernel_rfl) rfl ?_
      refine D.skip 14 rfl rfl (by kernel_rfl) rfl ?_
      refine D.skip 15 rfl rfl (by kernel_rfl) rfl ?_
      refine D.skip 16 rfl rfl (by kernel_rfl) rfl ?_
      refine D.skip 17 rfl rfl (by kernel_rfl) rfl ?_
      refine D.skip 18 rfl rfl (by kernel_rfl) rfl ?_
      refine D.skip 19 rfl rfl (by kernel_rfl) rfl ?_
      refine D.skip 20 rfl rfl (by kernel_rfl) rfl ?_
      refine D.skip 21 rfl rfl (by kernel_rfl) rfl ?_
      refine D.yp 22 rfl rfl (by decide) (Y.pkt rfl rfl) (by kernel_rfl) ?_
      refine D.done (by kernel_rfl) (E.thn (E.ct rfl (E.seq (E.region (l := [0]) rfl (E.y rfl rfl (by decide) ((Y.as rfl).yd) ?_)))))
      exact E.nil (E.thn (E.ret (E.thr (F.r1 (Back.refl _ _) rfl rfl () trivial (congrArg Value.bool (by exact okFact_no1 (okRel_no q15))) (J := _) (.refl _) (.inl rfl)))))
  · refine D.yp 2 rfl rfl (by decide) (Y.not (b := false) rfl) (by kernel_rfl) ?_
    refine D.yp 3 rfl rfl (by decide) (Y.mv rfl) (by kernel_rfl) ?_
    refine D.skip 4 rfl rfl (by kernel_rfl) rfl ?_
    refine D.skip 5 rfl rfl (by kernel_rfl) rfl ?_
    refine D.skip 6 rfl rfl (by kernel_rfl) rfl ?_
    refine D.skip 7 rfl rfl (by kernel_rfl) rfl ?_
    refine D.skip 8 rfl rfl (by kernel_rfl) rfl ?_
    refine D.skip 9 rfl rfl (by kernel_rfl) rfl ?_
    refine D.skip 10 rfl rfl (by kernel_rfl) rfl ?_
    refine D.yp 11 rfl rfl (by decide) (Y.pkt rfl rfl) (by kernel_rfl) ?_
    refine D.yp 12 rfl rfl (by decide) (Y.mv rfl) (by kernel_rfl) ?_
    refine D.skip 13 rfl rfl (by kernel_rfl) rfl ?_
    refine D.skip 14 rfl rfl (by kernel_rfl) rfl ?_
    refine D.skip 15 rfl rfl (by kernel_rfl) rfl ?_
    refine D.skip 16 rfl rfl (by kernel_rfl) rfl ?_
    refine D.skip 17 rfl rfl (by kernel_rfl) rfl ?_
    refine D.skip 18 rfl rfl (by kernel_rfl) rfl ?_
    refine D.skip 19 rfl rfl (by kernel_rfl) rfl ?_
    refine D.skip 20 rfl rfl (by kernel_rfl) rfl ?_
    refine D.skip 21 rfl rfl (by kernel_rfl) rfl ?_
    refine D.yp 22 rfl rfl (by decide) (Y.pkt rfl rfl) (by kernel_rfl) ?_
    refine D.done (by kernel_rfl) (E.thn (E.ct rfl (E.seq (E.region (l := [0]) rfl (E.y rfl rfl (by decide) ((Y.as rfl).yd) ?_)))))
    exact E.nil (E.thn (E.ret (E.thr (F.r1 (Back.refl _ _) rfl rfl () trivial (congrArg Value.bool (by exact okFact_no1 (okRel_no0 q7))) (J := _) (.refl _) (.inl rfl)))))
end Go.Proofs.YtlcfbfbdnnoifaaGreat
