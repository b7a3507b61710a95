import Derived.Test.YtfnagmokplpnjaaGreatT1
import Derived.Test.YtfnagmokplpnjaaGreatBc
namespace Go.Proofs.YtfnagmokplpnjaaGreat
open Go.RowKit
set_option linter.unusedVariables false
set_option linter.unusedSimpArgs false
set_option maxHeartbeats 2000000
attribute [local irreducible] Nop Yd Yp Ent Has Tr FnP FnP2 Src
theorem t_laws_szFact {a_Rel : Int} {a_a_Values : Option Addr} {m_a_Values c_a_Values : Nat} {a_Values : List Int} {left : Int} : Tr Tryz.prog 13 [.agg #[.int .i64 a_Rel, .slice a_a_Values m_a_Values c_a_Values], .int .i64 left] (fun w L => I64 a_Rel ∧ Ro w L eIs [.slice a_a_Values m_a_Values c_a_Values] a_Values ∧ 0 ≤ left ∧ left ≤ 1048576) [] (κ := Unit) (fun k => True) (fun k => .int .i64 (szR (a_Values.length) left)) (fun k => []) := by
  refine Tr.intro Tryz.func13 rfl (n := 12) rfl (by decide +kernel) (Nat.le_of_ble_eq_true rfl) (fr := [(0, .agg #[.int .i64 a_Rel, .slice a_a_Values m_a_Values c_a_Values]), (1, .int .i64 left)]) rfl fun w L hR => ?_
  obtain ⟨i6a_Rel, ha_Values, as0, as1⟩ := hR
  obtain ⟨rfl, la_Values⟩ := ha_Values.slen
  refine E.seq (E.region (l := [0, 1]) rfl (E.st rfl rfl (N.box (cs := [_, _]) rfl (by decide) rfl) (fun b2 _ => ?_)))
  refine E.y rfl rfl (by decide) ((Y.as rfl).yd) ?_
  refine E.nil (E.thn (E.seq (E.region (l := [0, 1, 2, 3, 4]) rfl (E.y rfl rfl (by decide) ((Y.fld fo_lFact_1 ty_Is (by decide) rfl).yd) ?_))))
  refine E.y rfl rfl (by decide) (Y.ld1 ty_Is rfl ((Has.pt m0).sub (cs' := [_]) 1 rfl) rfl) ?_
  refine E.y rfl rfl (by decide) ((Y.mv rfl).yd) ?_
  refine E.st rfl rfl (N.call0 t_laws_szIntS rfl rfl rfl (by decide) (fun w Lp hA => ⟨hA.ro ha_Values, (by first | assumption | omega), (by first | assumption | omega)⟩)) (fun _ _ => ?_)
  refine E.y rfl rfl (by decide) ((Y.as rfl).yd) ?_
  refine E.nil (E.thn (E.seq (E.seq (E.region (l := [0, 1]) rfl (E.y rfl rfl (by decide) ((Y.mv rfl).yd) ?_)))))
  refine E.y rfl rfl (by decide) ((Y.lss rfl rfl).yd) (Ent.d (fun q10 => ?_) (fun q10 => ?_))
  · have z10 := szR_bad q10 (by omega)
    refine E.nil (E.thn (E.ct rfl (E.seq (E.region (l := [0]) rfl (E.y rfl rfl (by decide) ((Y.as rfl).yd) ?_)))))
    exact E.nil (E.thn (E.ret (E.thr (F.r1 (Back.refl _ _) rfl rfl () trivial (congrArg (Value.int .i64) (by unfold szR; split <;> omega)) (J := _) (.refl _) (.inl rfl)))))
  · obtain ⟨z10, y10⟩ := szR_ok q10 (by omega)
    refine E.nil (E.thn (E.cf rfl (E.skipc (E.thn (E.seq (E.region (l := [0, 1]) rfl (E.y rfl rfl (by decide) ((Y.mv rfl).yd) ?_)))))))
    refine E.y rfl rfl (by decide) ((Y.as rfl).yd) ?_
    exact E.nil (E.thn (E.ret (F.r1 (Back.refl _ _) rfl rfl () trivial (congrArg (Value.int .i64) (by have e : szR (a_Values.length) left = left - ((a_Values.length : Nat) : Int) := by { unfold szR; split <;> omega }; omega)) (J := _) (.refl _) (.inl rfl))))
theorem t_laws_toFact {a_Rel : Int} {a_a_Values : Option Addr} {m_a_Values c_a_Values : Nat} {a_Values : List Int} (h1 : a_Values.length ≤ 1048576) : Tr Tryz.prog 20 [.agg #[.int .i64 a_Rel, .slice a_a_Values m_a_Values c_a_Values]] (fun w L => I64 a_Rel ∧ Ro w L eIs [.slice a_a_Values m_a_Values c_a_Values] a_Values) [] (κ := Option Addr × Nat × Nat) (fun k => True) (fun k => .agg #[.int .i64 a_Rel, .slice k.1 k.2.1 k.2.2]) (fun k => [ow eIs [.slice k.1 k.2.1 k.2.2] a_Values]) := by
  refine Tr.intro Tryz.func20 rfl (n := 12) rfl (by decide +kernel) (Nat.le_of_ble_eq_true rfl) (fr := [(0, .agg #[.int .i64 a_Rel, .slice a_a_Values m_a_Values c_a_Values])]) rfl fun w L hR => ?_
  obtain ⟨i6a_Rel, ha_Values⟩ := hR
  obtain ⟨rfl, la_Values⟩ := ha_Values.slen
  refine E.seq (E.region (l := [0, 1]) rfl (E.st rfl rfl (N.box (cs := [_, _]) rfl (by decide) rfl) (fun b1 _ => ?_)))
  refine E.st rfl rfl (N.alloc ty_Fact (by decide)) (fun b2 _ => ?_)
  refine E.nil (E.thn (E.seq (E.region (l := [0]) rfl (E.st rfl rfl (N.alloc ty_Fact (by decide)) (fun b3 _ => ?_)))))
  refine E.nil (E.thn (E.seq (E.region (l := [0, 1, 2, 3]) rfl (E.y rfl rfl (by decide) ((Y.fld fo_lFact_0 ty_I (by decide) rfl).yd) ?_))))
  refine E.y rfl rfl (by decide) (Y.ld1 ty_I rfl ((Has.pt (mS (mS m0))).sub (cs' := [_]) 0 rfl) rfl) ?_
  refine E.y rfl rfl (by decide) ((Y.fld fo_Fact_0 ty_I (by decide) rfl).yd) ?_
  refine E.st rfl rfl (N.sto (vs := [_]) (cs' := [_, _]) ty_I rfl rfl rfl rfl rfl (Nat.le_of_ble_eq_true rfl) rfl) (fun _ _ => ?_)
  refine E.nil (E.thn (E.seq (E.region (l := [0, 1, 2, 3, 4]) rfl (E.y rfl rfl (by decide) ((Y.fld fo_lFact_1 ty_Is (by decide) rfl).yd) ?_))))
  refine E.y rfl rfl (by decide) (Y.ld1 ty_Is rfl ((Has.pt (mS (mS m0))).sub (cs' := [_]) 1 rfl) rfl) ?_
  refine E.st rfl rfl (N.call (t_laws_toIntS (by first | omega | assumption | (constructor <;> omega))) rfl rfl rfl (by decide) rfl (fun w Lp hA => hA.ro ha_Values)) (fun k9 _ => ?_)
  obtain ⟨a9, m9, c9⟩ := k9
  refine Ent.lenow m0 fun e9 l9 => ?_
  subst e9
  refine E.y rfl rfl (by decide) ((Y.fld fo_Fact_1 ty_Is (by decide) rfl).yd) ?_
  refine Ent.p1 ?_
  refine E.st rfl rfl (N.sto (vs := [_]) (cs' := [_, _]) ty_Is rfl rfl rfl rfl rfl (Nat.le_of_ble_eq_true rfl) rfl) (fun _ _ => ?_)
  refine E.nil (E.thn (E.seq (E.region (l := [0, 1]) rfl (E.y rfl rfl (by decide) (Y.ldS (cs := [_, _]) ty_Fact rfl (Has.pt m0) rfl) ?_))))
  refine Ent.p2 ?_
  refine E.st rfl rfl (N.sto (vs := [_, _]) (cs' := [_, _]) ty_Fact rfl rfl rfl rfl rfl (Nat.le_of_ble_eq_true rfl) rfl) (fun _ _ => ?_)
  refine E.nil (E.thn (E.ret (Ent.p2 ?_)))
  exact F.c1 (Back.refl _ _) rfl rfl (mS m0) ty_Fact rfl (_, _, _) trivial rfl (J := _) (.refl _) (.inl rfl)
theorem t_laws_eqFact {a_Rel : Int} {a_a_Values : Option Addr} {m_a_Values c_a_Values : Nat} {a_Values : List Int} {b_Rel : Int} {a_b_Values : Option Addr} {m_b_Values c_b_Values : Nat} {b_Values : List Int} : Tr Tryz.prog 27 [.agg #[.int .i64 a_Rel, .slice a_a_Values m_a_Values c_a_Values], .agg #[.int .i64 b_Rel, .slice a_b_Values m_b_Values c_b_Values]] (fun w L => I64 a_Rel ∧ Ro w L eIs [.slice a_a_Values m_a_Values c_a_Values] a_Values ∧ I64 b_Rel ∧ Ro w L eIs [.slice a_b_Values m_b_Values c_b_Values] b_Values) [] (κ := Unit) (fun k => True) (fun k => .bool (decide ((a_Rel, a_Values) = (b_Rel, b_Values)))) (fun k => []) := by
  refine Tr.intro Tryz.func27 rfl (n := 16) rfl (by decide +kernel) (Nat.le_of_ble_eq_true rfl) (fr := [(0, .agg #[.int .i64 a_Rel, .slice a_a_Values m_a_Values c_a_Values]), (1, .agg #[.int .i64 b_Rel, .slice a_b_Values m_b_Values c_b_Values])]) rfl fun w L hR => ?_
  obtain ⟨i6a_Rel, ha_Values, i6b_Rel, hb_Values⟩ := hR
  obtain ⟨rfl, la_Values⟩ := ha_Values.slen
  obtain ⟨rfl, lb_Values⟩ := hb_Values.slen
  refine E.seq (E.region (l := [0, 1, 2]) rfl (E.st rfl rfl (N.box (cs := [_, _]) rfl (by decide) rfl) (fun b2 _ => ?_)))
  refine E.st rfl rfl (N.box (cs := [_, _]) rfl (by decide) rfl) (fun b3 _ => ?_)
  refine E.y rfl rfl (by decide) ((Y.as rfl).yd) ?_
  refine E.nil (E.thn (E.seq (E.seq (E.region (l := [0, 1, 2, 3, 4]) rfl (E.y rfl rfl (by decide) ((Y.fld fo_Fact_0 ty_I (by decide) rfl).yd) ?_)))))
  refine E.y rfl rfl (by decide) (Y.ld1 ty_I rfl ((Has.pt (mS m0)).sub (cs' := [_]) 0 rfl) rfl) ?_
  refine E.y rfl rfl (by decide) ((Y.fld fo_Fact_0 ty_I (by decide) rfl).yd) ?_
  refine E.y rfl rfl (by decide) (Y.ld1 ty_I rfl ((Has.pt m0).sub (cs' := [_]) 0 rfl) rfl) ?_
  refine E.y rfl rfl (by decide) ((Y.neq rfl rfl).yd) (Ent.d (fun q9 => ?_) (fun q9 => ?_))
  · refine E.nil (E.thn (E.ct rfl (E.seq (E.region (l := [0]) rfl (E.y rfl rfl (by decide) ((Y.as rfl).yd) ?_)))))
    exact E.nil (E.thn (E.ret (E.thr (F.r1 (Back.refl _ _) rfl rfl () trivial (congrArg Value.bool (by simp_all)) (J := _) (.refl _) (.inl rfl)))))
  · refine E.nil (E.thn (E.cf rfl (E.skipc (E.thn (E.seq (E.seq (E.region (l := [0, 1, 2, 3, 4, 5]) rfl (E.y rfl rfl (by decide) ((Y.fld fo_Fact_1 ty_Is (by decide) rfl).yd) ?_))))))))
    refine E.y rfl rfl (by decide) (Y.ld1 ty_Is rfl ((Has.pt (mS m0)).sub (cs' := [_]) 1 rfl) rfl) ?_
    refine E.y rfl rfl (by decide) ((Y.fld fo_Fact_1 ty_Is (by decide) rfl).yd) ?_
    refine E.y rfl rfl (by decide) (Y.ld1 ty_Is rfl ((Has.pt m0).sub (cs' := [_]) 1 rfl) rfl) ?_
    refine E.st rfl rfl (N.call0 t_laws_eqIntS rfl rfl rfl (by decide) (fun w Lp hA => ⟨hA.ro ha_Values, hA.ro hb_Values⟩)) (fun _ _ => (Ent.b (fun q14 => ?_) (fun q14 => ?_)))
    · refine E.y rfl rfl (by decide) ((Y.not (b := true) rfl).yd) ?_
      refine E.nil (E.thn (E.cf rfl (E.skipc (E.thn (E.seq (E.region (l := [0]) rfl (E.y rfl rfl (by decide) ((Y.as rfl).yd) ?_)))))))
      exact E.nil (E.thn (E.ret (F.r1 (Back.refl _ _) rfl rfl () trivial (congrArg Value.bool (by simp_all)) (J := _) (.refl _) (.inl rfl))))
    · refine E.y rfl rfl (by decide) ((Y.not (b := false) rfl).yd) ?_
      refine E.nil (E.thn (E.ct rfl (E.seq (E.region (l := [0]) rfl (E.y rfl rfl (by decide) ((Y.as rfl).yd) ?_)))))
      exact E.nil (E.thn (E.ret (E.thr (F.r1 (Back.refl _ _) rfl rfl () trivial (congrArg Value.bool (by simp_all)) (J := _) (.refl _) (.inl rfl)))))
theorem t_impl_isValue {n : Int} : Tr Tryz.prog 201 [.int .i64 n] (fun w L => True) [] (κ := Unit) (fun k => True) (fun k => .bool (inR n 0 9)) (fun k => []) := by
  refine Tr.intro Tryz.func201 rfl (n := 5) rfl (by decide +kernel) (Nat.le_of_ble_eq_true rfl) (fr := [(0, .int .i64 n)]) rfl fun w L hR => ?_
  refine E.seq (E.region (l := [0]) rfl (E.y rfl rfl (by decide) ((Y.as rfl).yd) ?_))
  refine E.nil (E.thn (E.seq (E.region (l := [0, 1, 2]) rfl (E.y rfl rfl (by decide) ((Y.mv rfl).yd) ?_))))
  refine E.st rfl rfl (N.call0 t_impl_within rfl rfl rfl (by decide) (fun w Lp hA => trivial)) (fun _ _ => ?_)
  refine E.y rfl rfl (by decide) ((Y.as rfl).yd) ?_
  exact E.nil (E.thn (E.ret (F.r1 (Back.refl _ _) rfl rfl () trivial rfl (J := _) (.refl _) (.inl rfl))))
theorem t_impl_areValues_1 {n : Int} : Tr Tryz.prog 225 [.int .i64 n] (fun w L => (I64 n) ∧ True) [] (κ := Unit) (fun k => True) (fun k => .bool (!inR n 0 9)) (fun k => []) := by
  refine Tr.intro Tryz.func225 rfl (n := 6) rfl (by decide +kernel) (Nat.le_of_ble_eq_true rfl) (fr := [(0, .int .i64 n)]) rfl fun w L hR => ?_
  obtain ⟨i6n, _⟩ := hR
  refine E.seq (E.region (l := [0]) rfl (E.y rfl rfl (by decide) ((Y.as rfl).yd) ?_))
  refine E.nil (E.thn (E.seq (E.region (l := [0, 1, 2, 3]) rfl (E.y rfl rfl (by decide) ((Y.mv rfl).yd) ?_))))
  refine E.st rfl rfl (N.call0 t_impl_isValue rfl rfl rfl (by decide) (fun w Lp hA => trivial)) (fun _ _ => ?_)
  refine E.y rfl rfl (by decide) ((Y.not rfl).yd) ?_
  refine E.y rfl rfl (by decide) ((Y.as rfl).yd) ?_
  exact E.nil (E.thn (E.ret (F.r1 (Back.refl _ _) rfl rfl () trivial (congrArg Value.bool (by simp_all)) (J := _) (.refl _) (.inl rfl))))
theorem t_impl_areValues {a_l : Option Addr} {m_l c_l : Nat} {l : List Int} : Tr Tryz.prog 171 [.slice a_l m_l c_l] (fun w L => Ro w L eIs [.slice a_l m_l c_l] l) [] (κ := Unit) (fun k => True) (fun k => .bool (okVals l)) (fun k => []) := by
  refine Tr.intro Tryz.func171 rfl (n := 6) rfl (by decide +kernel) (Nat.le_of_ble_eq_true rfl) (fr := [(0, .slice a_l m_l c_l)]) rfl fun w L hR => ?_
  have hl := hR
  obtain ⟨rfl, ll⟩ := hl.slen
  refine E.seq (E.region (l := [0]) rfl (E.y rfl rfl (by decide) ((Y.as rfl).yd) ?_))
  refine E.nil (E.thn (E.seq (E.region (l := [0, 1, 2, 3]) rfl (E.y rfl rfl (by decide) ((Y.mv rfl).yd) ?_))))
  refine E.st rfl rfl (N.call0 (t_ContainsFunc_I (f := (fun n => !inR n 0 9)) (D_f := (fun _ => True)) (by intros; exact trivial)) rfl rfl rfl (by decide) (fun w Lp hA => ⟨hA.ro hl, FnP.ofI (D := (fun _ => True)) (fun hd => t_impl_areValues_1) (fun w' hk => trivial)⟩)) (fun _ _ => ?_)
  refine E.y rfl rfl (by decide) ((Y.not rfl).yd) ?_
  refine E.y rfl rfl (by decide) ((Y.as rfl).yd) ?_
  exact E.nil (E.thn (E.ret (F.r1 (Back.refl _ _) rfl rfl () trivial (congrArg Value.bool (by rfl)) (J := _) (.refl _) (.inl rfl))))
theorem t_impl_IsFact {a_s : Option Addr} {m_s c_s : Nat} {s : List Int} {f_Rel : Int} {a_f_Values : Option Addr} {m_f_Values c_f_Values : Nat} {f_Values : List Int} : Tr Tryz.prog 142 [.slice a_s m_s c_s, .agg #[.int .i64 f_Rel, .slice a_f_Values m_f_Values c_f_Values]] (fun w L => Ro w L eIs [.slice a_s m_s c_s] s ∧ I64 f_Rel ∧ Ro w L eIs [.slice a_f_Values m_f_Values c_f_Values] f_Values) [] (κ := Unit) (fun k => True) (fun k => .bool (okFact s (f_Rel, f_Values))) (fun k => []) := by
  refine Tr.intro Tryz.func142 rfl (n := 25) rfl (by decide +kernel) (Nat.le_of_ble_eq_true rfl) (fr := [(0, .slice a_s m_s c_s), (1, .agg #[.int .i64 f_Rel, .slice a_f_Values m_f_Values c_f_Values])]) rfl fun w L hR => ?_
  obtain ⟨hs, i6f_Rel, hf_Values⟩ := hR
  obtain ⟨rfl, ls⟩ := hs.slen
  obtain ⟨rfl, lf_Values⟩ := hf_Values.slen
  refine E.seq (E.region (l := [0, 1]) rfl (E.st rfl rfl (N.box (cs := [_, _]) rfl (by decide) rfl) (fun b3 _ => ?_)))
  refine E.y rfl rfl (by decide) ((Y.as rfl).yd) ?_
  refine E.nil (E.thn (E.seq (D.region (fun j => true) mixed (D.yp 0 rfl rfl (by decide) (Y.mv rfl) (by kernel_rfl) ?_))))
  refine D.yp 1 rfl rfl (by decide) (Y.fld fo_Fact_0 ty_I (by decide) rfl) (by kernel_rfl) ?_
  refine D.y 2 rfl rfl (by decide) (Y.ld1 ty_I rfl ((Has.pt m0).sub (cs' := [_]) 0 rfl) rfl) (by kernel_rfl) ?_
  refine D.st 3 rfl rfl (by kernel_rfl) (fun _ => rfl) (N.call0 t_impl_hasRel rfl rfl rfl (by decide) (fun w Lp hA => hA.ro hs)) (fun _ _ => (Ent.b (fun q8 => ?_) (fun q8 => ?_)))
  · obtain ⟨z1, z2, _, _⟩ := okRel_lt q8
    refine D.yp 4 rfl rfl (by decide) (Y.mv rfl) (by kernel_rfl) ?_
    refine D.yp 5 rfl rfl (by decide) (Y.fld fo_Fact_1 ty_Is (by decide) rfl) (by kernel_rfl) ?_
    refine D.y 6 rfl rfl (by decide) (Y.ld1 ty_Is rfl ((Has.pt m0).sub (cs' := [_]) 1 rfl) rfl) (by kernel_rfl) ?_
    refine D.yp 7 rfl rfl (by decide) (Y.len us_Is rfl) (by kernel_rfl) ?_
    refine D.yp 8 rfl rfl (by decide) (Y.mv rfl) (by kernel_rfl) ?_
    refine D.yp 9 rfl rfl (by decide) (Y.fld fo_Fact_0 ty_I (by decide) rfl) (by kernel_rfl) ?_
    refine D.y 10 rfl rfl (by decide) (Y.ld1 ty_I rfl ((Has.pt m0).sub (cs' := [_]) 0 rfl) rfl) (by kernel_rfl) ?_
    obtain ⟨eb16, eo16, ea16, ei16, eh16⟩ := hs.elemI f_Rel.toNat (by omega)
    refine D.yp 11 rfl rfl (by decide) (Y.ix us_Is ty_I rfl ea16 rfl f_Rel.toNat (by omega) (by omega)) (by kernel_rfl) ?_
    refine D.y 12 rfl rfl (by decide) (Y.ld1 ty_I rfl (eh16 _) rfl) (by kernel_rfl) ?_
    refine D.yp 13 rfl rfl (by decide) (Y.eql rfl rfl) (by kernel_rfl) (Ent.d (fun q18 => ?_) (fun q18 => ?_))
    · refine D.yp 14 rfl rfl (by decide) (Y.pkt rfl rfl) (by kernel_rfl) ?_
      refine D.yp 15 rfl rfl (by decide) (Y.mv rfl) (by kernel_rfl) ?_
      refine D.yp 16 rfl rfl (by decide) (Y.fld fo_Fact_1 ty_Is (by decide) rfl) (by kernel_rfl) ?_
      refine D.y 17 rfl rfl (by decide) (Y.ld1 ty_Is rfl ((Has.pt m0).sub (cs' := [_]) 1 rfl) rfl) (by kernel_rfl) ?_
      refine D.st 18 rfl rfl (by kernel_rfl) (fun _ => rfl) (N.call0 t_impl_areValues rfl rfl rfl (by decide) (fun w Lp hA => hA.ro hf_Values)) (fun _ _ => ?_)
      refine D.yp 19 rfl rfl (by decide) (Y.pkt rfl rfl) (by kernel_rfl) ?_
      refine D.yp 20 rfl rfl (by decide) (Y.as rfl) (by kernel_rfl) ?_
      exact D.done (by kernel_rfl) (E.thn (E.ret (F.r1 (Back.refl _ _) rfl rfl () trivial (congrArg Value.bool (by exact okFact_is (f := (f_Rel, f_Values)) q8 (at0_get (i := f_Rel) (show f_Rel.toNat < s.length by omega)) q18)) (J := _) (.refl _) (.inl rfl))))
    · refine D.yp 14 rfl rfl (by decide) (Y.pkt rfl rfl) (by kernel_rfl) ?_
      refine D.yp 15 rfl rfl (by decide) (Y.mv rfl) (by kernel_rfl) ?_
      refine D.skip 16 rfl rfl (by kernel_rfl) rfl ?_
      refine D.skip 17 rfl rfl (by kernel_rfl) rfl ?_
      refine D.skip 18 rfl rfl (by kernel_rfl) rfl ?_
      refine D.yp 19 rfl rfl (by decide) (Y.pkf rfl rfl) (by kernel_rfl) ?_
      refine D.yp 20 rfl rfl (by decide) (Y.as rfl) (by kernel_rfl) ?_
      exact D.done (by kernel_rfl) (E.thn (E.ret (F.r1 (Back.refl _ _) rfl rfl () trivial (congrArg Value.bool (by exact okFact_no2 (at0_get (i := f_Rel) (show f_Rel.toNat < s.length by omega)) q18)) (J := _) (.refl _) (.inl rfl))))
  · refine D.yp 4 rfl rfl (by decide) (Y.mv rfl) (by kernel_rfl) ?_
    refine D.skip 5 rfl rfl (by kernel_rfl) rfl ?_
    refine D.skip 6 rfl rfl (by kernel_rfl) rfl ?_
    refine D.skip 7 rfl rfl (by kernel_rfl) rfl ?_
    refine D.skip 8 rfl rfl (by kernel_rfl) rfl ?_
    refine D.skip 9 rfl rfl (by kernel_rfl) rfl ?_
    refine D.skip 10 rfl rfl (by kernel_rfl) rfl ?_
    refine D.skip 11 rfl rfl (by kernel_rfl) rfl ?_
    refine D.skip 12 rfl rfl (by kernel_rfl) rfl ?_
    refine D.skip 13 rfl rfl (by kernel_rfl) rfl ?_
    refine D.yp 14 rfl rfl (by decide) (Y.pkf rfl rfl) (by kernel_rfl) ?_
    refine D.yp 15 rfl rfl (by decide) (Y.mv rfl) (by kernel_rfl) ?_
    refine D.skip 16 rfl rfl (by kernel_rfl) rfl ?_
    refine D.skip 17 rfl rfl (by kernel_rfl) rfl ?_
    refine D.skip 18 rfl rfl (by kernel_rfl) rfl ?_
    refine D.yp 19 rfl rfl (by decide) (Y.pkf rfl rfl) (by kernel_rfl) ?_
    refine D.yp 20 rfl rfl (by decide) (Y.as rfl) (by kernel_rfl) ?_
    exact D.done (by kernel_rfl) (E.thn (E.ret (F.r1 (Back.refl _ _) rfl rfl () trivial (congrArg Value.bool (by exact okFact_no1 q8)) (J := _) (.refl _) (.inl rfl))))
theorem t_spec_IsFact {a_s : Option Addr} {m_s c_s : Nat} {s : List Int} {f_Rel : Int} {a_f_Values : Option Addr} {m_f_Values c_f_Values : Nat} {f_Values : List Int} : Tr Tryz.prog 73 [.slice a_s m_s c_s, .agg #[.int .i64 f_Rel, .slice a_f_Values m_f_Values c_f_Values]] (fun w L => Ro w L eIs [.slice a_s m_s c_s] s ∧ I64 f_Rel ∧ Ro w L eIs [.slice a_f_Values m_f_Values c_f_Values] f_Values) [] (κ := Unit) (fun k => True) (fun k => .bool (okFact s (f_Rel, f_Values))) (fun k => []) := by
  refine Tr.intro Tryz.func73 rfl (n := 43) rfl (by decide +kernel) (Nat.le_of_ble_eq_true rfl) (fr := [(0, .slice a_s m_s c_s), (1, .agg #[.int .i64 f_Rel, .slice a_f_Values m_f_Values c_f_Values])]) rfl fun w L hR => ?_
  obtain ⟨hs, i6f_Rel, hf_Values⟩ := hR
  obtain ⟨rfl, ls⟩ := hs.slen
  obtain ⟨rfl, lf_Values⟩ := hf_Values.slen
  refine E.seq (E.region (l := [0, 1]) rfl (E.st rfl rfl (N.box (cs := [_, _]) rfl (by decide) rfl) (fun b3 _ => ?_)))
  refine E.y rfl rfl (by decide) ((Y.as rfl).yd) ?_
  refine E.nil (E.thn (E.seq (E.seq (D.region (fun j => true) mixed (D.yp 0 rfl rfl (by decide) (Y.mv rfl) (by kernel_rfl) ?_)))))
  refine D.st 1 rfl rfl (by kernel_rfl) (fun _ => rfl) (N.call0 t_spec_IsSchema rfl rfl rfl (by decide) (fun w Lp hA => hA.ro hs)) (fun _ _ => (Ent.b (fun q7 => ?_) (fun q7 => ?_)))
  · refine D.yp 2 rfl rfl (by decide) (Y.not (b := true) rfl) (by kernel_rfl) ?_
    refine D.yp 3 rfl rfl (by decide) (Y.mv rfl) (by kernel_rfl) ?_
    refine D.yp 4 rfl rfl (by decide) (Y.fld fo_Fact_0 ty_I (by decide) rfl) (by kernel_rfl) ?_
    refine D.y 5 rfl rfl (by decide) (Y.ld1 ty_I rfl ((Has.pt m0).sub (cs' := [_]) 0 rfl) rfl) (by kernel_rfl) ?_
    refine D.yp 6 rfl rfl (by decide) (Y.mv rfl) (by kernel_rfl) ?_
    refine D.yp 7 rfl rfl (by decide) (Y.len us_Is rfl) (by kernel_rfl) ?_
    refine D.yp 8 rfl rfl (by decide) (Y.sub rfl rfl (by omega) (by omega)) (by kernel_rfl) ?_
    refine D.st 9 rfl rfl (by kernel_rfl) (fun _ => rfl) (N.call0 t_spec_l1In rfl rfl rfl (by decide) (fun w Lp hA => trivial)) (fun _ _ => (Ent.b (fun q15 => ?_) (fun q15 => ?_)))
    · have y1 : okRel s f_Rel = true := by rw [okRel, q7, q15]; rfl
      obtain ⟨z1, z2, _, _⟩ := okRel_lt y1
      refine D.yp 10 rfl rfl (by decide) (Y.not (b := true) rfl) (by kernel_rfl) ?_
      refine D.yp 11 rfl rfl (by decide) (Y.pkf rfl rfl) (by kernel_rfl) ?_
      refine D.yp 12 rfl rfl (by decide) (Y.mv rfl) (by kernel_rfl) ?_
      refine D.yp 13 rfl rfl (by decide) (Y.fld fo_Fact_1 ty_Is (by decide) rfl) (by kernel_rfl) ?_
      refine D.y 14 rfl rfl (by decide) (Y.ld1 ty_Is rfl ((Has.pt m0).sub (cs' := [_]) 1 rfl) rfl) (by kernel_rfl) ?_
      refine D.yp 15 rfl rfl (by decide) (Y.len us_Is rfl) (by kernel_rfl) ?_
      refine D.yp 16 rfl rfl (by decide) (Y.mv rfl) (by kernel_rfl) ?_
      refine D.yp 17 rfl rfl (by decide) (Y.fld fo_Fact_0 ty_I (by decide) rfl) (by kernel_rfl) ?_
      refine D.y 18 rfl rfl (by decide) (Y.ld1 ty_I rfl ((Has.pt m0).sub (cs' := [_]) 0 rfl) rfl) (by kernel_rfl) ?_
      obtain ⟨eb25, eo25, ea25, ei25, eh25⟩ := hs.elemI f_Rel.toNat (by omega)
      refine D.yp 19 rfl rfl (by decide) (Y.ix us_Is ty_I rfl ea25 rfl f_Rel.toNat (by omega) (by omega)) (by kernel_rfl) ?_
      refine D.y 20 rfl rfl (by decide) (Y.ld1 ty_I rfl (eh25 _) rfl) (by kernel_rfl) ?_
      refine D.yp 21 rfl rfl (by decide) (Y.neq rfl rfl) (by kernel_rfl) (Ent.d (fun q27 => ?_) (fun q27 => ?_))
      · refine D.yp 22 rfl rfl (by decide) (Y.pkf rfl rfl) (by kernel_rfl) ?_
        refine D.done (by kernel_rfl) (E.thn (E.ct rfl (E.seq (E.region (l := [0]) rfl (E.y rfl rfl (by decide) ((Y.as rfl).yd) ?_)))))
        exact E.nil (E.thn (E.ret (E.thr (F.r1 (Back.refl _ _) rfl rfl () trivial (congrArg Value.bool (by exact okFact_no2 (at0_get (i := f_Rel) (show f_Rel.toNat < s.length by omega)) q27)) (J := _) (.refl _) (.inl rfl)))))
      · refine D.yp 22 rfl rfl (by decide) (Y.pkf rfl rfl) (by kernel_rfl) ?_
        refine D.done (by kernel_rfl) (E.thn (E.cf rfl (E.skipc (E.thn (E.seq (E.seq (E.region (l := [0]) rfl (E.y rfl rfl (by decide) ((Y.as rfl).yd) ?_))))))))
        refine E.nil (E.thn (E.block (E.loop (κ := Nat) (fun g => g ≤ f_Values.length ∧ ∀ x ∈ f_Values.take g, (!inR x 0 9) = false) (fun g => [(3, .pointer (some ⟨b3, 0, none⟩)), (5, .int .i64 (↑g : Int))]) (fun g => [pt b3 44 [.int .i64 f_Rel, .slice a_f_Values f_Values.length c_f_Values]]) (fun g => f_Values.length - g) 0 ⟨by omega, by simp⟩ ⟨rfl, rfl, trivial⟩ (.refl _) (fun g pg => ?_))))
        obtain ⟨pk, pa⟩ := pg
        refine E.seq (E.seq (E.region (l := [0, 1, 2, 3, 4]) rfl (E.y rfl rfl (by decide) ((Y.mv rfl).yd) ?_)))
        refine E.y rfl rfl (by decide) ((Y.fld fo_Fact_1 ty_Is (by decide) rfl).yd) ?_
        refine E.y rfl rfl (by decide) (Y.ld1 ty_Is rfl ((Has.pt m0).sub (cs' := [_]) 1 rfl) rfl) ?_
        refine E.y rfl rfl (by decide) ((Y.len us_Is rfl).yd) ?_
        refine E.y rfl rfl (by decide) ((Y.lss rfl rfl).yd) (Ent.d (fun q33 => ?_) (fun q33 => ?_))
        · refine E.nil (E.thn (E.ct rfl (E.skipc (E.thn (E.seq (E.block (E.seq (E.region (l := [0, 1, 2, 3, 4, 5, 6]) rfl (E.y rfl rfl (by decide) ((Y.fld fo_Fact_1 ty_Is (by decide) rfl).yd) ?_)))))))))
          refine E.y rfl rfl (by decide) (Y.ld1 ty_Is rfl ((Has.pt m0).sub (cs' := [_]) 1 rfl) rfl) ?_
          refine E.y rfl rfl (by decide) ((Y.mv rfl).yd) ?_
          obtain ⟨eb39, eo39, ea39, ei39, eh39⟩ := hf_Values.elemI g (by omega)
          refine E.y rfl rfl (by decide) ((Y.ix us_Is ty_I rfl ea39 rfl g rfl (by omega)).yd) ?_
          refine E.y rfl rfl (by decide) (Y.ld1 ty_I rfl (eh39 _) rfl) ?_
          refine E.st rfl rfl (N.call0 t_spec_l1In rfl rfl rfl (by decide) (fun w Lp hA => trivial)) (fun _ _ => (Ent.b (fun q41 => ?_) (fun q41 => ?_)))
          · refine E.y rfl rfl (by decide) ((Y.not (b := true) rfl).yd) ?_
            refine E.nil (E.thn (E.cf rfl (E.skipc (E.bln (E.thn (E.region (l := [0, 1, 2]) rfl (E.y rfl rfl (by decide) ((Y.mv rfl).yd) ?_)))))))
            refine E.y rfl rfl (by decide) ((Y.add rfl rfl (by omega) (by omega)).yd) ?_
            refine E.y rfl rfl (by decide) ((Y.as rfl).yd) ?_
            exact E.nil (E.thn (E.again (Back.refl _ _) (g + 1) ⟨rfl, rfl, trivial⟩ (.refl _) ⟨by omega, take_step (by omega) pa (by rw [q41]; rfl)⟩ (by omega)))
          · refine E.y rfl rfl (by decide) ((Y.not (b := false) rfl).yd) ?_
            refine E.nil (E.thn (E.ct rfl (E.seq (E.region (l := [0]) rfl (E.y rfl rfl (by decide) ((Y.as rfl).yd) ?_)))))
            exact E.nil (E.thn (E.ret (E.blr (E.thr (E.thr (E.blr (E.thr (F.r1 (Back.refl _ _) rfl rfl () trivial (congrArg Value.bool (by exact okFact_no3 (by rw [okVals, any_hit (k := g) (show g < f_Values.length by omega) (by rw [q41]; rfl)]; rfl))) (J := _) (.refl _) (.inl rfl)))))))))
        · refine E.nil (E.thn (E.cf rfl (E.exit (E.the (E.the (E.blh (E.thn (E.seq (E.region (l := [0]) rfl (E.y rfl rfl (by decide) ((Y.as rfl).yd) ?_))))))))))
          exact E.nil (E.thn (E.ret (F.r1 (Back.refl _ _) rfl rfl () trivial (congrArg Value.bool (by rw [← okFact_is (f := (f_Rel, f_Values)) y1 (at0_get (i := f_Rel) (show f_Rel.toNat < s.length by omega)) (show (f_Values.length : Int) = s[f_Rel.toNat] by omega), okVals, any_miss (show ¬ g < f_Values.length by omega) pa]; rfl)) (J := _) (.refl _) (.inl rfl))))
    · refine D.yp 10 rfl rfl (by decide) (Y.not (b := false) rfl) (by kernel_rfl) ?_
      refine D.yp 11 rfl rfl (by decide) (Y.pkf rfl rfl) (by kernel_rfl) ?_
      refine D.yp 12 rfl rfl (by decide) (Y.mv rfl) (by kernel_rfl) ?_
      refine D.skip 13 rfl rfl (by kernel_rfl) rfl ?_
      refine D.skip 14 rfl rfl (by kernel_rfl) rfl ?_
      refine D.skip 15 rfl rfl (by kernel_rfl) rfl ?_
      refine D.skip 16 rfl rfl (by kernel_rfl) rfl ?_
      refine D.skip 17 rfl rfl (by kernel_rfl) rfl ?_
      refine D.skip 18 rfl rfl (by kernel_rfl) rfl ?_
      refine D.skip 19 rfl rfl (by kernel_rfl) rfl ?_
      refine D.skip 20 rfl rfl (by kernel_rfl) rfl ?_
      refine D.skip 21 rfl rfl (by kernel_rfl) rfl ?_
      refine D.yp 22 rfl rfl (by decide) (Y.pkt rfl rfl) (by kernel_rfl) ?_
      refine D.done (by kernel_rfl) (E.thn (E.ct rfl (E.seq (E.region (l := [0]) rfl (E.y rfl rfl (by decide) ((Y.as rfl).yd) ?_)))))
      exact E.nil (E.thn (E.ret (E.thr (F.r1 (Back.refl _ _) rfl rfl () trivial (congrArg Value.bool (by exact okFact_no1 (okRel_no q15))) (J := _) (.refl _) (.inl rfl)))))
  · refine D.yp 2 rfl rfl (by decide) (Y.not (b := false) rfl) (by kernel_rfl) ?_
    refine D.yp 3 rfl rfl (by decide) (Y.mv rfl) (by kernel_rfl) ?_
    refine D.skip 4 rfl rfl (by kernel_rfl) rfl ?_
    refine D.skip 5 rfl rfl (by kernel_rfl) rfl ?_
    refine D.skip 6 rfl rfl (by kernel_rfl) rfl ?_
    refine D.skip 7 rfl rfl (by kernel_rfl) rfl ?_
    refine D.skip 8 rfl rfl (by kernel_rfl) rfl ?_
    refine D.skip 9 rfl rfl (by kernel_rfl) rfl ?_
    refine D.skip 10 rfl rfl (by kernel_rfl) rfl ?_
    refine D.yp 11 rfl rfl (by decide) (Y.pkt rfl rfl) (by kernel_rfl) ?_
    refine D.yp 12 rfl rfl (by decide) (Y.mv rfl) (by kernel_rfl) ?_
    refine D.skip 13 rfl rfl (by kernel_rfl) rfl ?_
    refine D.skip 14 rfl rfl (by kernel_rfl) rfl ?_
    refine D.skip 15 rfl rfl (by kernel_rfl) rfl ?_
    refine D.skip 16 rfl rfl (by kernel_rfl) rfl ?_
    refine D.skip 17 rfl rfl (by kernel_rfl) rfl ?_
    refine D.skip 18 rfl rfl (by kernel_rfl) rfl ?_
    refine D.skip 19 rfl rfl (by kernel_rfl) rfl ?_
    refine D.skip 20 rfl rfl (by kernel_rfl) rfl ?_
    refine D.skip 21 rfl rfl (by kernel_rfl) rfl ?_
    refine D.yp 22 rfl rfl (by decide) (Y.pkt rfl rfl) (by kernel_rfl) ?_
    refine D.done (by kernel_rfl) (E.thn (E.ct rfl (E.seq (E.region (l := [0]) rfl (E.y rfl rfl (by decide) ((Y.as rfl).yd) ?_)))))
    exact E.nil (E.thn (E.ret (E.thr (F.r1 (Back.refl _ _) rfl rfl () trivial (congrArg Value.bool (by exact okFact_no1 (okRel_no0 q7))) (J := _) (.refl _) (.inl rfl)))))
theorem t_spec_l13Apply {r_From : Int} {r_To : Int} {a_r_Map : Option Addr} {m_r_Map c_r_Map : Nat} {r_Map : List Int} {f_Rel : Int} {a_f_Values : Option Addr} {m_f_Values c_f_Values : Nat} {f_Values : List Int} (hm : ∀ x ∈ r_Map, 0 ≤ x ∧ x < f_Values.length) (hz : r_Map.length ≤ 1048576) : Tr Tryz.prog 139 [.agg #[.int .i64 r_From, .int .i64 r_To, .slice a_r_Map m_r_Map c_r_Map], .agg #[.int .i64 f_Rel, .slice a_f_Values m_f_Values c_f_Values]] (fun w L => I64 r_From ∧ I64 r_To ∧ Ro w L eIs [.slice a_r_Map m_r_Map c_r_Map] r_Map ∧ I64 f_Rel ∧ Ro w L eIs [.slice a_f_Values m_f_Values c_f_Values] f_Values) [] (κ := Option Addr × Nat × Nat) (fun k => True) (fun k => .agg #[.int .i64 r_To, .slice k.1 k.2.1 k.2.2]) (fun k => [ow eIs [.slice k.1 k.2.1 k.2.2] (vals r_Map f_Values)]) := by
  refine Tr.intro Tryz.func139 rfl (n := 32) rfl (by decide +kernel) (Nat.le_of_ble_eq_true rfl) (fr := [(0, .agg #[.int .i64 r_From, .int .i64 r_To, .slice a_r_Map m_r_Map c_r_Map]), (1, .agg #[.int .i64 f_Rel, .slice a_f_Values m_f_Values c_f_Values])]) rfl fun w L hR => ?_
  obtain ⟨i6r_From, i6r_To, hr_Map, i6f_Rel, hf_Values⟩ := hR
  obtain ⟨rfl, lr_Map⟩ := hr_Map.slen
  obtain ⟨rfl, lf_Values⟩ := hf_Values.slen
  refine E.seq (E.region (l := [0, 1, 2]) rfl (E.st rfl rfl (N.box (cs := [_, _, _]) rfl (by decide) rfl) (fun b2 _ => ?_)))
  refine E.st rfl rfl (N.box (cs := [_, _]) rfl (by decide) rfl) (fun b3 _ => ?_)
  refine E.st rfl rfl (N.alloc ty_Fact (by decide)) (fun b4 _ => ?_)
  refine E.nil (E.thn (E.seq (E.region (l := [0, 1, 2, 3, 4]) rfl (E.y rfl rfl (by decide) ((Y.fld fo_Rule_1 ty_I (by decide) rfl).yd) ?_))))
  refine E.y rfl rfl (by decide) (Y.ld1 ty_I rfl ((Has.pt (mS (mS m0))).sub (cs' := [_]) 1 rfl) rfl) ?_
  refine E.y rfl rfl (by decide) ((Y.bld (pvs := [_]) (cs := [_, _]) ty_Fact pl_Fact rfl rfl).yd) ?_
  refine E.st rfl rfl (N.alloc ty_Fact (by decide)) (fun b5 _ => ?_)
  refine E.st rfl rfl (N.sto (vs := [_, _]) (cs' := [_, _]) ty_Fact rfl rfl rfl rfl rfl (Nat.le_of_ble_eq_true rfl) rfl) (fun _ _ => ?_)
  refine E.nil (E.thn (E.seq (E.seq (E.region (l := [0]) rfl (E.y rfl rfl (by decide) ((Y.as rfl).yd) ?_)))))
  refine E.nil (E.thn (E.block (Ent.mkow (A := []) (Own.nil (E := Enc.int) (e := tI) (a := none)) rfl ?_)))
  refine E.loop (κ := Nat × Option Addr × Nat) (fun g => g.1 ≤ r_Map.length) (fun g => [(2, .pointer (some ⟨b2, 0, none⟩)), (3, .pointer (some ⟨b3, 0, none⟩)), (4, .pointer (some ⟨b4, 0, none⟩)), (5, .pointer (some ⟨b5, 0, none⟩)), (6, .int .i64 (↑g.1 : Int))]) (fun g => [ow eIs [.slice g.2.1 g.1 g.2.2] (vals (r_Map.take g.1) f_Values), pt b5 44 [.int .i64 r_To, .slice g.2.1 g.1 g.2.2], pt b4 44 [.int .i64 0, .slice none 0 0], pt b3 44 [.int .i64 f_Rel, .slice a_f_Values f_Values.length c_f_Values], pt b2 126 [.int .i64 r_From, .int .i64 r_To, .slice a_r_Map r_Map.length c_r_Map]]) (fun g => r_Map.length - g.1) (0, none, 0) (Nat.zero_le _) ⟨rfl, rfl, rfl, rfl, rfl, trivial⟩ (.refl _) (fun g pg => ?_)
  refine E.seq (E.seq (E.region (l := [0, 1, 2, 3, 4]) rfl (E.y rfl rfl (by decide) ((Y.mv rfl).yd) ?_)))
  refine E.y rfl rfl (by decide) ((Y.fld fo_Rule_2 ty_Is (by decide) rfl).yd) ?_
  refine E.y rfl rfl (by decide) (Y.ld1 ty_Is rfl ((Has.pt (mS (mS (mS (mS m0))))).sub (cs' := [_]) 2 rfl) rfl) ?_
  refine E.y rfl rfl (by decide) ((Y.len us_Is rfl).yd) ?_
  refine E.y rfl rfl (by decide) ((Y.lss rfl rfl).yd) (Ent.d (fun q14 => ?_) (fun q14 => ?_))
  · have hm1 := hm r_Map[g.1] (List.getElem_mem (by omega))
    refine E.nil (E.thn (E.ct rfl (E.skipc (E.thn (E.seq (E.block (D.region (fun j => !(Nat.beq j 12) && !(Nat.beq j 14)) mixed (D.yp 0 rfl rfl (by decide) (Y.fld fo_Fact_1 ty_Is (by decide) rfl) (by kernel_rfl) ?_))))))))
    refine D.y 1 rfl rfl (by decide) (Y.ld1 ty_Is rfl ((Has.pt (mS m0)).sub (cs' := [_]) 1 rfl) rfl) (by kernel_rfl) ?_
    refine D.yp 2 rfl rfl (by decide) (Y.fld fo_Fact_1 ty_Is (by decide) rfl) (by kernel_rfl) ?_
    refine D.y 3 rfl rfl (by decide) (Y.ld1 ty_Is rfl ((Has.pt (mS (mS (mS m0)))).sub (cs' := [_]) 1 rfl) rfl) (by kernel_rfl) ?_
    refine D.yp 4 rfl rfl (by decide) (Y.fld fo_Rule_2 ty_Is (by decide) rfl) (by kernel_rfl) ?_
    refine D.y 5 rfl rfl (by decide) (Y.ld1 ty_Is rfl ((Has.pt (mS (mS (mS (mS m0))))).sub (cs' := [_]) 2 rfl) rfl) (by kernel_rfl) ?_
    refine D.yp 6 rfl rfl (by decide) (Y.mv rfl) (by kernel_rfl) ?_
    obtain ⟨eb24, eo24, ea24, ei24, eh24⟩ := hr_Map.elemI g.1 (by omega)
    refine D.yp 7 rfl rfl (by decide) (Y.ix us_Is ty_I rfl ea24 rfl g.1 rfl (by omega)) (by kernel_rfl) ?_
    refine D.y 8 rfl rfl (by decide) (Y.ld1 ty_I rfl (eh24 _) rfl) (by kernel_rfl) ?_
    obtain ⟨eb26, eo26, ea26, ei26, eh26⟩ := hf_Values.elemI r_Map[g.1].toNat (by omega)
    refine D.yp 9 rfl rfl (by decide) (Y.ix us_Is ty_I rfl ea26 rfl r_Map[g.1].toNat (by omega) (by omega)) (by kernel_rfl) ?_
    refine D.y 10 rfl rfl (by decide) (Y.ld1 ty_I rfl (eh26 _) rfl) (by kernel_rfl) ?_
    refine D.st 11 rfl rfl (by kernel_rfl) (fun _ => rfl) (N.bsl (pvs := [_]) (cs := [_]) us_Is ty_I rfl (by decide) (by decide) (fillZ rfl rfl) rfl (by decide)) (fun b28 _ => ?_)
    refine Ent.p1 ?_
    refine D.st 12 rfl rfl (by kernel_rfl) (fun h => by cases h) (N.push (E := Enc.int) (ex := f_Values[r_Map[g.1].toNat]) us_Is ty_I rfl rfl rfl (Own.int ei26) rfl (by first | omega | (simp only [List.length_map, List.length_take, List.length_append, List.length_drop, List.length_cons, List.length_nil]; omega)) (by first | omega | (simp only [List.length_map, List.length_take, List.length_append, List.length_drop, List.length_cons, List.length_nil]; omega)) (by decide)) (fun p29 _ => ?_)
    refine D.yp 13 rfl rfl (by decide) (Y.fld fo_Fact_1 ty_Is (by decide) rfl) (by kernel_rfl) ?_
    refine Ent.p1 ?_
    refine D.st 14 rfl rfl (by kernel_rfl) (fun h => by cases h) (N.sto (vs := [_]) (cs' := [_, _]) ty_Is rfl rfl rfl rfl rfl (Nat.le_of_ble_eq_true rfl) rfl) (fun _ _ => ?_)
    refine D.done (by kernel_rfl) (E.bln (E.thn (E.region (l := [0, 1, 2]) rfl (E.y rfl rfl (by decide) ((Y.mv rfl).yd) ?_))))
    refine E.y rfl rfl (by decide) ((Y.add rfl rfl (by omega) (by omega)).yd) ?_
    refine E.y rfl rfl (by decide) ((Y.as rfl).yd) ?_
    refine E.nil (E.thn (Ent.p1 ?_))
    refine Ent.cv (congrArg (ow eIs [_]) (show (vals (r_Map.take g.1) f_Values) ++ [f_Values[r_Map[g.1].toNat]] = vals (r_Map.take (g.1 + 1)) f_Values from vals_step (by omega) (by omega))) ?_
    refine Ent.p4 ?_
    refine Ent.p4 ?_
    refine Ent.p4 ?_
    refine Ent.p4 ?_
    refine Ent.p4 ?_
    exact E.again (Back.refl _ _) (g.1 + 1, p29.1, p29.2) ⟨rfl, rfl, rfl, rfl, rfl, trivial⟩ (.refl _) (show g.1 + 1 ≤ _ by omega) (show _ - (g.1 + 1) < _ by omega)
  · refine E.nil (E.thn (E.cf rfl (E.exit (E.the (E.the (E.blh (E.thn (E.seq (E.region (l := [0, 1]) rfl (E.y rfl rfl (by decide) (Y.ldS (cs := [_, _]) ty_Fact rfl (Has.pt (mS m0)) rfl) ?_))))))))))
    refine Ent.p2 ?_
    refine E.st rfl rfl (N.sto (vs := [_, _]) (cs' := [_, _]) ty_Fact rfl rfl rfl rfl rfl (Nat.le_of_ble_eq_true rfl) rfl) (fun _ _ => ?_)
    refine E.nil (E.thn (E.ret (Ent.p1 ?_)))
    refine Ent.cv (congrArg (ow eIs [_]) (show _ = vals r_Map f_Values by exact vals_all (by omega))) ?_
    exact F.c1 (Back.refl _ _) rfl rfl (mS m0) ty_Fact rfl (_, _, _) trivial rfl (J := _) (.refl _) (.inl rfl)
theorem t_impl_Rule_implied {r_From : Int} {r_To : Int} {a_r_Map : Option Addr} {m_r_Map c_r_Map : Nat} {r_Map : List Int} {f_Rel : Int} {a_f_Values : Option Addr} {m_f_Values c_f_Values : Nat} {f_Values : List Int} (hm : f_Rel = r_From → ∀ x ∈ r_Map, 0 ≤ x ∧ x < f_Values.length) (hz : r_Map.length ≤ 1048576) : Tr Tryz.prog 220 [.agg #[.int .i64 r_From, .int .i64 r_To, .slice a_r_Map m_r_Map c_r_Map], .agg #[.int .i64 f_Rel, .slice a_f_Values m_f_Values c_f_Values]] (fun w L => I64 r_From ∧ I64 r_To ∧ Ro w L eIs [.slice a_r_Map m_r_Map c_r_Map] r_Map ∧ I64 f_Rel ∧ Ro w L eIs [.slice a_f_Values m_f_Values c_f_Values] f_Values) [] (κ := Option Addr × Nat × Nat) (fun k => True) (fun k => .tuple #[.agg #[.int .i64 (cond (decide (f_Rel = r_From)) r_To 0), .slice k.1 k.2.1 k.2.2], .bool (decide (f_Rel = r_From))]) (fun k => [ow eIs [.slice k.1 k.2.1 k.2.2] (cond (decide (f_Rel = r_From)) (vals r_Map f_Values) [])]) := by
  refine Tr.intro Tryz.func220 rfl (n := 37) rfl (by decide +kernel) (Nat.le_of_ble_eq_true rfl) (fr := [(0, .agg #[.int .i64 r_From, .int .i64 r_To, .slice a_r_Map m_r_Map c_r_Map]), (1, .agg #[.int .i64 f_Rel, .slice a_f_Values m_f_Values c_f_Values])]) rfl fun w L hR => ?_
  obtain ⟨i6r_From, i6r_To, hr_Map, i6f_Rel, hf_Values⟩ := hR
  obtain ⟨rfl, lr_Map⟩ := hr_Map.slen
  obtain ⟨rfl, lf_Values⟩ := hf_Values.slen
  refine E.seq (E.region (l := [0, 1, 2, 3]) rfl (E.st rfl rfl (N.box (cs := [_, _, _]) rfl (by decide) rfl) (fun b2 _ => ?_)))
  refine E.st rfl rfl (N.box (cs := [_, _]) rfl (by decide) rfl) (fun b3 _ => ?_)
  refine E.st rfl rfl (N.alloc ty_Fact (by decide)) (fun b4 _ => ?_)
  refine E.y rfl rfl (by decide) ((Y.as rfl).yd) ?_
  refine E.nil (E.thn (E.seq (E.seq (E.region (l := [0, 1, 2, 3, 4]) rfl (E.y rfl rfl (by decide) ((Y.fld fo_Fact_0 ty_I (by decide) rfl).yd) ?_)))))
  refine E.y rfl rfl (by decide) (Y.ld1 ty_I rfl ((Has.pt (mS m0)).sub (cs' := [_]) 0 rfl) rfl) ?_
  refine E.y rfl rfl (by decide) ((Y.fld fo_Rule_0 ty_I (by decide) rfl).yd) ?_
  refine E.y rfl rfl (by decide) (Y.ld1 ty_I rfl ((Has.pt (mS (mS m0))).sub (cs' := [_]) 0 rfl) rfl) ?_
  refine E.y rfl rfl (by decide) ((Y.neq rfl rfl).yd) (Ent.d (fun q13 => ?_) (fun q13 => ?_))
  · refine E.nil (E.thn (E.ct rfl (E.seq (E.region (l := [0, 1, 2]) rfl (E.y rfl rfl (by decide) ((Y.bld (pvs := []) (cs := [_, _]) ty_Fact pl_Fact rfl rfl).yd) ?_)))))
    refine E.st rfl rfl (N.sto (vs := [_, _]) (cs' := [_, _]) ty_Fact rfl rfl rfl rfl rfl (Nat.le_of_ble_eq_true rfl) rfl) (fun _ _ => ?_)
    refine E.y rfl rfl (by decide) ((Y.as rfl).yd) ?_
    refine E.nil (E.thn (E.ret (E.thr (Ent.mkow (A := []) (Own.nil (E := Enc.int) (e := tI) (a := none)) rfl ?_))))
    refine Ent.cv (congrArg (ow eIs [_]) (show _ = cond (decide (f_Rel = r_From)) (vals r_Map f_Values) [] by simp only [decide_eq_false (show ¬ f_Rel = r_From from q13), cond_false])) ?_
    exact F.c2 (Back.refl _ _) rfl rfl rfl (mS m0) ty_Fact rfl (none, 0, 0) trivial (by rw [show (cond (decide (f_Rel = r_From)) r_To 0) = (0) from (by simp only [decide_eq_false (show ¬ f_Rel = r_From from q13), cond_false])]; rw [show (decide (f_Rel = r_From)) = (false) from (by simp only [decide_eq_false (show ¬ f_Rel = r_From from q13), cond_false])]; try rfl) (J := _) (.refl _) (.inl rfl)
  · refine E.nil (E.thn (E.cf rfl (E.skipc (E.thn (E.seq (E.region (l := [0, 1, 2, 3, 4]) rfl (E.y rfl rfl (by decide) ((Y.fld fo_Rule_1 ty_I (by decide) rfl).yd) ?_)))))))
    refine E.y rfl rfl (by decide) (Y.ld1 ty_I rfl ((Has.pt (mS (mS m0))).sub (cs' := [_]) 1 rfl) rfl) ?_
    refine E.y rfl rfl (by decide) ((Y.bld (pvs := [_]) (cs := [_, _]) ty_Fact pl_Fact rfl rfl).yd) ?_
    refine E.st rfl rfl (N.alloc ty_Fact (by decide)) (fun b6 _ => ?_)
    refine E.st rfl rfl (N.sto (vs := [_, _]) (cs' := [_, _]) ty_Fact rfl rfl rfl rfl rfl (Nat.le_of_ble_eq_true rfl) rfl) (fun _ _ => ?_)
    refine E.nil (E.thn (E.seq (E.seq (E.region (l := [0, 1, 2, 3]) rfl (E.y rfl rfl (by decide) ((Y.fld fo_Rule_2 ty_Is (by decide) rfl).yd) ?_)))))
    refine E.y rfl rfl (by decide) (Y.ld1 ty_Is rfl ((Has.pt (mS (mS (mS m0)))).sub (cs' := [_]) 2 rfl) rfl) ?_
    refine E.y rfl rfl (by decide) ((Y.len us_Is rfl).yd) ?_
    refine E.y rfl rfl (by decide) ((Y.mv rfl).yd) ?_
    refine E.nil (E.thn (E.block (Ent.mkow (A := []) (Own.nil (E := Enc.int) (e := tI) (a := none)) rfl ?_)))
    refine E.loop (κ := Nat × Option Addr × Nat) (fun g => g.1 ≤ r_Map.length) (fun g => [(3, .pointer (some ⟨b3, 0, none⟩)), (4, .pointer (some ⟨b4, 0, none⟩)), (6, .pointer (some ⟨b6, 0, none⟩)), (19, .slice a_r_Map r_Map.length c_r_Map), (20, .int .i64 (↑r_Map.length : Int)), (21, .int .i64 (↑g.1 : Int))]) (fun g => [ow eIs [.slice g.2.1 g.1 g.2.2] (vals (r_Map.take g.1) f_Values), pt b6 44 [.int .i64 r_To, .slice g.2.1 g.1 g.2.2], pt b4 44 [.int .i64 0, .slice none 0 0], pt b3 44 [.int .i64 f_Rel, .slice a_f_Values f_Values.length c_f_Values], pt b2 126 [.int .i64 r_From, .int .i64 r_To, .slice a_r_Map r_Map.length c_r_Map]]) (fun g => r_Map.length - g.1) (0, none, 0) (Nat.zero_le _) ⟨rfl, rfl, rfl, rfl, rfl, rfl, trivial⟩ (.refl _) (fun g pg => ?_)
    refine E.seq (E.region (l := [0]) rfl (E.y rfl rfl (by decide) ((Y.lss rfl rfl).yd) (Ent.d (fun q22 => ?_) (fun q22 => ?_))))
    · have hm1 := hm (by omega) r_Map[g.1] (List.getElem_mem (by omega))
      obtain ⟨eb23, eo23, ea23, ei23, eh23⟩ := hr_Map.elemI g.1 (by omega)
      refine E.nil (E.thn (E.seq (E.ct rfl (E.skipc (E.thn (E.seq (E.block (E.seq (E.region (l := [0, 1, 2]) rfl (E.y rfl rfl (by decide) ((Y.ix us_Is ty_I rfl ea23 rfl g.1 rfl (by omega)).yd) ?_))))))))))
      refine E.y rfl rfl (by decide) (Y.ld1 ty_I rfl (eh23 _) rfl) ?_
      refine E.y rfl rfl (by decide) ((Y.as rfl).yd) ?_
      refine E.nil (E.thn (D.region (fun j => !(Nat.beq j 8) && !(Nat.beq j 10)) mixed (D.yp 0 rfl rfl (by decide) (Y.fld fo_Fact_1 ty_Is (by decide) rfl) (by kernel_rfl) ?_)))
      refine D.y 1 rfl rfl (by decide) (Y.ld1 ty_Is rfl ((Has.pt (mS m0)).sub (cs' := [_]) 1 rfl) rfl) (by kernel_rfl) ?_
      refine D.yp 2 rfl rfl (by decide) (Y.fld fo_Fact_1 ty_Is (by decide) rfl) (by kernel_rfl) ?_
      refine D.y 3 rfl rfl (by decide) (Y.ld1 ty_Is rfl ((Has.pt (mS (mS (mS m0)))).sub (cs' := [_]) 1 rfl) rfl) (by kernel_rfl) ?_
      refine D.yp 4 rfl rfl (by decide) (Y.mv rfl) (by kernel_rfl) ?_
      obtain ⟨eb30, eo30, ea30, ei30, eh30⟩ := hf_Values.elemI r_Map[g.1].toNat (by omega)
      refine D.yp 5 rfl rfl (by decide) (Y.ix us_Is ty_I rfl ea30 rfl r_Map[g.1].toNat (by omega) (by omega)) (by kernel_rfl) ?_
      refine D.y 6 rfl rfl (by decide) (Y.ld1 ty_I rfl (eh30 _) rfl) (by kernel_rfl) ?_
      refine D.st 7 rfl rfl (by kernel_rfl) (fun _ => rfl) (N.bsl (pvs := [_]) (cs := [_]) us_Is ty_I rfl (by decide) (by decide) (fillZ rfl rfl) rfl (by decide)) (fun b32 _ => ?_)
      refine Ent.p1 ?_
      refine D.st 8 rfl rfl (by kernel_rfl) (fun h => by cases h) (N.push (E := Enc.int) (ex := f_Values[r_Map[g.1].toNat]) us_Is ty_I rfl rfl rfl (Own.int ei30) rfl (by first | omega | (simp only [List.length_map, List.length_take, List.length_append, List.length_drop, List.length_cons, List.length_nil]; omega)) (by first | omega | (simp only [List.length_map, List.length_take, List.length_append, List.length_drop, List.length_cons, List.length_nil]; omega)) (by decide)) (fun p33 _ => ?_)
      refine D.yp 9 rfl rfl (by decide) (Y.fld fo_Fact_1 ty_Is (by decide) rfl) (by kernel_rfl) ?_
      refine Ent.p1 ?_
      refine D.st 10 rfl rfl (by kernel_rfl) (fun h => by cases h) (N.sto (vs := [_]) (cs' := [_, _]) ty_Is rfl rfl rfl rfl rfl (Nat.le_of_ble_eq_true rfl) rfl) (fun _ _ => ?_)
      refine D.done (by kernel_rfl) (E.bln (E.thn (E.region (l := [0, 1]) rfl (E.y rfl rfl (by decide) ((Y.add rfl rfl (by omega) (by omega)).yd) ?_))))
      refine E.y rfl rfl (by decide) ((Y.mv rfl).yd) ?_
      refine E.nil (E.thn (Ent.p1 ?_))
      refine Ent.cv (congrArg (ow eIs [_]) (show (vals (r_Map.take g.1) f_Values) ++ [f_Values[r_Map[g.1].toNat]] = vals (r_Map.take (g.1 + 1)) f_Values from vals_step (by omega) (by omega))) ?_
      refine Ent.p4 ?_
      refine Ent.p4 ?_
      refine Ent.p4 ?_
      refine Ent.p4 ?_
      refine Ent.p4 ?_
      exact E.again (Back.refl _ _) (g.1 + 1, p33.1, p33.2) ⟨rfl, rfl, rfl, rfl, rfl, rfl, trivial⟩ (.refl _) (show g.1 + 1 ≤ _ by omega) (show _ - (g.1 + 1) < _ by omega)
    · refine E.nil (E.thn (E.seq (E.cf rfl (E.exit (E.the (E.the (E.blh (E.thn (E.seq (E.region (l := [0, 1, 2]) rfl (E.y rfl rfl (by decide) (Y.ldS (cs := [_, _]) ty_Fact rfl (Has.pt (mS m0)) rfl) ?_)))))))))))
      refine Ent.p2 ?_
      refine E.st rfl rfl (N.sto (vs := [_, _]) (cs' := [_, _]) ty_Fact rfl rfl rfl rfl rfl (Nat.le_of_ble_eq_true rfl) rfl) (fun _ _ => ?_)
      refine E.y rfl rfl (by decide) ((Y.as rfl).yd) ?_
      refine E.nil (E.thn (E.ret (Ent.p1 ?_)))
      refine Ent.cv (congrArg (ow eIs [_]) (show _ = cond (decide (f_Rel = r_From)) (vals r_Map f_Values) [] by simp only [decide_eq_true (show f_Rel = r_From by omega), cond_true, vals_all (show r_Map.length ≤ g.1 by omega)])) ?_
      exact F.c2 (Back.refl _ _) rfl rfl rfl (mS m0) ty_Fact rfl (_, _, _) trivial (by rw [show (cond (decide (f_Rel = r_From)) r_To 0) = (r_To) from (by simp only [decide_eq_true (show f_Rel = r_From by omega), cond_true, vals_all (show r_Map.length ≤ g.1 by omega)])]; rw [show (decide (f_Rel = r_From)) = (true) from (by simp only [decide_eq_true (show f_Rel = r_From by omega), cond_true, vals_all (show r_Map.length ≤ g.1 by omega)])]; try rfl) (J := _) (.refl _) (.inl rfl)
theorem t_impl_ImpliedBy {a_s : Option Addr} {m_s c_s : Nat} {s : List Int} {r_From : Int} {r_To : Int} {a_r_Map : Option Addr} {m_r_Map c_r_Map : Nat} {r_Map : List Int} {f_Rel : Int} {a_f_Values : Option Addr} {m_f_Values c_f_Values : Nat} {f_Values : List Int} : Tr Tryz.prog 157 [.slice a_s m_s c_s, .agg #[.int .i64 r_From, .int .i64 r_To, .slice a_r_Map m_r_Map c_r_Map], .agg #[.int .i64 f_Rel, .slice a_f_Values m_f_Values c_f_Values]] (fun w L => Ro w L eIs [.slice a_s m_s c_s] s ∧ I64 r_From ∧ I64 r_To ∧ Ro w L eIs [.slice a_r_Map m_r_Map c_r_Map] r_Map ∧ I64 f_Rel ∧ Ro w L eIs [.slice a_f_Values m_f_Values c_f_Values] f_Values) [] (κ := Option Addr × Nat × Nat) (fun k => True) (fun k => .tuple #[.agg #[.int .i64 (impR s (r_From, r_To, r_Map) (f_Rel, f_Values)), .slice k.1 k.2.1 k.2.2], .bool (impB s (r_From, r_To, r_Map) (f_Rel, f_Values))]) (fun k => [ow eIs [.slice k.1 k.2.1 k.2.2] (impV s (r_From, r_To, r_Map) (f_Rel, f_Values))]) := by
  refine Tr.intro Tryz.func157 rfl (n := 24) rfl (by decide +kernel) (Nat.le_of_ble_eq_true rfl) (fr := [(0, .slice a_s m_s c_s), (1, .agg #[.int .i64 r_From, .int .i64 r_To, .slice a_r_Map m_r_Map c_r_Map]), (2, .agg #[.int .i64 f_Rel, .slice a_f_Values m_f_Values c_f_Values])]) rfl fun w L hR => ?_
  obtain ⟨hs, i6r_From, i6r_To, hr_Map, i6f_Rel, hf_Values⟩ := hR
  obtain ⟨rfl, ls⟩ := hs.slen
  obtain ⟨rfl, lr_Map⟩ := hr_Map.slen
  obtain ⟨rfl, lf_Values⟩ := hf_Values.slen
  refine E.seq (E.region (l := [0, 1, 2, 3]) rfl (E.st rfl rfl (N.box (cs := [_, _, _]) rfl (by decide) rfl) (fun b4 _ => ?_)))
  refine E.st rfl rfl (N.box (cs := [_, _]) rfl (by decide) rfl) (fun b5 _ => ?_)
  refine E.st rfl rfl (N.alloc ty_Fact (by decide)) (fun b6 _ => ?_)
  refine E.y rfl rfl (by decide) ((Y.as rfl).yd) ?_
  refine E.nil (E.thn (E.seq (E.seq (E.region (l := [0, 1, 2, 3, 4, 5, 6, 7, 8, 9]) rfl (E.y rfl rfl (by decide) ((Y.mv rfl).yd) ?_)))))
  refine E.y rfl rfl (by decide) (Y.ldS (cs := [_, _, _]) ty_Rule rfl (Has.pt (mS (mS m0))) rfl) ?_
  refine E.st rfl rfl (N.call0 t_impl_IsRule rfl rfl rfl (by decide) (fun w Lp hA => ⟨hA.ro hs, i6r_From, i6r_To, hA.ro hr_Map⟩)) (fun _ _ => (Ent.b (fun q10 => ?_) (fun q10 => ?_)))
  · refine E.y rfl rfl (by decide) ((Y.not (b := true) rfl).yd) ?_
    refine E.y rfl rfl (by decide) ((Y.mv rfl).yd) ?_
    refine E.y rfl rfl (by decide) ((Y.mv rfl).yd) ?_
    refine E.y rfl rfl (by decide) (Y.ldS (cs := [_, _]) ty_Fact rfl (Has.pt (mS m0)) rfl) ?_
    refine E.st rfl rfl (N.call0 t_impl_IsFact rfl rfl rfl (by decide) (fun w Lp hA => ⟨hA.ro hs, i6f_Rel, hA.ro hf_Values⟩)) (fun _ _ => (Ent.b (fun q15 => ?_) (fun q15 => ?_)))
    · refine E.y rfl rfl (by decide) ((Y.not (b := true) rfl).yd) ?_
      refine E.y rfl rfl (by decide) ((Y.pkf rfl rfl).yd) ?_
      refine E.nil (E.thn (E.cf rfl (E.skipc (E.thn (E.seq (E.region (l := [0, 1, 2, 3, 4, 5, 6]) rfl (E.y rfl rfl (by decide) (Y.ldS (cs := [_, _, _]) ty_Rule rfl (Has.pt (mS (mS m0))) rfl) ?_)))))))
      refine E.y rfl rfl (by decide) (Y.ldS (cs := [_, _]) ty_Fact rfl (Has.pt (mS m0)) rfl) ?_
      refine E.st rfl rfl (N.call (t_impl_Rule_implied (show f_Rel = r_From → ∀ x ∈ r_Map, 0 ≤ x ∧ x < f_Values.length from rule_fact q10 q15) (show r_Map.length ≤ 1048576 from Nat.le_trans (rule_len q10) (by decide))) rfl rfl rfl (by decide) rfl (fun w Lp hA => ⟨i6r_From, i6r_To, hA.ro hr_Map, i6f_Rel, hA.ro hf_Values⟩)) (fun k21 _ => ?_)
      obtain ⟨a21, m21, c21⟩ := k21
      refine Ent.lenow m0 fun e21 l21 => ?_
      subst e21
      refine E.y rfl rfl (by decide) ((Y.ext rfl rfl).yd) ?_
      refine E.y rfl rfl (by decide) ((Y.ext rfl rfl).yd) ?_
      refine Ent.p1 ?_
      refine E.st rfl rfl (N.sto (vs := [_, _]) (cs' := [_, _]) ty_Fact rfl rfl rfl rfl rfl (Nat.le_of_ble_eq_true rfl) rfl) (fun _ _ => ?_)
      refine E.y rfl rfl (by decide) ((Y.as rfl).yd) ?_
      refine E.nil (E.thn (E.ret (Ent.p1 ?_)))
      refine Ent.cv (congrArg (ow eIs [_]) (show _ = impV s (r_From, r_To, r_Map) (f_Rel, f_Values) by simp only [impR, impV, impB_is q10 q15, cond_true, cond_false])) ?_
      exact F.c2 (Back.refl _ _) rfl rfl rfl (mS m0) ty_Fact rfl (_, _, _) trivial (by rw [show (impR s (r_From, r_To, r_Map) (f_Rel, f_Values)) = (cond (decide (f_Rel = r_From)) r_To 0) from (by simp only [impR, impV, impB_is q10 q15, cond_true, cond_false])]; rw [show (impB s (r_From, r_To, r_Map) (f_Rel, f_Values)) = (decide (f_Rel = r_From)) from (by simp only [impR, impV, impB_is q10 q15, cond_true, cond_false])]; try rfl) (J := _) (.refl _) (.inl rfl)
    · refine E.y rfl rfl (by decide) ((Y.not (b := false) rfl).yd) ?_
      refine E.y rfl rfl (by decide) ((Y.pkf rfl rfl).yd) ?_
      refine E.nil (E.thn (E.ct rfl (E.seq (E.region (l := [0, 1, 2]) rfl (E.y rfl rfl (by decide) ((Y.bld (pvs := []) (cs := [_, _]) ty_Fact pl_Fact rfl rfl).yd) ?_)))))
      refine E.st rfl rfl (N.sto (vs := [_, _]) (cs' := [_, _]) ty_Fact rfl rfl rfl rfl rfl (Nat.le_of_ble_eq_true rfl) rfl) (fun _ _ => ?_)
      refine E.y rfl rfl (by decide) ((Y.as rfl).yd) ?_
      refine E.nil (E.thn (E.ret (E.thr (Ent.mkow (A := []) (Own.nil (E := Enc.int) (e := tI) (a := none)) rfl ?_))))
      refine Ent.cv (congrArg (ow eIs [_]) (show _ = impV s (r_From, r_To, r_Map) (f_Rel, f_Values) by simp only [impR, impV, impB_no2 q15, cond_true, cond_false])) ?_
      exact F.c2 (Back.refl _ _) rfl rfl rfl (mS m0) ty_Fact rfl (none, 0, 0) trivial (by rw [show (impR s (r_From, r_To, r_Map) (f_Rel, f_Values)) = (0) from (by simp only [impR, impV, impB_no2 q15, cond_true, cond_false])]; rw [show (impB s (r_From, r_To, r_Map) (f_Rel, f_Values)) = (false) from (by simp only [impR, impV, impB_no2 q15, cond_true, cond_false])]; try rfl) (J := _) (.refl _) (.inl rfl)
  · refine E.y rfl rfl (by decide) ((Y.not (b := false) rfl).yd) ?_
    refine E.y rfl rfl (by decide) ((Y.mv rfl).yd) ?_
    refine E.skip rfl rfl rfl ?_
    refine E.skip rfl rfl rfl ?_
    refine E.skip rfl rfl rfl ?_
    refine E.skip rfl rfl rfl ?_
    refine E.y rfl rfl (by decide) ((Y.pkt rfl rfl).yd) ?_
    refine E.nil (E.thn (E.ct rfl (E.seq (E.region (l := [0, 1, 2]) rfl (E.y rfl rfl (by decide) ((Y.bld (pvs := []) (cs := [_, _]) ty_Fact pl_Fact rfl rfl).yd) ?_)))))
    refine E.st rfl rfl (N.sto (vs := [_, _]) (cs' := [_, _]) ty_Fact rfl rfl rfl rfl rfl (Nat.le_of_ble_eq_true rfl) rfl) (fun _ _ => ?_)
    refine E.y rfl rfl (by decide) ((Y.as rfl).yd) ?_
    refine E.nil (E.thn (E.ret (E.thr (Ent.mkow (A := []) (Own.nil (E := Enc.int) (e := tI) (a := none)) rfl ?_))))
    refine Ent.cv (congrArg (ow eIs [_]) (show _ = impV s (r_From, r_To, r_Map) (f_Rel, f_Values) by simp only [impR, impV, impB_no1 q10, cond_true, cond_false])) ?_
    exact F.c2 (Back.refl _ _) rfl rfl rfl (mS m0) ty_Fact rfl (none, 0, 0) trivial (by rw [show (impR s (r_From, r_To, r_Map) (f_Rel, f_Values)) = (0) from (by simp only [impR, impV, impB_no1 q10, cond_true, cond_false])]; rw [show (impB s (r_From, r_To, r_Map) (f_Rel, f_Values)) = (false) from (by simp only [impR, impV, impB_no1 q10, cond_true, cond_false])]; try rfl) (J := _) (.refl _) (.inl rfl)
end Go.Proofs.YtfnagmokplpnjaaGreat
