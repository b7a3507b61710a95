import Derived.Test.YtfnagmokplpnjaaGreatT36
import Derived.Test.YtfnagmokplpnjaaGreatT35
import Derived.Test.YtfnagmokplpnjaaGreatT11
import Derived.Test.YtfnagmokplpnjaaGreatT9
import Derived.Test.YtfnagmokplpnjaaGreatDy
import Derived.Test.YtfnagmokplpnjaaGreatBn
namespace Go.Proofs.YtfnagmokplpnjaaGreat
open Go.RowKit
set_option linter.unusedVariables false
set_option linter.unusedSimpArgs false
set_option maxHeartbeats 2000000
attribute [local irreducible] Nop Yd Yp Ent Has Tr FnP FnP2 Src listsF opnF opn1 opnR chainB
theorem t_spec_l14Fine {a_s : Option Addr} {m_s c_s : Nat} {s : List Int} {a_l : Option Addr} {m_l c_l : Nat} {l : List (Int × List Int × Int × Int × Int)} {a_rules : Option Addr} {m_rules c_rules : Nat} {rules : List (Int × Int × List Int)} : Tr Tryz.prog 65 [.slice a_s m_s c_s, .slice a_l m_l c_l, .slice a_rules m_rules c_rules] (fun w L => Ro w L eIs [.slice a_s m_s c_s] s ∧ Ro w L eMethods [.slice a_l m_l c_l] l ∧ Ro w L eRules [.slice a_rules m_rules c_rules] rules) [] (κ := Unit) (fun k => True) (fun k => .bool (okMeths s l && okRules s rules)) (fun k => []) := by
  refine Tr.intro Tryz.func65 rfl (n := 15) rfl (by decide +kernel) (Nat.le_of_ble_eq_true rfl) (fr := [(0, .slice a_s m_s c_s), (1, .slice a_l m_l c_l), (2, .slice a_rules m_rules c_rules)]) rfl fun w L hR => ?_
  obtain ⟨hs, hl, hrules⟩ := hR
  obtain ⟨rfl, ls⟩ := hs.slen
  obtain ⟨rfl, ll⟩ := hl.slen
  obtain ⟨rfl, lrules⟩ := hrules.slen
  refine E.seq (E.region (l := [0]) rfl (E.y rfl rfl (by decide) ((Y.as rfl).yd) ?_))
  refine E.nil (E.thn (E.seq (E.region (l := [0, 1, 2, 3, 4, 5, 6, 7, 8]) rfl (E.y rfl rfl (by decide) ((Y.mv rfl).yd) ?_))))
  refine E.y rfl rfl (by decide) ((Y.mv rfl).yd) ?_
  refine E.st rfl rfl (N.call0 t_spec_AreMethods rfl rfl rfl (by decide) (fun w Lp hA => ⟨hA.ro hs, hA.ro hl⟩)) (fun _ _ => (Ent.b (fun q9 => ?_) (fun q9 => ?_)))
  · refine E.y rfl rfl (by decide) ((Y.mv rfl).yd) ?_
    refine E.y rfl rfl (by decide) ((Y.mv rfl).yd) ?_
    refine E.y rfl rfl (by decide) ((Y.mv rfl).yd) ?_
    refine E.st rfl rfl (N.call0 t_spec_AreRules rfl rfl rfl (by decide) (fun w Lp hA => ⟨hA.ro hs, hA.ro hrules⟩)) (fun _ _ => ?_)
    refine E.y rfl rfl (by decide) ((Y.pkt rfl rfl).yd) ?_
    refine E.y rfl rfl (by decide) ((Y.as rfl).yd) ?_
    exact E.nil (E.thn (E.ret (F.r1 (Back.refl _ _) rfl rfl () trivial (congrArg Value.bool (by grind [List.drop_eq_getElem_cons, List.drop_eq_nil_of_le, List.take_succ_eq_append_getElem, List.take_of_length_le])) (J := _) (.refl _) (.inl rfl))))
  · refine E.y rfl rfl (by decide) ((Y.mv rfl).yd) ?_
    refine E.skip rfl rfl rfl ?_
    refine E.skip rfl rfl rfl ?_
    refine E.skip rfl rfl rfl ?_
    refine E.y rfl rfl (by decide) ((Y.pkf rfl rfl).yd) ?_
    refine E.y rfl rfl (by decide) ((Y.as rfl).yd) ?_
    exact E.nil (E.thn (E.ret (F.r1 (Back.refl _ _) rfl rfl () trivial (congrArg Value.bool (by grind [List.drop_eq_getElem_cons, List.drop_eq_nil_of_le, List.take_succ_eq_append_getElem, List.take_of_length_le])) (J := _) (.refl _) (.inl rfl))))
theorem t_impl_areUnder {a_s : Option Addr} {m_s c_s : Nat} {s : List Int} {a_l : Option Addr} {m_l c_l : Nat} {l : List (Int × List Int × Int × Int × Int)} {a_rules : Option Addr} {m_rules c_rules : Nat} {rules : List (Int × Int × List Int)} : Tr Tryz.prog 81 [.slice a_s m_s c_s, .slice a_l m_l c_l, .slice a_rules m_rules c_rules] (fun w L => Ro w L eIs [.slice a_s m_s c_s] s ∧ Ro w L eMethods [.slice a_l m_l c_l] l ∧ Ro w L eRules [.slice a_rules m_rules c_rules] rules) [] (κ := Unit) (fun k => True) (fun k => .bool (okMeths s l && okRules s rules)) (fun k => []) := by
  refine Tr.intro Tryz.func81 rfl (n := 15) rfl (by decide +kernel) (Nat.le_of_ble_eq_true rfl) (fr := [(0, .slice a_s m_s c_s), (1, .slice a_l m_l c_l), (2, .slice a_rules m_rules c_rules)]) rfl fun w L hR => ?_
  obtain ⟨hs, hl, hrules⟩ := hR
  obtain ⟨rfl, ls⟩ := hs.slen
  obtain ⟨rfl, ll⟩ := hl.slen
  obtain ⟨rfl, lrules⟩ := hrules.slen
  refine E.seq (E.region (l := [0]) rfl (E.y rfl rfl (by decide) ((Y.as rfl).yd) ?_))
  refine E.nil (E.thn (E.seq (E.region (l := [0, 1, 2, 3, 4, 5, 6, 7, 8]) rfl (E.y rfl rfl (by decide) ((Y.mv rfl).yd) ?_))))
  refine E.y rfl rfl (by decide) ((Y.mv rfl).yd) ?_
  refine E.st rfl rfl (N.call0 t_impl_AreMethods rfl rfl rfl (by decide) (fun w Lp hA => ⟨hA.ro hs, hA.ro hl⟩)) (fun _ _ => (Ent.b (fun q9 => ?_) (fun q9 => ?_)))
  · refine E.y rfl rfl (by decide) ((Y.mv rfl).yd) ?_
    refine E.y rfl rfl (by decide) ((Y.mv rfl).yd) ?_
    refine E.y rfl rfl (by decide) ((Y.mv rfl).yd) ?_
    refine E.st rfl rfl (N.call0 t_impl_AreRules rfl rfl rfl (by decide) (fun w Lp hA => ⟨hA.ro hs, hA.ro hrules⟩)) (fun _ _ => ?_)
    refine E.y rfl rfl (by decide) ((Y.pkt rfl rfl).yd) ?_
    refine E.y rfl rfl (by decide) ((Y.as rfl).yd) ?_
    exact E.nil (E.thn (E.ret (F.r1 (Back.refl _ _) rfl rfl () trivial (congrArg Value.bool (by grind [List.drop_eq_getElem_cons, List.drop_eq_nil_of_le, List.take_succ_eq_append_getElem, List.take_of_length_le])) (J := _) (.refl _) (.inl rfl))))
  · refine E.y rfl rfl (by decide) ((Y.mv rfl).yd) ?_
    refine E.skip rfl rfl rfl ?_
    refine E.skip rfl rfl rfl ?_
    refine E.skip rfl rfl rfl ?_
    refine E.y rfl rfl (by decide) ((Y.pkf rfl rfl).yd) ?_
    refine E.y rfl rfl (by decide) ((Y.as rfl).yd) ?_
    exact E.nil (E.thn (E.ret (F.r1 (Back.refl _ _) rfl rfl () trivial (congrArg Value.bool (by grind [List.drop_eq_getElem_cons, List.drop_eq_nil_of_le, List.take_succ_eq_append_getElem, List.take_of_length_le])) (J := _) (.refl _) (.inl rfl))))
theorem t_impl_IsAccess {a_s : Option Addr} {m_s c_s : Nat} {s : List Int} {a_l : Option Addr} {m_l c_l : Nat} {l : List (Int × List Int × Int × Int × Int)} {a_Method : Int} {a_a_Values : Option Addr} {m_a_Values c_a_Values : Nat} {a_Values : List Int} : Tr Tryz.prog 151 [.slice a_s m_s c_s, .slice a_l m_l c_l, .agg #[.int .i64 a_Method, .slice a_a_Values m_a_Values c_a_Values]] (fun w L => Ro w L eIs [.slice a_s m_s c_s] s ∧ Ro w L eMethods [.slice a_l m_l c_l] l ∧ I64 a_Method ∧ Ro w L eIs [.slice a_a_Values m_a_Values c_a_Values] a_Values) [] (κ := Unit) (fun k => True) (fun k => .bool (okAcc s l (a_Method, a_Values))) (fun k => []) := by
  refine Tr.intro Tryz.func151 rfl (n := 36) rfl (by decide +kernel) (Nat.le_of_ble_eq_true rfl) (fr := [(0, .slice a_s m_s c_s), (1, .slice a_l m_l c_l), (2, .agg #[.int .i64 a_Method, .slice a_a_Values m_a_Values c_a_Values])]) rfl fun w L hR => ?_
  obtain ⟨hs, hl, i6a_Method, ha_Values⟩ := hR
  obtain ⟨rfl, ls⟩ := hs.slen
  obtain ⟨rfl, ll⟩ := hl.slen
  obtain ⟨rfl, la_Values⟩ := ha_Values.slen
  refine E.seq (E.region (l := [0, 1]) rfl (E.st rfl rfl (N.box (cs := [_, _]) rfl (by decide) rfl) (fun b5 _ => ?_)))
  refine E.y rfl rfl (by decide) ((Y.as rfl).yd) ?_
  refine E.nil (E.thn (E.seq (D.region (fun j => true) mixed (D.yp 0 rfl rfl (by decide) (Y.mv rfl) (by kernel_rfl) ?_))))
  refine D.yp 1 rfl rfl (by decide) (Y.mv rfl) (by kernel_rfl) ?_
  refine D.st 2 rfl rfl (by kernel_rfl) (fun _ => rfl) (N.call0 t_impl_AreMethods rfl rfl rfl (by decide) (fun w Lp hA => ⟨hA.ro hs, hA.ro hl⟩)) (fun _ _ => (Ent.b (fun q9 => ?_) (fun q9 => ?_)))
  · refine D.yp 3 rfl rfl (by decide) (Y.mv rfl) (by kernel_rfl) ?_
    refine D.yp 4 rfl rfl (by decide) (Y.fld fo_Access_0 ty_I (by decide) rfl) (by kernel_rfl) ?_
    refine D.y 5 rfl rfl (by decide) (Y.ld1 ty_I rfl ((Has.pt m0).sub (cs' := [_]) 0 rfl) rfl) (by kernel_rfl) ?_
    refine D.yp 6 rfl rfl (by decide) (Y.mv rfl) (by kernel_rfl) ?_
    refine D.yp 7 rfl rfl (by decide) (Y.len us_Methods rfl) (by kernel_rfl) ?_
    refine D.yp 8 rfl rfl (by decide) (Y.sub rfl rfl (by omega) (by omega)) (by kernel_rfl) ?_
    refine D.st 9 rfl rfl (by kernel_rfl) (fun _ => rfl) (N.call0 t_impl_within rfl rfl rfl (by decide) (fun w Lp hA => trivial)) (fun _ _ => (Ent.b (fun q16 => ?_) (fun q16 => ?_)))
    · have zz := inR_le q16
      refine D.yp 10 rfl rfl (by decide) (Y.pkt rfl rfl) (by kernel_rfl) ?_
      refine D.yp 11 rfl rfl (by decide) (Y.mv rfl) (by kernel_rfl) ?_
      refine D.yp 12 rfl rfl (by decide) (Y.fld fo_Access_1 ty_Is (by decide) rfl) (by kernel_rfl) ?_
      refine D.y 13 rfl rfl (by decide) (Y.ld1 ty_Is rfl ((Has.pt m0).sub (cs' := [_]) 1 rfl) rfl) (by kernel_rfl) ?_
      refine D.yp 14 rfl rfl (by decide) (Y.len us_Is rfl) (by kernel_rfl) ?_
      refine D.yp 15 rfl rfl (by decide) (Y.mv rfl) (by kernel_rfl) ?_
      refine D.yp 16 rfl rfl (by decide) (Y.fld fo_Access_0 ty_I (by decide) rfl) (by kernel_rfl) ?_
      refine D.y 17 rfl rfl (by decide) (Y.ld1 ty_I rfl ((Has.pt m0).sub (cs' := [_]) 0 rfl) rfl) (by kernel_rfl) ?_
      obtain ⟨eb25, eo25, ec25, ea25, er25, el25, eh25⟩ := hl.elem a_Method.toNat (by omega)
      obtain ⟨xa25_0, xc25_0, rfl, ei25_0, xh25_0, ei25_2, ei25_3, ei25_4⟩ := Ro.pMethod er25
      have := xh25_0.slen.2
      refine D.yp 18 rfl rfl (by decide) (Y.ix us_Methods ty_Method rfl ea25 rfl a_Method.toNat (by omega) (by omega)) (by kernel_rfl) ?_
      refine D.yp 19 rfl rfl (by decide) (Y.fld fo_Method_1 ty_Is (by decide) rfl) (by kernel_rfl) ?_
      refine D.y 20 rfl rfl (by decide) (Y.ld1 ty_Is rfl ((eh25 _).sub (cs' := [_]) 1 rfl) rfl) (by kernel_rfl) ?_
      refine D.yp 21 rfl rfl (by decide) (Y.len us_Is rfl) (by kernel_rfl) ?_
      refine D.yp 22 rfl rfl (by decide) (Y.eql rfl rfl) (by kernel_rfl) (Ent.d (fun q29 => ?_) (fun q29 => ?_))
      · refine D.yp 23 rfl rfl (by decide) (Y.pkt rfl rfl) (by kernel_rfl) ?_
        refine D.yp 24 rfl rfl (by decide) (Y.mv rfl) (by kernel_rfl) ?_
        refine D.yp 25 rfl rfl (by decide) (Y.fld fo_Access_1 ty_Is (by decide) rfl) (by kernel_rfl) ?_
        refine D.y 26 rfl rfl (by decide) (Y.ld1 ty_Is rfl ((Has.pt m0).sub (cs' := [_]) 1 rfl) rfl) (by kernel_rfl) ?_
        refine D.st 27 rfl rfl (by kernel_rfl) (fun _ => rfl) (N.call0 t_impl_areValues rfl rfl rfl (by decide) (fun w Lp hA => hA.ro ha_Values)) (fun _ _ => ?_)
        refine D.yp 28 rfl rfl (by decide) (Y.pkt rfl rfl) (by kernel_rfl) ?_
        refine D.yp 29 rfl rfl (by decide) (Y.as rfl) (by kernel_rfl) ?_
        exact D.done (by kernel_rfl) (E.thn (E.ret (F.r1 (Back.refl _ _) rfl rfl () trivial (congrArg Value.bool (by grind [okAcc, atM_get, List.drop_eq_getElem_cons, List.drop_eq_nil_of_le, List.take_succ_eq_append_getElem, List.take_of_length_le])) (J := _) (.refl _) (.inl rfl))))
      · refine D.yp 23 rfl rfl (by decide) (Y.pkt rfl rfl) (by kernel_rfl) ?_
        refine D.yp 24 rfl rfl (by decide) (Y.mv rfl) (by kernel_rfl) ?_
        refine D.skip 25 rfl rfl (by kernel_rfl) rfl ?_
        refine D.skip 26 rfl rfl (by kernel_rfl) rfl ?_
        refine D.skip 27 rfl rfl (by kernel_rfl) rfl ?_
        refine D.yp 28 rfl rfl (by decide) (Y.pkf rfl rfl) (by kernel_rfl) ?_
        refine D.yp 29 rfl rfl (by decide) (Y.as rfl) (by kernel_rfl) ?_
        exact D.done (by kernel_rfl) (E.thn (E.ret (F.r1 (Back.refl _ _) rfl rfl () trivial (congrArg Value.bool (by grind [okAcc, atM_get, List.drop_eq_getElem_cons, List.drop_eq_nil_of_le, List.take_succ_eq_append_getElem, List.take_of_length_le])) (J := _) (.refl _) (.inl rfl))))
    · refine D.yp 10 rfl rfl (by decide) (Y.pkt rfl rfl) (by kernel_rfl) ?_
      refine D.yp 11 rfl rfl (by decide) (Y.mv rfl) (by kernel_rfl) ?_
      refine D.skip 12 rfl rfl (by kernel_rfl) rfl ?_
      refine D.skip 13 rfl rfl (by kernel_rfl) rfl ?_
      refine D.skip 14 rfl rfl (by kernel_rfl) rfl ?_
      refine D.skip 15 rfl rfl (by kernel_rfl) rfl ?_
      refine D.skip 16 rfl rfl (by kernel_rfl) rfl ?_
      refine D.skip 17 rfl rfl (by kernel_rfl) rfl ?_
      refine D.skip 18 rfl rfl (by kernel_rfl) rfl ?_
      refine D.skip 19 rfl rfl (by kernel_rfl) rfl ?_
      refine D.skip 20 rfl rfl (by kernel_rfl) rfl ?_
      refine D.skip 21 rfl rfl (by kernel_rfl) rfl ?_
      refine D.skip 22 rfl rfl (by kernel_rfl) rfl ?_
      refine D.yp 23 rfl rfl (by decide) (Y.pkf rfl rfl) (by kernel_rfl) ?_
      refine D.yp 24 rfl rfl (by decide) (Y.mv rfl) (by kernel_rfl) ?_
      refine D.skip 25 rfl rfl (by kernel_rfl) rfl ?_
      refine D.skip 26 rfl rfl (by kernel_rfl) rfl ?_
      refine D.skip 27 rfl rfl (by kernel_rfl) rfl ?_
      refine D.yp 28 rfl rfl (by decide) (Y.pkf rfl rfl) (by kernel_rfl) ?_
      refine D.yp 29 rfl rfl (by decide) (Y.as rfl) (by kernel_rfl) ?_
      exact D.done (by kernel_rfl) (E.thn (E.ret (F.r1 (Back.refl _ _) rfl rfl () trivial (congrArg Value.bool (by grind [okAcc, atM_get, List.drop_eq_getElem_cons, List.drop_eq_nil_of_le, List.take_succ_eq_append_getElem, List.take_of_length_le])) (J := _) (.refl _) (.inl rfl))))
  · refine D.yp 3 rfl rfl (by decide) (Y.mv rfl) (by kernel_rfl) ?_
    refine D.skip 4 rfl rfl (by kernel_rfl) rfl ?_
    refine D.skip 5 rfl rfl (by kernel_rfl) rfl ?_
    refine D.skip 6 rfl rfl (by kernel_rfl) rfl ?_
    refine D.skip 7 rfl rfl (by kernel_rfl) rfl ?_
    refine D.skip 8 rfl rfl (by kernel_rfl) rfl ?_
    refine D.skip 9 rfl rfl (by kernel_rfl) rfl ?_
    refine D.yp 10 rfl rfl (by decide) (Y.pkf rfl rfl) (by kernel_rfl) ?_
    refine D.yp 11 rfl rfl (by decide) (Y.mv rfl) (by kernel_rfl) ?_
    refine D.skip 12 rfl rfl (by kernel_rfl) rfl ?_
    refine D.skip 13 rfl rfl (by kernel_rfl) rfl ?_
    refine D.skip 14 rfl rfl (by kernel_rfl) rfl ?_
    refine D.skip 15 rfl rfl (by kernel_rfl) rfl ?_
    refine D.skip 16 rfl rfl (by kernel_rfl) rfl ?_
    refine D.skip 17 rfl rfl (by kernel_rfl) rfl ?_
    refine D.skip 18 rfl rfl (by kernel_rfl) rfl ?_
    refine D.skip 19 rfl rfl (by kernel_rfl) rfl ?_
    refine D.skip 20 rfl rfl (by kernel_rfl) rfl ?_
    refine D.skip 21 rfl rfl (by kernel_rfl) rfl ?_
    refine D.skip 22 rfl rfl (by kernel_rfl) rfl ?_
    refine D.yp 23 rfl rfl (by decide) (Y.pkf rfl rfl) (by kernel_rfl) ?_
    refine D.yp 24 rfl rfl (by decide) (Y.mv rfl) (by kernel_rfl) ?_
    refine D.skip 25 rfl rfl (by kernel_rfl) rfl ?_
    refine D.skip 26 rfl rfl (by kernel_rfl) rfl ?_
    refine D.skip 27 rfl rfl (by kernel_rfl) rfl ?_
    refine D.yp 28 rfl rfl (by decide) (Y.pkf rfl rfl) (by kernel_rfl) ?_
    refine D.yp 29 rfl rfl (by decide) (Y.as rfl) (by kernel_rfl) ?_
    exact D.done (by kernel_rfl) (E.thn (E.ret (F.r1 (Back.refl _ _) rfl rfl () trivial (congrArg Value.bool (by grind [okAcc, atM_get, List.drop_eq_getElem_cons, List.drop_eq_nil_of_le, List.take_succ_eq_append_getElem, List.take_of_length_le])) (J := _) (.refl _) (.inl rfl))))
theorem t_spec_IsAccess {a_s : Option Addr} {m_s c_s : Nat} {s : List Int} {a_l : Option Addr} {m_l c_l : Nat} {l : List (Int × List Int × Int × Int × Int)} {a_Method : Int} {a_a_Values : Option Addr} {m_a_Values c_a_Values : Nat} {a_Values : List Int} : Tr Tryz.prog 68 [.slice a_s m_s c_s, .slice a_l m_l c_l, .agg #[.int .i64 a_Method, .slice a_a_Values m_a_Values c_a_Values]] (fun w L => Ro w L eIs [.slice a_s m_s c_s] s ∧ Ro w L eMethods [.slice a_l m_l c_l] l ∧ I64 a_Method ∧ Ro w L eIs [.slice a_a_Values m_a_Values c_a_Values] a_Values) [] (κ := Unit) (fun k => True) (fun k => .bool (okAcc s l (a_Method, a_Values))) (fun k => []) := by
  refine Tr.intro Tryz.func68 rfl (n := 48) rfl (by decide +kernel) (Nat.le_of_ble_eq_true rfl) (fr := [(0, .slice a_s m_s c_s), (1, .slice a_l m_l c_l), (2, .agg #[.int .i64 a_Method, .slice a_a_Values m_a_Values c_a_Values])]) rfl fun w L hR => ?_
  obtain ⟨hs, hl, i6a_Method, ha_Values⟩ := hR
  obtain ⟨rfl, ls⟩ := hs.slen
  obtain ⟨rfl, ll⟩ := hl.slen
  obtain ⟨rfl, la_Values⟩ := ha_Values.slen
  refine E.seq (E.region (l := [0, 1]) rfl (E.st rfl rfl (N.box (cs := [_, _]) rfl (by decide) rfl) (fun b5 _ => ?_)))
  refine E.y rfl rfl (by decide) ((Y.as rfl).yd) ?_
  refine E.nil (E.thn (E.seq (E.seq (D.region (fun j => true) mixed (D.yp 0 rfl rfl (by decide) (Y.mv rfl) (by kernel_rfl) ?_)))))
  refine D.yp 1 rfl rfl (by decide) (Y.mv rfl) (by kernel_rfl) ?_
  refine D.st 2 rfl rfl (by kernel_rfl) (fun _ => rfl) (N.call0 t_spec_AreMethods rfl rfl rfl (by decide) (fun w Lp hA => ⟨hA.ro hs, hA.ro hl⟩)) (fun _ _ => (Ent.b (fun q10 => ?_) (fun q10 => ?_)))
  · refine D.yp 3 rfl rfl (by decide) (Y.not (b := true) rfl) (by kernel_rfl) ?_
    refine D.yp 4 rfl rfl (by decide) (Y.mv rfl) (by kernel_rfl) ?_
    refine D.yp 5 rfl rfl (by decide) (Y.fld fo_Access_0 ty_I (by decide) rfl) (by kernel_rfl) ?_
    refine D.y 6 rfl rfl (by decide) (Y.ld1 ty_I rfl ((Has.pt m0).sub (cs' := [_]) 0 rfl) rfl) (by kernel_rfl) ?_
    refine D.yp 7 rfl rfl (by decide) (Y.mv rfl) (by kernel_rfl) ?_
    refine D.yp 8 rfl rfl (by decide) (Y.len us_Methods rfl) (by kernel_rfl) ?_
    refine D.yp 9 rfl rfl (by decide) (Y.sub rfl rfl (by omega) (by omega)) (by kernel_rfl) ?_
    refine D.st 10 rfl rfl (by kernel_rfl) (fun _ => rfl) (N.call0 t_spec_l1In rfl rfl rfl (by decide) (fun w Lp hA => trivial)) (fun _ _ => (Ent.b (fun q18 => ?_) (fun q18 => ?_)))
    · have zz := inR_le q18
      refine D.yp 11 rfl rfl (by decide) (Y.not (b := true) rfl) (by kernel_rfl) ?_
      refine D.yp 12 rfl rfl (by decide) (Y.pkf rfl rfl) (by kernel_rfl) ?_
      refine D.yp 13 rfl rfl (by decide) (Y.mv rfl) (by kernel_rfl) ?_
      refine D.yp 14 rfl rfl (by decide) (Y.fld fo_Access_1 ty_Is (by decide) rfl) (by kernel_rfl) ?_
      refine D.y 15 rfl rfl (by decide) (Y.ld1 ty_Is rfl ((Has.pt m0).sub (cs' := [_]) 1 rfl) rfl) (by kernel_rfl) ?_
      refine D.yp 16 rfl rfl (by decide) (Y.len us_Is rfl) (by kernel_rfl) ?_
      refine D.yp 17 rfl rfl (by decide) (Y.mv rfl) (by kernel_rfl) ?_
      refine D.yp 18 rfl rfl (by decide) (Y.fld fo_Access_0 ty_I (by decide) rfl) (by kernel_rfl) ?_
      refine D.y 19 rfl rfl (by decide) (Y.ld1 ty_I rfl ((Has.pt m0).sub (cs' := [_]) 0 rfl) rfl) (by kernel_rfl) ?_
      obtain ⟨eb28, eo28, ec28, ea28, er28, el28, eh28⟩ := hl.elem a_Method.toNat (by omega)
      obtain ⟨xa28_0, xc28_0, rfl, ei28_0, xh28_0, ei28_2, ei28_3, ei28_4⟩ := Ro.pMethod er28
      have := xh28_0.slen.2
      refine D.yp 20 rfl rfl (by decide) (Y.ix us_Methods ty_Method rfl ea28 rfl a_Method.toNat (by omega) (by omega)) (by kernel_rfl) ?_
      refine D.yp 21 rfl rfl (by decide) (Y.fld fo_Method_1 ty_Is (by decide) rfl) (by kernel_rfl) ?_
      refine D.y 22 rfl rfl (by decide) (Y.ld1 ty_Is rfl ((eh28 _).sub (cs' := [_]) 1 rfl) rfl) (by kernel_rfl) ?_
      refine D.yp 23 rfl rfl (by decide) (Y.len us_Is rfl) (by kernel_rfl) ?_
      refine D.yp 24 rfl rfl (by decide) (Y.neq rfl rfl) (by kernel_rfl) (Ent.d (fun q32 => ?_) (fun q32 => ?_))
      · refine D.yp 25 rfl rfl (by decide) (Y.pkf rfl rfl) (by kernel_rfl) ?_
        refine D.done (by kernel_rfl) (E.thn (E.ct rfl (E.seq (E.region (l := [0]) rfl (E.y rfl rfl (by decide) ((Y.as rfl).yd) ?_)))))
        exact E.nil (E.thn (E.ret (E.thr (F.r1 (Back.refl _ _) rfl rfl () trivial (congrArg Value.bool (by grind [okAcc, atM_get, okVals, List.drop_eq_getElem_cons, List.drop_eq_nil_of_le, List.take_succ_eq_append_getElem, List.take_of_length_le])) (J := _) (.refl _) (.inl rfl)))))
      · refine D.yp 25 rfl rfl (by decide) (Y.pkf rfl rfl) (by kernel_rfl) ?_
        refine D.done (by kernel_rfl) (E.thn (E.cf rfl (E.skipc (E.thn (E.seq (E.seq (E.region (l := [0]) rfl (E.y rfl rfl (by decide) ((Y.as rfl).yd) ?_))))))))
        refine E.nil (E.thn (E.block (E.loop (κ := Nat) (fun g => g ≤ a_Values.length ∧ okVals a_Values = okVals (a_Values.drop g)) (fun g => [(5, .pointer (some ⟨b5, 0, none⟩)), (7, .int .i64 (↑g : Int))]) (fun g => [pt b5 111 [.int .i64 a_Method, .slice a_a_Values a_Values.length c_a_Values]]) (fun g => a_Values.length - g) 0 ⟨Nat.zero_le _, by simp⟩ ⟨rfl, rfl, trivial⟩ (.refl _) (fun g pg => ?_))))
        obtain ⟨pk, pa⟩ := pg
        refine E.seq (E.seq (E.region (l := [0, 1, 2, 3, 4]) rfl (E.y rfl rfl (by decide) ((Y.mv rfl).yd) ?_)))
        refine E.y rfl rfl (by decide) ((Y.fld fo_Access_1 ty_Is (by decide) rfl).yd) ?_
        refine E.y rfl rfl (by decide) (Y.ld1 ty_Is rfl ((Has.pt m0).sub (cs' := [_]) 1 rfl) rfl) ?_
        refine E.y rfl rfl (by decide) ((Y.len us_Is rfl).yd) ?_
        refine E.y rfl rfl (by decide) ((Y.lss rfl rfl).yd) (Ent.d (fun q38 => ?_) (fun q38 => ?_))
        · refine E.nil (E.thn (E.ct rfl (E.skipc (E.thn (E.seq (E.block (E.seq (E.region (l := [0, 1, 2, 3, 4, 5, 6]) rfl (E.y rfl rfl (by decide) ((Y.fld fo_Access_1 ty_Is (by decide) rfl).yd) ?_)))))))))
          refine E.y rfl rfl (by decide) (Y.ld1 ty_Is rfl ((Has.pt m0).sub (cs' := [_]) 1 rfl) rfl) ?_
          refine E.y rfl rfl (by decide) ((Y.mv rfl).yd) ?_
          obtain ⟨eb44, eo44, ea44, ei44, eh44⟩ := ha_Values.elemI g (by omega)
          refine E.y rfl rfl (by decide) ((Y.ix us_Is ty_I rfl ea44 rfl g rfl (by omega)).yd) ?_
          refine E.y rfl rfl (by decide) (Y.ld1 ty_I rfl (eh44 _) rfl) ?_
          refine E.st rfl rfl (N.call0 t_spec_l1In rfl rfl rfl (by decide) (fun w Lp hA => trivial)) (fun _ _ => (Ent.b (fun q46 => ?_) (fun q46 => ?_)))
          · refine E.y rfl rfl (by decide) ((Y.not (b := true) rfl).yd) ?_
            refine E.nil (E.thn (E.cf rfl (E.skipc (E.bln (E.thn (E.region (l := [0, 1, 2]) rfl (E.y rfl rfl (by decide) ((Y.mv rfl).yd) ?_)))))))
            refine E.y rfl rfl (by decide) ((Y.add rfl rfl (by omega) (by omega)).yd) ?_
            refine E.y rfl rfl (by decide) ((Y.as rfl).yd) ?_
            exact E.nil (E.thn (E.again (Back.refl _ _) (g + 1) ⟨rfl, rfl, trivial⟩ (.refl _) ⟨by omega, by grind [okVals, List.drop_eq_getElem_cons, List.drop_eq_nil_of_le, List.take_succ_eq_append_getElem, List.take_of_length_le]⟩ (by omega)))
          · refine E.y rfl rfl (by decide) ((Y.not (b := false) rfl).yd) ?_
            refine E.nil (E.thn (E.ct rfl (E.seq (E.region (l := [0]) rfl (E.y rfl rfl (by decide) ((Y.as rfl).yd) ?_)))))
            exact E.nil (E.thn (E.ret (E.blr (E.thr (E.thr (E.blr (E.thr (F.r1 (Back.refl _ _) rfl rfl () trivial (congrArg Value.bool (by grind [okAcc, atM_get, okVals, List.drop_eq_getElem_cons, List.drop_eq_nil_of_le, List.take_succ_eq_append_getElem, List.take_of_length_le])) (J := _) (.refl _) (.inl rfl)))))))))
        · refine E.nil (E.thn (E.cf rfl (E.exit (E.the (E.the (E.blh (E.thn (E.seq (E.region (l := [0]) rfl (E.y rfl rfl (by decide) ((Y.as rfl).yd) ?_))))))))))
          exact E.nil (E.thn (E.ret (F.r1 (Back.refl _ _) rfl rfl () trivial (congrArg Value.bool (by grind [okAcc, atM_get, okVals, List.drop_eq_getElem_cons, List.drop_eq_nil_of_le, List.take_succ_eq_append_getElem, List.take_of_length_le])) (J := _) (.refl _) (.inl rfl))))
    · refine D.yp 11 rfl rfl (by decide) (Y.not (b := false) rfl) (by kernel_rfl) ?_
      refine D.yp 12 rfl rfl (by decide) (Y.pkf rfl rfl) (by kernel_rfl) ?_
      refine D.yp 13 rfl rfl (by decide) (Y.mv rfl) (by kernel_rfl) ?_
      refine D.skip 14 rfl rfl (by kernel_rfl) rfl ?_
      refine D.skip 15 rfl rfl (by kernel_rfl) rfl ?_
      refine D.skip 16 rfl rfl (by kernel_rfl) rfl ?_
      refine D.skip 17 rfl rfl (by kernel_rfl) rfl ?_
      refine D.skip 18 rfl rfl (by kernel_rfl) rfl ?_
      refine D.skip 19 rfl rfl (by kernel_rfl) rfl ?_
      refine D.skip 20 rfl rfl (by kernel_rfl) rfl ?_
      refine D.skip 21 rfl rfl (by kernel_rfl) rfl ?_
      refine D.skip 22 rfl rfl (by kernel_rfl) rfl ?_
      refine D.skip 23 rfl rfl (by kernel_rfl) rfl ?_
      refine D.skip 24 rfl rfl (by kernel_rfl) rfl ?_
      refine D.yp 25 rfl rfl (by decide) (Y.pkt rfl rfl) (by kernel_rfl) ?_
      refine D.done (by kernel_rfl) (E.thn (E.ct rfl (E.seq (E.region (l := [0]) rfl (E.y rfl rfl (by decide) ((Y.as rfl).yd) ?_)))))
      exact E.nil (E.thn (E.ret (E.thr (F.r1 (Back.refl _ _) rfl rfl () trivial (congrArg Value.bool (by grind [okAcc, atM_get, okVals, List.drop_eq_getElem_cons, List.drop_eq_nil_of_le, List.take_succ_eq_append_getElem, List.take_of_length_le])) (J := _) (.refl _) (.inl rfl)))))
  · refine D.yp 3 rfl rfl (by decide) (Y.not (b := false) rfl) (by kernel_rfl) ?_
    refine D.yp 4 rfl rfl (by decide) (Y.mv rfl) (by kernel_rfl) ?_
    refine D.skip 5 rfl rfl (by kernel_rfl) rfl ?_
    refine D.skip 6 rfl rfl (by kernel_rfl) rfl ?_
    refine D.skip 7 rfl rfl (by kernel_rfl) rfl ?_
    refine D.skip 8 rfl rfl (by kernel_rfl) rfl ?_
    refine D.skip 9 rfl rfl (by kernel_rfl) rfl ?_
    refine D.skip 10 rfl rfl (by kernel_rfl) rfl ?_
    refine D.skip 11 rfl rfl (by kernel_rfl) rfl ?_
    refine D.yp 12 rfl rfl (by decide) (Y.pkt rfl rfl) (by kernel_rfl) ?_
    refine D.yp 13 rfl rfl (by decide) (Y.mv rfl) (by kernel_rfl) ?_
    refine D.skip 14 rfl rfl (by kernel_rfl) rfl ?_
    refine D.skip 15 rfl rfl (by kernel_rfl) rfl ?_
    refine D.skip 16 rfl rfl (by kernel_rfl) rfl ?_
    refine D.skip 17 rfl rfl (by kernel_rfl) rfl ?_
    refine D.skip 18 rfl rfl (by kernel_rfl) rfl ?_
    refine D.skip 19 rfl rfl (by kernel_rfl) rfl ?_
    refine D.skip 20 rfl rfl (by kernel_rfl) rfl ?_
    refine D.skip 21 rfl rfl (by kernel_rfl) rfl ?_
    refine D.skip 22 rfl rfl (by kernel_rfl) rfl ?_
    refine D.skip 23 rfl rfl (by kernel_rfl) rfl ?_
    refine D.skip 24 rfl rfl (by kernel_rfl) rfl ?_
    refine D.yp 25 rfl rfl (by decide) (Y.pkt rfl rfl) (by kernel_rfl) ?_
    refine D.done (by kernel_rfl) (E.thn (E.ct rfl (E.seq (E.region (l := [0]) rfl (E.y rfl rfl (by decide) ((Y.as rfl).yd) ?_)))))
    exact E.nil (E.thn (E.ret (E.thr (F.r1 (Back.refl _ _) rfl rfl () trivial (congrArg Value.bool (by grind [okAcc, atM_get, okVals, List.drop_eq_getElem_cons, List.drop_eq_nil_of_le, List.take_succ_eq_append_getElem, List.take_of_length_le])) (J := _) (.refl _) (.inl rfl)))))
theorem t_impl_matches {a_l : Option Addr} {m_l c_l : Nat} {l : List (Int × List Int × Int × Int × Int)} {a_facts : Option Addr} {m_facts c_facts : Nat} {facts : List (Int × List Int)} {a_Method : Int} {a_a_Values : Option Addr} {m_a_Values c_a_Values : Nat} {a_Values : List Int} (hma : 0 ≤ a_Method ∧ a_Method.toNat < l.length) (hv : (atM l a_Method).2.1.length ≤ a_Values.length) (hif : ∀ f ∈ facts, f.1 = (atM l a_Method).1 → ∀ i ∈ (atM l a_Method).2.1, 0 ≤ i ∧ i < f.2.length) (hfl : facts.length ≤ 1048576) (hfe : ∀ f ∈ facts, f.2.length ≤ 1048576) : Tr Tryz.prog 155 [.slice a_l m_l c_l, .slice a_facts m_facts c_facts, .agg #[.int .i64 a_Method, .slice a_a_Values m_a_Values c_a_Values]] (fun w L => Ro w L eMethods [.slice a_l m_l c_l] l ∧ Ro w L eFacts [.slice a_facts m_facts c_facts] facts ∧ I64 a_Method ∧ Ro w L eIs [.slice a_a_Values m_a_Values c_a_Values] a_Values) [] (κ := Option Addr × Nat × Nat) (fun k => True) (fun k => .slice k.1 k.2.1 k.2.2) (fun k => [ow eFacts [.slice k.1 k.2.1 k.2.2] (facts.filter (fitsF (atM l a_Method) a_Values))]) := by
  refine Tr.intro Tryz.func155 rfl (n := 17) rfl (by decide +kernel) (Nat.le_of_ble_eq_true rfl) (fr := [(0, .slice a_l m_l c_l), (1, .slice a_facts m_facts c_facts), (2, .agg #[.int .i64 a_Method, .slice a_a_Values m_a_Values c_a_Values])]) rfl fun w L hR => ?_
  obtain ⟨hl, hfacts, i6a_Method, ha_Values⟩ := hR
  obtain ⟨rfl, ll⟩ := hl.slen
  obtain ⟨rfl, lfacts⟩ := hfacts.slen
  obtain ⟨rfl, la_Values⟩ := ha_Values.slen
  rw [atM_get hma.2] at hv hif
  refine E.seq (E.region (l := [0, 1]) rfl (E.st rfl rfl (N.box (cs := [_, _]) rfl (by decide) rfl) (fun b5 _ => ?_)))
  refine E.y rfl rfl (by decide) ((Y.as rfl).yd) ?_
  refine E.nil (E.thn (E.seq (E.region (l := [0, 1, 2, 3, 4, 5, 6]) rfl (E.y rfl rfl (by decide) ((Y.mv rfl).yd) ?_))))
  refine E.y rfl rfl (by decide) ((Y.fld fo_Access_0 ty_I (by decide) rfl).yd) ?_
  refine E.y rfl rfl (by decide) (Y.ld1 ty_I rfl ((Has.pt m0).sub (cs' := [_]) 0 rfl) rfl) ?_
  obtain ⟨eb11, eo11, ec11, ea11, er11, el11, eh11⟩ := hl.elem a_Method.toNat (by omega)
  obtain ⟨xa11_0, xc11_0, rfl, ei11_0, xh11_0, ei11_2, ei11_3, ei11_4⟩ := Ro.pMethod er11
  have := xh11_0.slen.2
  refine E.y rfl rfl (by decide) ((Y.ix us_Methods ty_Method rfl ea11 rfl a_Method.toNat (by omega) (by omega)).yd) ?_
  refine E.y rfl rfl (by decide) (Y.ldS (cs := [_, _, _, _, _]) ty_Method rfl (eh11 _) rfl) ?_
  refine E.st rfl rfl (N.alloc ty_Method (by decide)) (fun b7 _ => ?_)
  refine E.st rfl rfl (N.sto (vs := [_, _, _, _, _]) (cs' := [_, _, _, _, _]) ty_Method rfl rfl rfl rfl rfl (Nat.le_of_ble_eq_true rfl) rfl) (fun _ _ => ?_)
  refine E.nil (E.thn (E.seq (E.region (l := [0, 1, 2, 3, 4]) rfl (E.y rfl rfl (by decide) ((Y.mv rfl).yd) ?_))))
  refine E.st rfl rfl (N.call (t_impl_copyFacts (by first | omega | assumption) hfe) rfl rfl rfl (by decide) rfl (fun w Lp hA => hA.ro hfacts)) (fun k14 _ => ?_)
  obtain ⟨a14, m14, c14⟩ := k14
  refine Ent.lenow m0 fun e14 l14 => ?_
  subst e14
  refine E.y rfl rfl (by decide) ((Y.fn (vs := [_, _]) rfl).yd) ?_
  refine E.st rfl rfl (N.call (pre := [_]) (t_DeleteFunc_Fact (del := (fun z => !fitsF l[a_Method.toNat] a_Values z)) (D_del := (fun z => (l[a_Method.toNat].2.1.length ≤ a_Values.length) ∧ (z.1 = l[a_Method.toNat].1 → ∀ i ∈ l[a_Method.toNat].2.1, 0 ≤ i ∧ i < z.2.length))) (by exact fun f hf => ⟨hv, hif f hf⟩)) rfl rfl rfl (by decide) rfl (fun w Lp hA => FnP.ofFact (RR := fun w L => RoPt w L b7 [.int .i64 l[a_Method.toNat].1, .slice xa11_0 l[a_Method.toNat].2.1.length xc11_0, .int .i64 l[a_Method.toNat].2.2.1, .int .i64 l[a_Method.toNat].2.2.2.1, .int .i64 l[a_Method.toNat].2.2.2.2] ∧ I64 l[a_Method.toNat].1 ∧ Ro w L eIs [.slice xa11_0 l[a_Method.toNat].2.1.length xc11_0] l[a_Method.toNat].2.1 ∧ I64 l[a_Method.toNat].2.2.1 ∧ I64 l[a_Method.toNat].2.2.2.1 ∧ I64 l[a_Method.toNat].2.2.2.2 ∧ RoPt w L b5 [.int .i64 a_Method, .slice a_a_Values a_Values.length c_a_Values] ∧ I64 a_Method ∧ Ro w L eIs [.slice a_a_Values a_Values.length c_a_Values] a_Values) (D := (fun z => (l[a_Method.toNat].2.1.length ≤ a_Values.length) ∧ (z.1 = l[a_Method.toNat].1 → ∀ i ∈ l[a_Method.toNat].2.1, 0 ≤ i ∧ i < z.2.length))) (fun hd => t_impl_matches_1 hd.1 hd.2) (fun w' hk => ⟨(hA.pt m0).keep hk, ei11_0, (hA.ro xh11_0).keep hk, ei11_2, ei11_3, ei11_4, (hA.pt (mS m0)).keep hk, i6a_Method, (hA.ro ha_Values).keep hk⟩))) (fun k16 _ => ?_)
  obtain ⟨a16, m16, c16⟩ := k16
  refine Ent.lenow m0 fun e16 l16 => ?_
  subst e16
  refine E.y rfl rfl (by decide) ((Y.as rfl).yd) ?_
  refine E.nil (E.thn (E.ret (Ent.cv (congrArg (ow eFacts [_]) (show _ = facts.filter (fitsF (atM l a_Method) a_Values) by rw [atM_get hma.2]; exact filter_nn)) ?_)))
  exact F.r1 (Back.refl _ _) rfl rfl (_, _, _) trivial rfl (J := _) (.refl _) (.inl rfl)
theorem t_spec_l14Rule {a_rules : Option Addr} {m_rules c_rules : Nat} {rules : List (Int × Int × List Int)} {a_facts : Option Addr} {m_facts c_facts : Nat} {facts : List (Int × List Int)} {f_Rel : Int} {a_f_Values : Option Addr} {m_f_Values c_f_Values : Nat} {f_Values : List Int} (hr : ∀ r ∈ rules, ∀ f ∈ facts, f.1 = r.1 → ∀ x ∈ r.2.2, 0 ≤ x ∧ x < f.2.length) (hrl : ∀ r ∈ rules, r.2.2.length ≤ 1048576) : Tr Tryz.prog 74 [.slice a_rules m_rules c_rules, .slice a_facts m_facts c_facts, .agg #[.int .i64 f_Rel, .slice a_f_Values m_f_Values c_f_Values]] (fun w L => Ro w L eRules [.slice a_rules m_rules c_rules] rules ∧ Ro w L eFacts [.slice a_facts m_facts c_facts] facts ∧ I64 f_Rel ∧ Ro w L eIs [.slice a_f_Values m_f_Values c_f_Values] f_Values) [] (κ := Unit) (fun k => True) (fun k => .int .i64 (ruleK rules facts (f_Rel, f_Values))) (fun k => []) := by
  refine Tr.intro Tryz.func74 rfl (n := 47) rfl (by decide +kernel) (Nat.le_of_ble_eq_true rfl) (fr := [(0, .slice a_rules m_rules c_rules), (1, .slice a_facts m_facts c_facts), (2, .agg #[.int .i64 f_Rel, .slice a_f_Values m_f_Values c_f_Values])]) rfl fun w L hR => ?_
  obtain ⟨hrules, hfacts, i6f_Rel, hf_Values⟩ := hR
  obtain ⟨rfl, lrules⟩ := hrules.slen
  obtain ⟨rfl, lfacts⟩ := hfacts.slen
  obtain ⟨rfl, lf_Values⟩ := hf_Values.slen
  refine E.seq (E.region (l := [0, 1]) rfl (E.st rfl rfl (N.box (cs := [_, _]) rfl (by decide) rfl) (fun b5 _ => ?_)))
  refine E.y rfl rfl (by decide) ((Y.as rfl).yd) ?_
  refine E.nil (E.thn (E.seq (E.seq (E.region (l := [0]) rfl (E.y rfl rfl (by decide) ((Y.as rfl).yd) ?_)))))
  refine E.nil (E.thn (E.block (E.loop (κ := Nat) (fun g => g ≤ rules.length ∧ ∀ x ∈ rules.take g, givR facts (f_Rel, f_Values) x = false) (fun g => [(0, .slice a_rules rules.length c_rules), (1, .slice a_facts facts.length c_facts), (5, .pointer (some ⟨b5, 0, none⟩)), (7, .int .i64 (↑g : Int))]) (fun g => [pt b5 44 [.int .i64 f_Rel, .slice a_f_Values f_Values.length c_f_Values]]) (fun g => rules.length - g) 0 ⟨Nat.zero_le _, by simp⟩ ⟨rfl, rfl, rfl, rfl, trivial⟩ (.refl _) (fun g pg => ?_))))
  obtain ⟨pk, pa⟩ := pg
  have po := pa
  refine E.seq (E.seq (E.region (l := [0, 1, 2, 3]) rfl (E.y rfl rfl (by decide) ((Y.mv rfl).yd) ?_)))
  refine E.y rfl rfl (by decide) ((Y.mv rfl).yd) ?_
  refine E.y rfl rfl (by decide) ((Y.len us_Rules rfl).yd) ?_
  refine E.y rfl rfl (by decide) ((Y.lss rfl rfl).yd) (Ent.d (fun q12 => ?_) (fun q12 => ?_))
  · refine E.nil (E.thn (E.ct rfl (E.skipc (E.thn (E.seq (E.block (E.seq (E.region (l := [0]) rfl (E.y rfl rfl (by decide) ((Y.as rfl).yd) ?_)))))))))
    refine E.nil (E.thn (E.block (E.loop (κ := Nat) (fun h => h ≤ facts.length ∧ facts.any (givB rules[g] (f_Rel, f_Values)) = (facts.drop h).any (givB rules[g] (f_Rel, f_Values))) (fun h => [(0, .slice a_rules rules.length c_rules), (1, .slice a_facts facts.length c_facts), (5, .pointer (some ⟨b5, 0, none⟩)), (7, .int .i64 (↑g : Int)), (8, .int .i64 (↑h : Int))]) (fun h => [pt b5 44 [.int .i64 f_Rel, .slice a_f_Values f_Values.length c_f_Values]]) (fun h => facts.length - h) 0 ⟨Nat.zero_le _, by simp⟩ ⟨rfl, rfl, rfl, rfl, rfl, trivial⟩ (.refl _) (fun h ph => ?_))))
    obtain ⟨pk, pa⟩ := ph
    refine E.seq (E.seq (E.region (l := [0, 1, 2, 3]) rfl (E.y rfl rfl (by decide) ((Y.mv rfl).yd) ?_)))
    refine E.y rfl rfl (by decide) ((Y.mv rfl).yd) ?_
    refine E.y rfl rfl (by decide) ((Y.len us_Facts rfl).yd) ?_
    refine E.y rfl rfl (by decide) ((Y.lss rfl rfl).yd) (Ent.d (fun q18 => ?_) (fun q18 => ?_))
    · refine E.nil (E.thn (E.ct rfl (E.skipc (E.thn (E.seq (E.block (E.seq (D.region (fun j => true) mixed (D.yp 0 rfl rfl (by decide) (Y.mv rfl) (by kernel_rfl) ?_)))))))))
      refine D.yp 1 rfl rfl (by decide) (Y.mv rfl) (by kernel_rfl) ?_
      obtain ⟨eb23, eo23, ec23, ea23, er23, el23, eh23⟩ := hfacts.elem h (by omega)
      obtain ⟨xa23_0, xc23_0, rfl, ei23_0, xh23_0⟩ := Ro.pFact er23
      have := xh23_0.slen.2
      refine D.yp 2 rfl rfl (by decide) (Y.ix us_Facts ty_Fact rfl ea23 rfl h rfl (by omega)) (by kernel_rfl) ?_
      refine D.yp 3 rfl rfl (by decide) (Y.fld fo_Fact_0 ty_I (by decide) rfl) (by kernel_rfl) ?_
      refine D.y 4 rfl rfl (by decide) (Y.ld1 ty_I rfl ((eh23 _).sub (cs' := [_]) 0 rfl) rfl) (by kernel_rfl) ?_
      refine D.yp 5 rfl rfl (by decide) (Y.mv rfl) (by kernel_rfl) ?_
      refine D.yp 6 rfl rfl (by decide) (Y.mv rfl) (by kernel_rfl) ?_
      obtain ⟨eb28, eo28, ec28, ea28, er28, el28, eh28⟩ := hrules.elem g (by omega)
      obtain ⟨xa28_0, xc28_0, rfl, ei28_0, ei28_1, xh28_0⟩ := Ro.pRule er28
      have := xh28_0.slen.2
      refine D.yp 7 rfl rfl (by decide) (Y.ix us_Rules ty_Rule rfl ea28 rfl g rfl (by omega)) (by kernel_rfl) ?_
      refine D.yp 8 rfl rfl (by decide) (Y.fld fo_Rule_0 ty_I (by decide) rfl) (by kernel_rfl) ?_
      refine D.y 9 rfl rfl (by decide) (Y.ld1 ty_I rfl ((eh28 _).sub (cs' := [_]) 0 rfl) rfl) (by kernel_rfl) ?_
      refine D.yp 10 rfl rfl (by decide) (Y.eql rfl rfl) (by kernel_rfl) (Ent.d (fun q31 => ?_) (fun q31 => ?_))
      · refine D.yp 11 rfl rfl (by decide) (Y.mv rfl) (by kernel_rfl) ?_
        refine D.yp 12 rfl rfl (by decide) (Y.mv rfl) (by kernel_rfl) ?_
        refine D.yp 13 rfl rfl (by decide) (Y.mv rfl) (by kernel_rfl) ?_
        refine D.yp 14 rfl rfl (by decide) (Y.ix us_Rules ty_Rule rfl ea28 rfl g rfl (by omega)) (by kernel_rfl) ?_
        refine D.y 15 rfl rfl (by decide) (Y.ldS (cs := [_, _, _]) ty_Rule rfl (eh28 _) rfl) (by kernel_rfl) ?_
        refine D.yp 16 rfl rfl (by decide) (Y.mv rfl) (by kernel_rfl) ?_
        refine D.yp 17 rfl rfl (by decide) (Y.mv rfl) (by kernel_rfl) ?_
        refine D.yp 18 rfl rfl (by decide) (Y.ix us_Facts ty_Fact rfl ea23 rfl h rfl (by omega)) (by kernel_rfl) ?_
        refine D.y 19 rfl rfl (by decide) (Y.ldS (cs := [_, _]) ty_Fact rfl (eh23 _) rfl) (by kernel_rfl) ?_
        refine D.y 21 rfl rfl (by decide) (Y.ldS (cs := [_, _]) ty_Fact rfl (Has.pt m0) rfl) (by kernel_rfl) ?_
        refine D.st 20 rfl rfl (by kernel_rfl) (fun _ => rfl) (N.call (t_spec_l13Apply (hr _ (List.getElem_mem (by omega)) _ (List.getElem_mem (by omega)) (by omega)) (hrl _ (List.getElem_mem (by omega)))) rfl rfl rfl (by decide) rfl (fun w Lp hA => ⟨ei28_0, ei28_1, hA.ro xh28_0, ei23_0, hA.ro xh23_0⟩)) (fun k41 _ => ?_)
        obtain ⟨a41, m41, c41⟩ := k41
        refine Ent.lenow m0 fun e41 l41 => ?_
        subst e41
        refine D.st 22 rfl rfl (by kernel_rfl) (fun _ => rfl) (N.call0 t_spec_CompareFacts rfl rfl rfl (by decide) (fun w Lp hA => ⟨ei28_1, hA.ow m0, i6f_Rel, hA.ro hf_Values⟩)) (fun _ _ => ?_)
        refine D.yp 23 rfl rfl (by decide) (Y.eql rfl rfl) (by kernel_rfl) (Ent.d (fun q44 => ?_) (fun q44 => ?_))
        · refine D.yp 24 rfl rfl (by decide) (Y.pkt rfl rfl) (by kernel_rfl) ?_
          refine D.done (by kernel_rfl) (E.thn (E.ct rfl (E.seq (E.region (l := [0, 1]) rfl (E.y rfl rfl (by decide) ((Y.mv rfl).yd) ?_)))))
          refine E.y rfl rfl (by decide) ((Y.as rfl).yd) ?_
          exact E.nil (E.thn (E.ret (E.blr (E.thr (E.thr (E.blr (E.blr (E.thr (E.thr (E.blr (E.thr (F.r1 (Back.refl _ _) rfl rfl () trivial (congrArg (Value.int .i64) (by first | exact ruleK_hit (h := h) po (by omega) (by omega) (by omega) (by first | assumption | grind) | exact ruleK_miss po (by omega))) (J := _) (.refl _) (.inl rfl)))))))))))))
        · refine D.yp 24 rfl rfl (by decide) (Y.pkt rfl rfl) (by kernel_rfl) ?_
          refine D.done (by kernel_rfl) (E.thn (E.cf rfl (E.skipc (E.bln (E.thn (E.region (l := [0, 1, 2]) rfl (E.y rfl rfl (by decide) ((Y.mv rfl).yd) ?_)))))))
          refine E.y rfl rfl (by decide) ((Y.add rfl rfl (by omega) (by omega)).yd) ?_
          refine E.y rfl rfl (by decide) ((Y.as rfl).yd) ?_
          refine E.nil (E.thn (Ent.drop ?_))
          exact E.again (Back.refl _ _) (h + 1) ⟨rfl, rfl, rfl, rfl, rfl, trivial⟩ (.refl _) ⟨by omega, by grind [givB, List.drop_eq_getElem_cons, List.drop_eq_nil_of_le, List.take_succ_eq_append_getElem, List.take_of_length_le]⟩ (by omega)
      · refine D.yp 11 rfl rfl (by decide) (Y.mv rfl) (by kernel_rfl) ?_
        refine D.skip 12 rfl rfl (by kernel_rfl) rfl ?_
        refine D.skip 13 rfl rfl (by kernel_rfl) rfl ?_
        refine D.skip 14 rfl rfl (by kernel_rfl) rfl ?_
        refine D.skip 15 rfl rfl (by kernel_rfl) rfl ?_
        refine D.skip 16 rfl rfl (by kernel_rfl) rfl ?_
        refine D.skip 17 rfl rfl (by kernel_rfl) rfl ?_
        refine D.skip 18 rfl rfl (by kernel_rfl) rfl ?_
        refine D.skip 19 rfl rfl (by kernel_rfl) rfl ?_
        refine D.skip 20 rfl rfl (by kernel_rfl) rfl ?_
        refine D.skip 21 rfl rfl (by kernel_rfl) rfl ?_
        refine D.skip 22 rfl rfl (by kernel_rfl) rfl ?_
        refine D.skip 23 rfl rfl (by kernel_rfl) rfl ?_
        refine D.yp 24 rfl rfl (by decide) (Y.pkf rfl rfl) (by kernel_rfl) ?_
        refine D.done (by kernel_rfl) (E.thn (E.cf rfl (E.skipc (E.bln (E.thn (E.region (l := [0, 1, 2]) rfl (E.y rfl rfl (by decide) ((Y.mv rfl).yd) ?_)))))))
        refine E.y rfl rfl (by decide) ((Y.add rfl rfl (by omega) (by omega)).yd) ?_
        refine E.y rfl rfl (by decide) ((Y.as rfl).yd) ?_
        exact E.nil (E.thn (E.again (Back.refl _ _) (h + 1) ⟨rfl, rfl, rfl, rfl, rfl, trivial⟩ (.refl _) ⟨by omega, by grind [givB, List.drop_eq_getElem_cons, List.drop_eq_nil_of_le, List.take_succ_eq_append_getElem, List.take_of_length_le]⟩ (by omega)))
    · refine E.nil (E.thn (E.cf rfl (E.exit (E.the (E.the (E.blh (E.bln (E.thn (E.region (l := [0, 1, 2]) rfl (E.y rfl rfl (by decide) ((Y.mv rfl).yd) ?_))))))))))
      refine E.y rfl rfl (by decide) ((Y.add rfl rfl (by omega) (by omega)).yd) ?_
      refine E.y rfl rfl (by decide) ((Y.as rfl).yd) ?_
      exact E.nil (E.thn (E.again (Back.refl _ _) (g + 1) ⟨rfl, rfl, rfl, rfl, trivial⟩ (.refl _) ⟨by omega, by exact take_step (by omega) po (by grind [givR, givB])⟩ (by omega)))
  · refine E.nil (E.thn (E.cf rfl (E.exit (E.the (E.the (E.blh (E.thn (E.seq (E.region (l := [0]) rfl (E.y rfl rfl (by decide) ((Y.as rfl).yd) ?_))))))))))
    exact E.nil (E.thn (E.ret (F.r1 (Back.refl _ _) rfl rfl () trivial (congrArg (Value.int .i64) (by first | exact ruleK_hit (h := h) po (by omega) (by omega) (by omega) (by first | assumption | grind) | exact ruleK_miss po (by omega))) (J := _) (.refl _) (.inl rfl))))
theorem t_impl_Line_holds_1_1 {y_Rule : Int} {y_Access_Method : Int} {a_y_Access_Values : Option Addr} {m_y_Access_Values c_y_Access_Values : Nat} {y_Access_Values : List Int} {y_Fact_Rel : Int} {a_y_Fact_Values : Option Addr} {m_y_Fact_Values c_y_Fact_Values : Nat} {y_Fact_Values : List Int} {b_v : Nat} {v : Int} : Tr Tryz.prog 150 [.agg #[.int .i64 y_Rule, .int .i64 y_Access_Method, .slice a_y_Access_Values m_y_Access_Values c_y_Access_Values, .int .i64 y_Fact_Rel, .slice a_y_Fact_Values m_y_Fact_Values c_y_Fact_Values], .pointer (some ⟨b_v, 0, none⟩)] (fun w L => (I64 y_Rule ∧ I64 y_Access_Method ∧ Ro w L eIs [.slice a_y_Access_Values m_y_Access_Values c_y_Access_Values] y_Access_Values ∧ I64 y_Fact_Rel ∧ Ro w L eIs [.slice a_y_Fact_Values m_y_Fact_Values c_y_Fact_Values] y_Fact_Values) ∧ RoPt w L b_v [.int .i64 v]) [] (κ := Unit) (fun k => True) (fun k => .bool (hasI y_Fact_Values v)) (fun k => []) := by
  refine Tr.intro Tryz.func150 rfl (n := 9) rfl (by decide +kernel) (Nat.le_of_ble_eq_true rfl) (fr := [(0, .agg #[.int .i64 y_Rule, .int .i64 y_Access_Method, .slice a_y_Access_Values m_y_Access_Values c_y_Access_Values, .int .i64 y_Fact_Rel, .slice a_y_Fact_Values m_y_Fact_Values c_y_Fact_Values]), (1, .pointer (some ⟨b_v, 0, none⟩))]) rfl fun w L hR => ?_
  obtain ⟨⟨i6y_Rule, i6y_Access_Method, hy_Access_Values, i6y_Fact_Rel, hy_Fact_Values⟩, hb_v⟩ := hR
  obtain ⟨rfl, ly_Access_Values⟩ := hy_Access_Values.slen
  obtain ⟨rfl, ly_Fact_Values⟩ := hy_Fact_Values.slen
  refine E.seq (E.region (l := [0, 1]) rfl (E.st rfl rfl (N.box (cs := [_, _, _, _, _]) rfl (by decide) rfl) (fun b2 _ => ?_)))
  refine E.y rfl rfl (by decide) ((Y.as rfl).yd) ?_
  refine E.nil (E.thn (E.seq (E.region (l := [0, 1, 2, 3, 4, 5]) rfl (E.y rfl rfl (by decide) ((Y.fld fo_Line_2 ty_Fact (by decide) rfl).yd) ?_))))
  refine E.y rfl rfl (by decide) ((Y.fld fo_Fact_1 ty_Is (by decide) rfl).yd) ?_
  refine E.y rfl rfl (by decide) (Y.ld1 ty_Is rfl (((Has.pt m0).sub (cs' := [_, _]) 3 rfl).sub (cs' := [_]) 1 rfl) rfl) ?_
  refine E.y rfl rfl (by decide) (Y.ld1 ty_I rfl (hb_v.has) rfl) ?_
  refine E.st rfl rfl (N.call0 t_slices_Contains_int_int rfl rfl rfl (by decide) (fun w Lp hA => hA.ro hy_Fact_Values)) (fun _ _ => ?_)
  refine E.y rfl rfl (by decide) ((Y.as rfl).yd) ?_
  exact E.nil (E.thn (E.ret (F.r1 (Back.refl _ _) rfl rfl () trivial rfl (J := _) (.refl _) (.inl rfl))))
theorem t_impl_Line_holds_1 {v : Int} {b_seeds : Nat} {a_seeds : Option Addr} {m_seeds c_seeds : Nat} {seeds : List Int} {b_before : Nat} {a_before : Option Addr} {m_before c_before : Nat} {before : List (Int × (Int × List Int) × Int × List Int)} : Tr Tryz.prog 147 [.int .i64 v, .pointer (some ⟨b_seeds, 0, none⟩), .pointer (some ⟨b_before, 0, none⟩)] (fun w L => (I64 v) ∧ RoPt w L b_seeds [.slice a_seeds m_seeds c_seeds] ∧ Ro w L eIs [.slice a_seeds m_seeds c_seeds] seeds ∧ RoPt w L b_before [.slice a_before m_before c_before] ∧ Ro w L eLines [.slice a_before m_before c_before] before) [] (κ := Unit) (fun k => True) (fun k => .bool (knownV seeds before v)) (fun k => []) := by
  refine Tr.intro Tryz.func147 rfl (n := 13) rfl (by decide +kernel) (Nat.le_of_ble_eq_true rfl) (fr := [(0, .int .i64 v), (1, .pointer (some ⟨b_seeds, 0, none⟩)), (2, .pointer (some ⟨b_before, 0, none⟩))]) rfl fun w L hR => ?_
  obtain ⟨i6v, hb_seeds, hseeds, hb_before, hbefore⟩ := hR
  obtain ⟨rfl, lseeds⟩ := hseeds.slen
  obtain ⟨rfl, lbefore⟩ := hbefore.slen
  refine E.seq (E.region (l := [0, 1]) rfl (E.st rfl rfl (N.box (cs := [_]) rfl (by decide) rfl) (fun b3 _ => ?_)))
  refine E.y rfl rfl (by decide) ((Y.as rfl).yd) ?_
  refine E.nil (E.thn (E.seq (E.region (l := [0, 1, 2, 3, 4, 5, 6, 7, 8]) rfl (E.y rfl rfl (by decide) (Y.ld1 ty_Is rfl (hb_seeds.has) rfl) ?_))))
  refine E.y rfl rfl (by decide) (Y.ld1 ty_I rfl (Has.pt m0) rfl) ?_
  refine E.st rfl rfl (N.call0 t_slices_Contains_int_int rfl rfl rfl (by decide) (fun w Lp hA => hA.ro hseeds)) (fun _ _ => (Ent.b (fun q7 => ?_) (fun q7 => ?_)))
  · refine E.y rfl rfl (by decide) ((Y.mv rfl).yd) ?_
    refine E.skip rfl rfl rfl ?_
    refine E.skip rfl rfl rfl ?_
    refine E.skip rfl rfl rfl ?_
    refine E.y rfl rfl (by decide) ((Y.pkt rfl rfl).yd) ?_
    refine E.y rfl rfl (by decide) ((Y.as rfl).yd) ?_
    exact E.nil (E.thn (E.ret (F.r1 (Back.refl _ _) rfl rfl () trivial (congrArg Value.bool (by grind [knownV, List.drop_eq_getElem_cons, List.drop_eq_nil_of_le, List.take_succ_eq_append_getElem, List.take_of_length_le])) (J := _) (.refl _) (.inl rfl))))
  · refine E.y rfl rfl (by decide) ((Y.mv rfl).yd) ?_
    refine E.y rfl rfl (by decide) (Y.ld1 ty_Lines rfl (hb_before.has) rfl) ?_
    refine E.y rfl rfl (by decide) ((Y.fn (vs := [_]) rfl).yd) ?_
    refine E.st rfl rfl (N.call0 (t_ContainsFunc_Line (f := (fun z => hasI z.2.2.2 v)) (D_f := (fun _ => True)) (by intros; exact trivial)) rfl rfl rfl (by decide) (fun w Lp hA => ⟨hA.ro hbefore, FnP.ofLine (D := (fun _ => True)) (fun hd => t_impl_Line_holds_1_1) (fun w' hk => (hA.pt m0).keep hk)⟩)) (fun _ _ => ?_)
    refine E.y rfl rfl (by decide) ((Y.pkf rfl rfl).yd) ?_
    refine E.y rfl rfl (by decide) ((Y.as rfl).yd) ?_
    exact E.nil (E.thn (E.ret (F.r1 (Back.refl _ _) rfl rfl () trivial (congrArg Value.bool (by grind [knownV, List.drop_eq_getElem_cons, List.drop_eq_nil_of_le, List.take_succ_eq_append_getElem, List.take_of_length_le])) (J := _) (.refl _) (.inl rfl))))
theorem t_impl_Line_holds_2 {v : Int} {b_known : Nat} {known_g : FuncId} {known_c : List Value} {known : Int → Bool} : Tr Tryz.prog 153 [.int .i64 v, .pointer (some ⟨b_known, 0, none⟩)] (fun w L => (I64 v) ∧ RoPt w L b_known [.func (.func known_g) #[] known_c.toArray] ∧ FnP Tryz.prog w L known_g known_c Enc.int val1 (fun _ => True) known) [] (κ := Unit) (fun k => True) (fun k => .bool (!known v)) (fun k => []) := by
  refine Tr.intro Tryz.func153 rfl (n := 8) rfl (by decide +kernel) (Nat.le_of_ble_eq_true rfl) (fr := [(0, .int .i64 v), (1, .pointer (some ⟨b_known, 0, none⟩))]) rfl fun w L hR => ?_
  obtain ⟨i6v, hb_known, hknown⟩ := hR
  refine E.seq (E.region (l := [0]) rfl (E.y rfl rfl (by decide) ((Y.as rfl).yd) ?_))
  refine E.nil (E.thn (E.seq (E.region (l := [0, 1, 2, 3, 4]) rfl (E.y rfl rfl (by decide) (Y.ld1 ty_F rfl (hb_known.has) rfl) ?_))))
  refine E.y rfl rfl (by decide) ((Y.mv rfl).yd) ?_
  refine E.st rfl rfl (N.fn (cs := [_]) hknown rfl rfl rfl (by decide) (fun w Lp hA => Ro.mkint i6v) trivial) (fun _ _ => ?_)
  refine E.y rfl rfl (by decide) ((Y.not rfl).yd) ?_
  refine E.y rfl rfl (by decide) ((Y.as rfl).yd) ?_
  exact E.nil (E.thn (E.ret (F.r1 (Back.refl _ _) rfl rfl () trivial (congrArg Value.bool (by grind [List.drop_eq_getElem_cons, List.drop_eq_nil_of_le, List.take_succ_eq_append_getElem, List.take_of_length_le])) (J := _) (.refl _) (.inl rfl))))
theorem t_impl_Line_holds_3 {y_Rule : Int} {y_Access_Method : Int} {a_y_Access_Values : Option Addr} {m_y_Access_Values c_y_Access_Values : Nat} {y_Access_Values : List Int} {y_Fact_Rel : Int} {a_y_Fact_Values : Option Addr} {m_y_Fact_Values c_y_Fact_Values : Nat} {y_Fact_Values : List Int} {b_s : Nat} {a_s : Option Addr} {m_s c_s : Nat} {s : List Int} {b_rules : Nat} {a_rules : Option Addr} {m_rules c_rules : Nat} {rules : List (Int × Int × List Int)} {b_x : Nat} {x_Rule : Int} {x_Access_Method : Int} {a_x_Access_Values : Option Addr} {m_x_Access_Values c_x_Access_Values : Nat} {x_Access_Values : List Int} {x_Fact_Rel : Int} {a_x_Fact_Values : Option Addr} {m_x_Fact_Values c_x_Fact_Values : Nat} {x_Fact_Values : List Int} (hx : 0 ≤ x_Rule ∧ x_Rule.toNat < rules.length) : Tr Tryz.prog 156 [.agg #[.int .i64 y_Rule, .int .i64 y_Access_Method, .slice a_y_Access_Values m_y_Access_Values c_y_Access_Values, .int .i64 y_Fact_Rel, .slice a_y_Fact_Values m_y_Fact_Values c_y_Fact_Values], .pointer (some ⟨b_s, 0, none⟩), .pointer (some ⟨b_rules, 0, none⟩), .pointer (some ⟨b_x, 0, none⟩)] (fun w L => (I64 y_Rule ∧ I64 y_Access_Method ∧ Ro w L eIs [.slice a_y_Access_Values m_y_Access_Values c_y_Access_Values] y_Access_Values ∧ I64 y_Fact_Rel ∧ Ro w L eIs [.slice a_y_Fact_Values m_y_Fact_Values c_y_Fact_Values] y_Fact_Values) ∧ RoPt w L b_s [.slice a_s m_s c_s] ∧ Ro w L eIs [.slice a_s m_s c_s] s ∧ RoPt w L b_rules [.slice a_rules m_rules c_rules] ∧ Ro w L eRules [.slice a_rules m_rules c_rules] rules ∧ RoPt w L b_x [.int .i64 x_Rule, .int .i64 x_Access_Method, .slice a_x_Access_Values m_x_Access_Values c_x_Access_Values, .int .i64 x_Fact_Rel, .slice a_x_Fact_Values m_x_Fact_Values c_x_Fact_Values] ∧ I64 x_Rule ∧ I64 x_Access_Method ∧ Ro w L eIs [.slice a_x_Access_Values m_x_Access_Values c_x_Access_Values] x_Access_Values ∧ I64 x_Fact_Rel ∧ Ro w L eIs [.slice a_x_Fact_Values m_x_Fact_Values c_x_Fact_Values] x_Fact_Values) [] (κ := Unit) (fun k => True) (fun k => .bool (rulB s (atR rules x_Rule) (x_Fact_Rel, x_Fact_Values) (y_Fact_Rel, y_Fact_Values))) (fun k => []) := by
  refine Tr.intro Tryz.func156 rfl (n := 28) rfl (by decide +kernel) (Nat.le_of_ble_eq_true rfl) (fr := [(0, .agg #[.int .i64 y_Rule, .int .i64 y_Access_Method, .slice a_y_Access_Values m_y_Access_Values c_y_Access_Values, .int .i64 y_Fact_Rel, .slice a_y_Fact_Values m_y_Fact_Values c_y_Fact_Values]), (1, .pointer (some ⟨b_s, 0, none⟩)), (2, .pointer (some ⟨b_rules, 0, none⟩)), (3, .pointer (some ⟨b_x, 0, none⟩))]) rfl fun w L hR => ?_
  obtain ⟨⟨i6y_Rule, i6y_Access_Method, hy_Access_Values, i6y_Fact_Rel, hy_Fact_Values⟩, hb_s, hs, hb_rules, hrules, hb_x, i6x_Rule, i6x_Access_Method, hx_Access_Values, i6x_Fact_Rel, hx_Fact_Values⟩ := hR
  obtain ⟨rfl, ly_Access_Values⟩ := hy_Access_Values.slen
  obtain ⟨rfl, ly_Fact_Values⟩ := hy_Fact_Values.slen
  obtain ⟨rfl, ls⟩ := hs.slen
  obtain ⟨rfl, lrules⟩ := hrules.slen
  obtain ⟨rfl, lx_Access_Values⟩ := hx_Access_Values.slen
  obtain ⟨rfl, lx_Fact_Values⟩ := hx_Fact_Values.slen
  have jr : I64 (impR s rules[x_Rule.toNat] (y_Fact_Rel, y_Fact_Values)) := impR_I64 (by obtain ⟨_, _, _, _, er, _, _⟩ := hrules.elem x_Rule.toNat hx.2; obtain ⟨_, _, rfl, _, j1, _⟩ := Ro.pRule er; exact j1)
  refine E.seq (E.region (l := [0, 1]) rfl (E.st rfl rfl (N.box (cs := [_, _, _, _, _]) rfl (by decide) rfl) (fun b4 _ => ?_)))
  refine E.y rfl rfl (by decide) ((Y.as rfl).yd) ?_
  refine E.nil (E.thn (E.seq (E.mid (κ := Nat × Option Addr × Nat) (fun _ => True) (fun kM => [(3, .pointer (some ⟨b_x, 0, none⟩)), (6, .pointer (some ⟨kM.1, 0, none⟩)), (7, .bool (impB s rules[x_Rule.toNat] (y_Fact_Rel, y_Fact_Values)))]) (fun kM => [pt kM.1 44 [.int .i64 (impR s rules[x_Rule.toNat] (y_Fact_Rel, y_Fact_Values)), .slice kM.2.1 (impV s rules[x_Rule.toNat] (y_Fact_Rel, y_Fact_Values)).length kM.2.2], ow eIs [.slice kM.2.1 (impV s rules[x_Rule.toNat] (y_Fact_Rel, y_Fact_Values)).length kM.2.2] (impV s rules[x_Rule.toNat] (y_Fact_Rel, y_Fact_Values)), pt b4 113 [.int .i64 y_Rule, .int .i64 y_Access_Method, .slice a_y_Access_Values y_Access_Values.length c_y_Access_Values, .int .i64 y_Fact_Rel, .slice a_y_Fact_Values y_Fact_Values.length c_y_Fact_Values]]) ?_ (fun kM _ => ?_))))
  · refine D.region (fun j => !(Nat.beq j 13)) mixed (D.y 0 rfl rfl (by decide) (Y.ld1 ty_Is rfl (hb_s.has) rfl) (by kernel_rfl) ?_)
    refine D.y 1 rfl rfl (by decide) (Y.ld1 ty_Rules rfl (hb_rules.has) rfl) (by kernel_rfl) ?_
    refine D.yp 2 rfl rfl (by decide) (Y.fld fo_Line_0 ty_I (by decide) rfl) (by kernel_rfl) ?_
    refine D.y 3 rfl rfl (by decide) (Y.ld1 ty_I rfl ((hb_x.has).sub (cs' := [_]) 0 rfl) rfl) (by kernel_rfl) ?_
    obtain ⟨eb13, eo13, ec13, ea13, er13, el13, eh13⟩ := hrules.elem x_Rule.toNat (by omega)
    obtain ⟨xa13_0, xc13_0, rfl, ei13_0, ei13_1, xh13_0⟩ := Ro.pRule er13
    have := xh13_0.slen.2
    refine D.yp 4 rfl rfl (by decide) (Y.ix us_Rules ty_Rule rfl ea13 rfl x_Rule.toNat (by omega) (by omega)) (by kernel_rfl) ?_
    refine D.y 5 rfl rfl (by decide) (Y.ldS (cs := [_, _, _]) ty_Rule rfl (eh13 _) rfl) (by kernel_rfl) ?_
    refine D.yp 6 rfl rfl (by decide) (Y.fld fo_Line_2 ty_Fact (by decide) rfl) (by kernel_rfl) ?_
    refine D.y 7 rfl rfl (by decide) (Y.ldS (cs := [_, _]) ty_Fact rfl ((Has.pt m0).sub (cs' := [_, _]) 3 rfl) rfl) (by kernel_rfl) ?_
    refine D.ch2 (i := 8) (j := 12) (by kernel_rfl) ?_ ?_
    · refine D.pk 8 rfl rfl (fun _ => rfl) (N.call t_impl_ImpliedBy rfl rfl rfl (by decide) rfl (fun w Lp hA => ⟨hA.ro hs, ei13_0, ei13_1, hA.ro xh13_0, i6y_Fact_Rel, hA.ro hy_Fact_Values⟩)) (fun k17 _ => ?_)
      obtain ⟨a17, m17, c17⟩ := k17
      refine Ent.lenow m0 fun e17 l17 => ?_
      subst e17
      refine D.yp 9 rfl rfl (by decide) (Y.mv rfl) (by kernel_rfl) ?_
      refine D.yp 10 rfl rfl (by decide) (Y.ext rfl rfl) (by kernel_rfl) ?_
      refine D.yp 11 rfl rfl (by decide) (Y.ext rfl rfl) (by kernel_rfl) ?_
      refine D.st 12 rfl rfl (by kernel_rfl) (fun _ => rfl) (N.alloc ty_Fact (by decide)) (fun b6 _ => ?_)
      refine D.st 13 rfl rfl (by kernel_rfl) (fun h => by cases h) (N.sto (vs := [_, _]) (cs' := [_, _]) ty_Fact rfl rfl rfl rfl rfl (Nat.le_of_ble_eq_true rfl) rfl) (fun _ _ => ?_)
      refine D.yp 14 rfl rfl (by decide) (Y.as rfl) (by kernel_rfl) ?_
      refine D.done (by kernel_rfl) (Ent.p2 ?_)
      refine Ent.p2 ?_
      refine Ent.p2 ?_
      exact E.mdn (b6, a17, c17) trivial ⟨rfl, rfl, rfl, trivial⟩ (.refl _)
    · refine D.pk 12 rfl rfl (fun _ => rfl) (N.alloc ty_Fact (by decide)) (fun b6 _ => ?_)
      refine D.st 8 rfl rfl (by kernel_rfl) (fun _ => rfl) (N.call t_impl_ImpliedBy rfl rfl rfl (by decide) rfl (fun w Lp hA => ⟨hA.ro hs, ei13_0, ei13_1, hA.ro xh13_0, i6y_Fact_Rel, hA.ro hy_Fact_Values⟩)) (fun k17 _ => ?_)
      obtain ⟨a17, m17, c17⟩ := k17
      refine Ent.lenow m0 fun e17 l17 => ?_
      subst e17
      refine D.yp 9 rfl rfl (by decide) (Y.mv rfl) (by kernel_rfl) ?_
      refine D.yp 10 rfl rfl (by decide) (Y.ext rfl rfl) (by kernel_rfl) ?_
      refine D.yp 11 rfl rfl (by decide) (Y.ext rfl rfl) (by kernel_rfl) ?_
      refine Ent.p1 ?_
      refine D.st 13 rfl rfl (by kernel_rfl) (fun h => by cases h) (N.sto (vs := [_, _]) (cs' := [_, _]) ty_Fact rfl rfl rfl rfl rfl (Nat.le_of_ble_eq_true rfl) rfl) (fun _ _ => ?_)
      refine D.yp 14 rfl rfl (by decide) (Y.as rfl) (by kernel_rfl) ?_
      refine D.done (by kernel_rfl) (Ent.p2 ?_)
      refine Ent.p2 ?_
      refine Ent.p2 ?_
      exact E.mdn (b6, a17, c17) trivial ⟨rfl, rfl, rfl, trivial⟩ (.refl _)
  · obtain ⟨b6, a17, c17⟩ := kM
    show Ent _ _ _ [(3, .pointer (some ⟨b_x, 0, none⟩)), (6, .pointer (some ⟨b6, 0, none⟩)), (7, .bool (impB s rules[x_Rule.toNat] (y_Fact_Rel, y_Fact_Values)))] [pt b6 44 [.int .i64 (impR s rules[x_Rule.toNat] (y_Fact_Rel, y_Fact_Values)), .slice a17 (impV s rules[x_Rule.toNat] (y_Fact_Rel, y_Fact_Values)).length c17], ow eIs [.slice a17 (impV s rules[x_Rule.toNat] (y_Fact_Rel, y_Fact_Values)).length c17] (impV s rules[x_Rule.toNat] (y_Fact_Rel, y_Fact_Values)), pt b4 113 [.int .i64 y_Rule, .int .i64 y_Access_Method, .slice a_y_Access_Values y_Access_Values.length c_y_Access_Values, .int .i64 y_Fact_Rel, .slice a_y_Fact_Values y_Fact_Values.length c_y_Fact_Values]] _
    refine E.thn (E.seq (E.region (l := [0, 1, 2, 3, 4, 5, 6, 7, 8]) rfl (E.y rfl rfl (by decide) ((Y.mv rfl).yd) (Ent.b (fun q20 => ?_) (fun q20 => ?_)))))
    · refine E.y rfl rfl (by decide) ((Y.mv rfl).yd) ?_
      refine E.y rfl rfl (by decide) (Y.ldS (cs := [_, _]) ty_Fact rfl (Has.pt m0) rfl) ?_
      refine E.y rfl rfl (by decide) ((Y.fld fo_Line_2 ty_Fact (by decide) rfl).yd) ?_
      refine E.y rfl rfl (by decide) (Y.ldS (cs := [_, _]) ty_Fact rfl ((hb_x.has).sub (cs' := [_, _]) 3 rfl) rfl) ?_
      refine E.st rfl rfl (N.call0 t_impl_CompareFacts rfl rfl rfl (by decide) (fun w Lp hA => ⟨(by first | assumption | (unfold I64; (try dsimp only); omega) | grind), hA.ow (mS m0), i6x_Fact_Rel, hA.ro hx_Fact_Values⟩)) (fun _ _ => ?_)
      refine E.y rfl rfl (by decide) ((Y.eql rfl rfl).yd) ?_
      refine E.y rfl rfl (by decide) ((Y.pkt rfl rfl).yd) ?_
      refine E.y rfl rfl (by decide) ((Y.as rfl).yd) ?_
      exact E.nil (E.thn (E.ret (F.r1 (Back.refl _ _) rfl rfl () trivial (congrArg Value.bool (by grind [rulB, atR_get, List.drop_eq_getElem_cons, List.drop_eq_nil_of_le, List.take_succ_eq_append_getElem, List.take_of_length_le])) (J := _) (.refl _) (.inl rfl))))
    · refine E.y rfl rfl (by decide) ((Y.mv rfl).yd) ?_
      refine E.skip rfl rfl rfl ?_
      refine E.skip rfl rfl rfl ?_
      refine E.skip rfl rfl rfl ?_
      refine E.skip rfl rfl rfl ?_
      refine E.skip rfl rfl rfl ?_
      refine E.y rfl rfl (by decide) ((Y.pkf rfl rfl).yd) ?_
      refine E.y rfl rfl (by decide) ((Y.as rfl).yd) ?_
      exact E.nil (E.thn (E.ret (F.r1 (Back.refl _ _) rfl rfl () trivial (congrArg Value.bool (by grind [rulB, atR_get, List.drop_eq_getElem_cons, List.drop_eq_nil_of_le, List.take_succ_eq_append_getElem, List.take_of_length_le])) (J := _) (.refl _) (.inl rfl))))
theorem t_impl_Line_holds {x_Rule : Int} {x_Access_Method : Int} {a_x_Access_Values : Option Addr} {m_x_Access_Values c_x_Access_Values : Nat} {x_Access_Values : List Int} {x_Fact_Rel : Int} {a_x_Fact_Values : Option Addr} {m_x_Fact_Values c_x_Fact_Values : Nat} {x_Fact_Values : List Int} {a_s : Option Addr} {m_s c_s : Nat} {s : List Int} {a_l : Option Addr} {m_l c_l : Nat} {l : List (Int × List Int × Int × Int × Int)} {a_rules : Option Addr} {m_rules c_rules : Nat} {rules : List (Int × Int × List Int)} {a_facts : Option Addr} {m_facts c_facts : Nat} {facts : List (Int × List Int)} {a_seeds : Option Addr} {m_seeds c_seeds : Nat} {seeds : List Int} {a_before : Option Addr} {m_before c_before : Nat} {before : List (Int × (Int × List Int) × Int × List Int)} (hok : okFacts s facts = true) : Tr Tryz.prog 84 [.agg #[.int .i64 x_Rule, .int .i64 x_Access_Method, .slice a_x_Access_Values m_x_Access_Values c_x_Access_Values, .int .i64 x_Fact_Rel, .slice a_x_Fact_Values m_x_Fact_Values c_x_Fact_Values], .slice a_s m_s c_s, .slice a_l m_l c_l, .slice a_rules m_rules c_rules, .slice a_facts m_facts c_facts, .slice a_seeds m_seeds c_seeds, .slice a_before m_before c_before] (fun w L => I64 x_Rule ∧ I64 x_Access_Method ∧ Ro w L eIs [.slice a_x_Access_Values m_x_Access_Values c_x_Access_Values] x_Access_Values ∧ I64 x_Fact_Rel ∧ Ro w L eIs [.slice a_x_Fact_Values m_x_Fact_Values c_x_Fact_Values] x_Fact_Values ∧ Ro w L eIs [.slice a_s m_s c_s] s ∧ Ro w L eMethods [.slice a_l m_l c_l] l ∧ Ro w L eRules [.slice a_rules m_rules c_rules] rules ∧ Ro w L eFacts [.slice a_facts m_facts c_facts] facts ∧ Ro w L eIs [.slice a_seeds m_seeds c_seeds] seeds ∧ Ro w L eLines [.slice a_before m_before c_before] before) [] (κ := Unit) (fun k => True) (fun k => .bool (holdsL s l rules facts seeds before (x_Rule, (x_Access_Method, x_Access_Values), (x_Fact_Rel, x_Fact_Values)))) (fun k => []) := by
  refine Tr.intro Tryz.func84 rfl (n := 70) rfl (by decide +kernel) (Nat.le_of_ble_eq_true rfl) (fr := [(0, .agg #[.int .i64 x_Rule, .int .i64 x_Access_Method, .slice a_x_Access_Values m_x_Access_Values c_x_Access_Values, .int .i64 x_Fact_Rel, .slice a_x_Fact_Values m_x_Fact_Values c_x_Fact_Values]), (1, .slice a_s m_s c_s), (2, .slice a_l m_l c_l), (3, .slice a_rules m_rules c_rules), (4, .slice a_facts m_facts c_facts), (5, .slice a_seeds m_seeds c_seeds), (6, .slice a_before m_before c_before)]) rfl fun w L hR => ?_
  obtain ⟨i6x_Rule, i6x_Access_Method, hx_Access_Values, i6x_Fact_Rel, hx_Fact_Values, hs, hl, hrules, hfacts, hseeds, hbefore⟩ := hR
  obtain ⟨rfl, lx_Access_Values⟩ := hx_Access_Values.slen
  obtain ⟨rfl, lx_Fact_Values⟩ := hx_Fact_Values.slen
  obtain ⟨rfl, ls⟩ := hs.slen
  obtain ⟨rfl, ll⟩ := hl.slen
  obtain ⟨rfl, lrules⟩ := hrules.slen
  obtain ⟨rfl, lfacts⟩ := hfacts.slen
  obtain ⟨rfl, lseeds⟩ := hseeds.slen
  obtain ⟨rfl, lbefore⟩ := hbefore.slen
  refine E.seq (E.region (l := [0, 1, 2, 3, 4, 5]) rfl (E.st rfl rfl (N.box (cs := [_, _, _, _, _]) rfl (by decide) rfl) (fun b7 _ => ?_)))
  refine E.st rfl rfl (N.box (cs := [_]) rfl (by decide) rfl) (fun b8 _ => ?_)
  refine E.st rfl rfl (N.box (cs := [_]) rfl (by decide) rfl) (fun b10 _ => ?_)
  refine E.st rfl rfl (N.box (cs := [_]) rfl (by decide) rfl) (fun b12 _ => ?_)
  refine E.st rfl rfl (N.box (cs := [_]) rfl (by decide) rfl) (fun b13 _ => ?_)
  refine E.y rfl rfl (by decide) ((Y.as rfl).yd) ?_
  refine E.nil (E.thn (E.seq (E.seq (E.region (l := [0, 1, 2]) rfl (E.y rfl rfl (by decide) ((Y.fld fo_Line_0 ty_I (by decide) rfl).yd) ?_)))))
  refine E.y rfl rfl (by decide) (Y.ld1 ty_I rfl ((Has.pt (mS (mS (mS (mS m0))))).sub (cs' := [_]) 0 rfl) rfl) ?_
  refine E.y rfl rfl (by decide) ((Y.eql rfl rfl).yd) (Ent.d (fun q18 => ?_) (fun q18 => ?_))
  · refine E.nil (E.thn (E.ct rfl (E.seq (E.region (l := [0, 1, 2]) rfl (E.y rfl rfl (by decide) ((Y.fn (vs := [_, _]) rfl).yd) ?_)))))
    refine E.st rfl rfl (N.alloc ty_F (by decide)) (fun b15 _ => ?_)
    refine E.st rfl rfl (N.sto (vs := [_]) (cs' := [_]) ty_F rfl rfl rfl rfl rfl (Nat.le_of_ble_eq_true rfl) rfl) (fun _ _ => ?_)
    refine E.nil (E.thn (E.seq (D.region (fun j => true) mixed (D.y 0 rfl rfl (by decide) (Y.ld1 ty_Is rfl (Has.pt (mS (mS (mS (mS m0))))) rfl) (by kernel_rfl) ?_))))
    refine D.yp 1 rfl rfl (by decide) (Y.mv rfl) (by kernel_rfl) ?_
    refine D.yp 2 rfl rfl (by decide) (Y.fld fo_Line_1 ty_Access (by decide) rfl) (by kernel_rfl) ?_
    refine D.y 3 rfl rfl (by decide) (Y.ldS (cs := [_, _]) ty_Access rfl ((Has.pt (mS (mS (mS (mS (mS m0)))))).sub (cs' := [_, _]) 1 rfl) rfl) (by kernel_rfl) ?_
    refine D.st 4 rfl rfl (by kernel_rfl) (fun _ => rfl) (N.call0 t_impl_IsAccess rfl rfl rfl (by decide) (fun w Lp hA => ⟨hA.ro hs, hA.ro hl, i6x_Access_Method, hA.ro hx_Access_Values⟩)) (fun _ _ => (Ent.b (fun q24 => ?_) (fun q24 => ?_)))
    · have zz := (okAcc_all q24).2.1
      refine D.yp 5 rfl rfl (by decide) (Y.mv rfl) (by kernel_rfl) ?_
      refine D.yp 6 rfl rfl (by decide) (Y.mv rfl) (by kernel_rfl) ?_
      refine D.yp 7 rfl rfl (by decide) (Y.fld fo_Line_1 ty_Access (by decide) rfl) (by kernel_rfl) ?_
      refine D.yp 8 rfl rfl (by decide) (Y.fld fo_Access_0 ty_I (by decide) rfl) (by kernel_rfl) ?_
      refine D.y 9 rfl rfl (by decide) (Y.ld1 ty_I rfl (((Has.pt (mS (mS (mS (mS (mS m0)))))).sub (cs' := [_, _]) 1 rfl).sub (cs' := [_]) 0 rfl) rfl) (by kernel_rfl) ?_
      obtain ⟨eb30, eo30, ec30, ea30, er30, el30, eh30⟩ := hl.elem x_Access_Method.toNat (by omega)
      obtain ⟨xa30_0, xc30_0, rfl, ei30_0, xh30_0, ei30_2, ei30_3, ei30_4⟩ := Ro.pMethod er30
      have := xh30_0.slen.2
      refine D.yp 10 rfl rfl (by decide) (Y.ix us_Methods ty_Method rfl ea30 rfl x_Access_Method.toNat (by omega) (by omega)) (by kernel_rfl) ?_
      refine D.yp 11 rfl rfl (by decide) (Y.fld fo_Method_2 ty_I (by decide) rfl) (by kernel_rfl) ?_
      refine D.y 12 rfl rfl (by decide) (Y.ld1 ty_I rfl ((eh30 _).sub (cs' := [_]) 2 rfl) rfl) (by kernel_rfl) ?_
      refine D.yp 13 rfl rfl (by decide) (Y.eql rfl rfl) (by kernel_rfl) (Ent.d (fun q33 => ?_) (fun q33 => ?_))
      · refine D.yp 14 rfl rfl (by decide) (Y.pkt rfl rfl) (by kernel_rfl) ?_
        refine D.yp 15 rfl rfl (by decide) (Y.mv rfl) (by kernel_rfl) ?_
        refine D.yp 16 rfl rfl (by decide) (Y.fld fo_Line_1 ty_Access (by decide) rfl) (by kernel_rfl) ?_
        refine D.yp 17 rfl rfl (by decide) (Y.fld fo_Access_1 ty_Is (by decide) rfl) (by kernel_rfl) ?_
        refine D.y 18 rfl rfl (by decide) (Y.ld1 ty_Is rfl (((Has.pt (mS (mS (mS (mS (mS m0)))))).sub (cs' := [_, _]) 1 rfl).sub (cs' := [_]) 1 rfl) rfl) (by kernel_rfl) ?_
        refine D.yp 19 rfl rfl (by decide) (Y.fn (vs := [_]) rfl) (by kernel_rfl) ?_
        refine D.st 20 rfl rfl (by kernel_rfl) (fun _ => rfl) (N.call0 (t_ContainsFunc_I (f := (fun v => !(fun v => knownV seeds before v) v)) (D_f := (fun _ => True)) (by intros; exact trivial)) rfl rfl rfl (by decide) (fun w Lp hA => ⟨hA.ro hx_Access_Values, FnP.ofI (D := (fun _ => True)) (fun hd => t_impl_Line_holds_2) (fun w' hk => ⟨(hA.pt m0).keep hk, FnP.keep (FnP.ofI (D := (fun _ => True)) (fun hd => t_impl_Line_holds_1) (fun w' hk => ⟨(hA.pt (mS (mS m0))).keep hk, (hA.ro hseeds).keep hk, (hA.pt (mS m0)).keep hk, (hA.ro hbefore).keep hk⟩)) hk⟩)⟩)) (fun _ _ => (Ent.b (fun q40 => ?_) (fun q40 => ?_)))
        · refine D.yp 21 rfl rfl (by decide) (Y.not (b := true) rfl) (by kernel_rfl) ?_
          refine D.yp 22 rfl rfl (by decide) (Y.pkt rfl rfl) (by kernel_rfl) ?_
          refine D.yp 23 rfl rfl (by decide) (Y.mv rfl) (by kernel_rfl) ?_
          refine D.skip 24 rfl rfl (by kernel_rfl) rfl ?_
          refine D.skip 25 rfl rfl (by kernel_rfl) rfl ?_
          refine D.skip 26 rfl rfl (by kernel_rfl) rfl ?_
          refine D.skip 27 rfl rfl (by kernel_rfl) rfl ?_
          refine D.skip 28 rfl rfl (by kernel_rfl) rfl ?_
          refine D.skip 29 rfl rfl (by kernel_rfl) rfl ?_
          refine D.skip 30 rfl rfl (by kernel_rfl) rfl ?_
          refine D.skip 31 rfl rfl (by kernel_rfl) rfl ?_
          refine D.yp 32 rfl rfl (by decide) (Y.pkf rfl rfl) (by kernel_rfl) ?_
          refine D.yp 33 rfl rfl (by decide) (Y.as rfl) (by kernel_rfl) ?_
          exact D.done (by kernel_rfl) (E.thn (E.ret (E.thr (F.r1 (Back.refl _ _) rfl rfl () trivial (congrArg Value.bool (by grind [holdsL, accL, rulL, atM_get, List.drop_eq_getElem_cons, List.drop_eq_nil_of_le, List.take_succ_eq_append_getElem, List.take_of_length_le])) (J := _) (.refl _) (.inl rfl)))))
        · refine D.yp 21 rfl rfl (by decide) (Y.not (b := false) rfl) (by kernel_rfl) ?_
          refine D.yp 22 rfl rfl (by decide) (Y.pkt rfl rfl) (by kernel_rfl) ?_
          refine D.yp 23 rfl rfl (by decide) (Y.mv rfl) (by kernel_rfl) ?_
          refine D.yp 24 rfl rfl (by decide) (Y.mv rfl) (by kernel_rfl) ?_
          refine D.yp 25 rfl rfl (by decide) (Y.mv rfl) (by kernel_rfl) ?_
          refine D.yp 26 rfl rfl (by decide) (Y.fld fo_Line_1 ty_Access (by decide) rfl) (by kernel_rfl) ?_
          refine D.y 27 rfl rfl (by decide) (Y.ldS (cs := [_, _]) ty_Access rfl ((Has.pt (mS (mS (mS (mS (mS m0)))))).sub (cs' := [_, _]) 1 rfl) rfl) (by kernel_rfl) ?_
          refine D.yp 29 rfl rfl (by decide) (Y.fld fo_Line_2 ty_Fact (by decide) rfl) (by kernel_rfl) ?_
          refine D.y 30 rfl rfl (by decide) (Y.ldS (cs := [_, _]) ty_Fact rfl ((Has.pt (mS (mS (mS (mS (mS m0)))))).sub (cs' := [_, _]) 3 rfl) rfl) (by kernel_rfl) ?_
          refine D.st 28 rfl rfl (by kernel_rfl) (fun _ => rfl) (N.call (t_impl_matches ((okAcc_all (show okAcc s l (x_Access_Method, x_Access_Values) = true from q24)).2.1) ((Nat.le_of_eq (okAcc_all (show okAcc s l (x_Access_Method, x_Access_Values) = true from q24)).2.2.1.symm)) ((acc_in (show okAcc s l (x_Access_Method, x_Access_Values) = true from q24) hok)) ((Nat.le_trans (okFacts_all hok).1 (by decide))) ((fun f hf => Nat.le_trans (okFact_len ((okFacts_all hok).2 f hf)) (by decide)))) rfl rfl rfl (by decide) rfl (fun w Lp hA => ⟨hA.ro hl, hA.ro hfacts, i6x_Access_Method, hA.ro hx_Access_Values⟩)) (fun k48 _ => ?_)
          obtain ⟨a48, m48, c48⟩ := k48
          refine Ent.lenow m0 fun e48 l48 => ?_
          subst e48
          refine D.st 31 rfl rfl (by kernel_rfl) (fun _ => rfl) (N.call0 t_impl_HasFact rfl rfl rfl (by decide) (fun w Lp hA => ⟨hA.ow m0, i6x_Fact_Rel, hA.ro hx_Fact_Values⟩)) (fun _ _ => ?_)
          refine D.yp 32 rfl rfl (by decide) (Y.pkt rfl rfl) (by kernel_rfl) ?_
          refine D.yp 33 rfl rfl (by decide) (Y.as rfl) (by kernel_rfl) ?_
          exact D.done (by kernel_rfl) (E.thn (E.ret (E.thr (F.r1 (Back.refl _ _) rfl rfl () trivial (congrArg Value.bool (by grind [holdsL, accL, rulL, atM_get, List.drop_eq_getElem_cons, List.drop_eq_nil_of_le, List.take_succ_eq_append_getElem, List.take_of_length_le])) (J := _) (.refl _) (.inl rfl)))))
      · refine D.yp 14 rfl rfl (by decide) (Y.pkt rfl rfl) (by kernel_rfl) ?_
        refine D.yp 15 rfl rfl (by decide) (Y.mv rfl) (by kernel_rfl) ?_
        refine D.skip 16 rfl rfl (by kernel_rfl) rfl ?_
        refine D.skip 17 rfl rfl (by kernel_rfl) rfl ?_
        refine D.skip 18 rfl rfl (by kernel_rfl) rfl ?_
        refine D.skip 19 rfl rfl (by kernel_rfl) rfl ?_
        refine D.skip 20 rfl rfl (by kernel_rfl) rfl ?_
        refine D.skip 21 rfl rfl (by kernel_rfl) rfl ?_
        refine D.yp 22 rfl rfl (by decide) (Y.pkf rfl rfl) (by kernel_rfl) ?_
        refine D.yp 23 rfl rfl (by decide) (Y.mv rfl) (by kernel_rfl) ?_
        refine D.skip 24 rfl rfl (by kernel_rfl) rfl ?_
        refine D.skip 25 rfl rfl (by kernel_rfl) rfl ?_
        refine D.skip 26 rfl rfl (by kernel_rfl) rfl ?_
        refine D.skip 27 rfl rfl (by kernel_rfl) rfl ?_
        refine D.skip 28 rfl rfl (by kernel_rfl) rfl ?_
        refine D.skip 29 rfl rfl (by kernel_rfl) rfl ?_
        refine D.skip 30 rfl rfl (by kernel_rfl) rfl ?_
        refine D.skip 31 rfl rfl (by kernel_rfl) rfl ?_
        refine D.yp 32 rfl rfl (by decide) (Y.pkf rfl rfl) (by kernel_rfl) ?_
        refine D.yp 33 rfl rfl (by decide) (Y.as rfl) (by kernel_rfl) ?_
        exact D.done (by kernel_rfl) (E.thn (E.ret (E.thr (F.r1 (Back.refl _ _) rfl rfl () trivial (congrArg Value.bool (by grind [holdsL, accL, rulL, atM_get, List.drop_eq_getElem_cons, List.drop_eq_nil_of_le, List.take_succ_eq_append_getElem, List.take_of_length_le])) (J := _) (.refl _) (.inl rfl)))))
    · refine D.yp 5 rfl rfl (by decide) (Y.mv rfl) (by kernel_rfl) ?_
      refine D.skip 6 rfl rfl (by kernel_rfl) rfl ?_
      refine D.skip 7 rfl rfl (by kernel_rfl) rfl ?_
      refine D.skip 8 rfl rfl (by kernel_rfl) rfl ?_
      refine D.skip 9 rfl rfl (by kernel_rfl) rfl ?_
      refine D.skip 10 rfl rfl (by kernel_rfl) rfl ?_
      refine D.skip 11 rfl rfl (by kernel_rfl) rfl ?_
      refine D.skip 12 rfl rfl (by kernel_rfl) rfl ?_
      refine D.skip 13 rfl rfl (by kernel_rfl) rfl ?_
      refine D.yp 14 rfl rfl (by decide) (Y.pkf rfl rfl) (by kernel_rfl) ?_
      refine D.yp 15 rfl rfl (by decide) (Y.mv rfl) (by kernel_rfl) ?_
      refine D.skip 16 rfl rfl (by kernel_rfl) rfl ?_
      refine D.skip 17 rfl rfl (by kernel_rfl) rfl ?_
      refine D.skip 18 rfl rfl (by kernel_rfl) rfl ?_
      refine D.skip 19 rfl rfl (by kernel_rfl) rfl ?_
      refine D.skip 20 rfl rfl (by kernel_rfl) rfl ?_
      refine D.skip 21 rfl rfl (by kernel_rfl) rfl ?_
      refine D.yp 22 rfl rfl (by decide) (Y.pkf rfl rfl) (by kernel_rfl) ?_
      refine D.yp 23 rfl rfl (by decide) (Y.mv rfl) (by kernel_rfl) ?_
      refine D.skip 24 rfl rfl (by kernel_rfl) rfl ?_
      refine D.skip 25 rfl rfl (by kernel_rfl) rfl ?_
      refine D.skip 26 rfl rfl (by kernel_rfl) rfl ?_
      refine D.skip 27 rfl rfl (by kernel_rfl) rfl ?_
      refine D.skip 28 rfl rfl (by kernel_rfl) rfl ?_
      refine D.skip 29 rfl rfl (by kernel_rfl) rfl ?_
      refine D.skip 30 rfl rfl (by kernel_rfl) rfl ?_
      refine D.skip 31 rfl rfl (by kernel_rfl) rfl ?_
      refine D.yp 32 rfl rfl (by decide) (Y.pkf rfl rfl) (by kernel_rfl) ?_
      refine D.yp 33 rfl rfl (by decide) (Y.as rfl) (by kernel_rfl) ?_
      exact D.done (by kernel_rfl) (E.thn (E.ret (E.thr (F.r1 (Back.refl _ _) rfl rfl () trivial (congrArg Value.bool (by grind [holdsL, accL, rulL, atM_get, List.drop_eq_getElem_cons, List.drop_eq_nil_of_le, List.take_succ_eq_append_getElem, List.take_of_length_le])) (J := _) (.refl _) (.inl rfl)))))
  · refine E.nil (E.thn (E.cf rfl (E.skipc (E.thn (E.seq (E.region (l := [0, 1, 2, 3, 4, 5, 6, 7, 8, 9, 10, 11, 12, 13, 14, 15, 16, 17]) rfl (E.y rfl rfl (by decide) ((Y.fld fo_Line_0 ty_I (by decide) rfl).yd) ?_)))))))
    refine E.y rfl rfl (by decide) (Y.ld1 ty_I rfl ((Has.pt (mS (mS (mS (mS m0))))).sub (cs' := [_]) 0 rfl) rfl) ?_
    refine E.y rfl rfl (by decide) (Y.ld1 ty_Rules rfl (Has.pt (mS (mS m0))) rfl) ?_
    refine E.y rfl rfl (by decide) ((Y.len us_Rules rfl).yd) ?_
    refine E.y rfl rfl (by decide) ((Y.sub rfl rfl (by omega) (by omega)).yd) ?_
    refine E.st rfl rfl (N.call0 t_impl_within rfl rfl rfl (by decide) (fun w Lp hA => trivial)) (fun _ _ => (Ent.b (fun q58 => ?_) (fun q58 => ?_)))
    · have zz := inR_le q58
      refine E.y rfl rfl (by decide) ((Y.mv rfl).yd) ?_
      refine E.y rfl rfl (by decide) (Y.ld1 ty_Is rfl (Has.pt (mS (mS (mS m0)))) rfl) ?_
      refine E.y rfl rfl (by decide) ((Y.fld fo_Line_2 ty_Fact (by decide) rfl).yd) ?_
      refine E.y rfl rfl (by decide) (Y.ldS (cs := [_, _]) ty_Fact rfl ((Has.pt (mS (mS (mS (mS m0))))).sub (cs' := [_, _]) 3 rfl) rfl) ?_
      refine E.st rfl rfl (N.call0 t_impl_IsFact rfl rfl rfl (by decide) (fun w Lp hA => ⟨hA.ro hs, i6x_Fact_Rel, hA.ro hx_Fact_Values⟩)) (fun _ _ => (Ent.b (fun q63 => ?_) (fun q63 => ?_)))
      · refine E.y rfl rfl (by decide) ((Y.pkt rfl rfl).yd) ?_
        refine E.y rfl rfl (by decide) ((Y.mv rfl).yd) ?_
        refine E.y rfl rfl (by decide) (Y.ld1 ty_Lines rfl (Has.pt m0) rfl) ?_
        refine E.y rfl rfl (by decide) ((Y.fn (vs := [_, _, _]) rfl).yd) ?_
        refine E.st rfl rfl (N.call0 (t_ContainsFunc_Line (f := (fun z => rulB s (atR rules x_Rule) (x_Fact_Rel, x_Fact_Values) z.2.2)) (D_f := (fun z => (0 ≤ x_Rule ∧ x_Rule.toNat < rules.length))) (by exact fun _ _ => ⟨by omega, by omega⟩)) rfl rfl rfl (by decide) (fun w Lp hA => ⟨hA.ro hbefore, FnP.ofLine (D := (fun z => (0 ≤ x_Rule ∧ x_Rule.toNat < rules.length))) (fun hd => t_impl_Line_holds_3 hd) (fun w' hk => ⟨(hA.pt (mS (mS (mS m0)))).keep hk, (hA.ro hs).keep hk, (hA.pt (mS (mS m0))).keep hk, (hA.ro hrules).keep hk, (hA.pt (mS (mS (mS (mS m0))))).keep hk, i6x_Rule, i6x_Access_Method, (hA.ro hx_Access_Values).keep hk, i6x_Fact_Rel, (hA.ro hx_Fact_Values).keep hk⟩)⟩)) (fun _ _ => ?_)
        refine E.y rfl rfl (by decide) ((Y.pkt rfl rfl).yd) ?_
        refine E.y rfl rfl (by decide) ((Y.as rfl).yd) ?_
        exact E.nil (E.thn (E.ret (F.r1 (Back.refl _ _) rfl rfl () trivial (congrArg Value.bool (by grind [holdsL, accL, rulL, atM_get, List.drop_eq_getElem_cons, List.drop_eq_nil_of_le, List.take_succ_eq_append_getElem, List.take_of_length_le])) (J := _) (.refl _) (.inl rfl))))
      · refine E.y rfl rfl (by decide) ((Y.pkt rfl rfl).yd) ?_
        refine E.y rfl rfl (by decide) ((Y.mv rfl).yd) ?_
        refine E.skip rfl rfl rfl ?_
        refine E.skip rfl rfl rfl ?_
        refine E.skip rfl rfl rfl ?_
        refine E.y rfl rfl (by decide) ((Y.pkf rfl rfl).yd) ?_
        refine E.y rfl rfl (by decide) ((Y.as rfl).yd) ?_
        exact E.nil (E.thn (E.ret (F.r1 (Back.refl _ _) rfl rfl () trivial (congrArg Value.bool (by grind [holdsL, accL, rulL, atM_get, List.drop_eq_getElem_cons, List.drop_eq_nil_of_le, List.take_succ_eq_append_getElem, List.take_of_length_le])) (J := _) (.refl _) (.inl rfl))))
    · refine E.y rfl rfl (by decide) ((Y.mv rfl).yd) ?_
      refine E.skip rfl rfl rfl ?_
      refine E.skip rfl rfl rfl ?_
      refine E.skip rfl rfl rfl ?_
      refine E.skip rfl rfl rfl ?_
      refine E.y rfl rfl (by decide) ((Y.pkf rfl rfl).yd) ?_
      refine E.y rfl rfl (by decide) ((Y.mv rfl).yd) ?_
      refine E.skip rfl rfl rfl ?_
      refine E.skip rfl rfl rfl ?_
      refine E.skip rfl rfl rfl ?_
      refine E.y rfl rfl (by decide) ((Y.pkf rfl rfl).yd) ?_
      refine E.y rfl rfl (by decide) ((Y.as rfl).yd) ?_
      exact E.nil (E.thn (E.ret (F.r1 (Back.refl _ _) rfl rfl () trivial (congrArg Value.bool (by grind [holdsL, accL, rulL, atM_get, List.drop_eq_getElem_cons, List.drop_eq_nil_of_le, List.take_succ_eq_append_getElem, List.take_of_length_le])) (J := _) (.refl _) (.inl rfl))))
end Go.Proofs.YtfnagmokplpnjaaGreat
