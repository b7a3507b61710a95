import Derived.Test.YtnagfcajnbkdoaaT1
import Derived.Test.YtnagfcajnbkdoaaBc
namespace Go.Proofs.Ytnagfcajnbkdoaa
open Go.RowKit
set_option linter.unusedVariables false
set_option linter.unusedSimpArgs false
set_option maxHeartbeats 2000000
attribute [local irreducible] Nop Yd Yp Ent Has Tr FnP FnP2 Src
theorem t_laws_eqAccess {a_Method : Int} {a_a_Values : Option Addr} {m_a_Values c_a_Values : Nat} {a_Values : List Int} {b_Method : Int} {a_b_Values : Option Addr} {m_b_Values c_b_Values : Nat} {b_Values : List Int} : Tr Try.prog 121 [.agg #[.int .i64 a_Method, .slice a_a_Values m_a_Values c_a_Values], .agg #[.int .i64 b_Method, .slice a_b_Values m_b_Values c_b_Values]] (fun w L => I64 a_Method ∧ Ro w L eIs [.slice a_a_Values m_a_Values c_a_Values] a_Values ∧ I64 b_Method ∧ Ro w L eIs [.slice a_b_Values m_b_Values c_b_Values] b_Values) [] (κ := Unit) (fun k => True) (fun k => .bool (decide ((a_Method, a_Values) = (b_Method, b_Values)))) (fun k => []) := by
  refine Tr.intro Try.func121 rfl (n := 16) rfl (by decide +kernel) (Nat.le_of_ble_eq_true rfl) (fr := [(0, .agg #[.int .i64 a_Method, .slice a_a_Values m_a_Values c_a_Values]), (1, .agg #[.int .i64 b_Method, .slice a_b_Values m_b_Values c_b_Values])]) rfl fun w L hR => ?_
  obtain ⟨i6a_Method, ha_Values, i6b_Method, hb_Values⟩ := hR
  obtain ⟨rfl, la_Values⟩ := ha_Values.slen
  obtain ⟨rfl, lb_Values⟩ := hb_Values.slen
  refine E.seq (E.region (l := [0, 1, 2]) rfl (E.st rfl rfl (N.box (cs := [_, _]) rfl (by decide) rfl) (fun b2 _ => ?_)))
  refine E.st rfl rfl (N.box (cs := [_, _]) rfl (by decide) rfl) (fun b3 _ => ?_)
  refine E.y rfl rfl (by decide) ((Y.as rfl).yd) ?_
  refine E.nil (E.thn (E.seq (E.seq (E.region (l := [0, 1, 2, 3, 4]) rfl (E.y rfl rfl (by decide) ((Y.fld fo_Access_0 ty_I (by decide) rfl).yd) ?_)))))
  refine E.y rfl rfl (by decide) (Y.ld1 ty_I rfl ((Has.pt (mS m0)).sub (cs' := [_]) 0 rfl) rfl) ?_
  refine E.y rfl rfl (by decide) ((Y.fld fo_Access_0 ty_I (by decide) rfl).yd) ?_
  refine E.y rfl rfl (by decide) (Y.ld1 ty_I rfl ((Has.pt m0).sub (cs' := [_]) 0 rfl) rfl) ?_
  refine E.y rfl rfl (by decide) ((Y.neq rfl rfl).yd) (Ent.d (fun q9 => ?_) (fun q9 => ?_))
  · refine E.nil (E.thn (E.ct rfl (E.seq (E.region (l := [0]) rfl (E.y rfl rfl (by decide) ((Y.as rfl).yd) ?_)))))
    exact E.nil (E.thn (E.ret (E.thr (F.r1 (Back.refl _ _) rfl rfl () trivial (congrArg Value.bool (by simp_all)) (J := _) (.refl _) (.inl rfl)))))
  · refine E.nil (E.thn (E.cf rfl (E.skipc (E.thn (E.seq (E.seq (E.region (l := [0, 1, 2, 3, 4, 5]) rfl (E.y rfl rfl (by decide) ((Y.fld fo_Access_1 ty_Is (by decide) rfl).yd) ?_))))))))
    refine E.y rfl rfl (by decide) (Y.ld1 ty_Is rfl ((Has.pt (mS m0)).sub (cs' := [_]) 1 rfl) rfl) ?_
    refine E.y rfl rfl (by decide) ((Y.fld fo_Access_1 ty_Is (by decide) rfl).yd) ?_
    refine E.y rfl rfl (by decide) (Y.ld1 ty_Is rfl ((Has.pt m0).sub (cs' := [_]) 1 rfl) rfl) ?_
    refine E.st rfl rfl (N.call0 t_laws_eqIntS rfl rfl rfl (by decide) (fun w Lp hA => ⟨hA.ro ha_Values, hA.ro hb_Values⟩)) (fun _ _ => (Ent.b (fun q14 => ?_) (fun q14 => ?_)))
    · refine E.y rfl rfl (by decide) ((Y.not (b := true) rfl).yd) ?_
      refine E.nil (E.thn (E.cf rfl (E.skipc (E.thn (E.seq (E.region (l := [0]) rfl (E.y rfl rfl (by decide) ((Y.as rfl).yd) ?_)))))))
      exact E.nil (E.thn (E.ret (F.r1 (Back.refl _ _) rfl rfl () trivial (congrArg Value.bool (by simp_all)) (J := _) (.refl _) (.inl rfl))))
    · refine E.y rfl rfl (by decide) ((Y.not (b := false) rfl).yd) ?_
      refine E.nil (E.thn (E.ct rfl (E.seq (E.region (l := [0]) rfl (E.y rfl rfl (by decide) ((Y.as rfl).yd) ?_)))))
      exact E.nil (E.thn (E.ret (E.thr (F.r1 (Back.refl _ _) rfl rfl () trivial (congrArg Value.bool (by simp_all)) (J := _) (.refl _) (.inl rfl)))))
theorem t_laws_eqAccessS {a_a : Option Addr} {m_a c_a : Nat} {a : List (Int × List Int)} {a_b : Option Addr} {m_b c_b : Nat} {b : List (Int × List Int)} : Tr Try.prog 53 [.slice a_a m_a c_a, .slice a_b m_b c_b] (fun w L => Ro w L eAccesss [.slice a_a m_a c_a] a ∧ Ro w L eAccesss [.slice a_b m_b c_b] b) [] (κ := Unit) (fun k => True) (fun k => .bool (decide (a = b))) (fun k => []) := by
  refine Tr.intro Try.func53 rfl (n := 27) rfl (by decide +kernel) (Nat.le_of_ble_eq_true rfl) (fr := [(0, .slice a_a m_a c_a), (1, .slice a_b m_b c_b)]) rfl fun w L hR => ?_
  obtain ⟨ha, hb⟩ := hR
  obtain ⟨rfl, la⟩ := ha.slen
  obtain ⟨rfl, lb⟩ := hb.slen
  refine E.seq (E.region (l := [0]) rfl (E.y rfl rfl (by decide) ((Y.as rfl).yd) ?_))
  refine E.nil (E.thn (E.seq (E.seq (E.region (l := [0, 1, 2, 3, 4]) rfl (E.y rfl rfl (by decide) ((Y.mv rfl).yd) ?_)))))
  refine E.y rfl rfl (by decide) ((Y.len us_Accesss rfl).yd) ?_
  refine E.y rfl rfl (by decide) ((Y.mv rfl).yd) ?_
  refine E.y rfl rfl (by decide) ((Y.len us_Accesss rfl).yd) ?_
  refine E.y rfl rfl (by decide) ((Y.neq rfl rfl).yd) (Ent.d (fun q10 => ?_) (fun q10 => ?_))
  · refine E.nil (E.thn (E.ct rfl (E.seq (E.region (l := [0]) rfl (E.y rfl rfl (by decide) ((Y.as rfl).yd) ?_)))))
    exact E.nil (E.thn (E.ret (E.thr (F.r1 (Back.refl _ _) rfl rfl () trivial (congrArg Value.bool (by exact ne_of_len q10)) (J := _) (.refl _) (.inl rfl)))))
  · refine E.nil (E.thn (E.cf rfl (E.skipc (E.thn (E.seq (E.seq (E.region (l := [0]) rfl (E.y rfl rfl (by decide) ((Y.as rfl).yd) ?_))))))))
    refine E.nil (E.thn (E.block (E.loop (κ := Nat) (fun g => g ≤ a.length ∧ a.take g = b.take g) (fun g => [(0, .slice a_a a.length c_a), (1, .slice a_b b.length c_b), (5, .int .i64 (↑g : Int))]) (fun g => []) (fun g => a.length - g) 0 ⟨by omega, by simp⟩ ⟨rfl, rfl, rfl, trivial⟩ (.refl _) (fun g pg => ?_))))
    obtain ⟨pk, pa⟩ := pg
    refine E.seq (E.seq (E.region (l := [0, 1, 2, 3]) rfl (E.y rfl rfl (by decide) ((Y.mv rfl).yd) ?_)))
    refine E.y rfl rfl (by decide) ((Y.mv rfl).yd) ?_
    refine E.y rfl rfl (by decide) ((Y.len us_Accesss rfl).yd) ?_
    refine E.y rfl rfl (by decide) ((Y.lss rfl rfl).yd) (Ent.d (fun q14 => ?_) (fun q14 => ?_))
    · refine E.nil (E.thn (E.ct rfl (E.skipc (E.thn (E.seq (E.block (E.seq (D.region (fun j => true) mixed (D.yp 0 rfl rfl (by decide) (Y.mv rfl) (by kernel_rfl) ?_)))))))))
      refine D.yp 1 rfl rfl (by decide) (Y.mv rfl) (by kernel_rfl) ?_
      obtain ⟨eb19, eo19, ec19, ea19, er19, el19, eh19⟩ := ha.elem g (by omega)
      obtain ⟨xa19_0, xc19_0, rfl, ei19_0, xh19_0⟩ := Ro.pAccess er19
      have := xh19_0.slen.2
      refine D.yp 2 rfl rfl (by decide) (Y.ix us_Accesss ty_Access rfl ea19 rfl g rfl (by omega)) (by kernel_rfl) ?_
      refine D.y 3 rfl rfl (by decide) (Y.ldS (cs := [_, _]) ty_Access rfl (eh19 _) rfl) (by kernel_rfl) ?_
      refine D.yp 4 rfl rfl (by decide) (Y.mv rfl) (by kernel_rfl) ?_
      refine D.yp 5 rfl rfl (by decide) (Y.mv rfl) (by kernel_rfl) ?_
      obtain ⟨eb23, eo23, ec23, ea23, er23, el23, eh23⟩ := hb.elem g (by omega)
      obtain ⟨xa23_0, xc23_0, rfl, ei23_0, xh23_0⟩ := Ro.pAccess er23
      have := xh23_0.slen.2
      refine D.yp 6 rfl rfl (by decide) (Y.ix us_Accesss ty_Access rfl ea23 rfl g rfl (by omega)) (by kernel_rfl) ?_
      refine D.y 7 rfl rfl (by decide) (Y.ldS (cs := [_, _]) ty_Access rfl (eh23 _) rfl) (by kernel_rfl) ?_
      refine D.st 8 rfl rfl (by kernel_rfl) (fun _ => rfl) (N.call0 t_laws_eqAccess rfl rfl rfl (by decide) (fun w Lp hA => ⟨ei19_0, hA.ro xh19_0, ei23_0, hA.ro xh23_0⟩)) (fun _ _ => (Ent.b (fun q25 => ?_) (fun q25 => ?_)))
      · refine D.yp 9 rfl rfl (by decide) (Y.not (b := true) rfl) (by kernel_rfl) ?_
        refine D.done (by kernel_rfl) (E.thn (E.cf rfl (E.skipc (E.bln (E.thn (E.region (l := [0, 1, 2]) rfl (E.y rfl rfl (by decide) ((Y.mv rfl).yd) ?_)))))))
        refine E.y rfl rfl (by decide) ((Y.add rfl rfl (by omega) (by omega)).yd) ?_
        refine E.y rfl rfl (by decide) ((Y.as rfl).yd) ?_
        exact E.nil (E.thn (E.again (Back.refl _ _) (g + 1) ⟨rfl, rfl, rfl, trivial⟩ (.refl _) ⟨by omega, take_eq_step (by omega) (by omega) pa (of_decide_eq_true q25)⟩ (by omega)))
      · refine D.yp 9 rfl rfl (by decide) (Y.not (b := false) rfl) (by kernel_rfl) ?_
        refine D.done (by kernel_rfl) (E.thn (E.ct rfl (E.seq (E.region (l := [0]) rfl (E.y rfl rfl (by decide) ((Y.as rfl).yd) ?_)))))
        exact E.nil (E.thn (E.ret (E.blr (E.thr (E.thr (E.blr (E.thr (F.r1 (Back.refl _ _) rfl rfl () trivial (congrArg Value.bool (by exact ne_of_get (show g < a.length by omega) (show g < b.length by omega) (of_decide_eq_false q25))) (J := _) (.refl _) (.inl rfl)))))))))
    · refine E.nil (E.thn (E.cf rfl (E.exit (E.the (E.the (E.blh (E.thn (E.seq (E.region (l := [0]) rfl (E.y rfl rfl (by decide) ((Y.as rfl).yd) ?_))))))))))
      exact E.nil (E.thn (E.ret (F.r1 (Back.refl _ _) rfl rfl () trivial (congrArg Value.bool (by exact eq_of_take (show a.length ≤ g by omega) (show b.length ≤ g by omega) pa)) (J := _) (.refl _) (.inl rfl))))
end Go.Proofs.Ytnagfcajnbkdoaa
