import Derived.Test.YtfnagmokplpnjaaGreatT8
import Derived.Test.YtfnagmokplpnjaaGreatT6
import Derived.Test.YtfnagmokplpnjaaGreatT16
import Derived.Test.YtfnagmokplpnjaaGreatBd
namespace Go.Proofs.YtfnagmokplpnjaaGreat
open Go.RowKit
set_option linter.unusedVariables false
set_option linter.unusedSimpArgs false
set_option maxHeartbeats 2000000
attribute [local irreducible] Nop Yd Yp Ent Has Tr FnP FnP2 Src listsF opnF opn1 opnR chainB
theorem t_impl_ascending {a_l : Option Addr} {m_l c_l : Nat} {l : List Int} : Tr Tryz.prog 170 [.slice a_l m_l c_l] (fun w L => Ro w L eIs [.slice a_l m_l c_l] l) [] (κ := Unit) (fun k => True) (fun k => .bool (chainB ltB l)) (fun k => []) := by
  refine Tr.intro Tryz.func170 rfl (n := 24) rfl (by decide +kernel) (Nat.le_of_ble_eq_true rfl) (fr := [(0, .slice a_l m_l c_l)]) rfl fun w L hR => ?_
  have hl := hR
  obtain ⟨rfl, ll⟩ := hl.slen
  refine E.seq (E.region (l := [0]) rfl (E.y rfl rfl (by decide) ((Y.as rfl).yd) ?_))
  refine E.nil (E.thn (E.seq (E.seq (E.region (l := [0, 1, 2]) rfl (E.y rfl rfl (by decide) ((Y.mv rfl).yd) ?_)))))
  refine E.y rfl rfl (by decide) ((Y.len us_Is rfl).yd) ?_
  refine E.y rfl rfl (by decide) ((Y.mv rfl).yd) ?_
  refine E.nil (E.thn (E.block (E.loop (κ := Nat) (fun g => g ≤ l.length ∧ chainB ltB l = chainB ltB (l.drop (g - 1))) (fun g => [(0, .slice a_l l.length c_l), (5, .int .i64 (↑l.length : Int)), (6, .int .i64 (↑g : Int))]) (fun g => []) (fun g => l.length - g) 0 ⟨Nat.zero_le _, by simp⟩ ⟨rfl, rfl, rfl, trivial⟩ (.refl _) (fun g pg => ?_))))
  obtain ⟨pk, pa⟩ := pg
  refine E.seq (E.region (l := [0]) rfl (E.y rfl rfl (by decide) ((Y.lss rfl rfl).yd) (Ent.d (fun q7 => ?_) (fun q7 => ?_))))
  · refine E.nil (E.thn (E.seq (E.ct rfl (E.skipc (E.thn (E.seq (E.block (E.seq (E.region (l := [0, 1]) rfl (E.y rfl rfl (by decide) ((Y.mv rfl).yd) ?_))))))))))
    refine E.y rfl rfl (by decide) ((Y.as rfl).yd) ?_
    refine E.nil (E.thn (E.seq (D.region (fun j => true) mixed (D.yp 0 rfl rfl (by decide) (Y.mv rfl) (by kernel_rfl) ?_))))
    refine D.yp 1 rfl rfl (by decide) (Y.gtr rfl rfl) (by kernel_rfl) (Ent.d (fun q10 => ?_) (fun q10 => ?_))
    · refine D.yp 2 rfl rfl (by decide) (Y.mv rfl) (by kernel_rfl) ?_
      refine D.yp 3 rfl rfl (by decide) (Y.mv rfl) (by kernel_rfl) ?_
      refine D.yp 4 rfl rfl (by decide) (Y.mv rfl) (by kernel_rfl) ?_
      obtain ⟨eb14, eo14, ea14, ei14, eh14⟩ := hl.elemI g (by omega)
      refine D.yp 5 rfl rfl (by decide) (Y.ix us_Is ty_I rfl ea14 rfl g rfl (by omega)) (by kernel_rfl) ?_
      refine D.y 6 rfl rfl (by decide) (Y.ld1 ty_I rfl (eh14 _) rfl) (by kernel_rfl) ?_
      refine D.yp 7 rfl rfl (by decide) (Y.mv rfl) (by kernel_rfl) ?_
      refine D.yp 8 rfl rfl (by decide) (Y.mv rfl) (by kernel_rfl) ?_
      refine D.yp 9 rfl rfl (by decide) (Y.sub rfl rfl (by omega) (by omega)) (by kernel_rfl) ?_
      obtain ⟨eb19, eo19, ea19, ei19, eh19⟩ := hl.elemI (g - 1) (by omega)
      refine D.yp 10 rfl rfl (by decide) (Y.ix us_Is ty_I rfl ea19 rfl (g - 1) (by omega) (by omega)) (by kernel_rfl) ?_
      refine D.y 11 rfl rfl (by decide) (Y.ld1 ty_I rfl (eh19 _) rfl) (by kernel_rfl) ?_
      refine D.yp 12 rfl rfl (by decide) (Y.leq rfl rfl) (by kernel_rfl) (Ent.d (fun q21 => ?_) (fun q21 => ?_))
      · refine D.yp 13 rfl rfl (by decide) (Y.pkt rfl rfl) (by kernel_rfl) ?_
        refine D.done (by kernel_rfl) (E.thn (E.ct rfl (E.seq (E.region (l := [0]) rfl (E.y rfl rfl (by decide) ((Y.as rfl).yd) ?_)))))
        exact E.nil (E.thn (E.ret (E.blr (E.thr (E.thr (E.blr (E.thr (F.r1 (Back.refl _ _) rfl rfl () trivial (congrArg Value.bool (by grind [chain_step, chain_zero, chain_end, ltB, List.drop_eq_getElem_cons, List.drop_eq_nil_of_le, List.take_succ_eq_append_getElem, List.take_of_length_le])) (J := _) (.refl _) (.inl rfl)))))))))
      · refine D.yp 13 rfl rfl (by decide) (Y.pkt rfl rfl) (by kernel_rfl) ?_
        refine D.done (by kernel_rfl) (E.thn (E.cf rfl (E.skipc (E.bln (E.thn (E.region (l := [0, 1]) rfl (E.y rfl rfl (by decide) ((Y.add rfl rfl (by omega) (by omega)).yd) ?_)))))))
        refine E.y rfl rfl (by decide) ((Y.mv rfl).yd) ?_
        exact E.nil (E.thn (E.again (Back.refl _ _) (g + 1) ⟨rfl, rfl, rfl, trivial⟩ (.refl _) ⟨by omega, by grind [chain_step, chain_zero, chain_end, ltB, List.drop_eq_getElem_cons, List.drop_eq_nil_of_le, List.take_succ_eq_append_getElem, List.take_of_length_le]⟩ (by omega)))
    · refine D.yp 2 rfl rfl (by decide) (Y.mv rfl) (by kernel_rfl) ?_
      refine D.skip 3 rfl rfl (by kernel_rfl) rfl ?_
      refine D.skip 4 rfl rfl (by kernel_rfl) rfl ?_
      refine D.skip 5 rfl rfl (by kernel_rfl) rfl ?_
      refine D.skip 6 rfl rfl (by kernel_rfl) rfl ?_
      refine D.skip 7 rfl rfl (by kernel_rfl) rfl ?_
      refine D.skip 8 rfl rfl (by kernel_rfl) rfl ?_
      refine D.skip 9 rfl rfl (by kernel_rfl) rfl ?_
      refine D.skip 10 rfl rfl (by kernel_rfl) rfl ?_
      refine D.skip 11 rfl rfl (by kernel_rfl) rfl ?_
      refine D.skip 12 rfl rfl (by kernel_rfl) rfl ?_
      refine D.yp 13 rfl rfl (by decide) (Y.pkf rfl rfl) (by kernel_rfl) ?_
      refine D.done (by kernel_rfl) (E.thn (E.cf rfl (E.skipc (E.bln (E.thn (E.region (l := [0, 1]) rfl (E.y rfl rfl (by decide) ((Y.add rfl rfl (by omega) (by omega)).yd) ?_)))))))
      refine E.y rfl rfl (by decide) ((Y.mv rfl).yd) ?_
      exact E.nil (E.thn (E.again (Back.refl _ _) (g + 1) ⟨rfl, rfl, rfl, trivial⟩ (.refl _) ⟨by omega, by grind [chain_step, chain_zero, chain_end, ltB, List.drop_eq_getElem_cons, List.drop_eq_nil_of_le, List.take_succ_eq_append_getElem, List.take_of_length_le]⟩ (by omega)))
  · refine E.nil (E.thn (E.seq (E.cf rfl (E.exit (E.the (E.the (E.blh (E.thn (E.seq (E.region (l := [0]) rfl (E.y rfl rfl (by decide) ((Y.as rfl).yd) ?_)))))))))))
    exact E.nil (E.thn (E.ret (F.r1 (Back.refl _ _) rfl rfl () trivial (congrArg Value.bool (by grind [chain_step, chain_zero, chain_end, ltB, List.drop_eq_getElem_cons, List.drop_eq_nil_of_le, List.take_succ_eq_append_getElem, List.take_of_length_le])) (J := _) (.refl _) (.inl rfl))))
theorem t_impl_Method_fits_1 {i : Int} {b_arity : Nat} {arity : Int} : Tr Tryz.prog 256 [.int .i64 i, .pointer (some ⟨b_arity, 0, none⟩)] (fun w L => (I64 i) ∧ RoPt w L b_arity [.int .i64 arity] ∧ -1000 ≤ arity ∧ arity ≤ 1000) [] (κ := Unit) (fun k => True) (fun k => .bool (!inR i 0 (arity - 1))) (fun k => []) := by
  refine Tr.intro Tryz.func256 rfl (n := 9) rfl (by decide +kernel) (Nat.le_of_ble_eq_true rfl) (fr := [(0, .int .i64 i), (1, .pointer (some ⟨b_arity, 0, none⟩))]) rfl fun w L hR => ?_
  obtain ⟨i6i, hb_arity, as0, as1⟩ := hR
  refine E.seq (E.region (l := [0]) rfl (E.y rfl rfl (by decide) ((Y.as rfl).yd) ?_))
  refine E.nil (E.thn (E.seq (E.region (l := [0, 1, 2, 3, 4, 5]) rfl (E.y rfl rfl (by decide) ((Y.mv rfl).yd) ?_))))
  refine E.y rfl rfl (by decide) (Y.ld1 ty_I rfl (hb_arity.has) rfl) ?_
  refine E.y rfl rfl (by decide) ((Y.sub rfl rfl (by omega) (by omega)).yd) ?_
  refine E.st rfl rfl (N.call0 t_impl_within rfl rfl rfl (by decide) (fun w Lp hA => trivial)) (fun _ _ => ?_)
  refine E.y rfl rfl (by decide) ((Y.not rfl).yd) ?_
  refine E.y rfl rfl (by decide) ((Y.as rfl).yd) ?_
  exact E.nil (E.thn (E.ret (F.r1 (Back.refl _ _) rfl rfl () trivial (congrArg Value.bool (by grind [List.drop_eq_getElem_cons, List.drop_eq_nil_of_le, List.take_succ_eq_append_getElem, List.take_of_length_le])) (J := _) (.refl _) (.inl rfl))))
theorem t_impl_isCost {n : Int} : Tr Tryz.prog 257 [.int .i64 n] (fun w L => True) [] (κ := Unit) (fun k => True) (fun k => .bool (inR n 0 99)) (fun k => []) := by
  refine Tr.intro Tryz.func257 rfl (n := 5) rfl (by decide +kernel) (Nat.le_of_ble_eq_true rfl) (fr := [(0, .int .i64 n)]) rfl fun w L hR => ?_
  refine E.seq (E.region (l := [0]) rfl (E.y rfl rfl (by decide) ((Y.as rfl).yd) ?_))
  refine E.nil (E.thn (E.seq (E.region (l := [0, 1, 2]) rfl (E.y rfl rfl (by decide) ((Y.mv rfl).yd) ?_))))
  refine E.st rfl rfl (N.call0 t_impl_within rfl rfl rfl (by decide) (fun w Lp hA => trivial)) (fun _ _ => ?_)
  refine E.y rfl rfl (by decide) ((Y.as rfl).yd) ?_
  exact E.nil (E.thn (E.ret (F.r1 (Back.refl _ _) rfl rfl () trivial rfl (J := _) (.refl _) (.inl rfl))))
theorem t_impl_Method_fits {m_Rel : Int} {a_m_Inputs : Option Addr} {m_m_Inputs c_m_Inputs : Nat} {m_Inputs : List Int} {m_Limit : Int} {m_Cost : Int} {m_Quota : Int} {arity : Int} : Tr Tryz.prog 224 [.agg #[.int .i64 m_Rel, .slice a_m_Inputs m_m_Inputs c_m_Inputs, .int .i64 m_Limit, .int .i64 m_Cost, .int .i64 m_Quota], .int .i64 arity] (fun w L => I64 m_Rel ∧ Ro w L eIs [.slice a_m_Inputs m_m_Inputs c_m_Inputs] m_Inputs ∧ I64 m_Limit ∧ I64 m_Cost ∧ I64 m_Quota ∧ -1000 ≤ arity ∧ arity ≤ 1000) [] (κ := Unit) (fun k => True) (fun k => .bool (fitsB (m_Rel, m_Inputs, m_Limit, m_Cost, m_Quota) arity)) (fun k => []) := by
  refine Tr.intro Tryz.func224 rfl (n := 30) rfl (by decide +kernel) (Nat.le_of_ble_eq_true rfl) (fr := [(0, .agg #[.int .i64 m_Rel, .slice a_m_Inputs m_m_Inputs c_m_Inputs, .int .i64 m_Limit, .int .i64 m_Cost, .int .i64 m_Quota]), (1, .int .i64 arity)]) rfl fun w L hR => ?_
  obtain ⟨i6m_Rel, hm_Inputs, i6m_Limit, i6m_Cost, i6m_Quota, as0, as1⟩ := hR
  obtain ⟨rfl, lm_Inputs⟩ := hm_Inputs.slen
  refine E.seq (E.region (l := [0, 1, 2]) rfl (E.st rfl rfl (N.box (cs := [_, _, _, _, _]) rfl (by decide) rfl) (fun b2 _ => ?_)))
  refine E.st rfl rfl (N.box (cs := [_]) rfl (by decide) rfl) (fun b3 _ => ?_)
  refine E.y rfl rfl (by decide) ((Y.as rfl).yd) ?_
  refine E.nil (E.thn (E.seq (E.region (l := [0, 1, 2, 3, 4, 5, 6, 7, 8, 9, 10, 11, 12, 13, 14, 15, 16, 17, 18, 19, 20, 21, 22, 23, 24, 25]) rfl (E.y rfl rfl (by decide) ((Y.fld fo_Method_1 ty_Is (by decide) rfl).yd) ?_))))
  refine E.y rfl rfl (by decide) (Y.ld1 ty_Is rfl ((Has.pt (mS m0)).sub (cs' := [_]) 1 rfl) rfl) ?_
  refine E.st rfl rfl (N.call0 t_impl_ascending rfl rfl rfl (by decide) (fun w Lp hA => hA.ro hm_Inputs)) (fun _ _ => (Ent.b (fun q7 => ?_) (fun q7 => ?_)))
  · refine E.y rfl rfl (by decide) ((Y.mv rfl).yd) ?_
    refine E.y rfl rfl (by decide) ((Y.fld fo_Method_1 ty_Is (by decide) rfl).yd) ?_
    refine E.y rfl rfl (by decide) (Y.ld1 ty_Is rfl ((Has.pt (mS m0)).sub (cs' := [_]) 1 rfl) rfl) ?_
    refine E.y rfl rfl (by decide) ((Y.fn (vs := [_]) rfl).yd) ?_
    refine E.st rfl rfl (N.call0 (t_ContainsFunc_I (f := (fun i => !inR i 0 (arity - 1))) (D_f := (fun _ => True)) (by intros; exact trivial)) rfl rfl rfl (by decide) (fun w Lp hA => ⟨hA.ro hm_Inputs, FnP.ofI (D := (fun _ => True)) (fun hd => t_impl_Method_fits_1) (fun w' hk => ⟨(hA.pt m0).keep hk, (by first | assumption | omega), (by first | assumption | omega)⟩)⟩)) (fun _ _ => (Ent.b (fun q12 => ?_) (fun q12 => ?_)))
    · refine E.y rfl rfl (by decide) ((Y.not (b := true) rfl).yd) ?_
      refine E.y rfl rfl (by decide) ((Y.pkt rfl rfl).yd) ?_
      refine E.y rfl rfl (by decide) ((Y.mv rfl).yd) ?_
      refine E.skip rfl rfl rfl ?_
      refine E.skip rfl rfl rfl ?_
      refine E.skip rfl rfl rfl ?_
      refine E.y rfl rfl (by decide) ((Y.pkf rfl rfl).yd) ?_
      refine E.y rfl rfl (by decide) ((Y.mv rfl).yd) ?_
      refine E.skip rfl rfl rfl ?_
      refine E.skip rfl rfl rfl ?_
      refine E.skip rfl rfl rfl ?_
      refine E.y rfl rfl (by decide) ((Y.pkf rfl rfl).yd) ?_
      refine E.y rfl rfl (by decide) ((Y.mv rfl).yd) ?_
      refine E.skip rfl rfl rfl ?_
      refine E.skip rfl rfl rfl ?_
      refine E.skip rfl rfl rfl ?_
      refine E.y rfl rfl (by decide) ((Y.pkf rfl rfl).yd) ?_
      refine E.y rfl rfl (by decide) ((Y.as rfl).yd) ?_
      exact E.nil (E.thn (E.ret (F.r1 (Back.refl _ _) rfl rfl () trivial (congrArg Value.bool (by grind [fitsB, okPos, List.drop_eq_getElem_cons, List.drop_eq_nil_of_le, List.take_succ_eq_append_getElem, List.take_of_length_le])) (J := _) (.refl _) (.inl rfl))))
    · refine E.y rfl rfl (by decide) ((Y.not (b := false) rfl).yd) ?_
      refine E.y rfl rfl (by decide) ((Y.pkt rfl rfl).yd) ?_
      refine E.y rfl rfl (by decide) ((Y.mv rfl).yd) ?_
      refine E.y rfl rfl (by decide) ((Y.fld fo_Method_2 ty_I (by decide) rfl).yd) ?_
      refine E.y rfl rfl (by decide) (Y.ld1 ty_I rfl ((Has.pt (mS m0)).sub (cs' := [_]) 2 rfl) rfl) ?_
      refine E.st rfl rfl (N.call0 t_impl_within rfl rfl rfl (by decide) (fun w Lp hA => trivial)) (fun _ _ => (Ent.b (fun q18 => ?_) (fun q18 => ?_)))
      · refine E.y rfl rfl (by decide) ((Y.pkt rfl rfl).yd) ?_
        refine E.y rfl rfl (by decide) ((Y.mv rfl).yd) ?_
        refine E.y rfl rfl (by decide) ((Y.fld fo_Method_3 ty_I (by decide) rfl).yd) ?_
        refine E.y rfl rfl (by decide) (Y.ld1 ty_I rfl ((Has.pt (mS m0)).sub (cs' := [_]) 3 rfl) rfl) ?_
        refine E.st rfl rfl (N.call0 t_impl_isCost rfl rfl rfl (by decide) (fun w Lp hA => trivial)) (fun _ _ => (Ent.b (fun q23 => ?_) (fun q23 => ?_)))
        · refine E.y rfl rfl (by decide) ((Y.pkt rfl rfl).yd) ?_
          refine E.y rfl rfl (by decide) ((Y.mv rfl).yd) ?_
          refine E.y rfl rfl (by decide) ((Y.fld fo_Method_4 ty_I (by decide) rfl).yd) ?_
          refine E.y rfl rfl (by decide) (Y.ld1 ty_I rfl ((Has.pt (mS m0)).sub (cs' := [_]) 4 rfl) rfl) ?_
          refine E.st rfl rfl (N.call0 t_impl_within rfl rfl rfl (by decide) (fun w Lp hA => trivial)) (fun _ _ => ?_)
          refine E.y rfl rfl (by decide) ((Y.pkt rfl rfl).yd) ?_
          refine E.y rfl rfl (by decide) ((Y.as rfl).yd) ?_
          exact E.nil (E.thn (E.ret (F.r1 (Back.refl _ _) rfl rfl () trivial (congrArg Value.bool (by grind [fitsB, okPos, List.drop_eq_getElem_cons, List.drop_eq_nil_of_le, List.take_succ_eq_append_getElem, List.take_of_length_le])) (J := _) (.refl _) (.inl rfl))))
        · refine E.y rfl rfl (by decide) ((Y.pkt rfl rfl).yd) ?_
          refine E.y rfl rfl (by decide) ((Y.mv rfl).yd) ?_
          refine E.skip rfl rfl rfl ?_
          refine E.skip rfl rfl rfl ?_
          refine E.skip rfl rfl rfl ?_
          refine E.y rfl rfl (by decide) ((Y.pkf rfl rfl).yd) ?_
          refine E.y rfl rfl (by decide) ((Y.as rfl).yd) ?_
          exact E.nil (E.thn (E.ret (F.r1 (Back.refl _ _) rfl rfl () trivial (congrArg Value.bool (by grind [fitsB, okPos, List.drop_eq_getElem_cons, List.drop_eq_nil_of_le, List.take_succ_eq_append_getElem, List.take_of_length_le])) (J := _) (.refl _) (.inl rfl))))
      · refine E.y rfl rfl (by decide) ((Y.pkt rfl rfl).yd) ?_
        refine E.y rfl rfl (by decide) ((Y.mv rfl).yd) ?_
        refine E.skip rfl rfl rfl ?_
        refine E.skip rfl rfl rfl ?_
        refine E.skip rfl rfl rfl ?_
        refine E.y rfl rfl (by decide) ((Y.pkf rfl rfl).yd) ?_
        refine E.y rfl rfl (by decide) ((Y.mv rfl).yd) ?_
        refine E.skip rfl rfl rfl ?_
        refine E.skip rfl rfl rfl ?_
        refine E.skip rfl rfl rfl ?_
        refine E.y rfl rfl (by decide) ((Y.pkf rfl rfl).yd) ?_
        refine E.y rfl rfl (by decide) ((Y.as rfl).yd) ?_
        exact E.nil (E.thn (E.ret (F.r1 (Back.refl _ _) rfl rfl () trivial (congrArg Value.bool (by grind [fitsB, okPos, List.drop_eq_getElem_cons, List.drop_eq_nil_of_le, List.take_succ_eq_append_getElem, List.take_of_length_le])) (J := _) (.refl _) (.inl rfl))))
  · refine E.y rfl rfl (by decide) ((Y.mv rfl).yd) ?_
    refine E.skip rfl rfl rfl ?_
    refine E.skip rfl rfl rfl ?_
    refine E.skip rfl rfl rfl ?_
    refine E.skip rfl rfl rfl ?_
    refine E.skip rfl rfl rfl ?_
    refine E.y rfl rfl (by decide) ((Y.pkf rfl rfl).yd) ?_
    refine E.y rfl rfl (by decide) ((Y.mv rfl).yd) ?_
    refine E.skip rfl rfl rfl ?_
    refine E.skip rfl rfl rfl ?_
    refine E.skip rfl rfl rfl ?_
    refine E.y rfl rfl (by decide) ((Y.pkf rfl rfl).yd) ?_
    refine E.y rfl rfl (by decide) ((Y.mv rfl).yd) ?_
    refine E.skip rfl rfl rfl ?_
    refine E.skip rfl rfl rfl ?_
    refine E.skip rfl rfl rfl ?_
    refine E.y rfl rfl (by decide) ((Y.pkf rfl rfl).yd) ?_
    refine E.y rfl rfl (by decide) ((Y.mv rfl).yd) ?_
    refine E.skip rfl rfl rfl ?_
    refine E.skip rfl rfl rfl ?_
    refine E.skip rfl rfl rfl ?_
    refine E.y rfl rfl (by decide) ((Y.pkf rfl rfl).yd) ?_
    refine E.y rfl rfl (by decide) ((Y.as rfl).yd) ?_
    exact E.nil (E.thn (E.ret (F.r1 (Back.refl _ _) rfl rfl () trivial (congrArg Value.bool (by grind [fitsB, okPos, List.drop_eq_getElem_cons, List.drop_eq_nil_of_le, List.take_succ_eq_append_getElem, List.take_of_length_le])) (J := _) (.refl _) (.inl rfl))))
theorem t_impl_IsMethod {a_s : Option Addr} {m_s c_s : Nat} {s : List Int} {m_Rel : Int} {a_m_Inputs : Option Addr} {m_m_Inputs c_m_Inputs : Nat} {m_Inputs : List Int} {m_Limit : Int} {m_Cost : Int} {m_Quota : Int} : Tr Tryz.prog 169 [.slice a_s m_s c_s, .agg #[.int .i64 m_Rel, .slice a_m_Inputs m_m_Inputs c_m_Inputs, .int .i64 m_Limit, .int .i64 m_Cost, .int .i64 m_Quota]] (fun w L => Ro w L eIs [.slice a_s m_s c_s] s ∧ I64 m_Rel ∧ Ro w L eIs [.slice a_m_Inputs m_m_Inputs c_m_Inputs] m_Inputs ∧ I64 m_Limit ∧ I64 m_Cost ∧ I64 m_Quota) [] (κ := Unit) (fun k => True) (fun k => .bool (okMeth s (m_Rel, m_Inputs, m_Limit, m_Cost, m_Quota))) (fun k => []) := by
  refine Tr.intro Tryz.func169 rfl (n := 18) rfl (by decide +kernel) (Nat.le_of_ble_eq_true rfl) (fr := [(0, .slice a_s m_s c_s), (1, .agg #[.int .i64 m_Rel, .slice a_m_Inputs m_m_Inputs c_m_Inputs, .int .i64 m_Limit, .int .i64 m_Cost, .int .i64 m_Quota])]) rfl fun w L hR => ?_
  obtain ⟨hs, i6m_Rel, hm_Inputs, i6m_Limit, i6m_Cost, i6m_Quota⟩ := hR
  obtain ⟨rfl, ls⟩ := hs.slen
  obtain ⟨rfl, lm_Inputs⟩ := hm_Inputs.slen
  refine E.seq (E.region (l := [0, 1]) rfl (E.st rfl rfl (N.box (cs := [_, _, _, _, _]) rfl (by decide) rfl) (fun b3 _ => ?_)))
  refine E.y rfl rfl (by decide) ((Y.as rfl).yd) ?_
  refine E.nil (E.thn (E.seq (D.region (fun j => true) mixed (D.yp 0 rfl rfl (by decide) (Y.mv rfl) (by kernel_rfl) ?_))))
  refine D.yp 1 rfl rfl (by decide) (Y.fld fo_Method_0 ty_I (by decide) rfl) (by kernel_rfl) ?_
  refine D.y 2 rfl rfl (by decide) (Y.ld1 ty_I rfl ((Has.pt m0).sub (cs' := [_]) 0 rfl) rfl) (by kernel_rfl) ?_
  refine D.st 3 rfl rfl (by kernel_rfl) (fun _ => rfl) (N.call0 t_impl_hasRel rfl rfl rfl (by decide) (fun w Lp hA => hA.ro hs)) (fun _ _ => (Ent.b (fun q8 => ?_) (fun q8 => ?_)))
  · obtain ⟨z1, z2, z3, z4⟩ := okRel_lt q8
    rw [getD_get (by omega)] at z3 z4
    refine D.yp 4 rfl rfl (by decide) (Y.mv rfl) (by kernel_rfl) ?_
    refine D.y 5 rfl rfl (by decide) (Y.ldS (cs := [_, _, _, _, _]) ty_Method rfl (Has.pt m0) rfl) (by kernel_rfl) ?_
    refine D.yp 6 rfl rfl (by decide) (Y.mv rfl) (by kernel_rfl) ?_
    refine D.yp 7 rfl rfl (by decide) (Y.fld fo_Method_0 ty_I (by decide) rfl) (by kernel_rfl) ?_
    refine D.y 8 rfl rfl (by decide) (Y.ld1 ty_I rfl ((Has.pt m0).sub (cs' := [_]) 0 rfl) rfl) (by kernel_rfl) ?_
    obtain ⟨eb14, eo14, ea14, ei14, eh14⟩ := hs.elemI m_Rel.toNat (by omega)
    refine D.yp 9 rfl rfl (by decide) (Y.ix us_Is ty_I rfl ea14 rfl m_Rel.toNat (by omega) (by omega)) (by kernel_rfl) ?_
    refine D.y 10 rfl rfl (by decide) (Y.ld1 ty_I rfl (eh14 _) rfl) (by kernel_rfl) ?_
    refine D.st 11 rfl rfl (by kernel_rfl) (fun _ => rfl) (N.call0 t_impl_Method_fits rfl rfl rfl (by decide) (fun w Lp hA => ⟨i6m_Rel, hA.ro hm_Inputs, i6m_Limit, i6m_Cost, i6m_Quota, (by first | assumption | omega), (by first | assumption | omega)⟩)) (fun _ _ => ?_)
    refine D.yp 12 rfl rfl (by decide) (Y.pkt rfl rfl) (by kernel_rfl) ?_
    refine D.yp 13 rfl rfl (by decide) (Y.as rfl) (by kernel_rfl) ?_
    exact D.done (by kernel_rfl) (E.thn (E.ret (F.r1 (Back.refl _ _) rfl rfl () trivial (congrArg Value.bool (by grind [okMeth, at0_get, List.drop_eq_getElem_cons, List.drop_eq_nil_of_le, List.take_succ_eq_append_getElem, List.take_of_length_le])) (J := _) (.refl _) (.inl rfl))))
  · refine D.yp 4 rfl rfl (by decide) (Y.mv rfl) (by kernel_rfl) ?_
    refine D.skip 5 rfl rfl (by kernel_rfl) rfl ?_
    refine D.skip 6 rfl rfl (by kernel_rfl) rfl ?_
    refine D.skip 7 rfl rfl (by kernel_rfl) rfl ?_
    refine D.skip 8 rfl rfl (by kernel_rfl) rfl ?_
    refine D.skip 9 rfl rfl (by kernel_rfl) rfl ?_
    refine D.skip 10 rfl rfl (by kernel_rfl) rfl ?_
    refine D.skip 11 rfl rfl (by kernel_rfl) rfl ?_
    refine D.yp 12 rfl rfl (by decide) (Y.pkf rfl rfl) (by kernel_rfl) ?_
    refine D.yp 13 rfl rfl (by decide) (Y.as rfl) (by kernel_rfl) ?_
    exact D.done (by kernel_rfl) (E.thn (E.ret (F.r1 (Back.refl _ _) rfl rfl () trivial (congrArg Value.bool (by grind [okMeth, at0_get, List.drop_eq_getElem_cons, List.drop_eq_nil_of_le, List.take_succ_eq_append_getElem, List.take_of_length_le])) (J := _) (.refl _) (.inl rfl))))
theorem t_spec_IsMethod {a_s : Option Addr} {m_s c_s : Nat} {s : List Int} {m_Rel : Int} {a_m_Inputs : Option Addr} {m_m_Inputs c_m_Inputs : Nat} {m_Inputs : List Int} {m_Limit : Int} {m_Cost : Int} {m_Quota : Int} : Tr Tryz.prog 160 [.slice a_s m_s c_s, .agg #[.int .i64 m_Rel, .slice a_m_Inputs m_m_Inputs c_m_Inputs, .int .i64 m_Limit, .int .i64 m_Cost, .int .i64 m_Quota]] (fun w L => Ro w L eIs [.slice a_s m_s c_s] s ∧ I64 m_Rel ∧ Ro w L eIs [.slice a_m_Inputs m_m_Inputs c_m_Inputs] m_Inputs ∧ I64 m_Limit ∧ I64 m_Cost ∧ I64 m_Quota) [] (κ := Unit) (fun k => True) (fun k => .bool (okMeth s (m_Rel, m_Inputs, m_Limit, m_Cost, m_Quota))) (fun k => []) := by
  refine Tr.intro Tryz.func160 rfl (n := 74) rfl (by decide +kernel) (Nat.le_of_ble_eq_true rfl) (fr := [(0, .slice a_s m_s c_s), (1, .agg #[.int .i64 m_Rel, .slice a_m_Inputs m_m_Inputs c_m_Inputs, .int .i64 m_Limit, .int .i64 m_Cost, .int .i64 m_Quota])]) rfl fun w L hR => ?_
  obtain ⟨hs, i6m_Rel, hm_Inputs, i6m_Limit, i6m_Cost, i6m_Quota⟩ := hR
  obtain ⟨rfl, ls⟩ := hs.slen
  obtain ⟨rfl, lm_Inputs⟩ := hm_Inputs.slen
  refine E.seq (E.region (l := [0, 1]) rfl (E.st rfl rfl (N.box (cs := [_, _, _, _, _]) rfl (by decide) rfl) (fun b3 _ => ?_)))
  refine E.y rfl rfl (by decide) ((Y.as rfl).yd) ?_
  refine E.nil (E.thn (E.seq (E.seq (E.region (l := [0, 1, 2, 3, 4, 5, 6, 7, 8, 9, 10, 11, 12, 13, 14, 15, 16, 17, 18, 19, 20, 21, 22, 23, 24, 25, 26, 27, 28, 29]) rfl (E.y rfl rfl (by decide) ((Y.mv rfl).yd) ?_)))))
  refine E.st rfl rfl (N.call0 t_spec_IsSchema rfl rfl rfl (by decide) (fun w Lp hA => hA.ro hs)) (fun _ _ => (Ent.b (fun q7 => ?_) (fun q7 => ?_)))
  · refine E.y rfl rfl (by decide) ((Y.not (b := true) rfl).yd) ?_
    refine E.y rfl rfl (by decide) ((Y.mv rfl).yd) ?_
    refine E.y rfl rfl (by decide) ((Y.fld fo_Method_0 ty_I (by decide) rfl).yd) ?_
    refine E.y rfl rfl (by decide) (Y.ld1 ty_I rfl ((Has.pt m0).sub (cs' := [_]) 0 rfl) rfl) ?_
    refine E.y rfl rfl (by decide) ((Y.mv rfl).yd) ?_
    refine E.y rfl rfl (by decide) ((Y.len us_Is rfl).yd) ?_
    refine E.y rfl rfl (by decide) ((Y.sub rfl rfl (by omega) (by omega)).yd) ?_
    refine E.st rfl rfl (N.call0 t_spec_l1In rfl rfl rfl (by decide) (fun w Lp hA => trivial)) (fun _ _ => (Ent.b (fun q15 => ?_) (fun q15 => ?_)))
    · have y1 : okRel s m_Rel = true := by rw [okRel, q7, q15]; rfl
      obtain ⟨z1, z2, z3, z4⟩ := okRel_lt y1
      rw [getD_get (by omega)] at z3 z4
      refine E.y rfl rfl (by decide) ((Y.not (b := true) rfl).yd) ?_
      refine E.y rfl rfl (by decide) ((Y.pkf rfl rfl).yd) ?_
      refine E.y rfl rfl (by decide) ((Y.mv rfl).yd) ?_
      refine E.y rfl rfl (by decide) ((Y.fld fo_Method_2 ty_I (by decide) rfl).yd) ?_
      refine E.y rfl rfl (by decide) (Y.ld1 ty_I rfl ((Has.pt m0).sub (cs' := [_]) 2 rfl) rfl) ?_
      refine E.st rfl rfl (N.call0 t_spec_l1In rfl rfl rfl (by decide) (fun w Lp hA => trivial)) (fun _ _ => (Ent.b (fun q21 => ?_) (fun q21 => ?_)))
      · refine E.y rfl rfl (by decide) ((Y.not (b := true) rfl).yd) ?_
        refine E.y rfl rfl (by decide) ((Y.pkf rfl rfl).yd) ?_
        refine E.y rfl rfl (by decide) ((Y.mv rfl).yd) ?_
        refine E.y rfl rfl (by decide) ((Y.fld fo_Method_3 ty_I (by decide) rfl).yd) ?_
        refine E.y rfl rfl (by decide) (Y.ld1 ty_I rfl ((Has.pt m0).sub (cs' := [_]) 3 rfl) rfl) ?_
        refine E.st rfl rfl (N.call0 t_spec_l1In rfl rfl rfl (by decide) (fun w Lp hA => trivial)) (fun _ _ => (Ent.b (fun q27 => ?_) (fun q27 => ?_)))
        · refine E.y rfl rfl (by decide) ((Y.not (b := true) rfl).yd) ?_
          refine E.y rfl rfl (by decide) ((Y.pkf rfl rfl).yd) ?_
          refine E.y rfl rfl (by decide) ((Y.mv rfl).yd) ?_
          refine E.y rfl rfl (by decide) ((Y.fld fo_Method_4 ty_I (by decide) rfl).yd) ?_
          refine E.y rfl rfl (by decide) (Y.ld1 ty_I rfl ((Has.pt m0).sub (cs' := [_]) 4 rfl) rfl) ?_
          refine E.st rfl rfl (N.call0 t_spec_l1In rfl rfl rfl (by decide) (fun w Lp hA => trivial)) (fun _ _ => (Ent.b (fun q33 => ?_) (fun q33 => ?_)))
          · refine E.y rfl rfl (by decide) ((Y.not (b := true) rfl).yd) ?_
            refine E.y rfl rfl (by decide) ((Y.pkf rfl rfl).yd) ?_
            refine E.nil (E.thn (E.cf rfl (E.skipc (E.thn (E.seq (E.seq (E.region (l := [0]) rfl (E.y rfl rfl (by decide) ((Y.as rfl).yd) ?_))))))))
            refine E.nil (E.thn (E.block (E.loop (κ := Nat) (fun g => g ≤ m_Inputs.length ∧ (okPos m_Inputs (at0 s m_Rel) && chainB ltB m_Inputs) = (okPos (m_Inputs.drop g) (at0 s m_Rel) && chainB ltB (m_Inputs.drop (g - 1)))) (fun g => [(0, .slice a_s s.length c_s), (3, .pointer (some ⟨b3, 0, none⟩)), (5, .int .i64 (↑g : Int))]) (fun g => [pt b3 115 [.int .i64 m_Rel, .slice a_m_Inputs m_Inputs.length c_m_Inputs, .int .i64 m_Limit, .int .i64 m_Cost, .int .i64 m_Quota]]) (fun g => m_Inputs.length - g) 0 ⟨Nat.zero_le _, by simp⟩ ⟨rfl, rfl, rfl, trivial⟩ (.refl _) (fun g pg => ?_))))
            obtain ⟨pk, pa⟩ := pg
            refine E.seq (E.seq (E.region (l := [0, 1, 2, 3, 4]) rfl (E.y rfl rfl (by decide) ((Y.mv rfl).yd) ?_)))
            refine E.y rfl rfl (by decide) ((Y.fld fo_Method_1 ty_Is (by decide) rfl).yd) ?_
            refine E.y rfl rfl (by decide) (Y.ld1 ty_Is rfl ((Has.pt m0).sub (cs' := [_]) 1 rfl) rfl) ?_
            refine E.y rfl rfl (by decide) ((Y.len us_Is rfl).yd) ?_
            refine E.y rfl rfl (by decide) ((Y.lss rfl rfl).yd) (Ent.d (fun q40 => ?_) (fun q40 => ?_))
            · refine E.nil (E.thn (E.ct rfl (E.skipc (E.thn (E.seq (E.block (E.seq (D.region (fun j => true) mixed (D.yp 0 rfl rfl (by decide) (Y.fld fo_Method_1 ty_Is (by decide) rfl) (by kernel_rfl) ?_)))))))))
              refine D.y 1 rfl rfl (by decide) (Y.ld1 ty_Is rfl ((Has.pt m0).sub (cs' := [_]) 1 rfl) rfl) (by kernel_rfl) ?_
              refine D.yp 2 rfl rfl (by decide) (Y.mv rfl) (by kernel_rfl) ?_
              obtain ⟨eb46, eo46, ea46, ei46, eh46⟩ := hm_Inputs.elemI g (by omega)
              refine D.yp 3 rfl rfl (by decide) (Y.ix us_Is ty_I rfl ea46 rfl g rfl (by omega)) (by kernel_rfl) ?_
              refine D.y 4 rfl rfl (by decide) (Y.ld1 ty_I rfl (eh46 _) rfl) (by kernel_rfl) ?_
              refine D.yp 5 rfl rfl (by decide) (Y.mv rfl) (by kernel_rfl) ?_
              refine D.yp 6 rfl rfl (by decide) (Y.fld fo_Method_0 ty_I (by decide) rfl) (by kernel_rfl) ?_
              refine D.y 7 rfl rfl (by decide) (Y.ld1 ty_I rfl ((Has.pt m0).sub (cs' := [_]) 0 rfl) rfl) (by kernel_rfl) ?_
              obtain ⟨eb51, eo51, ea51, ei51, eh51⟩ := hs.elemI m_Rel.toNat (by omega)
              refine D.yp 8 rfl rfl (by decide) (Y.ix us_Is ty_I rfl ea51 rfl m_Rel.toNat (by omega) (by omega)) (by kernel_rfl) ?_
              refine D.y 9 rfl rfl (by decide) (Y.ld1 ty_I rfl (eh51 _) rfl) (by kernel_rfl) ?_
              refine D.yp 10 rfl rfl (by decide) (Y.sub rfl rfl (by omega) (by omega)) (by kernel_rfl) ?_
              refine D.st 11 rfl rfl (by kernel_rfl) (fun _ => rfl) (N.call0 t_spec_l1In rfl rfl rfl (by decide) (fun w Lp hA => trivial)) (fun _ _ => (Ent.b (fun q54 => ?_) (fun q54 => ?_)))
              · refine D.yp 12 rfl rfl (by decide) (Y.not (b := true) rfl) (by kernel_rfl) ?_
                refine D.yp 13 rfl rfl (by decide) (Y.mv rfl) (by kernel_rfl) ?_
                refine D.yp 14 rfl rfl (by decide) (Y.mv rfl) (by kernel_rfl) ?_
                refine D.yp 15 rfl rfl (by decide) (Y.gtr rfl rfl) (by kernel_rfl) (Ent.d (fun q58 => ?_) (fun q58 => ?_))
                · refine D.yp 16 rfl rfl (by decide) (Y.mv rfl) (by kernel_rfl) ?_
                  refine D.yp 17 rfl rfl (by decide) (Y.fld fo_Method_1 ty_Is (by decide) rfl) (by kernel_rfl) ?_
                  refine D.y 18 rfl rfl (by decide) (Y.ld1 ty_Is rfl ((Has.pt m0).sub (cs' := [_]) 1 rfl) rfl) (by kernel_rfl) ?_
                  refine D.yp 19 rfl rfl (by decide) (Y.mv rfl) (by kernel_rfl) ?_
                  refine D.yp 20 rfl rfl (by decide) (Y.ix us_Is ty_I rfl ea46 rfl g rfl (by omega)) (by kernel_rfl) ?_
                  refine D.y 21 rfl rfl (by decide) (Y.ld1 ty_I rfl (eh46 _) rfl) (by kernel_rfl) ?_
                  refine D.yp 22 rfl rfl (by decide) (Y.fld fo_Method_1 ty_Is (by decide) rfl) (by kernel_rfl) ?_
                  refine D.y 23 rfl rfl (by decide) (Y.ld1 ty_Is rfl ((Has.pt m0).sub (cs' := [_]) 1 rfl) rfl) (by kernel_rfl) ?_
                  refine D.yp 24 rfl rfl (by decide) (Y.mv rfl) (by kernel_rfl) ?_
                  refine D.yp 25 rfl rfl (by decide) (Y.sub rfl rfl (by omega) (by omega)) (by kernel_rfl) ?_
                  obtain ⟨eb69, eo69, ea69, ei69, eh69⟩ := hm_Inputs.elemI (g - 1) (by omega)
                  refine D.yp 26 rfl rfl (by decide) (Y.ix us_Is ty_I rfl ea69 rfl (g - 1) (by omega) (by omega)) (by kernel_rfl) ?_
                  refine D.y 27 rfl rfl (by decide) (Y.ld1 ty_I rfl (eh69 _) rfl) (by kernel_rfl) ?_
                  refine D.yp 28 rfl rfl (by decide) (Y.leq rfl rfl) (by kernel_rfl) (Ent.d (fun q71 => ?_) (fun q71 => ?_))
                  · refine D.yp 29 rfl rfl (by decide) (Y.pkt rfl rfl) (by kernel_rfl) ?_
                    refine D.yp 30 rfl rfl (by decide) (Y.pkf rfl rfl) (by kernel_rfl) ?_
                    refine D.done (by kernel_rfl) (E.thn (E.ct rfl (E.seq (E.region (l := [0]) rfl (E.y rfl rfl (by decide) ((Y.as rfl).yd) ?_)))))
                    exact E.nil (E.thn (E.ret (E.blr (E.thr (E.thr (E.blr (E.thr (F.r1 (Back.refl _ _) rfl rfl () trivial (congrArg Value.bool (by grind [okMeth, fitsB, okRel, at0_get, okPos, chain_step, chain_zero, chain_end, ltB, List.drop_eq_getElem_cons, List.drop_eq_nil_of_le, List.take_succ_eq_append_getElem, List.take_of_length_le])) (J := _) (.refl _) (.inl rfl)))))))))
                  · refine D.yp 29 rfl rfl (by decide) (Y.pkt rfl rfl) (by kernel_rfl) ?_
                    refine D.yp 30 rfl rfl (by decide) (Y.pkf rfl rfl) (by kernel_rfl) ?_
                    refine D.done (by kernel_rfl) (E.thn (E.cf rfl (E.skipc (E.bln (E.thn (E.region (l := [0, 1, 2]) rfl (E.y rfl rfl (by decide) ((Y.mv rfl).yd) ?_)))))))
                    refine E.y rfl rfl (by decide) ((Y.add rfl rfl (by omega) (by omega)).yd) ?_
                    refine E.y rfl rfl (by decide) ((Y.as rfl).yd) ?_
                    exact E.nil (E.thn (E.again (Back.refl _ _) (g + 1) ⟨rfl, rfl, rfl, trivial⟩ (.refl _) ⟨by omega, by grind [okPos, chain_step, chain_zero, chain_end, ltB, at0_get, List.drop_eq_getElem_cons, List.drop_eq_nil_of_le, List.take_succ_eq_append_getElem, List.take_of_length_le]⟩ (by omega)))
                · refine D.yp 16 rfl rfl (by decide) (Y.mv rfl) (by kernel_rfl) ?_
                  refine D.skip 17 rfl rfl (by kernel_rfl) rfl ?_
                  refine D.skip 18 rfl rfl (by kernel_rfl) rfl ?_
                  refine D.skip 19 rfl rfl (by kernel_rfl) rfl ?_
                  refine D.skip 20 rfl rfl (by kernel_rfl) rfl ?_
                  refine D.skip 21 rfl rfl (by kernel_rfl) rfl ?_
                  refine D.skip 22 rfl rfl (by kernel_rfl) rfl ?_
                  refine D.skip 23 rfl rfl (by kernel_rfl) rfl ?_
                  refine D.skip 24 rfl rfl (by kernel_rfl) rfl ?_
                  refine D.skip 25 rfl rfl (by kernel_rfl) rfl ?_
                  refine D.skip 26 rfl rfl (by kernel_rfl) rfl ?_
                  refine D.skip 27 rfl rfl (by kernel_rfl) rfl ?_
                  refine D.skip 28 rfl rfl (by kernel_rfl) rfl ?_
                  refine D.yp 29 rfl rfl (by decide) (Y.pkf rfl rfl) (by kernel_rfl) ?_
                  refine D.yp 30 rfl rfl (by decide) (Y.pkf rfl rfl) (by kernel_rfl) ?_
                  refine D.done (by kernel_rfl) (E.thn (E.cf rfl (E.skipc (E.bln (E.thn (E.region (l := [0, 1, 2]) rfl (E.y rfl rfl (by decide) ((Y.mv rfl).yd) ?_)))))))
                  refine E.y rfl rfl (by decide) ((Y.add rfl rfl (by omega) (by omega)).yd) ?_
                  refine E.y rfl rfl (by decide) ((Y.as rfl).yd) ?_
                  exact E.nil (E.thn (E.again (Back.refl _ _) (g + 1) ⟨rfl, rfl, rfl, trivial⟩ (.refl _) ⟨by omega, by grind [okPos, chain_step, chain_zero, chain_end, ltB, at0_get, List.drop_eq_getElem_cons, List.drop_eq_nil_of_le, List.take_succ_eq_append_getElem, List.take_of_length_le]⟩ (by omega)))
              · refine D.yp 12 rfl rfl (by decide) (Y.not (b := false) rfl) (by kernel_rfl) ?_
                refine D.yp 13 rfl rfl (by decide) (Y.mv rfl) (by kernel_rfl) ?_
                refine D.skip 14 rfl rfl (by kernel_rfl) rfl ?_
                refine D.skip 15 rfl rfl (by kernel_rfl) rfl ?_
                refine D.sku 16 rfl rfl (by decide) (by kernel_rfl) ?_
                refine D.skip 17 rfl rfl (by kernel_rfl) rfl ?_
                refine D.skip 18 rfl rfl (by kernel_rfl) rfl ?_
                refine D.skip 19 rfl rfl (by kernel_rfl) rfl ?_
                refine D.skip 20 rfl rfl (by kernel_rfl) rfl ?_
                refine D.skip 21 rfl rfl (by kernel_rfl) rfl ?_
                refine D.skip 22 rfl rfl (by kernel_rfl) rfl ?_
                refine D.skip 23 rfl rfl (by kernel_rfl) rfl ?_
                refine D.skip 24 rfl rfl (by kernel_rfl) rfl ?_
                refine D.skip 25 rfl rfl (by kernel_rfl) rfl ?_
                refine D.skip 26 rfl rfl (by kernel_rfl) rfl ?_
                refine D.skip 27 rfl rfl (by kernel_rfl) rfl ?_
                refine D.skip 28 rfl rfl (by kernel_rfl) rfl ?_
                refine D.skip 29 rfl rfl (by kernel_rfl) rfl ?_
                refine D.yp 30 rfl rfl (by decide) (Y.pkt rfl rfl) (by kernel_rfl) ?_
                refine D.done (by kernel_rfl) (E.thn (E.ct rfl (E.seq (E.region (l := [0]) rfl (E.y rfl rfl (by decide) ((Y.as rfl).yd) ?_)))))
                exact E.nil (E.thn (E.ret (E.blr (E.thr (E.thr (E.blr (E.thr (F.r1 (Back.refl _ _) rfl rfl () trivial (congrArg Value.bool (by grind [okMeth, fitsB, okRel, at0_get, okPos, chain_step, chain_zero, chain_end, ltB, List.drop_eq_getElem_cons, List.drop_eq_nil_of_le, List.take_succ_eq_append_getElem, List.take_of_length_le])) (J := _) (.refl _) (.inl rfl)))))))))
            · refine E.nil (E.thn (E.cf rfl (E.exit (E.the (E.the (E.blh (E.thn (E.seq (E.region (l := [0]) rfl (E.y rfl rfl (by decide) ((Y.as rfl).yd) ?_))))))))))
              exact E.nil (E.thn (E.ret (F.r1 (Back.refl _ _) rfl rfl () trivial (congrArg Value.bool (by grind [okMeth, fitsB, okRel, at0_get, okPos, chain_step, chain_zero, chain_end, ltB, List.drop_eq_getElem_cons, List.drop_eq_nil_of_le, List.take_succ_eq_append_getElem, List.take_of_length_le])) (J := _) (.refl _) (.inl rfl))))
          · refine E.y rfl rfl (by decide) ((Y.not (b := false) rfl).yd) ?_
            refine E.y rfl rfl (by decide) ((Y.pkf rfl rfl).yd) ?_
            refine E.nil (E.thn (E.ct rfl (E.seq (E.region (l := [0]) rfl (E.y rfl rfl (by decide) ((Y.as rfl).yd) ?_)))))
            exact E.nil (E.thn (E.ret (E.thr (F.r1 (Back.refl _ _) rfl rfl () trivial (congrArg Value.bool (by grind [okMeth, fitsB, okRel, at0_get, okPos, chain_step, chain_zero, chain_end, ltB, List.drop_eq_getElem_cons, List.drop_eq_nil_of_le, List.take_succ_eq_append_getElem, List.take_of_length_le])) (J := _) (.refl _) (.inl rfl)))))
        · refine E.y rfl rfl (by decide) ((Y.not (b := false) rfl).yd) ?_
          refine E.y rfl rfl (by decide) ((Y.pkf rfl rfl).yd) ?_
          refine E.y rfl rfl (by decide) ((Y.mv rfl).yd) ?_
          refine E.skip rfl rfl rfl ?_
          refine E.skip rfl rfl rfl ?_
          refine E.skip rfl rfl rfl ?_
          refine E.skip rfl rfl rfl ?_
          refine E.y rfl rfl (by decide) ((Y.pkt rfl rfl).yd) ?_
          refine E.nil (E.thn (E.ct rfl (E.seq (E.region (l := [0]) rfl (E.y rfl rfl (by decide) ((Y.as rfl).yd) ?_)))))
          exact E.nil (E.thn (E.ret (E.thr (F.r1 (Back.refl _ _) rfl rfl () trivial (congrArg Value.bool (by grind [okMeth, fitsB, okRel, at0_get, okPos, chain_step, chain_zero, chain_end, ltB, List.drop_eq_getElem_cons, List.drop_eq_nil_of_le, List.take_succ_eq_append_getElem, List.take_of_length_le])) (J := _) (.refl _) (.inl rfl)))))
      · refine E.y rfl rfl (by decide) ((Y.not (b := false) rfl).yd) ?_
        refine E.y rfl rfl (by decide) ((Y.pkf rfl rfl).yd) ?_
        refine E.y rfl rfl (by decide) ((Y.mv rfl).yd) ?_
        refine E.skip rfl rfl rfl ?_
        refine E.skip rfl rfl rfl ?_
        refine E.skip rfl rfl rfl ?_
        refine E.skip rfl rfl rfl ?_
        refine E.y rfl rfl (by decide) ((Y.pkt rfl rfl).yd) ?_
        refine E.y rfl rfl (by decide) ((Y.mv rfl).yd) ?_
        refine E.skip rfl rfl rfl ?_
        refine E.skip rfl rfl rfl ?_
        refine E.skip rfl rfl rfl ?_
        refine E.skip rfl rfl rfl ?_
        refine E.y rfl rfl (by decide) ((Y.pkt rfl rfl).yd) ?_
        refine E.nil (E.thn (E.ct rfl (E.seq (E.region (l := [0]) rfl (E.y rfl rfl (by decide) ((Y.as rfl).yd) ?_)))))
        exact E.nil (E.thn (E.ret (E.thr (F.r1 (Back.refl _ _) rfl rfl () trivial (congrArg Value.bool (by grind [okMeth, fitsB, okRel, at0_get, okPos, chain_step, chain_zero, chain_end, ltB, List.drop_eq_getElem_cons, List.drop_eq_nil_of_le, List.take_succ_eq_append_getElem, List.take_of_length_le])) (J := _) (.refl _) (.inl rfl)))))
    · refine E.y rfl rfl (by decide) ((Y.not (b := false) rfl).yd) ?_
      refine E.y rfl rfl (by decide) ((Y.pkf rfl rfl).yd) ?_
      refine E.y rfl rfl (by decide) ((Y.mv rfl).yd) ?_
      refine E.skip rfl rfl rfl ?_
      refine E.skip rfl rfl rfl ?_
      refine E.skip rfl rfl rfl ?_
      refine E.skip rfl rfl rfl ?_
      refine E.y rfl rfl (by decide) ((Y.pkt rfl rfl).yd) ?_
      refine E.y rfl rfl (by decide) ((Y.mv rfl).yd) ?_
      refine E.skip rfl rfl rfl ?_
      refine E.skip rfl rfl rfl ?_
      refine E.skip rfl rfl rfl ?_
      refine E.skip rfl rfl rfl ?_
      refine E.y rfl rfl (by decide) ((Y.pkt rfl rfl).yd) ?_
      refine E.y rfl rfl (by decide) ((Y.mv rfl).yd) ?_
      refine E.skip rfl rfl rfl ?_
      refine E.skip rfl rfl rfl ?_
      refine E.skip rfl rfl rfl ?_
      refine E.skip rfl rfl rfl ?_
      refine E.y rfl rfl (by decide) ((Y.pkt rfl rfl).yd) ?_
      refine E.nil (E.thn (E.ct rfl (E.seq (E.region (l := [0]) rfl (E.y rfl rfl (by decide) ((Y.as rfl).yd) ?_)))))
      exact E.nil (E.thn (E.ret (E.thr (F.r1 (Back.refl _ _) rfl rfl () trivial (congrArg Value.bool (by grind [okMeth, fitsB, okRel, at0_get, okPos, chain_step, chain_zero, chain_end, ltB, List.drop_eq_getElem_cons, List.drop_eq_nil_of_le, List.take_succ_eq_append_getElem, List.take_of_length_le])) (J := _) (.refl _) (.inl rfl)))))
  · refine E.y rfl rfl (by decide) ((Y.not (b := false) rfl).yd) ?_
    refine E.y rfl rfl (by decide) ((Y.mv rfl).yd) ?_
    refine E.skip rfl rfl rfl ?_
    refine E.skip rfl rfl rfl ?_
    refine E.skip rfl rfl rfl ?_
    refine E.skip rfl rfl rfl ?_
    refine E.skip rfl rfl rfl ?_
    refine E.skip rfl rfl rfl ?_
    refine E.skip rfl rfl rfl ?_
    refine E.y rfl rfl (by decide) ((Y.pkt rfl rfl).yd) ?_
    refine E.y rfl rfl (by decide) ((Y.mv rfl).yd) ?_
    refine E.skip rfl rfl rfl ?_
    refine E.skip rfl rfl rfl ?_
    refine E.skip rfl rfl rfl ?_
    refine E.skip rfl rfl rfl ?_
    refine E.y rfl rfl (by decide) ((Y.pkt rfl rfl).yd) ?_
    refine E.y rfl rfl (by decide) ((Y.mv rfl).yd) ?_
    refine E.skip rfl rfl rfl ?_
    refine E.skip rfl rfl rfl ?_
    refine E.skip rfl rfl rfl ?_
    refine E.skip rfl rfl rfl ?_
    refine E.y rfl rfl (by decide) ((Y.pkt rfl rfl).yd) ?_
    refine E.y rfl rfl (by decide) ((Y.mv rfl).yd) ?_
    refine E.skip rfl rfl rfl ?_
    refine E.skip rfl rfl rfl ?_
    refine E.skip rfl rfl rfl ?_
    refine E.skip rfl rfl rfl ?_
    refine E.y rfl rfl (by decide) ((Y.pkt rfl rfl).yd) ?_
    refine E.nil (E.thn (E.ct rfl (E.seq (E.region (l := [0]) rfl (E.y rfl rfl (by decide) ((Y.as rfl).yd) ?_)))))
    exact E.nil (E.thn (E.ret (E.thr (F.r1 (Back.refl _ _) rfl rfl () trivial (congrArg Value.bool (by grind [okMeth, fitsB, okRel, at0_get, okPos, chain_step, chain_zero, chain_end, ltB, List.drop_eq_getElem_cons, List.drop_eq_nil_of_le, List.take_succ_eq_append_getElem, List.take_of_length_le])) (J := _) (.refl _) (.inl rfl)))))
theorem t_impl_AreMethods_1 {m_Rel : Int} {a_m_Inputs : Option Addr} {m_m_Inputs c_m_Inputs : Nat} {m_Inputs : List Int} {m_Limit : Int} {m_Cost : Int} {m_Quota : Int} {b_s : Nat} {a_s : Option Addr} {m_s c_s : Nat} {s : List Int} : Tr Tryz.prog 168 [.agg #[.int .i64 m_Rel, .slice a_m_Inputs m_m_Inputs c_m_Inputs, .int .i64 m_Limit, .int .i64 m_Cost, .int .i64 m_Quota], .pointer (some ⟨b_s, 0, none⟩)] (fun w L => (I64 m_Rel ∧ Ro w L eIs [.slice a_m_Inputs m_m_Inputs c_m_Inputs] m_Inputs ∧ I64 m_Limit ∧ I64 m_Cost ∧ I64 m_Quota) ∧ RoPt w L b_s [.slice a_s m_s c_s] ∧ Ro w L eIs [.slice a_s m_s c_s] s) [] (κ := Unit) (fun k => True) (fun k => .bool (!okMeth s (m_Rel, m_Inputs, m_Limit, m_Cost, m_Quota))) (fun k => []) := by
  refine Tr.intro Tryz.func168 rfl (n := 8) rfl (by decide +kernel) (Nat.le_of_ble_eq_true rfl) (fr := [(0, .agg #[.int .i64 m_Rel, .slice a_m_Inputs m_m_Inputs c_m_Inputs, .int .i64 m_Limit, .int .i64 m_Cost, .int .i64 m_Quota]), (1, .pointer (some ⟨b_s, 0, none⟩))]) rfl fun w L hR => ?_
  obtain ⟨⟨i6m_Rel, hm_Inputs, i6m_Limit, i6m_Cost, i6m_Quota⟩, hb_s, hs⟩ := hR
  obtain ⟨rfl, lm_Inputs⟩ := hm_Inputs.slen
  obtain ⟨rfl, ls⟩ := hs.slen
  refine E.seq (E.region (l := [0, 1]) rfl (E.st rfl rfl (N.box (cs := [_, _, _, _, _]) rfl (by decide) rfl) (fun b2 _ => ?_)))
  refine E.y rfl rfl (by decide) ((Y.as rfl).yd) ?_
  refine E.nil (E.thn (E.seq (E.region (l := [0, 1, 2, 3, 4]) rfl (E.y rfl rfl (by decide) (Y.ld1 ty_Is rfl (hb_s.has) rfl) ?_))))
  refine E.y rfl rfl (by decide) (Y.ldS (cs := [_, _, _, _, _]) ty_Method rfl (Has.pt m0) rfl) ?_
  refine E.st rfl rfl (N.call0 t_impl_IsMethod rfl rfl rfl (by decide) (fun w Lp hA => ⟨hA.ro hs, i6m_Rel, hA.ro hm_Inputs, i6m_Limit, i6m_Cost, i6m_Quota⟩)) (fun _ _ => ?_)
  refine E.y rfl rfl (by decide) ((Y.not rfl).yd) ?_
  refine E.y rfl rfl (by decide) ((Y.as rfl).yd) ?_
  exact E.nil (E.thn (E.ret (F.r1 (Back.refl _ _) rfl rfl () trivial (congrArg Value.bool (by grind [List.drop_eq_getElem_cons, List.drop_eq_nil_of_le, List.take_succ_eq_append_getElem, List.take_of_length_le])) (J := _) (.refl _) (.inl rfl))))
theorem t_impl_AreMethods {a_s : Option Addr} {m_s c_s : Nat} {s : List Int} {a_l : Option Addr} {m_l c_l : Nat} {l : List (Int × List Int × Int × Int × Int)} : Tr Tryz.prog 95 [.slice a_s m_s c_s, .slice a_l m_l c_l] (fun w L => Ro w L eIs [.slice a_s m_s c_s] s ∧ Ro w L eMethods [.slice a_l m_l c_l] l) [] (κ := Unit) (fun k => True) (fun k => .bool (okMeths s l)) (fun k => []) := by
  refine Tr.intro Tryz.func95 rfl (n := 18) rfl (by decide +kernel) (Nat.le_of_ble_eq_true rfl) (fr := [(0, .slice a_s m_s c_s), (1, .slice a_l m_l c_l)]) rfl fun w L hR => ?_
  obtain ⟨hs, hl⟩ := hR
  obtain ⟨rfl, ls⟩ := hs.slen
  obtain ⟨rfl, ll⟩ := hl.slen
  refine E.seq (E.region (l := [0, 1]) rfl (E.st rfl rfl (N.box (cs := [_]) rfl (by decide) rfl) (fun b2 _ => ?_)))
  refine E.y rfl rfl (by decide) ((Y.as rfl).yd) ?_
  refine E.nil (E.thn (E.seq (E.region (l := [0, 1, 2, 3, 4, 5, 6, 7, 8, 9, 10, 11, 12, 13]) rfl (E.y rfl rfl (by decide) (Y.ld1 ty_Is rfl (Has.pt m0) rfl) ?_))))
  refine E.st rfl rfl (N.call0 t_impl_IsSchema rfl rfl rfl (by decide) (fun w Lp hA => hA.ro hs)) (fun _ _ => (Ent.b (fun q6 => ?_) (fun q6 => ?_)))
  · refine E.y rfl rfl (by decide) ((Y.mv rfl).yd) ?_
    refine E.y rfl rfl (by decide) ((Y.mv rfl).yd) ?_
    refine E.y rfl rfl (by decide) ((Y.len us_Methods rfl).yd) ?_
    refine E.y rfl rfl (by decide) ((Y.leq rfl rfl).yd) (Ent.d (fun q10 => ?_) (fun q10 => ?_))
    · refine E.y rfl rfl (by decide) ((Y.pkt rfl rfl).yd) ?_
      refine E.y rfl rfl (by decide) ((Y.mv rfl).yd) ?_
      refine E.y rfl rfl (by decide) ((Y.mv rfl).yd) ?_
      refine E.y rfl rfl (by decide) ((Y.fn (vs := [_]) rfl).yd) ?_
      refine E.st rfl rfl (N.call0 (t_ContainsFunc_Method (f := (fun z => !okMeth s z)) (D_f := (fun _ => True)) (by intros; exact trivial)) rfl rfl rfl (by decide) (fun w Lp hA => ⟨hA.ro hl, FnP.ofMethod (D := (fun _ => True)) (fun hd => t_impl_AreMethods_1) (fun w' hk => ⟨(hA.pt m0).keep hk, (hA.ro hs).keep hk⟩)⟩)) (fun _ _ => ?_)
      refine E.y rfl rfl (by decide) ((Y.not rfl).yd) ?_
      refine E.y rfl rfl (by decide) ((Y.pkt rfl rfl).yd) ?_
      refine E.y rfl rfl (by decide) ((Y.as rfl).yd) ?_
      exact E.nil (E.thn (E.ret (F.r1 (Back.refl _ _) rfl rfl () trivial (congrArg Value.bool (by grind [okMeths, List.drop_eq_getElem_cons, List.drop_eq_nil_of_le, List.take_succ_eq_append_getElem, List.take_of_length_le])) (J := _) (.refl _) (.inl rfl))))
    · refine E.y rfl rfl (by decide) ((Y.pkt rfl rfl).yd) ?_
      refine E.y rfl rfl (by decide) ((Y.mv rfl).yd) ?_
      refine E.skip rfl rfl rfl ?_
      refine E.skip rfl rfl rfl ?_
      refine E.skip rfl rfl rfl ?_
      refine E.skip rfl rfl rfl ?_
      refine E.y rfl rfl (by decide) ((Y.pkf rfl rfl).yd) ?_
      refine E.y rfl rfl (by decide) ((Y.as rfl).yd) ?_
      exact E.nil (E.thn (E.ret (F.r1 (Back.refl _ _) rfl rfl () trivial (congrArg Value.bool (by grind [okMeths, List.drop_eq_getElem_cons, List.drop_eq_nil_of_le, List.take_succ_eq_append_getElem, List.take_of_length_le])) (J := _) (.refl _) (.inl rfl))))
  · refine E.y rfl rfl (by decide) ((Y.mv rfl).yd) ?_
    refine E.skip rfl rfl rfl ?_
    refine E.skip rfl rfl rfl ?_
    refine E.skip rfl rfl rfl ?_
    refine E.y rfl rfl (by decide) ((Y.pkf rfl rfl).yd) ?_
    refine E.y rfl rfl (by decide) ((Y.mv rfl).yd) ?_
    refine E.skip rfl rfl rfl ?_
    refine E.skip rfl rfl rfl ?_
    refine E.skip rfl rfl rfl ?_
    refine E.skip rfl rfl rfl ?_
    refine E.y rfl rfl (by decide) ((Y.pkf rfl rfl).yd) ?_
    refine E.y rfl rfl (by decide) ((Y.as rfl).yd) ?_
    exact E.nil (E.thn (E.ret (F.r1 (Back.refl _ _) rfl rfl () trivial (congrArg Value.bool (by grind [okMeths, List.drop_eq_getElem_cons, List.drop_eq_nil_of_le, List.take_succ_eq_append_getElem, List.take_of_length_le])) (J := _) (.refl _) (.inl rfl))))
theorem t_spec_AreMethods {a_s : Option Addr} {m_s c_s : Nat} {s : List Int} {a_l : Option Addr} {m_l c_l : Nat} {l : List (Int × List Int × Int × Int × Int)} : Tr Tryz.prog 89 [.slice a_s m_s c_s, .slice a_l m_l c_l] (fun w L => Ro w L eIs [.slice a_s m_s c_s] s ∧ Ro w L eMethods [.slice a_l m_l c_l] l) [] (κ := Unit) (fun k => True) (fun k => .bool (okMeths s l)) (fun k => []) := by
  refine Tr.intro Tryz.func89 rfl (n := 26) rfl (by decide +kernel) (Nat.le_of_ble_eq_true rfl) (fr := [(0, .slice a_s m_s c_s), (1, .slice a_l m_l c_l)]) rfl fun w L hR => ?_
  obtain ⟨hs, hl⟩ := hR
  obtain ⟨rfl, ls⟩ := hs.slen
  obtain ⟨rfl, ll⟩ := hl.slen
  refine E.seq (E.region (l := [0]) rfl (E.y rfl rfl (by decide) ((Y.as rfl).yd) ?_))
  refine E.nil (E.thn (E.seq (E.seq (E.region (l := [0]) rfl (E.y rfl rfl (by decide) ((Y.as rfl).yd) ?_)))))
  refine E.nil (E.thn (E.block (E.loop (κ := Nat) (fun g => g ≤ l.length ∧ l.any (fun m => !okMeth s m) = (l.drop g).any (fun m => !okMeth s m)) (fun g => [(0, .slice a_s s.length c_s), (1, .slice a_l l.length c_l), (5, .int .i64 (↑g : Int))]) (fun g => []) (fun g => l.length - g) 0 ⟨Nat.zero_le _, by simp⟩ ⟨rfl, rfl, rfl, trivial⟩ (.refl _) (fun g pg => ?_))))
  obtain ⟨pk, pa⟩ := pg
  refine E.seq (E.seq (E.region (l := [0, 1, 2, 3]) rfl (E.y rfl rfl (by decide) ((Y.mv rfl).yd) ?_)))
  refine E.y rfl rfl (by decide) ((Y.mv rfl).yd) ?_
  refine E.y rfl rfl (by decide) ((Y.len us_Methods rfl).yd) ?_
  refine E.y rfl rfl (by decide) ((Y.lss rfl rfl).yd) (Ent.d (fun q9 => ?_) (fun q9 => ?_))
  · refine E.nil (E.thn (E.ct rfl (E.skipc (E.thn (E.seq (E.block (E.seq (E.region (l := [0, 1, 2, 3, 4, 5, 6]) rfl (E.y rfl rfl (by decide) ((Y.mv rfl).yd) ?_)))))))))
    refine E.y rfl rfl (by decide) ((Y.mv rfl).yd) ?_
    refine E.y rfl rfl (by decide) ((Y.mv rfl).yd) ?_
    obtain ⟨eb15, eo15, ec15, ea15, er15, el15, eh15⟩ := hl.elem g (by omega)
    obtain ⟨xa15_0, xc15_0, rfl, ei15_0, xh15_0, ei15_2, ei15_3, ei15_4⟩ := Ro.pMethod er15
    have := xh15_0.slen.2
    refine E.y rfl rfl (by decide) ((Y.ix us_Methods ty_Method rfl ea15 rfl g rfl (by omega)).yd) ?_
    refine E.y rfl rfl (by decide) (Y.ldS (cs := [_, _, _, _, _]) ty_Method rfl (eh15 _) rfl) ?_
    refine E.st rfl rfl (N.call0 t_spec_IsMethod rfl rfl rfl (by decide) (fun w Lp hA => ⟨hA.ro hs, ei15_0, hA.ro xh15_0, ei15_2, ei15_3, ei15_4⟩)) (fun _ _ => (Ent.b (fun q17 => ?_) (fun q17 => ?_)))
    · refine E.y rfl rfl (by decide) ((Y.not (b := true) rfl).yd) ?_
      refine E.nil (E.thn (E.cf rfl (E.skipc (E.bln (E.thn (E.region (l := [0, 1, 2]) rfl (E.y rfl rfl (by decide) ((Y.mv rfl).yd) ?_)))))))
      refine E.y rfl rfl (by decide) ((Y.add rfl rfl (by omega) (by omega)).yd) ?_
      refine E.y rfl rfl (by decide) ((Y.as rfl).yd) ?_
      exact E.nil (E.thn (E.again (Back.refl _ _) (g + 1) ⟨rfl, rfl, rfl, trivial⟩ (.refl _) ⟨by omega, by grind [List.drop_eq_getElem_cons, List.drop_eq_nil_of_le, List.take_succ_eq_append_getElem, List.take_of_length_le]⟩ (by omega)))
    · refine E.y rfl rfl (by decide) ((Y.not (b := false) rfl).yd) ?_
      refine E.nil (E.thn (E.ct rfl (E.seq (E.region (l := [0]) rfl (E.y rfl rfl (by decide) ((Y.as rfl).yd) ?_)))))
      exact E.nil (E.thn (E.ret (E.blr (E.thr (E.thr (E.blr (E.thr (F.r1 (Back.refl _ _) rfl rfl () trivial (congrArg Value.bool (by grind [okMeths, List.drop_eq_getElem_cons, List.drop_eq_nil_of_le, List.take_succ_eq_append_getElem, List.take_of_length_le])) (J := _) (.refl _) (.inl rfl)))))))))
  · refine E.nil (E.thn (E.cf rfl (E.exit (E.the (E.the (E.blh (E.thn (E.seq (E.region (l := [0, 1, 2, 3, 4, 5, 6, 7]) rfl (E.y rfl rfl (by decide) ((Y.mv rfl).yd) ?_))))))))))
    refine E.st rfl rfl (N.call0 t_spec_IsSchema rfl rfl rfl (by decide) (fun w Lp hA => hA.ro hs)) (fun _ _ => (Ent.b (fun q20 => ?_) (fun q20 => ?_)))
    · refine E.y rfl rfl (by decide) ((Y.mv rfl).yd) ?_
      refine E.y rfl rfl (by decide) ((Y.mv rfl).yd) ?_
      refine E.y rfl rfl (by decide) ((Y.len us_Methods rfl).yd) ?_
      refine E.y rfl rfl (by decide) ((Y.leq rfl rfl).yd) ?_
      refine E.y rfl rfl (by decide) ((Y.pkt rfl rfl).yd) ?_
      refine E.y rfl rfl (by decide) ((Y.as rfl).yd) ?_
      exact E.nil (E.thn (E.ret (F.r1 (Back.refl _ _) rfl rfl () trivial (congrArg Value.bool (by grind [okMeths, List.drop_eq_getElem_cons, List.drop_eq_nil_of_le, List.take_succ_eq_append_getElem, List.take_of_length_le])) (J := _) (.refl _) (.inl rfl))))
    · refine E.y rfl rfl (by decide) ((Y.mv rfl).yd) ?_
      refine E.skip rfl rfl rfl ?_
      refine E.skip rfl rfl rfl ?_
      refine E.skip rfl rfl rfl ?_
      refine E.y rfl rfl (by decide) ((Y.pkf rfl rfl).yd) ?_
      refine E.y rfl rfl (by decide) ((Y.as rfl).yd) ?_
      exact E.nil (E.thn (E.ret (F.r1 (Back.refl _ _) rfl rfl () trivial (congrArg Value.bool (by grind [okMeths, List.drop_eq_getElem_cons, List.drop_eq_nil_of_le, List.take_succ_eq_append_getElem, List.take_of_length_le])) (J := _) (.refl _) (.inl rfl))))
end Go.Proofs.YtfnagmokplpnjaaGreat
