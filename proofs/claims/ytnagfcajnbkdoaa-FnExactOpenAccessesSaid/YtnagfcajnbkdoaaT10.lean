import Derived.Test.YtnagfcajnbkdoaaT8
import Derived.Test.YtnagfcajnbkdoaaT6
import Derived.Test.YtnagfcajnbkdoaaDi
namespace Go.Proofs.Ytnagfcajnbkdoaa
open Go.RowKit
set_option linter.unusedVariables false
set_option linter.unusedSimpArgs false
set_option maxHeartbeats 2000000
attribute [local irreducible] Nop Yd Yp Ent Has Tr FnP FnP2 Src listsF opnF opn1 opnR chainB
theorem t_impl_ascending {a_l : Option Addr} {m_l c_l : Nat} {l : List Int} : Tr Try.prog 182 [.slice a_l m_l c_l] (fun w L => Ro w L eIs [.slice a_l m_l c_l] l) [] (κ := Unit) (fun k => True) (fun k => .bool (chainB ltB l)) (fun k => []) := by
  refine Tr.intro Try.func182 rfl (n := 24) rfl (by decide +kernel) (Nat.le_of_ble_eq_true rfl) (fr := [(0, .slice a_l m_l c_l)]) rfl fun w L hR => ?_
  have hl := hR
  obtain ⟨rfl, ll⟩ := hl.slen
  refine E.seq (E.region (l := [0]) rfl (E.y rfl rfl (by decide) ((Y.as rfl).yd) ?_))
  refine E.nil (E.thn (E.seq (E.seq (E.region (l := [0, 1, 2]) rfl (E.y rfl rfl (by decide) ((Y.mv rfl).yd) ?_)))))
  refine E.y rfl rfl (by decide) ((Y.len us_Is rfl).yd) ?_
  refine E.y rfl rfl (by decide) ((Y.mv rfl).yd) ?_
  refine E.nil (E.thn (E.block (E.loop (κ := Nat) (fun g => g ≤ l.length ∧ chainB ltB l = chainB ltB (l.drop (g - 1))) (fun g => [(0, .slice a_l l.length c_l), (5, .int .i64 (↑l.length : Int)), (6, .int .i64 (↑g : Int))]) (fun g => []) (fun g => l.length - g) 0 ⟨Nat.zero_le _, by simp⟩ ⟨rfl, rfl, rfl, trivial⟩ (.refl _) (fun g pg => ?_))))
  obtain ⟨pk, pa⟩ := pg
  refine E.seq (E.region (l := [0]) rfl (E.y rfl rfl (by decide) ((Y.lss rfl rfl).yd) (Ent.d (fun q7 => ?_) (fun q7 => ?_))))
  · refine E.nil (E.thn (E.seq (E.ct rfl (E.skipc (E.thn (E.seq (E.block (E.seq (E.region (l := [0, 1]) rfl (E.y rfl rfl (by decide) ((Y.mv rfl).yd) ?_))))))))))
    refine E.y rfl rfl (by decide) ((Y.as rfl).yd) ?_
    refine E.nil (E.thn (E.seq (D.region (fun j => true) mixed (D.yp 0 rfl rfl (by decide) (Y.mv rfl) (by kernel_rfl) ?_))))
    refine D.yp 1 rfl rfl (by decide) (Y.gtr rfl rfl) (by kernel_rfl) (Ent.d (fun q10 => ?_) (fun q10 => ?_))
    · refine D.yp 2 rfl rfl (by decide) (Y.mv rfl) (by kernel_rfl) ?_
      refine D.yp 3 rfl rfl (by decide) (Y.mv rfl) (by kernel_rfl) ?_
      refine D.yp 4 rfl rfl (by decide) (Y.mv rfl) (by kernel_rfl) ?_
      obtain ⟨eb14, eo14, ea14, ei14, eh14⟩ := hl.elemI g (by omega)
      refine D.yp 5 rfl rfl (by decide) (Y.ix us_Is ty_I rfl ea14 rfl g rfl (by omega)) (by kernel_rfl) ?_
      refine D.y 6 rfl rfl (by decide) (Y.ld1 ty_I rfl (eh14 _) rfl) (by kernel_rfl) ?_
      refine D.yp 7 rfl rfl (by decide) (Y.mv rfl) (by kernel_rfl) ?_
      refine D.yp 8 rfl rfl (by decide) (Y.mv rfl) (by kernel_rfl) ?_
      refine D.yp 9 rfl rfl (by decide) (Y.sub rfl rfl (by omega) (by omega)) (by kernel_rfl) ?_
      obtain ⟨eb19, eo19, ea19, ei19, eh19⟩ := hl.elemI (g - 1) (by omega)
      refine D.yp 10 rfl rfl (by decide) (Y.ix us_Is ty_I rfl ea19 rfl (g - 1) (by omega) (by omega)) (by kernel_rfl) ?_
      refine D.y 11 rfl rfl (by decide) (Y.ld1 ty_I rfl (eh19 _) rfl) (by kernel_rfl) ?_
      refine D.yp 12 rfl rfl (by decide) (Y.leq rfl rfl) (by kernel_rfl) (Ent.d (fun q21 => ?_) (fun q21 => ?_))
      · refine D.yp 13 rfl rfl (by decide) (Y.pkt rfl rfl) (by kernel_rfl) ?_
        refine D.done (by kernel_rfl) (E.thn (E.ct rfl (E.seq (E.region (l := [0]) rfl (E.y rfl rfl (by decide) ((Y.as rfl).yd) ?_)))))
        exact E.nil (E.thn (E.ret (E.blr (E.thr (E.thr (E.blr (E.thr (F.r1 (Back.refl _ _) rfl rfl () trivial (congrArg Value.bool (by grind [chain_step, chain_zero, chain_end, ltB, List.drop_eq_getElem_cons, List.drop_eq_nil_of_le, List.take_succ_eq_append_getElem, List.take_of_length_le])) (J := _) (.refl _) (.inl rfl)))))))))
      · refine D.yp 13 rfl rfl (by decide) (Y.pkt rfl rfl) (by kernel_rfl) ?_
        refine D.done (by kernel_rfl) (E.thn (E.cf rfl (E.skipc (E.bln (E.thn (E.region (l := [0, 1]) rfl (E.y rfl rfl (by decide) ((Y.add rfl rfl (by omega) (by omega)).yd) ?_)))))))
        refine E.y rfl rfl (by decide) ((Y.mv rfl).yd) ?_
        exact E.nil (E.thn (E.again (Back.refl _ _) (g + 1) ⟨rfl, rfl, rfl, trivial⟩ (.refl _) ⟨by omega, by grind [chain_step, chain_zero, chain_end, ltB, List.drop_eq_getElem_cons, List.drop_eq_nil_of_le, List.take_succ_eq_append_getElem, List.take_of_length_le]⟩ (by omega)))
    · refine D.yp 2 rfl rfl (by decide) (Y.mv rfl) (by kernel_rfl) ?_
      refine D.skip 3 rfl rfl (by kernel_rfl) rfl ?_
      refine D.skip 4 rfl rfl (by kernel_rfl) rfl ?_
      refine D.skip 5 rfl rfl (by kernel_rfl) rfl ?_
      refine D.skip 6 rfl rfl (by kernel_rfl) rfl ?_
      refine D.skip 7 rfl rfl (by kernel_rfl) rfl ?_
      refine D.skip 8 rfl rfl (by kernel_rfl) rfl ?_
      refine D.skip 9 rfl rfl (by kernel_rfl) rfl ?_
      refine D.skip 10 rfl rfl (by kernel_rfl) rfl ?_
      refine D.skip 11 rfl rfl (by kernel_rfl) rfl ?_
      refine D.skip 12 rfl rfl (by kernel_rfl) rfl ?_
      refine D.yp 13 rfl rfl (by decide) (Y.pkf rfl rfl) (by kernel_rfl) ?_
      refine D.done (by kernel_rfl) (E.thn (E.cf rfl (E.skipc (E.bln (E.thn (E.region (l := [0, 1]) rfl (E.y rfl rfl (by decide) ((Y.add rfl rfl (by omega) (by omega)).yd) ?_)))))))
      refine E.y rfl rfl (by decide) ((Y.mv rfl).yd) ?_
      exact E.nil (E.thn (E.again (Back.refl _ _) (g + 1) ⟨rfl, rfl, rfl, trivial⟩ (.refl _) ⟨by omega, by grind [chain_step, chain_zero, chain_end, ltB, List.drop_eq_getElem_cons, List.drop_eq_nil_of_le, List.take_succ_eq_append_getElem, List.take_of_length_le]⟩ (by omega)))
  · refine E.nil (E.thn (E.seq (E.cf rfl (E.exit (E.the (E.the (E.blh (E.thn (E.seq (E.region (l := [0]) rfl (E.y rfl rfl (by decide) ((Y.as rfl).yd) ?_)))))))))))
    exact E.nil (E.thn (E.ret (F.r1 (Back.refl _ _) rfl rfl () trivial (congrArg Value.bool (by grind [chain_step, chain_zero, chain_end, ltB, List.drop_eq_getElem_cons, List.drop_eq_nil_of_le, List.take_succ_eq_append_getElem, List.take_of_length_le])) (J := _) (.refl _) (.inl rfl))))
theorem t_impl_Method_fits_1 {i : Int} {b_arity : Nat} {arity : Int} : Tr Try.prog 231 [.int .i64 i, .pointer (some ⟨b_arity, 0, none⟩)] (fun w L => (I64 i) ∧ RoPt w L b_arity [.int .i64 arity] ∧ -1000 ≤ arity ∧ arity ≤ 1000) [] (κ := Unit) (fun k => True) (fun k => .bool (!inR i 0 (arity - 1))) (fun k => []) := by
  refine Tr.intro Try.func231 rfl (n := 9) rfl (by decide +kernel) (Nat.le_of_ble_eq_true rfl) (fr := [(0, .int .i64 i), (1, .pointer (some ⟨b_arity, 0, none⟩))]) rfl fun w L hR => ?_
  obtain ⟨i6i, hb_arity, as0, as1⟩ := hR
  refine E.seq (E.region (l := [0]) rfl (E.y rfl rfl (by decide) ((Y.as rfl).yd) ?_))
  refine E.nil (E.thn (E.seq (E.region (l := [0, 1, 2, 3, 4, 5]) rfl (E.y rfl rfl (by decide) ((Y.mv rfl).yd) ?_))))
  refine E.y rfl rfl (by decide) (Y.ld1 ty_I rfl (hb_arity.has) rfl) ?_
  refine E.y rfl rfl (by decide) ((Y.sub rfl rfl (by omega) (by omega)).yd) ?_
  refine E.st rfl rfl (N.call0 t_impl_within rfl rfl rfl (by decide) (fun w Lp hA => trivial)) (fun _ _ => ?_)
  refine E.y rfl rfl (by decide) ((Y.not rfl).yd) ?_
  refine E.y rfl rfl (by decide) ((Y.as rfl).yd) ?_
  exact E.nil (E.thn (E.ret (F.r1 (Back.refl _ _) rfl rfl () trivial (congrArg Value.bool (by grind [List.drop_eq_getElem_cons, List.drop_eq_nil_of_le, List.take_succ_eq_append_getElem, List.take_of_length_le])) (J := _) (.refl _) (.inl rfl))))
theorem t_impl_isCost {n : Int} : Tr Try.prog 232 [.int .i64 n] (fun w L => True) [] (κ := Unit) (fun k => True) (fun k => .bool (inR n 0 99)) (fun k => []) := by
  refine Tr.intro Try.func232 rfl (n := 5) rfl (by decide +kernel) (Nat.le_of_ble_eq_true rfl) (fr := [(0, .int .i64 n)]) rfl fun w L hR => ?_
  refine E.seq (E.region (l := [0]) rfl (E.y rfl rfl (by decide) ((Y.as rfl).yd) ?_))
  refine E.nil (E.thn (E.seq (E.region (l := [0, 1, 2]) rfl (E.y rfl rfl (by decide) ((Y.mv rfl).yd) ?_))))
  refine E.st rfl rfl (N.call0 t_impl_within rfl rfl rfl (by decide) (fun w Lp hA => trivial)) (fun _ _ => ?_)
  refine E.y rfl rfl (by decide) ((Y.as rfl).yd) ?_
  exact E.nil (E.thn (E.ret (F.r1 (Back.refl _ _) rfl rfl () trivial rfl (J := _) (.refl _) (.inl rfl))))
theorem t_impl_Method_fits {m_Rel : Int} {a_m_Inputs : Option Addr} {m_m_Inputs c_m_Inputs : Nat} {m_Inputs : List Int} {m_Limit : Int} {m_Cost : Int} {m_Quota : Int} {arity : Int} : Tr Try.prog 215 [.agg #[.int .i64 m_Rel, .slice a_m_Inputs m_m_Inputs c_m_Inputs, .int .i64 m_Limit, .int .i64 m_Cost, .int .i64 m_Quota], .int .i64 arity] (fun w L => I64 m_Rel ∧ Ro w L eIs [.slice a_m_Inputs m_m_Inputs c_m_Inputs] m_Inputs ∧ I64 m_Limit ∧ I64 m_Cost ∧ I64 m_Quota ∧ -1000 ≤ arity ∧ arity ≤ 1000) [] (κ := Unit) (fun k => True) (fun k => .bool (fitsB (m_Rel, m_Inputs, m_Limit, m_Cost, m_Quota) arity)) (fun k => []) := by
  refine Tr.intro Try.func215 rfl (n := 30) rfl (by decide +kernel) (Nat.le_of_ble_eq_true rfl) (fr := [(0, .agg #[.int .i64 m_Rel, .slice a_m_Inputs m_m_Inputs c_m_Inputs, .int .i64 m_Limit, .int .i64 m_Cost, .int .i64 m_Quota]), (1, .int .i64 arity)]) rfl fun w L hR => ?_
  obtain ⟨i6m_Rel, hm_Inputs, i6m_Limit, i6m_Cost, i6m_Quota, as0, as1⟩ := hR
  obtain ⟨rfl, lm_Inputs⟩ := hm_Inputs.slen
  refine E.seq (E.region (l := [0, 1, 2]) rfl (E.st rfl rfl (N.box (cs := [_, _, _, _, _]) rfl (by decide) rfl) (fun b2 _ => ?_)))
  refine E.st rfl rfl (N.box (cs := [_]) rfl (by decide) rfl) (fun b3 _ => ?_)
  refine E.y rfl rfl (by decide) ((Y.as rfl).yd) ?_
  refine E.nil (E.thn (E.seq (E.region (l := [0, 1, 2, 3, 4, 5, 6, 7, 8, 9, 10, 11, 12, 13, 14, 15, 16, 17, 18, 19, 20, 21, 22, 23, 24, 25]) rfl (E.y rfl rfl (by decide) ((Y.fld fo_Method_1 ty_Is (by decide) rfl).yd) ?_))))
  refine E.y rfl rfl (by decide) (Y.ld1 ty_Is rfl ((Has.pt (mS m0)).sub (cs' := [_]) 1 rfl) rfl) ?_
  refine E.st rfl rfl (N.call0 t_impl_ascending rfl rfl rfl (by decide) (fun w Lp hA => hA.ro hm_Inputs)) (fun _ _ => (Ent.b (fun q7 => ?_) (fun q7 => ?_)))
  · refine E.y rfl rfl (by decide) ((Y.mv rfl).yd) ?_
    refine E.y rfl rfl (by decide) ((Y.fld fo_Method_1 ty_Is (by decide) rfl).yd) ?_
    refine E.y rfl rfl (by decide) (Y.ld1 ty_Is rfl ((Has.pt (mS m0)).sub (cs' := [_]) 1 rfl) rfl) ?_
    refine E.y rfl rfl (by decide) ((Y.fn (vs := [_]) rfl).yd) ?_
    refine E.st rfl rfl (N.call0 (t_ContainsFunc_I (f := (fun i => !inR i 0 (arity - 1))) (D_f := (fun _ => True)) (fun _ _ => trivial)) rfl rfl rfl (by decide) (fun w Lp hA => ⟨hA.ro hm_Inputs, FnP.ofI (D := (fun _ => True)) (fun hd => t_impl_Method_fits_1) (fun w' hk => ⟨(hA.pt m0).keep hk, (by first | assumption | omega), (by first | assumption | omega)⟩)⟩)) (fun _ _ => (Ent.b (fun q12 => ?_) (fun q12 => ?_)))
    · refine E.y rfl rfl (by decide) ((Y.not (b := true) rfl).yd) ?_
      refine E.y rfl rfl (by decide) ((Y.pkt rfl rfl).yd) ?_
      refine E.y rfl rfl (by decide) ((Y.mv rfl).yd) ?_
      refine E.skip rfl rfl rfl ?_
      refine E.skip rfl rfl rfl ?_
      refine E.skip rfl rfl rfl ?_
      refine E.y rfl rfl (by decide) ((Y.pkf rfl rfl).yd) ?_
      refine E.y rfl rfl (by decide) ((Y.mv rfl).yd) ?_
      refine E.skip rfl rfl rfl ?_
      refine E.skip rfl rfl rfl ?_
      refine E.skip rfl rfl rfl ?_
      refine E.y rfl rfl (by decide) ((Y.pkf rfl rfl).yd) ?_
      refine E.y rfl rfl (by decide) ((Y.mv rfl).yd) ?_
      refine E.skip rfl rfl rfl ?_
      refine E.skip rfl rfl rfl ?_
      refine E.skip rfl rfl rfl ?_
      refine E.y rfl rfl (by decide) ((Y.pkf rfl rfl).yd) ?_
      refine E.y rfl rfl (by decide) ((Y.as rfl).yd) ?_
      exact E.nil (E.thn (E.ret (F.r1 (Back.refl _ _) rfl rfl () trivial (congrArg Value.bool (by grind [fitsB, okPos, List.drop_eq_getElem_cons, List.drop_eq_nil_of_le, List.take_succ_eq_append_getElem, List.take_of_length_le])) (J := _) (.refl _) (.inl rfl))))
    · refine E.y rfl rfl (by decide) ((Y.not (b := false) rfl).yd) ?_
      refine E.y rfl rfl (by decide) ((Y.pkt rfl rfl).yd) ?_
      refine E.y rfl rfl (by decide) ((Y.mv rfl).yd) ?_
      refine E.y rfl rfl (by decide) ((Y.fld fo_Method_2 ty_I (by decide) rfl).yd) ?_
      refine E.y rfl rfl (by decide) (Y.ld1 ty_I rfl ((Has.pt (mS m0)).sub (cs' := [_]) 2 rfl) rfl) ?_
      refine E.st rfl rfl (N.call0 t_impl_within rfl rfl rfl (by decide) (fun w Lp hA => trivial)) (fun _ _ => (Ent.b (fun q18 => ?_) (fun q18 => ?_)))
      · refine E.y rfl rfl (by decide) ((Y.pkt rfl rfl).yd) ?_
        refine E.y rfl rfl (by decide) ((Y.mv rfl).yd) ?_
        refine E.y rfl rfl (by decide) ((Y.fld fo_Method_3 ty_I (by decide) rfl).yd) ?_
        refine E.y rfl rfl (by decide) (Y.ld1 ty_I rfl ((Has.pt (mS m0)).sub (cs' := [_]) 3 rfl) rfl) ?_
        refine E.st rfl rfl (N.call0 t_impl_isCost rfl rfl rfl (by decide) (fun w Lp hA => trivial)) (fun _ _ => (Ent.b (fun q23 => ?_) (fun q23 => ?_)))
        · refine E.y rfl rfl (by decide) ((Y.pkt rfl rfl).yd) ?_
          refine E.y rfl rfl (by decide) ((Y.mv rfl).yd) ?_
          refine E.y rfl rfl (by decide) ((Y.fld fo_Method_4 ty_I (by decide) rfl).yd) ?_
          refine E.y rfl rfl (by decide) (Y.ld1 ty_I rfl ((Has.pt (mS m0)).sub (cs' := [_]) 4 rfl) rfl) ?_
          refine E.st rfl rfl (N.call0 t_impl_within rfl rfl rfl (by decide) (fun w Lp hA => trivial)) (fun _ _ => ?_)
          refine E.y rfl rfl (by decide) ((Y.pkt rfl rfl).yd) ?_
          refine E.y rfl rfl (by decide) ((Y.as rfl).yd) ?_
          exact E.nil (E.thn (E.ret (F.r1 (Back.refl _ _) rfl rfl () trivial (congrArg Value.bool (by grind [fitsB, okPos, List.drop_eq_getElem_cons, List.drop_eq_nil_of_le, List.take_succ_eq_append_getElem, List.take_of_length_le])) (J := _) (.refl _) (.inl rfl))))
        · refine E.y rfl rfl (by decide) ((Y.pkt rfl rfl).yd) ?_
          refine E.y rfl rfl (by decide) ((Y.mv rfl).yd) ?_
          refine E.skip rfl rfl rfl ?_
          refine E.skip rfl rfl rfl ?_
          refine E.skip rfl rfl rfl ?_
          refine E.y rfl rfl (by decide) ((Y.pkf rfl rfl).yd) ?_
          refine E.y rfl rfl (by decide) ((Y.as rfl).yd) ?_
          exact E.nil (E.thn (E.ret (F.r1 (Back.refl _ _) rfl rfl () trivial (congrArg Value.bool (by grind [fitsB, okPos, List.drop_eq_getElem_cons, List.drop_eq_nil_of_le, List.take_succ_eq_append_getElem, List.take_of_length_le])) (J := _) (.refl _) (.inl rfl))))
      · refine E.y rfl rfl (by decide) ((Y.pkt rfl rfl).yd) ?_
        refine E.y rfl rfl (by decide) ((Y.mv rfl).yd) ?_
        refine E.skip rfl rfl rfl ?_
        refine E.skip rfl rfl rfl ?_
        refine E.skip rfl rfl rfl ?_
        refine E.y rfl rfl (by decide) ((Y.pkf rfl rfl).yd) ?_
        refine E.y rfl rfl (by decide) ((Y.mv rfl).yd) ?_
        refine E.skip rfl rfl rfl ?_
        refine E.skip rfl rfl rfl ?_
        refine E.skip rfl rfl rfl ?_
        refine E.y rfl rfl (by decide) ((Y.pkf rfl rfl).yd) ?_
        refine E.y rfl rfl (by decide) ((Y.as rfl).yd) ?_
        exact E.nil (E.thn (E.ret (F.r1 (Back.refl _ _) rfl rfl () trivial (congrArg Value.bool (by grind [fitsB, okPos, List.drop_eq_getElem_cons, List.drop_eq_nil_of_le, List.take_succ_eq_append_getElem, List.take_of_length_le])) (J := _) (.refl _) (.inl rfl))))
  · refine E.y rfl rfl (by decide) ((Y.mv rfl).yd) ?_
    refine E.skip rfl rfl rfl ?_
    refine E.skip rfl rfl rfl ?_
    refine E.skip rfl rfl rfl ?_
    refine E.skip rfl rfl rfl ?_
    refine E.skip rfl rfl rfl ?_
    refine E.y rfl rfl (by decide) ((Y.pkf rfl rfl).yd) ?_
    refine E.y rfl rfl (by decide) ((Y.mv rfl).yd) ?_
    refine E.skip rfl rfl rfl ?_
    refine E.skip rfl rfl rfl ?_
    refine E.skip rfl rfl rfl ?_
    refine E.y rfl rfl (by decide) ((Y.pkf rfl rfl).yd) ?_
    refine E.y rfl rfl (by decide) ((Y.mv rfl).yd) ?_
    refine E.skip rfl rfl rfl ?_
    refine E.skip rfl rfl rfl ?_
    refine E.skip rfl rfl rfl ?_
    refine E.y rfl rfl (by decide) ((Y.pkf rfl rfl).yd) ?_
    refine E.y rfl rfl (by decide) ((Y.mv rfl).yd) ?_
    refine E.skip rfl rfl rfl ?_
    refine E.skip rfl rfl rfl ?_
    refine E.skip rfl rfl rfl ?_
    refine E.y rfl rfl (by decide) ((Y.pkf rfl rfl).yd) ?_
    refine E.y rfl rfl (by decide) ((Y.as rfl).yd) ?_
    exact E.nil (E.thn (E.ret (F.r1 (Back.refl _ _) rfl rfl () trivial (congrArg Value.bool (by grind [fitsB, okPos, List.drop_eq_getElem_cons, List.drop_eq_nil_of_le, List.take_succ_eq_append_getElem, List.take_of_length_le])) (J := _) (.refl _) (.inl rfl))))
theorem t_impl_IsMethod {a_s : Option Addr} {m_s c_s : Nat} {s : List Int} {m_Rel : Int} {a_m_Inputs : Option Addr} {m_m_Inputs c_m_Inputs : Nat} {m_Inputs : List Int} {m_Limit : Int} {m_Cost : Int} {m_Quota : Int} : Tr Try.prog 181 [.slice a_s m_s c_s, .agg #[.int .i64 m_Rel, .slice a_m_Inputs m_m_Inputs c_m_Inputs, .int .i64 m_Limit, .int .i64 m_Cost, .int .i64 m_Quota]] (fun w L => Ro w L eIs [.slice a_s m_s c_s] s ∧ I64 m_Rel ∧ Ro w L eIs [.slice a_m_Inputs m_m_Inputs c_m_Inputs] m_Inputs ∧ I64 m_Limit ∧ I64 m_Cost ∧ I64 m_Quota) [] (κ := Unit) (fun k => True) (fun k => .bool (okMeth s (m_Rel, m_Inputs, m_Limit, m_Cost, m_Quota))) (fun k => []) := by
  refine Tr.intro Try.func181 rfl (n := 18) rfl (by decide +kernel) (Nat.le_of_ble_eq_true rfl) (fr := [(0, .slice a_s m_s c_s), (1, .agg #[.int .i64 m_Rel, .slice a_m_Inputs m_m_Inputs c_m_Inputs, .int .i64 m_Limit, .int .i64 m_Cost, .int .i64 m_Quota])]) rfl fun w L hR => ?_
  obtain ⟨hs, i6m_Rel, hm_Inputs, i6m_Limit, i6m_Cost, i6m_Quota⟩ := hR
  obtain ⟨rfl, ls⟩ := hs.slen
  obtain ⟨rfl, lm_Inputs⟩ := hm_Inputs.slen
  refine E.seq (E.region (l := [0, 1]) rfl (E.st rfl rfl (N.box (cs := [_, _, _, _, _]) rfl (by decide) rfl) (fun b3 _ => ?_)))
  refine E.y rfl rfl (by decide) ((Y.as rfl).yd) ?_
  refine E.nil (E.thn (E.seq (D.region (fun j => true) mixed (D.yp 0 rfl rfl (by decide) (Y.mv rfl) (by kernel_rfl) ?_))))
  refine D.yp 1 rfl rfl (by decide) (Y.fld fo_Method_0 ty_I (by decide) rfl) (by kernel_rfl) ?_
  refine D.y 2 rfl rfl (by decide) (Y.ld1 ty_I rfl ((Has.pt m0).sub (cs' := [_]) 0 rfl) rfl) (by kernel_rfl) ?_
  refine D.st 3 rfl rfl (by kernel_rfl) (fun _ => rfl) (N.call0 t_impl_hasRel rfl rfl rfl (by decide) (fun w Lp hA => hA.ro hs)) (fun _ _ => (Ent.b (fun q8 => ?_) (fun q8 => ?_)))
  · obtain ⟨z1, z2, z3, z4⟩ := okRel_lt q8
    rw [getD_get (by omega)] at z3 z4
    refine D.yp 4 rfl rfl (by decide) (Y.mv rfl) (by kernel_rfl) ?_
    refine D.y 5 rfl rfl (by decide) (Y.ldS (cs := [_, _, _, _, _]) ty_Method rfl (Has.pt m0) rfl) (by kernel_rfl) ?_
    refine D.yp 6 rfl rfl (by decide) (Y.mv rfl) (by kernel_rfl) ?_
    refine D.yp 7 rfl rfl (by decide) (Y.fld fo_Method_0 ty_I (by decide) rfl) (by kernel_rfl) ?_
    refine D.y 8 rfl rfl (by decide) (Y.ld1 ty_I rfl ((Has.pt m0).sub (cs' := [_]) 0 rfl) rfl) (by kernel_rfl) ?_
    obtain ⟨eb14, eo14, ea14, ei14, eh14⟩ := hs.elemI m_Rel.toNat (by omega)
    refine D.yp 9 rfl rfl (by decide) (Y.ix us_Is ty_I rfl ea14 rfl m_Rel.toNat (by omega) (by omega)) (by kernel_rfl) ?_
    refine D.y 10 rfl rfl (by decide) (Y.ld1 ty_I rfl (eh14 _) rfl) (by kernel_rfl) ?_
    refine D.st 11 rfl rfl (by kernel_rfl) (fun _ => rfl) (N.call0 t_impl_Method_fits rfl rfl rfl (by decide) (fun w Lp hA => ⟨i6m_Rel, hA.ro hm_Inputs, i6m_Limit, i6m_Cost, i6m_Quota, (by first | assumption | omega), (by first | assumption | omega)⟩)) (fun _ _ => ?_)
    refine D.yp 12 rfl rfl (by decide) (Y.pkt rfl rfl) (by kernel_rfl) ?_
    refine D.yp 13 rfl rfl (by decide) (Y.as rfl) (by kernel_rfl) ?_
    exact D.done (by kernel_rfl) (E.thn (E.ret (F.r1 (Back.refl _ _) rfl rfl () trivial (congrArg Value.bool (by grind [okMeth, at0_get, List.drop_eq_getElem_cons, List.drop_eq_nil_of_le, List.take_succ_eq_append_getElem, List.take_of_length_le])) (J := _) (.refl _) (.inl rfl))))
  · refine D.yp 4 rfl rfl (by decide) (Y.mv rfl) (by kernel_rfl) ?_
    refine D.skip 5 rfl rfl (by kernel_rfl) rfl ?_
    refine D.skip 6 rfl rfl (by kernel_rfl) rfl ?_
    refine D.skip 7 rfl rfl (by kernel_rfl) rfl ?_
    refine D.skip 8 rfl rfl (by kernel_rfl) rfl ?_
    refine D.skip 9 rfl rfl (by kernel_rfl) rfl ?_
    refine D.skip 10 rfl rfl (by kernel_rfl) rfl ?_
    refine D.skip 11 rfl rfl (by kernel_rfl) rfl ?_
    refine D.yp 12 rfl rfl (by decide) (Y.pkf rfl rfl) (by kernel_rfl) ?_
    refine D.yp 13 rfl rfl (by decide) (Y.as rfl) (by kernel_rfl) ?_
    exact D.done (by kernel_rfl) (E.thn (E.ret (F.r1 (Back.refl _ _) rfl rfl () trivial (congrArg Value.bool (by grind [okMeth, at0_get, List.drop_eq_getElem_cons, List.drop_eq_nil_of_le, List.take_succ_eq_append_getElem, List.take_of_length_le])) (J := _) (.refl _) (.inl rfl))))
theorem t_spec_IsMethod {a_s : Option Addr} {m_s c_s : Nat} {s : List Int} {m_Rel : Int} {a_m_Inputs : Option Addr} {m_m_Inputs c_m_Inputs : Nat} {m_Inputs : List Int} {m_Limit : Int} {m_Cost : Int} {m_Quota : Int} : Tr Try.prog 174 [.slice a_s m_s c_s, .agg #[.int .i64 m_Rel, .slice a_m_Inputs m_m_Inputs c_m_Inputs, .int .i64 m_Limit, .int .i64 m_Cost, .int .i64 m_Quota]] (fun w L => Ro w L eIs [.slice a_s m_s c_s] s ∧ I64 m_Rel ∧ Ro w L eIs [.slice a_m_Inputs m_m_Inputs c_m_Inputs] m_Inputs ∧ I64 m_Limit ∧ I64 m_Cost ∧ I64 m_Quota) [] (κ := Unit) (fun k => True) (fun k => .bool (okMeth s (m_Rel, m_Inputs, m_Limit, m_Cost, m_Quota))) (fun k => []) := by
  refine Tr.intro Try.func174 rfl (n := 74) rfl (by decide +kernel) (Nat.le_of_ble_eq_true rfl) (fr := [(0, .slice a_s m_s c_s), (1, .agg #[.int .i64 m_Rel, .slice a_m_Inputs m_m_Inputs c_m_Inputs, .int .i64 m_Limit, .int .i64 m_Cost, .int .i64 m_Quota])]) rfl fun w L hR => ?_
  obtain ⟨hs, i6m_Rel, hm_Inputs, i6m_Limit, i6m_Cost, i6m_Quota⟩ := hR
  obtain ⟨rfl, ls⟩ := hs.slen
  obtain ⟨rfl, lm_Inputs⟩ := hm_Inputs.slen
  refine E.seq (E.region (l := [0, 1]) rfl (E.st rfl rfl (N.box (cs := [_, _, _, _, _]) rfl (by decide) rfl) (fun b3 _ => ?_)))
  refine E.y rfl rfl (by decide) ((Y.as rfl).yd) ?_
  refine E.nil (E.thn (E.seq (E.seq (E.region (l := [0, 1, 2, 3, 4, 5, 6, 7, 8, 9, 10, 11, 12, 13, 14, 15, 16, 17, 18, 19, 20, 21, 22, 23, 24, 25, 26, 27, 28, 29]) rfl (E.y rfl rfl (by decide) ((Y.mv rfl).yd) ?_)))))
  refine E.st rfl rfl (N.call0 t_spec_IsSchema rfl rfl rfl (by decide) (fun w Lp hA => hA.ro hs)) (fun _ _ => (Ent.b (fun q7 => ?_) (fun q7 => ?_)))
  · refine E.y rfl rfl (by decide) ((Y.not (b := true) rfl).yd) ?_
    refine E.y rfl rfl (by decide) ((Y.mv rfl).yd) ?_
    refine E.y rfl rfl (by decide) ((Y.fld fo_Method_0 ty_I (by decide) rfl).yd) ?_
    refine E.y rfl rfl (by decide) (Y.ld1 ty_I rfl ((Has.pt m0).sub (cs' := [_]) 0 rfl) rfl) ?_
    refine E.y rfl rfl (by decide) ((Y.mv rfl).yd) ?_
    refine E.y rfl rfl (by decide) ((Y.len us_Is rfl).yd) ?_
    refine E.y rfl rfl (by decide) ((Y.sub rfl rfl (by omega) (by omega)).yd) ?_
    refine E.st rfl rfl (N.call0 t_spec_l1In rfl rfl rfl (by decide) (fun w Lp hA => trivial)) (fun _ _ => (Ent.b (fun q15 => ?_) (fun q15 => ?_)))
    · have y1 : okRel s m_Rel = true := by rw [okRel, q7, q15]; rfl
      obtain ⟨z1, z2, z3, z4⟩ := okRel_lt y1
      rw [getD_get (by omega)] at z3 z4
      refine E.y rfl rfl (by decide) ((Y.not (b := true) rfl).yd) ?_
      refine E.y rfl rfl (by decide) ((Y.pkf rfl rfl).yd) ?_
      refine E.y rfl rfl (by decide) ((Y.mv rfl).yd) ?_
      refine E.y rfl rfl (by decide) ((Y.fld fo_Method_2 ty_I (by decide) rfl).yd) ?_
      refine E.y rfl rfl (by decide) (Y.ld1 ty_I rfl ((Has.pt m0).sub (cs' := [_]) 2 rfl) rfl) ?_
      refine E.st rfl rfl (N.call0 t_spec_l1In rfl rfl rfl (by decide) (fun w Lp hA => trivial)) (fun _ _ => (Ent.b (fun q21 => ?_) (fun q21 => ?_)))
      · refine E.y rfl rfl (by decide) ((Y.not (b := true) rfl).yd) ?_
        refine E.y rfl rfl (by decide) ((Y.pkf rfl rfl).yd) ?_
        refine E.y rfl rfl (by decide) ((Y.mv rfl).yd) ?_
        refine E.y rfl rfl (by decide) ((Y.fld fo_Method_3 ty_I (by decide) rfl).yd) ?_
        refine E.y rfl rfl (by decide) (Y.ld1 ty_I rfl ((Has.pt m0).sub (cs' := [_]) 3 rfl) rfl) ?_
        refine E.st rfl rfl (N.call0 t_spec_l1In rfl rfl rfl (by decide) (fun w Lp hA => trivial)) (fun _ _ => (Ent.b (fun q27 => ?_) (fun q27 => ?_)))
        · refine E.y rfl rfl (by decide) ((Y.not (b := true) rfl).yd) ?_
          refine E.y rfl rfl (by decide) ((Y.pkf rfl rfl).yd) ?_
          refine E.y rfl rfl (by decide) ((Y.mv rfl).yd) ?_
          refine E.y rfl rfl (by decide) ((Y.fld fo_Method_4 ty_I (by decide) rfl).yd) ?_
          refine E.y rfl rfl (by decide) (Y.ld1 ty_I rfl ((Has.pt m0).sub (cs' := [_]) 4 rfl) rfl) ?_
          refine E.st rfl rfl (N.call0 t_spec_l1In rfl rfl rfl (by decide) (fun w Lp hA => trivial)) (fun _ _ => (Ent.b (fun q33 => ?_) (fun q33 => ?_)))
          · refine E.y rfl rfl (by decide) ((Y.not (b := true) rfl).yd) ?_
            refine E.y rfl rfl (by decide) ((Y.pkf rfl rfl).yd) ?_
            refine E.nil (E.thn (E.cf rfl (E.skipc (E.thn (E.seq (E.seq (E.region (l := [0]) rfl (E.y rfl rfl (by decide) ((Y.as rfl).yd) ?_))))))))
            refine E.nil (E.thn (E.block (E.loop (κ := Nat) (fun g => g ≤ m_Inputs.length ∧ (okPos m_Inputs (at0 s m_Rel) && chainB ltB m_Inputs) = (okPos (m_Inputs.drop g) (at0 s m_Rel) && chainB ltB (m_Inputs.drop (g - 1)))) (fun g => [(0, .slice a_s s.length c_s), (3, .pointer (some ⟨b3, 0, none⟩)), (5, .int .i64 (↑g : Int))]) (fun g => [pt b3 142 [.int .i64 m_Rel, .slice a_m_Inputs m_Inputs.length c_m_Inputs, .int .i64 m_Limit, .int .i64 m_Cost, .int .i64 m_Quota]]) (fun g => m_Inputs.length - g) 0 ⟨Nat.zero_le _, by simp⟩ ⟨rfl, rfl, rfl, trivial⟩ (.refl _) (fun g pg => ?_))))
            obtain ⟨pk, pa⟩ := pg
            refine E.seq (E.seq (E.region (l := [0, 1, 2, 3, 4]) rfl (E.y rfl rfl (by decide) ((Y.mv rfl).yd) ?_)))
            refine E.y rfl rfl (by decide) ((Y.fld fo_Method_1 ty_Is (by decide) rfl).yd) ?_
            refine E.y rfl rfl (by decide) (Y.ld1 ty_Is rfl ((Has.pt m0).sub (cs' := [_]) 1 rfl) rfl) ?_
            refine E.y rfl rfl (by decide) ((Y.len us_Is rfl).yd) ?_
            refine E.y rfl rfl (by decide) ((Y.lss rfl rfl).yd) (Ent.d (fun q40 => ?_) (fun q40 => ?_))
            · refine E.nil (E.thn (E.ct rfl (E.skipc (E.thn (E.seq (E.block (E.seq (D.region (fun j => true) mixed (D.yp 0 rfl rfl (by decide) (Y.fld fo_Method_1 ty_Is (by decide) rfl) (by kernel_rfl) ?_)))))))))
              refine D.y 1 rfl rfl (by decide) (Y.ld1 ty_Is rfl ((Has.pt m0).sub (cs' := [_]) 1 rfl) rfl) (by kernel_rfl) ?_
              refine D.yp 2 rfl rfl (by decide) (Y.mv rfl) (by kernel_rfl) ?_
              obtain ⟨eb46, eo46, ea46, ei46, eh46⟩ := hm_Inputs.elemI g (by omega)
              refine D.yp 3 rfl rfl (by decide) (Y.ix us_Is ty_I rfl ea46 rfl g rfl (by omega)) (by kernel_rfl) ?_
              refine D.y 4 rfl rfl (by decide) (Y.ld1 ty_I rfl (eh46 _) rfl) (by kernel_rfl) ?_
              refine D.yp 5 rfl rfl (by decide) (Y.mv rfl) (by kernel_rfl) ?_
              refine D.yp 6 rfl rfl (by decide) (Y.fld fo_Method_0 ty_I (by decide) rfl) (by kernel_rfl) ?_
              refine D.y 7 rfl rfl (by decide) (Y.ld1 ty_I rfl ((Has.pt m0).sub (cs' := [_]) 0 rfl) rfl) (by kernel_rfl) ?_
              obtain ⟨eb51, eo51, ea51, ei51, eh51⟩ := hs.elemI m_Rel.toNat (by omega)
              refine D.yp 8 rfl rfl (by decide) (Y.ix us_Is ty_I rfl ea51 rfl m_Rel.toNat (by omega) (by omega)) (by kernel_rfl) ?_
              refine D.y 9 rfl rfl (by decide) (Y.ld1 ty_I rfl (eh51 _) rfl) (by kernel_rfl) ?_
              refine D.yp 10 rfl rfl (by decide) (Y.sub rfl rfl (by omega) (by omega)) (by kernel_rfl) ?_
              refine D.st 11 rfl rfl (by kernel_rfl) (fun _ => rfl) (N.call0 t_spec_l1In rfl rfl rfl (by decide) (fun w Lp hA => trivial)) (fun _ _ => (Ent.b (fun q54 => ?_) (fun q54 => ?_)))
              · refine D.yp 12 rfl rfl (by decide) (Y.not (b := true) rfl) (by kernel_rfl) ?_
                refine D.yp 13 rfl rfl (by decide) (Y.mv rfl) (by kernel_rfl) ?_
                refine D.yp 14 rfl rfl (by decide) (Y.mv rfl) (by kernel_rfl) ?_
                refine D.yp 15 rfl rfl (by decide) (Y.gtr rfl rfl) (by kernel_rfl) (Ent.d (fun q58 => ?_) (fun q58 => ?_))
                · refine D.yp 16 rfl rfl (by decide) (Y.mv rfl) (by kernel_rfl) ?_
                  refine D.yp 17 rfl rfl (by decide) (Y.fld fo_Method_1 ty_Is (by decide) rfl) (by kernel_rfl) ?_
                  refine D.y 18 rfl rfl (by decide) (Y.ld1 ty_Is rfl ((Has.pt m0).sub (cs' := [_]) 1 rfl) rfl) (by kernel_rfl) ?_
                  refine D.yp 19 rfl rfl (by decide) (Y.mv rfl) (by kernel_rfl) ?_
                  refine D.yp 20 rfl rfl (by decide) (Y.ix us_Is ty_I rfl ea46 rfl g rfl (by omega)) (by kernel_rfl) ?_
                  refine D.y 21 rfl rfl (by decide) (Y.ld1 ty_I rfl (eh46 _) rfl) (by kernel_rfl) ?_
                  refine D.yp 22 rfl rfl (by decide) (Y.fld fo_Method_1 ty_Is (by decide) rfl) (by kernel_rfl) ?_
                  refine D.y 23 rfl rfl (by decide) (Y.ld1 ty_Is rfl ((Has.pt m0).sub (cs' := [_]) 1 rfl) rfl) (by kernel_rfl) ?_
                  refine D.yp 24 rfl rfl (by decide) (Y.mv rfl) (by kernel_rfl) ?_
                  refine D.yp 25 rfl rfl (by decide) (Y.sub rfl rfl (by omega) (by omega)) (by kernel_rfl) ?_
                  obtain ⟨eb69, eo69, ea69, ei69, eh69⟩ := hm_Inputs.elemI (g - 1) (by omega)
                  refine D.yp 26 rfl rfl (by decide) (Y.ix us_Is ty_I rfl ea69 rfl (g - 1) (by omega) (by omega)) (by kernel_rfl) ?_
                  refine D.y 27 rfl rfl (by decide) (Y.ld1 ty_I rfl (eh69 _) rfl) (by kernel_rfl) ?_
                  refine D.yp 28 rfl rfl (by decide) (Y.leq rfl rfl) (by kernel_rfl) (Ent.d (fun q71 => ?_) (fun q71 => ?_))
                  · refine D.yp 29 rfl rfl (by decide) (Y.pkt rfl rfl) (by kernel_rfl) ?_
                    refine D.yp 30 rfl rfl (by decide) (Y.pkf rfl rfl) (by kernel_rfl) ?_
                    refine D.done (by kernel_rfl) (E.thn (E.ct rfl (E.seq (E.region (l := [0]) rfl (E.y rfl rfl (by decide) ((Y.as rfl).yd) ?_)))))
                    exact E.nil (E.thn (E.ret (E.blr (E.thr (E.thr (E.blr (E.thr (F.r1 (Back.refl _ _) rfl rfl () trivial (congrArg Value.bool (by grind [okMeth, fitsB, okRel, at0_get, okPos, chain_step, chain_zero, chain_end, ltB, List.drop_eq_getElem_cons, List.drop_eq_nil_of_le, List.take_succ_eq_append_getElem, List.take_of_length_le])) (J := _) (.refl _) (.inl rfl)))))))))
                  · refine D.yp 29 rfl rfl (by decide) (Y.pkt rfl rfl) (by kernel_rfl) ?_
                    refine D.yp 30 rfl rfl (by decide) (Y.pkf rfl rfl) (by kernel_rfl) ?_
                    refine D.done (by kernel_rfl) (E.thn (E.cf rfl (E.skipc (E.bln (E.thn (E.region (l := [0, 1, 2]) rfl (E.y rfl rfl (by decide) ((Y.mv rfl).yd) ?_)))))))
                    refine E.y rfl rfl (by decide) ((Y.add rfl rfl (by omega) (by omega)).yd) ?_
                    refine E.y rfl rfl (by decide) ((Y.as rfl).yd) ?_
                    exact E.nil (E.thn (E.again (Back.refl _ _) (g + 1) ⟨rfl, rfl, rfl, trivial⟩ (.refl _) ⟨by omega, by grind [okPos, chain_step, chain_zero, chain_end, ltB, at0_get, List.drop_eq_getElem_cons, List.drop_eq_nil_of_le, List.take_succ_eq_append_getElem, List.take_of_length_le]⟩ (by omega)))
                · refine D.yp 16 rfl rfl (by decide) (Y.mv rfl) (by kernel_rfl) ?_
                  refine D.skip 17 rfl rfl (by kernel_rfl) rfl ?_
                  refine D.skip 18 rfl rfl (by kernel_rfl) rfl ?_
                  refine D.skip 19 rfl rfl (by kernel_rfl) rfl ?_
                  refine D.skip 20 rfl rfl (by kernel_rfl) rfl ?_
                  refine D.skip 21 rfl rfl (by kernel_rfl) rfl ?_
                  refine D.skip 22 rfl rfl (by kernel_rfl) rfl ?_
                  refine D.skip 23 rfl rfl (by kernel_rfl) rfl ?_
                  refine D.skip 24 rfl rfl (by kernel_rfl) rfl ?_
                  refine D.skip 25 rfl rfl (by kernel_rfl) rfl ?_
                  refine D.skip 26 rfl rfl (by kernel_rfl) rfl ?_
                  refine D.skip 27 rfl rfl (by kernel_rfl) rfl ?_
                  refine D.skip 28 rfl rfl (by kernel_rfl) rfl ?_
                  refine D.yp 29 rfl rfl (by decide) (Y.pkf rfl rfl) (by kernel_rfl) ?_
                  refine D.yp 30 rfl rfl (by decide) (Y.pkf rfl rfl) (by kernel_rfl) ?_
                  refine D.done (by kernel_rfl) (E.thn (E.cf rfl (E.skipc (E.bln (E.thn (E.region (l := [0, 1, 2]) rfl (E.y rfl rfl (by decide) ((Y.mv rfl).yd) ?_)))))))
                  refine E.y rfl rfl (by decide) ((Y.add rfl rfl (by omega) (by omega)).yd) ?_
                  refine E.y rfl rfl (by decide) ((Y.as rfl).yd) ?_
                  exact E.nil (E.thn (E.again (Back.refl _ _) (g + 1) ⟨rfl, rfl, rfl, trivial⟩ (.refl _) ⟨by omega, by grind [okPos, chain_step, chain_zero, chain_end, ltB, at0_get, List.drop_eq_getElem_cons, List.drop_eq_nil_of_le, List.take_succ_eq_append_getElem, List.take_of_length_le]⟩ (by omega)))
              · refine D.yp 12 rfl rfl (by decide) (Y.not (b := false) rfl) (by kernel_rfl) ?_
                refine D.yp 13 rfl rfl (by decide) (Y.mv rfl) (by kernel_rfl) ?_
                refine D.skip 14 rfl rfl (by kernel_rfl) rfl ?_
                refine D.skip 15 rfl rfl (by kernel_rfl) rfl ?_
                refine D.sku 16 rfl rfl (by decide) (by kernel_rfl) ?_
                refine D.skip 17 rfl rfl (by kernel_rfl) rfl ?_
                refine D.skip 18 rfl rfl (by kernel_rfl) rfl ?_
                refine D.skip 19 rfl rfl (by kernel_rfl) rfl ?_
                refine D.skip 20 rfl rfl (by kernel_rfl) rfl ?_
                refine D.skip 21 rfl rfl (by kernel_rfl) rfl ?_
                refine D.skip 22 rfl rfl (by kernel_rfl) rfl ?_
                refine D.skip 23 rfl rfl (by kernel_rfl) rfl ?_
                refine D.skip 24 rfl rfl (by kernel_rfl) rfl ?_
                refine D.skip 25 rfl rfl (by kernel_rfl) rfl ?_
                refine D.skip 26 rfl rfl (by kernel_rfl) rfl ?_
                refine D.skip 27 rfl rfl (by kernel_rfl) rfl ?_
                refine D.skip 28 rfl rfl (by kernel_rfl) rfl ?_
                refine D.skip 29 rfl rfl (by kernel_rfl) rfl ?_
                refine D.yp 30 rfl rfl (by decide) (Y.pkt rfl rfl) (by kernel_rfl) ?_
                refine D.done (by kernel_rfl) (E.thn (E.ct rfl (E.seq (E.region (l := [0]) rfl (E.y rfl rfl (by decide) ((Y.as rfl).yd) ?_)))))
                exact E.nil (E.thn (E.ret (E.blr (E.thr (E.thr (E.blr (E.thr (F.r1 (Back.refl _ _) rfl rfl () trivial (congrArg Value.bool (by grind [okMeth, fitsB, okRel, at0_get, okPos, chain_step, chain_zero, chain_end, ltB, List.drop_eq_getElem_cons, List.drop_eq_nil_of_le, List.take_succ_eq_append_getElem, List.take_of_length_le])) (J := _) (.refl _) (.inl rfl)))))))))
            · refine E.nil (E.thn (E.cf rfl (E.exit (E.the (E.the (E.blh (E.thn (E.seq (E.region (l := [0]) rfl (E.y rfl rfl (by decide) ((Y.as rfl).yd) ?_))))))))))
              exact E.nil (E.thn (E.ret (F.r1 (Back.refl _ _) rfl rfl () trivial (congrArg Value.bool (by grind [okMeth, fitsB, okRel, at0_get, okPos, chain_step, chain_zero, chain_end, ltB, List.drop_eq_getElem_cons, List.drop_eq_nil_of_le, List.take_succ_eq_append_getElem, List.take_of_length_le])) (J := _) (.refl _) (.inl rfl))))
          · refine E.y rfl rfl (by decide) ((Y.not (b := false) rfl).yd) ?_
            refine E.y rfl rfl (by decide) ((Y.pkf rfl rfl).yd) ?_
            refine E.nil (E.thn (E.ct rfl (E.seq (E.region (l := [0]) rfl (E.y rfl rfl (by decide) ((Y.as rfl).yd) ?_)))))
            exact E.nil (E.thn (E.ret (E.thr (F.r1 (Back.refl _ _) rfl rfl () trivial (congrArg Value.bool (by grind [okMeth, fitsB, okRel, at0_get, okPos, chain_step, chain_zero, chain_end, ltB, List.drop_eq_getElem_cons, List.drop_eq_nil_of_le, List.take_succ_eq_append_getElem, List.take_of_length_le])) (J := _) (.refl _) (.inl rfl)))))
        · refine E.y rfl rfl (by decide) ((Y.not (b := false) rfl).yd) ?_
          refine E.y rfl rfl (by decide) ((Y.pkf rfl rfl).yd) ?_
          refine E.y rfl rfl (by decide) ((Y.mv rfl).yd) ?_
          refine E.skip rfl rfl rfl ?_
          refine E.skip rfl rfl rfl ?_
          refine E.skip rfl rfl rfl ?_
          refine E.skip rfl rfl rfl ?_
          refine E.y rfl rfl (by decide) ((Y.pkt rfl rfl).yd) ?_
          refine E.nil (E.thn (E.ct rfl (E.seq (E.region (l := [0]) rfl (E.y rfl rfl (by decide) ((Y.as rfl).yd) ?_)))))
          exact E.nil (E.thn (E.ret (E.thr (F.r1 (Back.refl _ _) rfl rfl () trivial (congrArg Value.bool (by grind [okMeth, fitsB, okRel, at0_get, okPos, chain_step, chain_zero, chain_end, ltB, List.drop_eq_getElem_cons, List.drop_eq_nil_of_le, List.take_succ_eq_append_getElem, List.take_of_length_le])) (J := _) (.refl _) (.inl rfl)))))
      · refine E.y rfl rfl (by decide) ((Y.not (b := false) rfl).yd) ?_
        refine E.y rfl rfl (by decide) ((Y.pkf rfl rfl).yd) ?_
        refine E.y rfl rfl (by decide) ((Y.mv rfl).yd) ?_
        refine E.skip rfl rfl rfl ?_
        refine E.skip rfl rfl rfl ?_
        refine E.skip rfl rfl rfl ?_
        refine E.skip rfl rfl rfl ?_
        refine E.y rfl rfl (by decide) ((Y.pkt rfl rfl).yd) ?_
        refine E.y rfl rfl (by decide) ((Y.mv rfl).yd) ?_
        refine E.skip rfl rfl rfl ?_
        refine E.skip rfl rfl rfl ?_
        refine E.skip rfl rfl rfl ?_
        refine E.skip rfl rfl rfl ?_
        refine E.y rfl rfl (by decide) ((Y.pkt rfl rfl).yd) ?_
        refine E.nil (E.thn (E.ct rfl (E.seq (E.region (l := [0]) rfl (E.y rfl rfl (by decide) ((Y.as rfl).yd) ?_)))))
        exact E.nil (E.thn (E.ret (E.thr (F.r1 (Back.refl _ _) rfl rfl () trivial (congrArg Value.bool (by grind [okMeth, fitsB, okRel, at0_get, okPos, chain_step, chain_zero, chain_end, ltB, List.drop_eq_getElem_cons, List.drop_eq_nil_of_le, List.take_succ_eq_append_getElem, List.take_of_length_le])) (J := _) (.refl _) (.inl rfl)))))
    · refine E.y rfl rfl (by decide) ((Y.not (b := false) rfl).yd) ?_
      refine E.y rfl rfl (by decide) ((Y.pkf rfl rfl).yd) ?_
      refine E.y rfl rfl (by decide) ((Y.mv rfl).yd) ?_
      refine E.skip rfl rfl rfl ?_
      refine E.skip rfl rfl rfl ?_
      refine E.skip rfl rfl rfl ?_
      refine E.skip rfl rfl rfl ?_
      refine E.y rfl rfl (by decide) ((Y.pkt rfl rfl).yd) ?_
      refine E.y rfl rfl (by decide) ((Y.mv rfl).yd) ?_
      refine E.skip rfl rfl rfl ?_
      refine E.skip rfl rfl rfl ?_
      refine E.skip rfl rfl rfl ?_
      refine E.skip rfl rfl rfl ?_
      refine E.y rfl rfl (by decide) ((Y.pkt rfl rfl).yd) ?_
      refine E.y rfl rfl (by decide) ((Y.mv rfl).yd) ?_
      refine E.skip rfl rfl rfl ?_
      refine E.skip rfl rfl rfl ?_
      refine E.skip rfl rfl rfl ?_
      refine E.skip rfl rfl rfl ?_
      refine E.y rfl rfl (by decide) ((Y.pkt rfl rfl).yd) ?_
      refine E.nil (E.thn (E.ct rfl (E.seq (E.region (l := [0]) rfl (E.y rfl rfl (by decide) ((Y.as rfl).yd) ?_)))))
      exact E.nil (E.thn (E.ret (E.thr (F.r1 (Back.refl _ _) rfl rfl () trivial (congrArg Value.bool (by grind [okMeth, fitsB, okRel, at0_get, okPos, chain_step, chain_zero, chain_end, ltB, List.drop_eq_getElem_cons, List.drop_eq_nil_of_le, List.take_succ_eq_append_getElem, List.take_of_length_le])) (J := _) (.refl _) (.inl rfl)))))
  · refine E.y rfl rfl (by decide) ((Y.not (b := false) rfl).yd) ?_
    refine E.y rfl rfl (by decide) ((Y.mv rfl).yd) ?_
    refine E.skip rfl rfl rfl ?_
    refine E.skip rfl rfl rfl ?_
    refine E.skip rfl rfl rfl ?_
    refine E.skip rfl rfl rfl ?_
    refine E.skip rfl rfl rfl ?_
    refine E.skip rfl rfl rfl ?_
    refine E.skip rfl rfl rfl ?_
    refine E.y rfl rfl (by decide) ((Y.pkt rfl rfl).yd) ?_
    refine E.y rfl rfl (by decide) ((Y.mv rfl).yd) ?_
    refine E.skip rfl rfl rfl ?_
    refine E.skip rfl rfl rfl ?_
    refine E.skip rfl rfl rfl ?_
    refine E.skip rfl rfl rfl ?_
    refine E.y rfl rfl (by decide) ((Y.pkt rfl rfl).yd) ?_
    refine E.y rfl rfl (by decide) ((Y.mv rfl).yd) ?_
    refine E.skip rfl rfl rfl ?_
    refine E.skip rfl rfl rfl ?_
    refine E.skip rfl rfl rfl ?_
    refine E.skip rfl rfl rfl ?_
    refine E.y rfl rfl (by decide) ((Y.pkt rfl rfl).yd) ?_
    refine E.y rfl rfl (by decide) ((Y.mv rfl).yd) ?_
    refine E.skip rfl rfl rfl ?_
    refine E.skip rfl rfl rfl ?_
    refine E.skip rfl rfl rfl ?_
    refine E.skip rfl rfl rfl ?_
    refine E.y rfl rfl (by decide) ((Y.pkt rfl rfl).yd) ?_
    refine E.nil (E.thn (E.ct rfl (E.seq (E.region (l := [0]) rfl (E.y rfl rfl (by decide) ((Y.as rfl).yd) ?_)))))
    exact E.nil (E.thn (E.ret (E.thr (F.r1 (Back.refl _ _) rfl rfl () trivial (congrArg Value.bool (by grind [okMeth, fitsB, okRel, at0_get, okPos, chain_step, chain_zero, chain_end, ltB, List.drop_eq_getElem_cons, List.drop_eq_nil_of_le, List.take_succ_eq_append_getElem, List.take_of_length_le])) (J := _) (.refl _) (.inl rfl)))))
theorem t_impl_AreMethods_1 {m_Rel : Int} {a_m_Inputs : Option Addr} {m_m_Inputs c_m_Inputs : Nat} {m_Inputs : List Int} {m_Limit : Int} {m_Cost : Int} {m_Quota : Int} {b_s : Nat} {a_s : Option Addr} {m_s c_s : Nat} {s : List Int} : Tr Try.prog 180 [.agg #[.int .i64 m_Rel, .slice a_m_Inputs m_m_Inputs c_m_Inputs, .int .i64 m_Limit, .int .i64 m_Cost, .int .i64 m_Quota], .pointer (some ⟨b_s, 0, none⟩)] (fun w L => (I64 m_Rel ∧ Ro w L eIs [.slice a_m_Inputs m_m_Inputs c_m_Inputs] m_Inputs ∧ I64 m_Limit ∧ I64 m_Cost ∧ I64 m_Quota) ∧ RoPt w L b_s [.slice a_s m_s c_s] ∧ Ro w L eIs [.slice a_s m_s c_s] s) [] (κ := Unit) (fun k => True) (fun k => .bool (!okMeth s (m_Rel, m_Inputs, m_Limit, m_Cost, m_Quota))) (fun k => []) := by
  refine Tr.intro Try.func180 rfl (n := 8) rfl (by decide +kernel) (Nat.le_of_ble_eq_true rfl) (fr := [(0, .agg #[.int .i64 m_Rel, .slice a_m_Inputs m_m_Inputs c_m_Inputs, .int .i64 m_Limit, .int .i64 m_Cost, .int .i64 m_Quota]), (1, .pointer (some ⟨b_s, 0, none⟩))]) rfl fun w L hR => ?_
  obtain ⟨⟨i6m_Rel, hm_Inputs, i6m_Limit, i6m_Cost, i6m_Quota⟩, hb_s, hs⟩ := hR
  obtain ⟨rfl, lm_Inputs⟩ := hm_Inputs.slen
  obtain ⟨rfl, ls⟩ := hs.slen
  refine E.seq (E.region (l := [0, 1]) rfl (E.st rfl rfl (N.box (cs := [_, _, _, _, _]) rfl (by decide) rfl) (fun b2 _ => ?_)))
  refine E.y rfl rfl (by decide) ((Y.as rfl).yd) ?_
  refine E.nil (E.thn (E.seq (E.region (l := [0, 1, 2, 3, 4]) rfl (E.y rfl rfl (by decide) (Y.ld1 ty_Is rfl (hb_s.has) rfl) ?_))))
  refine E.y rfl rfl (by decide) (Y.ldS (cs := [_, _, _, _, _]) ty_Method rfl (Has.pt m0) rfl) ?_
  refine E.st rfl rfl (N.call0 t_impl_IsMethod rfl rfl rfl (by decide) (fun w Lp hA => ⟨hA.ro hs, i6m_Rel, hA.ro hm_Inputs, i6m_Limit, i6m_Cost, i6m_Quota⟩)) (fun _ _ => ?_)
  refine E.y rfl rfl (by decide) ((Y.not rfl).yd) ?_
  refine E.y rfl rfl (by decide) ((Y.as rfl).yd) ?_
  exact E.nil (E.thn (E.ret (F.r1 (Back.refl _ _) rfl rfl () trivial (congrArg Value.bool (by grind [List.drop_eq_getElem_cons, List.drop_eq_nil_of_le, List.take_succ_eq_append_getElem, List.take_of_length_le])) (J := _) (.refl _) (.inl rfl))))
theorem t_impl_AreMethods {a_s : Option Addr} {m_s c_s : Nat} {s : List Int} {a_l : Option Addr} {m_l c_l : Nat} {l : List (Int × List Int × Int × Int × Int)} : Tr Try.prog 118 [.slice a_s m_s c_s, .slice a_l m_l c_l] (fun w L => Ro w L eIs [.slice a_s m_s c_s] s ∧ Ro w L eMethods [.slice a_l m_l c_l] l) [] (κ := Unit) (fun k => True) (fun k => .bool (okMeths s l)) (fun k => []) := by
  refine Tr.intro Try.func118 rfl (n := 18) rfl (by decide +kernel) (Nat.le_of_ble_eq_true rfl) (fr := [(0, .slice a_s m_s c_s), (1, .slice a_l m_l c_l)]) rfl fun w L hR => ?_
  obtain ⟨hs, hl⟩ := hR
  obtain ⟨rfl, ls⟩ := hs.slen
  obtain ⟨rfl, ll⟩ := hl.slen
  refine E.seq (E.region (l := [0, 1]) rfl (E.st rfl rfl (N.box (cs := [_]) rfl (by decide) rfl) (fun b2 _ => ?_)))
  refine E.y rfl rfl (by decide) ((Y.as rfl).yd) ?_
  refine E.nil (E.thn (E.seq (E.region (l := [0, 1, 2, 3, 4, 5, 6, 7, 8, 9, 10, 11, 12, 13]) rfl (E.y rfl rfl (by decide) (Y.ld1 ty_Is rfl (Has.pt m0) rfl) ?_))))
  refine E.st rfl rfl (N.call0 t_impl_IsSchema rfl rfl rfl (by decide) (fun w Lp hA => hA.ro hs)) (fun _ _ => (Ent.b (fun q6 => ?_) (fun q6 => ?_)))
  · refine E.y rfl rfl (by decide) ((Y.mv rfl).yd) ?_
    refine E.y rfl rfl (by decide) ((Y.mv rfl).yd) ?_
    refine E.y rfl rfl (by decide) ((Y.len us_Methods rfl).yd) ?_
    refine E.y rfl rfl (by decide) ((Y.leq rfl rfl).yd) (Ent.d (fun q10 => ?_) (fun q10 => ?_))
    · refine E.y rfl rfl (by decide) ((Y.pkt rfl rfl).yd) ?_
      refine E.y rfl rfl (by decide) ((Y.mv rfl).yd) ?_
      refine E.y rfl rfl (by decide) ((Y.mv rfl).yd) ?_
      refine E.y rfl rfl (by decide) ((Y.fn (vs := [_]) rfl).yd) ?_
      refine E.st rfl rfl (N.call0 (t_ContainsFunc_Method (f := (fun z => !okMeth s z)) (D_f := (fun _ => True)) (fun _ _ => trivial)) rfl rfl rfl (by decide) (fun w Lp hA => ⟨hA.ro hl, FnP.ofMethod (D := (fun _ => True)) (fun hd => t_impl_AreMethods_1) (fun w' hk => ⟨(hA.pt m0).keep hk, (hA.ro hs).keep hk⟩)⟩)) (fun _ _ => ?_)
      refine E.y rfl rfl (by decide) ((Y.not rfl).yd) ?_
      refine E.y rfl rfl (by decide) ((Y.pkt rfl rfl).yd) ?_
      refine E.y rfl rfl (by decide) ((Y.as rfl).yd) ?_
      exact E.nil (E.thn (E.ret (F.r1 (Back.refl _ _) rfl rfl () trivial (congrArg Value.bool (by grind [okMeths, List.drop_eq_getElem_cons, List.drop_eq_nil_of_le, List.take_succ_eq_append_getElem, List.take_of_length_le])) (J := _) (.refl _) (.inl rfl))))
    · refine E.y rfl rfl (by decide) ((Y.pkt rfl rfl).yd) ?_
      refine E.y rfl rfl (by decide) ((Y.mv rfl).yd) ?_
      refine E.skip rfl rfl rfl ?_
      refine E.skip rfl rfl rfl ?_
      refine E.skip rfl rfl rfl ?_
      refine E.skip rfl rfl rfl ?_
      refine E.y rfl rfl (by decide) ((Y.pkf rfl rfl).yd) ?_
      refine E.y rfl rfl (by decide) ((Y.as rfl).yd) ?_
      exact E.nil (E.thn (E.ret (F.r1 (Back.refl _ _) rfl rfl () trivial (congrArg Value.bool (by grind [okMeths, List.drop_eq_getElem_cons, List.drop_eq_nil_of_le, List.take_succ_eq_append_getElem, List.take_of_length_le])) (J := _) (.refl _) (.inl rfl))))
  · refine E.y rfl rfl (by decide) ((Y.mv rfl).yd) ?_
    refine E.skip rfl rfl rfl ?_
    refine E.skip rfl rfl rfl ?_
    refine E.skip rfl rfl rfl ?_
    refine E.y rfl rfl (by decide) ((Y.pkf rfl rfl).yd) ?_
    refine E.y rfl rfl (by decide) ((Y.mv rfl).yd) ?_
    refine E.skip rfl rfl rfl ?_
    refine E.skip rfl rfl rfl ?_
    refine E.skip rfl rfl rfl ?_
    refine E.skip rfl rfl rfl ?_
    refine E.y rfl rfl (by decide) ((Y.pkf rfl rfl).yd) ?_
    refine E.y rfl rfl (by decide) ((Y.as rfl).yd) ?_
    exact E.nil (E.thn (E.ret (F.r1 (Back.refl _ _) rfl rfl () trivial (congrArg Value.bool (by grind [okMeths, List.drop_eq_getElem_cons, List.drop_eq_nil_of_le, List.take_succ_eq_append_getElem, List.take_of_length_le])) (J := _) (.refl _) (.inl rfl))))
theorem t_spec_AreMethods {a_s : Option Addr} {m_s c_s : Nat} {s : List Int} {a_l : Option Addr} {m_l c_l : Nat} {l : List (Int × List Int × Int × Int × Int)} : Tr Try.prog 114 [.slice a_s m_s c_s, .slice a_l m_l c_l] (fun w L => Ro w L eIs [.slice a_s m_s c_s] s ∧ Ro w L eMethods [.slice a_l m_l c_l] l) [] (κ := Unit) (fun k => True) (fun k => .bool (okMeths s l)) (fun k => []) := by
  refine Tr.intro Try.func114 rfl (n := 26) rfl (by decide +kernel) (Nat.le_of_ble_eq_true rfl) (fr := [(0, .slice a_s m_s c_s), (1, .slice a_l m_l c_l)]) rfl fun w L hR => ?_
  obtain ⟨hs, hl⟩ := hR
  obtain ⟨rfl, ls⟩ := hs.slen
  obtain ⟨rfl, ll⟩ := hl.slen
  refine E.seq (E.region (l := [0]) rfl (E.y rfl rfl (by decide) ((Y.as rfl).yd) ?_))
  refine E.nil (E.thn (E.seq (E.seq (E.region (l := [0]) rfl (E.y rfl rfl (by decide) ((Y.as rfl).yd) ?_)))))
  refine E.nil (E.thn (E.block (E.loop (κ := Nat) (fun g => g ≤ l.length ∧ l.any (fun m => !okMeth s m) = (l.drop g).any (fun m => !okMeth s m)) (fun g => [(0, .slice a_s s.length c_s), (1, .slice a_l l.length c_l), (5, .int .i64 (↑g : Int))]) (fun g => []) (fun g => l.length - g) 0 ⟨Nat.zero_le _, by simp⟩ ⟨rfl, rfl, rfl, trivial⟩ (.refl _) (fun g pg => ?_))))
  obtain ⟨pk, pa⟩ := pg
  refine E.seq (E.seq (E.region (l := [0, 1, 2, 3]) rfl (E.y rfl rfl (by decide) ((Y.mv rfl).yd) ?_)))
  refine E.y rfl rfl (by decide) ((Y.mv rfl).yd) ?_
  refine E.y rfl rfl (by decide) ((Y.len us_Methods rfl).yd) ?_
  refine E.y rfl rfl (by decide) ((Y.lss rfl rfl).yd) (Ent.d (fun q9 => ?_) (fun q9 => ?_))
  · refine E.nil (E.thn (E.ct rfl (E.skipc (E.thn (E.seq (E.block (E.seq (E.region (l := [0, 1, 2, 3, 4, 5, 6]) rfl (E.y rfl rfl (by decide) ((Y.mv rfl).yd) ?_)))))))))
    refine E.y rfl rfl (by decide) ((Y.mv rfl).yd) ?_
    refine E.y rfl rfl (by decide) ((Y.mv rfl).yd) ?_
    obtain ⟨eb15, eo15, ec15, ea15, er15, el15, eh15⟩ := hl.elem g (by omega)
    obtain ⟨xa15_0, xc15_0, rfl, ei15_0, xh15_0, ei15_2, ei15_3, ei15_4⟩ := Ro.pMethod er15
    have := xh15_0.slen.2
    refine E.y rfl rfl (by decide) ((Y.ix us_Methods ty_Method rfl ea15 rfl g rfl (by omega)).yd) ?_
    refine E.y rfl rfl (by decide) (Y.ldS (cs := [_, _, _, _, _]) ty_Method rfl (eh15 _) rfl) ?_
    refine E.st rfl rfl (N.call0 t_spec_IsMethod rfl rfl rfl (by decide) (fun w Lp hA => ⟨hA.ro hs, ei15_0, hA.ro xh15_0, ei15_2, ei15_3, ei15_4⟩)) (fun _ _ => (Ent.b (fun q17 => ?_) (fun q17 => ?_)))
    · refine E.y rfl rfl (by decide) ((Y.not (b := true) rfl).yd) ?_
      refine E.nil (E.thn (E.cf rfl (E.skipc (E.bln (E.thn (E.region (l := [0, 1, 2]) rfl (E.y rfl rfl (by decide) ((Y.mv rfl).yd) ?_)))))))
      refine E.y rfl rfl (by decide) ((Y.add rfl rfl (by omega) (by omega)).yd) ?_
      refine E.y rfl rfl (by decide) ((Y.as rfl).yd) ?_
      exact E.nil (E.thn (E.again (Back.refl _ _) (g + 1) ⟨rfl, rfl, rfl, trivial⟩ (.refl _) ⟨by omega, by grind [List.drop_eq_getElem_cons, List.drop_eq_nil_of_le, List.take_succ_eq_append_getElem, List.take_of_length_le]⟩ (by omega)))
    · refine E.y rfl rfl (by decide) ((Y.not (b := false) rfl).yd) ?_
      refine E.nil (E.thn (E.ct rfl (E.seq (E.region (l := [0]) rfl (E.y rfl rfl (by decide) ((Y.as rfl).yd) ?_)))))
      exact E.nil (E.thn (E.ret (E.blr (E.thr (E.thr (E.blr (E.thr (F.r1 (Back.refl _ _) rfl rfl () trivial (congrArg Value.bool (by grind [okMeths, List.drop_eq_getElem_cons, List.drop_eq_nil_of_le, List.take_succ_eq_append_getElem, List.take_of_length_le])) (J := _) (.refl _) (.inl rfl)))))))))
  · refine E.nil (E.thn (E.cf rfl (E.exit (E.the (E.the (E.blh (E.thn (E.seq (E.region (l := [0, 1, 2, 3, 4, 5, 6, 7]) rfl (E.y rfl rfl (by decide) ((Y.mv rfl).yd) ?_))))))))))
    refine E.st rfl rfl (N.call0 t_spec_IsSchema rfl rfl rfl (by decide) (fun w Lp hA => hA.ro hs)) (fun _ _ => (Ent.b (fun q20 => ?_) (fun q20 => ?_)))
    · refine E.y rfl rfl (by decide) ((Y.mv rfl).yd) ?_
      refine E.y rfl rfl (by decide) ((Y.mv rfl).yd) ?_
      refine E.y rfl rfl (by decide) ((Y.len us_Methods rfl).yd) ?_
      refine E.y rfl rfl (by decide) ((Y.leq rfl rfl).yd) ?_
      refine E.y rfl rfl (by decide) ((Y.pkt rfl rfl).yd) ?_
      refine E.y rfl rfl (by decide) ((Y.as rfl).yd) ?_
      exact E.nil (E.thn (E.ret (F.r1 (Back.refl _ _) rfl rfl () trivial (congrArg Value.bool (by grind [okMeths, List.drop_eq_getElem_cons, List.drop_eq_nil_of_le, List.take_succ_eq_append_getElem, List.take_of_length_le])) (J := _) (.refl _) (.inl rfl))))
    · refine E.y rfl rfl (by decide) ((Y.mv rfl).yd) ?_
      refine E.skip rfl rfl rfl ?_
      refine E.skip rfl rfl rfl ?_
      refine E.skip rfl rfl rfl ?_
      refine E.y rfl rfl (by decide) ((Y.pkf rfl rfl).yd) ?_
      refine E.y rfl rfl (by decide) ((Y.as rfl).yd) ?_
      exact E.nil (E.thn (E.ret (F.r1 (Back.refl _ _) rfl rfl () trivial (congrArg Value.bool (by grind [okMeths, List.drop_eq_getElem_cons, List.drop_eq_nil_of_le, List.take_succ_eq_append_getElem, List.take_of_length_le])) (J := _) (.refl _) (.inl rfl))))
theorem t_impl_areReached {a_values : Option Addr} {m_values c_values : Nat} {values : List Int} : Tr Try.prog 119 [.slice a_values m_values c_values] (fun w L => Ro w L eIs [.slice a_values m_values c_values] values) [] (κ := Unit) (fun k => True) (fun k => .bool (okReach values)) (fun k => []) := by
  refine Tr.intro Try.func119 rfl (n := 9) rfl (by decide +kernel) (Nat.le_of_ble_eq_true rfl) (fr := [(0, .slice a_values m_values c_values)]) rfl fun w L hR => ?_
  have hvalues := hR
  obtain ⟨rfl, lvalues⟩ := hvalues.slen
  refine E.seq (E.region (l := [0]) rfl (E.y rfl rfl (by decide) ((Y.as rfl).yd) ?_))
  refine E.nil (E.thn (E.seq (E.region (l := [0, 1, 2, 3, 4, 5, 6]) rfl (E.y rfl rfl (by decide) ((Y.mv rfl).yd) ?_))))
  refine E.st rfl rfl (N.call0 t_impl_ascending rfl rfl rfl (by decide) (fun w Lp hA => hA.ro hvalues)) (fun _ _ => (Ent.b (fun q4 => ?_) (fun q4 => ?_)))
  · refine E.y rfl rfl (by decide) ((Y.mv rfl).yd) ?_
    refine E.y rfl rfl (by decide) ((Y.mv rfl).yd) ?_
    refine E.st rfl rfl (N.call0 t_impl_areValues rfl rfl rfl (by decide) (fun w Lp hA => hA.ro hvalues)) (fun _ _ => ?_)
    refine E.y rfl rfl (by decide) ((Y.pkt rfl rfl).yd) ?_
    refine E.y rfl rfl (by decide) ((Y.as rfl).yd) ?_
    exact E.nil (E.thn (E.ret (F.r1 (Back.refl _ _) rfl rfl () trivial (congrArg Value.bool (by grind [okReach, List.drop_eq_getElem_cons, List.drop_eq_nil_of_le, List.take_succ_eq_append_getElem, List.take_of_length_le])) (J := _) (.refl _) (.inl rfl))))
  · refine E.y rfl rfl (by decide) ((Y.mv rfl).yd) ?_
    refine E.skip rfl rfl rfl ?_
    refine E.skip rfl rfl rfl ?_
    refine E.y rfl rfl (by decide) ((Y.pkf rfl rfl).yd) ?_
    refine E.y rfl rfl (by decide) ((Y.as rfl).yd) ?_
    exact E.nil (E.thn (E.ret (F.r1 (Back.refl _ _) rfl rfl () trivial (congrArg Value.bool (by grind [okReach, List.drop_eq_getElem_cons, List.drop_eq_nil_of_le, List.take_succ_eq_append_getElem, List.take_of_length_le])) (J := _) (.refl _) (.inl rfl))))
theorem t_spec_l8Values {a_l : Option Addr} {m_l c_l : Nat} {l : List Int} : Tr Try.prog 115 [.slice a_l m_l c_l] (fun w L => Ro w L eIs [.slice a_l m_l c_l] l) [] (κ := Unit) (fun k => True) (fun k => .bool (okReach l)) (fun k => []) := by
  refine Tr.intro Try.func115 rfl (n := 32) rfl (by decide +kernel) (Nat.le_of_ble_eq_true rfl) (fr := [(0, .slice a_l m_l c_l)]) rfl fun w L hR => ?_
  have hl := hR
  obtain ⟨rfl, ll⟩ := hl.slen
  refine E.seq (E.region (l := [0]) rfl (E.y rfl rfl (by decide) ((Y.as rfl).yd) ?_))
  refine E.nil (E.thn (E.seq (E.seq (E.region (l := [0]) rfl (E.y rfl rfl (by decide) ((Y.as rfl).yd) ?_)))))
  refine E.nil (E.thn (E.block (E.loop (κ := Nat) (fun g => g ≤ l.length ∧ (chainB ltB l && okVals l) = (chainB ltB (l.drop (g - 1)) && okVals (l.drop g))) (fun g => [(0, .slice a_l l.length c_l), (3, .int .i64 (↑g : Int))]) (fun g => []) (fun g => l.length - g) 0 ⟨Nat.zero_le _, by simp⟩ ⟨rfl, rfl, trivial⟩ (.refl _) (fun g pg => ?_))))
  obtain ⟨pk, pa⟩ := pg
  refine E.seq (E.seq (E.region (l := [0, 1, 2, 3]) rfl (E.y rfl rfl (by decide) ((Y.mv rfl).yd) ?_)))
  refine E.y rfl rfl (by decide) ((Y.mv rfl).yd) ?_
  refine E.y rfl rfl (by decide) ((Y.len us_Is rfl).yd) ?_
  refine E.y rfl rfl (by decide) ((Y.lss rfl rfl).yd) (Ent.d (fun q7 => ?_) (fun q7 => ?_))
  · refine E.nil (E.thn (E.ct rfl (E.skipc (E.thn (E.seq (E.block (E.seq (D.region (fun j => true) mixed (D.yp 0 rfl rfl (by decide) (Y.mv rfl) (by kernel_rfl) ?_)))))))))
    refine D.yp 1 rfl rfl (by decide) (Y.mv rfl) (by kernel_rfl) ?_
    obtain ⟨eb12, eo12, ea12, ei12, eh12⟩ := hl.elemI g (by omega)
    refine D.yp 2 rfl rfl (by decide) (Y.ix us_Is ty_I rfl ea12 rfl g rfl (by omega)) (by kernel_rfl) ?_
    refine D.y 3 rfl rfl (by decide) (Y.ld1 ty_I rfl (eh12 _) rfl) (by kernel_rfl) ?_
    refine D.st 4 rfl rfl (by kernel_rfl) (fun _ => rfl) (N.call0 t_spec_l1In rfl rfl rfl (by decide) (fun w Lp hA => trivial)) (fun _ _ => (Ent.b (fun q14 => ?_) (fun q14 => ?_)))
    · refine D.yp 5 rfl rfl (by decide) (Y.not (b := true) rfl) (by kernel_rfl) ?_
      refine D.yp 6 rfl rfl (by decide) (Y.mv rfl) (by kernel_rfl) ?_
      refine D.yp 7 rfl rfl (by decide) (Y.mv rfl) (by kernel_rfl) ?_
      refine D.yp 8 rfl rfl (by decide) (Y.gtr rfl rfl) (by kernel_rfl) (Ent.d (fun q18 => ?_) (fun q18 => ?_))
      · refine D.yp 9 rfl rfl (by decide) (Y.mv rfl) (by kernel_rfl) ?_
        refine D.yp 10 rfl rfl (by decide) (Y.mv rfl) (by kernel_rfl) ?_
        refine D.yp 11 rfl rfl (by decide) (Y.mv rfl) (by kernel_rfl) ?_
        refine D.yp 12 rfl rfl (by decide) (Y.ix us_Is ty_I rfl ea12 rfl g rfl (by omega)) (by kernel_rfl) ?_
        refine D.y 13 rfl rfl (by decide) (Y.ld1 ty_I rfl (eh12 _) rfl) (by kernel_rfl) ?_
        refine D.yp 14 rfl rfl (by decide) (Y.mv rfl) (by kernel_rfl) ?_
        refine D.yp 15 rfl rfl (by decide) (Y.mv rfl) (by kernel_rfl) ?_
        refine D.yp 16 rfl rfl (by decide) (Y.sub rfl rfl (by omega) (by omega)) (by kernel_rfl) ?_
        obtain ⟨eb27, eo27, ea27, ei27, eh27⟩ := hl.elemI (g - 1) (by omega)
        refine D.yp 17 rfl rfl (by decide) (Y.ix us_Is ty_I rfl ea27 rfl (g - 1) (by omega) (by omega)) (by kernel_rfl) ?_
        refine D.y 18 rfl rfl (by decide) (Y.ld1 ty_I rfl (eh27 _) rfl) (by kernel_rfl) ?_
        refine D.yp 19 rfl rfl (by decide) (Y.leq rfl rfl) (by kernel_rfl) (Ent.d (fun q29 => ?_) (fun q29 => ?_))
        · refine D.yp 20 rfl rfl (by decide) (Y.pkt rfl rfl) (by kernel_rfl) ?_
          refine D.yp 21 rfl rfl (by decide) (Y.pkf rfl rfl) (by kernel_rfl) ?_
          refine D.done (by kernel_rfl) (E.thn (E.ct rfl (E.seq (E.region (l := [0]) rfl (E.y rfl rfl (by decide) ((Y.as rfl).yd) ?_)))))
          exact E.nil (E.thn (E.ret (E.blr (E.thr (E.thr (E.blr (E.thr (F.r1 (Back.refl _ _) rfl rfl () trivial (congrArg Value.bool (by grind [okReach, okVals, chain_step, chain_zero, chain_end, ltB, List.drop_eq_getElem_cons, List.drop_eq_nil_of_le, List.take_succ_eq_append_getElem, List.take_of_length_le])) (J := _) (.refl _) (.inl rfl)))))))))
        · refine D.yp 20 rfl rfl (by decide) (Y.pkt rfl rfl) (by kernel_rfl) ?_
          refine D.yp 21 rfl rfl (by decide) (Y.pkf rfl rfl) (by kernel_rfl) ?_
          refine D.done (by kernel_rfl) (E.thn (E.cf rfl (E.skipc (E.bln (E.thn (E.region (l := [0, 1, 2]) rfl (E.y rfl rfl (by decide) ((Y.mv rfl).yd) ?_)))))))
          refine E.y rfl rfl (by decide) ((Y.add rfl rfl (by omega) (by omega)).yd) ?_
          refine E.y rfl rfl (by decide) ((Y.as rfl).yd) ?_
          exact E.nil (E.thn (E.again (Back.refl _ _) (g + 1) ⟨rfl, rfl, trivial⟩ (.refl _) ⟨by omega, by grind [okVals, chain_step, chain_zero, chain_end, ltB, List.drop_eq_getElem_cons, List.drop_eq_nil_of_le, List.take_succ_eq_append_getElem, List.take_of_length_le]⟩ (by omega)))
      · refine D.yp 9 rfl rfl (by decide) (Y.mv rfl) (by kernel_rfl) ?_
        refine D.skip 10 rfl rfl (by kernel_rfl) rfl ?_
        refine D.skip 11 rfl rfl (by kernel_rfl) rfl ?_
        refine D.skip 12 rfl rfl (by kernel_rfl) rfl ?_
        refine D.skip 13 rfl rfl (by kernel_rfl) rfl ?_
        refine D.skip 14 rfl rfl (by kernel_rfl) rfl ?_
        refine D.skip 15 rfl rfl (by kernel_rfl) rfl ?_
        refine D.skip 16 rfl rfl (by kernel_rfl) rfl ?_
        refine D.skip 17 rfl rfl (by kernel_rfl) rfl ?_
        refine D.skip 18 rfl rfl (by kernel_rfl) rfl ?_
        refine D.skip 19 rfl rfl (by kernel_rfl) rfl ?_
        refine D.yp 20 rfl rfl (by decide) (Y.pkf rfl rfl) (by kernel_rfl) ?_
        refine D.yp 21 rfl rfl (by decide) (Y.pkf rfl rfl) (by kernel_rfl) ?_
        refine D.done (by kernel_rfl) (E.thn (E.cf rfl (E.skipc (E.bln (E.thn (E.region (l := [0, 1, 2]) rfl (E.y rfl rfl (by decide) ((Y.mv rfl).yd) ?_)))))))
        refine E.y rfl rfl (by decide) ((Y.add rfl rfl (by omega) (by omega)).yd) ?_
        refine E.y rfl rfl (by decide) ((Y.as rfl).yd) ?_
        exact E.nil (E.thn (E.again (Back.refl _ _) (g + 1) ⟨rfl, rfl, trivial⟩ (.refl _) ⟨by omega, by grind [okVals, chain_step, chain_zero, chain_end, ltB, List.drop_eq_getElem_cons, List.drop_eq_nil_of_le, List.take_succ_eq_append_getElem, List.take_of_length_le]⟩ (by omega)))
    · refine D.yp 5 rfl rfl (by decide) (Y.not (b := false) rfl) (by kernel_rfl) ?_
      refine D.yp 6 rfl rfl (by decide) (Y.mv rfl) (by kernel_rfl) ?_
      refine D.skip 7 rfl rfl (by kernel_rfl) rfl ?_
      refine D.skip 8 rfl rfl (by kernel_rfl) rfl ?_
      refine D.sku 9 rfl rfl (by decide) (by kernel_rfl) ?_
      refine D.skip 10 rfl rfl (by kernel_rfl) rfl ?_
      refine D.skip 11 rfl rfl (by kernel_rfl) rfl ?_
      refine D.skip 12 rfl rfl (by kernel_rfl) rfl ?_
      refine D.skip 13 rfl rfl (by kernel_rfl) rfl ?_
      refine D.skip 14 rfl rfl (by kernel_rfl) rfl ?_
      refine D.skip 15 rfl rfl (by kernel_rfl) rfl ?_
      refine D.skip 16 rfl rfl (by kernel_rfl) rfl ?_
      refine D.skip 17 rfl rfl (by kernel_rfl) rfl ?_
      refine D.skip 18 rfl rfl (by kernel_rfl) rfl ?_
      refine D.skip 19 rfl rfl (by kernel_rfl) rfl ?_
      refine D.skip 20 rfl rfl (by kernel_rfl) rfl ?_
      refine D.yp 21 rfl rfl (by decide) (Y.pkt rfl rfl) (by kernel_rfl) ?_
      refine D.done (by kernel_rfl) (E.thn (E.ct rfl (E.seq (E.region (l := [0]) rfl (E.y rfl rfl (by decide) ((Y.as rfl).yd) ?_)))))
      exact E.nil (E.thn (E.ret (E.blr (E.thr (E.thr (E.blr (E.thr (F.r1 (Back.refl _ _) rfl rfl () trivial (congrArg Value.bool (by grind [okReach, okVals, chain_step, chain_zero, chain_end, ltB, List.drop_eq_getElem_cons, List.drop_eq_nil_of_le, List.take_succ_eq_append_getElem, List.take_of_length_le])) (J := _) (.refl _) (.inl rfl)))))))))
  · refine E.nil (E.thn (E.cf rfl (E.exit (E.the (E.the (E.blh (E.thn (E.seq (E.region (l := [0]) rfl (E.y rfl rfl (by decide) ((Y.as rfl).yd) ?_))))))))))
    exact E.nil (E.thn (E.ret (F.r1 (Back.refl _ _) rfl rfl () trivial (congrArg Value.bool (by grind [okReach, okVals, chain_step, chain_zero, chain_end, ltB, List.drop_eq_getElem_cons, List.drop_eq_nil_of_le, List.take_succ_eq_append_getElem, List.take_of_length_le])) (J := _) (.refl _) (.inl rfl))))
theorem t_impl_hasAccess_1 {x_Method : Int} {a_x_Values : Option Addr} {m_x_Values c_x_Values : Nat} {x_Values : List Int} {b_a : Nat} {a_Method : Int} {a_a_Values : Option Addr} {m_a_Values c_a_Values : Nat} {a_Values : List Int} : Tr Try.prog 218 [.agg #[.int .i64 x_Method, .slice a_x_Values m_x_Values c_x_Values], .pointer (some ⟨b_a, 0, none⟩)] (fun w L => (I64 x_Method ∧ Ro w L eIs [.slice a_x_Values m_x_Values c_x_Values] x_Values) ∧ RoPt w L b_a [.int .i64 a_Method, .slice a_a_Values m_a_Values c_a_Values] ∧ I64 a_Method ∧ Ro w L eIs [.slice a_a_Values m_a_Values c_a_Values] a_Values) [] (κ := Unit) (fun k => True) (fun k => .bool (decide ((x_Method, x_Values) = (a_Method, a_Values)))) (fun k => []) := by
  refine Tr.intro Try.func218 rfl (n := 7) rfl (by decide +kernel) (Nat.le_of_ble_eq_true rfl) (fr := [(0, .agg #[.int .i64 x_Method, .slice a_x_Values m_x_Values c_x_Values]), (1, .pointer (some ⟨b_a, 0, none⟩))]) rfl fun w L hR => ?_
  obtain ⟨⟨i6x_Method, hx_Values⟩, hb_a, i6a_Method, ha_Values⟩ := hR
  obtain ⟨rfl, lx_Values⟩ := hx_Values.slen
  obtain ⟨rfl, la_Values⟩ := ha_Values.slen
  refine E.seq (E.region (l := [0, 1]) rfl (E.st rfl rfl (N.box (cs := [_, _]) rfl (by decide) rfl) (fun b2 _ => ?_)))
  refine E.y rfl rfl (by decide) ((Y.as rfl).yd) ?_
  refine E.nil (E.thn (E.seq (E.region (l := [0, 1, 2, 3]) rfl (E.y rfl rfl (by decide) (Y.ldS (cs := [_, _]) ty_Access rfl (Has.pt m0) rfl) ?_))))
  refine E.y rfl rfl (by decide) (Y.ldS (cs := [_, _]) ty_Access rfl (hb_a.has) rfl) ?_
  refine E.st rfl rfl (N.call0 t_impl_sameAccess rfl rfl rfl (by decide) (fun w Lp hA => ⟨⟨i6x_Method, hA.ro hx_Values, i6a_Method, hA.ro ha_Values⟩, trivial⟩)) (fun _ _ => ?_)
  refine E.y rfl rfl (by decide) ((Y.as rfl).yd) ?_
  exact E.nil (E.thn (E.ret (F.r1 (Back.refl _ _) rfl rfl () trivial rfl (J := _) (.refl _) (.inl rfl))))
theorem t_impl_hasAccess {a_l : Option Addr} {m_l c_l : Nat} {l : List (Int × List Int)} {a_Method : Int} {a_a_Values : Option Addr} {m_a_Values c_a_Values : Nat} {a_Values : List Int} : Tr Try.prog 185 [.slice a_l m_l c_l, .agg #[.int .i64 a_Method, .slice a_a_Values m_a_Values c_a_Values]] (fun w L => Ro w L eAccesss [.slice a_l m_l c_l] l ∧ I64 a_Method ∧ Ro w L eIs [.slice a_a_Values m_a_Values c_a_Values] a_Values) [] (κ := Unit) (fun k => True) (fun k => .bool (hasA l (a_Method, a_Values))) (fun k => []) := by
  refine Tr.intro Try.func185 rfl (n := 8) rfl (by decide +kernel) (Nat.le_of_ble_eq_true rfl) (fr := [(0, .slice a_l m_l c_l), (1, .agg #[.int .i64 a_Method, .slice a_a_Values m_a_Values c_a_Values])]) rfl fun w L hR => ?_
  obtain ⟨hl, i6a_Method, ha_Values⟩ := hR
  obtain ⟨rfl, ll⟩ := hl.slen
  obtain ⟨rfl, la_Values⟩ := ha_Values.slen
  refine E.seq (E.region (l := [0, 1]) rfl (E.st rfl rfl (N.box (cs := [_, _]) rfl (by decide) rfl) (fun b3 _ => ?_)))
  refine E.y rfl rfl (by decide) ((Y.as rfl).yd) ?_
  refine E.nil (E.thn (E.seq (E.region (l := [0, 1, 2, 3]) rfl (E.y rfl rfl (by decide) ((Y.mv rfl).yd) ?_))))
  refine E.y rfl rfl (by decide) ((Y.fn (vs := [_]) rfl).yd) ?_
  refine E.st rfl rfl (N.call0 (t_ContainsFunc_Access (f := (fun z => decide (z = (a_Method, a_Values)))) (D_f := (fun _ => True)) (fun _ _ => trivial)) rfl rfl rfl (by decide) (fun w Lp hA => ⟨hA.ro hl, FnP.ofAccess (D := (fun _ => True)) (fun hd => t_impl_hasAccess_1) (fun w' hk => ⟨(hA.pt m0).keep hk, i6a_Method, (hA.ro ha_Values).keep hk⟩)⟩)) (fun _ _ => ?_)
  refine E.y rfl rfl (by decide) ((Y.as rfl).yd) ?_
  exact E.nil (E.thn (E.ret (F.r1 (Back.refl _ _) rfl rfl () trivial (congrArg Value.bool (by rfl)) (J := _) (.refl _) (.inl rfl))))
theorem t_spec_l7Logged {a_log : Option Addr} {m_log c_log : Nat} {log : List (Int × List Int)} {a_Method : Int} {a_a_Values : Option Addr} {m_a_Values c_a_Values : Nat} {a_Values : List Int} : Tr Try.prog 177 [.slice a_log m_log c_log, .agg #[.int .i64 a_Method, .slice a_a_Values m_a_Values c_a_Values]] (fun w L => Ro w L eAccesss [.slice a_log m_log c_log] log ∧ I64 a_Method ∧ Ro w L eIs [.slice a_a_Values m_a_Values c_a_Values] a_Values) [] (κ := Unit) (fun k => True) (fun k => .bool (hasA log (a_Method, a_Values))) (fun k => []) := by
  refine Tr.intro Try.func177 rfl (n := 18) rfl (by decide +kernel) (Nat.le_of_ble_eq_true rfl) (fr := [(0, .slice a_log m_log c_log), (1, .agg #[.int .i64 a_Method, .slice a_a_Values m_a_Values c_a_Values])]) rfl fun w L hR => ?_
  obtain ⟨hlog, i6a_Method, ha_Values⟩ := hR
  obtain ⟨rfl, llog⟩ := hlog.slen
  obtain ⟨rfl, la_Values⟩ := ha_Values.slen
  refine E.seq (E.region (l := [0, 1]) rfl (E.st rfl rfl (N.box (cs := [_, _]) rfl (by decide) rfl) (fun b3 _ => ?_)))
  refine E.y rfl rfl (by decide) ((Y.as rfl).yd) ?_
  refine E.nil (E.thn (E.seq (E.seq (E.region (l := [0]) rfl (E.y rfl rfl (by decide) ((Y.as rfl).yd) ?_)))))
  refine E.nil (E.thn (E.block (E.loop (κ := Nat) (fun g => g ≤ log.length ∧ hasA log (a_Method, a_Values) = hasA (log.drop g) (a_Method, a_Values)) (fun g => [(0, .slice a_log log.length c_log), (3, .pointer (some ⟨b3, 0, none⟩)), (5, .int .i64 (↑g : Int))]) (fun g => [pt b3 147 [.int .i64 a_Method, .slice a_a_Values a_Values.length c_a_Values]]) (fun g => log.length - g) 0 ⟨Nat.zero_le _, by simp⟩ ⟨rfl, rfl, rfl, trivial⟩ (.refl _) (fun g pg => ?_))))
  obtain ⟨pk, pa⟩ := pg
  refine E.seq (E.seq (E.region (l := [0, 1, 2, 3]) rfl (E.y rfl rfl (by decide) ((Y.mv rfl).yd) ?_)))
  refine E.y rfl rfl (by decide) ((Y.mv rfl).yd) ?_
  refine E.y rfl rfl (by decide) ((Y.len us_Accesss rfl).yd) ?_
  refine E.y rfl rfl (by decide) ((Y.lss rfl rfl).yd) (Ent.d (fun q9 => ?_) (fun q9 => ?_))
  · refine E.nil (E.thn (E.ct rfl (E.skipc (E.thn (E.seq (E.block (E.seq (D.region (fun j => true) mixed (D.yp 0 rfl rfl (by decide) (Y.mv rfl) (by kernel_rfl) ?_)))))))))
    refine D.yp 1 rfl rfl (by decide) (Y.mv rfl) (by kernel_rfl) ?_
    obtain ⟨eb14, eo14, ec14, ea14, er14, el14, eh14⟩ := hlog.elem g (by omega)
    obtain ⟨xa14_0, xc14_0, rfl, ei14_0, xh14_0⟩ := Ro.pAccess er14
    have := xh14_0.slen.2
    refine D.yp 2 rfl rfl (by decide) (Y.ix us_Accesss ty_Access rfl ea14 rfl g rfl (by omega)) (by kernel_rfl) ?_
    refine D.y 3 rfl rfl (by decide) (Y.ldS (cs := [_, _]) ty_Access rfl (eh14 _) rfl) (by kernel_rfl) ?_
    refine D.y 4 rfl rfl (by decide) (Y.ldS (cs := [_, _]) ty_Access rfl (Has.pt m0) rfl) (by kernel_rfl) ?_
    refine D.st 5 rfl rfl (by kernel_rfl) (fun _ => rfl) (N.call0 t_spec_l5Same rfl rfl rfl (by decide) (fun w Lp hA => ⟨ei14_0, hA.ro xh14_0, i6a_Method, hA.ro ha_Values⟩)) (fun _ _ => (Ent.b (fun q17 => ?_) (fun q17 => ?_)))
    · refine D.done (by kernel_rfl) (E.thn (E.ct rfl (E.seq (E.region (l := [0]) rfl (E.y rfl rfl (by decide) ((Y.as rfl).yd) ?_)))))
      exact E.nil (E.thn (E.ret (E.blr (E.thr (E.thr (E.blr (E.thr (F.r1 (Back.refl _ _) rfl rfl () trivial (congrArg Value.bool (by grind [hasA, List.drop_eq_getElem_cons, List.drop_eq_nil_of_le, List.take_succ_eq_append_getElem, List.take_of_length_le])) (J := _) (.refl _) (.inl rfl)))))))))
    · refine D.done (by kernel_rfl) (E.thn (E.cf rfl (E.skipc (E.bln (E.thn (E.region (l := [0, 1, 2]) rfl (E.y rfl rfl (by decide) ((Y.mv rfl).yd) ?_)))))))
      refine E.y rfl rfl (by decide) ((Y.add rfl rfl (by omega) (by omega)).yd) ?_
      refine E.y rfl rfl (by decide) ((Y.as rfl).yd) ?_
      exact E.nil (E.thn (E.again (Back.refl _ _) (g + 1) ⟨rfl, rfl, rfl, trivial⟩ (.refl _) ⟨by omega, by grind [hasA, List.drop_eq_getElem_cons, List.drop_eq_nil_of_le, List.take_succ_eq_append_getElem, List.take_of_length_le]⟩ (by omega)))
  · refine E.nil (E.thn (E.cf rfl (E.exit (E.the (E.the (E.blh (E.thn (E.seq (E.region (l := [0]) rfl (E.y rfl rfl (by decide) ((Y.as rfl).yd) ?_))))))))))
    exact E.nil (E.thn (E.ret (F.r1 (Back.refl _ _) rfl rfl () trivial (congrArg Value.bool (by grind [hasA, List.drop_eq_getElem_cons, List.drop_eq_nil_of_le, List.take_succ_eq_append_getElem, List.take_of_length_le])) (J := _) (.refl _) (.inl rfl))))
theorem t_spec_l8Access {m : Int} {a_values : Option Addr} {m_values c_values : Nat} {values : List Int} (hz : values.length ≤ 1048576) : Tr Try.prog 176 [.int .i64 m, .slice a_values m_values c_values] (fun w L => I64 m ∧ Ro w L eIs [.slice a_values m_values c_values] values) [] (κ := Option Addr × Nat × Nat) (fun k => True) (fun k => .agg #[.int .i64 m, .slice k.1 k.2.1 k.2.2]) (fun k => [ow eIs [.slice k.1 k.2.1 k.2.2] values]) := by
  refine Tr.intro Try.func176 rfl (n := 10) rfl (by decide +kernel) (Nat.le_of_ble_eq_true rfl) (fr := [(0, .int .i64 m), (1, .slice a_values m_values c_values)]) rfl fun w L hR => ?_
  obtain ⟨i6m, hvalues⟩ := hR
  obtain ⟨rfl, lvalues⟩ := hvalues.slen
  refine E.seq (E.region (l := [0]) rfl (E.st rfl rfl (N.alloc ty_Access (by decide)) (fun b4 _ => ?_)))
  refine E.nil (E.thn (E.seq (E.region (l := [0, 1, 2, 3, 4, 5]) rfl (E.y rfl rfl (by decide) ((Y.mv rfl).yd) ?_))))
  refine E.st rfl rfl (N.bsl (pvs := []) (cs := []) us_Is ty_I rfl (by decide) (by decide) (fillZ rfl rfl) rfl (by decide)) (fun b6 _ => ?_)
  refine Ent.drop ?_
  refine E.y rfl rfl (by decide) ((Y.mv rfl).yd) ?_
  refine E.st rfl rfl (N.pushR0 (E := Enc.int) Plain.int us_Is ty_I rfl rfl rfl hvalues (by first | omega | (simp only [List.length_map, List.length_take, List.length_append, List.length_drop, List.length_cons, List.length_nil]; omega)) (by first | omega | (simp only [List.length_map, List.length_take, List.length_append, List.length_drop, List.length_cons, List.length_nil]; omega)) (by decide)) (fun p8 _ => ?_)
  refine E.y rfl rfl (by decide) ((Y.bld (pvs := [_, _]) (cs := [_, _]) ty_Access pl_Access rfl rfl).yd) ?_
  refine Ent.p1 ?_
  refine E.st rfl rfl (N.sto (vs := [_, _]) (cs' := [_, _]) ty_Access rfl rfl rfl rfl rfl (Nat.le_of_ble_eq_true rfl) rfl) (fun _ _ => ?_)
  refine E.nil (E.thn (E.ret (Ent.p1 ?_)))
  exact F.c1 (Back.refl _ _) rfl rfl (mS m0) ty_Access rfl (_, _, _) trivial rfl (J := _) (.refl _) (.inl rfl)
theorem t_impl_lists {a_values : Option Addr} {m_values c_values : Nat} {values : List Int} {n : Int} (hv : values.length ≤ 10) (hn : 0 ≤ n ∧ n ≤ 3) : Tr Try.prog 184 [.slice a_values m_values c_values, .int .i64 n] (fun w L => Ro w L eIs [.slice a_values m_values c_values] values) [] (κ := Option Addr × Nat × Nat) (fun k => True) (fun k => .slice k.1 k.2.1 k.2.2) (fun k => [ow eIss [.slice k.1 k.2.1 k.2.2] (listsF values n.toNat)]) := by
  refine Tr.intro Try.func184 rfl (n := 42) rfl (by decide +kernel) (Nat.le_of_ble_eq_true rfl) (fr := [(0, .slice a_values m_values c_values), (1, .int .i64 n)]) rfl fun w L hR => ?_
  have hvalues := hR
  obtain ⟨rfl, lvalues⟩ := hvalues.slen
  have ji := hvalues.i64
  refine E.seq (E.region (l := [0]) rfl (E.y rfl rfl (by decide) ((Y.as rfl).yd) ?_))
  refine E.nil (E.thn (E.seq (E.region (l := [0, 1, 2]) rfl (E.st rfl rfl (N.bsl (pvs := []) (cs := []) us_Is ty_I rfl (by decide) (by decide) (fillZ rfl rfl) rfl (by decide)) (fun b11 _ => ?_)))))
  refine Ent.drop ?_
  refine E.st rfl rfl (N.bsl (pvs := [_]) (cs := [_]) us_Iss ty_Is rfl (by decide) (by decide) (fillZ rfl rfl) rfl (by decide)) (fun b12 _ => ?_)
  refine Ent.mkow (A := _ :: _) (Own.row1 (E := eIs) (e := tIs) Own.nil) rfl ?_
  refine E.y rfl rfl (by decide) ((Y.as rfl).yd) ?_
  refine E.nil (E.thn (E.seq (E.seq (E.region (l := [0, 1]) rfl (E.y rfl rfl (by decide) ((Y.mv rfl).yd) ?_)))))
  refine E.y rfl rfl (by decide) ((Y.mv rfl).yd) ?_
  refine E.nil (E.thn (E.block (Ent.cv (congrArg (ow eIss [_]) (show [[]] = listsF values 0 from by first | rfl | (simp; done) | grind [listsF, lists_len, lists_mem, List.drop_eq_getElem_cons, List.drop_eq_nil_of_le, List.take_succ_eq_append_getElem, List.take_of_length_le])) ?_)))
  refine E.loop (κ := Nat × Option Addr × Nat × Nat) (fun t => t.1 ≤ n.toNat ∧ True) (fun t => [(0, .slice a_values values.length c_values), (5, .slice t.2.1 t.2.2.1 t.2.2.2), (13, .int .i64 n), (14, .int .i64 (↑t.1 : Int))]) (fun t => [ow eIss [.slice t.2.1 t.2.2.1 t.2.2.2] (listsF values t.1)]) (fun t => n.toNat - t.1) (0, (some ⟨b12, 0, none⟩), 1, 1) ⟨Nat.zero_le _, by simp⟩ ⟨rfl, rfl, rfl, rfl, trivial⟩ (.refl _) (fun t pt => ?_)
  obtain ⟨t, aA0_0, mA0_0, cA0_0⟩ := t
  try dsimp only at pt
  show Ent _ _ _ [(0, .slice a_values values.length c_values), (5, .slice aA0_0 mA0_0 cA0_0), (13, .int .i64 n), (14, .int .i64 (↑t : Int))] [ow eIss [.slice aA0_0 mA0_0 cA0_0] (listsF values t)] _
  obtain ⟨pk, pa⟩ := pt
  refine Ent.lenow m0 fun eaA0_0 laA0_0 => ?_
  subst eaA0_0
  have jl := lists_le (values := values) (t := t) hv (by omega)
  refine E.seq (E.region (l := [0]) rfl (E.y rfl rfl (by decide) ((Y.lss rfl rfl).yd) (Ent.d (fun q15 => ?_) (fun q15 => ?_))))
  · refine Ent.rebase (A := [_]) rfl fun wb1 Lb1 hB1 hA1 => ?_
    have hvalues := hA1.ro hvalues
    have rb1 : Ro wb1 Lb1 eIss [.slice aA0_0 (listsF values t).length cA0_0] (listsF values t) := hA1.ow m0
    refine E.nil (E.thn (E.seq (E.ct rfl (E.skipc (E.thn (E.seq (E.block (E.seq (E.region (l := [0, 1]) rfl (E.st rfl rfl (N.bsl (pvs := []) (cs := []) us_Iss ty_Is rfl (by decide) (by decide) (fillZ rfl rfl) rfl (by decide)) (fun b16 _ => ?_)))))))))))
    refine Ent.drop ?_
    refine E.y rfl rfl (by decide) ((Y.as rfl).yd) ?_
    refine E.nil (E.thn (E.seq (E.seq (E.region (l := [0, 1, 2]) rfl (E.y rfl rfl (by decide) ((Y.mv rfl).yd) ?_)))))
    refine E.y rfl rfl (by decide) ((Y.len us_Iss rfl).yd) ?_
    refine E.y rfl rfl (by decide) ((Y.mv rfl).yd) ?_
    refine E.nil (E.thn (E.block (Ent.mkow (A := []) (Own.nil (E := eIs) (e := tIs) (a := (some ⟨b16, 0, none⟩))) rfl ?_)))
    refine Ent.cv (congrArg (ow eIss [_]) (show [] = ((listsF values t).take 0).flatMap (fun l => values.map (fun v => l ++ [v])) from by first | rfl | (simp; done) | grind [listsF, lists_len, lists_mem, List.drop_eq_getElem_cons, List.drop_eq_nil_of_le, List.take_succ_eq_append_getElem, List.take_of_length_le])) ?_
    refine E.loop (κ := Nat × Option Addr × Nat × Nat) (fun k => k.1 ≤ (listsF values t).length ∧ True) (fun k => [(0, .slice a_values values.length c_values), (6, .slice k.2.1 k.2.2.1 k.2.2.2), (13, .int .i64 n), (14, .int .i64 (↑t : Int)), (17, .slice aA0_0 (listsF values t).length cA0_0), (18, .int .i64 (↑((listsF values t).length) : Int)), (19, .int .i64 (↑k.1 : Int))]) (fun k => [ow eIss [.slice k.2.1 k.2.2.1 k.2.2.2] (((listsF values t).take k.1).flatMap (fun l => values.map (fun v => l ++ [v])))]) (fun k => (listsF values t).length - k.1) (0, (some ⟨b16, 0, none⟩), 0, 0) ⟨Nat.zero_le _, by simp⟩ ⟨rfl, rfl, rfl, rfl, rfl, rfl, rfl, trivial⟩ (.refl _) (fun k pk => ?_)
    obtain ⟨k, aA1_0, mA1_0, cA1_0⟩ := k
    try dsimp only at pk
    show Ent _ _ _ [(0, .slice a_values values.length c_values), (6, .slice aA1_0 mA1_0 cA1_0), (13, .int .i64 n), (14, .int .i64 (↑t : Int)), (17, .slice aA0_0 (listsF values t).length cA0_0), (18, .int .i64 (↑((listsF values t).length) : Int)), (19, .int .i64 (↑k : Int))] [ow eIss [.slice aA1_0 mA1_0 cA1_0] (((listsF values t).take k).flatMap (fun l => values.map (fun v => l ++ [v])))] _
    obtain ⟨pk, pa⟩ := pk
    refine Ent.lenow m0 fun eaA1_0 laA1_0 => ?_
    subst eaA1_0
    have jk := take_flat_le (values := values) (l := listsF values t) (k := k) hv
    refine E.seq (E.region (l := [0]) rfl (E.y rfl rfl (by decide) ((Y.lss rfl rfl).yd) (Ent.d (fun q20 => ?_) (fun q20 => ?_))))
    · obtain ⟨eb21, eo21, ec21, ea21, er21, el21, eh21⟩ := rb1.elem k (by omega)
      obtain ⟨xa21, xc21, rfl⟩ := er21.sl
      have := er21.slen.2
      refine E.nil (E.thn (E.seq (E.ct rfl (E.skipc (E.thn (E.seq (E.block (E.seq (E.region (l := [0, 1, 2]) rfl (E.y rfl rfl (by decide) ((Y.ix us_Iss ty_Is rfl ea21 rfl k rfl (by omega)).yd) ?_))))))))))
      refine E.y rfl rfl (by decide) (Y.ld1 ty_Is rfl (eh21 _) rfl) ?_
      refine E.y rfl rfl (by decide) ((Y.as rfl).yd) ?_
      refine E.nil (E.thn (E.seq (E.region (l := [0, 1, 2]) rfl (E.y rfl rfl (by decide) ((Y.mv rfl).yd) ?_))))
      refine E.y rfl rfl (by decide) ((Y.len us_Is rfl).yd) ?_
      refine E.y rfl rfl (by decide) ((Y.mv rfl).yd) ?_
      refine E.nil (E.thn (E.block (Ent.cv (congrArg (ow eIss [_]) (show ((listsF values t).take k).flatMap (fun l => values.map (fun v => l ++ [v])) = ((listsF values t).take k).flatMap (fun l => values.map (fun v => l ++ [v])) ++ (values.take 0).map (fun v => (listsF values t)[k] ++ [v]) from by first | rfl | (simp; done) | grind [listsF, lists_len, lists_mem, List.drop_eq_getElem_cons, List.drop_eq_nil_of_le, List.take_succ_eq_append_getElem, List.take_of_length_le])) ?_)))
      refine E.loop (κ := Nat × Option Addr × Nat × Nat) (fun j => j.1 ≤ values.length ∧ True) (fun j => [(0, .slice a_values values.length c_values), (6, .slice j.2.1 j.2.2.1 j.2.2.2), (8, .slice xa21 ((listsF values t)[k].length) xc21), (13, .int .i64 n), (14, .int .i64 (↑t : Int)), (17, .slice aA0_0 (listsF values t).length cA0_0), (18, .int .i64 (↑((listsF values t).length) : Int)), (19, .int .i64 (↑k : Int)), (23, .slice a_values values.length c_values), (24, .int .i64 (↑values.length : Int)), (25, .int .i64 (↑j.1 : Int))]) (fun j => [ow eIss [.slice j.2.1 j.2.2.1 j.2.2.2] (((listsF values t).take k).flatMap (fun l => values.map (fun v => l ++ [v])) ++ (values.take j.1).map (fun v => (listsF values t)[k] ++ [v]))]) (fun j => values.length - j.1) (0, aA1_0, (((listsF values t).take k).flatMap (fun l => values.map (fun v => l ++ [v]))).length, cA1_0) ⟨Nat.zero_le _, by simp⟩ ⟨rfl, rfl, rfl, rfl, rfl, rfl, rfl, rfl, rfl, rfl, rfl, trivial⟩ (.refl _) (fun j pj => ?_)
      obtain ⟨j, aA2_0, mA2_0, cA2_0⟩ := j
      try dsimp only at pj
      show Ent _ _ _ [(0, .slice a_values values.length c_values), (6, .slice aA2_0 mA2_0 cA2_0), (8, .slice xa21 ((listsF values t)[k].length) xc21), (13, .int .i64 n), (14, .int .i64 (↑t : Int)), (17, .slice aA0_0 (listsF values t).length cA0_0), (18, .int .i64 (↑((listsF values t).length) : Int)), (19, .int .i64 (↑k : Int)), (23, .slice a_values values.length c_values), (24, .int .i64 (↑values.length : Int)), (25, .int .i64 (↑j : Int))] [ow eIss [.slice aA2_0 mA2_0 cA2_0] (((listsF values t).take k).flatMap (fun l => values.map (fun v => l ++ [v])) ++ (values.take j).map (fun v => (listsF values t)[k] ++ [v]))] _
      obtain ⟨pk, pa⟩ := pj
      have jm := lists_mem (values := values) (t := t) _ (List.getElem_mem (l := listsF values t) (n := k) (by omega))
      refine Ent.lenow m0 fun eaA2_0 laA2_0 => ?_
      subst eaA2_0
      refine E.seq (E.region (l := [0]) rfl (E.y rfl rfl (by decide) ((Y.lss rfl rfl).yd) (Ent.d (fun q26 => ?_) (fun q26 => ?_))))
      · obtain ⟨eb27, eo27, ea27, ei27, eh27⟩ := hvalues.elemI j (by omega)
        refine E.nil (E.thn (E.seq (E.ct rfl (E.skipc (E.thn (E.seq (E.block (E.seq (E.region (l := [0, 1, 2]) rfl (E.y rfl rfl (by decide) ((Y.ix us_Is ty_I rfl ea27 rfl j rfl (by omega)).yd) ?_))))))))))
        refine E.y rfl rfl (by decide) (Y.ld1 ty_I rfl (eh27 _) rfl) ?_
        refine E.y rfl rfl (by decide) ((Y.as rfl).yd) ?_
        refine E.nil (E.thn (E.region (l := [0, 1, 2, 3, 4, 5, 6, 7, 8]) rfl (E.y rfl rfl (by decide) ((Y.mv rfl).yd) ?_)))
        refine E.y rfl rfl (by decide) ((Y.mv rfl).yd) ?_
        refine E.st rfl rfl (N.call (t_Clone_Is (by first | omega | assumption | (constructor <;> omega))) rfl rfl rfl (by decide) rfl (fun w Lp hA => hA.ro er21)) (fun k31 _ => ?_)
        obtain ⟨a31, m31, c31⟩ := k31
        refine Ent.lenow m0 fun e31 l31 => ?_
        subst e31
        refine E.y rfl rfl (by decide) ((Y.mv rfl).yd) ?_
        refine E.st rfl rfl (N.bsl (pvs := [_]) (cs := [_]) us_Is ty_I rfl (by decide) (by decide) (fillZ rfl rfl) rfl (by decide)) (fun b33 _ => ?_)
        refine Ent.p1 ?_
        refine E.st rfl rfl (N.push (E := Enc.int) (ex := values[j]) us_Is ty_I rfl rfl rfl (Own.int ei27) rfl (by first | omega | (simp only [List.length_map, List.length_take, List.length_append, List.length_drop, List.length_cons, List.length_nil]; omega)) (by first | omega | (simp only [List.length_map, List.length_take, List.length_append, List.length_drop, List.length_cons, List.length_nil]; omega)) (by decide)) (fun p34 _ => ?_)
        refine E.st rfl rfl (N.bsl (pvs := [_]) (cs := [_]) us_Iss ty_Is rfl (by decide) (by decide) (fillZ rfl rfl) rfl (by decide)) (fun b35 _ => ?_)
        refine Ent.p1 ?_
        refine Ent.p1 ?_
        refine Ent.p2 ?_
        refine E.st rfl rfl (N.push (E := eIs) (ex := ((listsF values t)[k]) ++ [values[j]]) us_Iss ty_Is rfl rfl rfl Own.ow rfl (by first | omega | (simp only [List.length_map, List.length_take, List.length_append, List.length_drop, List.length_cons, List.length_nil]; omega)) (by first | omega | (simp only [List.length_map, List.length_take, List.length_append, List.length_drop, List.length_cons, List.length_nil]; omega)) (by decide)) (fun p36 _ => ?_)
        refine E.y rfl rfl (by decide) ((Y.as rfl).yd) ?_
        refine E.nil (E.bln (E.thn (E.region (l := [0, 1]) rfl (E.y rfl rfl (by decide) ((Y.add rfl rfl (by omega) (by omega)).yd) ?_))))
        refine E.y rfl rfl (by decide) ((Y.mv rfl).yd) ?_
        refine E.nil (E.thn (Ent.cv (congrArg (ow eIss [_]) (show (((listsF values t).take k).flatMap (fun l => values.map (fun v => l ++ [v])) ++ (values.take j).map (fun v => (listsF values t)[k] ++ [v])) ++ [((listsF values t)[k]) ++ [values[j]]] = ((listsF values t).take k).flatMap (fun l => values.map (fun v => l ++ [v])) ++ (values.take (j + 1)).map (fun v => (listsF values t)[k] ++ [v]) from by grind [listsF, lists_len, lists_mem, List.drop_eq_getElem_cons, List.drop_eq_nil_of_le, List.take_succ_eq_append_getElem, List.take_of_length_le])) ?_))
        exact E.again (Back.refl _ _) (j + 1, p36.1, ((((listsF values t).take k).flatMap (fun l => values.map (fun v => l ++ [v])) ++ (values.take j).map (fun v => (listsF values t)[k] ++ [v])).length + 1), p36.2) ⟨rfl, rfl, rfl, rfl, rfl, rfl, rfl, rfl, rfl, rfl, rfl, trivial⟩ (.refl _) ⟨(show j + 1 ≤ values.length from by omega), (show True from by grind [List.drop_eq_getElem_cons, List.drop_eq_nil_of_le, List.take_succ_eq_append_getElem, List.take_of_length_le])⟩ (show values.length - (j + 1) < values.length - j from by omega)
      · refine E.nil (E.thn (E.seq (E.cf rfl (E.exit (E.the (E.the (E.blh (E.bln (E.thn (E.region (l := [0, 1]) rfl (E.y rfl rfl (by decide) ((Y.add rfl rfl (by omega) (by omega)).yd) ?_)))))))))))
        refine E.y rfl rfl (by decide) ((Y.mv rfl).yd) ?_
        refine E.nil (E.thn (Ent.cv (congrArg (ow eIss [_]) (show ((listsF values t).take k).flatMap (fun l => values.map (fun v => l ++ [v])) ++ (values.take j).map (fun v => (listsF values t)[k] ++ [v]) = ((listsF values t).take (k + 1)).flatMap (fun l => values.map (fun v => l ++ [v])) from by grind [listsF, lists_len, lists_mem, List.drop_eq_getElem_cons, List.drop_eq_nil_of_le, List.take_succ_eq_append_getElem, List.take_of_length_le])) ?_))
        exact E.again (Back.refl _ _) (k + 1, aA2_0, (((listsF values t).take k).flatMap (fun l => values.map (fun v => l ++ [v])) ++ (values.take j).map (fun v => (listsF values t)[k] ++ [v])).length, cA2_0) ⟨rfl, rfl, rfl, rfl, rfl, rfl, rfl, trivial⟩ (.refl _) ⟨(show k + 1 ≤ (listsF values t).length from by omega), (show True from by grind [List.drop_eq_getElem_cons, List.drop_eq_nil_of_le, List.take_succ_eq_append_getElem, List.take_of_length_le])⟩ (show (listsF values t).length - (k + 1) < (listsF values t).length - k from by omega)
    · refine E.nil (E.thn (E.seq (E.cf rfl (E.exit (E.the (E.the (E.blh (E.thn (E.region (l := [0, 1]) rfl (E.y rfl rfl (by decide) ((Y.mv rfl).yd) ?_))))))))))
      refine E.y rfl rfl (by decide) ((Y.as rfl).yd) ?_
      refine E.nil (E.bln (E.thn (E.region (l := [0, 1]) rfl (E.y rfl rfl (by decide) ((Y.add rfl rfl (by omega) (by omega)).yd) ?_))))
      refine E.y rfl rfl (by decide) ((Y.mv rfl).yd) ?_
      refine E.nil (E.thn (Ent.cv (congrArg (ow eIss [_]) (show ((listsF values t).take k).flatMap (fun l => values.map (fun v => l ++ [v])) = listsF values (t + 1) from by grind [listsF, lists_len, lists_mem, List.drop_eq_getElem_cons, List.drop_eq_nil_of_le, List.take_succ_eq_append_getElem, List.take_of_length_le])) ?_))
      exact E.again hB1 (t + 1, aA1_0, (((listsF values t).take k).flatMap (fun l => values.map (fun v => l ++ [v]))).length, cA1_0) ⟨rfl, rfl, rfl, rfl, trivial⟩ (.refl _) ⟨(show t + 1 ≤ n.toNat from by omega), (show True from by grind [List.drop_eq_getElem_cons, List.drop_eq_nil_of_le, List.take_succ_eq_append_getElem, List.take_of_length_le])⟩ (show n.toNat - (t + 1) < n.toNat - t from by omega)
  · refine E.nil (E.thn (E.seq (E.cf rfl (E.exit (E.the (E.the (E.blh (E.thn (E.seq (E.region (l := [0, 1]) rfl (E.y rfl rfl (by decide) ((Y.mv rfl).yd) ?_)))))))))))
    refine E.y rfl rfl (by decide) ((Y.as rfl).yd) ?_
    refine E.nil (E.thn (E.ret (Ent.cv (congrArg (ow eIss [_]) (show _ = listsF values n.toNat by grind [listsF, lists_len, lists_mem, List.drop_eq_getElem_cons, List.drop_eq_nil_of_le, List.take_succ_eq_append_getElem, List.take_of_length_le])) ?_)))
    exact F.r1 (Back.refl _ _) rfl rfl (_, _, _) trivial rfl (J := _) (.refl _) (.inl rfl)
theorem t_spec_l8Lists {a_values : Option Addr} {m_values c_values : Nat} {values : List Int} {n : Int} (hv : values.length ≤ 10) (hn : 0 ≤ n ∧ n ≤ 3) : Tr Try.prog 175 [.slice a_values m_values c_values, .int .i64 n] (fun w L => Ro w L eIs [.slice a_values m_values c_values] values) [] (κ := Option Addr × Nat × Nat) (fun k => True) (fun k => .slice k.1 k.2.1 k.2.2) (fun k => [ow eIss [.slice k.1 k.2.1 k.2.2] (listsF values n.toNat)]) := by
  refine Tr.intro Try.func175 rfl (n := 47) rfl (by decide +kernel) (Nat.le_of_ble_eq_true rfl) (fr := [(0, .slice a_values m_values c_values), (1, .int .i64 n)]) rfl fun w L hR => ?_
  have hvalues := hR
  obtain ⟨rfl, lvalues⟩ := hvalues.slen
  have ji := hvalues.i64
  refine E.seq (E.region (l := [0]) rfl (E.y rfl rfl (by decide) ((Y.as rfl).yd) ?_))
  refine E.nil (E.thn (E.seq (E.region (l := [0, 1, 2]) rfl (E.st rfl rfl (N.bsl (pvs := []) (cs := []) us_Is ty_I rfl (by decide) (by decide) (fillZ rfl rfl) rfl (by decide)) (fun b10 _ => ?_)))))
  refine Ent.drop ?_
  refine E.st rfl rfl (N.bsl (pvs := [_]) (cs := [_]) us_Iss ty_Is rfl (by decide) (by decide) (fillZ rfl rfl) rfl (by decide)) (fun b11 _ => ?_)
  refine Ent.mkow (A := _ :: _) (Own.row1 (E := eIs) (e := tIs) Own.nil) rfl ?_
  refine E.y rfl rfl (by decide) ((Y.as rfl).yd) ?_
  refine E.nil (E.thn (E.seq (E.seq (E.region (l := [0]) rfl (E.y rfl rfl (by decide) ((Y.as rfl).yd) ?_)))))
  refine E.nil (E.thn (E.block (Ent.cv (congrArg (ow eIss [_]) (show [[]] = listsF values 0 from by first | rfl | (simp; done) | grind [listsF, lists_len, lists_mem, List.drop_eq_getElem_cons, List.drop_eq_nil_of_le, List.take_succ_eq_append_getElem, List.take_of_length_le])) ?_)))
  refine E.loop (κ := Nat × Option Addr × Nat × Nat) (fun t => t.1 ≤ n.toNat ∧ True) (fun t => [(0, .slice a_values values.length c_values), (1, .int .i64 n), (5, .slice t.2.1 t.2.2.1 t.2.2.2), (6, .int .i64 (↑t.1 : Int))]) (fun t => [ow eIss [.slice t.2.1 t.2.2.1 t.2.2.2] (listsF values t.1)]) (fun t => n.toNat - t.1) (0, (some ⟨b11, 0, none⟩), 1, 1) ⟨Nat.zero_le _, by simp⟩ ⟨rfl, rfl, rfl, rfl, trivial⟩ (.refl _) (fun t pt => ?_)
  obtain ⟨t, aA0_0, mA0_0, cA0_0⟩ := t
  try dsimp only at pt
  show Ent _ _ _ [(0, .slice a_values values.length c_values), (1, .int .i64 n), (5, .slice aA0_0 mA0_0 cA0_0), (6, .int .i64 (↑t : Int))] [ow eIss [.slice aA0_0 mA0_0 cA0_0] (listsF values t)] _
  obtain ⟨pk, pa⟩ := pt
  refine Ent.lenow m0 fun eaA0_0 laA0_0 => ?_
  subst eaA0_0
  have jl := lists_le (values := values) (t := t) hv (by omega)
  refine E.seq (E.seq (E.region (l := [0, 1, 2]) rfl (E.y rfl rfl (by decide) ((Y.mv rfl).yd) ?_)))
  refine E.y rfl rfl (by decide) ((Y.mv rfl).yd) ?_
  refine E.y rfl rfl (by decide) ((Y.lss rfl rfl).yd) (Ent.d (fun q14 => ?_) (fun q14 => ?_))
  · refine Ent.rebase (A := [_]) rfl fun wb2 Lb2 hB2 hA2 => ?_
    have hvalues := hA2.ro hvalues
    have rb2 : Ro wb2 Lb2 eIss [.slice aA0_0 (listsF values t).length cA0_0] (listsF values t) := hA2.ow m0
    refine E.nil (E.thn (E.ct rfl (E.skipc (E.thn (E.seq (E.block (E.seq (E.region (l := [0, 1]) rfl (E.st rfl rfl (N.bsl (pvs := []) (cs := []) us_Iss ty_Is rfl (by decide) (by decide) (fillZ rfl rfl) rfl (by decide)) (fun b17 _ => ?_))))))))))
    refine Ent.drop ?_
    refine E.y rfl rfl (by decide) ((Y.as rfl).yd) ?_
    refine E.nil (E.thn (E.seq (E.seq (E.region (l := [0]) rfl (E.y rfl rfl (by decide) ((Y.as rfl).yd) ?_)))))
    refine E.nil (E.thn (E.block (Ent.mkow (A := []) (Own.nil (E := eIs) (e := tIs) (a := (some ⟨b17, 0, none⟩))) rfl ?_)))
    refine Ent.cv (congrArg (ow eIss [_]) (show [] = ((listsF values t).take 0).flatMap (fun l => values.map (fun v => l ++ [v])) from by first | rfl | (simp; done) | grind [listsF, lists_len, lists_mem, List.drop_eq_getElem_cons, List.drop_eq_nil_of_le, List.take_succ_eq_append_getElem, List.take_of_length_le])) ?_
    refine E.loop (κ := Nat × Option Addr × Nat × Nat) (fun k => k.1 ≤ (listsF values t).length ∧ True) (fun k => [(0, .slice a_values values.length c_values), (1, .int .i64 n), (5, .slice aA0_0 (listsF values t).length cA0_0), (6, .int .i64 (↑t : Int)), (7, .slice k.2.1 k.2.2.1 k.2.2.2), (8, .int .i64 (↑k.1 : Int))]) (fun k => [ow eIss [.slice k.2.1 k.2.2.1 k.2.2.2] (((listsF values t).take k.1).flatMap (fun l => values.map (fun v => l ++ [v])))]) (fun k => (listsF values t).length - k.1) (0, (some ⟨b17, 0, none⟩), 0, 0) ⟨Nat.zero_le _, by simp⟩ ⟨rfl, rfl, rfl, rfl, rfl, rfl, trivial⟩ (.refl _) (fun k pk => ?_)
    obtain ⟨k, aA1_0, mA1_0, cA1_0⟩ := k
    try dsimp only at pk
    show Ent _ _ _ [(0, .slice a_values values.length c_values), (1, .int .i64 n), (5, .slice aA0_0 (listsF values t).length cA0_0), (6, .int .i64 (↑t : Int)), (7, .slice aA1_0 mA1_0 cA1_0), (8, .int .i64 (↑k : Int))] [ow eIss [.slice aA1_0 mA1_0 cA1_0] (((listsF values t).take k).flatMap (fun l => values.map (fun v => l ++ [v])))] _
    obtain ⟨pk, pa⟩ := pk
    refine Ent.lenow m0 fun eaA1_0 laA1_0 => ?_
    subst eaA1_0
    have jk := take_flat_le (values := values) (l := listsF values t) (k := k) hv
    refine E.seq (E.seq (E.region (l := [0, 1, 2, 3]) rfl (E.y rfl rfl (by decide) ((Y.mv rfl).yd) ?_)))
    refine E.y rfl rfl (by decide) ((Y.mv rfl).yd) ?_
    refine E.y rfl rfl (by decide) ((Y.len us_Iss rfl).yd) ?_
    refine E.y rfl rfl (by decide) ((Y.lss rfl rfl).yd) (Ent.d (fun q21 => ?_) (fun q21 => ?_))
    · refine E.nil (E.thn (E.ct rfl (E.skipc (E.thn (E.seq (E.block (E.seq (E.region (l := [0]) rfl (E.y rfl rfl (by decide) ((Y.as rfl).yd) ?_)))))))))
      refine E.nil (E.thn (E.block (Ent.cv (congrArg (ow eIss [_]) (show ((listsF values t).take k).flatMap (fun l => values.map (fun v => l ++ [v])) = ((listsF values t).take k).flatMap (fun l => values.map (fun v => l ++ [v])) ++ (values.take 0).map (fun v => (listsF values t)[k] ++ [v]) from by first | rfl | (simp; done) | grind [listsF, lists_len, lists_mem, List.drop_eq_getElem_cons, List.drop_eq_nil_of_le, List.take_succ_eq_append_getElem, List.take_of_length_le])) ?_)))
      refine E.loop (κ := Nat × Option Addr × Nat × Nat) (fun j => j.1 ≤ values.length ∧ True) (fun j => [(0, .slice a_values values.length c_values), (1, .int .i64 n), (5, .slice aA0_0 (listsF values t).length cA0_0), (6, .int .i64 (↑t : Int)), (7, .slice j.2.1 j.2.2.1 j.2.2.2), (8, .int .i64 (↑k : Int)), (9, .int .i64 (↑j.1 : Int))]) (fun j => [ow eIss [.slice j.2.1 j.2.2.1 j.2.2.2] (((listsF values t).take k).flatMap (fun l => values.map (fun v => l ++ [v])) ++ (values.take j.1).map (fun v => (listsF values t)[k] ++ [v]))]) (fun j => values.length - j.1) (0, aA1_0, (((listsF values t).take k).flatMap (fun l => values.map (fun v => l ++ [v]))).length, cA1_0) ⟨Nat.zero_le _, by simp⟩ ⟨rfl, rfl, rfl, rfl, rfl, rfl, rfl, trivial⟩ (.refl _) (fun j pj => ?_)
      obtain ⟨j, aA2_0, mA2_0, cA2_0⟩ := j
      try dsimp only at pj
      show Ent _ _ _ [(0, .slice a_values values.length c_values), (1, .int .i64 n), (5, .slice aA0_0 (listsF values t).length cA0_0), (6, .int .i64 (↑t : Int)), (7, .slice aA2_0 mA2_0 cA2_0), (8, .int .i64 (↑k : Int)), (9, .int .i64 (↑j : Int))] [ow eIss [.slice aA2_0 mA2_0 cA2_0] (((listsF values t).take k).flatMap (fun l => values.map (fun v => l ++ [v])) ++ (values.take j).map (fun v => (listsF values t)[k] ++ [v]))] _
      obtain ⟨pk, pa⟩ := pj
      have jm := lists_mem (values := values) (t := t) _ (List.getElem_mem (l := listsF values t) (n := k) (by omega))
      refine Ent.lenow m0 fun eaA2_0 laA2_0 => ?_
      subst eaA2_0
      refine E.seq (E.seq (E.region (l := [0, 1, 2, 3]) rfl (E.y rfl rfl (by decide) ((Y.mv rfl).yd) ?_)))
      refine E.y rfl rfl (by decide) ((Y.mv rfl).yd) ?_
      refine E.y rfl rfl (by decide) ((Y.len us_Is rfl).yd) ?_
      refine E.y rfl rfl (by decide) ((Y.lss rfl rfl).yd) (Ent.d (fun q27 => ?_) (fun q27 => ?_))
      · refine E.nil (E.thn (E.ct rfl (E.skipc (E.thn (E.seq (E.block (E.mid (κ := (Option Addr × Nat)) (fun _ => True) (fun kM => [(0, .slice a_values values.length c_values), (1, .int .i64 n), (5, .slice aA0_0 (listsF values t).length cA0_0), (6, .int .i64 (↑t : Int)), (7, .slice kM.1 ((((listsF values t).take k).flatMap (fun l => values.map (fun v => l ++ [v])) ++ (values.take j).map (fun v => (listsF values t)[k] ++ [v])).length + 1) kM.2), (8, .int .i64 (↑k : Int)), (9, .int .i64 (↑j : Int))]) (fun kM => [ow eIss [.slice kM.1 ((((listsF values t).take k).flatMap (fun l => values.map (fun v => l ++ [v])) ++ (values.take j).map (fun v => (listsF values t)[k] ++ [v])).length + 1) kM.2] ((((listsF values t).take k).flatMap (fun l => values.map (fun v => l ++ [v])) ++ (values.take j).map (fun v => (listsF values t)[k] ++ [v])) ++ [((listsF values t)[k]) ++ [values[j]]])]) ?_ (fun p44 _ => ?_))))))))
        · refine D.region (fun j => !(Nat.beq j 12) && !(Nat.beq j 14)) mixed (D.yp 0 rfl rfl (by decide) (Y.mv rfl) (by kernel_rfl) ?_)
          refine D.yp 2 rfl rfl (by decide) (Y.mv rfl) (by kernel_rfl) ?_
          refine D.yp 3 rfl rfl (by decide) (Y.mv rfl) (by kernel_rfl) ?_
          obtain ⟨eb34, eo34, ec34, ea34, er34, el34, eh34⟩ := rb2.elem k (by omega)
          obtain ⟨xa34, xc34, rfl⟩ := er34.sl
          have := er34.slen.2
          refine D.yp 4 rfl rfl (by decide) (Y.ix us_Iss ty_Is rfl ea34 rfl k rfl (by omega)) (by kernel_rfl) ?_
          refine D.y 5 rfl rfl (by decide) (Y.ld1 ty_Is rfl (eh34 _) rfl) (by kernel_rfl) ?_
          refine D.yp 7 rfl rfl (by decide) (Y.mv rfl) (by kernel_rfl) ?_
          refine D.yp 8 rfl rfl (by decide) (Y.mv rfl) (by kernel_rfl) ?_
          obtain ⟨eb39, eo39, ea39, ei39, eh39⟩ := hvalues.elemI j (by omega)
          refine D.yp 9 rfl rfl (by decide) (Y.ix us_Is ty_I rfl ea39 rfl j rfl (by omega)) (by kernel_rfl) ?_
          refine D.y 10 rfl rfl (by decide) (Y.ld1 ty_I rfl (eh39 _) rfl) (by kernel_rfl) ?_
          refine D.ch2 (i := 1) (j := 11) (by kernel_rfl) ?_ ?_
          · refine D.pk 1 rfl rfl (fun _ => rfl) (N.bsl (pvs := []) (cs := []) us_Is ty_I rfl (by decide) (by decide) (fillZ rfl rfl) rfl (by decide)) (fun b31 _ => ?_)
            refine Ent.drop ?_
            refine D.ch2 (i := 6) (j := 11) (by kernel_rfl) ?_ ?_
            · refine D.pk 6 rfl rfl (fun _ => rfl) (N.pushR0 (E := Enc.int) Plain.int us_Is ty_I rfl rfl rfl er34 (by first | omega | (simp only [List.length_map, List.length_take, List.length_append, List.length_drop, List.length_cons, List.length_nil]; omega)) (by first | omega | (simp only [List.length_map, List.length_take, List.length_append, List.length_drop, List.length_cons, List.length_nil]; omega)) (by decide)) (fun p36 _ => ?_)
              refine D.st 11 rfl rfl (by kernel_rfl) (fun _ => rfl) (N.bsl (pvs := [_]) (cs := [_]) us_Is ty_I rfl (by decide) (by decide) (fillZ rfl rfl) rfl (by decide)) (fun b41 _ => ?_)
              refine Ent.p1 ?_
              refine D.st 12 rfl rfl (by kernel_rfl) (fun h => by cases h) (N.push (E := Enc.int) (ex := values[j]) us_Is ty_I rfl rfl rfl (Own.int ei39) rfl (by first | omega | (simp only [List.length_map, List.length_take, List.length_append, List.length_drop, List.length_cons, List.length_nil]; omega)) (by first | omega | (simp only [List.length_map, List.length_take, List.length_append, List.length_drop, List.length_cons, List.length_nil]; omega)) (by decide)) (fun p42 _ => ?_)
              refine D.st 13 rfl rfl (by kernel_rfl) (fun _ => rfl) (N.bsl (pvs := [_]) (cs := [_]) us_Iss ty_Is rfl (by decide) (by decide) (fillZ rfl rfl) rfl (by decide)) (fun b43 _ => ?_)
              refine Ent.p1 ?_
              refine Ent.p1 ?_
              refine Ent.p2 ?_
              refine D.st 14 rfl rfl (by kernel_rfl) (fun h => by cases h) (N.push (E := eIs) (ex := ((listsF values t)[k]) ++ [values[j]]) us_Iss ty_Is rfl rfl rfl Own.ow rfl (by first | omega | (simp only [List.length_map, List.length_take, List.length_append, List.length_drop, List.length_cons, List.length_nil]; omega)) (by first | omega | (simp only [List.length_map, List.length_take, List.length_append, List.length_drop, List.length_cons, List.length_nil]; omega)) (by decide)) (fun p44 _ => ?_)
              refine D.yp 15 rfl rfl (by decide) (Y.as rfl) (by kernel_rfl) ?_
              exact D.done (by kernel_rfl) (E.mdn p44 trivial ⟨rfl, rfl, rfl, rfl, rfl, rfl, rfl, trivial⟩ (.refl _))
            · refine D.pk 11 rfl rfl (fun _ => rfl) (N.bsl (pvs := [_]) (cs := [_]) us_Is ty_I rfl (by decide) (by decide) (fillZ rfl rfl) rfl (by decide)) (fun b41 _ => ?_)
              refine D.st 6 rfl rfl (by kernel_rfl) (fun _ => rfl) (N.pushR0 (E := Enc.int) Plain.int us_Is ty_I rfl rfl rfl er34 (by first | omega | (simp only [List.length_map, List.length_take, List.length_append, List.length_drop, List.length_cons, List.length_nil]; omega)) (by first | omega | (simp only [List.length_map, List.length_take, List.length_append, List.length_drop, List.length_cons, List.length_nil]; omega)) (by decide)) (fun p36 _ => ?_)
              refine Ent.p1 ?_
              refine Ent.p1 ?_
              refine D.st 12 rfl rfl (by kernel_rfl) (fun h => by cases h) (N.push (E := Enc.int) (ex := values[j]) us_Is ty_I rfl rfl rfl (Own.int ei39) rfl (by first | omega | (simp only [List.length_map, List.length_take, List.length_append, List.length_drop, List.length_cons, List.length_nil]; omega)) (by first | omega | (simp only [List.length_map, List.length_take, List.length_append, List.length_drop, List.length_cons, List.length_nil]; omega)) (by decide)) (fun p42 _ => ?_)
              refine D.st 13 rfl rfl (by kernel_rfl) (fun _ => rfl) (N.bsl (pvs := [_]) (cs := [_]) us_Iss ty_Is rfl (by decide) (by decide) (fillZ rfl rfl) rfl (by decide)) (fun b43 _ => ?_)
              refine Ent.p1 ?_
              refine Ent.p1 ?_
              refine Ent.p2 ?_
              refine D.st 14 rfl rfl (by kernel_rfl) (fun h => by cases h) (N.push (E := eIs) (ex := ((listsF values t)[k]) ++ [values[j]]) us_Iss ty_Is rfl rfl rfl Own.ow rfl (by first | omega | (simp only [List.length_map, List.length_take, List.length_append, List.length_drop, List.length_cons, List.length_nil]; omega)) (by first | omega | (simp only [List.length_map, List.length_take, List.length_append, List.length_drop, List.length_cons, List.length_nil]; omega)) (by decide)) (fun p44 _ => ?_)
              refine D.yp 15 rfl rfl (by decide) (Y.as rfl) (by kernel_rfl) ?_
              exact D.done (by kernel_rfl) (E.mdn p44 trivial ⟨rfl, rfl, rfl, rfl, rfl, rfl, rfl, trivial⟩ (.refl _))
          · refine D.pk 11 rfl rfl (fun _ => rfl) (N.bsl (pvs := [_]) (cs := [_]) us_Is ty_I rfl (by decide) (by decide) (fillZ rfl rfl) rfl (by decide)) (fun b41 _ => ?_)
            refine D.st 1 rfl rfl (by kernel_rfl) (fun _ => rfl) (N.bsl (pvs := []) (cs := []) us_Is ty_I rfl (by decide) (by decide) (fillZ rfl rfl) rfl (by decide)) (fun b31 _ => ?_)
            refine Ent.drop ?_
            refine D.st 6 rfl rfl (by kernel_rfl) (fun _ => rfl) (N.pushR0 (E := Enc.int) Plain.int us_Is ty_I rfl rfl rfl er34 (by first | omega | (simp only [List.length_map, List.length_take, List.length_append, List.length_drop, List.length_cons, List.length_nil]; omega)) (by first | omega | (simp only [List.length_map, List.length_take, List.length_append, List.length_drop, List.length_cons, List.length_nil]; omega)) (by decide)) (fun p36 _ => ?_)
            refine Ent.p1 ?_
            refine Ent.p1 ?_
            refine D.st 12 rfl rfl (by kernel_rfl) (fun h => by cases h) (N.push (E := Enc.int) (ex := values[j]) us_Is ty_I rfl rfl rfl (Own.int ei39) rfl (by first | omega | (simp only [List.length_map, List.length_take, List.length_append, List.length_drop, List.length_cons, List.length_nil]; omega)) (by first | omega | (simp only [List.length_map, List.length_take, List.length_append, List.length_drop, List.length_cons, List.length_nil]; omega)) (by decide)) (fun p42 _ => ?_)
            refine D.st 13 rfl rfl (by kernel_rfl) (fun _ => rfl) (N.bsl (pvs := [_]) (cs := [_]) us_Iss ty_Is rfl (by decide) (by decide) (fillZ rfl rfl) rfl (by decide)) (fun b43 _ => ?_)
            refine Ent.p1 ?_
            refine Ent.p1 ?_
            refine Ent.p2 ?_
            refine D.st 14 rfl rfl (by kernel_rfl) (fun h => by cases h) (N.push (E := eIs) (ex := ((listsF values t)[k]) ++ [values[j]]) us_Iss ty_Is rfl rfl rfl Own.ow rfl (by first | omega | (simp only [List.length_map, List.length_take, List.length_append, List.length_drop, List.length_cons, List.length_nil]; omega)) (by first | omega | (simp only [List.length_map, List.length_take, List.length_append, List.length_drop, List.length_cons, List.length_nil]; omega)) (by decide)) (fun p44 _ => ?_)
            refine D.yp 15 rfl rfl (by decide) (Y.as rfl) (by kernel_rfl) ?_
            exact D.done (by kernel_rfl) (E.mdn p44 trivial ⟨rfl, rfl, rfl, rfl, rfl, rfl, rfl, trivial⟩ (.refl _))
        · show Ent _ _ _ [(0, .slice a_values values.length c_values), (1, .int .i64 n), (5, .slice aA0_0 (listsF values t).length cA0_0), (6, .int .i64 (↑t : Int)), (7, .slice p44.1 ((((listsF values t).take k).flatMap (fun l => values.map (fun v => l ++ [v])) ++ (values.take j).map (fun v => (listsF values t)[k] ++ [v])).length + 1) p44.2), (8, .int .i64 (↑k : Int)), (9, .int .i64 (↑j : Int))] [ow eIss [.slice p44.1 ((((listsF values t).take k).flatMap (fun l => values.map (fun v => l ++ [v])) ++ (values.take j).map (fun v => (listsF values t)[k] ++ [v])).length + 1) p44.2] ((((listsF values t).take k).flatMap (fun l => values.map (fun v => l ++ [v])) ++ (values.take j).map (fun v => (listsF values t)[k] ++ [v])) ++ [((listsF values t)[k]) ++ [values[j]]])] _
          refine E.bln (E.thn (E.region (l := [0, 1, 2]) rfl (E.y rfl rfl (by decide) ((Y.mv rfl).yd) ?_)))
          refine E.y rfl rfl (by decide) ((Y.add rfl rfl (by omega) (by omega)).yd) ?_
          refine E.y rfl rfl (by decide) ((Y.as rfl).yd) ?_
          refine E.nil (E.thn (Ent.cv (congrArg (ow eIss [_]) (show (((listsF values t).take k).flatMap (fun l => values.map (fun v => l ++ [v])) ++ (values.take j).map (fun v => (listsF values t)[k] ++ [v])) ++ [((listsF values t)[k]) ++ [values[j]]] = ((listsF values t).take k).flatMap (fun l => values.map (fun v => l ++ [v])) ++ (values.take (j + 1)).map (fun v => (listsF values t)[k] ++ [v]) from by grind [listsF, lists_len, lists_mem, List.drop_eq_getElem_cons, List.drop_eq_nil_of_le, List.take_succ_eq_append_getElem, List.take_of_length_le])) ?_))
          exact E.again (Back.refl _ _) (j + 1, p44.1, ((((listsF values t).take k).flatMap (fun l => values.map (fun v => l ++ [v])) ++ (values.take j).map (fun v => (listsF values t)[k] ++ [v])).length + 1), p44.2) ⟨rfl, rfl, rfl, rfl, rfl, rfl, rfl, trivial⟩ (.refl _) ⟨(show j + 1 ≤ values.length from by omega), (show True from by grind [List.drop_eq_getElem_cons, List.drop_eq_nil_of_le, List.take_succ_eq_append_getElem, List.take_of_length_le])⟩ (show values.length - (j + 1) < values.length - j from by omega)
      · refine E.nil (E.thn (E.cf rfl (E.exit (E.the (E.the (E.blh (E.bln (E.thn (E.region (l := [0, 1, 2]) rfl (E.y rfl rfl (by decide) ((Y.mv rfl).yd) ?_))))))))))
        refine E.y rfl rfl (by decide) ((Y.add rfl rfl (by omega) (by omega)).yd) ?_
        refine E.y rfl rfl (by decide) ((Y.as rfl).yd) ?_
        refine E.nil (E.thn (Ent.cv (congrArg (ow eIss [_]) (show ((listsF values t).take k).flatMap (fun l => values.map (fun v => l ++ [v])) ++ (values.take j).map (fun v => (listsF values t)[k] ++ [v]) = ((listsF values t).take (k + 1)).flatMap (fun l => values.map (fun v => l ++ [v])) from by grind [listsF, lists_len, lists_mem, List.drop_eq_getElem_cons, List.drop_eq_nil_of_le, List.take_succ_eq_append_getElem, List.take_of_length_le])) ?_))
        exact E.again (Back.refl _ _) (k + 1, aA2_0, (((listsF values t).take k).flatMap (fun l => values.map (fun v => l ++ [v])) ++ (values.take j).map (fun v => (listsF values t)[k] ++ [v])).length, cA2_0) ⟨rfl, rfl, rfl, rfl, rfl, rfl, trivial⟩ (.refl _) ⟨(show k + 1 ≤ (listsF values t).length from by omega), (show True from by grind [List.drop_eq_getElem_cons, List.drop_eq_nil_of_le, List.take_succ_eq_append_getElem, List.take_of_length_le])⟩ (show (listsF values t).length - (k + 1) < (listsF values t).length - k from by omega)
    · refine E.nil (E.thn (E.cf rfl (E.exit (E.the (E.the (E.blh (E.thn (E.region (l := [0, 1]) rfl (E.y rfl rfl (by decide) ((Y.mv rfl).yd) ?_)))))))))
      refine E.y rfl rfl (by decide) ((Y.as rfl).yd) ?_
      refine E.nil (E.bln (E.thn (E.region (l := [0, 1, 2]) rfl (E.y rfl rfl (by decide) ((Y.mv rfl).yd) ?_))))
      refine E.y rfl rfl (by decide) ((Y.add rfl rfl (by omega) (by omega)).yd) ?_
      refine E.y rfl rfl (by decide) ((Y.as rfl).yd) ?_
      refine E.nil (E.thn (Ent.cv (congrArg (ow eIss [_]) (show ((listsF values t).take k).flatMap (fun l => values.map (fun v => l ++ [v])) = listsF values (t + 1) from by grind [listsF, lists_len, lists_mem, List.drop_eq_getElem_cons, List.drop_eq_nil_of_le, List.take_succ_eq_append_getElem, List.take_of_length_le])) ?_))
      exact E.again hB2 (t + 1, aA1_0, (((listsF values t).take k).flatMap (fun l => values.map (fun v => l ++ [v]))).length, cA1_0) ⟨rfl, rfl, rfl, rfl, trivial⟩ (.refl _) ⟨(show t + 1 ≤ n.toNat from by omega), (show True from by grind [List.drop_eq_getElem_cons, List.drop_eq_nil_of_le, List.take_succ_eq_append_getElem, List.take_of_length_le])⟩ (show n.toNat - (t + 1) < n.toNat - t from by omega)
  · refine E.nil (E.thn (E.cf rfl (E.exit (E.the (E.the (E.blh (E.thn (E.seq (E.region (l := [0, 1]) rfl (E.y rfl rfl (by decide) ((Y.mv rfl).yd) ?_))))))))))
    refine E.y rfl rfl (by decide) ((Y.as rfl).yd) ?_
    refine E.nil (E.thn (E.ret (Ent.cv (congrArg (ow eIss [_]) (show _ = listsF values n.toNat by grind [listsF, lists_len, lists_mem, List.drop_eq_getElem_cons, List.drop_eq_nil_of_le, List.take_succ_eq_append_getElem, List.take_of_length_le])) ?_)))
    exact F.r1 (Back.refl _ _) rfl rfl (_, _, _) trivial rfl (J := _) (.refl _) (.inl rfl)
theorem t_impl_Reached_open {a_r_Facts : Option Addr} {m_r_Facts c_r_Facts : Nat} {r_Facts : List (Int × List Int)} {a_r_Values : Option Addr} {m_r_Values c_r_Values : Nat} {r_Values : List Int} {a_r_Log : Option Addr} {m_r_Log c_r_Log : Nat} {r_Log : List (Int × List Int)} {r_Rounds : Int} {a_l : Option Addr} {m_l c_l : Nat} {l : List (Int × List Int × Int × Int × Int)} (hv : r_Values.length ≤ 10) (hm : ∀ m ∈ l, m.2.1.length ≤ 3) (hl : l.length ≤ 5) : Tr Try.prog 120 [.agg #[.slice a_r_Facts m_r_Facts c_r_Facts, .slice a_r_Values m_r_Values c_r_Values, .slice a_r_Log m_r_Log c_r_Log, .int .i64 r_Rounds], .slice a_l m_l c_l] (fun w L => Ro w L eFacts [.slice a_r_Facts m_r_Facts c_r_Facts] r_Facts ∧ Ro w L eIs [.slice a_r_Values m_r_Values c_r_Values] r_Values ∧ Ro w L eAccesss [.slice a_r_Log m_r_Log c_r_Log] r_Log ∧ I64 r_Rounds ∧ Ro w L eMethods [.slice a_l m_l c_l] l) [] (κ := Option Addr × Nat × Nat) (fun k => True) (fun k => .slice k.1 k.2.1 k.2.2) (fun k => [ow eAccesss [.slice k.1 k.2.1 k.2.2] (opnF r_Values r_Log l 0)]) := by
  refine Tr.intro Try.func120 rfl (n := 48) rfl (by decide +kernel) (Nat.le_of_ble_eq_true rfl) (fr := [(0, .agg #[.slice a_r_Facts m_r_Facts c_r_Facts, .slice a_r_Values m_r_Values c_r_Values, .slice a_r_Log m_r_Log c_r_Log, .int .i64 r_Rounds]), (1, .slice a_l m_l c_l)]) rfl fun w L hR => ?_
  obtain ⟨hr_Facts, hr_Values, hr_Log, i6r_Rounds, hl⟩ := hR
  obtain ⟨rfl, lr_Facts⟩ := hr_Facts.slen
  obtain ⟨rfl, lr_Values⟩ := hr_Values.slen
  obtain ⟨rfl, lr_Log⟩ := hr_Log.slen
  obtain ⟨rfl, ll⟩ := hl.slen
  refine E.seq (E.region (l := [0, 1]) rfl (E.st rfl rfl (N.box (cs := [_, _, _, _]) rfl (by decide) rfl) (fun b2 _ => ?_)))
  refine E.y rfl rfl (by decide) ((Y.as rfl).yd) ?_
  refine E.nil (E.thn (E.seq (E.region (l := [0, 1]) rfl (E.st rfl rfl (N.bsl (pvs := []) (cs := []) us_Accesss ty_Access rfl (by decide) (by decide) (fillZ rfl rfl) rfl (by decide)) (fun b11 _ => ?_)))))
  refine Ent.drop ?_
  refine E.y rfl rfl (by decide) ((Y.as rfl).yd) ?_
  refine E.nil (E.thn (E.seq (E.seq (E.region (l := [0, 1, 2]) rfl (E.y rfl rfl (by decide) ((Y.mv rfl).yd) ?_)))))
  refine E.y rfl rfl (by decide) ((Y.len us_Methods rfl).yd) ?_
  refine E.y rfl rfl (by decide) ((Y.mv rfl).yd) ?_
  refine E.nil (E.thn (E.block (Ent.mkow (A := []) (Own.nil (E := eAccess) (e := tAccess) (a := (some ⟨b11, 0, none⟩))) rfl ?_)))
  refine Ent.cv (congrArg (ow eAccesss [_]) (show [] = opnF r_Values r_Log (l.take 0) 0 from by first | rfl | (simp; done) | grind [opnF, opn1, opn_app, List.drop_eq_getElem_cons, List.drop_eq_nil_of_le, List.take_succ_eq_append_getElem, List.take_of_length_le])) ?_
  refine E.loop (κ := Nat × Option Addr × Nat × Nat) (fun g => g.1 ≤ l.length ∧ True) (fun g => [(2, .pointer (some ⟨b2, 0, none⟩)), (5, .slice g.2.1 g.2.2.1 g.2.2.2), (12, .slice a_l l.length c_l), (13, .int .i64 (↑l.length : Int)), (14, .int .i64 (↑g.1 : Int))]) (fun g => [ow eAccesss [.slice g.2.1 g.2.2.1 g.2.2.2] (opnF r_Values r_Log (l.take g.1) 0), pt b2 44 [.slice a_r_Facts r_Facts.length c_r_Facts, .slice a_r_Values r_Values.length c_r_Values, .slice a_r_Log r_Log.length c_r_Log, .int .i64 r_Rounds]]) (fun g => l.length - g.1) (0, (some ⟨b11, 0, none⟩), 0, 0) ⟨Nat.zero_le _, by simp⟩ ⟨rfl, rfl, rfl, rfl, rfl, trivial⟩ (.refl _) (fun g pg => ?_)
  obtain ⟨g, aA0_0, mA0_0, cA0_0⟩ := g
  try dsimp only at pg
  show Ent _ _ _ [(2, .pointer (some ⟨b2, 0, none⟩)), (5, .slice aA0_0 mA0_0 cA0_0), (12, .slice a_l l.length c_l), (13, .int .i64 (↑l.length : Int)), (14, .int .i64 (↑g : Int))] [ow eAccesss [.slice aA0_0 mA0_0 cA0_0] (opnF r_Values r_Log (l.take g) 0), pt b2 44 [.slice a_r_Facts r_Facts.length c_r_Facts, .slice a_r_Values r_Values.length c_r_Values, .slice a_r_Log r_Log.length c_r_Log, .int .i64 r_Rounds]] _
  obtain ⟨pk, pa⟩ := pg
  refine Ent.lenow m0 fun eaA0_0 laA0_0 => ?_
  subst eaA0_0
  have jo := opn_len (values := r_Values) (log := r_Log) (i := 0) hv (l := l.take g) (fun m h => hm m (List.mem_of_mem_take h))
  have jp := List.length_take_le g l
  refine E.seq (E.region (l := [0]) rfl (E.y rfl rfl (by decide) ((Y.lss rfl rfl).yd) (Ent.d (fun q15 => ?_) (fun q15 => ?_))))
  · refine E.nil (E.thn (E.seq (E.ct rfl (E.skipc (E.thn (E.seq (E.block (E.seq (E.region (l := [0, 1, 2, 3, 4, 5]) rfl (E.y rfl rfl (by decide) ((Y.mv rfl).yd) ?_))))))))))
    obtain ⟨eb17, eo17, ec17, ea17, er17, el17, eh17⟩ := hl.elem g (by omega)
    obtain ⟨xa17_0, xc17_0, rfl, ei17_0, xh17_0, ei17_2, ei17_3, ei17_4⟩ := Ro.pMethod er17
    have := xh17_0.slen.2
    refine E.y rfl rfl (by decide) ((Y.ix us_Methods ty_Method rfl ea17 rfl g rfl (by omega)).yd) ?_
    refine E.y rfl rfl (by decide) (Y.ldS (cs := [_, _, _, _, _]) ty_Method rfl (eh17 _) rfl) ?_
    refine E.st rfl rfl (N.alloc ty_Method (by decide)) (fun b7 _ => ?_)
    refine E.y rfl rfl (by decide) ((Y.as rfl).yd) ?_
    refine E.st rfl rfl (N.sto (vs := [_, _, _, _, _]) (cs' := [_, _, _, _, _]) ty_Method rfl rfl rfl rfl rfl (Nat.le_of_ble_eq_true rfl) rfl) (fun _ _ => ?_)
    refine E.nil (E.thn (E.seq (E.seq (E.region (l := [0, 1, 2]) rfl (E.y rfl rfl (by decide) ((Y.fld fo_Method_2 ty_I (by decide) rfl).yd) ?_)))))
    refine E.y rfl rfl (by decide) (Y.ld1 ty_I rfl ((Has.pt m0).sub (cs' := [_]) 2 rfl) rfl) ?_
    refine E.y rfl rfl (by decide) ((Y.neq rfl rfl).yd) (Ent.d (fun q21 => ?_) (fun q21 => ?_))
    · refine E.nil (E.thn (E.ct rfl (E.exit (E.the (E.blh (E.thn (E.region (l := [0, 1]) rfl (E.y rfl rfl (by decide) ((Y.add rfl rfl (by omega) (by omega)).yd) ?_))))))))
      refine E.y rfl rfl (by decide) ((Y.mv rfl).yd) ?_
      refine E.nil (E.thn (Ent.drop ?_))
      refine Ent.cv (congrArg (ow eAccesss [_]) (show opnF r_Values r_Log (l.take g) 0 = opnF r_Values r_Log (l.take (g + 1)) 0 from by grind [opnF, opn1, opn_app, List.drop_eq_getElem_cons, List.drop_eq_nil_of_le, List.take_succ_eq_append_getElem, List.take_of_length_le])) ?_
      refine Ent.p1 ?_
      refine Ent.p1 ?_
      exact E.again (Back.refl _ _) (g + 1, aA0_0, (opnF r_Values r_Log (l.take g) 0).length, cA0_0) ⟨rfl, rfl, rfl, rfl, rfl, trivial⟩ (.refl _) ⟨(show g + 1 ≤ l.length from by omega), (show True from by grind [List.drop_eq_getElem_cons, List.drop_eq_nil_of_le, List.take_succ_eq_append_getElem, List.take_of_length_le])⟩ (show l.length - (g + 1) < l.length - g from by omega)
    · refine E.nil (E.thn (E.cf rfl (E.skipc (E.thn (E.seq (E.region (l := [0, 1, 2, 3, 4, 5, 6, 7]) rfl (E.y rfl rfl (by decide) ((Y.fld fo_Reached_1 ty_Is (by decide) rfl).yd) ?_)))))))
      refine E.y rfl rfl (by decide) (Y.ld1 ty_Is rfl ((Has.pt (mS (mS m0))).sub (cs' := [_]) 1 rfl) rfl) ?_
      refine E.y rfl rfl (by decide) ((Y.fld fo_Method_1 ty_Is (by decide) rfl).yd) ?_
      refine E.y rfl rfl (by decide) (Y.ld1 ty_Is rfl ((Has.pt m0).sub (cs' := [_]) 1 rfl) rfl) ?_
      refine E.y rfl rfl (by decide) ((Y.len us_Is rfl).yd) ?_
      have jm := hm l[g] (List.getElem_mem (by omega))
      refine E.st rfl rfl (N.call (t_impl_lists (by first | omega | assumption | (constructor <;> omega)) (by first | omega | assumption | (constructor <;> omega))) rfl rfl rfl (by decide) rfl (fun w Lp hA => hA.ro hr_Values)) (fun k27 _ => ?_)
      obtain ⟨a27, m27, c27⟩ := k27
      refine Ent.lenow m0 fun e27 l27 => ?_
      subst e27
      refine E.y rfl rfl (by decide) ((Y.len us_Iss rfl).yd) ?_
      refine E.y rfl rfl (by decide) ((Y.mv rfl).yd) ?_
      refine E.nil (E.thn (E.block (Ent.p2 ?_)))
      refine Ent.cv (congrArg (ow eAccesss [_]) (show opnF r_Values r_Log (l.take g) 0 = opnF r_Values r_Log (l.take g) 0 ++ (((listsF r_Values l[g].2.1.length).take 0).filter (fun v => !hasA r_Log (↑g, v))).map (fun v => ((↑g : Int), v)) from by first | rfl | (simp; done) | grind [opnF, opn1, opn_app, List.drop_eq_getElem_cons, List.drop_eq_nil_of_le, List.take_succ_eq_append_getElem, List.take_of_length_le])) ?_
      refine Ent.p1 ?_
      refine Ent.od0 ?_
      refine E.loop (κ := Nat × Option Addr × Nat × Nat) (fun h => h.1 ≤ (listsF r_Values l[g].2.1.length).length ∧ True) (fun h => [(2, .pointer (some ⟨b2, 0, none⟩)), (5, .slice h.2.1 h.2.2.1 h.2.2.2), (6, .int .i64 (↑g : Int)), (12, .slice a_l l.length c_l), (13, .int .i64 (↑l.length : Int)), (14, .int .i64 (↑g : Int)), (27, .slice a27 (listsF r_Values l[g].2.1.length).length c27), (28, .int .i64 (↑((listsF r_Values l[g].2.1.length).length) : Int)), (29, .int .i64 (↑h.1 : Int))]) (fun h => [owd tIs eIs a27 ((listsF r_Values l[g].2.1.length).length) c27 (listsF r_Values l[g].2.1.length) h.1, ow eAccesss [.slice h.2.1 h.2.2.1 h.2.2.2] (opnF r_Values r_Log (l.take g) 0 ++ (((listsF r_Values l[g].2.1.length).take h.1).filter (fun v => !hasA r_Log (↑g, v))).map (fun v => ((↑g : Int), v))), pt b7 142 [.int .i64 l[g].1, .slice xa17_0 l[g].2.1.length xc17_0, .int .i64 l[g].2.2.1, .int .i64 l[g].2.2.2.1, .int .i64 l[g].2.2.2.2], pt b2 44 [.slice a_r_Facts r_Facts.length c_r_Facts, .slice a_r_Values r_Values.length c_r_Values, .slice a_r_Log r_Log.length c_r_Log, .int .i64 r_Rounds]]) (fun h => (listsF r_Values l[g].2.1.length).length - h.1) (0, aA0_0, (opnF r_Values r_Log (l.take g) 0).length, cA0_0) ⟨Nat.zero_le _, by simp⟩ ⟨rfl, rfl, rfl, rfl, rfl, rfl, rfl, rfl, rfl, trivial⟩ (.refl _) (fun h ph => ?_)
      obtain ⟨h, aA1_0, mA1_0, cA1_0⟩ := h
      try dsimp only at ph
      show Ent _ _ _ [(2, .pointer (some ⟨b2, 0, none⟩)), (5, .slice aA1_0 mA1_0 cA1_0), (6, .int .i64 (↑g : Int)), (12, .slice a_l l.length c_l), (13, .int .i64 (↑l.length : Int)), (14, .int .i64 (↑g : Int)), (27, .slice a27 (listsF r_Values l[g].2.1.length).length c27), (28, .int .i64 (↑((listsF r_Values l[g].2.1.length).length) : Int)), (29, .int .i64 (↑h : Int))] [owd tIs eIs a27 ((listsF r_Values l[g].2.1.length).length) c27 (listsF r_Values l[g].2.1.length) h, ow eAccesss [.slice aA1_0 mA1_0 cA1_0] (opnF r_Values r_Log (l.take g) 0 ++ (((listsF r_Values l[g].2.1.length).take h).filter (fun v => !hasA r_Log (↑g, v))).map (fun v => ((↑g : Int), v))), pt b7 142 [.int .i64 l[g].1, .slice xa17_0 l[g].2.1.length xc17_0, .int .i64 l[g].2.2.1, .int .i64 l[g].2.2.2.1, .int .i64 l[g].2.2.2.2], pt b2 44 [.slice a_r_Facts r_Facts.length c_r_Facts, .slice a_r_Values r_Values.length c_r_Values, .slice a_r_Log r_Log.length c_r_Log, .int .i64 r_Rounds]] _
      obtain ⟨pk, pa⟩ := ph
      have jl := lists_le (values := r_Values) (t := l[g].2.1.length) hv (hm _ (List.getElem_mem (by omega)))
      have jf := List.length_filter_le (fun v => !hasA r_Log (↑g, v)) ((listsF r_Values l[g].2.1.length).take h)
      have jt := List.length_take_le h (listsF r_Values l[g].2.1.length)
      refine Ent.lenow (mS m0) fun eaA1_0 laA1_0 => ?_
      subst eaA1_0
      refine E.seq (E.region (l := [0]) rfl (E.y rfl rfl (by decide) ((Y.lss rfl rfl).yd) (Ent.d (fun q30 => ?_) (fun q30 => ?_))))
      · refine Ent.adrd m0 (by omega) fun ab31 ae31 => ?_
        refine Ent.odt (j := h) (by omega) fun ce31 => ?_
        refine Ent.p1 ?_
        refine Ent.osl fun oa31_0 om31_0 oc31_0 oe31 on31_0 => ?_
        subst oe31
        subst on31_0
        refine Ent.lenow m0 fun _ ol31_0 => ?_
        refine E.nil (E.thn (E.seq (E.ct rfl (E.skipc (E.thn (E.seq (E.block (E.seq (E.region (l := [0, 1, 2]) rfl (E.y rfl rfl (by decide) ((Y.ix us_Iss ty_Is rfl ae31 rfl h rfl (by omega)).yd) ?_))))))))))
        refine E.y rfl rfl (by decide) (Y.ld1 ty_Is rfl (Has.owt ae31 (mS m0)) rfl) ?_
        refine E.y rfl rfl (by decide) ((Y.as rfl).yd) ?_
        refine E.nil (E.thn (E.seq (E.region (l := [0, 1, 2, 3, 4]) rfl (E.y rfl rfl (by decide) ((Y.mv rfl).yd) ?_))))
        refine E.y rfl rfl (by decide) ((Y.mv rfl).yd) ?_
        refine E.y rfl rfl (by decide) ((Y.bld (pvs := [_, _]) (cs := [_, _]) ty_Access pl_Access rfl rfl).yd) ?_
        refine E.st rfl rfl (N.alloc ty_Access (by decide)) (fun b10 _ => ?_)
        refine E.st rfl rfl (N.sto (vs := [_, _]) (cs' := [_, _]) ty_Access rfl rfl rfl rfl rfl (Nat.le_of_ble_eq_true rfl) rfl) (fun _ _ => ?_)
        refine E.nil (E.thn (E.seq (E.region (l := [0, 1, 2, 3, 4]) rfl (E.y rfl rfl (by decide) ((Y.fld fo_Reached_2 ty_Accesss (by decide) rfl).yd) ?_))))
        refine E.y rfl rfl (by decide) (Y.ld1 ty_Accesss rfl ((Has.pt (mS (mS (mS (mS (mS m0)))))).sub (cs' := [_]) 2 rfl) rfl) ?_
        refine E.y rfl rfl (by decide) (Y.ldS (cs := [_, _]) ty_Access rfl (Has.pt m0) rfl) ?_
        refine E.st rfl rfl (N.call0 t_impl_hasAccess rfl rfl rfl (by decide) (fun w Lp hA => ⟨hA.ro hr_Log, (by first | assumption | (unfold I64; (try dsimp only); omega) | grind), hA.ow (mS m0)⟩)) (fun _ _ => (Ent.b (fun q39 => ?_) (fun q39 => ?_)))
        · refine E.y rfl rfl (by decide) ((Y.not (b := true) rfl).yd) ?_
          refine E.nil (E.thn (E.cf rfl (E.skipc (E.bln (E.thn (E.region (l := [0, 1]) rfl (E.y rfl rfl (by decide) ((Y.add rfl rfl (by omega) (by omega)).yd) ?_)))))))
          refine E.y rfl rfl (by decide) ((Y.mv rfl).yd) ?_
          refine E.nil (E.thn (Ent.p2 ?_))
          refine Ent.otd ?_
          refine Ent.p1 ?_
          refine Ent.drop ?_
          refine Ent.p1 ?_
          refine Ent.drop ?_
          refine Ent.p1 ?_
          refine Ent.cv (congrArg (ow eAccesss [_]) (show opnF r_Values r_Log (l.take g) 0 ++ (((listsF r_Values l[g].2.1.length).take h).filter (fun v => !hasA r_Log (↑g, v))).map (fun v => ((↑g : Int), v)) = opnF r_Values r_Log (l.take g) 0 ++ (((listsF r_Values l[g].2.1.length).take (h + 1)).filter (fun v => !hasA r_Log (↑g, v))).map (fun v => ((↑g : Int), v)) from by grind [opnF, opn1, opn_app, List.drop_eq_getElem_cons, List.drop_eq_nil_of_le, List.take_succ_eq_append_getElem, List.take_of_length_le])) ?_
          refine Ent.p3 ?_
          refine Ent.p3 ?_
          refine Ent.p2 ?_
          refine Ent.p3 ?_
          exact E.again (Back.refl _ _) (h + 1, aA1_0, (opnF r_Values r_Log (l.take g) 0 ++ (((listsF r_Values l[g].2.1.length).take h).filter (fun v => !hasA r_Log (↑g, v))).map (fun v => ((↑g : Int), v))).length, cA1_0) ⟨rfl, rfl, rfl, rfl, rfl, rfl, rfl, rfl, rfl, trivial⟩ (.refl _) ⟨(show h + 1 ≤ (listsF r_Values l[g].2.1.length).length from by omega), (show True from by grind [List.drop_eq_getElem_cons, List.drop_eq_nil_of_le, List.take_succ_eq_append_getElem, List.take_of_length_le])⟩ (show (listsF r_Values l[g].2.1.length).length - (h + 1) < (listsF r_Values l[g].2.1.length).length - h from by omega)
        · refine E.y rfl rfl (by decide) ((Y.not (b := false) rfl).yd) ?_
          refine E.nil (E.thn (E.ct rfl (E.region (l := [0, 1, 2, 3, 4]) rfl (E.y rfl rfl (by decide) ((Y.mv rfl).yd) ?_))))
          refine E.y rfl rfl (by decide) (Y.ldS (cs := [_, _]) ty_Access rfl (Has.pt m0) rfl) ?_
          refine E.st rfl rfl (N.bsl (pvs := [_]) (cs := [_, _]) us_Accesss ty_Access rfl (by decide) (by decide) (fillZ rfl rfl) rfl (by decide)) (fun b43 _ => ?_)
          refine Ent.p2 ?_
          refine Ent.p1 ?_
          refine Ent.p4 ?_
          refine E.st rfl rfl (N.push (E := eAccess) (ex := ((↑g : Int), (listsF r_Values l[g].2.1.length)[h])) us_Accesss ty_Access rfl rfl rfl (Own.mkAccess (x := ((↑g : Int), (listsF r_Values l[g].2.1.length)[h])) (by first | assumption | (unfold I64; (try dsimp only); omega) | grind) Own.ow) rfl (by first | omega | (simp only [List.length_map, List.length_take, List.length_append, List.length_drop, List.length_cons, List.length_nil]; omega)) (by first | omega | (simp only [List.length_map, List.length_take, List.length_append, List.length_drop, List.length_cons, List.length_nil]; omega)) (by decide)) (fun p44 _ => ?_)
          refine E.y rfl rfl (by decide) ((Y.as rfl).yd) ?_
          refine E.nil (E.bln (E.thn (E.region (l := [0, 1]) rfl (E.y rfl rfl (by decide) ((Y.add rfl rfl (by omega) (by omega)).yd) ?_))))
          refine E.y rfl rfl (by decide) ((Y.mv rfl).yd) ?_
          refine E.nil (E.thn (Ent.p2 ?_))
          refine Ent.otd ?_
          refine Ent.p2 ?_
          refine Ent.drop ?_
          refine Ent.p1 ?_
          refine Ent.cv (congrArg (ow eAccesss [_]) (show (opnF r_Values r_Log (l.take g) 0 ++ (((listsF r_Values l[g].2.1.length).take h).filter (fun v => !hasA r_Log (↑g, v))).map (fun v => ((↑g : Int), v))) ++ [((↑g : Int), (listsF r_Values l[g].2.1.length)[h])] = opnF r_Values r_Log (l.take g) 0 ++ (((listsF r_Values l[g].2.1.length).take (h + 1)).filter (fun v => !hasA r_Log (↑g, v))).map (fun v => ((↑g : Int), v)) from by grind [opnF, opn1, opn_app, List.drop_eq_getElem_cons, List.drop_eq_nil_of_le, List.take_succ_eq_append_getElem, List.take_of_length_le])) ?_
          refine Ent.p3 ?_
          refine Ent.p3 ?_
          refine Ent.p2 ?_
          refine Ent.p3 ?_
          exact E.again (Back.refl _ _) (h + 1, p44.1, ((opnF r_Values r_Log (l.take g) 0 ++ (((listsF r_Values l[g].2.1.length).take h).filter (fun v => !hasA r_Log (↑g, v))).map (fun v => ((↑g : Int), v))).length + 1), p44.2) ⟨rfl, rfl, rfl, rfl, rfl, rfl, rfl, rfl, rfl, trivial⟩ (.refl _) ⟨(show h + 1 ≤ (listsF r_Values l[g].2.1.length).length from by omega), (show True from by grind [List.drop_eq_getElem_cons, List.drop_eq_nil_of_le, List.take_succ_eq_append_getElem, List.take_of_length_le])⟩ (show (listsF r_Values l[g].2.1.length).length - (h + 1) < (listsF r_Values l[g].2.1.length).length - h from by omega)
      · refine E.nil (E.thn (E.seq (E.cf rfl (E.exit (E.the (E.the (E.blh (E.bln (E.thn (E.region (l := [0, 1]) rfl (E.y rfl rfl (by decide) ((Y.add rfl rfl (by omega) (by omega)).yd) ?_)))))))))))
        refine E.y rfl rfl (by decide) ((Y.mv rfl).yd) ?_
        refine E.nil (E.thn (Ent.drop ?_))
        refine Ent.p1 ?_
        refine Ent.drop ?_
        refine Ent.cv (congrArg (ow eAccesss [_]) (show opnF r_Values r_Log (l.take g) 0 ++ (((listsF r_Values l[g].2.1.length).take h).filter (fun v => !hasA r_Log (↑g, v))).map (fun v => ((↑g : Int), v)) = opnF r_Values r_Log (l.take (g + 1)) 0 from by grind [opnF, opn1, opn_app, List.drop_eq_getElem_cons, List.drop_eq_nil_of_le, List.take_succ_eq_append_getElem, List.take_of_length_le])) ?_
        refine Ent.p1 ?_
        refine Ent.p1 ?_
        exact E.again (Back.refl _ _) (g + 1, aA1_0, (opnF r_Values r_Log (l.take g) 0 ++ (((listsF r_Values l[g].2.1.length).take h).filter (fun v => !hasA r_Log (↑g, v))).map (fun v => ((↑g : Int), v))).length, cA1_0) ⟨rfl, rfl, rfl, rfl, rfl, trivial⟩ (.refl _) ⟨(show g + 1 ≤ l.length from by omega), (show True from by grind [List.drop_eq_getElem_cons, List.drop_eq_nil_of_le, List.take_succ_eq_append_getElem, List.take_of_length_le])⟩ (show l.length - (g + 1) < l.length - g from by omega)
  · refine E.nil (E.thn (E.seq (E.cf rfl (E.exit (E.the (E.the (E.blh (E.thn (E.seq (E.region (l := [0, 1]) rfl (E.y rfl rfl (by decide) ((Y.mv rfl).yd) ?_)))))))))))
    refine E.y rfl rfl (by decide) ((Y.as rfl).yd) ?_
    refine E.nil (E.thn (E.ret (Ent.cv (congrArg (ow eAccesss [_]) (show _ = opnF r_Values r_Log l 0 by grind [opnF, opn1, opn_app, List.drop_eq_getElem_cons, List.drop_eq_nil_of_le, List.take_succ_eq_append_getElem, List.take_of_length_le])) ?_)))
    exact F.r1 (Back.refl _ _) rfl rfl (_, _, _) trivial rfl (J := _) (.refl _) (.inl rfl)
theorem t_spec_l8Open {a_l : Option Addr} {m_l c_l : Nat} {l : List (Int × List Int × Int × Int × Int)} {a_r_Facts : Option Addr} {m_r_Facts c_r_Facts : Nat} {r_Facts : List (Int × List Int)} {a_r_Values : Option Addr} {m_r_Values c_r_Values : Nat} {r_Values : List Int} {a_r_Log : Option Addr} {m_r_Log c_r_Log : Nat} {r_Log : List (Int × List Int)} {r_Rounds : Int} (hv : r_Values.length ≤ 10) (hm : ∀ m ∈ l, m.2.1.length ≤ 3) (hl : l.length ≤ 5) : Tr Try.prog 116 [.slice a_l m_l c_l, .agg #[.slice a_r_Facts m_r_Facts c_r_Facts, .slice a_r_Values m_r_Values c_r_Values, .slice a_r_Log m_r_Log c_r_Log, .int .i64 r_Rounds]] (fun w L => Ro w L eMethods [.slice a_l m_l c_l] l ∧ Ro w L eFacts [.slice a_r_Facts m_r_Facts c_r_Facts] r_Facts ∧ Ro w L eIs [.slice a_r_Values m_r_Values c_r_Values] r_Values ∧ Ro w L eAccesss [.slice a_r_Log m_r_Log c_r_Log] r_Log ∧ I64 r_Rounds) [] (κ := Option Addr × Nat × Nat) (fun k => True) (fun k => .slice k.1 k.2.1 k.2.2) (fun k => [ow eAccesss [.slice k.1 k.2.1 k.2.2] (opnF r_Values r_Log l 0)]) := by
  refine Tr.intro Try.func116 rfl (n := 54) rfl (by decide +kernel) (Nat.le_of_ble_eq_true rfl) (fr := [(0, .slice a_l m_l c_l), (1, .agg #[.slice a_r_Facts m_r_Facts c_r_Facts, .slice a_r_Values m_r_Values c_r_Values, .slice a_r_Log m_r_Log c_r_Log, .int .i64 r_Rounds])]) rfl fun w L hR => ?_
  obtain ⟨hl, hr_Facts, hr_Values, hr_Log, i6r_Rounds⟩ := hR
  obtain ⟨rfl, ll⟩ := hl.slen
  obtain ⟨rfl, lr_Facts⟩ := hr_Facts.slen
  obtain ⟨rfl, lr_Values⟩ := hr_Values.slen
  obtain ⟨rfl, lr_Log⟩ := hr_Log.slen
  refine E.seq (E.region (l := [0, 1]) rfl (E.st rfl rfl (N.box (cs := [_, _, _, _]) rfl (by decide) rfl) (fun b3 _ => ?_)))
  refine E.y rfl rfl (by decide) ((Y.as rfl).yd) ?_
  refine E.nil (E.thn (E.seq (E.region (l := [0, 1]) rfl (E.st rfl rfl (N.bsl (pvs := []) (cs := []) us_Accesss ty_Access rfl (by decide) (by decide) (fillZ rfl rfl) rfl (by decide)) (fun b10 _ => ?_)))))
  refine Ent.drop ?_
  refine E.y rfl rfl (by decide) ((Y.as rfl).yd) ?_
  refine E.nil (E.thn (E.seq (E.seq (E.region (l := [0]) rfl (E.y rfl rfl (by decide) ((Y.as rfl).yd) ?_)))))
  refine E.nil (E.thn (E.block (Ent.mkow (A := []) (Own.nil (E := eAccess) (e := tAccess) (a := (some ⟨b10, 0, none⟩))) rfl ?_)))
  refine Ent.cv (congrArg (ow eAccesss [_]) (show [] = opnF r_Values r_Log (l.take 0) 0 from by first | rfl | (simp; done) | grind [opnF, opn1, opn_app, List.drop_eq_getElem_cons, List.drop_eq_nil_of_le, List.take_succ_eq_append_getElem, List.take_of_length_le])) ?_
  refine E.loop (κ := Nat × Option Addr × Nat × Nat) (fun g => g.1 ≤ l.length ∧ True) (fun g => [(0, .slice a_l l.length c_l), (3, .pointer (some ⟨b3, 0, none⟩)), (5, .slice g.2.1 g.2.2.1 g.2.2.2), (6, .int .i64 (↑g.1 : Int))]) (fun g => [ow eAccesss [.slice g.2.1 g.2.2.1 g.2.2.2] (opnF r_Values r_Log (l.take g.1) 0), pt b3 44 [.slice a_r_Facts r_Facts.length c_r_Facts, .slice a_r_Values r_Values.length c_r_Values, .slice a_r_Log r_Log.length c_r_Log, .int .i64 r_Rounds]]) (fun g => l.length - g.1) (0, (some ⟨b10, 0, none⟩), 0, 0) ⟨Nat.zero_le _, by simp⟩ ⟨rfl, rfl, rfl, rfl, trivial⟩ (.refl _) (fun g pg => ?_)
  obtain ⟨g, aA0_0, mA0_0, cA0_0⟩ := g
  try dsimp only at pg
  show Ent _ _ _ [(0, .slice a_l l.length c_l), (3, .pointer (some ⟨b3, 0, none⟩)), (5, .slice aA0_0 mA0_0 cA0_0), (6, .int .i64 (↑g : Int))] [ow eAccesss [.slice aA0_0 mA0_0 cA0_0] (opnF r_Values r_Log (l.take g) 0), pt b3 44 [.slice a_r_Facts r_Facts.length c_r_Facts, .slice a_r_Values r_Values.length c_r_Values, .slice a_r_Log r_Log.length c_r_Log, .int .i64 r_Rounds]] _
  obtain ⟨pk, pa⟩ := pg
  refine Ent.lenow m0 fun eaA0_0 laA0_0 => ?_
  subst eaA0_0
  have jo := opn_len (values := r_Values) (log := r_Log) (i := 0) hv (l := l.take g) (fun m h => hm m (List.mem_of_mem_take h))
  have jp := List.length_take_le g l
  refine E.seq (E.seq (E.region (l := [0, 1, 2, 3]) rfl (E.y rfl rfl (by decide) ((Y.mv rfl).yd) ?_)))
  refine E.y rfl rfl (by decide) ((Y.mv rfl).yd) ?_
  refine E.y rfl rfl (by decide) ((Y.len us_Methods rfl).yd) ?_
  refine E.y rfl rfl (by decide) ((Y.lss rfl rfl).yd) (Ent.d (fun q14 => ?_) (fun q14 => ?_))
  · refine E.nil (E.thn (E.ct rfl (E.skipc (E.thn (E.seq (E.block (E.seq (E.seq (E.region (l := [0, 1, 2, 3, 4, 5]) rfl (E.y rfl rfl (by decide) ((Y.mv rfl).yd) ?_))))))))))
    refine E.y rfl rfl (by decide) ((Y.mv rfl).yd) ?_
    obtain ⟨eb19, eo19, ec19, ea19, er19, el19, eh19⟩ := hl.elem g (by omega)
    obtain ⟨xa19_0, xc19_0, rfl, ei19_0, xh19_0, ei19_2, ei19_3, ei19_4⟩ := Ro.pMethod er19
    have := xh19_0.slen.2
    refine E.y rfl rfl (by decide) ((Y.ix us_Methods ty_Method rfl ea19 rfl g rfl (by omega)).yd) ?_
    refine E.y rfl rfl (by decide) ((Y.fld fo_Method_2 ty_I (by decide) rfl).yd) ?_
    refine E.y rfl rfl (by decide) (Y.ld1 ty_I rfl ((eh19 _).sub (cs' := [_]) 2 rfl) rfl) ?_
    refine E.y rfl rfl (by decide) ((Y.neq rfl rfl).yd) (Ent.d (fun q22 => ?_) (fun q22 => ?_))
    · refine E.nil (E.thn (E.ct rfl (E.exit (E.the (E.blh (E.thn (E.region (l := [0, 1, 2]) rfl (E.y rfl rfl (by decide) ((Y.mv rfl).yd) ?_))))))))
      refine E.y rfl rfl (by decide) ((Y.add rfl rfl (by omega) (by omega)).yd) ?_
      refine E.y rfl rfl (by decide) ((Y.as rfl).yd) ?_
      refine E.nil (E.thn (Ent.cv (congrArg (ow eAccesss [_]) (show opnF r_Values r_Log (l.take g) 0 = opnF r_Values r_Log (l.take (g + 1)) 0 from by grind [opnF, opn1, opn_app, List.drop_eq_getElem_cons, List.drop_eq_nil_of_le, List.take_succ_eq_append_getElem, List.take_of_length_le])) ?_))
      refine Ent.p1 ?_
      refine Ent.p1 ?_
      exact E.again (Back.refl _ _) (g + 1, aA0_0, (opnF r_Values r_Log (l.take g) 0).length, cA0_0) ⟨rfl, rfl, rfl, rfl, trivial⟩ (.refl _) ⟨(show g + 1 ≤ l.length from by omega), (show True from by grind [List.drop_eq_getElem_cons, List.drop_eq_nil_of_le, List.take_succ_eq_append_getElem, List.take_of_length_le])⟩ (show l.length - (g + 1) < l.length - g from by omega)
    · refine E.nil (E.thn (E.cf rfl (E.skipc (E.thn (E.seq (D.region (fun j => true) mixed (D.yp 0 rfl rfl (by decide) (Y.fld fo_Reached_1 ty_Is (by decide) rfl) (by kernel_rfl) ?_)))))))
      refine D.y 1 rfl rfl (by decide) (Y.ld1 ty_Is rfl ((Has.pt (mS m0)).sub (cs' := [_]) 1 rfl) rfl) (by kernel_rfl) ?_
      refine D.yp 2 rfl rfl (by decide) (Y.mv rfl) (by kernel_rfl) ?_
      refine D.yp 3 rfl rfl (by decide) (Y.mv rfl) (by kernel_rfl) ?_
      refine D.yp 4 rfl rfl (by decide) (Y.ix us_Methods ty_Method rfl ea19 rfl g rfl (by omega)) (by kernel_rfl) ?_
      refine D.yp 5 rfl rfl (by decide) (Y.fld fo_Method_1 ty_Is (by decide) rfl) (by kernel_rfl) ?_
      refine D.y 6 rfl rfl (by decide) (Y.ld1 ty_Is rfl ((eh19 _).sub (cs' := [_]) 1 rfl) rfl) (by kernel_rfl) ?_
      refine D.yp 7 rfl rfl (by decide) (Y.len us_Is rfl) (by kernel_rfl) ?_
      have jm := hm l[g] (List.getElem_mem (by omega))
      refine D.st 8 rfl rfl (by kernel_rfl) (fun _ => rfl) (N.call (t_spec_l8Lists (by first | omega | assumption | (constructor <;> omega)) (by first | omega | assumption | (constructor <;> omega))) rfl rfl rfl (by decide) rfl (fun w Lp hA => hA.ro hr_Values)) (fun k31 _ => ?_)
      obtain ⟨a31, m31, c31⟩ := k31
      refine Ent.lenow m0 fun e31 l31 => ?_
      subst e31
      refine Ent.rebase (A := [_]) rfl fun wb3 Lb3 hB3 hA3 => ?_
      have hl := hA3.ro hl
      have xh19_0 := hA3.ro xh19_0
      have hr_Values := hA3.ro hr_Values
      have hr_Facts := hA3.ro hr_Facts
      have hr_Log := hA3.ro hr_Log
      have eh19 := hB3.has eh19
      have rb3 : Ro wb3 Lb3 eIss [.slice a31 (listsF r_Values l[g].2.1.length).length c31] (listsF r_Values l[g].2.1.length) := hA3.ow m0
      refine D.yp 9 rfl rfl (by decide) (Y.as rfl) (by kernel_rfl) ?_
      refine D.done (by kernel_rfl) (E.thn (E.seq (E.region (l := [0]) rfl (E.y rfl rfl (by decide) ((Y.as rfl).yd) ?_))))
      refine E.nil (E.thn (E.block (Ent.cv (congrArg (ow eAccesss [_]) (show opnF r_Values r_Log (l.take g) 0 = opnF r_Values r_Log (l.take g) 0 ++ (((listsF r_Values l[g].2.1.length).take 0).filter (fun v => !hasA r_Log (↑g, v))).map (fun v => ((↑g : Int), v)) from by first | rfl | (simp; done) | grind [opnF, opn1, opn_app, List.drop_eq_getElem_cons, List.drop_eq_nil_of_le, List.take_succ_eq_append_getElem, List.take_of_length_le])) ?_)))
      refine E.loop (κ := Nat × Option Addr × Nat × Nat) (fun h => h.1 ≤ (listsF r_Values l[g].2.1.length).length ∧ True) (fun h => [(0, .slice a_l l.length c_l), (3, .pointer (some ⟨b3, 0, none⟩)), (5, .slice h.2.1 h.2.2.1 h.2.2.2), (6, .int .i64 (↑g : Int)), (7, .slice a31 (listsF r_Values l[g].2.1.length).length c31), (8, .int .i64 (↑h.1 : Int))]) (fun h => [ow eAccesss [.slice h.2.1 h.2.2.1 h.2.2.2] (opnF r_Values r_Log (l.take g) 0 ++ (((listsF r_Values l[g].2.1.length).take h.1).filter (fun v => !hasA r_Log (↑g, v))).map (fun v => ((↑g : Int), v))), pt b3 44 [.slice a_r_Facts r_Facts.length c_r_Facts, .slice a_r_Values r_Values.length c_r_Values, .slice a_r_Log r_Log.length c_r_Log, .int .i64 r_Rounds]]) (fun h => (listsF r_Values l[g].2.1.length).length - h.1) (0, aA0_0, (opnF r_Values r_Log (l.take g) 0).length, cA0_0) ⟨Nat.zero_le _, by simp⟩ ⟨rfl, rfl, rfl, rfl, rfl, rfl, trivial⟩ (.refl _) (fun h ph => ?_)
      obtain ⟨h, aA1_0, mA1_0, cA1_0⟩ := h
      try dsimp only at ph
      show Ent _ _ _ [(0, .slice a_l l.length c_l), (3, .pointer (some ⟨b3, 0, none⟩)), (5, .slice aA1_0 mA1_0 cA1_0), (6, .int .i64 (↑g : Int)), (7, .slice a31 (listsF r_Values l[g].2.1.length).length c31), (8, .int .i64 (↑h : Int))] [ow eAccesss [.slice aA1_0 mA1_0 cA1_0] (opnF r_Values r_Log (l.take g) 0 ++ (((listsF r_Values l[g].2.1.length).take h).filter (fun v => !hasA r_Log (↑g, v))).map (fun v => ((↑g : Int), v))), pt b3 44 [.slice a_r_Facts r_Facts.length c_r_Facts, .slice a_r_Values r_Values.length c_r_Values, .slice a_r_Log r_Log.length c_r_Log, .int .i64 r_Rounds]] _
      obtain ⟨pk, pa⟩ := ph
      have jl := lists_le (values := r_Values) (t := l[g].2.1.length) hv (hm _ (List.getElem_mem (by omega)))
      have jf := List.length_filter_le (fun v => !hasA r_Log (↑g, v)) ((listsF r_Values l[g].2.1.length).take h)
      have jt := List.length_take_le h (listsF r_Values l[g].2.1.length)
      refine Ent.lenow m0 fun eaA1_0 laA1_0 => ?_
      subst eaA1_0
      refine E.seq (E.seq (E.region (l := [0, 1, 2, 3]) rfl (E.y rfl rfl (by decide) ((Y.mv rfl).yd) ?_)))
      refine E.y rfl rfl (by decide) ((Y.mv rfl).yd) ?_
      refine E.y rfl rfl (by decide) ((Y.len us_Iss rfl).yd) ?_
      refine E.y rfl rfl (by decide) ((Y.lss rfl rfl).yd) (Ent.d (fun q35 => ?_) (fun q35 => ?_))
      · refine E.nil (E.thn (E.ct rfl (E.skipc (E.thn (E.seq (E.block (E.seq (E.region (l := [0, 1, 2, 3, 4, 5, 6, 7]) rfl (E.y rfl rfl (by decide) ((Y.mv rfl).yd) ?_)))))))))
        refine E.y rfl rfl (by decide) ((Y.mv rfl).yd) ?_
        refine E.y rfl rfl (by decide) ((Y.mv rfl).yd) ?_
        obtain ⟨eb41, eo41, ec41, ea41, er41, el41, eh41⟩ := rb3.elem h (by omega)
        obtain ⟨xa41, xc41, rfl⟩ := er41.sl
        have := er41.slen.2
        refine E.y rfl rfl (by decide) ((Y.ix us_Iss ty_Is rfl ea41 rfl h rfl (by omega)).yd) ?_
        refine E.y rfl rfl (by decide) (Y.ld1 ty_Is rfl (eh41 _) rfl) ?_
        have jz := lists_mem _ (List.getElem_mem (l := (listsF r_Values l[g].2.1.length)) (n := h) (by omega))
        refine E.st rfl rfl (N.call (t_spec_l8Access (by first | omega | assumption | (constructor <;> omega))) rfl rfl rfl (by decide) rfl (fun w Lp hA => ⟨(by first | assumption | (unfold I64; (try dsimp only); omega) | grind), hA.ro er41⟩)) (fun k43 _ => ?_)
        obtain ⟨a43, m43, c43⟩ := k43
        refine Ent.lenow m0 fun e43 l43 => ?_
        subst e43
        refine E.st rfl rfl (N.alloc ty_Access (by decide)) (fun b9 _ => ?_)
        refine E.st rfl rfl (N.sto (vs := [_, _]) (cs' := [_, _]) ty_Access rfl rfl rfl rfl rfl (Nat.le_of_ble_eq_true rfl) rfl) (fun _ _ => ?_)
        refine E.nil (E.thn (E.seq (E.region (l := [0, 1, 2, 3, 4]) rfl (E.y rfl rfl (by decide) ((Y.fld fo_Reached_2 ty_Accesss (by decide) rfl).yd) ?_))))
        refine E.y rfl rfl (by decide) (Y.ld1 ty_Accesss rfl ((Has.pt (mS (mS (mS m0)))).sub (cs' := [_]) 2 rfl) rfl) ?_
        refine E.y rfl rfl (by decide) (Y.ldS (cs := [_, _]) ty_Access rfl (Has.pt m0) rfl) ?_
        refine E.st rfl rfl (N.call0 t_spec_l7Logged rfl rfl rfl (by decide) (fun w Lp hA => ⟨hA.ro hr_Log, (by first | assumption | (unfold I64; (try dsimp only); omega) | grind), hA.ow (mS m0)⟩)) (fun _ _ => (Ent.b (fun q47 => ?_) (fun q47 => ?_)))
        · refine E.y rfl rfl (by decide) ((Y.not (b := true) rfl).yd) ?_
          refine E.nil (E.thn (E.cf rfl (E.skipc (E.bln (E.thn (E.region (l := [0, 1, 2]) rfl (E.y rfl rfl (by decide) ((Y.mv rfl).yd) ?_)))))))
          refine E.y rfl rfl (by decide) ((Y.add rfl rfl (by omega) (by omega)).yd) ?_
          refine E.y rfl rfl (by decide) ((Y.as rfl).yd) ?_
          refine E.nil (E.thn (Ent.drop ?_))
          refine Ent.drop ?_
          refine Ent.cv (congrArg (ow eAccesss [_]) (show opnF r_Values r_Log (l.take g) 0 ++ (((listsF r_Values l[g].2.1.length).take h).filter (fun v => !hasA r_Log (↑g, v))).map (fun v => ((↑g : Int), v)) = opnF r_Values r_Log (l.take g) 0 ++ (((listsF r_Values l[g].2.1.length).take (h + 1)).filter (fun v => !hasA r_Log (↑g, v))).map (fun v => ((↑g : Int), v)) from by grind [opnF, opn1, opn_app, List.drop_eq_getElem_cons, List.drop_eq_nil_of_le, List.take_succ_eq_append_getElem, List.take_of_length_le])) ?_
          refine Ent.p1 ?_
          refine Ent.p1 ?_
          exact E.again (Back.refl _ _) (h + 1, aA1_0, (opnF r_Values r_Log (l.take g) 0 ++ (((listsF r_Values l[g].2.1.length).take h).filter (fun v => !hasA r_Log (↑g, v))).map (fun v => ((↑g : Int), v))).length, cA1_0) ⟨rfl, rfl, rfl, rfl, rfl, rfl, trivial⟩ (.refl _) ⟨(show h + 1 ≤ (listsF r_Values l[g].2.1.length).length from by omega), (show True from by grind [List.drop_eq_getElem_cons, List.drop_eq_nil_of_le, List.take_succ_eq_append_getElem, List.take_of_length_le])⟩ (show (listsF r_Values l[g].2.1.length).length - (h + 1) < (listsF r_Values l[g].2.1.length).length - h from by omega)
        · refine E.y rfl rfl (by decide) ((Y.not (b := false) rfl).yd) ?_
          refine E.nil (E.thn (E.ct rfl (E.region (l := [0, 1, 2, 3, 4]) rfl (E.y rfl rfl (by decide) ((Y.mv rfl).yd) ?_))))
          refine E.y rfl rfl (by decide) (Y.ldS (cs := [_, _]) ty_Access rfl (Has.pt m0) rfl) ?_
          refine E.st rfl rfl (N.bsl (pvs := [_]) (cs := [_, _]) us_Accesss ty_Access rfl (by decide) (by decide) (fillZ rfl rfl) rfl (by decide)) (fun b51 _ => ?_)
          refine Ent.p2 ?_
          refine Ent.p1 ?_
          refine Ent.p3 ?_
          refine E.st rfl rfl (N.push (E := eAccess) (ex := ((↑g : Int), ((listsF r_Values l[g].2.1.length)[h]))) us_Accesss ty_Access rfl rfl rfl (Own.mkAccess (x := ((↑g : Int), ((listsF r_Values l[g].2.1.length)[h]))) (by first | assumption | (unfold I64; (try dsimp only); omega) | grind) Own.ow) rfl (by first | omega | (simp only [List.length_map, List.length_take, List.length_append, List.length_drop, List.length_cons, List.length_nil]; omega)) (by first | omega | (simp only [List.length_map, List.length_take, List.length_append, List.length_drop, List.length_cons, List.length_nil]; omega)) (by decide)) (fun p52 _ => ?_)
          refine E.y rfl rfl (by decide) ((Y.as rfl).yd) ?_
          refine E.nil (E.bln (E.thn (E.region (l := [0, 1, 2]) rfl (E.y rfl rfl (by decide) ((Y.mv rfl).yd) ?_))))
          refine E.y rfl rfl (by decide) ((Y.add rfl rfl (by omega) (by omega)).yd) ?_
          refine E.y rfl rfl (by decide) ((Y.as rfl).yd) ?_
          refine E.nil (E.thn (Ent.p1 ?_))
          refine Ent.drop ?_
          refine Ent.cv (congrArg (ow eAccesss [_]) (show (opnF r_Values r_Log (l.take g) 0 ++ (((listsF r_Values l[g].2.1.length).take h).filter (fun v => !hasA r_Log (↑g, v))).map (fun v => ((↑g : Int), v))) ++ [((↑g : Int), ((listsF r_Values l[g].2.1.length)[h]))] = opnF r_Values r_Log (l.take g) 0 ++ (((listsF r_Values l[g].2.1.length).take (h + 1)).filter (fun v => !hasA r_Log (↑g, v))).map (fun v => ((↑g : Int), v)) from by grind [opnF, opn1, opn_app, List.drop_eq_getElem_cons, List.drop_eq_nil_of_le, List.take_succ_eq_append_getElem, List.take_of_length_le])) ?_
          refine Ent.p1 ?_
          refine Ent.p1 ?_
          exact E.again (Back.refl _ _) (h + 1, p52.1, ((opnF r_Values r_Log (l.take g) 0 ++ (((listsF r_Values l[g].2.1.length).take h).filter (fun v => !hasA r_Log (↑g, v))).map (fun v => ((↑g : Int), v))).length + 1), p52.2) ⟨rfl, rfl, rfl, rfl, rfl, rfl, trivial⟩ (.refl _) ⟨(show h + 1 ≤ (listsF r_Values l[g].2.1.length).length from by omega), (show True from by grind [List.drop_eq_getElem_cons, List.drop_eq_nil_of_le, List.take_succ_eq_append_getElem, List.take_of_length_le])⟩ (show (listsF r_Values l[g].2.1.length).length - (h + 1) < (listsF r_Values l[g].2.1.length).length - h from by omega)
      · refine E.nil (E.thn (E.cf rfl (E.exit (E.the (E.the (E.blh (E.bln (E.thn (E.region (l := [0, 1, 2]) rfl (E.y rfl rfl (by decide) ((Y.mv rfl).yd) ?_))))))))))
        refine E.y rfl rfl (by decide) ((Y.add rfl rfl (by omega) (by omega)).yd) ?_
        refine E.y rfl rfl (by decide) ((Y.as rfl).yd) ?_
        refine E.nil (E.thn (Ent.cv (congrArg (ow eAccesss [_]) (show opnF r_Values r_Log (l.take g) 0 ++ (((listsF r_Values l[g].2.1.length).take h).filter (fun v => !hasA r_Log (↑g, v))).map (fun v => ((↑g : Int), v)) = opnF r_Values r_Log (l.take (g + 1)) 0 from by grind [opnF, opn1, opn_app, List.drop_eq_getElem_cons, List.drop_eq_nil_of_le, List.take_succ_eq_append_getElem, List.take_of_length_le])) ?_))
        refine Ent.p1 ?_
        refine Ent.p1 ?_
        exact E.again hB3 (g + 1, aA1_0, (opnF r_Values r_Log (l.take g) 0 ++ (((listsF r_Values l[g].2.1.length).take h).filter (fun v => !hasA r_Log (↑g, v))).map (fun v => ((↑g : Int), v))).length, cA1_0) ⟨rfl, rfl, rfl, rfl, trivial⟩ (.refl _) ⟨(show g + 1 ≤ l.length from by omega), (show True from by grind [List.drop_eq_getElem_cons, List.drop_eq_nil_of_le, List.take_succ_eq_append_getElem, List.take_of_length_le])⟩ (show l.length - (g + 1) < l.length - g from by omega)
  · refine E.nil (E.thn (E.cf rfl (E.exit (E.the (E.the (E.blh (E.thn (E.seq (E.region (l := [0, 1]) rfl (E.y rfl rfl (by decide) ((Y.mv rfl).yd) ?_))))))))))
    refine E.y rfl rfl (by decide) ((Y.as rfl).yd) ?_
    refine E.nil (E.thn (E.ret (Ent.cv (congrArg (ow eAccesss [_]) (show _ = opnF r_Values r_Log l 0 by grind [opnF, opn1, opn_app, List.drop_eq_getElem_cons, List.drop_eq_nil_of_le, List.take_succ_eq_append_getElem, List.take_of_length_le])) ?_)))
    exact F.r1 (Back.refl _ _) rfl rfl (_, _, _) trivial rfl (J := _) (.refl _) (.inl rfl)
theorem t_impl_OpenAccesses {a_s : Option Addr} {m_s c_s : Nat} {s : List Int} {a_l : Option Addr} {m_l c_l : Nat} {l : List (Int × List Int × Int × Int × Int)} {a_r_Facts : Option Addr} {m_r_Facts c_r_Facts : Nat} {r_Facts : List (Int × List Int)} {a_r_Values : Option Addr} {m_r_Values c_r_Values : Nat} {r_Values : List Int} {a_r_Log : Option Addr} {m_r_Log c_r_Log : Nat} {r_Log : List (Int × List Int)} {r_Rounds : Int} : Tr Try.prog 52 [.slice a_s m_s c_s, .slice a_l m_l c_l, .agg #[.slice a_r_Facts m_r_Facts c_r_Facts, .slice a_r_Values m_r_Values c_r_Values, .slice a_r_Log m_r_Log c_r_Log, .int .i64 r_Rounds]] (fun w L => Ro w L eIs [.slice a_s m_s c_s] s ∧ Ro w L eMethods [.slice a_l m_l c_l] l ∧ Ro w L eFacts [.slice a_r_Facts m_r_Facts c_r_Facts] r_Facts ∧ Ro w L eIs [.slice a_r_Values m_r_Values c_r_Values] r_Values ∧ Ro w L eAccesss [.slice a_r_Log m_r_Log c_r_Log] r_Log ∧ I64 r_Rounds) [] (κ := Option Addr × Nat × Nat) (fun k => True) (fun k => .slice k.1 k.2.1 k.2.2) (fun k => [ow eAccesss [.slice k.1 k.2.1 k.2.2] (opnR s l r_Values r_Log)]) := by
  refine Tr.intro Try.func52 rfl (n := 20) rfl (by decide +kernel) (Nat.le_of_ble_eq_true rfl) (fr := [(0, .slice a_s m_s c_s), (1, .slice a_l m_l c_l), (2, .agg #[.slice a_r_Facts m_r_Facts c_r_Facts, .slice a_r_Values m_r_Values c_r_Values, .slice a_r_Log m_r_Log c_r_Log, .int .i64 r_Rounds])]) rfl fun w L hR => ?_
  obtain ⟨hs, hl, hr_Facts, hr_Values, hr_Log, i6r_Rounds⟩ := hR
  obtain ⟨rfl, ls⟩ := hs.slen
  obtain ⟨rfl, ll⟩ := hl.slen
  obtain ⟨rfl, lr_Facts⟩ := hr_Facts.slen
  obtain ⟨rfl, lr_Values⟩ := hr_Values.slen
  obtain ⟨rfl, lr_Log⟩ := hr_Log.slen
  refine E.seq (E.region (l := [0, 1]) rfl (E.st rfl rfl (N.box (cs := [_, _, _, _]) rfl (by decide) rfl) (fun b5 _ => ?_)))
  refine E.y rfl rfl (by decide) ((Y.as rfl).yd) ?_
  refine E.nil (E.thn (E.seq (E.seq (E.region (l := [0, 1, 2, 3, 4, 5, 6, 7, 8, 9]) rfl (E.y rfl rfl (by decide) ((Y.mv rfl).yd) ?_)))))
  refine E.y rfl rfl (by decide) ((Y.mv rfl).yd) ?_
  refine E.st rfl rfl (N.call0 t_impl_AreMethods rfl rfl rfl (by decide) (fun w Lp hA => ⟨hA.ro hs, hA.ro hl⟩)) (fun _ _ => (Ent.b (fun q9 => ?_) (fun q9 => ?_)))
  · refine E.y rfl rfl (by decide) ((Y.not (b := true) rfl).yd) ?_
    refine E.y rfl rfl (by decide) ((Y.mv rfl).yd) ?_
    refine E.y rfl rfl (by decide) ((Y.fld fo_Reached_1 ty_Is (by decide) rfl).yd) ?_
    refine E.y rfl rfl (by decide) (Y.ld1 ty_Is rfl ((Has.pt m0).sub (cs' := [_]) 1 rfl) rfl) ?_
    refine E.st rfl rfl (N.call0 t_impl_areReached rfl rfl rfl (by decide) (fun w Lp hA => hA.ro hr_Values)) (fun _ _ => (Ent.b (fun q14 => ?_) (fun q14 => ?_)))
    · refine E.y rfl rfl (by decide) ((Y.not (b := true) rfl).yd) ?_
      refine E.y rfl rfl (by decide) ((Y.pkf rfl rfl).yd) ?_
      refine E.nil (E.thn (E.cf rfl (E.skipc (E.thn (E.seq (E.region (l := [0, 1, 2, 3]) rfl (E.y rfl rfl (by decide) (Y.ldS (cs := [_, _, _, _]) ty_Reached rfl (Has.pt m0) rfl) ?_)))))))
      refine E.y rfl rfl (by decide) ((Y.mv rfl).yd) ?_
      refine E.st rfl rfl (N.call (t_impl_Reached_open (okReach_len (by assumption)) (okMeths_len (s := s) (by assumption)).1 (okMeths_len (s := s) (by assumption)).2) rfl rfl rfl (by decide) rfl (fun w Lp hA => ⟨hA.ro hr_Facts, hA.ro hr_Values, hA.ro hr_Log, i6r_Rounds, hA.ro hl⟩)) (fun k19 _ => ?_)
      obtain ⟨a19, m19, c19⟩ := k19
      refine Ent.lenow m0 fun e19 l19 => ?_
      subst e19
      refine E.y rfl rfl (by decide) ((Y.as rfl).yd) ?_
      refine E.nil (E.thn (E.ret (Ent.cv (congrArg (ow eAccesss [_]) (show _ = opnR s l r_Values r_Log by grind [opnR, List.drop_eq_getElem_cons, List.drop_eq_nil_of_le, List.take_succ_eq_append_getElem, List.take_of_length_le])) ?_)))
      exact F.r1 (Back.refl _ _) rfl rfl (_, _, _) trivial rfl (J := _) (.refl _) (.inl rfl)
    · refine E.y rfl rfl (by decide) ((Y.not (b := false) rfl).yd) ?_
      refine E.y rfl rfl (by decide) ((Y.pkf rfl rfl).yd) ?_
      refine E.nil (E.thn (E.ct rfl (E.seq (E.region (l := [0]) rfl (E.y rfl rfl (by decide) ((Y.as rfl).yd) ?_)))))
      refine E.nil (E.thn (E.ret (E.thr (Ent.mkow (A := []) (Own.nil (E := eAccess) (e := tAccess) (a := none)) rfl ?_))))
      refine Ent.cv (congrArg (ow eAccesss [_]) (show _ = opnR s l r_Values r_Log by grind [opnR, List.drop_eq_getElem_cons, List.drop_eq_nil_of_le, List.take_succ_eq_append_getElem, List.take_of_length_le])) ?_
      exact F.r1 (Back.refl _ _) rfl rfl (none, 0, 0) trivial rfl (J := _) (.refl _) (.inl rfl)
  · refine E.y rfl rfl (by decide) ((Y.not (b := false) rfl).yd) ?_
    refine E.y rfl rfl (by decide) ((Y.mv rfl).yd) ?_
    refine E.skip rfl rfl rfl ?_
    refine E.skip rfl rfl rfl ?_
    refine E.skip rfl rfl rfl ?_
    refine E.skip rfl rfl rfl ?_
    refine E.y rfl rfl (by decide) ((Y.pkt rfl rfl).yd) ?_
    refine E.nil (E.thn (E.ct rfl (E.seq (E.region (l := [0]) rfl (E.y rfl rfl (by decide) ((Y.as rfl).yd) ?_)))))
    refine E.nil (E.thn (E.ret (E.thr (Ent.mkow (A := []) (Own.nil (E := eAccess) (e := tAccess) (a := none)) rfl ?_))))
    refine Ent.cv (congrArg (ow eAccesss [_]) (show _ = opnR s l r_Values r_Log by grind [opnR, List.drop_eq_getElem_cons, List.drop_eq_nil_of_le, List.take_succ_eq_append_getElem, List.take_of_length_le])) ?_
    exact F.r1 (Back.refl _ _) rfl rfl (none, 0, 0) trivial rfl (J := _) (.refl _) (.inl rfl)
theorem t_spec_OpenAccesses {a_s : Option Addr} {m_s c_s : Nat} {s : List Int} {a_l : Option Addr} {m_l c_l : Nat} {l : List (Int × List Int × Int × Int × Int)} {a_r_Facts : Option Addr} {m_r_Facts c_r_Facts : Nat} {r_Facts : List (Int × List Int)} {a_r_Values : Option Addr} {m_r_Values c_r_Values : Nat} {r_Values : List Int} {a_r_Log : Option Addr} {m_r_Log c_r_Log : Nat} {r_Log : List (Int × List Int)} {r_Rounds : Int} : Tr Try.prog 50 [.slice a_s m_s c_s, .slice a_l m_l c_l, .agg #[.slice a_r_Facts m_r_Facts c_r_Facts, .slice a_r_Values m_r_Values c_r_Values, .slice a_r_Log m_r_Log c_r_Log, .int .i64 r_Rounds]] (fun w L => Ro w L eIs [.slice a_s m_s c_s] s ∧ Ro w L eMethods [.slice a_l m_l c_l] l ∧ Ro w L eFacts [.slice a_r_Facts m_r_Facts c_r_Facts] r_Facts ∧ Ro w L eIs [.slice a_r_Values m_r_Values c_r_Values] r_Values ∧ Ro w L eAccesss [.slice a_r_Log m_r_Log c_r_Log] r_Log ∧ I64 r_Rounds) [] (κ := Option Addr × Nat × Nat) (fun k => True) (fun k => .slice k.1 k.2.1 k.2.2) (fun k => [ow eAccesss [.slice k.1 k.2.1 k.2.2] (opnR s l r_Values r_Log)]) := by
  refine Tr.intro Try.func50 rfl (n := 21) rfl (by decide +kernel) (Nat.le_of_ble_eq_true rfl) (fr := [(0, .slice a_s m_s c_s), (1, .slice a_l m_l c_l), (2, .agg #[.slice a_r_Facts m_r_Facts c_r_Facts, .slice a_r_Values m_r_Values c_r_Values, .slice a_r_Log m_r_Log c_r_Log, .int .i64 r_Rounds])]) rfl fun w L hR => ?_
  obtain ⟨hs, hl, hr_Facts, hr_Values, hr_Log, i6r_Rounds⟩ := hR
  obtain ⟨rfl, ls⟩ := hs.slen
  obtain ⟨rfl, ll⟩ := hl.slen
  obtain ⟨rfl, lr_Facts⟩ := hr_Facts.slen
  obtain ⟨rfl, lr_Values⟩ := hr_Values.slen
  obtain ⟨rfl, lr_Log⟩ := hr_Log.slen
  refine E.seq (E.region (l := [0, 1]) rfl (E.st rfl rfl (N.box (cs := [_, _, _, _]) rfl (by decide) rfl) (fun b5 _ => ?_)))
  refine E.y rfl rfl (by decide) ((Y.as rfl).yd) ?_
  refine E.nil (E.thn (E.seq (E.seq (E.region (l := [0, 1, 2, 3, 4, 5, 6, 7, 8, 9]) rfl (E.y rfl rfl (by decide) ((Y.mv rfl).yd) ?_)))))
  refine E.y rfl rfl (by decide) ((Y.mv rfl).yd) ?_
  refine E.st rfl rfl (N.call0 t_spec_AreMethods rfl rfl rfl (by decide) (fun w Lp hA => ⟨hA.ro hs, hA.ro hl⟩)) (fun _ _ => (Ent.b (fun q9 => ?_) (fun q9 => ?_)))
  · refine E.y rfl rfl (by decide) ((Y.not (b := true) rfl).yd) ?_
    refine E.y rfl rfl (by decide) ((Y.mv rfl).yd) ?_
    refine E.y rfl rfl (by decide) ((Y.fld fo_Reached_1 ty_Is (by decide) rfl).yd) ?_
    refine E.y rfl rfl (by decide) (Y.ld1 ty_Is rfl ((Has.pt m0).sub (cs' := [_]) 1 rfl) rfl) ?_
    refine E.st rfl rfl (N.call0 t_spec_l8Values rfl rfl rfl (by decide) (fun w Lp hA => hA.ro hr_Values)) (fun _ _ => (Ent.b (fun q14 => ?_) (fun q14 => ?_)))
    · refine E.y rfl rfl (by decide) ((Y.not (b := true) rfl).yd) ?_
      refine E.y rfl rfl (by decide) ((Y.pkf rfl rfl).yd) ?_
      refine E.nil (E.thn (E.cf rfl (E.skipc (E.thn (E.seq (E.region (l := [0, 1, 2, 3]) rfl (E.y rfl rfl (by decide) ((Y.mv rfl).yd) ?_)))))))
      refine E.y rfl rfl (by decide) (Y.ldS (cs := [_, _, _, _]) ty_Reached rfl (Has.pt m0) rfl) ?_
      refine E.st rfl rfl (N.call (t_spec_l8Open (okReach_len (by assumption)) (okMeths_len (s := s) (by assumption)).1 (okMeths_len (s := s) (by assumption)).2) rfl rfl rfl (by decide) rfl (fun w Lp hA => ⟨hA.ro hl, hA.ro hr_Facts, hA.ro hr_Values, hA.ro hr_Log, i6r_Rounds⟩)) (fun k20 _ => ?_)
      obtain ⟨a20, m20, c20⟩ := k20
      refine Ent.lenow m0 fun e20 l20 => ?_
      subst e20
      refine E.y rfl rfl (by decide) ((Y.as rfl).yd) ?_
      refine E.nil (E.thn (E.ret (Ent.cv (congrArg (ow eAccesss [_]) (show _ = opnR s l r_Values r_Log by grind [opnR, List.drop_eq_getElem_cons, List.drop_eq_nil_of_le, List.take_succ_eq_append_getElem, List.take_of_length_le])) ?_)))
      exact F.r1 (Back.refl _ _) rfl rfl (_, _, _) trivial rfl (J := _) (.refl _) (.inl rfl)
    · refine E.y rfl rfl (by decide) ((Y.not (b := false) rfl).yd) ?_
      refine E.y rfl rfl (by decide) ((Y.pkf rfl rfl).yd) ?_
      refine E.nil (E.thn (E.ct rfl (E.seq (E.region (l := [0, 1]) rfl (E.st rfl rfl (N.bsl (pvs := []) (cs := []) us_Accesss ty_Access rfl (by decide) (by decide) (fillZ rfl rfl) rfl (by decide)) (fun b17 _ => ?_))))))
      refine Ent.drop ?_
      refine E.y rfl rfl (by decide) ((Y.as rfl).yd) ?_
      refine E.nil (E.thn (E.ret (E.thr (Ent.mkow (A := []) (Own.nil (E := eAccess) (e := tAccess) (a := (some ⟨b17, 0, none⟩))) rfl ?_))))
      refine Ent.cv (congrArg (ow eAccesss [_]) (show _ = opnR s l r_Values r_Log by grind [opnR, List.drop_eq_getElem_cons, List.drop_eq_nil_of_le, List.take_succ_eq_append_getElem, List.take_of_length_le])) ?_
      exact F.r1 (Back.refl _ _) rfl rfl ((some ⟨b17, 0, none⟩), 0, 0) trivial rfl (J := _) (.refl _) (.inl rfl)
  · refine E.y rfl rfl (by decide) ((Y.not (b := false) rfl).yd) ?_
    refine E.y rfl rfl (by decide) ((Y.mv rfl).yd) ?_
    refine E.skip rfl rfl rfl ?_
    refine E.skip rfl rfl rfl ?_
    refine E.skip rfl rfl rfl ?_
    refine E.skip rfl rfl rfl ?_
    refine E.y rfl rfl (by decide) ((Y.pkt rfl rfl).yd) ?_
    refine E.nil (E.thn (E.ct rfl (E.seq (E.region (l := [0, 1]) rfl (E.st rfl rfl (N.bsl (pvs := []) (cs := []) us_Accesss ty_Access rfl (by decide) (by decide) (fillZ rfl rfl) rfl (by decide)) (fun b17 _ => ?_))))))
    refine Ent.drop ?_
    refine E.y rfl rfl (by decide) ((Y.as rfl).yd) ?_
    refine E.nil (E.thn (E.ret (E.thr (Ent.mkow (A := []) (Own.nil (E := eAccess) (e := tAccess) (a := (some ⟨b17, 0, none⟩))) rfl ?_))))
    refine Ent.cv (congrArg (ow eAccesss [_]) (show _ = opnR s l r_Values r_Log by grind [opnR, List.drop_eq_getElem_cons, List.drop_eq_nil_of_le, List.take_succ_eq_append_getElem, List.take_of_length_le])) ?_
    exact F.r1 (Back.refl _ _) rfl rfl ((some ⟨b17, 0, none⟩), 0, 0) trivial rfl (J := _) (.refl _) (.inl rfl)
theorem t_laws_markMethodS {a_a : Option Addr} {m_a c_a : Nat} {a : List (Int × List Int × Int × Int × Int)} {v : Int} : Tr Try.prog 55 [.slice a_a m_a c_a, .int .i64 v] (fun w L => 0 ≤ v ∧ v + ((totS cE_Method a : Nat) : Int) ≤ 4611686018427387904) [ow eMethods [.slice a_a m_a c_a] a] (κ := Unit) (fun k => True) (fun k => .int .i64 (v + (totS cE_Method a : Nat))) (fun k => [ow eMethods [.slice a_a m_a c_a] (mkL cE_Method mE_Method a v)]) := by
  refine Tr.intro Try.func55 rfl (n := 48) rfl (by decide +kernel) (Nat.le_of_ble_eq_true rfl) (fr := [(0, .slice a_a m_a c_a), (1, .int .i64 v)]) rfl fun w L hR => ?_
  obtain ⟨as0, as1⟩ := hR
  refine Ent.lenow m0 fun ea la => ?_
  subst ea
  refine E.seq (E.region (l := [0]) rfl (E.y rfl rfl (by decide) ((Y.as rfl).yd) ?_))
  refine E.nil (E.thn (E.seq (E.seq (E.region (l := [0]) rfl (E.y rfl rfl (by decide) ((Y.as rfl).yd) ?_)))))
  refine E.nil (E.thn (E.block (E.loop (κ := Nat) (fun g => g ≤ a.length) (fun g => [(0, .slice a_a a.length c_a), (1, .int .i64 (v + (totS cE_Method (a.take g) : Nat))), (5, .int .i64 (↑g : Int))]) (fun g => [ow eMethods [.slice a_a a.length c_a] (mkL cE_Method mE_Method (a.take g) v ++ a.drop g)]) (fun g => a.length - g) 0 (Nat.zero_le _) ⟨rfl, frI (by simp [totS]), rfl, trivial⟩ (.refl _) (fun g pg => ?_))))
  have u1 := totS_le (t := cE_Method) (l := a) (g := g)
  have u2 := totS_le (t := cE_Method) (l := a) (g := g + 1)
  have hlen : (mkL cE_Method mE_Method (a.take g) v ++ a.drop g).length = a.length := by rw [List.length_append, mkL_len, ← List.length_append, List.take_append_drop]
  refine E.seq (E.seq (E.region (l := [0, 1, 2, 3]) rfl (E.y rfl rfl (by decide) ((Y.mv rfl).yd) ?_)))
  refine E.y rfl rfl (by decide) ((Y.mv rfl).yd) ?_
  refine E.y rfl rfl (by decide) ((Y.len us_Methods rfl).yd) ?_
  refine E.y rfl rfl (by decide) ((Y.lss rfl rfl).yd) (Ent.d (fun q9 => ?_) (fun q9 => ?_))
  · have u3 := totS_step (t := cE_Method) (show g < a.length by omega)
    have u4 : cE_Method a[g] = 1 + totS cE_I a[g].2.1 + 1 + 1 + 1 := rfl
    refine E.nil (E.thn (E.ct rfl (E.skipc (E.thn (E.seq (E.block (E.seq (E.region (l := [0, 1, 2, 3, 4, 5]) rfl (E.y rfl rfl (by decide) ((Y.mv rfl).yd) ?_)))))))))
    refine E.y rfl rfl (by decide) ((Y.mv rfl).yd) ?_
    refine E.y rfl rfl (by decide) ((Y.mv rfl).yd) ?_
    refine Ent.adr m0 (by omega) fun ab15 ae15 => ?_
    refine Ent.open (x := a[g]) g (mk_get (show g < a.length by omega)) fun ce15 => ?_
    refine Ent.p1 ?_
    refine Ent.oMethod fun oa15_1 om15_1 oc15_1 oe15 oi15_0 on15_1 oi15_2 oi15_3 oi15_4 => ?_
    subst oe15
    subst on15_1
    refine E.y rfl rfl (by decide) ((Y.ix us_Methods ty_Method rfl ae15 rfl g rfl (by omega)).yd) ?_
    refine E.y rfl rfl (by decide) ((Y.fld fo_Method_0 ty_I (by decide) rfl).yd) ?_
    refine Ent.p1 ?_
    refine E.st rfl rfl (N.sth (f := 0) (kk := 5) (vs := [_]) (ce' := [_, _, _, _, _]) ty_I rfl rfl rfl rfl rfl ae15 rfl rfl (Nat.le_of_ble_eq_true rfl) rfl rfl) (fun _ _ => ?_)
    refine E.nil (E.thn (E.seq (E.region (l := [0, 1, 2]) rfl (E.y rfl rfl (by decide) ((Y.mv rfl).yd) ?_))))
    refine E.y rfl rfl (by decide) ((Y.add rfl rfl (by omega) (by omega)).yd) ?_
    refine E.y rfl rfl (by decide) ((Y.as rfl).yd) ?_
    refine E.nil (E.thn (E.seq (E.region (l := [0, 1, 2, 3, 4, 5, 6, 7]) rfl (E.y rfl rfl (by decide) ((Y.mv rfl).yd) ?_))))
    refine E.y rfl rfl (by decide) ((Y.mv rfl).yd) ?_
    refine E.y rfl rfl (by decide) ((Y.ix us_Methods ty_Method rfl ae15 rfl g rfl (by omega)).yd) ?_
    refine E.y rfl rfl (by decide) ((Y.fld fo_Method_1 ty_Is (by decide) rfl).yd) ?_
    refine E.y rfl rfl (by decide) (Y.ld1 ty_Is rfl ((Has.hole ae15 m0).sub (cs' := [_]) 1 rfl) rfl) ?_
    refine E.y rfl rfl (by decide) ((Y.mv rfl).yd) ?_
    refine Ent.p1 ?_
    refine E.st rfl rfl (N.call (pre := [_]) t_laws_markIntS rfl rfl rfl (by decide) rfl (fun w Lp hA => ⟨(by first | assumption | omega), (by first | assumption | omega)⟩)) (fun _ _ => ?_)
    refine E.y rfl rfl (by decide) ((Y.as rfl).yd) ?_
    refine E.nil (E.thn (E.seq (E.region (l := [0, 1, 2, 3, 4, 5]) rfl (E.y rfl rfl (by decide) ((Y.mv rfl).yd) ?_))))
    refine E.y rfl rfl (by decide) ((Y.mv rfl).yd) ?_
    refine E.y rfl rfl (by decide) ((Y.mv rfl).yd) ?_
    refine E.y rfl rfl (by decide) ((Y.ix us_Methods ty_Method rfl ae15 rfl g rfl (by omega)).yd) ?_
    refine E.y rfl rfl (by decide) ((Y.fld fo_Method_2 ty_I (by decide) rfl).yd) ?_
    refine Ent.p1 ?_
    refine E.st rfl rfl (N.sth (f := 2) (kk := 5) (vs := [_]) (ce' := [_, _, _, _, _]) ty_I rfl rfl rfl rfl rfl ae15 rfl rfl (Nat.le_of_ble_eq_true rfl) rfl rfl) (fun _ _ => ?_)
    refine E.nil (E.thn (E.seq (E.region (l := [0, 1, 2]) rfl (E.y rfl rfl (by decide) ((Y.mv rfl).yd) ?_))))
    refine E.y rfl rfl (by decide) ((Y.add rfl rfl (by omega) (by omega)).yd) ?_
    refine E.y rfl rfl (by decide) ((Y.as rfl).yd) ?_
    refine E.nil (E.thn (E.seq (E.region (l := [0, 1, 2, 3, 4, 5]) rfl (E.y rfl rfl (by decide) ((Y.mv rfl).yd) ?_))))
    refine E.y rfl rfl (by decide) ((Y.mv rfl).yd) ?_
    refine E.y rfl rfl (by decide) ((Y.mv rfl).yd) ?_
    refine E.y rfl rfl (by decide) ((Y.ix us_Methods ty_Method rfl ae15 rfl g rfl (by omega)).yd) ?_
    refine E.y rfl rfl (by decide) ((Y.fld fo_Method_3 ty_I (by decide) rfl).yd) ?_
    refine E.st rfl rfl (N.sth (f := 3) (kk := 5) (vs := [_]) (ce' := [_, _, _, _, _]) ty_I rfl rfl rfl rfl rfl ae15 rfl rfl (Nat.le_of_ble_eq_true rfl) rfl rfl) (fun _ _ => ?_)
    refine E.nil (E.thn (E.seq (E.region (l := [0, 1, 2]) rfl (E.y rfl rfl (by decide) ((Y.mv rfl).yd) ?_))))
    refine E.y rfl rfl (by decide) ((Y.add rfl rfl (by omega) (by omega)).yd) ?_
    refine E.y rfl rfl (by decide) ((Y.as rfl).yd) ?_
    refine E.nil (E.thn (E.seq (E.region (l := [0, 1, 2, 3, 4, 5]) rfl (E.y rfl rfl (by decide) ((Y.mv rfl).yd) ?_))))
    refine E.y rfl rfl (by decide) ((Y.mv rfl).yd) ?_
    refine E.y rfl rfl (by decide) ((Y.mv rfl).yd) ?_
    refine E.y rfl rfl (by decide) ((Y.ix us_Methods ty_Method rfl ae15 rfl g rfl (by omega)).yd) ?_
    refine E.y rfl rfl (by decide) ((Y.fld fo_Method_4 ty_I (by decide) rfl).yd) ?_
    refine E.st rfl rfl (N.sth (f := 4) (kk := 5) (vs := [_]) (ce' := [_, _, _, _, _]) ty_I rfl rfl rfl rfl rfl ae15 rfl rfl (Nat.le_of_ble_eq_true rfl) rfl rfl) (fun _ _ => ?_)
    refine E.nil (E.thn (E.region (l := [0, 1, 2]) rfl (E.y rfl rfl (by decide) ((Y.mv rfl).yd) ?_)))
    refine E.y rfl rfl (by decide) ((Y.add rfl rfl (by omega) (by omega)).yd) ?_
    refine E.y rfl rfl (by decide) ((Y.as rfl).yd) ?_
    refine E.nil (E.bln (E.thn (E.region (l := [0, 1, 2]) rfl (E.y rfl rfl (by decide) ((Y.mv rfl).yd) ?_))))
    refine E.y rfl rfl (by decide) ((Y.add rfl rfl (by omega) (by omega)).yd) ?_
    refine E.y rfl rfl (by decide) ((Y.as rfl).yd) ?_
    refine E.nil (E.thn (Ent.p1 ?_))
    refine Ent.p1 ?_
    refine Ent.shut (Own.mkMethod (x := (v + (totS cE_Method (a.take g) : Nat), mkL cE_I mE_I a[g].2.1 (v + (totS cE_Method (a.take g) : Nat) + 1), (v + (totS cE_Method (a.take g) : Nat) + 1) + (totS cE_I a[g].2.1 : Nat), ((v + (totS cE_Method (a.take g) : Nat) + 1) + (totS cE_I a[g].2.1 : Nat) + 1), (((v + (totS cE_Method (a.take g) : Nat) + 1) + (totS cE_I a[g].2.1 : Nat) + 1) + 1))) (by first | assumption | (unfold I64; (try dsimp only); omega) | grind) Own.ow (by first | assumption | (unfold I64; (try dsimp only); omega) | grind) (by first | assumption | (unfold I64; (try dsimp only); omega) | grind) (by first | assumption | (unfold I64; (try dsimp only); omega) | grind)) rfl ?_
    exact E.again (Back.refl _ _) (g + 1) ⟨rfl, frI (by omega), rfl, trivial⟩ (permOw (mk_set (c := cE_Method) (m := mE_Method) (show g < a.length by omega) rfl)) (by omega) (by omega)
  · refine E.nil (E.thn (E.cf rfl (E.exit (E.the (E.the (E.blh (E.thn (E.seq (E.region (l := [0, 1]) rfl (E.y rfl rfl (by decide) ((Y.mv rfl).yd) ?_))))))))))
    refine E.y rfl rfl (by decide) ((Y.as rfl).yd) ?_
    refine E.nil (E.thn (E.ret (Ent.cv (congrArg (ow eMethods [_]) (show mkL cE_Method mE_Method (a.take g) v ++ a.drop g = mkL cE_Method mE_Method a v from by first | exact mk_all (by omega) | (rw [totS_all (by omega)]))) ?_)))
    exact F.r1 (Back.refl _ _) rfl rfl () trivial (by rw [show (v + (totS cE_Method a : Nat)) = (v + (totS cE_Method (a.take g) : Nat)) from (by first | exact mk_all (by omega) | (rw [totS_all (by omega)]))]; try rfl) (J := _) (.refl _) (.inl rfl)
theorem t_laws_markAccessS {a_a : Option Addr} {m_a c_a : Nat} {a : List (Int × List Int)} {v : Int} : Tr Try.prog 57 [.slice a_a m_a c_a, .int .i64 v] (fun w L => 0 ≤ v ∧ v + ((totS cE_Access a : Nat) : Int) ≤ 4611686018427387904) [ow eAccesss [.slice a_a m_a c_a] a] (κ := Unit) (fun k => True) (fun k => .int .i64 (v + (totS cE_Access a : Nat))) (fun k => [ow eAccesss [.slice a_a m_a c_a] (mkL cE_Access mE_Access a v)]) := by
  refine Tr.intro Try.func57 rfl (n := 27) rfl (by decide +kernel) (Nat.le_of_ble_eq_true rfl) (fr := [(0, .slice a_a m_a c_a), (1, .int .i64 v)]) rfl fun w L hR => ?_
  obtain ⟨as0, as1⟩ := hR
  refine Ent.lenow m0 fun ea la => ?_
  subst ea
  refine E.seq (E.region (l := [0]) rfl (E.y rfl rfl (by decide) ((Y.as rfl).yd) ?_))
  refine E.nil (E.thn (E.seq (E.seq (E.region (l := [0]) rfl (E.y rfl rfl (by decide) ((Y.as rfl).yd) ?_)))))
  refine E.nil (E.thn (E.block (E.loop (κ := Nat) (fun g => g ≤ a.length) (fun g => [(0, .slice a_a a.length c_a), (1, .int .i64 (v + (totS cE_Access (a.take g) : Nat))), (5, .int .i64 (↑g : Int))]) (fun g => [ow eAccesss [.slice a_a a.length c_a] (mkL cE_Access mE_Access (a.take g) v ++ a.drop g)]) (fun g => a.length - g) 0 (Nat.zero_le _) ⟨rfl, frI (by simp [totS]), rfl, trivial⟩ (.refl _) (fun g pg => ?_))))
  have u1 := totS_le (t := cE_Access) (l := a) (g := g)
  have u2 := totS_le (t := cE_Access) (l := a) (g := g + 1)
  have hlen : (mkL cE_Access mE_Access (a.take g) v ++ a.drop g).length = a.length := by rw [List.length_append, mkL_len, ← List.length_append, List.take_append_drop]
  refine E.seq (E.seq (E.region (l := [0, 1, 2, 3]) rfl (E.y rfl rfl (by decide) ((Y.mv rfl).yd) ?_)))
  refine E.y rfl rfl (by decide) ((Y.mv rfl).yd) ?_
  refine E.y rfl rfl (by decide) ((Y.len us_Accesss rfl).yd) ?_
  refine E.y rfl rfl (by decide) ((Y.lss rfl rfl).yd) (Ent.d (fun q9 => ?_) (fun q9 => ?_))
  · have u3 := totS_step (t := cE_Access) (show g < a.length by omega)
    have u4 : cE_Access a[g] = 1 + totS cE_I a[g].2 := rfl
    refine E.nil (E.thn (E.ct rfl (E.skipc (E.thn (E.seq (E.block (E.seq (E.region (l := [0, 1, 2, 3, 4, 5]) rfl (E.y rfl rfl (by decide) ((Y.mv rfl).yd) ?_)))))))))
    refine E.y rfl rfl (by decide) ((Y.mv rfl).yd) ?_
    refine E.y rfl rfl (by decide) ((Y.mv rfl).yd) ?_
    refine Ent.adr m0 (by omega) fun ab15 ae15 => ?_
    refine Ent.open (x := a[g]) g (mk_get (show g < a.length by omega)) fun ce15 => ?_
    refine Ent.p1 ?_
    refine Ent.oAccess fun oa15_1 om15_1 oc15_1 oe15 oi15_0 on15_1 => ?_
    subst oe15
    subst on15_1
    refine E.y rfl rfl (by decide) ((Y.ix us_Accesss ty_Access rfl ae15 rfl g rfl (by omega)).yd) ?_
    refine E.y rfl rfl (by decide) ((Y.fld fo_Access_0 ty_I (by decide) rfl).yd) ?_
    refine Ent.p1 ?_
    refine E.st rfl rfl (N.sth (f := 0) (kk := 2) (vs := [_]) (ce' := [_, _]) ty_I rfl rfl rfl rfl rfl ae15 rfl rfl (Nat.le_of_ble_eq_true rfl) rfl rfl) (fun _ _ => ?_)
    refine E.nil (E.thn (E.seq (E.region (l := [0, 1, 2]) rfl (E.y rfl rfl (by decide) ((Y.mv rfl).yd) ?_))))
    refine E.y rfl rfl (by decide) ((Y.add rfl rfl (by omega) (by omega)).yd) ?_
    refine E.y rfl rfl (by decide) ((Y.as rfl).yd) ?_
    refine E.nil (E.thn (E.region (l := [0, 1, 2, 3, 4, 5, 6, 7]) rfl (E.y rfl rfl (by decide) ((Y.mv rfl).yd) ?_)))
    refine E.y rfl rfl (by decide) ((Y.mv rfl).yd) ?_
    refine E.y rfl rfl (by decide) ((Y.ix us_Accesss ty_Access rfl ae15 rfl g rfl (by omega)).yd) ?_
    refine E.y rfl rfl (by decide) ((Y.fld fo_Access_1 ty_Is (by decide) rfl).yd) ?_
    refine E.y rfl rfl (by decide) (Y.ld1 ty_Is rfl ((Has.hole ae15 m0).sub (cs' := [_]) 1 rfl) rfl) ?_
    refine E.y rfl rfl (by decide) ((Y.mv rfl).yd) ?_
    refine Ent.p1 ?_
    refine E.st rfl rfl (N.call (pre := [_]) t_laws_markIntS rfl rfl rfl (by decide) rfl (fun w Lp hA => ⟨(by first | assumption | omega), (by first | assumption | omega)⟩)) (fun _ _ => ?_)
    refine E.y rfl rfl (by decide) ((Y.as rfl).yd) ?_
    refine E.nil (E.bln (E.thn (E.region (l := [0, 1, 2]) rfl (E.y rfl rfl (by decide) ((Y.mv rfl).yd) ?_))))
    refine E.y rfl rfl (by decide) ((Y.add rfl rfl (by omega) (by omega)).yd) ?_
    refine E.y rfl rfl (by decide) ((Y.as rfl).yd) ?_
    refine E.nil (E.thn (Ent.p1 ?_))
    refine Ent.shut (Own.mkAccess (x := (v + (totS cE_Access (a.take g) : Nat), mkL cE_I mE_I a[g].2 (v + (totS cE_Access (a.take g) : Nat) + 1))) (by first | assumption | (unfold I64; (try dsimp only); omega) | grind) Own.ow) rfl ?_
    exact E.again (Back.refl _ _) (g + 1) ⟨rfl, frI (by omega), rfl, trivial⟩ (permOw (mk_set (c := cE_Access) (m := mE_Access) (show g < a.length by omega) rfl)) (by omega) (by omega)
  · refine E.nil (E.thn (E.cf rfl (E.exit (E.the (E.the (E.blh (E.thn (E.seq (E.region (l := [0, 1]) rfl (E.y rfl rfl (by decide) ((Y.mv rfl).yd) ?_))))))))))
    refine E.y rfl rfl (by decide) ((Y.as rfl).yd) ?_
    refine E.nil (E.thn (E.ret (Ent.cv (congrArg (ow eAccesss [_]) (show mkL cE_Access mE_Access (a.take g) v ++ a.drop g = mkL cE_Access mE_Access a v from by first | exact mk_all (by omega) | (rw [totS_all (by omega)]))) ?_)))
    exact F.r1 (Back.refl _ _) rfl rfl () trivial (by rw [show (v + (totS cE_Access a : Nat)) = (v + (totS cE_Access (a.take g) : Nat)) from (by first | exact mk_all (by omega) | (rw [totS_all (by omega)]))]; try rfl) (J := _) (.refl _) (.inl rfl)
theorem t_laws_heldAccessS {a_a : Option Addr} {m_a c_a : Nat} {a : List (Int × List Int)} {v : Int} (hz : mkL cE_Access mE_Access a v = a) : Tr Try.prog 58 [.slice a_a m_a c_a, .int .i64 v] (fun w L => Ro w L eAccesss [.slice a_a m_a c_a] a ∧ 0 ≤ v ∧ v + ((totS cE_Access a : Nat) : Int) ≤ 4611686018427387904) [] (κ := Unit) (fun k => True) (fun k => .int .i64 (v + (totS cE_Access a : Nat))) (fun k => []) := by
  refine Tr.intro Try.func58 rfl (n := 31) rfl (by decide +kernel) (Nat.le_of_ble_eq_true rfl) (fr := [(0, .slice a_a m_a c_a), (1, .int .i64 v)]) rfl fun w L hR => ?_
  obtain ⟨ha, as0, as1⟩ := hR
  obtain ⟨rfl, la⟩ := ha.slen
  refine E.seq (E.region (l := [0]) rfl (E.y rfl rfl (by decide) ((Y.as rfl).yd) ?_))
  refine E.nil (E.thn (E.seq (E.seq (E.region (l := [0]) rfl (E.y rfl rfl (by decide) ((Y.as rfl).yd) ?_)))))
  refine E.nil (E.thn (E.block (E.loop (κ := Nat) (fun g => g ≤ a.length) (fun g => [(0, .slice a_a a.length c_a), (1, .int .i64 (v + (totS cE_Access (a.take g) : Nat))), (5, .int .i64 (↑g : Int))]) (fun g => []) (fun g => a.length - g) 0 (Nat.zero_le _) ⟨rfl, frI (by simp [totS]), rfl, trivial⟩ (.refl _) (fun g pg => ?_))))
  have u1 := totS_le (t := cE_Access) (l := a) (g := g)
  have u2 := totS_le (t := cE_Access) (l := a) (g := g + 1)
  refine E.seq (E.seq (E.region (l := [0, 1, 2, 3]) rfl (E.y rfl rfl (by decide) ((Y.mv rfl).yd) ?_)))
  refine E.y rfl rfl (by decide) ((Y.mv rfl).yd) ?_
  refine E.y rfl rfl (by decide) ((Y.len us_Accesss rfl).yd) ?_
  refine E.y rfl rfl (by decide) ((Y.lss rfl rfl).yd) (Ent.d (fun q9 => ?_) (fun q9 => ?_))
  · have u3 := totS_step (t := cE_Access) (show g < a.length by omega)
    have u4 : cE_Access a[g] = 1 + totS cE_I a[g].2 := rfl
    refine E.nil (E.thn (E.ct rfl (E.skipc (E.thn (E.seq (E.block (E.seq (E.seq (E.region (l := [0, 1, 2, 3, 4, 5, 6]) rfl (E.y rfl rfl (by decide) ((Y.mv rfl).yd) ?_))))))))))
    refine E.y rfl rfl (by decide) ((Y.mv rfl).yd) ?_
    obtain ⟨eb14, eo14, ec14, ea14, er14, el14, eh14⟩ := ha.elem g (by omega)
    obtain ⟨xa14_0, xc14_0, rfl, ei14_0, xh14_0⟩ := Ro.pAccess er14
    have := xh14_0.slen.2
    refine E.y rfl rfl (by decide) ((Y.ix us_Accesss ty_Access rfl ea14 rfl g rfl (by omega)).yd) ?_
    refine E.y rfl rfl (by decide) ((Y.fld fo_Access_0 ty_I (by decide) rfl).yd) ?_
    refine E.y rfl rfl (by decide) (Y.ld1 ty_I rfl ((eh14 _).sub (cs' := [_]) 0 rfl) rfl) ?_
    refine E.y rfl rfl (by decide) ((Y.mv rfl).yd) ?_
    refine E.y rfl rfl (by decide) ((Y.neq rfl rfl).yd) (Ent.d (fun q18 => ?_) (fun q18 => ?_))
    · exact absurd (congrArg (fun z => z.1) (mkL_at hz (show g < a.length by omega))).symm q18
    · refine E.nil (E.thn (E.cf rfl (E.skipc (E.thn (E.seq (E.region (l := [0, 1, 2]) rfl (E.y rfl rfl (by decide) ((Y.mv rfl).yd) ?_)))))))
      refine E.y rfl rfl (by decide) ((Y.add rfl rfl (by omega) (by omega)).yd) ?_
      refine E.y rfl rfl (by decide) ((Y.as rfl).yd) ?_
      refine E.nil (E.thn (E.seq (E.region (l := [0, 1, 2, 3, 4, 5, 6, 7]) rfl (E.y rfl rfl (by decide) ((Y.mv rfl).yd) ?_))))
      refine E.y rfl rfl (by decide) ((Y.mv rfl).yd) ?_
      refine E.y rfl rfl (by decide) ((Y.ix us_Accesss ty_Access rfl ea14 rfl g rfl (by omega)).yd) ?_
      refine E.y rfl rfl (by decide) ((Y.fld fo_Access_1 ty_Is (by decide) rfl).yd) ?_
      refine E.y rfl rfl (by decide) (Y.ld1 ty_Is rfl ((eh14 _).sub (cs' := [_]) 1 rfl) rfl) ?_
      refine E.y rfl rfl (by decide) ((Y.mv rfl).yd) ?_
      refine E.st rfl rfl (N.call0 (t_laws_heldIntS (congrArg (fun z => z.2) (mkL_at hz (show g < a.length by omega)))) rfl rfl rfl (by decide) (fun w Lp hA => ⟨hA.ro xh14_0, (by first | assumption | omega), (by first | assumption | omega)⟩)) (fun _ _ => ?_)
      refine E.y rfl rfl (by decide) ((Y.as rfl).yd) ?_
      refine E.nil (E.thn (E.seq (E.region (l := [0, 1]) rfl (E.y rfl rfl (by decide) ((Y.mv rfl).yd) ?_))))
      refine E.y rfl rfl (by decide) ((Y.lss rfl rfl).yd) (Ent.d (fun q29 => ?_) (fun q29 => ?_))
      · exact absurd q29 (by omega)
      · refine E.nil (E.thn (E.cf rfl (E.skipc (E.bln (E.thn (E.region (l := [0, 1, 2]) rfl (E.y rfl rfl (by decide) ((Y.mv rfl).yd) ?_)))))))
        refine E.y rfl rfl (by decide) ((Y.add rfl rfl (by omega) (by omega)).yd) ?_
        refine E.y rfl rfl (by decide) ((Y.as rfl).yd) ?_
        exact E.nil (E.thn (E.again (Back.refl _ _) (g + 1) ⟨rfl, frI (by omega), rfl, trivial⟩ (.refl _) (by omega) (by omega)))
  · refine E.nil (E.thn (E.cf rfl (E.exit (E.the (E.the (E.blh (E.thn (E.seq (E.region (l := [0, 1]) rfl (E.y rfl rfl (by decide) ((Y.mv rfl).yd) ?_))))))))))
    refine E.y rfl rfl (by decide) ((Y.as rfl).yd) ?_
    exact E.nil (E.thn (E.ret (F.r1 (Back.refl _ _) rfl rfl () trivial (congrArg (Value.int .i64) (by rw [totS_all (by omega)])) (J := _) (.refl _) (.inl rfl))))
theorem t_laws_markFactS {a_a : Option Addr} {m_a c_a : Nat} {a : List (Int × List Int)} {v : Int} : Tr Try.prog 46 [.slice a_a m_a c_a, .int .i64 v] (fun w L => 0 ≤ v ∧ v + ((totS cE_Fact a : Nat) : Int) ≤ 4611686018427387904) [ow eFacts [.slice a_a m_a c_a] a] (κ := Unit) (fun k => True) (fun k => .int .i64 (v + (totS cE_Fact a : Nat))) (fun k => [ow eFacts [.slice a_a m_a c_a] (mkL cE_Fact mE_Fact a v)]) := by
  refine Tr.intro Try.func46 rfl (n := 27) rfl (by decide +kernel) (Nat.le_of_ble_eq_true rfl) (fr := [(0, .slice a_a m_a c_a), (1, .int .i64 v)]) rfl fun w L hR => ?_
  obtain ⟨as0, as1⟩ := hR
  refine Ent.lenow m0 fun ea la => ?_
  subst ea
  refine E.seq (E.region (l := [0]) rfl (E.y rfl rfl (by decide) ((Y.as rfl).yd) ?_))
  refine E.nil (E.thn (E.seq (E.seq (E.region (l := [0]) rfl (E.y rfl rfl (by decide) ((Y.as rfl).yd) ?_)))))
  refine E.nil (E.thn (E.block (E.loop (κ := Nat) (fun g => g ≤ a.length) (fun g => [(0, .slice a_a a.length c_a), (1, .int .i64 (v + (totS cE_Fact (a.take g) : Nat))), (5, .int .i64 (↑g : Int))]) (fun g => [ow eFacts [.slice a_a a.length c_a] (mkL cE_Fact mE_Fact (a.take g) v ++ a.drop g)]) (fun g => a.length - g) 0 (Nat.zero_le _) ⟨rfl, frI (by simp [totS]), rfl, trivial⟩ (.refl _) (fun g pg => ?_))))
  have u1 := totS_le (t := cE_Fact) (l := a) (g := g)
  have u2 := totS_le (t := cE_Fact) (l := a) (g := g + 1)
  have hlen : (mkL cE_Fact mE_Fact (a.take g) v ++ a.drop g).length = a.length := by rw [List.length_append, mkL_len, ← List.length_append, List.take_append_drop]
  refine E.seq (E.seq (E.region (l := [0, 1, 2, 3]) rfl (E.y rfl rfl (by decide) ((Y.mv rfl).yd) ?_)))
  refine E.y rfl rfl (by decide) ((Y.mv rfl).yd) ?_
  refine E.y rfl rfl (by decide) ((Y.len us_Facts rfl).yd) ?_
  refine E.y rfl rfl (by decide) ((Y.lss rfl rfl).yd) (Ent.d (fun q9 => ?_) (fun q9 => ?_))
  · have u3 := totS_step (t := cE_Fact) (show g < a.length by omega)
    have u4 : cE_Fact a[g] = 1 + totS cE_I a[g].2 := rfl
    refine E.nil (E.thn (E.ct rfl (E.skipc (E.thn (E.seq (E.block (E.seq (E.region (l := [0, 1, 2, 3, 4, 5]) rfl (E.y rfl rfl (by decide) ((Y.mv rfl).yd) ?_)))))))))
    refine E.y rfl rfl (by decide) ((Y.mv rfl).yd) ?_
    refine E.y rfl rfl (by decide) ((Y.mv rfl).yd) ?_
    refine Ent.adr m0 (by omega) fun ab15 ae15 => ?_
    refine Ent.open (x := a[g]) g (mk_get (show g < a.length by omega)) fun ce15 => ?_
    refine Ent.p1 ?_
    refine Ent.oFact fun oa15_1 om15_1 oc15_1 oe15 oi15_0 on15_1 => ?_
    subst oe15
    subst on15_1
    refine E.y rfl rfl (by decide) ((Y.ix us_Facts ty_Fact rfl ae15 rfl g rfl (by omega)).yd) ?_
    refine E.y rfl rfl (by decide) ((Y.fld fo_Fact_0 ty_I (by decide) rfl).yd) ?_
    refine Ent.p1 ?_
    refine E.st rfl rfl (N.sth (f := 0) (kk := 2) (vs := [_]) (ce' := [_, _]) ty_I rfl rfl rfl rfl rfl ae15 rfl rfl (Nat.le_of_ble_eq_true rfl) rfl rfl) (fun _ _ => ?_)
    refine E.nil (E.thn (E.seq (E.region (l := [0, 1, 2]) rfl (E.y rfl rfl (by decide) ((Y.mv rfl).yd) ?_))))
    refine E.y rfl rfl (by decide) ((Y.add rfl rfl (by omega) (by omega)).yd) ?_
    refine E.y rfl rfl (by decide) ((Y.as rfl).yd) ?_
    refine E.nil (E.thn (E.region (l := [0, 1, 2, 3, 4, 5, 6, 7]) rfl (E.y rfl rfl (by decide) ((Y.mv rfl).yd) ?_)))
    refine E.y rfl rfl (by decide) ((Y.mv rfl).yd) ?_
    refine E.y rfl rfl (by decide) ((Y.ix us_Facts ty_Fact rfl ae15 rfl g rfl (by omega)).yd) ?_
    refine E.y rfl rfl (by decide) ((Y.fld fo_Fact_1 ty_Is (by decide) rfl).yd) ?_
    refine E.y rfl rfl (by decide) (Y.ld1 ty_Is rfl ((Has.hole ae15 m0).sub (cs' := [_]) 1 rfl) rfl) ?_
    refine E.y rfl rfl (by decide) ((Y.mv rfl).yd) ?_
    refine Ent.p1 ?_
    refine E.st rfl rfl (N.call (pre := [_]) t_laws_markIntS rfl rfl rfl (by decide) rfl (fun w Lp hA => ⟨(by first | assumption | omega), (by first | assumption | omega)⟩)) (fun _ _ => ?_)
    refine E.y rfl rfl (by decide) ((Y.as rfl).yd) ?_
    refine E.nil (E.bln (E.thn (E.region (l := [0, 1, 2]) rfl (E.y rfl rfl (by decide) ((Y.mv rfl).yd) ?_))))
    refine E.y rfl rfl (by decide) ((Y.add rfl rfl (by omega) (by omega)).yd) ?_
    refine E.y rfl rfl (by decide) ((Y.as rfl).yd) ?_
    refine E.nil (E.thn (Ent.p1 ?_))
    refine Ent.shut (Own.mkFact (x := (v + (totS cE_Fact (a.take g) : Nat), mkL cE_I mE_I a[g].2 (v + (totS cE_Fact (a.take g) : Nat) + 1))) (by first | assumption | (unfold I64; (try dsimp only); omega) | grind) Own.ow) rfl ?_
    exact E.again (Back.refl _ _) (g + 1) ⟨rfl, frI (by omega), rfl, trivial⟩ (permOw (mk_set (c := cE_Fact) (m := mE_Fact) (show g < a.length by omega) rfl)) (by omega) (by omega)
  · refine E.nil (E.thn (E.cf rfl (E.exit (E.the (E.the (E.blh (E.thn (E.seq (E.region (l := [0, 1]) rfl (E.y rfl rfl (by decide) ((Y.mv rfl).yd) ?_))))))))))
    refine E.y rfl rfl (by decide) ((Y.as rfl).yd) ?_
    refine E.nil (E.thn (E.ret (Ent.cv (congrArg (ow eFacts [_]) (show mkL cE_Fact mE_Fact (a.take g) v ++ a.drop g = mkL cE_Fact mE_Fact a v from by first | exact mk_all (by omega) | (rw [totS_all (by omega)]))) ?_)))
    exact F.r1 (Back.refl _ _) rfl rfl () trivial (by rw [show (v + (totS cE_Fact a : Nat)) = (v + (totS cE_Fact (a.take g) : Nat)) from (by first | exact mk_all (by omega) | (rw [totS_all (by omega)]))]; try rfl) (J := _) (.refl _) (.inl rfl)
theorem t_laws_heldFactS {a_a : Option Addr} {m_a c_a : Nat} {a : List (Int × List Int)} {v : Int} (hz : mkL cE_Fact mE_Fact a v = a) : Tr Try.prog 63 [.slice a_a m_a c_a, .int .i64 v] (fun w L => Ro w L eFacts [.slice a_a m_a c_a] a ∧ 0 ≤ v ∧ v + ((totS cE_Fact a : Nat) : Int) ≤ 4611686018427387904) [] (κ := Unit) (fun k => True) (fun k => .int .i64 (v + (totS cE_Fact a : Nat))) (fun k => []) := by
  refine Tr.intro Try.func63 rfl (n := 31) rfl (by decide +kernel) (Nat.le_of_ble_eq_true rfl) (fr := [(0, .slice a_a m_a c_a), (1, .int .i64 v)]) rfl fun w L hR => ?_
  obtain ⟨ha, as0, as1⟩ := hR
  obtain ⟨rfl, la⟩ := ha.slen
  refine E.seq (E.region (l := [0]) rfl (E.y rfl rfl (by decide) ((Y.as rfl).yd) ?_))
  refine E.nil (E.thn (E.seq (E.seq (E.region (l := [0]) rfl (E.y rfl rfl (by decide) ((Y.as rfl).yd) ?_)))))
  refine E.nil (E.thn (E.block (E.loop (κ := Nat) (fun g => g ≤ a.length) (fun g => [(0, .slice a_a a.length c_a), (1, .int .i64 (v + (totS cE_Fact (a.take g) : Nat))), (5, .int .i64 (↑g : Int))]) (fun g => []) (fun g => a.length - g) 0 (Nat.zero_le _) ⟨rfl, frI (by simp [totS]), rfl, trivial⟩ (.refl _) (fun g pg => ?_))))
  have u1 := totS_le (t := cE_Fact) (l := a) (g := g)
  have u2 := totS_le (t := cE_Fact) (l := a) (g := g + 1)
  refine E.seq (E.seq (E.region (l := [0, 1, 2, 3]) rfl (E.y rfl rfl (by decide) ((Y.mv rfl).yd) ?_)))
  refine E.y rfl rfl (by decide) ((Y.mv rfl).yd) ?_
  refine E.y rfl rfl (by decide) ((Y.len us_Facts rfl).yd) ?_
  refine E.y rfl rfl (by decide) ((Y.lss rfl rfl).yd) (Ent.d (fun q9 => ?_) (fun q9 => ?_))
  · have u3 := totS_step (t := cE_Fact) (show g < a.length by omega)
    have u4 : cE_Fact a[g] = 1 + totS cE_I a[g].2 := rfl
    refine E.nil (E.thn (E.ct rfl (E.skipc (E.thn (E.seq (E.block (E.seq (E.seq (E.region (l := [0, 1, 2, 3, 4, 5, 6]) rfl (E.y rfl rfl (by decide) ((Y.mv rfl).yd) ?_))))))))))
    refine E.y rfl rfl (by decide) ((Y.mv rfl).yd) ?_
    obtain ⟨eb14, eo14, ec14, ea14, er14, el14, eh14⟩ := ha.elem g (by omega)
    obtain ⟨xa14_0, xc14_0, rfl, ei14_0, xh14_0⟩ := Ro.pFact er14
    have := xh14_0.slen.2
    refine E.y rfl rfl (by decide) ((Y.ix us_Facts ty_Fact rfl ea14 rfl g rfl (by omega)).yd) ?_
    refine E.y rfl rfl (by decide) ((Y.fld fo_Fact_0 ty_I (by decide) rfl).yd) ?_
    refine E.y rfl rfl (by decide) (Y.ld1 ty_I rfl ((eh14 _).sub (cs' := [_]) 0 rfl) rfl) ?_
    refine E.y rfl rfl (by decide) ((Y.mv rfl).yd) ?_
    refine E.y rfl rfl (by decide) ((Y.neq rfl rfl).yd) (Ent.d (fun q18 => ?_) (fun q18 => ?_))
    · exact absurd (congrArg (fun z => z.1) (mkL_at hz (show g < a.length by omega))).symm q18
    · refine E.nil (E.thn (E.cf rfl (E.skipc (E.thn (E.seq (E.region (l := [0, 1, 2]) rfl (E.y rfl rfl (by decide) ((Y.mv rfl).yd) ?_)))))))
      refine E.y rfl rfl (by decide) ((Y.add rfl rfl (by omega) (by omega)).yd) ?_
      refine E.y rfl rfl (by decide) ((Y.as rfl).yd) ?_
      refine E.nil (E.thn (E.seq (E.region (l := [0, 1, 2, 3, 4, 5, 6, 7]) rfl (E.y rfl rfl (by decide) ((Y.mv rfl).yd) ?_))))
      refine E.y rfl rfl (by decide) ((Y.mv rfl).yd) ?_
      refine E.y rfl rfl (by decide) ((Y.ix us_Facts ty_Fact rfl ea14 rfl g rfl (by omega)).yd) ?_
      refine E.y rfl rfl (by decide) ((Y.fld fo_Fact_1 ty_Is (by decide) rfl).yd) ?_
      refine E.y rfl rfl (by decide) (Y.ld1 ty_Is rfl ((eh14 _).sub (cs' := [_]) 1 rfl) rfl) ?_
      refine E.y rfl rfl (by decide) ((Y.mv rfl).yd) ?_
      refine E.st rfl rfl (N.call0 (t_laws_heldIntS (congrArg (fun z => z.2) (mkL_at hz (show g < a.length by omega)))) rfl rfl rfl (by decide) (fun w Lp hA => ⟨hA.ro xh14_0, (by first | assumption | omega), (by first | assumption | omega)⟩)) (fun _ _ => ?_)
      refine E.y rfl rfl (by decide) ((Y.as rfl).yd) ?_
      refine E.nil (E.thn (E.seq (E.region (l := [0, 1]) rfl (E.y rfl rfl (by decide) ((Y.mv rfl).yd) ?_))))
      refine E.y rfl rfl (by decide) ((Y.lss rfl rfl).yd) (Ent.d (fun q29 => ?_) (fun q29 => ?_))
      · exact absurd q29 (by omega)
      · refine E.nil (E.thn (E.cf rfl (E.skipc (E.bln (E.thn (E.region (l := [0, 1, 2]) rfl (E.y rfl rfl (by decide) ((Y.mv rfl).yd) ?_)))))))
        refine E.y rfl rfl (by decide) ((Y.add rfl rfl (by omega) (by omega)).yd) ?_
        refine E.y rfl rfl (by decide) ((Y.as rfl).yd) ?_
        exact E.nil (E.thn (E.again (Back.refl _ _) (g + 1) ⟨rfl, frI (by omega), rfl, trivial⟩ (.refl _) (by omega) (by omega)))
  · refine E.nil (E.thn (E.cf rfl (E.exit (E.the (E.the (E.blh (E.thn (E.seq (E.region (l := [0, 1]) rfl (E.y rfl rfl (by decide) ((Y.mv rfl).yd) ?_))))))))))
    refine E.y rfl rfl (by decide) ((Y.as rfl).yd) ?_
    exact E.nil (E.thn (E.ret (F.r1 (Back.refl _ _) rfl rfl () trivial (congrArg (Value.int .i64) (by rw [totS_all (by omega)])) (J := _) (.refl _) (.inl rfl))))
theorem t_laws_markReached {a_a_Facts : Option Addr} {m_a_Facts c_a_Facts : Nat} {a_Facts : List (Int × List Int)} {a_a_Values : Option Addr} {m_a_Values c_a_Values : Nat} {a_Values : List Int} {a_a_Log : Option Addr} {m_a_Log c_a_Log : Nat} {a_Log : List (Int × List Int)} {a_Rounds : Int} {v : Int} : Tr Try.prog 56 [.agg #[.slice a_a_Facts m_a_Facts c_a_Facts, .slice a_a_Values m_a_Values c_a_Values, .slice a_a_Log m_a_Log c_a_Log, .int .i64 a_Rounds], .int .i64 v] (fun w L => I64 a_Rounds ∧ 0 ≤ v ∧ v + ((totS cE_Fact a_Facts + totS cE_I a_Values + totS cE_Access a_Log : Nat) : Int) ≤ 4611686018427387904) [ow eFacts [.slice a_a_Facts m_a_Facts c_a_Facts] a_Facts, ow eIs [.slice a_a_Values m_a_Values c_a_Values] a_Values, ow eAccesss [.slice a_a_Log m_a_Log c_a_Log] a_Log] (κ := Unit) (fun k => True) (fun k => .int .i64 (v + ((totS cE_Fact a_Facts + totS cE_I a_Values + totS cE_Access a_Log : Nat) : Int))) (fun k => [ow eFacts [.slice a_a_Facts m_a_Facts c_a_Facts] (mkL cE_Fact mE_Fact a_Facts v), ow eIs [.slice a_a_Values m_a_Values c_a_Values] (mkL cE_I mE_I a_Values (v + ((totS cE_Fact a_Facts : Nat) : Int))), ow eAccesss [.slice a_a_Log m_a_Log c_a_Log] (mkL cE_Access mE_Access a_Log (v + ((totS cE_Fact a_Facts : Nat) : Int) + ((totS cE_I a_Values : Nat) : Int)))]) := by
  refine Tr.intro Try.func56 rfl (n := 18) rfl (by decide +kernel) (Nat.le_of_ble_eq_true rfl) (fr := [(0, .agg #[.slice a_a_Facts m_a_Facts c_a_Facts, .slice a_a_Values m_a_Values c_a_Values, .slice a_a_Log m_a_Log c_a_Log, .int .i64 a_Rounds]), (1, .int .i64 v)]) rfl fun w L hR => ?_
  obtain ⟨i6a_Rounds, as0, as1⟩ := hR
  refine Ent.lenow m0 fun ea_Facts la_Facts => ?_
  subst ea_Facts
  refine Ent.lenow (mS m0) fun ea_Values la_Values => ?_
  subst ea_Values
  refine Ent.lenow (mS (mS m0)) fun ea_Log la_Log => ?_
  subst ea_Log
  refine E.seq (E.region (l := [0, 1]) rfl (E.st rfl rfl (N.box (cs := [_, _, _, _]) rfl (by decide) rfl) (fun b2 _ => ?_)))
  refine E.y rfl rfl (by decide) ((Y.as rfl).yd) ?_
  refine E.nil (E.thn (E.seq (E.region (l := [0, 1, 2, 3, 4]) rfl (E.y rfl rfl (by decide) ((Y.fld fo_Reached_0 ty_Facts (by decide) rfl).yd) ?_))))
  refine E.y rfl rfl (by decide) (Y.ld1 ty_Facts rfl ((Has.pt m0).sub (cs' := [_]) 0 rfl) rfl) ?_
  refine E.y rfl rfl (by decide) ((Y.mv rfl).yd) ?_
  refine Ent.p1 ?_
  refine E.st rfl rfl (N.call (pre := [_]) t_laws_markFactS rfl rfl rfl (by decide) rfl (fun w Lp hA => ⟨(by first | assumption | omega), (by first | assumption | omega)⟩)) (fun _ _ => ?_)
  refine E.y rfl rfl (by decide) ((Y.as rfl).yd) ?_
  refine E.nil (E.thn (E.seq (E.region (l := [0, 1, 2, 3, 4]) rfl (E.y rfl rfl (by decide) ((Y.fld fo_Reached_1 ty_Is (by decide) rfl).yd) ?_))))
  refine E.y rfl rfl (by decide) (Y.ld1 ty_Is rfl ((Has.pt (mS m0)).sub (cs' := [_]) 1 rfl) rfl) ?_
  refine E.y rfl rfl (by decide) ((Y.mv rfl).yd) ?_
  refine Ent.p2 ?_
  refine E.st rfl rfl (N.call (pre := [_]) t_laws_markIntS rfl rfl rfl (by decide) rfl (fun w Lp hA => ⟨(by first | assumption | omega), (by first | assumption | omega)⟩)) (fun _ _ => ?_)
  refine E.y rfl rfl (by decide) ((Y.as rfl).yd) ?_
  refine E.nil (E.thn (E.seq (E.region (l := [0, 1, 2, 3, 4]) rfl (E.y rfl rfl (by decide) ((Y.fld fo_Reached_2 ty_Accesss (by decide) rfl).yd) ?_))))
  refine E.y rfl rfl (by decide) (Y.ld1 ty_Accesss rfl ((Has.pt (mS (mS m0))).sub (cs' := [_]) 2 rfl) rfl) ?_
  refine E.y rfl rfl (by decide) ((Y.mv rfl).yd) ?_
  refine Ent.p3 ?_
  refine E.st rfl rfl (N.call (pre := [_]) t_laws_markAccessS rfl rfl rfl (by decide) rfl (fun w Lp hA => ⟨(by first | assumption | omega), (by first | assumption | omega)⟩)) (fun _ _ => ?_)
  refine E.y rfl rfl (by decide) ((Y.as rfl).yd) ?_
  refine E.nil (E.thn (E.seq (E.region (l := [0, 1]) rfl (E.y rfl rfl (by decide) ((Y.mv rfl).yd) ?_))))
  refine E.y rfl rfl (by decide) ((Y.as rfl).yd) ?_
  refine E.nil (E.thn (E.ret (Ent.cv (congrArg (ow eAccesss [_]) (show mkL cE_Access mE_Access a_Log ((v + (totS cE_Fact a_Facts : Nat)) + (totS cE_I a_Values : Nat)) = mkL cE_Access mE_Access a_Log (v + ((totS cE_Fact a_Facts : Nat) : Int) + ((totS cE_I a_Values : Nat) : Int)) from by first | rfl | omega)) ?_)))
  refine Ent.p1 ?_
  refine Ent.cv (congrArg (ow eIs [_]) (show mkL cE_I mE_I a_Values (v + (totS cE_Fact a_Facts : Nat)) = mkL cE_I mE_I a_Values (v + ((totS cE_Fact a_Facts : Nat) : Int)) from by first | rfl | omega)) ?_
  refine Ent.p1 ?_
  refine Ent.p1 ?_
  refine Ent.p2 ?_
  exact F.r1 (Back.refl _ _) rfl rfl () trivial (by rw [show (v + ((totS cE_Fact a_Facts + totS cE_I a_Values + totS cE_Access a_Log : Nat) : Int)) = (((v + (totS cE_Fact a_Facts : Nat)) + (totS cE_I a_Values : Nat)) + (totS cE_Access a_Log : Nat)) from (by first | rfl | omega)]; try rfl) (J := _) (.refl _) (.inl rfl)
theorem t_laws_heldReached {a_a_Facts : Option Addr} {m_a_Facts c_a_Facts : Nat} {a_Facts : List (Int × List Int)} {a_a_Values : Option Addr} {m_a_Values c_a_Values : Nat} {a_Values : List Int} {a_a_Log : Option Addr} {m_a_Log c_a_Log : Nat} {a_Log : List (Int × List Int)} {a_Rounds : Int} {v : Int} (hz0 : mkL cE_Fact mE_Fact a_Facts v = a_Facts) (hz1 : mkL cE_I mE_I a_Values (v + ((totS cE_Fact a_Facts : Nat) : Int)) = a_Values) (hz2 : mkL cE_Access mE_Access a_Log (v + ((totS cE_Fact a_Facts : Nat) : Int) + ((totS cE_I a_Values : Nat) : Int)) = a_Log) : Tr Try.prog 66 [.agg #[.slice a_a_Facts m_a_Facts c_a_Facts, .slice a_a_Values m_a_Values c_a_Values, .slice a_a_Log m_a_Log c_a_Log, .int .i64 a_Rounds], .int .i64 v] (fun w L => Ro w L eFacts [.slice a_a_Facts m_a_Facts c_a_Facts] a_Facts ∧ Ro w L eIs [.slice a_a_Values m_a_Values c_a_Values] a_Values ∧ Ro w L eAccesss [.slice a_a_Log m_a_Log c_a_Log] a_Log ∧ I64 a_Rounds ∧ 0 ≤ v ∧ v + ((totS cE_Fact a_Facts + totS cE_I a_Values + totS cE_Access a_Log : Nat) : Int) ≤ 4611686018427387904) [] (κ := Unit) (fun k => True) (fun k => .int .i64 (v + ((totS cE_Fact a_Facts + totS cE_I a_Values + totS cE_Access a_Log : Nat) : Int))) (fun k => []) := by
  refine Tr.intro Try.func66 rfl (n := 24) rfl (by decide +kernel) (Nat.le_of_ble_eq_true rfl) (fr := [(0, .agg #[.slice a_a_Facts m_a_Facts c_a_Facts, .slice a_a_Values m_a_Values c_a_Values, .slice a_a_Log m_a_Log c_a_Log, .int .i64 a_Rounds]), (1, .int .i64 v)]) rfl fun w L hR => ?_
  obtain ⟨ha_Facts, ha_Values, ha_Log, i6a_Rounds, as0, as1⟩ := hR
  obtain ⟨rfl, la_Facts⟩ := ha_Facts.slen
  obtain ⟨rfl, la_Values⟩ := ha_Values.slen
  obtain ⟨rfl, la_Log⟩ := ha_Log.slen
  refine E.seq (E.region (l := [0, 1]) rfl (E.st rfl rfl (N.box (cs := [_, _, _, _]) rfl (by decide) rfl) (fun b2 _ => ?_)))
  refine E.y rfl rfl (by decide) ((Y.as rfl).yd) ?_
  refine E.nil (E.thn (E.seq (E.region (l := [0, 1, 2, 3, 4]) rfl (E.y rfl rfl (by decide) ((Y.fld fo_Reached_0 ty_Facts (by decide) rfl).yd) ?_))))
  refine E.y rfl rfl (by decide) (Y.ld1 ty_Facts rfl ((Has.pt m0).sub (cs' := [_]) 0 rfl) rfl) ?_
  refine E.y rfl rfl (by decide) ((Y.mv rfl).yd) ?_
  refine E.st rfl rfl (N.call0 (t_laws_heldFactS (by first | omega | assumption | (constructor <;> omega))) rfl rfl rfl (by decide) (fun w Lp hA => ⟨hA.ro ha_Facts, (by first | assumption | omega), (by first | assumption | omega)⟩)) (fun _ _ => ?_)
  refine E.y rfl rfl (by decide) ((Y.as rfl).yd) ?_
  refine E.nil (E.thn (E.seq (E.seq (E.region (l := [0, 1]) rfl (E.y rfl rfl (by decide) ((Y.mv rfl).yd) ?_)))))
  refine E.y rfl rfl (by decide) ((Y.lss rfl rfl).yd) (Ent.d (fun q10 => ?_) (fun q10 => ?_))
  · exact absurd q10 (by omega)
  · refine E.nil (E.thn (E.cf rfl (E.skipc (E.thn (E.seq (E.region (l := [0, 1, 2, 3, 4]) rfl (E.y rfl rfl (by decide) ((Y.fld fo_Reached_1 ty_Is (by decide) rfl).yd) ?_)))))))
    refine E.y rfl rfl (by decide) (Y.ld1 ty_Is rfl ((Has.pt m0).sub (cs' := [_]) 1 rfl) rfl) ?_
    refine E.y rfl rfl (by decide) ((Y.mv rfl).yd) ?_
    refine E.st rfl rfl (N.call0 (t_laws_heldIntS (by first | omega | assumption | (constructor <;> omega))) rfl rfl rfl (by decide) (fun w Lp hA => ⟨hA.ro ha_Values, (by first | assumption | omega), (by first | assumption | omega)⟩)) (fun _ _ => ?_)
    refine E.y rfl rfl (by decide) ((Y.as rfl).yd) ?_
    refine E.nil (E.thn (E.seq (E.seq (E.region (l := [0, 1]) rfl (E.y rfl rfl (by decide) ((Y.mv rfl).yd) ?_)))))
    refine E.y rfl rfl (by decide) ((Y.lss rfl rfl).yd) (Ent.d (fun q16 => ?_) (fun q16 => ?_))
    · exact absurd q16 (by omega)
    · refine E.nil (E.thn (E.cf rfl (E.skipc (E.thn (E.seq (E.region (l := [0, 1, 2, 3, 4]) rfl (E.y rfl rfl (by decide) ((Y.fld fo_Reached_2 ty_Accesss (by decide) rfl).yd) ?_)))))))
      refine E.y rfl rfl (by decide) (Y.ld1 ty_Accesss rfl ((Has.pt m0).sub (cs' := [_]) 2 rfl) rfl) ?_
      refine E.y rfl rfl (by decide) ((Y.mv rfl).yd) ?_
      refine E.st rfl rfl (N.call0 (t_laws_heldAccessS (by first | omega | assumption | (constructor <;> omega))) rfl rfl rfl (by decide) (fun w Lp hA => ⟨hA.ro ha_Log, (by first | assumption | omega), (by first | assumption | omega)⟩)) (fun _ _ => ?_)
      refine E.y rfl rfl (by decide) ((Y.as rfl).yd) ?_
      refine E.nil (E.thn (E.seq (E.seq (E.region (l := [0, 1]) rfl (E.y rfl rfl (by decide) ((Y.mv rfl).yd) ?_)))))
      refine E.y rfl rfl (by decide) ((Y.lss rfl rfl).yd) (Ent.d (fun q22 => ?_) (fun q22 => ?_))
      · exact absurd q22 (by omega)
      · refine E.nil (E.thn (E.cf rfl (E.skipc (E.thn (E.seq (E.region (l := [0, 1]) rfl (E.y rfl rfl (by decide) ((Y.mv rfl).yd) ?_)))))))
        refine E.y rfl rfl (by decide) ((Y.as rfl).yd) ?_
        exact E.nil (E.thn (E.ret (F.r1 (Back.refl _ _) rfl rfl () trivial (congrArg (Value.int .i64) (by first | rfl | omega)) (J := _) (.refl _) (.inl rfl))))
theorem t_laws_FnExactOpenAccesses {a_aS : Option Addr} {m_aS c_aS : Nat} {aS : List Int} {a_aL : Option Addr} {m_aL c_aL : Nat} {aL : List (Int × List Int × Int × Int × Int)} {a_aR_Facts : Option Addr} {m_aR_Facts c_aR_Facts : Nat} {aR_Facts : List (Int × List Int)} {a_aR_Values : Option Addr} {m_aR_Values c_aR_Values : Nat} {aR_Values : List Int} {a_aR_Log : Option Addr} {m_aR_Log c_aR_Log : Nat} {aR_Log : List (Int × List Int)} {aR_Rounds : Int} : Tr Try.prog 7 [.slice a_aS m_aS c_aS, .slice a_aL m_aL c_aL, .agg #[.slice a_aR_Facts m_aR_Facts c_aR_Facts, .slice a_aR_Values m_aR_Values c_aR_Values, .slice a_aR_Log m_aR_Log c_aR_Log, .int .i64 aR_Rounds]] (fun w L => Ro w L eIs [.slice a_aS m_aS c_aS] aS ∧ Ro w L eMethods [.slice a_aL m_aL c_aL] aL ∧ Ro w L eFacts [.slice a_aR_Facts m_aR_Facts c_aR_Facts] aR_Facts ∧ Ro w L eIs [.slice a_aR_Values m_aR_Values c_aR_Values] aR_Values ∧ Ro w L eAccesss [.slice a_aR_Log m_aR_Log c_aR_Log] aR_Log ∧ I64 aR_Rounds) [] (κ := Unit) (fun k => True) (fun k => .bool (true)) (fun k => []) := by
  refine Tr.intro Try.func7 rfl (n := 113) rfl (by decide +kernel) (Nat.le_of_ble_eq_true rfl) (fr := [(0, .slice a_aS m_aS c_aS), (1, .slice a_aL m_aL c_aL), (2, .agg #[.slice a_aR_Facts m_aR_Facts c_aR_Facts, .slice a_aR_Values m_aR_Values c_aR_Values, .slice a_aR_Log m_aR_Log c_aR_Log, .int .i64 aR_Rounds])]) rfl fun w L hR => ?_
  obtain ⟨haS, haL, haR_Facts, haR_Values, haR_Log, i6aR_Rounds⟩ := hR
  obtain ⟨rfl, laS⟩ := haS.slen
  obtain ⟨rfl, laL⟩ := haL.slen
  obtain ⟨rfl, laR_Facts⟩ := haR_Facts.slen
  obtain ⟨rfl, laR_Values⟩ := haR_Values.slen
  obtain ⟨rfl, laR_Log⟩ := haR_Log.slen
  have b_aS := totS_I (l := aS)
  have b_aL := totS_lin (c := cE_Method) (t := (fun x => x.2.1.length)) (n := 4) (fun x => by simp only [cE_Method, totS_I]; omega) (l := aL)
  have c_aL : totL (fun x => x.2.1.length) aL = aL.length + totS (fun x => x.2.1.length) aL := rfl
  have b_aR_Facts := totS_lin (c := cE_Fact) (t := (fun x => x.2.length)) (n := 1) (fun x => by simp only [cE_Fact, totS_I]; omega) (l := aR_Facts)
  have c_aR_Facts : totL (fun x => x.2.length) aR_Facts = aR_Facts.length + totS (fun x => x.2.length) aR_Facts := rfl
  have b_aR_Values := totS_I (l := aR_Values)
  have b_aR_Log := totS_lin (c := cE_Access) (t := (fun x => x.2.length)) (n := 1) (fun x => by simp only [cE_Access, totS_I]; omega) (l := aR_Log)
  have c_aR_Log : totL (fun x => x.2.length) aR_Log = aR_Log.length + totS (fun x => x.2.length) aR_Log := rfl
  have r1 := opnR_tot (s := aS) (l := aL) (v := aR_Values) (log := aR_Log)
  refine E.seq (E.region (l := [0, 1]) rfl (E.st rfl rfl (N.box (cs := [_, _, _, _]) rfl (by decide) rfl) (fun b5 _ => ?_)))
  refine E.y rfl rfl (by decide) ((Y.as rfl).yd) ?_
  refine E.nil (E.thn (E.seq (E.seq (E.region (l := [0, 1, 2]) rfl (E.y rfl rfl (by decide) ((Y.mv rfl).yd) ?_)))))
  refine E.y rfl rfl (by decide) ((Y.len us_Is rfl).yd) ?_
  refine E.y rfl rfl (by decide) ((Y.gtr rfl rfl).yd) (Ent.d (fun q19 => ?_) (fun q19 => ?_))
  · refine E.nil (E.thn (E.ct rfl (E.seq (E.region (l := [0]) rfl (E.y rfl rfl (by decide) ((Y.as rfl).yd) ?_)))))
    exact E.nil (E.thn (E.ret (E.thr (F.r1 (Back.refl _ _) rfl rfl () trivial rfl (J := _) (.refl _) (.inl rfl)))))
  · refine E.nil (E.thn (E.cf rfl (E.skipc (E.thn (E.seq (E.region (l := [0]) rfl (E.y rfl rfl (by decide) ((Y.as rfl).yd) ?_)))))))
    refine E.nil (E.thn (E.seq (E.region (l := [0, 1, 2, 3]) rfl (E.y rfl rfl (by decide) ((Y.mv rfl).yd) ?_))))
    refine E.y rfl rfl (by decide) ((Y.mv rfl).yd) ?_
    refine E.st rfl rfl (N.call0 t_laws_szMethodS rfl rfl rfl (by decide) (fun w Lp hA => ⟨hA.ro haL, (by first | assumption | omega), (by first | assumption | omega)⟩)) (fun _ _ => ?_)
    refine E.y rfl rfl (by decide) ((Y.as rfl).yd) ?_
    refine E.nil (E.thn (E.seq (E.seq (E.region (l := [0, 1]) rfl (E.y rfl rfl (by decide) ((Y.mv rfl).yd) ?_)))))
    refine E.y rfl rfl (by decide) ((Y.lss rfl rfl).yd) (Ent.d (fun q24 => ?_) (fun q24 => ?_))
    · have z24 := szR_bad q24 (by omega)
      refine E.nil (E.thn (E.ct rfl (E.seq (E.region (l := [0]) rfl (E.y rfl rfl (by decide) ((Y.as rfl).yd) ?_)))))
      exact E.nil (E.thn (E.ret (E.thr (F.r1 (Back.refl _ _) rfl rfl () trivial rfl (J := _) (.refl _) (.inl rfl)))))
    · obtain ⟨z24, y24⟩ := szR_ok q24 (by omega)
      refine E.nil (E.thn (E.cf rfl (E.skipc (E.thn (E.seq (E.region (l := [0, 1, 2, 3]) rfl (E.y rfl rfl (by decide) (Y.ldS (cs := [_, _, _, _]) ty_lReached rfl (Has.pt m0) rfl) ?_)))))))
      refine E.y rfl rfl (by decide) ((Y.mv rfl).yd) ?_
      refine E.st rfl rfl (N.call0 t_laws_szReached rfl rfl rfl (by decide) (fun w Lp hA => ⟨hA.ro haR_Facts, hA.ro haR_Values, hA.ro haR_Log, i6aR_Rounds, (by first | assumption | omega), (by first | assumption | omega)⟩)) (fun _ _ => ?_)
      refine E.y rfl rfl (by decide) ((Y.as rfl).yd) ?_
      refine E.nil (E.thn (E.seq (E.seq (E.region (l := [0, 1]) rfl (E.y rfl rfl (by decide) ((Y.mv rfl).yd) ?_)))))
      refine E.y rfl rfl (by decide) ((Y.lss rfl rfl).yd) (Ent.d (fun q29 => ?_) (fun q29 => ?_))
      · have z29 := szR_bad q29 (by omega)
        refine E.nil (E.thn (E.ct rfl (E.seq (E.region (l := [0]) rfl (E.y rfl rfl (by decide) ((Y.as rfl).yd) ?_)))))
        exact E.nil (E.thn (E.ret (E.thr (F.r1 (Back.refl _ _) rfl rfl () trivial rfl (J := _) (.refl _) (.inl rfl)))))
      · obtain ⟨z29, y29⟩ := szR_ok q29 (by omega)
        refine E.nil (E.thn (E.cf rfl (E.skipc (E.thn (E.seq (D.region (fun j => true) mixed (D.yp 0 rfl rfl (by decide) (Y.mv rfl) (by kernel_rfl) ?_)))))))
        refine D.yp 2 rfl rfl (by decide) (Y.mv rfl) (by kernel_rfl) ?_
        refine D.y 4 rfl rfl (by decide) (Y.ldS (cs := [_, _, _, _]) ty_lReached rfl (Has.pt m0) rfl) (by kernel_rfl) ?_
        refine D.st 1 rfl rfl (by kernel_rfl) (fun _ => rfl) (N.call (t_laws_toIntS (by first | omega | assumption | (constructor <;> omega))) rfl rfl rfl (by decide) rfl (fun w Lp hA => hA.ro haS)) (fun k31 _ => ?_)
        obtain ⟨a31, m31, c31⟩ := k31
        refine Ent.lenow m0 fun e31 l31 => ?_
        subst e31
        refine D.st 3 rfl rfl (by kernel_rfl) (fun _ => rfl) (N.call (t_laws_toMethodS (by first | omega | assumption | (constructor <;> omega))) rfl rfl rfl (by decide) rfl (fun w Lp hA => hA.ro haL)) (fun k33 _ => ?_)
        obtain ⟨a33, m33, c33⟩ := k33
        refine Ent.lenow m0 fun e33 l33 => ?_
        subst e33
        refine D.st 5 rfl rfl (by kernel_rfl) (fun _ => rfl) (N.call (t_laws_toReached (by first | omega | assumption | (constructor <;> omega)) (by first | omega | assumption | (constructor <;> omega)) (by first | omega | assumption | (constructor <;> omega))) rfl rfl rfl (by decide) rfl (fun w Lp hA => ⟨hA.ro haR_Facts, hA.ro haR_Values, hA.ro haR_Log, i6aR_Rounds⟩)) (fun k35 _ => ?_)
        obtain ⟨⟨a35_0, m35_0, c35_0⟩, ⟨a35_1, m35_1, c35_1⟩, ⟨a35_2, m35_2, c35_2⟩⟩ := k35
        refine Ent.lenow m0 fun e35_0 l35_0 => ?_
        subst e35_0
        refine Ent.lenow (mS m0) fun e35_1 l35_1 => ?_
        subst e35_1
        refine Ent.lenow (mS (mS m0)) fun e35_2 l35_2 => ?_
        subst e35_2
        refine D.st 6 rfl rfl (by kernel_rfl) (fun _ => rfl) (N.call t_spec_OpenAccesses rfl rfl rfl (by decide) rfl (fun w Lp hA => ⟨hA.ow (mS (mS (mS (mS m0)))), hA.ow (mS (mS (mS m0))), hA.ow m0, hA.ow (mS m0), hA.ow (mS (mS m0)), i6aR_Rounds⟩)) (fun k36 _ => ?_)
        obtain ⟨a36, m36, c36⟩ := k36
        refine Ent.lenow m0 fun e36 l36 => ?_
        subst e36
        refine D.yp 7 rfl rfl (by decide) (Y.as rfl) (by kernel_rfl) ?_
        refine D.done (by kernel_rfl) (E.thn (E.seq (E.region (l := [0, 1, 2]) rfl (E.y rfl rfl (by decide) ((Y.mv rfl).yd) ?_))))
        refine E.st rfl rfl (N.call (t_laws_toIntS (by first | omega | assumption | (constructor <;> omega))) rfl rfl rfl (by decide) rfl (fun w Lp hA => hA.ro haS)) (fun k38 _ => ?_)
        obtain ⟨a38, m38, c38⟩ := k38
        refine Ent.lenow m0 fun e38 l38 => ?_
        subst e38
        refine E.y rfl rfl (by decide) ((Y.as rfl).yd) ?_
        refine E.nil (E.thn (E.seq (E.region (l := [0, 1, 2]) rfl (E.y rfl rfl (by decide) ((Y.mv rfl).yd) ?_))))
        refine E.st rfl rfl (N.call (t_laws_toMethodS (by first | omega | assumption | (constructor <;> omega))) rfl rfl rfl (by decide) rfl (fun w Lp hA => hA.ro haL)) (fun k40 _ => ?_)
        obtain ⟨a40, m40, c40⟩ := k40
        refine Ent.lenow m0 fun e40 l40 => ?_
        subst e40
        refine E.y rfl rfl (by decide) ((Y.as rfl).yd) ?_
        refine E.nil (E.thn (E.seq (E.region (l := [0, 1, 2, 3]) rfl (E.y rfl rfl (by decide) (Y.ldS (cs := [_, _, _, _]) ty_lReached rfl (Has.pt (mS (mS (mS (mS (mS (mS (mS (mS m0))))))))) rfl) ?_))))
        refine E.st rfl rfl (N.call (t_laws_toReached (by first | omega | assumption | (constructor <;> omega)) (by first | omega | assumption | (constructor <;> omega)) (by first | omega | assumption | (constructor <;> omega))) rfl rfl rfl (by decide) rfl (fun w Lp hA => ⟨hA.ro haR_Facts, hA.ro haR_Values, hA.ro haR_Log, i6aR_Rounds⟩)) (fun k42 _ => ?_)
        obtain ⟨⟨a42_0, m42_0, c42_0⟩, ⟨a42_1, m42_1, c42_1⟩, ⟨a42_2, m42_2, c42_2⟩⟩ := k42
        refine Ent.lenow m0 fun e42_0 l42_0 => ?_
        subst e42_0
        refine Ent.lenow (mS m0) fun e42_1 l42_1 => ?_
        subst e42_1
        refine Ent.lenow (mS (mS m0)) fun e42_2 l42_2 => ?_
        subst e42_2
        refine E.st rfl rfl (N.alloc ty_Reached (by decide)) (fun b11 _ => ?_)
        refine E.st rfl rfl (N.sto (vs := [_, _, _, _]) (cs' := [_, _, _, _]) ty_Reached rfl rfl rfl rfl rfl (Nat.le_of_ble_eq_true rfl) rfl) (fun _ _ => ?_)
        refine E.nil (E.thn (E.seq (E.region (l := [0, 1, 2, 3, 4]) rfl (E.y rfl rfl (by decide) ((Y.mv rfl).yd) ?_))))
        refine E.y rfl rfl (by decide) ((Y.mv rfl).yd) ?_
        refine E.y rfl rfl (by decide) (Y.ldS (cs := [_, _, _, _]) ty_Reached rfl (Has.pt m0) rfl) ?_
        refine E.st rfl rfl (N.call t_impl_OpenAccesses rfl rfl rfl (by decide) rfl (fun w Lp hA => ⟨hA.ow (mS (mS (mS (mS (mS m0))))), hA.ow (mS (mS (mS (mS m0)))), hA.ow (mS m0), hA.ow (mS (mS m0)), hA.ow (mS (mS (mS m0))), i6aR_Rounds⟩)) (fun k46 _ => ?_)
        obtain ⟨a46, m46, c46⟩ := k46
        refine Ent.lenow m0 fun e46 l46 => ?_
        subst e46
        refine E.y rfl rfl (by decide) ((Y.as rfl).yd) ?_
        refine E.nil (E.thn (E.seq (E.seq (E.region (l := [0, 1, 2, 3]) rfl (E.y rfl rfl (by decide) ((Y.mv rfl).yd) ?_)))))
        refine E.y rfl rfl (by decide) ((Y.mv rfl).yd) ?_
        refine E.st rfl rfl (N.call0 t_laws_eqAccessS rfl rfl rfl (by decide) (fun w Lp hA => ⟨hA.ow m0, hA.ow (mS (mS (mS (mS (mS (mS (mS m0)))))))⟩)) (fun _ _ => (Ent.b (fun q49 => ?_) (fun q49 => ?_)))
        · refine E.y rfl rfl (by decide) ((Y.not (b := true) rfl).yd) ?_
          refine E.nil (E.thn (E.cf rfl (E.skipc (E.thn (E.seq (E.seq (E.region (l := [0, 1, 2, 3, 4]) rfl (E.y rfl rfl (by decide) ((Y.mv rfl).yd) ?_))))))))
          refine E.y rfl rfl (by decide) ((Y.mv rfl).yd) ?_
          refine E.st rfl rfl (N.call (t_laws_toIntS (by first | omega | assumption | (constructor <;> omega))) rfl rfl rfl (by decide) rfl (fun w Lp hA => hA.ro haS)) (fun k53 _ => ?_)
          obtain ⟨a53, m53, c53⟩ := k53
          refine Ent.lenow m0 fun e53 l53 => ?_
          subst e53
          refine E.st rfl rfl (N.call0 t_laws_eqIntS rfl rfl rfl (by decide) (fun w Lp hA => ⟨hA.ow (mS (mS (mS (mS (mS (mS (mS m0))))))), hA.ow m0⟩)) (fun _ _ => (Ent.b (fun q54 => ?_) (fun q54 => ?_)))
          · refine E.y rfl rfl (by decide) ((Y.not (b := true) rfl).yd) ?_
            refine E.nil (E.thn (E.cf rfl (E.skipc (E.thn (E.seq (E.seq (E.region (l := [0, 1, 2, 3, 4]) rfl (E.y rfl rfl (by decide) ((Y.mv rfl).yd) ?_))))))))
            refine E.y rfl rfl (by decide) ((Y.mv rfl).yd) ?_
            refine E.st rfl rfl (N.call (t_laws_toMethodS (by first | omega | assumption | (constructor <;> omega))) rfl rfl rfl (by decide) rfl (fun w Lp hA => hA.ro haL)) (fun k58 _ => ?_)
            obtain ⟨a58, m58, c58⟩ := k58
            refine Ent.lenow m0 fun e58 l58 => ?_
            subst e58
            refine E.st rfl rfl (N.call0 t_laws_eqMethodS rfl rfl rfl (by decide) (fun w Lp hA => ⟨hA.ow (mS (mS (mS (mS (mS (mS (mS m0))))))), hA.ow m0⟩)) (fun _ _ => (Ent.b (fun q59 => ?_) (fun q59 => ?_)))
            · refine E.y rfl rfl (by decide) ((Y.not (b := true) rfl).yd) ?_
              refine E.nil (E.thn (E.cf rfl (E.skipc (E.thn (E.seq (E.seq (D.region (fun j => true) mixed (D.y 0 rfl rfl (by decide) (Y.ldS (cs := [_, _, _, _]) ty_Reached rfl (Has.pt (mS (mS (mS m0)))) rfl) (by kernel_rfl) ?_))))))))
              refine D.y 1 rfl rfl (by decide) (Y.ldS (cs := [_, _, _, _]) ty_lReached rfl (Has.pt (mS (mS (mS (mS (mS (mS (mS (mS (mS (mS (mS (mS (mS (mS (mS m0)))))))))))))))) rfl) (by kernel_rfl) ?_
              refine D.st 2 rfl rfl (by kernel_rfl) (fun _ => rfl) (N.call (t_laws_toReached (by first | omega | assumption | (constructor <;> omega)) (by first | omega | assumption | (constructor <;> omega)) (by first | omega | assumption | (constructor <;> omega))) rfl rfl rfl (by decide) rfl (fun w Lp hA => ⟨hA.ro haR_Facts, hA.ro haR_Values, hA.ro haR_Log, i6aR_Rounds⟩)) (fun k63 _ => ?_)
              obtain ⟨⟨a63_0, m63_0, c63_0⟩, ⟨a63_1, m63_1, c63_1⟩, ⟨a63_2, m63_2, c63_2⟩⟩ := k63
              refine Ent.lenow m0 fun e63_0 l63_0 => ?_
              subst e63_0
              refine Ent.lenow (mS m0) fun e63_1 l63_1 => ?_
              subst e63_1
              refine Ent.lenow (mS (mS m0)) fun e63_2 l63_2 => ?_
              subst e63_2
              refine D.st 3 rfl rfl (by kernel_rfl) (fun _ => rfl) (N.call0 t_laws_eqReached rfl rfl rfl (by decide) (fun w Lp hA => ⟨hA.ow (mS (mS (mS (mS (mS (mS (mS m0))))))), hA.ow (mS (mS (mS (mS (mS (mS (mS (mS m0)))))))), hA.ow (mS (mS (mS (mS (mS (mS (mS (mS (mS m0))))))))), i6aR_Rounds, hA.ow m0, hA.ow (mS m0), hA.ow (mS (mS m0)), i6aR_Rounds⟩)) (fun _ _ => (Ent.b (fun q64 => ?_) (fun q64 => ?_)))
              · refine D.yp 4 rfl rfl (by decide) (Y.not (b := true) rfl) (by kernel_rfl) ?_
                refine D.done (by kernel_rfl) (E.thn (E.cf rfl (E.skipc (E.thn (E.seq (E.region (l := [0]) rfl (E.y rfl rfl (by decide) ((Y.as rfl).yd) ?_)))))))
                refine E.nil (E.thn (E.seq (E.region (l := [0, 1, 2, 3]) rfl (E.y rfl rfl (by decide) ((Y.mv rfl).yd) ?_))))
                refine E.y rfl rfl (by decide) ((Y.mv rfl).yd) ?_
                refine Ent.p11 ?_
                refine E.st rfl rfl (N.call (pre := [_]) t_laws_markIntS rfl rfl rfl (by decide) rfl (fun w Lp hA => ⟨(by first | assumption | omega), (by first | assumption | omega)⟩)) (fun _ _ => ?_)
                refine E.y rfl rfl (by decide) ((Y.as rfl).yd) ?_
                refine E.nil (E.thn (E.seq (E.region (l := [0, 1, 2, 3]) rfl (E.y rfl rfl (by decide) ((Y.mv rfl).yd) ?_))))
                refine E.y rfl rfl (by decide) ((Y.mv rfl).yd) ?_
                refine Ent.p11 ?_
                refine E.st rfl rfl (N.call (pre := [_]) t_laws_markMethodS rfl rfl rfl (by decide) rfl (fun w Lp hA => ⟨(by first | assumption | omega), (by first | assumption | omega)⟩)) (fun _ _ => ?_)
                refine E.y rfl rfl (by decide) ((Y.as rfl).yd) ?_
                refine E.nil (E.thn (E.seq (E.region (l := [0, 1, 2, 3]) rfl (E.y rfl rfl (by decide) (Y.ldS (cs := [_, _, _, _]) ty_Reached rfl (Has.pt (mS (mS (mS (mS (mS (mS (mS (mS m0))))))))) rfl) ?_))))
                refine E.y rfl rfl (by decide) ((Y.mv rfl).yd) ?_
                refine Ent.p11 ?_
                refine Ent.p11 ?_
                refine Ent.p11 ?_
                refine E.st rfl rfl (N.call (pre := [_, _, _]) t_laws_markReached rfl rfl rfl (by decide) rfl (fun w Lp hA => ⟨i6aR_Rounds, (by first | assumption | omega), (by first | assumption | omega)⟩)) (fun _ _ => ?_)
                refine E.y rfl rfl (by decide) ((Y.as rfl).yd) ?_
                refine E.nil (E.thn (E.seq (E.seq (E.region (l := [0, 1, 2, 3, 4, 5, 6, 7]) rfl (E.y rfl rfl (by decide) ((Y.mv rfl).yd) ?_)))))
                refine E.y rfl rfl (by decide) ((Y.lss rfl rfl).yd) (Ent.d (fun q76 => ?_) (fun q76 => ?_))
                · exact absurd q76 (by omega)
                · refine E.y rfl rfl (by decide) ((Y.mv rfl).yd) ?_
                  refine E.y rfl rfl (by decide) ((Y.mv rfl).yd) ?_
                  refine E.y rfl rfl (by decide) ((Y.mv rfl).yd) ?_
                  refine E.st rfl rfl (N.call0 t_laws_eqAccessS rfl rfl rfl (by decide) (fun w Lp hA => ⟨hA.ow (mS (mS (mS (mS (mS (mS (mS (mS (mS (mS m0)))))))))), hA.ow (mS (mS (mS (mS (mS (mS (mS (mS (mS (mS (mS (mS m0))))))))))))⟩)) (fun _ _ => (Ent.b (fun q80 => ?_) (fun q80 => ?_)))
                  · refine E.y rfl rfl (by decide) ((Y.not (b := true) rfl).yd) ?_
                    refine E.y rfl rfl (by decide) ((Y.pkf rfl rfl).yd) ?_
                    refine E.nil (E.thn (E.cf rfl (E.skipc (E.thn (E.seq (E.region (l := [0]) rfl (E.y rfl rfl (by decide) ((Y.as rfl).yd) ?_)))))))
                    refine E.nil (E.thn (E.seq (E.region (l := [0, 1, 2, 3]) rfl (E.y rfl rfl (by decide) ((Y.mv rfl).yd) ?_))))
                    refine E.y rfl rfl (by decide) ((Y.mv rfl).yd) ?_
                    refine Ent.p10 ?_
                    refine E.st rfl rfl (N.call (pre := [_]) t_laws_markAccessS rfl rfl rfl (by decide) rfl (fun w Lp hA => ⟨(by first | assumption | omega), (by first | assumption | omega)⟩)) (fun _ _ => ?_)
                    refine E.y rfl rfl (by decide) ((Y.as rfl).yd) ?_
                    refine E.nil (E.thn (E.seq (E.region (l := [0]) rfl (E.y rfl rfl (by decide) ((Y.as rfl).yd) ?_))))
                    refine E.nil (E.thn (E.seq (E.region (l := [0, 1, 2, 3]) rfl (E.y rfl rfl (by decide) ((Y.mv rfl).yd) ?_))))
                    refine E.y rfl rfl (by decide) ((Y.mv rfl).yd) ?_
                    refine E.st rfl rfl (N.call0 (t_laws_heldAccessS (mkL_mk cm_Access mm_Access)) rfl rfl rfl (by decide) (fun w Lp hA => ⟨hA.ow m0, (by (try simp only [mkL_c cm_I, mkL_c cm_Is, mkL_c cm_Fact, mkL_c cm_Facts, mkL_c cm_Atom, mkL_c cm_Atoms, mkL_c cm_Access, mkL_c cm_Accesss, mkL_c cm_Step, mkL_c cm_Steps, mkL_c cm_Query, mkL_c cm_Querys, mkL_c cm_Binding, mkL_c cm_Bindings, mkL_c cm_Method, mkL_c cm_Methods, mkL_c cm_Rule, mkL_c cm_Rules, mkL_c cm_Line, mkL_c cm_Lines]); omega), (by (try simp only [mkL_c cm_I, mkL_c cm_Is, mkL_c cm_Fact, mkL_c cm_Facts, mkL_c cm_Atom, mkL_c cm_Atoms, mkL_c cm_Access, mkL_c cm_Accesss, mkL_c cm_Step, mkL_c cm_Steps, mkL_c cm_Query, mkL_c cm_Querys, mkL_c cm_Binding, mkL_c cm_Bindings, mkL_c cm_Method, mkL_c cm_Methods, mkL_c cm_Rule, mkL_c cm_Rules, mkL_c cm_Line, mkL_c cm_Lines]); omega)⟩)) (fun _ _ => ?_)
                    refine E.y rfl rfl (by decide) ((Y.as rfl).yd) ?_
                    refine E.nil (E.thn (E.seq (E.seq (E.region (l := [0, 1]) rfl (E.y rfl rfl (by decide) ((Y.mv rfl).yd) ?_)))))
                    refine E.y rfl rfl (by decide) ((Y.lss rfl rfl).yd) (Ent.d (fun q90 => ?_) (fun q90 => ?_))
                    · exact absurd q90 (by omega)
                    · refine E.nil (E.thn (E.cf rfl (E.skipc (E.thn (E.seq (E.seq (E.region (l := [0, 1, 2]) rfl (E.y rfl rfl (by decide) ((Y.mv rfl).yd) ?_))))))))
                      refine E.y rfl rfl (by decide) ((Y.mv rfl).yd) ?_
                      refine E.y rfl rfl (by decide) ((Y.neq rfl rfl).yd) (Ent.d (fun q93 => ?_) (fun q93 => ?_))
                      · exact absurd (by simp only [mkL_c cm_I, mkL_c cm_Is, mkL_c cm_Fact, mkL_c cm_Facts, mkL_c cm_Atom, mkL_c cm_Atoms, mkL_c cm_Access, mkL_c cm_Accesss, mkL_c cm_Step, mkL_c cm_Steps, mkL_c cm_Query, mkL_c cm_Querys, mkL_c cm_Binding, mkL_c cm_Bindings, mkL_c cm_Method, mkL_c cm_Methods, mkL_c cm_Rule, mkL_c cm_Rules, mkL_c cm_Line, mkL_c cm_Lines]) q93
                      · refine E.nil (E.thn (E.cf rfl (E.skipc (E.thn (E.seq (D.region (fun j => true) mixed (D.yp 0 rfl rfl (by decide) (Y.mv rfl) (by kernel_rfl) ?_)))))))
                        refine D.yp 2 rfl rfl (by decide) (Y.mv rfl) (by kernel_rfl) ?_
                        refine D.y 4 rfl rfl (by decide) (Y.ldS (cs := [_, _, _, _]) ty_lReached rfl (Has.pt (mS (mS (mS (mS (mS (mS (mS (mS (mS (mS (mS (mS (mS (mS (mS (mS (mS (mS m0))))))))))))))))))) rfl) (by kernel_rfl) ?_
                        refine D.st 1 rfl rfl (by kernel_rfl) (fun _ => rfl) (N.call (t_laws_toIntS (by first | omega | assumption | (constructor <;> omega))) rfl rfl rfl (by decide) rfl (fun w Lp hA => hA.ro haS)) (fun k95 _ => ?_)
                        obtain ⟨a95, m95, c95⟩ := k95
                        refine Ent.lenow m0 fun e95 l95 => ?_
                        subst e95
                        refine D.st 3 rfl rfl (by kernel_rfl) (fun _ => rfl) (N.call (t_laws_toMethodS (by first | omega | assumption | (constructor <;> omega))) rfl rfl rfl (by decide) rfl (fun w Lp hA => hA.ro haL)) (fun k97 _ => ?_)
                        obtain ⟨a97, m97, c97⟩ := k97
                        refine Ent.lenow m0 fun e97 l97 => ?_
                        subst e97
                        refine D.st 5 rfl rfl (by kernel_rfl) (fun _ => rfl) (N.call (t_laws_toReached (by first | omega | assumption | (constructor <;> omega)) (by first | omega | assumption | (constructor <;> omega)) (by first | omega | assumption | (constructor <;> omega))) rfl rfl rfl (by decide) rfl (fun w Lp hA => ⟨hA.ro haR_Facts, hA.ro haR_Values, hA.ro haR_Log, i6aR_Rounds⟩)) (fun k99 _ => ?_)
                        obtain ⟨⟨a99_0, m99_0, c99_0⟩, ⟨a99_1, m99_1, c99_1⟩, ⟨a99_2, m99_2, c99_2⟩⟩ := k99
                        refine Ent.lenow m0 fun e99_0 l99_0 => ?_
                        subst e99_0
                        refine Ent.lenow (mS m0) fun e99_1 l99_1 => ?_
                        subst e99_1
                        refine Ent.lenow (mS (mS m0)) fun e99_2 l99_2 => ?_
                        subst e99_2
                        refine D.st 6 rfl rfl (by kernel_rfl) (fun _ => rfl) (N.call t_impl_OpenAccesses rfl rfl rfl (by decide) rfl (fun w Lp hA => ⟨hA.ow (mS (mS (mS (mS m0)))), hA.ow (mS (mS (mS m0))), hA.ow m0, hA.ow (mS m0), hA.ow (mS (mS m0)), i6aR_Rounds⟩)) (fun k100 _ => ?_)
                        obtain ⟨a100, m100, c100⟩ := k100
                        refine Ent.lenow m0 fun e100 l100 => ?_
                        subst e100
                        refine D.yp 7 rfl rfl (by decide) (Y.as rfl) (by kernel_rfl) ?_
                        refine D.done (by kernel_rfl) (E.thn (E.seq (E.seq (E.region (l := [0, 1, 2, 3]) rfl (E.y rfl rfl (by decide) ((Y.mv rfl).yd) ?_)))))
                        refine E.y rfl rfl (by decide) ((Y.mv rfl).yd) ?_
                        refine E.st rfl rfl (N.call0 t_laws_eqAccessS rfl rfl rfl (by decide) (fun w Lp hA => ⟨hA.ow m0, hA.ow (mS (mS (mS (mS (mS (mS (mS (mS (mS (mS (mS (mS (mS (mS (mS (mS (mS (mS m0))))))))))))))))))⟩)) (fun _ _ => (Ent.b (fun q103 => ?_) (fun q103 => ?_)))
                        · refine E.y rfl rfl (by decide) ((Y.not (b := true) rfl).yd) ?_
                          refine E.nil (E.thn (E.cf rfl (E.skipc (E.thn (E.seq (E.region (l := [0]) rfl (E.y rfl rfl (by decide) ((Y.as rfl).yd) ?_)))))))
                          refine E.nil (E.thn (E.seq (E.region (l := [0, 1, 2, 3]) rfl (E.y rfl rfl (by decide) ((Y.mv rfl).yd) ?_))))
                          refine E.y rfl rfl (by decide) ((Y.mv rfl).yd) ?_
                          refine E.st rfl rfl (N.call0 (t_laws_heldAccessS (mkL_mk cm_Access mm_Access)) rfl rfl rfl (by decide) (fun w Lp hA => ⟨hA.ow (mS (mS (mS (mS (mS (mS m0)))))), (by (try simp only [mkL_c cm_I, mkL_c cm_Is, mkL_c cm_Fact, mkL_c cm_Facts, mkL_c cm_Atom, mkL_c cm_Atoms, mkL_c cm_Access, mkL_c cm_Accesss, mkL_c cm_Step, mkL_c cm_Steps, mkL_c cm_Query, mkL_c cm_Querys, mkL_c cm_Binding, mkL_c cm_Bindings, mkL_c cm_Method, mkL_c cm_Methods, mkL_c cm_Rule, mkL_c cm_Rules, mkL_c cm_Line, mkL_c cm_Lines]); omega), (by (try simp only [mkL_c cm_I, mkL_c cm_Is, mkL_c cm_Fact, mkL_c cm_Facts, mkL_c cm_Atom, mkL_c cm_Atoms, mkL_c cm_Access, mkL_c cm_Accesss, mkL_c cm_Step, mkL_c cm_Steps, mkL_c cm_Query, mkL_c cm_Querys, mkL_c cm_Binding, mkL_c cm_Bindings, mkL_c cm_Method, mkL_c cm_Methods, mkL_c cm_Rule, mkL_c cm_Rules, mkL_c cm_Line, mkL_c cm_Lines]); omega)⟩)) (fun _ _ => ?_)
                          refine E.y rfl rfl (by decide) ((Y.as rfl).yd) ?_
                          refine E.nil (E.thn (E.seq (E.seq (E.region (l := [0, 1]) rfl (E.y rfl rfl (by decide) ((Y.mv rfl).yd) ?_)))))
                          refine E.y rfl rfl (by decide) ((Y.lss rfl rfl).yd) (Ent.d (fun q109 => ?_) (fun q109 => ?_))
                          · exact absurd q109 (by omega)
                          · refine E.nil (E.thn (E.cf rfl (E.skipc (E.thn (E.seq (E.seq (E.region (l := [0, 1, 2]) rfl (E.y rfl rfl (by decide) ((Y.mv rfl).yd) ?_))))))))
                            refine E.y rfl rfl (by decide) ((Y.mv rfl).yd) ?_
                            refine E.y rfl rfl (by decide) ((Y.neq rfl rfl).yd) (Ent.d (fun q112 => ?_) (fun q112 => ?_))
                            · exact absurd (by simp only [mkL_c cm_I, mkL_c cm_Is, mkL_c cm_Fact, mkL_c cm_Facts, mkL_c cm_Atom, mkL_c cm_Atoms, mkL_c cm_Access, mkL_c cm_Accesss, mkL_c cm_Step, mkL_c cm_Steps, mkL_c cm_Query, mkL_c cm_Querys, mkL_c cm_Binding, mkL_c cm_Bindings, mkL_c cm_Method, mkL_c cm_Methods, mkL_c cm_Rule, mkL_c cm_Rules, mkL_c cm_Line, mkL_c cm_Lines]) q112
                            · refine E.nil (E.thn (E.cf rfl (E.skipc (E.thn (E.seq (E.region (l := [0]) rfl (E.y rfl rfl (by decide) ((Y.as rfl).yd) ?_)))))))
                              exact E.nil (E.thn (E.ret (F.r1 (Back.refl _ _) rfl rfl () trivial rfl (J := _) (.refl _) (.inl rfl))))
                        · refine E.y rfl rfl (by decide) ((Y.not (b := false) rfl).yd) ?_
                          refine E.nil (E.thn (E.ct rfl (E.seq (E.region (l := [0]) rfl (E.y rfl rfl (by decide) ((Y.as rfl).yd) ?_)))))
                          exact E.nil (E.thn (E.ret (E.thr (F.r1 (Back.refl _ _) rfl rfl () trivial (congrArg Value.bool (by simp_all)) (J := _) (.refl _) (.inl rfl)))))
                  · refine E.y rfl rfl (by decide) ((Y.not (b := false) rfl).yd) ?_
                    refine E.y rfl rfl (by decide) ((Y.pkf rfl rfl).yd) ?_
                    refine E.nil (E.thn (E.ct rfl (E.seq (E.region (l := [0]) rfl (E.y rfl rfl (by decide) ((Y.as rfl).yd) ?_)))))
                    exact E.nil (E.thn (E.ret (E.thr (F.r1 (Back.refl _ _) rfl rfl () trivial (congrArg Value.bool (by simp_all)) (J := _) (.refl _) (.inl rfl)))))
              · refine D.yp 4 rfl rfl (by decide) (Y.not (b := false) rfl) (by kernel_rfl) ?_
                refine D.done (by kernel_rfl) (E.thn (E.ct rfl (E.seq (E.region (l := [0]) rfl (E.y rfl rfl (by decide) ((Y.as rfl).yd) ?_)))))
                exact E.nil (E.thn (E.ret (E.thr (F.r1 (Back.refl _ _) rfl rfl () trivial (congrArg Value.bool (by simp_all)) (J := _) (.refl _) (.inl rfl)))))
            · refine E.y rfl rfl (by decide) ((Y.not (b := false) rfl).yd) ?_
              refine E.nil (E.thn (E.ct rfl (E.seq (E.region (l := [0]) rfl (E.y rfl rfl (by decide) ((Y.as rfl).yd) ?_)))))
              exact E.nil (E.thn (E.ret (E.thr (F.r1 (Back.refl _ _) rfl rfl () trivial (congrArg Value.bool (by simp_all)) (J := _) (.refl _) (.inl rfl)))))
          · refine E.y rfl rfl (by decide) ((Y.not (b := false) rfl).yd) ?_
            refine E.nil (E.thn (E.ct rfl (E.seq (E.region (l := [0]) rfl (E.y rfl rfl (by decide) ((Y.as rfl).yd) ?_)))))
            exact E.nil (E.thn (E.ret (E.thr (F.r1 (Back.refl _ _) rfl rfl () trivial (congrArg Value.bool (by simp_all)) (J := _) (.refl _) (.inl rfl)))))
        · refine E.y rfl rfl (by decide) ((Y.not (b := false) rfl).yd) ?_
          refine E.nil (E.thn (E.ct rfl (E.seq (E.region (l := [0]) rfl (E.y rfl rfl (by decide) ((Y.as rfl).yd) ?_)))))
          exact E.nil (E.thn (E.ret (E.thr (F.r1 (Back.refl _ _) rfl rfl () trivial (congrArg Value.bool (by simp_all)) (J := _) (.refl _) (.inl rfl)))))
end Go.Proofs.Ytnagfcajnbkdoaa
