import Derived.Test.YtlcfbfbdnnoifaaGreatT18
namespace Go.Proofs.YtlcfbfbdnnoifaaGreat
open Go.RowKit
set_option linter.unusedVariables false
set_option linter.unusedSimpArgs false
set_option maxHeartbeats 2000000
attribute [local irreducible] Nop Yd Yp Ent Has Tr FnP FnP2 Src listsF opnF opn1 opnR chainB
theorem t_impl_copyBinding {a_b_Vars : Option Addr} {m_b_Vars c_b_Vars : Nat} {b_Vars : List Int} {a_b_Values : Option Addr} {m_b_Values c_b_Values : Nat} {b_Values : List Int} (hb1 : b_Vars.length ≤ 1000000) (hb2 : b_Values.length ≤ 1000000) : Tr Tryz.prog 203 [.agg #[.slice a_b_Vars m_b_Vars c_b_Vars, .slice a_b_Values m_b_Values c_b_Values]] (fun w L => Ro w L eIs [.slice a_b_Vars m_b_Vars c_b_Vars] b_Vars ∧ Ro w L eIs [.slice a_b_Values m_b_Values c_b_Values] b_Values) [] (κ := (Option Addr × Nat × Nat) × (Option Addr × Nat × Nat)) (fun k => True) (fun k => .agg #[.slice k.1.1 k.1.2.1 k.1.2.2, .slice k.2.1 k.2.2.1 k.2.2.2]) (fun k => [ow eIs [.slice k.1.1 k.1.2.1 k.1.2.2] b_Vars, ow eIs [.slice k.2.1 k.2.2.1 k.2.2.2] b_Values]) := by
  refine Tr.intro Tryz.func203 rfl (n := 10) rfl (by decide +kernel) (Nat.le_of_ble_eq_true rfl) (fr := [(0, .agg #[.slice a_b_Vars m_b_Vars c_b_Vars, .slice a_b_Values m_b_Values c_b_Values])]) rfl fun w L hR => ?_
  obtain ⟨hb_Vars, hb_Values⟩ := hR
  obtain ⟨rfl, lb_Vars⟩ := hb_Vars.slen
  obtain ⟨rfl, lb_Values⟩ := hb_Values.slen
  refine E.seq (E.region (l := [0, 1]) rfl (E.st rfl rfl (N.box (cs := [_, _]) rfl (by decide) rfl) (fun b1 _ => ?_)))
  refine E.st rfl rfl (N.alloc ty_Binding (by decide)) (fun b2 _ => ?_)
  refine E.nil (E.thn (E.seq (D.region (fun j => !(Nat.beq j 7)) mixed (D.yp 0 rfl rfl (by decide) (Y.fld fo_Binding_0 ty_Is (by decide) rfl) (by kernel_rfl) ?_))))
  refine D.y 1 rfl rfl (by decide) (Y.ld1 ty_Is rfl ((Has.pt (mS m0)).sub (cs' := [_]) 0 rfl) rfl) (by kernel_rfl) ?_
  refine D.yp 3 rfl rfl (by decide) (Y.fld fo_Binding_1 ty_Is (by decide) rfl) (by kernel_rfl) ?_
  refine D.y 4 rfl rfl (by decide) (Y.ld1 ty_Is rfl ((Has.pt (mS m0)).sub (cs' := [_]) 1 rfl) rfl) (by kernel_rfl) ?_
  refine D.st 2 rfl rfl (by kernel_rfl) (fun _ => rfl) (N.call (t_Clone_Is (by first | omega | assumption | (constructor <;> omega))) rfl rfl rfl (by decide) rfl (fun w Lp hA => hA.ro hb_Vars)) (fun k5 _ => ?_)
  obtain ⟨a5, m5, c5⟩ := k5
  refine Ent.lenow m0 fun e5 l5 => ?_
  subst e5
  refine D.st 5 rfl rfl (by kernel_rfl) (fun _ => rfl) (N.call (t_Clone_Is (by first | omega | assumption | (constructor <;> omega))) rfl rfl rfl (by decide) rfl (fun w Lp hA => hA.ro hb_Values)) (fun k8 _ => ?_)
  obtain ⟨a8, m8, c8⟩ := k8
  refine Ent.lenow m0 fun e8 l8 => ?_
  subst e8
  refine D.yp 6 rfl rfl (by decide) (Y.bld (pvs := [_, _]) (cs := [_, _]) ty_Binding pl_Binding rfl rfl) (by kernel_rfl) ?_
  refine Ent.p2 ?_
  refine D.st 7 rfl rfl (by kernel_rfl) (fun h => by cases h) (N.sto (vs := [_, _]) (cs' := [_, _]) ty_Binding rfl rfl rfl rfl rfl (Nat.le_of_ble_eq_true rfl) rfl) (fun _ _ => ?_)
  refine D.done (by kernel_rfl) (E.thn (E.ret (Ent.p1 ?_)))
  refine Ent.p2 ?_
  refine Ent.p1 ?_
  refine Ent.p1 ?_
  exact F.c1 (Back.refl _ _) rfl rfl (mS (mS m0)) ty_Binding rfl ((_, _, _), (_, _, _)) trivial rfl (J := _) (.refl _) (.inl rfl)
theorem t_spec_l4Copy {a_b_Vars : Option Addr} {m_b_Vars c_b_Vars : Nat} {b_Vars : List Int} {a_b_Values : Option Addr} {m_b_Values c_b_Values : Nat} {b_Values : List Int} (hb1 : b_Vars.length ≤ 1000000) (hb2 : b_Values.length ≤ 1000000) : Tr Tryz.prog 116 [.agg #[.slice a_b_Vars m_b_Vars c_b_Vars, .slice a_b_Values m_b_Values c_b_Values]] (fun w L => Ro w L eIs [.slice a_b_Vars m_b_Vars c_b_Vars] b_Vars ∧ Ro w L eIs [.slice a_b_Values m_b_Values c_b_Values] b_Values) [] (κ := (Option Addr × Nat × Nat) × (Option Addr × Nat × Nat)) (fun k => True) (fun k => .agg #[.slice k.1.1 k.1.2.1 k.1.2.2, .slice k.2.1 k.2.2.1 k.2.2.2]) (fun k => [ow eIs [.slice k.1.1 k.1.2.1 k.1.2.2] b_Vars, ow eIs [.slice k.2.1 k.2.2.1 k.2.2.2] b_Values]) := by
  refine Tr.intro Tryz.func116 rfl (n := 12) rfl (by decide +kernel) (Nat.le_of_ble_eq_true rfl) (fr := [(0, .agg #[.slice a_b_Vars m_b_Vars c_b_Vars, .slice a_b_Values m_b_Values c_b_Values])]) rfl fun w L hR => ?_
  obtain ⟨hb_Vars, hb_Values⟩ := hR
  obtain ⟨rfl, lb_Vars⟩ := hb_Vars.slen
  obtain ⟨rfl, lb_Values⟩ := hb_Values.slen
  refine E.seq (E.region (l := [0, 1]) rfl (E.st rfl rfl (N.box (cs := [_, _]) rfl (by decide) rfl) (fun b1 _ => ?_)))
  refine E.st rfl rfl (N.alloc ty_Binding (by decide)) (fun b2 _ => ?_)
  refine E.nil (E.thn (E.seq (E.mid (κ := (Option Addr × Nat) × (Option Addr × Nat)) (fun _ => True) (fun kM => [(2, .pointer (some ⟨b2, 0, none⟩))]) (fun kM => [pt b2 80 [.slice kM.1.1 b_Vars.length kM.1.2, .slice kM.2.1 b_Values.length kM.2.2], ow eIs [.slice kM.2.1 b_Values.length kM.2.2] b_Values, ow eIs [.slice kM.1.1 b_Vars.length kM.1.2] b_Vars, pt b1 80 [.slice a_b_Vars b_Vars.length c_b_Vars, .slice a_b_Values b_Values.length c_b_Values]]) ?_ (fun kM _ => ?_))))
  · refine D.region (fun j => !(Nat.beq j 9)) mixed (D.yp 1 rfl rfl (by decide) (Y.fld fo_Binding_0 ty_Is (by decide) rfl) (by kernel_rfl) ?_)
    refine D.y 2 rfl rfl (by decide) (Y.ld1 ty_Is rfl ((Has.pt (mS m0)).sub (cs' := [_]) 0 rfl) rfl) (by kernel_rfl) ?_
    refine D.yp 5 rfl rfl (by decide) (Y.fld fo_Binding_1 ty_Is (by decide) rfl) (by kernel_rfl) ?_
    refine D.y 6 rfl rfl (by decide) (Y.ld1 ty_Is rfl ((Has.pt (mS m0)).sub (cs' := [_]) 1 rfl) rfl) (by kernel_rfl) ?_
    refine D.ch2 (i := 0) (j := 4) (by kernel_rfl) ?_ ?_
    · refine D.pk 0 rfl rfl (fun _ => rfl) (N.bsl (pvs := []) (cs := []) us_Is ty_I rfl (by decide) (by decide) (fillZ rfl rfl) rfl (by decide)) (fun b3 _ => ?_)
      refine Ent.drop ?_
      refine D.ch2 (i := 3) (j := 4) (by kernel_rfl) ?_ ?_
      · refine D.pk 3 rfl rfl (fun _ => rfl) (N.pushR0 (E := Enc.int) Plain.int us_Is ty_I rfl rfl rfl hb_Vars (by first | omega | (simp only [List.length_map, List.length_take, List.length_append, List.length_drop, List.length_cons, List.length_nil]; omega)) (by first | omega | (simp only [List.length_map, List.length_take, List.length_append, List.length_drop, List.length_cons, List.length_nil]; omega)) (by decide)) (fun p6 _ => ?_)
        refine D.st 4 rfl rfl (by kernel_rfl) (fun _ => rfl) (N.bsl (pvs := []) (cs := []) us_Is ty_I rfl (by decide) (by decide) (fillZ rfl rfl) rfl (by decide)) (fun b7 _ => ?_)
        refine Ent.drop ?_
        refine D.st 7 rfl rfl (by kernel_rfl) (fun _ => rfl) (N.pushR0 (E := Enc.int) Plain.int us_Is ty_I rfl rfl rfl hb_Values (by first | omega | (simp only [List.length_map, List.length_take, List.length_append, List.length_drop, List.length_cons, List.length_nil]; omega)) (by first | omega | (simp only [List.length_map, List.length_take, List.length_append, List.length_drop, List.length_cons, List.length_nil]; omega)) (by decide)) (fun p10 _ => ?_)
        refine D.yp 8 rfl rfl (by decide) (Y.bld (pvs := [_, _]) (cs := [_, _]) ty_Binding pl_Binding rfl rfl) (by kernel_rfl) ?_
        refine Ent.p2 ?_
        refine D.st 9 rfl rfl (by kernel_rfl) (fun h => by cases h) (N.sto (vs := [_, _]) (cs' := [_, _]) ty_Binding rfl rfl rfl rfl rfl (Nat.le_of_ble_eq_true rfl) rfl) (fun _ _ => ?_)
        refine D.done (by kernel_rfl) (Ent.p3 ?_)
        refine Ent.p3 ?_
        refine Ent.p3 ?_
        refine Ent.p3 ?_
        exact E.mdn (p6, p10) trivial ⟨rfl, trivial⟩ (.refl _)
      · refine D.pk 4 rfl rfl (fun _ => rfl) (N.bsl (pvs := []) (cs := []) us_Is ty_I rfl (by decide) (by decide) (fillZ rfl rfl) rfl (by decide)) (fun b7 _ => ?_)
        refine Ent.drop ?_
        refine D.st 3 rfl rfl (by kernel_rfl) (fun _ => rfl) (N.pushR0 (E := Enc.int) Plain.int us_Is ty_I rfl rfl rfl hb_Vars (by first | omega | (simp only [List.length_map, List.length_take, List.length_append, List.length_drop, List.length_cons, List.length_nil]; omega)) (by first | omega | (simp only [List.length_map, List.length_take, List.length_append, List.length_drop, List.length_cons, List.length_nil]; omega)) (by decide)) (fun p6 _ => ?_)
        refine D.st 7 rfl rfl (by kernel_rfl) (fun _ => rfl) (N.pushR0 (E := Enc.int) Plain.int us_Is ty_I rfl rfl rfl hb_Values (by first | omega | (simp only [List.length_map, List.length_take, List.length_append, List.length_drop, List.length_cons, List.length_nil]; omega)) (by first | omega | (simp only [List.length_map, List.length_take, List.length_append, List.length_drop, List.length_cons, List.length_nil]; omega)) (by decide)) (fun p10 _ => ?_)
        refine D.yp 8 rfl rfl (by decide) (Y.bld (pvs := [_, _]) (cs := [_, _]) ty_Binding pl_Binding rfl rfl) (by kernel_rfl) ?_
        refine Ent.p2 ?_
        refine D.st 9 rfl rfl (by kernel_rfl) (fun h => by cases h) (N.sto (vs := [_, _]) (cs' := [_, _]) ty_Binding rfl rfl rfl rfl rfl (Nat.le_of_ble_eq_true rfl) rfl) (fun _ _ => ?_)
        refine D.done (by kernel_rfl) (Ent.p3 ?_)
        refine Ent.p3 ?_
        refine Ent.p3 ?_
        refine Ent.p3 ?_
        exact E.mdn (p6, p10) trivial ⟨rfl, trivial⟩ (.refl _)
    · refine D.pk 4 rfl rfl (fun _ => rfl) (N.bsl (pvs := []) (cs := []) us_Is ty_I rfl (by decide) (by decide) (fillZ rfl rfl) rfl (by decide)) (fun b7 _ => ?_)
      refine Ent.drop ?_
      refine D.st 0 rfl rfl (by kernel_rfl) (fun _ => rfl) (N.bsl (pvs := []) (cs := []) us_Is ty_I rfl (by decide) (by decide) (fillZ rfl rfl) rfl (by decide)) (fun b3 _ => ?_)
      refine Ent.drop ?_
      refine D.st 3 rfl rfl (by kernel_rfl) (fun _ => rfl) (N.pushR0 (E := Enc.int) Plain.int us_Is ty_I rfl rfl rfl hb_Vars (by first | omega | (simp only [List.length_map, List.length_take, List.length_append, List.length_drop, List.length_cons, List.length_nil]; omega)) (by first | omega | (simp only [List.length_map, List.length_take, List.length_append, List.length_drop, List.length_cons, List.length_nil]; omega)) (by decide)) (fun p6 _ => ?_)
      refine D.st 7 rfl rfl (by kernel_rfl) (fun _ => rfl) (N.pushR0 (E := Enc.int) Plain.int us_Is ty_I rfl rfl rfl hb_Values (by first | omega | (simp only [List.length_map, List.length_take, List.length_append, List.length_drop, List.length_cons, List.length_nil]; omega)) (by first | omega | (simp only [List.length_map, List.length_take, List.length_append, List.length_drop, List.length_cons, List.length_nil]; omega)) (by decide)) (fun p10 _ => ?_)
      refine D.yp 8 rfl rfl (by decide) (Y.bld (pvs := [_, _]) (cs := [_, _]) ty_Binding pl_Binding rfl rfl) (by kernel_rfl) ?_
      refine Ent.p2 ?_
      refine D.st 9 rfl rfl (by kernel_rfl) (fun h => by cases h) (N.sto (vs := [_, _]) (cs' := [_, _]) ty_Binding rfl rfl rfl rfl rfl (Nat.le_of_ble_eq_true rfl) rfl) (fun _ _ => ?_)
      refine D.done (by kernel_rfl) (Ent.p3 ?_)
      refine Ent.p3 ?_
      refine Ent.p3 ?_
      refine Ent.p3 ?_
      exact E.mdn (p6, p10) trivial ⟨rfl, trivial⟩ (.refl _)
  · obtain ⟨p6, p10⟩ := kM
    show Ent _ _ _ [(2, .pointer (some ⟨b2, 0, none⟩))] [pt b2 80 [.slice p6.1 b_Vars.length p6.2, .slice p10.1 b_Values.length p10.2], ow eIs [.slice p10.1 b_Values.length p10.2] b_Values, ow eIs [.slice p6.1 b_Vars.length p6.2] b_Vars, pt b1 80 [.slice a_b_Vars b_Vars.length c_b_Vars, .slice a_b_Values b_Values.length c_b_Values]] _
    refine E.thn (E.ret (Ent.p1 ?_))
    refine Ent.p2 ?_
    refine Ent.p1 ?_
    refine Ent.p1 ?_
    exact F.c1 (Back.refl _ _) rfl rfl (mS (mS m0)) ty_Binding rfl ((_, _, _), (_, _, _)) trivial rfl (J := _) (.refl _) (.inl rfl)
theorem t_spec_l4Bound {a_b_Vars : Option Addr} {m_b_Vars c_b_Vars : Nat} {b_Vars : List Int} {a_b_Values : Option Addr} {m_b_Values c_b_Values : Nat} {b_Values : List Int} {v : Int} : Tr Tryz.prog 196 [.agg #[.slice a_b_Vars m_b_Vars c_b_Vars, .slice a_b_Values m_b_Values c_b_Values], .int .i64 v] (fun w L => Ro w L eIs [.slice a_b_Vars m_b_Vars c_b_Vars] b_Vars ∧ Ro w L eIs [.slice a_b_Values m_b_Values c_b_Values] b_Values) [] (κ := Unit) (fun k => True) (fun k => .bool (!unb (b_Vars, b_Values) v)) (fun k => []) := by
  refine Tr.intro Tryz.func196 rfl (n := 27) rfl (by decide +kernel) (Nat.le_of_ble_eq_true rfl) (fr := [(0, .agg #[.slice a_b_Vars m_b_Vars c_b_Vars, .slice a_b_Values m_b_Values c_b_Values]), (1, .int .i64 v)]) rfl fun w L hR => ?_
  obtain ⟨hb_Vars, hb_Values⟩ := hR
  obtain ⟨rfl, lb_Vars⟩ := hb_Vars.slen
  obtain ⟨rfl, lb_Values⟩ := hb_Values.slen
  refine E.seq (E.region (l := [0, 1]) rfl (E.st rfl rfl (N.box (cs := [_, _]) rfl (by decide) rfl) (fun b2 _ => ?_)))
  refine E.y rfl rfl (by decide) ((Y.as rfl).yd) ?_
  refine E.nil (E.thn (E.seq (E.seq (E.region (l := [0]) rfl (E.y rfl rfl (by decide) ((Y.as rfl).yd) ?_)))))
  refine E.nil (E.thn (E.block (E.loop (κ := Nat) (fun g => g ≤ (min b_Vars.length b_Values.length) ∧ (b_Vars.take (min b_Vars.length b_Values.length)).any (fun x => decide (x = v)) = ((b_Vars.take (min b_Vars.length b_Values.length)).drop g).any (fun x => decide (x = v))) (fun g => [(1, .int .i64 v), (2, .pointer (some ⟨b2, 0, none⟩)), (5, .int .i64 (↑g : Int))]) (fun g => [pt b2 80 [.slice a_b_Vars b_Vars.length c_b_Vars, .slice a_b_Values b_Values.length c_b_Values]]) (fun g => (min b_Vars.length b_Values.length) - g) 0 ⟨Nat.zero_le _, by simp⟩ ⟨rfl, rfl, rfl, trivial⟩ (.refl _) (fun g pg => ?_))))
  obtain ⟨pk, pa⟩ := pg
  refine E.seq (E.seq (E.region (l := [0, 1, 2, 3, 4, 5, 6, 7, 8, 9, 10, 11]) rfl (E.y rfl rfl (by decide) ((Y.mv rfl).yd) ?_)))
  refine E.y rfl rfl (by decide) ((Y.fld fo_Binding_0 ty_Is (by decide) rfl).yd) ?_
  refine E.y rfl rfl (by decide) (Y.ld1 ty_Is rfl ((Has.pt m0).sub (cs' := [_]) 0 rfl) rfl) ?_
  refine E.y rfl rfl (by decide) ((Y.len us_Is rfl).yd) ?_
  refine E.y rfl rfl (by decide) ((Y.lss rfl rfl).yd) (Ent.d (fun q10 => ?_) (fun q10 => ?_))
  · refine E.y rfl rfl (by decide) ((Y.mv rfl).yd) ?_
    refine E.y rfl rfl (by decide) ((Y.mv rfl).yd) ?_
    refine E.y rfl rfl (by decide) ((Y.fld fo_Binding_1 ty_Is (by decide) rfl).yd) ?_
    refine E.y rfl rfl (by decide) (Y.ld1 ty_Is rfl ((Has.pt m0).sub (cs' := [_]) 1 rfl) rfl) ?_
    refine E.y rfl rfl (by decide) ((Y.len us_Is rfl).yd) ?_
    refine E.y rfl rfl (by decide) ((Y.lss rfl rfl).yd) (Ent.d (fun q16 => ?_) (fun q16 => ?_))
    · refine E.y rfl rfl (by decide) ((Y.pkt rfl rfl).yd) ?_
      refine E.nil (E.thn (E.ct rfl (E.skipc (E.thn (E.seq (E.block (E.seq (E.region (l := [0, 1, 2, 3, 4, 5, 6]) rfl (E.y rfl rfl (by decide) ((Y.fld fo_Binding_0 ty_Is (by decide) rfl).yd) ?_)))))))))
      refine E.y rfl rfl (by decide) (Y.ld1 ty_Is rfl ((Has.pt m0).sub (cs' := [_]) 0 rfl) rfl) ?_
      refine E.y rfl rfl (by decide) ((Y.mv rfl).yd) ?_
      obtain ⟨eb23, eo23, ea23, ei23, eh23⟩ := hb_Vars.elemI g (by omega)
      refine E.y rfl rfl (by decide) ((Y.ix us_Is ty_I rfl ea23 rfl g rfl (by omega)).yd) ?_
      refine E.y rfl rfl (by decide) (Y.ld1 ty_I rfl (eh23 _) rfl) ?_
      refine E.y rfl rfl (by decide) ((Y.mv rfl).yd) ?_
      refine E.y rfl rfl (by decide) ((Y.eql rfl rfl).yd) (Ent.d (fun q26 => ?_) (fun q26 => ?_))
      · refine E.nil (E.thn (E.ct rfl (E.seq (E.region (l := [0]) rfl (E.y rfl rfl (by decide) ((Y.as rfl).yd) ?_)))))
        exact E.nil (E.thn (E.ret (E.blr (E.thr (E.thr (E.blr (E.thr (F.r1 (Back.refl _ _) rfl rfl () trivial (congrArg Value.bool (by grind [unb, any_min_step, any_min_end, List.drop_eq_getElem_cons, List.drop_eq_nil_of_le, List.take_succ_eq_append_getElem, List.take_of_length_le])) (J := _) (.refl _) (.inl rfl)))))))))
      · refine E.nil (E.thn (E.cf rfl (E.skipc (E.bln (E.thn (E.region (l := [0, 1, 2]) rfl (E.y rfl rfl (by decide) ((Y.mv rfl).yd) ?_)))))))
        refine E.y rfl rfl (by decide) ((Y.add rfl rfl (by omega) (by omega)).yd) ?_
        refine E.y rfl rfl (by decide) ((Y.as rfl).yd) ?_
        exact E.nil (E.thn (E.again (Back.refl _ _) (g + 1) ⟨rfl, rfl, rfl, trivial⟩ (.refl _) ⟨by omega, by grind [any_min_step, List.drop_eq_getElem_cons, List.drop_eq_nil_of_le, List.take_succ_eq_append_getElem, List.take_of_length_le]⟩ (by omega)))
    · refine E.y rfl rfl (by decide) ((Y.pkt rfl rfl).yd) ?_
      refine E.nil (E.thn (E.cf rfl (E.exit (E.the (E.the (E.blh (E.thn (E.seq (E.region (l := [0]) rfl (E.y rfl rfl (by decide) ((Y.as rfl).yd) ?_))))))))))
      exact E.nil (E.thn (E.ret (F.r1 (Back.refl _ _) rfl rfl () trivial (congrArg Value.bool (by grind [unb, any_min_step, any_min_end, List.drop_eq_getElem_cons, List.drop_eq_nil_of_le, List.take_succ_eq_append_getElem, List.take_of_length_le])) (J := _) (.refl _) (.inl rfl))))
  · refine E.y rfl rfl (by decide) ((Y.mv rfl).yd) ?_
    refine E.skip rfl rfl rfl ?_
    refine E.skip rfl rfl rfl ?_
    refine E.skip rfl rfl rfl ?_
    refine E.skip rfl rfl rfl ?_
    refine E.skip rfl rfl rfl ?_
    refine E.y rfl rfl (by decide) ((Y.pkf rfl rfl).yd) ?_
    refine E.nil (E.thn (E.cf rfl (E.exit (E.the (E.the (E.blh (E.thn (E.seq (E.region (l := [0]) rfl (E.y rfl rfl (by decide) ((Y.as rfl).yd) ?_))))))))))
    exact E.nil (E.thn (E.ret (F.r1 (Back.refl _ _) rfl rfl () trivial (congrArg Value.bool (by grind [unb, any_min_step, any_min_end, List.drop_eq_getElem_cons, List.drop_eq_nil_of_le, List.take_succ_eq_append_getElem, List.take_of_length_le])) (J := _) (.refl _) (.inl rfl))))
theorem t_impl_MatchAtom {a_b_Vars : Option Addr} {m_b_Vars c_b_Vars : Nat} {b_Vars : List Int} {a_b_Values : Option Addr} {m_b_Values c_b_Values : Nat} {b_Values : List Int} {a_Rel : Int} {a_a_Terms : Option Addr} {m_a_Terms c_a_Terms : Nat} {a_Terms : List Int} {f_Rel : Int} {a_f_Values : Option Addr} {m_f_Values c_f_Values : Nat} {f_Values : List Int} (hb1 : b_Vars.length ≤ 1000) (hb2 : b_Values.length ≤ 1000) (hat : a_Terms.length ≤ 1000) : Tr Tryz.prog 187 [.agg #[.slice a_b_Vars m_b_Vars c_b_Vars, .slice a_b_Values m_b_Values c_b_Values], .agg #[.int .i64 a_Rel, .slice a_a_Terms m_a_Terms c_a_Terms], .agg #[.int .i64 f_Rel, .slice a_f_Values m_f_Values c_f_Values]] (fun w L => Ro w L eIs [.slice a_b_Vars m_b_Vars c_b_Vars] b_Vars ∧ Ro w L eIs [.slice a_b_Values m_b_Values c_b_Values] b_Values ∧ I64 a_Rel ∧ Ro w L eIs [.slice a_a_Terms m_a_Terms c_a_Terms] a_Terms ∧ I64 f_Rel ∧ Ro w L eIs [.slice a_f_Values m_f_Values c_f_Values] f_Values) [] (κ := (Option Addr × Nat × Nat) × (Option Addr × Nat × Nat)) (fun k => True) (fun k => .tuple #[.agg #[.slice k.1.1 k.1.2.1 k.1.2.2, .slice k.2.1 k.2.2.1 k.2.2.2], .bool (matchB (b_Vars, b_Values) (a_Rel, a_Terms) (f_Rel, f_Values))]) (fun k => [ow eIs [.slice k.1.1 k.1.2.1 k.1.2.2] (cond (matchB (b_Vars, b_Values) (a_Rel, a_Terms) (f_Rel, f_Values)) (matchV (b_Vars, b_Values) (a_Rel, a_Terms) (f_Rel, f_Values)).1 []), ow eIs [.slice k.2.1 k.2.2.1 k.2.2.2] (cond (matchB (b_Vars, b_Values) (a_Rel, a_Terms) (f_Rel, f_Values)) (matchV (b_Vars, b_Values) (a_Rel, a_Terms) (f_Rel, f_Values)).2 [])]) := by
  refine Tr.intro Tryz.func187 rfl (n := 81) rfl (by decide +kernel) (Nat.le_of_ble_eq_true rfl) (fr := [(0, .agg #[.slice a_b_Vars m_b_Vars c_b_Vars, .slice a_b_Values m_b_Values c_b_Values]), (1, .agg #[.int .i64 a_Rel, .slice a_a_Terms m_a_Terms c_a_Terms]), (2, .agg #[.int .i64 f_Rel, .slice a_f_Values m_f_Values c_f_Values])]) rfl fun w L hR => ?_
  obtain ⟨hb_Vars, hb_Values, i6a_Rel, ha_Terms, i6f_Rel, hf_Values⟩ := hR
  obtain ⟨rfl, lb_Vars⟩ := hb_Vars.slen
  obtain ⟨rfl, lb_Values⟩ := hb_Values.slen
  obtain ⟨rfl, la_Terms⟩ := ha_Terms.slen
  obtain ⟨rfl, lf_Values⟩ := hf_Values.slen
  refine E.seq (E.region (l := [0, 1, 2, 3, 4]) rfl (E.st rfl rfl (N.box (cs := [_, _]) rfl (by decide) rfl) (fun b3 _ => ?_)))
  refine E.st rfl rfl (N.box (cs := [_, _]) rfl (by decide) rfl) (fun b4 _ => ?_)
  refine E.st rfl rfl (N.box (cs := [_, _]) rfl (by decide) rfl) (fun b5 _ => ?_)
  refine E.st rfl rfl (N.alloc ty_Binding (by decide)) (fun b6 _ => ?_)
  refine E.y rfl rfl (by decide) ((Y.as rfl).yd) ?_
  refine E.nil (E.thn (E.seq (E.seq (E.region (l := [0, 1, 2, 3, 4, 5, 6, 7, 8, 9, 10, 11, 12, 13, 14, 15, 16, 17, 18, 19, 20, 21, 22]) rfl (E.y rfl rfl (by decide) ((Y.fld fo_Atom_0 ty_I (by decide) rfl).yd) ?_)))))
  refine E.y rfl rfl (by decide) (Y.ld1 ty_I rfl ((Has.pt (mS (mS m0))).sub (cs' := [_]) 0 rfl) rfl) ?_
  refine E.y rfl rfl (by decide) ((Y.fld fo_Fact_0 ty_I (by decide) rfl).yd) ?_
  refine E.y rfl rfl (by decide) (Y.ld1 ty_I rfl ((Has.pt (mS m0)).sub (cs' := [_]) 0 rfl) rfl) ?_
  refine E.y rfl rfl (by decide) ((Y.neq rfl rfl).yd) (Ent.d (fun q15 => ?_) (fun q15 => ?_))
  · refine E.y rfl rfl (by decide) ((Y.mv rfl).yd) ?_
    refine E.skip rfl rfl rfl ?_
    refine E.skip rfl rfl rfl ?_
    refine E.skip rfl rfl rfl ?_
    refine E.skip rfl rfl rfl ?_
    refine E.skip rfl rfl rfl ?_
    refine E.skip rfl rfl rfl ?_
    refine E.skip rfl rfl rfl ?_
    refine E.y rfl rfl (by decide) ((Y.pkt rfl rfl).yd) ?_
    refine E.y rfl rfl (by decide) ((Y.mv rfl).yd) ?_
    refine E.skip rfl rfl rfl ?_
    refine E.skip rfl rfl rfl ?_
    refine E.skip rfl rfl rfl ?_
    refine E.skip rfl rfl rfl ?_
    refine E.skip rfl rfl rfl ?_
    refine E.skip rfl rfl rfl ?_
    refine E.skip rfl rfl rfl ?_
    refine E.y rfl rfl (by decide) ((Y.pkt rfl rfl).yd) ?_
    refine E.nil (E.thn (E.ct rfl (E.seq (E.region (l := [0, 1, 2]) rfl (E.y rfl rfl (by decide) ((Y.bld (pvs := []) (cs := [_, _]) ty_Binding pl_Binding rfl rfl).yd) ?_)))))
    refine E.st rfl rfl (N.sto (vs := [_, _]) (cs' := [_, _]) ty_Binding rfl rfl rfl rfl rfl (Nat.le_of_ble_eq_true rfl) rfl) (fun _ _ => ?_)
    refine E.y rfl rfl (by decide) ((Y.as rfl).yd) ?_
    refine E.nil (E.thn (E.ret (E.thr (Ent.mkow (A := []) (Own.nil (E := Enc.int) (e := tI) (a := none)) rfl ?_))))
    refine Ent.cv (congrArg (ow eIs [_]) (show _ = cond (matchB (b_Vars, b_Values) (a_Rel, a_Terms) (f_Rel, f_Values)) (matchV (b_Vars, b_Values) (a_Rel, a_Terms) (f_Rel, f_Values)).2 [] by grind [matchB, matchV, okV_step, okV_end, fv_step, fv_all, addV, unb_idx, List.drop_eq_getElem_cons, List.drop_eq_nil_of_le, List.take_succ_eq_append_getElem, List.take_of_length_le])) ?_
    refine Ent.mkow (A := []) (Own.nil (E := Enc.int) (e := tI) (a := none)) rfl ?_
    refine Ent.cv (congrArg (ow eIs [_]) (show _ = cond (matchB (b_Vars, b_Values) (a_Rel, a_Terms) (f_Rel, f_Values)) (matchV (b_Vars, b_Values) (a_Rel, a_Terms) (f_Rel, f_Values)).1 [] by grind [matchB, matchV, okV_step, okV_end, fv_step, fv_all, addV, unb_idx, List.drop_eq_getElem_cons, List.drop_eq_nil_of_le, List.take_succ_eq_append_getElem, List.take_of_length_le])) ?_
    refine Ent.p1 ?_
    refine Ent.p1 ?_
    exact F.c2 (Back.refl _ _) rfl rfl rfl (mS (mS m0)) ty_Binding rfl ((none, 0, 0), (none, 0, 0)) trivial (by rw [show (matchB (b_Vars, b_Values) (a_Rel, a_Terms) (f_Rel, f_Values)) = (false) from (by grind [matchB, matchV, okV_step, okV_end, fv_step, fv_all, addV, unb_idx, List.drop_eq_getElem_cons, List.drop_eq_nil_of_le, List.take_succ_eq_append_getElem, List.take_of_length_le])]; try rfl) (J := _) (.refl _) (.inl rfl)
  · refine E.y rfl rfl (by decide) ((Y.mv rfl).yd) ?_
    refine E.y rfl rfl (by decide) ((Y.fld fo_Atom_1 ty_Is (by decide) rfl).yd) ?_
    refine E.y rfl rfl (by decide) (Y.ld1 ty_Is rfl ((Has.pt (mS (mS m0))).sub (cs' := [_]) 1 rfl) rfl) ?_
    refine E.y rfl rfl (by decide) ((Y.len us_Is rfl).yd) ?_
    refine E.y rfl rfl (by decide) ((Y.fld fo_Fact_1 ty_Is (by decide) rfl).yd) ?_
    refine E.y rfl rfl (by decide) (Y.ld1 ty_Is rfl ((Has.pt (mS m0)).sub (cs' := [_]) 1 rfl) rfl) ?_
    refine E.y rfl rfl (by decide) ((Y.len us_Is rfl).yd) ?_
    refine E.y rfl rfl (by decide) ((Y.neq rfl rfl).yd) (Ent.d (fun q23 => ?_) (fun q23 => ?_))
    · refine E.y rfl rfl (by decide) ((Y.pkf rfl rfl).yd) ?_
      refine E.y rfl rfl (by decide) ((Y.mv rfl).yd) ?_
      refine E.skip rfl rfl rfl ?_
      refine E.skip rfl rfl rfl ?_
      refine E.skip rfl rfl rfl ?_
      refine E.skip rfl rfl rfl ?_
      refine E.skip rfl rfl rfl ?_
      refine E.skip rfl rfl rfl ?_
      refine E.skip rfl rfl rfl ?_
      refine E.y rfl rfl (by decide) ((Y.pkt rfl rfl).yd) ?_
      refine E.nil (E.thn (E.ct rfl (E.seq (E.region (l := [0, 1, 2]) rfl (E.y rfl rfl (by decide) ((Y.bld (pvs := []) (cs := [_, _]) ty_Binding pl_Binding rfl rfl).yd) ?_)))))
      refine E.st rfl rfl (N.sto (vs := [_, _]) (cs' := [_, _]) ty_Binding rfl rfl rfl rfl rfl (Nat.le_of_ble_eq_true rfl) rfl) (fun _ _ => ?_)
      refine E.y rfl rfl (by decide) ((Y.as rfl).yd) ?_
      refine E.nil (E.thn (E.ret (E.thr (Ent.mkow (A := []) (Own.nil (E := Enc.int) (e := tI) (a := none)) rfl ?_))))
      refine Ent.cv (congrArg (ow eIs [_]) (show _ = cond (matchB (b_Vars, b_Values) (a_Rel, a_Terms) (f_Rel, f_Values)) (matchV (b_Vars, b_Values) (a_Rel, a_Terms) (f_Rel, f_Values)).2 [] by grind [matchB, matchV, okV_step, okV_end, fv_step, fv_all, addV, unb_idx, List.drop_eq_getElem_cons, List.drop_eq_nil_of_le, List.take_succ_eq_append_getElem, List.take_of_length_le])) ?_
      refine Ent.mkow (A := []) (Own.nil (E := Enc.int) (e := tI) (a := none)) rfl ?_
      refine Ent.cv (congrArg (ow eIs [_]) (show _ = cond (matchB (b_Vars, b_Values) (a_Rel, a_Terms) (f_Rel, f_Values)) (matchV (b_Vars, b_Values) (a_Rel, a_Terms) (f_Rel, f_Values)).1 [] by grind [matchB, matchV, okV_step, okV_end, fv_step, fv_all, addV, unb_idx, List.drop_eq_getElem_cons, List.drop_eq_nil_of_le, List.take_succ_eq_append_getElem, List.take_of_length_le])) ?_
      refine Ent.p1 ?_
      refine Ent.p1 ?_
      exact F.c2 (Back.refl _ _) rfl rfl rfl (mS (mS m0)) ty_Binding rfl ((none, 0, 0), (none, 0, 0)) trivial (by rw [show (matchB (b_Vars, b_Values) (a_Rel, a_Terms) (f_Rel, f_Values)) = (false) from (by grind [matchB, matchV, okV_step, okV_end, fv_step, fv_all, addV, unb_idx, List.drop_eq_getElem_cons, List.drop_eq_nil_of_le, List.take_succ_eq_append_getElem, List.take_of_length_le])]; try rfl) (J := _) (.refl _) (.inl rfl)
    · refine E.y rfl rfl (by decide) ((Y.pkf rfl rfl).yd) ?_
      refine E.y rfl rfl (by decide) ((Y.mv rfl).yd) ?_
      refine E.y rfl rfl (by decide) ((Y.fld fo_Binding_0 ty_Is (by decide) rfl).yd) ?_
      refine E.y rfl rfl (by decide) (Y.ld1 ty_Is rfl ((Has.pt (mS (mS (mS m0)))).sub (cs' := [_]) 0 rfl) rfl) ?_
      refine E.y rfl rfl (by decide) ((Y.len us_Is rfl).yd) ?_
      refine E.y rfl rfl (by decide) ((Y.fld fo_Binding_1 ty_Is (by decide) rfl).yd) ?_
      refine E.y rfl rfl (by decide) (Y.ld1 ty_Is rfl ((Has.pt (mS (mS (mS m0)))).sub (cs' := [_]) 1 rfl) rfl) ?_
      refine E.y rfl rfl (by decide) ((Y.len us_Is rfl).yd) ?_
      refine E.y rfl rfl (by decide) ((Y.neq rfl rfl).yd) (Ent.d (fun q32 => ?_) (fun q32 => ?_))
      · refine E.y rfl rfl (by decide) ((Y.pkf rfl rfl).yd) ?_
        refine E.nil (E.thn (E.ct rfl (E.seq (E.region (l := [0, 1, 2]) rfl (E.y rfl rfl (by decide) ((Y.bld (pvs := []) (cs := [_, _]) ty_Binding pl_Binding rfl rfl).yd) ?_)))))
        refine E.st rfl rfl (N.sto (vs := [_, _]) (cs' := [_, _]) ty_Binding rfl rfl rfl rfl rfl (Nat.le_of_ble_eq_true rfl) rfl) (fun _ _ => ?_)
        refine E.y rfl rfl (by decide) ((Y.as rfl).yd) ?_
        refine E.nil (E.thn (E.ret (E.thr (Ent.mkow (A := []) (Own.nil (E := Enc.int) (e := tI) (a := none)) rfl ?_))))
        refine Ent.cv (congrArg (ow eIs [_]) (show _ = cond (matchB (b_Vars, b_Values) (a_Rel, a_Terms) (f_Rel, f_Values)) (matchV (b_Vars, b_Values) (a_Rel, a_Terms) (f_Rel, f_Values)).2 [] by grind [matchB, matchV, okV_step, okV_end, fv_step, fv_all, addV, unb_idx, List.drop_eq_getElem_cons, List.drop_eq_nil_of_le, List.take_succ_eq_append_getElem, List.take_of_length_le])) ?_
        refine Ent.mkow (A := []) (Own.nil (E := Enc.int) (e := tI) (a := none)) rfl ?_
        refine Ent.cv (congrArg (ow eIs [_]) (show _ = cond (matchB (b_Vars, b_Values) (a_Rel, a_Terms) (f_Rel, f_Values)) (matchV (b_Vars, b_Values) (a_Rel, a_Terms) (f_Rel, f_Values)).1 [] by grind [matchB, matchV, okV_step, okV_end, fv_step, fv_all, addV, unb_idx, List.drop_eq_getElem_cons, List.drop_eq_nil_of_le, List.take_succ_eq_append_getElem, List.take_of_length_le])) ?_
        refine Ent.p1 ?_
        refine Ent.p1 ?_
        exact F.c2 (Back.refl _ _) rfl rfl rfl (mS (mS m0)) ty_Binding rfl ((none, 0, 0), (none, 0, 0)) trivial (by rw [show (matchB (b_Vars, b_Values) (a_Rel, a_Terms) (f_Rel, f_Values)) = (false) from (by grind [matchB, matchV, okV_step, okV_end, fv_step, fv_all, addV, unb_idx, List.drop_eq_getElem_cons, List.drop_eq_nil_of_le, List.take_succ_eq_append_getElem, List.take_of_length_le])]; try rfl) (J := _) (.refl _) (.inl rfl)
      · refine E.y rfl rfl (by decide) ((Y.pkf rfl rfl).yd) ?_
        refine E.nil (E.thn (E.cf rfl (E.skipc (E.thn (E.seq (E.region (l := [0, 1, 2, 3]) rfl (E.y rfl rfl (by decide) (Y.ldS (cs := [_, _]) ty_Binding rfl (Has.pt (mS (mS (mS m0)))) rfl) ?_)))))))
        refine E.st rfl rfl (N.call (t_impl_copyBinding (by first | omega | assumption | (constructor <;> omega)) (by first | omega | assumption | (constructor <;> omega))) rfl rfl rfl (by decide) rfl (fun w Lp hA => ⟨hA.ro hb_Vars, hA.ro hb_Values⟩)) (fun k36 _ => ?_)
        obtain ⟨⟨a36_0, m36_0, c36_0⟩, ⟨a36_1, m36_1, c36_1⟩⟩ := k36
        refine Ent.lenow m0 fun e36_0 l36_0 => ?_
        subst e36_0
        refine Ent.lenow (mS m0) fun e36_1 l36_1 => ?_
        subst e36_1
        refine E.st rfl rfl (N.alloc ty_Binding (by decide)) (fun b8 _ => ?_)
        refine E.st rfl rfl (N.sto (vs := [_, _]) (cs' := [_, _]) ty_Binding rfl rfl rfl rfl rfl (Nat.le_of_ble_eq_true rfl) rfl) (fun _ _ => ?_)
        refine E.nil (E.thn (E.seq (E.seq (E.region (l := [0, 1, 2, 3]) rfl (E.y rfl rfl (by decide) ((Y.fld fo_Atom_1 ty_Is (by decide) rfl).yd) ?_)))))
        refine E.y rfl rfl (by decide) (Y.ld1 ty_Is rfl ((Has.pt (mS (mS (mS (mS (mS m0)))))).sub (cs' := [_]) 1 rfl) rfl) ?_
        refine E.y rfl rfl (by decide) ((Y.len us_Is rfl).yd) ?_
        refine E.y rfl rfl (by decide) ((Y.mv rfl).yd) ?_
        refine E.nil (E.thn (E.block (Ent.p1 ?_)))
        refine Ent.cv (congrArg (ow eIs [_]) (show b_Vars = (foldV (b_Vars, b_Values) ((a_Terms.zip f_Values).take 0)).1 from by first | rfl | (simp; done) | grind [matchB, matchV, okV_step, okV_end, fv_step, fv_all, addV, unb_idx, List.drop_eq_getElem_cons, List.drop_eq_nil_of_le, List.take_succ_eq_append_getElem, List.take_of_length_le])) ?_
        refine Ent.p2 ?_
        refine Ent.cv (congrArg (ow eIs [_]) (show b_Values = (foldV (b_Vars, b_Values) ((a_Terms.zip f_Values).take 0)).2 from by first | rfl | (simp; done) | grind [matchB, matchV, okV_step, okV_end, fv_step, fv_all, addV, unb_idx, List.drop_eq_getElem_cons, List.drop_eq_nil_of_le, List.take_succ_eq_append_getElem, List.take_of_length_le])) ?_
        refine E.loop (κ := Nat × Option Addr × Nat × Nat × Option Addr × Nat × Nat) (fun g => g.1 ≤ a_Terms.length ∧ okV (b_Vars, b_Values) (a_Terms.zip f_Values) = okV (foldV (b_Vars, b_Values) ((a_Terms.zip f_Values).take g.1)) ((a_Terms.zip f_Values).drop g.1)) (fun g => [(5, .pointer (some ⟨b5, 0, none⟩)), (6, .pointer (some ⟨b6, 0, none⟩)), (8, .pointer (some ⟨b8, 0, none⟩)), (38, .slice a_a_Terms a_Terms.length c_a_Terms), (39, .int .i64 (↑a_Terms.length : Int)), (40, .int .i64 (↑g.1 : Int))]) (fun g => [ow eIs [.slice g.2.2.2.2.1 g.2.2.2.2.2.1 g.2.2.2.2.2.2] ((foldV (b_Vars, b_Values) ((a_Terms.zip f_Values).take g.1)).2), ow eIs [.slice g.2.1 g.2.2.1 g.2.2.2.1] ((foldV (b_Vars, b_Values) ((a_Terms.zip f_Values).take g.1)).1), pt b8 80 [.slice g.2.1 g.2.2.1 g.2.2.2.1, .slice g.2.2.2.2.1 g.2.2.2.2.2.1 g.2.2.2.2.2.2], pt b6 80 [.slice none 0 0, .slice none 0 0], pt b5 95 [.int .i64 f_Rel, .slice a_f_Values f_Values.length c_f_Values], pt b4 113 [.int .i64 a_Rel, .slice a_a_Terms a_Terms.length c_a_Terms], pt b3 80 [.slice a_b_Vars b_Vars.length c_b_Vars, .slice a_b_Values b_Values.length c_b_Values]]) (fun g => a_Terms.length - g.1) (0, a36_0, (b_Vars).length, c36_0, a36_1, (b_Values).length, c36_1) ⟨Nat.zero_le _, by rfl⟩ ⟨rfl, rfl, rfl, rfl, rfl, rfl, trivial⟩ (.refl _) (fun g pg => ?_)
        obtain ⟨g, aA0_0, mA0_0, cA0_0, aA0_1, mA0_1, cA0_1⟩ := g
        try dsimp only at pg
        show Ent _ _ _ [(5, .pointer (some ⟨b5, 0, none⟩)), (6, .pointer (some ⟨b6, 0, none⟩)), (8, .pointer (some ⟨b8, 0, none⟩)), (38, .slice a_a_Terms a_Terms.length c_a_Terms), (39, .int .i64 (↑a_Terms.length : Int)), (40, .int .i64 (↑g : Int))] [ow eIs [.slice aA0_1 mA0_1 cA0_1] ((foldV (b_Vars, b_Values) ((a_Terms.zip f_Values).take g)).2), ow eIs [.slice aA0_0 mA0_0 cA0_0] ((foldV (b_Vars, b_Values) ((a_Terms.zip f_Values).take g)).1), pt b8 80 [.slice aA0_0 mA0_0 cA0_0, .slice aA0_1 mA0_1 cA0_1], pt b6 80 [.slice none 0 0, .slice none 0 0], pt b5 95 [.int .i64 f_Rel, .slice a_f_Values f_Values.length c_f_Values], pt b4 113 [.int .i64 a_Rel, .slice a_a_Terms a_Terms.length c_a_Terms], pt b3 80 [.slice a_b_Vars b_Vars.length c_b_Vars, .slice a_b_Values b_Values.length c_b_Values]] _
        obtain ⟨pk, pa⟩ := pg
        have jl := fv_len (b := (b_Vars, b_Values)) (t := a_Terms) (v := f_Values) (g := g)
        have je := foldV_eq (l := (a_Terms.zip f_Values).take g) (x := (b_Vars, b_Values)) (show b_Vars.length = b_Values.length by omega)
        dsimp only at jl
        refine Ent.lenow (mS m0) fun eaA0_0 laA0_0 => ?_
        subst eaA0_0
        refine Ent.lenow m0 fun eaA0_1 laA0_1 => ?_
        subst eaA0_1
        refine E.seq (E.region (l := [0]) rfl (E.y rfl rfl (by decide) ((Y.lss rfl rfl).yd) (Ent.d (fun q41 => ?_) (fun q41 => ?_))))
        · refine E.nil (E.thn (E.seq (E.ct rfl (E.skipc (E.thn (E.seq (E.block (E.seq (E.region (l := [0, 1, 2, 3, 4]) rfl (E.y rfl rfl (by decide) ((Y.mv rfl).yd) ?_))))))))))
          obtain ⟨eb43, eo43, ea43, ei43, eh43⟩ := ha_Terms.elemI g (by omega)
          refine E.y rfl rfl (by decide) ((Y.ix us_Is ty_I rfl ea43 rfl g rfl (by omega)).yd) ?_
          refine E.y rfl rfl (by decide) (Y.ld1 ty_I rfl (eh43 _) rfl) ?_
          refine E.y rfl rfl (by decide) ((Y.as rfl).yd) ?_
          refine E.y rfl rfl (by decide) ((Y.as rfl).yd) ?_
          refine E.nil (E.thn (E.seq (E.seq (E.region (l := [0, 1, 2, 3, 4, 5, 6, 7]) rfl (E.y rfl rfl (by decide) ((Y.mv rfl).yd) ?_)))))
          refine E.st rfl rfl (N.call0 t_impl_IsVar rfl rfl rfl (by decide) (fun w Lp hA => trivial)) (fun _ _ => (Ent.b (fun q46 => ?_) (fun q46 => ?_)))
          · refine E.y rfl rfl (by decide) ((Y.mv rfl).yd) ?_
            refine E.y rfl rfl (by decide) (Y.ldS (cs := [_, _]) ty_Binding rfl (Has.pt (mS (mS m0))) rfl) ?_
            refine E.y rfl rfl (by decide) ((Y.mv rfl).yd) ?_
            refine E.st rfl rfl (N.call0 t_impl_Binding_entry rfl rfl rfl (by decide) (fun w Lp hA => ⟨hA.ow (mS m0), hA.ow m0⟩)) (fun _ _ => ?_)
            refine E.y rfl rfl (by decide) ((Y.lss rfl rfl).yd) (Ent.d (fun q51 => ?_) (fun q51 => ?_))
            · refine E.y rfl rfl (by decide) ((Y.pkt rfl rfl).yd) ?_
              refine E.nil (E.thn (E.ct rfl (E.mid (κ := (Option Addr × Nat) × (Option Addr × Nat)) (fun _ => True) (fun kM => [(5, .pointer (some ⟨b5, 0, none⟩)), (6, .pointer (some ⟨b6, 0, none⟩)), (8, .pointer (some ⟨b8, 0, none⟩)), (9, .int .i64 (↑g : Int)), (10, .int .i64 a_Terms[g]), (38, .slice a_a_Terms a_Terms.length c_a_Terms), (39, .int .i64 (↑a_Terms.length : Int)), (40, .int .i64 (↑g : Int))]) (fun kM => [pt b8 80 [.slice kM.1.1 (((foldV (b_Vars, b_Values) ((a_Terms.zip f_Values).take g)).1).length + 1) kM.1.2, .slice kM.2.1 (((foldV (b_Vars, b_Values) ((a_Terms.zip f_Values).take g)).2).length + 1) kM.2.2], ow eIs [.slice kM.2.1 (((foldV (b_Vars, b_Values) ((a_Terms.zip f_Values).take g)).2).length + 1) kM.2.2] (((foldV (b_Vars, b_Values) ((a_Terms.zip f_Values).take g)).2) ++ [f_Values[g]]), ow eIs [.slice kM.1.1 (((foldV (b_Vars, b_Values) ((a_Terms.zip f_Values).take g)).1).length + 1) kM.1.2] (((foldV (b_Vars, b_Values) ((a_Terms.zip f_Values).take g)).1) ++ [a_Terms[g]]), pt b6 80 [.slice none 0 0, .slice none 0 0], pt b5 95 [.int .i64 f_Rel, .slice a_f_Values f_Values.length c_f_Values], pt b4 113 [.int .i64 a_Rel, .slice a_a_Terms a_Terms.length c_a_Terms], pt b3 80 [.slice a_b_Vars b_Vars.length c_b_Vars, .slice a_b_Values b_Values.length c_b_Values]]) ?_ (fun kM _ => ?_))))
              · refine D.Kregion [b8, b6, b5, b4, b3] (fun j => !(Nat.beq j 15) && !(Nat.beq j 17)) mixed (D.Kyp 0 rfl rfl (by decide) (Y.fld fo_Binding_0 ty_Is (by decide) rfl) (by kernel_rfl) ?_)
                refine D.Ky 1 rfl rfl (by decide) (Y.ldK1 ty_Is rfl ((HasK.pt (mS (mS m0)) (by simp)).sub (cs' := [_]) 0 rfl) rfl) (by kernel_rfl) ?_
                refine D.Kyp 2 rfl rfl (by decide) (Y.mv rfl) (by kernel_rfl) ?_
                refine D.Kyp 5 rfl rfl (by decide) (Y.fld fo_Binding_1 ty_Is (by decide) rfl) (by kernel_rfl) ?_
                refine D.Ky 6 rfl rfl (by decide) (Y.ldK1 ty_Is rfl ((HasK.pt (mS (mS m0)) (by simp)).sub (cs' := [_]) 1 rfl) rfl) (by kernel_rfl) ?_
                refine D.Kyp 7 rfl rfl (by decide) (Y.fld fo_Fact_1 ty_Is (by decide) rfl) (by kernel_rfl) ?_
                refine D.Ky 8 rfl rfl (by decide) (Y.ldK1 ty_Is rfl ((HasK.pt (mS (mS (mS (mS m0)))) (by simp)).sub (cs' := [_]) 1 rfl) rfl) (by kernel_rfl) ?_
                refine D.Kyp 9 rfl rfl (by decide) (Y.mv rfl) (by kernel_rfl) ?_
                obtain ⟨eb63, eo63, ea63, ei63, eh63⟩ := hf_Values.elemI g (by omega)
                refine D.Kyp 10 rfl rfl (by decide) (Y.ix us_Is ty_I rfl ea63 rfl g rfl (by omega)) (by kernel_rfl) ?_
                refine D.Ky 11 rfl rfl (by decide) (Y.ldK1 ty_I rfl (HasK.ro eh63) rfl) (by kernel_rfl) ?_
                refine D.Kch2 (i := 3) (j := 12) (by kernel_rfl) ?_ ?_
                · refine D.Kpk 3 rfl rfl (fun _ _ => SameI.out) (N.bsl (pvs := [_]) (cs := [_]) us_Is ty_I rfl (by decide) (by decide) (fillZ rfl rfl) rfl (by decide)) (fun b56 _ => ?_)
                  refine D.Kch2 (i := 4) (j := 12) (by kernel_rfl) ?_ ?_
                  · refine Ent.p2 ?_
                    refine D.Kpk 4 rfl rfl (fun _ _ => SameI.out) (N.push (E := Enc.int) (ex := a_Terms[g]) us_Is ty_I rfl rfl rfl (Own.int ei43) rfl (by first | omega | (simp only [List.length_map, List.length_take, List.length_append, List.length_drop, List.length_cons, List.length_nil]; omega)) (by first | omega | (simp only [List.length_map, List.length_take, List.length_append, List.length_drop, List.length_cons, List.length_nil]; omega)) (by decide)) (fun p57 _ => ?_)
                    refine D.Kyp 14 rfl rfl (by decide) (Y.fld fo_Binding_0 ty_Is (by decide) rfl) (by kernel_rfl) ?_
                    refine D.Kst 12 rfl rfl (by kernel_rfl) (fun _ _ => SameI.out) (N.bsl (pvs := [_]) (cs := [_]) us_Is ty_I rfl (by decide) (by decide) (fillZ rfl rfl) rfl (by decide)) (fun b65 _ => ?_)
                    refine Ent.p2 ?_
                    refine D.Kst 13 rfl rfl (by kernel_rfl) (fun _ _ => SameI.out) (N.push (E := Enc.int) (ex := f_Values[g]) us_Is ty_I rfl rfl rfl (Own.int ei63) rfl (by first | omega | (simp only [List.length_map, List.length_take, List.length_append, List.length_drop, List.length_cons, List.length_nil]; omega)) (by first | omega | (simp only [List.length_map, List.length_take, List.length_append, List.length_drop, List.length_cons, List.length_nil]; omega)) (by decide)) (fun p66 _ => ?_)
                    refine Ent.p2 ?_
                    refine D.Kst 15 rfl rfl (by kernel_rfl) (fun h => by cases h) (N.sto (vs := [_]) (cs' := [_, _]) ty_Is rfl rfl rfl rfl rfl (Nat.le_of_ble_eq_true rfl) rfl) (fun _ _ => ?_)
                    refine D.Kyp 16 rfl rfl (by decide) (Y.fld fo_Binding_1 ty_Is (by decide) rfl) (by kernel_rfl) ?_
                    refine D.Kst 17 rfl rfl (by kernel_rfl) (fun h => by cases h) (N.sto (vs := [_]) (cs' := [_, _]) ty_Is rfl rfl rfl rfl rfl (Nat.le_of_ble_eq_true rfl) rfl) (fun _ _ => ?_)
                    refine D.Kdone (by kernel_rfl) (Ent.p6 ?_)
                    refine Ent.p6 ?_
                    refine Ent.p6 ?_
                    refine Ent.p6 ?_
                    refine Ent.p6 ?_
                    refine Ent.p6 ?_
                    refine Ent.p6 ?_
                    exact E.mdn (p57, p66) trivial ⟨rfl, rfl, rfl, rfl, rfl, rfl, rfl, rfl, trivial⟩ (.refl _)
                  · refine D.Kpk 12 rfl rfl (fun _ _ => SameI.out) (N.bsl (pvs := [_]) (cs := [_]) us_Is ty_I rfl (by decide) (by decide) (fillZ rfl rfl) rfl (by decide)) (fun b65 _ => ?_)
                    refine Ent.p1 ?_
                    refine Ent.p3 ?_
                    refine D.Kst 4 rfl rfl (by kernel_rfl) (fun _ _ => SameI.out) (N.push (E := Enc.int) (ex := a_Terms[g]) us_Is ty_I rfl rfl rfl (Own.int ei43) rfl (by first | omega | (simp only [List.length_map, List.length_take, List.length_append, List.length_drop, List.length_cons, List.length_nil]; omega)) (by first | omega | (simp only [List.length_map, List.length_take, List.length_append, List.length_drop, List.length_cons, List.length_nil]; omega)) (by decide)) (fun p57 _ => ?_)
                    refine D.Kyp 14 rfl rfl (by decide) (Y.fld fo_Binding_0 ty_Is (by decide) rfl) (by kernel_rfl) ?_
                    refine Ent.p1 ?_
                    refine Ent.p2 ?_
                    refine D.Kst 13 rfl rfl (by kernel_rfl) (fun _ _ => SameI.out) (N.push (E := Enc.int) (ex := f_Values[g]) us_Is ty_I rfl rfl rfl (Own.int ei63) rfl (by first | omega | (simp only [List.length_map, List.length_take, List.length_append, List.length_drop, List.length_cons, List.length_nil]; omega)) (by first | omega | (simp only [List.length_map, List.length_take, List.length_append, List.length_drop, List.length_cons, List.length_nil]; omega)) (by decide)) (fun p66 _ => ?_)
                    refine Ent.p2 ?_
                    refine D.Kst 15 rfl rfl (by kernel_rfl) (fun h => by cases h) (N.sto (vs := [_]) (cs' := [_, _]) ty_Is rfl rfl rfl rfl rfl (Nat.le_of_ble_eq_true rfl) rfl) (fun _ _ => ?_)
                    refine D.Kyp 16 rfl rfl (by decide) (Y.fld fo_Binding_1 ty_Is (by decide) rfl) (by kernel_rfl) ?_
                    refine D.Kst 17 rfl rfl (by kernel_rfl) (fun h => by cases h) (N.sto (vs := [_]) (cs' := [_, _]) ty_Is rfl rfl rfl rfl rfl (Nat.le_of_ble_eq_true rfl) rfl) (fun _ _ => ?_)
                    refine D.Kdone (by kernel_rfl) (Ent.p6 ?_)
                    refine Ent.p6 ?_
                    refine Ent.p6 ?_
                    refine Ent.p6 ?_
                    refine Ent.p6 ?_
                    refine Ent.p6 ?_
                    refine Ent.p6 ?_
                    exact E.mdn (p57, p66) trivial ⟨rfl, rfl, rfl, rfl, rfl, rfl, rfl, rfl, trivial⟩ (.refl _)
                · refine D.Kpk 12 rfl rfl (fun _ _ => SameI.out) (N.bsl (pvs := [_]) (cs := [_]) us_Is ty_I rfl (by decide) (by decide) (fillZ rfl rfl) rfl (by decide)) (fun b65 _ => ?_)
                  refine D.Kst 3 rfl rfl (by kernel_rfl) (fun _ _ => SameI.out) (N.bsl (pvs := [_]) (cs := [_]) us_Is ty_I rfl (by decide) (by decide) (fillZ rfl rfl) rfl (by decide)) (fun b56 _ => ?_)
                  refine Ent.p3 ?_
                  refine D.Kst 4 rfl rfl (by kernel_rfl) (fun _ _ => SameI.out) (N.push (E := Enc.int) (ex := a_Terms[g]) us_Is ty_I rfl rfl rfl (Own.int ei43) rfl (by first | omega | (simp only [List.length_map, List.length_take, List.length_append, List.length_drop, List.length_cons, List.length_nil]; omega)) (by first | omega | (simp only [List.length_map, List.length_take, List.length_append, List.length_drop, List.length_cons, List.length_nil]; omega)) (by decide)) (fun p57 _ => ?_)
                  refine D.Kyp 14 rfl rfl (by decide) (Y.fld fo_Binding_0 ty_Is (by decide) rfl) (by kernel_rfl) ?_
                  refine Ent.p1 ?_
                  refine Ent.p2 ?_
                  refine D.Kst 13 rfl rfl (by kernel_rfl) (fun _ _ => SameI.out) (N.push (E := Enc.int) (ex := f_Values[g]) us_Is ty_I rfl rfl rfl (Own.int ei63) rfl (by first | omega | (simp only [List.length_map, List.length_take, List.length_append, List.length_drop, List.length_cons, List.length_nil]; omega)) (by first | omega | (simp only [List.length_map, List.length_take, List.length_append, List.length_drop, List.length_cons, List.length_nil]; omega)) (by decide)) (fun p66 _ => ?_)
                  refine Ent.p2 ?_
                  refine D.Kst 15 rfl rfl (by kernel_rfl) (fun h => by cases h) (N.sto (vs := [_]) (cs' := [_, _]) ty_Is rfl rfl rfl rfl rfl (Nat.le_of_ble_eq_true rfl) rfl) (fun _ _ => ?_)
                  refine D.Kyp 16 rfl rfl (by decide) (Y.fld fo_Binding_1 ty_Is (by decide) rfl) (by kernel_rfl) ?_
                  refine D.Kst 17 rfl rfl (by kernel_rfl) (fun h => by cases h) (N.sto (vs := [_]) (cs' := [_, _]) ty_Is rfl rfl rfl rfl rfl (Nat.le_of_ble_eq_true rfl) rfl) (fun _ _ => ?_)
                  refine D.Kdone (by kernel_rfl) (Ent.p6 ?_)
                  refine Ent.p6 ?_
                  refine Ent.p6 ?_
                  refine Ent.p6 ?_
                  refine Ent.p6 ?_
                  refine Ent.p6 ?_
                  refine Ent.p6 ?_
                  exact E.mdn (p57, p66) trivial ⟨rfl, rfl, rfl, rfl, rfl, rfl, rfl, rfl, trivial⟩ (.refl _)
              · obtain ⟨p57, p66⟩ := kM
                show Ent _ _ _ [(5, .pointer (some ⟨b5, 0, none⟩)), (6, .pointer (some ⟨b6, 0, none⟩)), (8, .pointer (some ⟨b8, 0, none⟩)), (9, .int .i64 (↑g : Int)), (10, .int .i64 a_Terms[g]), (38, .slice a_a_Terms a_Terms.length c_a_Terms), (39, .int .i64 (↑a_Terms.length : Int)), (40, .int .i64 (↑g : Int))] [pt b8 80 [.slice p57.1 (((foldV (b_Vars, b_Values) ((a_Terms.zip f_Values).take g)).1).length + 1) p57.2, .slice p66.1 (((foldV (b_Vars, b_Values) ((a_Terms.zip f_Values).take g)).2).length + 1) p66.2], ow eIs [.slice p66.1 (((foldV (b_Vars, b_Values) ((a_Terms.zip f_Values).take g)).2).length + 1) p66.2] (((foldV (b_Vars, b_Values) ((a_Terms.zip f_Values).take g)).2) ++ [f_Values[g]]), ow eIs [.slice p57.1 (((foldV (b_Vars, b_Values) ((a_Terms.zip f_Values).take g)).1).length + 1) p57.2] (((foldV (b_Vars, b_Values) ((a_Terms.zip f_Values).take g)).1) ++ [a_Terms[g]]), pt b6 80 [.slice none 0 0, .slice none 0 0], pt b5 95 [.int .i64 f_Rel, .slice a_f_Values f_Values.length c_f_Values], pt b4 113 [.int .i64 a_Rel, .slice a_a_Terms a_Terms.length c_a_Terms], pt b3 80 [.slice a_b_Vars b_Vars.length c_b_Vars, .slice a_b_Values b_Values.length c_b_Values]] _
                refine E.thn (E.seq (D.region (fun j => true) mixed (D.y 0 rfl rfl (by decide) (Y.ldS (cs := [_, _]) ty_Binding rfl (Has.pt m0) rfl) (by kernel_rfl) ?_)))
                refine D.yp 1 rfl rfl (by decide) (Y.mv rfl) (by kernel_rfl) ?_
                refine D.yp 3 rfl rfl (by decide) (Y.fld fo_Fact_1 ty_Is (by decide) rfl) (by kernel_rfl) ?_
                refine D.y 4 rfl rfl (by decide) (Y.ld1 ty_Is rfl ((Has.pt (mS (mS (mS (mS m0))))).sub (cs' := [_]) 1 rfl) rfl) (by kernel_rfl) ?_
                refine D.yp 5 rfl rfl (by decide) (Y.mv rfl) (by kernel_rfl) ?_
                obtain ⟨eb75, eo75, ea75, ei75, eh75⟩ := hf_Values.elemI g (by omega)
                refine D.yp 6 rfl rfl (by decide) (Y.ix us_Is ty_I rfl ea75 rfl g rfl (by omega)) (by kernel_rfl) ?_
                refine D.y 7 rfl rfl (by decide) (Y.ld1 ty_I rfl (eh75 _) rfl) (by kernel_rfl) ?_
                refine D.st 2 rfl rfl (by kernel_rfl) (fun _ => rfl) (N.call0 t_impl_ValueOf rfl rfl rfl (by decide) (fun w Lp hA => ⟨hA.ow (mS (mS m0)), hA.ow (mS m0)⟩)) (fun _ _ => ?_)
                refine D.yp 8 rfl rfl (by decide) (Y.neq rfl rfl) (by kernel_rfl) (Ent.d (fun q77 => ?_) (fun q77 => ?_))
                · refine D.done (by kernel_rfl) (E.thn (E.ct rfl (E.seq (E.region (l := [0, 1, 2]) rfl (E.y rfl rfl (by decide) ((Y.bld (pvs := []) (cs := [_, _]) ty_Binding pl_Binding rfl rfl).yd) ?_)))))
                  refine Ent.p3 ?_
                  refine E.st rfl rfl (N.sto (vs := [_, _]) (cs' := [_, _]) ty_Binding rfl rfl rfl rfl rfl (Nat.le_of_ble_eq_true rfl) rfl) (fun _ _ => ?_)
                  refine E.y rfl rfl (by decide) ((Y.as rfl).yd) ?_
                  refine E.nil (E.thn (E.ret (E.blr (E.thr (E.thr (E.blr (E.thr (Ent.mkow (A := []) (Own.nil (E := Enc.int) (e := tI) (a := none)) rfl ?_))))))))
                  refine Ent.cv (congrArg (ow eIs [_]) (show _ = cond (matchB (b_Vars, b_Values) (a_Rel, a_Terms) (f_Rel, f_Values)) (matchV (b_Vars, b_Values) (a_Rel, a_Terms) (f_Rel, f_Values)).2 [] by grind [matchB, matchV, okV_step, okV_end, fv_step, fv_all, addV, unb_idx, List.drop_eq_getElem_cons, List.drop_eq_nil_of_le, List.take_succ_eq_append_getElem, List.take_of_length_le])) ?_
                  refine Ent.mkow (A := []) (Own.nil (E := Enc.int) (e := tI) (a := none)) rfl ?_
                  refine Ent.cv (congrArg (ow eIs [_]) (show _ = cond (matchB (b_Vars, b_Values) (a_Rel, a_Terms) (f_Rel, f_Values)) (matchV (b_Vars, b_Values) (a_Rel, a_Terms) (f_Rel, f_Values)).1 [] by grind [matchB, matchV, okV_step, okV_end, fv_step, fv_all, addV, unb_idx, List.drop_eq_getElem_cons, List.drop_eq_nil_of_le, List.take_succ_eq_append_getElem, List.take_of_length_le])) ?_
                  refine Ent.p1 ?_
                  refine Ent.p1 ?_
                  exact F.c2 (Back.refl _ _) rfl rfl rfl (mS (mS m0)) ty_Binding rfl ((none, 0, 0), (none, 0, 0)) trivial (by rw [show (matchB (b_Vars, b_Values) (a_Rel, a_Terms) (f_Rel, f_Values)) = (false) from (by grind [matchB, matchV, okV_step, okV_end, fv_step, fv_all, addV, unb_idx, List.drop_eq_getElem_cons, List.drop_eq_nil_of_le, List.take_succ_eq_append_getElem, List.take_of_length_le])]; try rfl) (J := _) (.refl _) (.inl rfl)
                · refine D.done (by kernel_rfl) (E.thn (E.cf rfl (E.skipc (E.bln (E.thn (E.region (l := [0, 1]) rfl (E.y rfl rfl (by decide) ((Y.add rfl rfl (by omega) (by omega)).yd) ?_)))))))
                  refine E.y rfl rfl (by decide) ((Y.mv rfl).yd) ?_
                  refine E.nil (E.thn (Ent.p2 ?_))
                  refine Ent.cv (congrArg (ow eIs [_]) (show ((foldV (b_Vars, b_Values) ((a_Terms.zip f_Values).take g)).1) ++ [a_Terms[g]] = (foldV (b_Vars, b_Values) ((a_Terms.zip f_Values).take (g + 1))).1 from by grind [matchB, matchV, okV_step, okV_end, fv_step, fv_all, addV, unb_idx, List.drop_eq_getElem_cons, List.drop_eq_nil_of_le, List.take_succ_eq_append_getElem, List.take_of_length_le])) ?_
                  refine Ent.p2 ?_
                  refine Ent.cv (congrArg (ow eIs [_]) (show ((foldV (b_Vars, b_Values) ((a_Terms.zip f_Values).take g)).2) ++ [f_Values[g]] = (foldV (b_Vars, b_Values) ((a_Terms.zip f_Values).take (g + 1))).2 from by grind [matchB, matchV, okV_step, okV_end, fv_step, fv_all, addV, unb_idx, List.drop_eq_getElem_cons, List.drop_eq_nil_of_le, List.take_succ_eq_append_getElem, List.take_of_length_le])) ?_
                  refine Ent.p6 ?_
                  refine Ent.p6 ?_
                  refine Ent.p6 ?_
                  refine Ent.p6 ?_
                  refine Ent.p6 ?_
                  refine Ent.p6 ?_
                  refine Ent.p6 ?_
                  exact E.again (Back.refl _ _) (g + 1, p57.1, (((foldV (b_Vars, b_Values) ((a_Terms.zip f_Values).take g)).1).length + 1), p57.2, p66.1, (((foldV (b_Vars, b_Values) ((a_Terms.zip f_Values).take g)).2).length + 1), p66.2) ⟨rfl, rfl, rfl, rfl, rfl, rfl, trivial⟩ (.refl _) ⟨(show g + 1 ≤ a_Terms.length from by omega), (show okV (b_Vars, b_Values) (a_Terms.zip f_Values) = okV (foldV (b_Vars, b_Values) ((a_Terms.zip f_Values).take (g + 1))) ((a_Terms.zip f_Values).drop (g + 1)) from by grind [matchB, matchV, okV_step, okV_end, fv_step, fv_all, addV, unb_idx, List.drop_eq_getElem_cons, List.drop_eq_nil_of_le, List.take_succ_eq_append_getElem, List.take_of_length_le])⟩ (show a_Terms.length - (g + 1) < a_Terms.length - g from by omega)
            · refine E.y rfl rfl (by decide) ((Y.pkt rfl rfl).yd) ?_
              refine E.nil (E.thn (E.cf rfl (E.skipc (E.thn (E.seq (D.region (fun j => true) mixed (D.y 0 rfl rfl (by decide) (Y.ldS (cs := [_, _]) ty_Binding rfl (Has.pt (mS (mS m0))) rfl) (by kernel_rfl) ?_)))))))
              refine D.yp 1 rfl rfl (by decide) (Y.mv rfl) (by kernel_rfl) ?_
              refine D.yp 3 rfl rfl (by decide) (Y.fld fo_Fact_1 ty_Is (by decide) rfl) (by kernel_rfl) ?_
              refine D.y 4 rfl rfl (by decide) (Y.ld1 ty_Is rfl ((Has.pt (mS (mS (mS (mS m0))))).sub (cs' := [_]) 1 rfl) rfl) (by kernel_rfl) ?_
              refine D.yp 5 rfl rfl (by decide) (Y.mv rfl) (by kernel_rfl) ?_
              obtain ⟨eb75, eo75, ea75, ei75, eh75⟩ := hf_Values.elemI g (by omega)
              refine D.yp 6 rfl rfl (by decide) (Y.ix us_Is ty_I rfl ea75 rfl g rfl (by omega)) (by kernel_rfl) ?_
              refine D.y 7 rfl rfl (by decide) (Y.ld1 ty_I rfl (eh75 _) rfl) (by kernel_rfl) ?_
              refine D.st 2 rfl rfl (by kernel_rfl) (fun _ => rfl) (N.call0 t_impl_ValueOf rfl rfl rfl (by decide) (fun w Lp hA => ⟨hA.ow (mS m0), hA.ow m0⟩)) (fun _ _ => ?_)
              refine D.yp 8 rfl rfl (by decide) (Y.neq rfl rfl) (by kernel_rfl) (Ent.d (fun q77 => ?_) (fun q77 => ?_))
              · refine D.done (by kernel_rfl) (E.thn (E.ct rfl (E.seq (E.region (l := [0, 1, 2]) rfl (E.y rfl rfl (by decide) ((Y.bld (pvs := []) (cs := [_, _]) ty_Binding pl_Binding rfl rfl).yd) ?_)))))
                refine Ent.p3 ?_
                refine E.st rfl rfl (N.sto (vs := [_, _]) (cs' := [_, _]) ty_Binding rfl rfl rfl rfl rfl (Nat.le_of_ble_eq_true rfl) rfl) (fun _ _ => ?_)
                refine E.y rfl rfl (by decide) ((Y.as rfl).yd) ?_
                refine E.nil (E.thn (E.ret (E.blr (E.thr (E.thr (E.blr (E.thr (Ent.mkow (A := []) (Own.nil (E := Enc.int) (e := tI) (a := none)) rfl ?_))))))))
                refine Ent.cv (congrArg (ow eIs [_]) (show _ = cond (matchB (b_Vars, b_Values) (a_Rel, a_Terms) (f_Rel, f_Values)) (matchV (b_Vars, b_Values) (a_Rel, a_Terms) (f_Rel, f_Values)).2 [] by grind [matchB, matchV, okV_step, okV_end, fv_step, fv_all, addV, unb_idx, List.drop_eq_getElem_cons, List.drop_eq_nil_of_le, List.take_succ_eq_append_getElem, List.take_of_length_le])) ?_
                refine Ent.mkow (A := []) (Own.nil (E := Enc.int) (e := tI) (a := none)) rfl ?_
                refine Ent.cv (congrArg (ow eIs [_]) (show _ = cond (matchB (b_Vars, b_Values) (a_Rel, a_Terms) (f_Rel, f_Values)) (matchV (b_Vars, b_Values) (a_Rel, a_Terms) (f_Rel, f_Values)).1 [] by grind [matchB, matchV, okV_step, okV_end, fv_step, fv_all, addV, unb_idx, List.drop_eq_getElem_cons, List.drop_eq_nil_of_le, List.take_succ_eq_append_getElem, List.take_of_length_le])) ?_
                refine Ent.p1 ?_
                refine Ent.p1 ?_
                exact F.c2 (Back.refl _ _) rfl rfl rfl (mS (mS m0)) ty_Binding rfl ((none, 0, 0), (none, 0, 0)) trivial (by rw [show (matchB (b_Vars, b_Values) (a_Rel, a_Terms) (f_Rel, f_Values)) = (false) from (by grind [matchB, matchV, okV_step, okV_end, fv_step, fv_all, addV, unb_idx, List.drop_eq_getElem_cons, List.drop_eq_nil_of_le, List.take_succ_eq_append_getElem, List.take_of_length_le])]; try rfl) (J := _) (.refl _) (.inl rfl)
              · refine D.done (by kernel_rfl) (E.thn (E.cf rfl (E.skipc (E.bln (E.thn (E.region (l := [0, 1]) rfl (E.y rfl rfl (by decide) ((Y.add rfl rfl (by omega) (by omega)).yd) ?_)))))))
                refine E.y rfl rfl (by decide) ((Y.mv rfl).yd) ?_
                refine E.nil (E.thn (Ent.p1 ?_))
                refine Ent.cv (congrArg (ow eIs [_]) (show (foldV (b_Vars, b_Values) ((a_Terms.zip f_Values).take g)).1 = (foldV (b_Vars, b_Values) ((a_Terms.zip f_Values).take (g + 1))).1 from by grind [matchB, matchV, okV_step, okV_end, fv_step, fv_all, addV, unb_idx, List.drop_eq_getElem_cons, List.drop_eq_nil_of_le, List.take_succ_eq_append_getElem, List.take_of_length_le])) ?_
                refine Ent.p1 ?_
                refine Ent.cv (congrArg (ow eIs [_]) (show (foldV (b_Vars, b_Values) ((a_Terms.zip f_Values).take g)).2 = (foldV (b_Vars, b_Values) ((a_Terms.zip f_Values).take (g + 1))).2 from by grind [matchB, matchV, okV_step, okV_end, fv_step, fv_all, addV, unb_idx, List.drop_eq_getElem_cons, List.drop_eq_nil_of_le, List.take_succ_eq_append_getElem, List.take_of_length_le])) ?_
                refine Ent.p6 ?_
                refine Ent.p6 ?_
                refine Ent.p6 ?_
                refine Ent.p6 ?_
                refine Ent.p6 ?_
                refine Ent.p6 ?_
                refine Ent.p6 ?_
                exact E.again (Back.refl _ _) (g + 1, aA0_0, ((foldV (b_Vars, b_Values) ((a_Terms.zip f_Values).take g)).1).length, cA0_0, aA0_1, ((foldV (b_Vars, b_Values) ((a_Terms.zip f_Values).take g)).2).length, cA0_1) ⟨rfl, rfl, rfl, rfl, rfl, rfl, trivial⟩ (.refl _) ⟨(show g + 1 ≤ a_Terms.length from by omega), (show okV (b_Vars, b_Values) (a_Terms.zip f_Values) = okV (foldV (b_Vars, b_Values) ((a_Terms.zip f_Values).take (g + 1))) ((a_Terms.zip f_Values).drop (g + 1)) from by grind [matchB, matchV, okV_step, okV_end, fv_step, fv_all, addV, unb_idx, List.drop_eq_getElem_cons, List.drop_eq_nil_of_le, List.take_succ_eq_append_getElem, List.take_of_length_le])⟩ (show a_Terms.length - (g + 1) < a_Terms.length - g from by omega)
          · refine E.y rfl rfl (by decide) ((Y.mv rfl).yd) ?_
            refine E.skip rfl rfl rfl ?_
            refine E.skip rfl rfl rfl ?_
            refine E.skip rfl rfl rfl ?_
            refine E.skip rfl rfl rfl ?_
            refine E.y rfl rfl (by decide) ((Y.pkf rfl rfl).yd) ?_
            refine E.nil (E.thn (E.cf rfl (E.skipc (E.thn (E.seq (D.region (fun j => true) mixed (D.y 0 rfl rfl (by decide) (Y.ldS (cs := [_, _]) ty_Binding rfl (Has.pt (mS (mS m0))) rfl) (by kernel_rfl) ?_)))))))
            refine D.yp 1 rfl rfl (by decide) (Y.mv rfl) (by kernel_rfl) ?_
            refine D.yp 3 rfl rfl (by decide) (Y.fld fo_Fact_1 ty_Is (by decide) rfl) (by kernel_rfl) ?_
            refine D.y 4 rfl rfl (by decide) (Y.ld1 ty_Is rfl ((Has.pt (mS (mS (mS (mS m0))))).sub (cs' := [_]) 1 rfl) rfl) (by kernel_rfl) ?_
            refine D.yp 5 rfl rfl (by decide) (Y.mv rfl) (by kernel_rfl) ?_
            obtain ⟨eb75, eo75, ea75, ei75, eh75⟩ := hf_Values.elemI g (by omega)
            refine D.yp 6 rfl rfl (by decide) (Y.ix us_Is ty_I rfl ea75 rfl g rfl (by omega)) (by kernel_rfl) ?_
            refine D.y 7 rfl rfl (by decide) (Y.ld1 ty_I rfl (eh75 _) rfl) (by kernel_rfl) ?_
            refine D.st 2 rfl rfl (by kernel_rfl) (fun _ => rfl) (N.call0 t_impl_ValueOf rfl rfl rfl (by decide) (fun w Lp hA => ⟨hA.ow (mS m0), hA.ow m0⟩)) (fun _ _ => ?_)
            refine D.yp 8 rfl rfl (by decide) (Y.neq rfl rfl) (by kernel_rfl) (Ent.d (fun q77 => ?_) (fun q77 => ?_))
            · refine D.done (by kernel_rfl) (E.thn (E.ct rfl (E.seq (E.region (l := [0, 1, 2]) rfl (E.y rfl rfl (by decide) ((Y.bld (pvs := []) (cs := [_, _]) ty_Binding pl_Binding rfl rfl).yd) ?_)))))
              refine Ent.p3 ?_
              refine E.st rfl rfl (N.sto (vs := [_, _]) (cs' := [_, _]) ty_Binding rfl rfl rfl rfl rfl (Nat.le_of_ble_eq_true rfl) rfl) (fun _ _ => ?_)
              refine E.y rfl rfl (by decide) ((Y.as rfl).yd) ?_
              refine E.nil (E.thn (E.ret (E.blr (E.thr (E.thr (E.blr (E.thr (Ent.mkow (A := []) (Own.nil (E := Enc.int) (e := tI) (a := none)) rfl ?_))))))))
              refine Ent.cv (congrArg (ow eIs [_]) (show _ = cond (matchB (b_Vars, b_Values) (a_Rel, a_Terms) (f_Rel, f_Values)) (matchV (b_Vars, b_Values) (a_Rel, a_Terms) (f_Rel, f_Values)).2 [] by grind [matchB, matchV, okV_step, okV_end, fv_step, fv_all, addV, unb_idx, List.drop_eq_getElem_cons, List.drop_eq_nil_of_le, List.take_succ_eq_append_getElem, List.take_of_length_le])) ?_
              refine Ent.mkow (A := []) (Own.nil (E := Enc.int) (e := tI) (a := none)) rfl ?_
              refine Ent.cv (congrArg (ow eIs [_]) (show _ = cond (matchB (b_Vars, b_Values) (a_Rel, a_Terms) (f_Rel, f_Values)) (matchV (b_Vars, b_Values) (a_Rel, a_Terms) (f_Rel, f_Values)).1 [] by grind [matchB, matchV, okV_step, okV_end, fv_step, fv_all, addV, unb_idx, List.drop_eq_getElem_cons, List.drop_eq_nil_of_le, List.take_succ_eq_append_getElem, List.take_of_length_le])) ?_
              refine Ent.p1 ?_
              refine Ent.p1 ?_
              exact F.c2 (Back.refl _ _) rfl rfl rfl (mS (mS m0)) ty_Binding rfl ((none, 0, 0), (none, 0, 0)) trivial (by rw [show (matchB (b_Vars, b_Values) (a_Rel, a_Terms) (f_Rel, f_Values)) = (false) from (by grind [matchB, matchV, okV_step, okV_end, fv_step, fv_all, addV, unb_idx, List.drop_eq_getElem_cons, List.drop_eq_nil_of_le, List.take_succ_eq_append_getElem, List.take_of_length_le])]; try rfl) (J := _) (.refl _) (.inl rfl)
            · refine D.done (by kernel_rfl) (E.thn (E.cf rfl (E.skipc (E.bln (E.thn (E.region (l := [0, 1]) rfl (E.y rfl rfl (by decide) ((Y.add rfl rfl (by omega) (by omega)).yd) ?_)))))))
              refine E.y rfl rfl (by decide) ((Y.mv rfl).yd) ?_
              refine E.nil (E.thn (Ent.p1 ?_))
              refine Ent.cv (congrArg (ow eIs [_]) (show (foldV (b_Vars, b_Values) ((a_Terms.zip f_Values).take g)).1 = (foldV (b_Vars, b_Values) ((a_Terms.zip f_Values).take (g + 1))).1 from by grind [matchB, matchV, okV_step, okV_end, fv_step, fv_all, addV, unb_idx, List.drop_eq_getElem_cons, List.drop_eq_nil_of_le, List.take_succ_eq_append_getElem, List.take_of_length_le])) ?_
              refine Ent.p1 ?_
              refine Ent.cv (congrArg (ow eIs [_]) (show (foldV (b_Vars, b_Values) ((a_Terms.zip f_Values).take g)).2 = (foldV (b_Vars, b_Values) ((a_Terms.zip f_Values).take (g + 1))).2 from by grind [matchB, matchV, okV_step, okV_end, fv_step, fv_all, addV, unb_idx, List.drop_eq_getElem_cons, List.drop_eq_nil_of_le, List.take_succ_eq_append_getElem, List.take_of_length_le])) ?_
              refine Ent.p6 ?_
              refine Ent.p6 ?_
              refine Ent.p6 ?_
              refine Ent.p6 ?_
              refine Ent.p6 ?_
              refine Ent.p6 ?_
              refine Ent.p6 ?_
              exact E.again (Back.refl _ _) (g + 1, aA0_0, ((foldV (b_Vars, b_Values) ((a_Terms.zip f_Values).take g)).1).length, cA0_0, aA0_1, ((foldV (b_Vars, b_Values) ((a_Terms.zip f_Values).take g)).2).length, cA0_1) ⟨rfl, rfl, rfl, rfl, rfl, rfl, trivial⟩ (.refl _) ⟨(show g + 1 ≤ a_Terms.length from by omega), (show okV (b_Vars, b_Values) (a_Terms.zip f_Values) = okV (foldV (b_Vars, b_Values) ((a_Terms.zip f_Values).take (g + 1))) ((a_Terms.zip f_Values).drop (g + 1)) from by grind [matchB, matchV, okV_step, okV_end, fv_step, fv_all, addV, unb_idx, List.drop_eq_getElem_cons, List.drop_eq_nil_of_le, List.take_succ_eq_append_getElem, List.take_of_length_le])⟩ (show a_Terms.length - (g + 1) < a_Terms.length - g from by omega)
        · refine E.nil (E.thn (E.seq (E.cf rfl (E.exit (E.the (E.the (E.blh (E.thn (E.seq (E.region (l := [0, 1, 2]) rfl (E.y rfl rfl (by decide) (Y.ldS (cs := [_, _]) ty_Binding rfl (Has.pt (mS (mS m0))) rfl) ?_)))))))))))
          refine Ent.p3 ?_
          refine E.st rfl rfl (N.sto (vs := [_, _]) (cs' := [_, _]) ty_Binding rfl rfl rfl rfl rfl (Nat.le_of_ble_eq_true rfl) rfl) (fun _ _ => ?_)
          refine E.y rfl rfl (by decide) ((Y.as rfl).yd) ?_
          refine E.nil (E.thn (E.ret (Ent.p1 ?_)))
          refine Ent.cv (congrArg (ow eIs [_]) (show _ = cond (matchB (b_Vars, b_Values) (a_Rel, a_Terms) (f_Rel, f_Values)) (matchV (b_Vars, b_Values) (a_Rel, a_Terms) (f_Rel, f_Values)).2 [] by grind [matchB, matchV, okV_step, okV_end, fv_step, fv_all, addV, unb_idx, List.drop_eq_getElem_cons, List.drop_eq_nil_of_le, List.take_succ_eq_append_getElem, List.take_of_length_le])) ?_
          refine Ent.p2 ?_
          refine Ent.cv (congrArg (ow eIs [_]) (show _ = cond (matchB (b_Vars, b_Values) (a_Rel, a_Terms) (f_Rel, f_Values)) (matchV (b_Vars, b_Values) (a_Rel, a_Terms) (f_Rel, f_Values)).1 [] by grind [matchB, matchV, okV_step, okV_end, fv_step, fv_all, addV, unb_idx, List.drop_eq_getElem_cons, List.drop_eq_nil_of_le, List.take_succ_eq_append_getElem, List.take_of_length_le])) ?_
          refine Ent.p1 ?_
          refine Ent.p1 ?_
          exact F.c2 (Back.refl _ _) rfl rfl rfl (mS (mS m0)) ty_Binding rfl ((_, _, _), (_, _, _)) trivial (by rw [show (matchB (b_Vars, b_Values) (a_Rel, a_Terms) (f_Rel, f_Values)) = (true) from (by grind [matchB, matchV, okV_step, okV_end, fv_step, fv_all, addV, unb_idx, List.drop_eq_getElem_cons, List.drop_eq_nil_of_le, List.take_succ_eq_append_getElem, List.take_of_length_le])]; try rfl) (J := _) (.refl _) (.inl rfl)
theorem t_spec_MatchAtom {a_b_Vars : Option Addr} {m_b_Vars c_b_Vars : Nat} {b_Vars : List Int} {a_b_Values : Option Addr} {m_b_Values c_b_Values : Nat} {b_Values : List Int} {a_Rel : Int} {a_a_Terms : Option Addr} {m_a_Terms c_a_Terms : Nat} {a_Terms : List Int} {f_Rel : Int} {a_f_Values : Option Addr} {m_f_Values c_f_Values : Nat} {f_Values : List Int} (hb1 : b_Vars.length ≤ 1000) (hb2 : b_Values.length ≤ 1000) (hat : a_Terms.length ≤ 1000) : Tr Tryz.prog 174 [.agg #[.slice a_b_Vars m_b_Vars c_b_Vars, .slice a_b_Values m_b_Values c_b_Values], .agg #[.int .i64 a_Rel, .slice a_a_Terms m_a_Terms c_a_Terms], .agg #[.int .i64 f_Rel, .slice a_f_Values m_f_Values c_f_Values]] (fun w L => Ro w L eIs [.slice a_b_Vars m_b_Vars c_b_Vars] b_Vars ∧ Ro w L eIs [.slice a_b_Values m_b_Values c_b_Values] b_Values ∧ I64 a_Rel ∧ Ro w L eIs [.slice a_a_Terms m_a_Terms c_a_Terms] a_Terms ∧ I64 f_Rel ∧ Ro w L eIs [.slice a_f_Values m_f_Values c_f_Values] f_Values) [] (κ := (Option Addr × Nat × Nat) × (Option Addr × Nat × Nat)) (fun k => True) (fun k => .tuple #[.agg #[.slice k.1.1 k.1.2.1 k.1.2.2, .slice k.2.1 k.2.2.1 k.2.2.2], .bool (matchB (b_Vars, b_Values) (a_Rel, a_Terms) (f_Rel, f_Values))]) (fun k => [ow eIs [.slice k.1.1 k.1.2.1 k.1.2.2] (cond (matchB (b_Vars, b_Values) (a_Rel, a_Terms) (f_Rel, f_Values)) (matchV (b_Vars, b_Values) (a_Rel, a_Terms) (f_Rel, f_Values)).1 []), ow eIs [.slice k.2.1 k.2.2.1 k.2.2.2] (cond (matchB (b_Vars, b_Values) (a_Rel, a_Terms) (f_Rel, f_Values)) (matchV (b_Vars, b_Values) (a_Rel, a_Terms) (f_Rel, f_Values)).2 [])]) := by
  refine Tr.intro Tryz.func174 rfl (n := 88) rfl (by decide +kernel) (Nat.le_of_ble_eq_true rfl) (fr := [(0, .agg #[.slice a_b_Vars m_b_Vars c_b_Vars, .slice a_b_Values m_b_Values c_b_Values]), (1, .agg #[.int .i64 a_Rel, .slice a_a_Terms m_a_Terms c_a_Terms]), (2, .agg #[.int .i64 f_Rel, .slice a_f_Values m_f_Values c_f_Values])]) rfl fun w L hR => ?_
  obtain ⟨hb_Vars, hb_Values, i6a_Rel, ha_Terms, i6f_Rel, hf_Values⟩ := hR
  obtain ⟨rfl, lb_Vars⟩ := hb_Vars.slen
  obtain ⟨rfl, lb_Values⟩ := hb_Values.slen
  obtain ⟨rfl, la_Terms⟩ := ha_Terms.slen
  obtain ⟨rfl, lf_Values⟩ := hf_Values.slen
  refine E.seq (E.region (l := [0, 1, 2, 3, 4]) rfl (E.st rfl rfl (N.box (cs := [_, _]) rfl (by decide) rfl) (fun b3 _ => ?_)))
  refine E.st rfl rfl (N.box (cs := [_, _]) rfl (by decide) rfl) (fun b4 _ => ?_)
  refine E.st rfl rfl (N.box (cs := [_, _]) rfl (by decide) rfl) (fun b5 _ => ?_)
  refine E.st rfl rfl (N.alloc ty_Binding (by decide)) (fun b6 _ => ?_)
  refine E.y rfl rfl (by decide) ((Y.as rfl).yd) ?_
  refine E.nil (E.thn (E.seq (E.region (l := [0, 1, 2, 3]) rfl (E.y rfl rfl (by decide) (Y.ldS (cs := [_, _]) ty_Binding rfl (Has.pt (mS (mS (mS m0)))) rfl) ?_))))
  refine E.st rfl rfl (N.call (t_spec_l4Copy (by first | omega | assumption | (constructor <;> omega)) (by first | omega | assumption | (constructor <;> omega))) rfl rfl rfl (by decide) rfl (fun w Lp hA => ⟨hA.ro hb_Vars, hA.ro hb_Values⟩)) (fun k12 _ => ?_)
  obtain ⟨⟨a12_0, m12_0, c12_0⟩, ⟨a12_1, m12_1, c12_1⟩⟩ := k12
  refine Ent.lenow m0 fun e12_0 l12_0 => ?_
  subst e12_0
  refine Ent.lenow (mS m0) fun e12_1 l12_1 => ?_
  subst e12_1
  refine E.st rfl rfl (N.alloc ty_Binding (by decide)) (fun b8 _ => ?_)
  refine E.st rfl rfl (N.sto (vs := [_, _]) (cs' := [_, _]) ty_Binding rfl rfl rfl rfl rfl (Nat.le_of_ble_eq_true rfl) rfl) (fun _ _ => ?_)
  refine E.nil (E.thn (E.seq (E.seq (E.region (l := [0, 1, 2, 3, 4, 5, 6, 7, 8, 9, 10, 11, 12, 13, 14, 15, 16, 17, 18, 19, 20, 21, 22]) rfl (E.y rfl rfl (by decide) ((Y.fld fo_Atom_0 ty_I (by decide) rfl).yd) ?_)))))
  refine E.y rfl rfl (by decide) (Y.ld1 ty_I rfl ((Has.pt (mS (mS (mS (mS (mS m0)))))).sub (cs' := [_]) 0 rfl) rfl) ?_
  refine E.y rfl rfl (by decide) ((Y.fld fo_Fact_0 ty_I (by decide) rfl).yd) ?_
  refine E.y rfl rfl (by decide) (Y.ld1 ty_I rfl ((Has.pt (mS (mS (mS (mS m0))))).sub (cs' := [_]) 0 rfl) rfl) ?_
  refine E.y rfl rfl (by decide) ((Y.neq rfl rfl).yd) (Ent.d (fun q17 => ?_) (fun q17 => ?_))
  · refine E.y rfl rfl (by decide) ((Y.mv rfl).yd) ?_
    refine E.skip rfl rfl rfl ?_
    refine E.skip rfl rfl rfl ?_
    refine E.skip rfl rfl rfl ?_
    refine E.skip rfl rfl rfl ?_
    refine E.skip rfl rfl rfl ?_
    refine E.skip rfl rfl rfl ?_
    refine E.skip rfl rfl rfl ?_
    refine E.y rfl rfl (by decide) ((Y.pkt rfl rfl).yd) ?_
    refine E.y rfl rfl (by decide) ((Y.mv rfl).yd) ?_
    refine E.skip rfl rfl rfl ?_
    refine E.skip rfl rfl rfl ?_
    refine E.skip rfl rfl rfl ?_
    refine E.skip rfl rfl rfl ?_
    refine E.skip rfl rfl rfl ?_
    refine E.skip rfl rfl rfl ?_
    refine E.skip rfl rfl rfl ?_
    refine E.y rfl rfl (by decide) ((Y.pkt rfl rfl).yd) ?_
    refine E.nil (E.thn (E.ct rfl (E.seq (E.region (l := [0, 1, 2]) rfl (E.y rfl rfl (by decide) ((Y.bld (pvs := []) (cs := [_, _]) ty_Binding pl_Binding rfl rfl).yd) ?_)))))
    refine Ent.p3 ?_
    refine E.st rfl rfl (N.sto (vs := [_, _]) (cs' := [_, _]) ty_Binding rfl rfl rfl rfl rfl (Nat.le_of_ble_eq_true rfl) rfl) (fun _ _ => ?_)
    refine E.y rfl rfl (by decide) ((Y.as rfl).yd) ?_
    refine E.nil (E.thn (E.ret (E.thr (Ent.mkow (A := []) (Own.nil (E := Enc.int) (e := tI) (a := none)) rfl ?_))))
    refine Ent.cv (congrArg (ow eIs [_]) (show _ = cond (matchB (b_Vars, b_Values) (a_Rel, a_Terms) (f_Rel, f_Values)) (matchV (b_Vars, b_Values) (a_Rel, a_Terms) (f_Rel, f_Values)).2 [] by grind [matchB, matchV, okV_step, okV_end, fv_step, fv_all, addV, unb_idx, val_ok, List.drop_eq_getElem_cons, List.drop_eq_nil_of_le, List.take_succ_eq_append_getElem, List.take_of_length_le])) ?_
    refine Ent.mkow (A := []) (Own.nil (E := Enc.int) (e := tI) (a := none)) rfl ?_
    refine Ent.cv (congrArg (ow eIs [_]) (show _ = cond (matchB (b_Vars, b_Values) (a_Rel, a_Terms) (f_Rel, f_Values)) (matchV (b_Vars, b_Values) (a_Rel, a_Terms) (f_Rel, f_Values)).1 [] by grind [matchB, matchV, okV_step, okV_end, fv_step, fv_all, addV, unb_idx, val_ok, List.drop_eq_getElem_cons, List.drop_eq_nil_of_le, List.take_succ_eq_append_getElem, List.take_of_length_le])) ?_
    refine Ent.p1 ?_
    refine Ent.p1 ?_
    exact F.c2 (Back.refl _ _) rfl rfl rfl (mS (mS m0)) ty_Binding rfl ((none, 0, 0), (none, 0, 0)) trivial (by rw [show (matchB (b_Vars, b_Values) (a_Rel, a_Terms) (f_Rel, f_Values)) = (false) from (by grind [matchB, matchV, okV_step, okV_end, fv_step, fv_all, addV, unb_idx, val_ok, List.drop_eq_getElem_cons, List.drop_eq_nil_of_le, List.take_succ_eq_append_getElem, List.take_of_length_le])]; try rfl) (J := _) (.refl _) (.inl rfl)
  · refine E.y rfl rfl (by decide) ((Y.mv rfl).yd) ?_
    refine E.y rfl rfl (by decide) ((Y.fld fo_Atom_1 ty_Is (by decide) rfl).yd) ?_
    refine E.y rfl rfl (by decide) (Y.ld1 ty_Is rfl ((Has.pt (mS (mS (mS (mS (mS m0)))))).sub (cs' := [_]) 1 rfl) rfl) ?_
    refine E.y rfl rfl (by decide) ((Y.len us_Is rfl).yd) ?_
    refine E.y rfl rfl (by decide) ((Y.fld fo_Fact_1 ty_Is (by decide) rfl).yd) ?_
    refine E.y rfl rfl (by decide) (Y.ld1 ty_Is rfl ((Has.pt (mS (mS (mS (mS m0))))).sub (cs' := [_]) 1 rfl) rfl) ?_
    refine E.y rfl rfl (by decide) ((Y.len us_Is rfl).yd) ?_
    refine E.y rfl rfl (by decide) ((Y.neq rfl rfl).yd) (Ent.d (fun q25 => ?_) (fun q25 => ?_))
    · refine E.y rfl rfl (by decide) ((Y.pkf rfl rfl).yd) ?_
      refine E.y rfl rfl (by decide) ((Y.mv rfl).yd) ?_
      refine E.skip rfl rfl rfl ?_
      refine E.skip rfl rfl rfl ?_
      refine E.skip rfl rfl rfl ?_
      refine E.skip rfl rfl rfl ?_
      refine E.skip rfl rfl rfl ?_
      refine E.skip rfl rfl rfl ?_
      refine E.skip rfl rfl rfl ?_
      refine E.y rfl rfl (by decide) ((Y.pkt rfl rfl).yd) ?_
      refine E.nil (E.thn (E.ct rfl (E.seq (E.region (l := [0, 1, 2]) rfl (E.y rfl rfl (by decide) ((Y.bld (pvs := []) (cs := [_, _]) ty_Binding pl_Binding rfl rfl).yd) ?_)))))
      refine Ent.p3 ?_
      refine E.st rfl rfl (N.sto (vs := [_, _]) (cs' := [_, _]) ty_Binding rfl rfl rfl rfl rfl (Nat.le_of_ble_eq_true rfl) rfl) (fun _ _ => ?_)
      refine E.y rfl rfl (by decide) ((Y.as rfl).yd) ?_
      refine E.nil (E.thn (E.ret (E.thr (Ent.mkow (A := []) (Own.nil (E := Enc.int) (e := tI) (a := none)) rfl ?_))))
      refine Ent.cv (congrArg (ow eIs [_]) (show _ = cond (matchB (b_Vars, b_Values) (a_Rel, a_Terms) (f_Rel, f_Values)) (matchV (b_Vars, b_Values) (a_Rel, a_Terms) (f_Rel, f_Values)).2 [] by grind [matchB, matchV, okV_step, okV_end, fv_step, fv_all, addV, unb_idx, val_ok, List.drop_eq_getElem_cons, List.drop_eq_nil_of_le, List.take_succ_eq_append_getElem, List.take_of_length_le])) ?_
      refine Ent.mkow (A := []) (Own.nil (E := Enc.int) (e := tI) (a := none)) rfl ?_
      refine Ent.cv (congrArg (ow eIs [_]) (show _ = cond (matchB (b_Vars, b_Values) (a_Rel, a_Terms) (f_Rel, f_Values)) (matchV (b_Vars, b_Values) (a_Rel, a_Terms) (f_Rel, f_Values)).1 [] by grind [matchB, matchV, okV_step, okV_end, fv_step, fv_all, addV, unb_idx, val_ok, List.drop_eq_getElem_cons, List.drop_eq_nil_of_le, List.take_succ_eq_append_getElem, List.take_of_length_le])) ?_
      refine Ent.p1 ?_
      refine Ent.p1 ?_
      exact F.c2 (Back.refl _ _) rfl rfl rfl (mS (mS m0)) ty_Binding rfl ((none, 0, 0), (none, 0, 0)) trivial (by rw [show (matchB (b_Vars, b_Values) (a_Rel, a_Terms) (f_Rel, f_Values)) = (false) from (by grind [matchB, matchV, okV_step, okV_end, fv_step, fv_all, addV, unb_idx, val_ok, List.drop_eq_getElem_cons, List.drop_eq_nil_of_le, List.take_succ_eq_append_getElem, List.take_of_length_le])]; try rfl) (J := _) (.refl _) (.inl rfl)
    · refine E.y rfl rfl (by decide) ((Y.pkf rfl rfl).yd) ?_
      refine E.y rfl rfl (by decide) ((Y.mv rfl).yd) ?_
      refine E.y rfl rfl (by decide) ((Y.fld fo_Binding_0 ty_Is (by decide) rfl).yd) ?_
      refine E.y rfl rfl (by decide) (Y.ld1 ty_Is rfl ((Has.pt (mS (mS (mS (mS (mS (mS m0))))))).sub (cs' := [_]) 0 rfl) rfl) ?_
      refine E.y rfl rfl (by decide) ((Y.len us_Is rfl).yd) ?_
      refine E.y rfl rfl (by decide) ((Y.fld fo_Binding_1 ty_Is (by decide) rfl).yd) ?_
      refine E.y rfl rfl (by decide) (Y.ld1 ty_Is rfl ((Has.pt (mS (mS (mS (mS (mS (mS m0))))))).sub (cs' := [_]) 1 rfl) rfl) ?_
      refine E.y rfl rfl (by decide) ((Y.len us_Is rfl).yd) ?_
      refine E.y rfl rfl (by decide) ((Y.neq rfl rfl).yd) (Ent.d (fun q34 => ?_) (fun q34 => ?_))
      · refine E.y rfl rfl (by decide) ((Y.pkf rfl rfl).yd) ?_
        refine E.nil (E.thn (E.ct rfl (E.seq (E.region (l := [0, 1, 2]) rfl (E.y rfl rfl (by decide) ((Y.bld (pvs := []) (cs := [_, _]) ty_Binding pl_Binding rfl rfl).yd) ?_)))))
        refine Ent.p3 ?_
        refine E.st rfl rfl (N.sto (vs := [_, _]) (cs' := [_, _]) ty_Binding rfl rfl rfl rfl rfl (Nat.le_of_ble_eq_true rfl) rfl) (fun _ _ => ?_)
        refine E.y rfl rfl (by decide) ((Y.as rfl).yd) ?_
        refine E.nil (E.thn (E.ret (E.thr (Ent.mkow (A := []) (Own.nil (E := Enc.int) (e := tI) (a := none)) rfl ?_))))
        refine Ent.cv (congrArg (ow eIs [_]) (show _ = cond (matchB (b_Vars, b_Values) (a_Rel, a_Terms) (f_Rel, f_Values)) (matchV (b_Vars, b_Values) (a_Rel, a_Terms) (f_Rel, f_Values)).2 [] by grind [matchB, matchV, okV_step, okV_end, fv_step, fv_all, addV, unb_idx, val_ok, List.drop_eq_getElem_cons, List.drop_eq_nil_of_le, List.take_succ_eq_append_getElem, List.take_of_length_le])) ?_
        refine Ent.mkow (A := []) (Own.nil (E := Enc.int) (e := tI) (a := none)) rfl ?_
        refine Ent.cv (congrArg (ow eIs [_]) (show _ = cond (matchB (b_Vars, b_Values) (a_Rel, a_Terms) (f_Rel, f_Values)) (matchV (b_Vars, b_Values) (a_Rel, a_Terms) (f_Rel, f_Values)).1 [] by grind [matchB, matchV, okV_step, okV_end, fv_step, fv_all, addV, unb_idx, val_ok, List.drop_eq_getElem_cons, List.drop_eq_nil_of_le, List.take_succ_eq_append_getElem, List.take_of_length_le])) ?_
        refine Ent.p1 ?_
        refine Ent.p1 ?_
        exact F.c2 (Back.refl _ _) rfl rfl rfl (mS (mS m0)) ty_Binding rfl ((none, 0, 0), (none, 0, 0)) trivial (by rw [show (matchB (b_Vars, b_Values) (a_Rel, a_Terms) (f_Rel, f_Values)) = (false) from (by grind [matchB, matchV, okV_step, okV_end, fv_step, fv_all, addV, unb_idx, val_ok, List.drop_eq_getElem_cons, List.drop_eq_nil_of_le, List.take_succ_eq_append_getElem, List.take_of_length_le])]; try rfl) (J := _) (.refl _) (.inl rfl)
      · refine E.y rfl rfl (by decide) ((Y.pkf rfl rfl).yd) ?_
        refine E.nil (E.thn (E.cf rfl (E.skipc (E.thn (E.seq (E.seq (E.region (l := [0]) rfl (E.y rfl rfl (by decide) ((Y.as rfl).yd) ?_))))))))
        refine E.nil (E.thn (E.block (Ent.p1 ?_)))
        refine Ent.cv (congrArg (ow eIs [_]) (show b_Vars = (foldV (b_Vars, b_Values) ((a_Terms.zip f_Values).take 0)).1 from by first | rfl | (simp; done) | grind [matchB, matchV, okV_step, okV_end, fv_step, fv_all, addV, unb_idx, val_ok, List.drop_eq_getElem_cons, List.drop_eq_nil_of_le, List.take_succ_eq_append_getElem, List.take_of_length_le])) ?_
        refine Ent.p2 ?_
        refine Ent.cv (congrArg (ow eIs [_]) (show b_Values = (foldV (b_Vars, b_Values) ((a_Terms.zip f_Values).take 0)).2 from by first | rfl | (simp; done) | grind [matchB, matchV, okV_step, okV_end, fv_step, fv_all, addV, unb_idx, val_ok, List.drop_eq_getElem_cons, List.drop_eq_nil_of_le, List.take_succ_eq_append_getElem, List.take_of_length_le])) ?_
        refine E.loop (κ := Nat × Option Addr × Nat × Nat × Option Addr × Nat × Nat) (fun g => g.1 ≤ a_Terms.length ∧ okV (b_Vars, b_Values) (a_Terms.zip f_Values) = okV (foldV (b_Vars, b_Values) ((a_Terms.zip f_Values).take g.1)) ((a_Terms.zip f_Values).drop g.1)) (fun g => [(4, .pointer (some ⟨b4, 0, none⟩)), (5, .pointer (some ⟨b5, 0, none⟩)), (6, .pointer (some ⟨b6, 0, none⟩)), (8, .pointer (some ⟨b8, 0, none⟩)), (9, .int .i64 (↑g.1 : Int))]) (fun g => [ow eIs [.slice g.2.2.2.2.1 g.2.2.2.2.2.1 g.2.2.2.2.2.2] ((foldV (b_Vars, b_Values) ((a_Terms.zip f_Values).take g.1)).2), ow eIs [.slice g.2.1 g.2.2.1 g.2.2.2.1] ((foldV (b_Vars, b_Values) ((a_Terms.zip f_Values).take g.1)).1), pt b8 80 [.slice g.2.1 g.2.2.1 g.2.2.2.1, .slice g.2.2.2.2.1 g.2.2.2.2.2.1 g.2.2.2.2.2.2], pt b6 80 [.slice none 0 0, .slice none 0 0], pt b5 95 [.int .i64 f_Rel, .slice a_f_Values f_Values.length c_f_Values], pt b4 113 [.int .i64 a_Rel, .slice a_a_Terms a_Terms.length c_a_Terms], pt b3 80 [.slice a_b_Vars b_Vars.length c_b_Vars, .slice a_b_Values b_Values.length c_b_Values]]) (fun g => a_Terms.length - g.1) (0, a12_0, (b_Vars).length, c12_0, a12_1, (b_Values).length, c12_1) ⟨Nat.zero_le _, by rfl⟩ ⟨rfl, rfl, rfl, rfl, rfl, trivial⟩ (.refl _) (fun g pg => ?_)
        obtain ⟨g, aA0_0, mA0_0, cA0_0, aA0_1, mA0_1, cA0_1⟩ := g
        try dsimp only at pg
        show Ent _ _ _ [(4, .pointer (some ⟨b4, 0, none⟩)), (5, .pointer (some ⟨b5, 0, none⟩)), (6, .pointer (some ⟨b6, 0, none⟩)), (8, .pointer (some ⟨b8, 0, none⟩)), (9, .int .i64 (↑g : Int))] [ow eIs [.slice aA0_1 mA0_1 cA0_1] ((foldV (b_Vars, b_Values) ((a_Terms.zip f_Values).take g)).2), ow eIs [.slice aA0_0 mA0_0 cA0_0] ((foldV (b_Vars, b_Values) ((a_Terms.zip f_Values).take g)).1), pt b8 80 [.slice aA0_0 mA0_0 cA0_0, .slice aA0_1 mA0_1 cA0_1], pt b6 80 [.slice none 0 0, .slice none 0 0], pt b5 95 [.int .i64 f_Rel, .slice a_f_Values f_Values.length c_f_Values], pt b4 113 [.int .i64 a_Rel, .slice a_a_Terms a_Terms.length c_a_Terms], pt b3 80 [.slice a_b_Vars b_Vars.length c_b_Vars, .slice a_b_Values b_Values.length c_b_Values]] _
        obtain ⟨pk, pa⟩ := pg
        have jl := fv_len (b := (b_Vars, b_Values)) (t := a_Terms) (v := f_Values) (g := g)
        have je := foldV_eq (l := (a_Terms.zip f_Values).take g) (x := (b_Vars, b_Values)) (show b_Vars.length = b_Values.length by omega)
        dsimp only at jl
        refine Ent.lenow (mS m0) fun eaA0_0 laA0_0 => ?_
        subst eaA0_0
        refine Ent.lenow m0 fun eaA0_1 laA0_1 => ?_
        subst eaA0_1
        refine E.seq (E.seq (E.region (l := [0, 1, 2, 3, 4]) rfl (E.y rfl rfl (by decide) ((Y.mv rfl).yd) ?_)))
        refine E.y rfl rfl (by decide) ((Y.fld fo_Atom_1 ty_Is (by decide) rfl).yd) ?_
        refine E.y rfl rfl (by decide) (Y.ld1 ty_Is rfl ((Has.pt (mS (mS (mS (mS (mS m0)))))).sub (cs' := [_]) 1 rfl) rfl) ?_
        refine E.y rfl rfl (by decide) ((Y.len us_Is rfl).yd) ?_
        refine E.y rfl rfl (by decide) ((Y.lss rfl rfl).yd) (Ent.d (fun q41 => ?_) (fun q41 => ?_))
        · refine E.nil (E.thn (E.ct rfl (E.skipc (E.thn (E.seq (E.block (E.seq (D.region (fun j => true) mixed (D.y 0 rfl rfl (by decide) (Y.ldS (cs := [_, _]) ty_Binding rfl (Has.pt (mS (mS m0))) rfl) (by kernel_rfl) ?_)))))))))
          refine D.yp 1 rfl rfl (by decide) (Y.fld fo_Atom_1 ty_Is (by decide) rfl) (by kernel_rfl) ?_
          refine D.y 2 rfl rfl (by decide) (Y.ld1 ty_Is rfl ((Has.pt (mS (mS (mS (mS (mS m0)))))).sub (cs' := [_]) 1 rfl) rfl) (by kernel_rfl) ?_
          refine D.yp 3 rfl rfl (by decide) (Y.mv rfl) (by kernel_rfl) ?_
          obtain ⟨eb48, eo48, ea48, ei48, eh48⟩ := ha_Terms.elemI g (by omega)
          refine D.yp 4 rfl rfl (by decide) (Y.ix us_Is ty_I rfl ea48 rfl g rfl (by omega)) (by kernel_rfl) ?_
          refine D.y 5 rfl rfl (by decide) (Y.ld1 ty_I rfl (eh48 _) rfl) (by kernel_rfl) ?_
          refine D.st 6 rfl rfl (by kernel_rfl) (fun _ => rfl) (N.call0 t_spec_ValueOf rfl rfl rfl (by decide) (fun w Lp hA => ⟨hA.ow (mS m0), hA.ow m0⟩)) (fun _ _ => ?_)
          refine D.yp 7 rfl rfl (by decide) (Y.as rfl) (by kernel_rfl) ?_
          refine D.done (by kernel_rfl) (E.thn (E.seq (D.region (fun j => true) mixed (D.yp 0 rfl rfl (by decide) (Y.fld fo_Atom_1 ty_Is (by decide) rfl) (by kernel_rfl) ?_))))
          refine D.y 1 rfl rfl (by decide) (Y.ld1 ty_Is rfl ((Has.pt (mS (mS (mS (mS (mS m0)))))).sub (cs' := [_]) 1 rfl) rfl) (by kernel_rfl) ?_
          refine D.yp 2 rfl rfl (by decide) (Y.mv rfl) (by kernel_rfl) ?_
          refine D.yp 3 rfl rfl (by decide) (Y.ix us_Is ty_I rfl ea48 rfl g rfl (by omega)) (by kernel_rfl) ?_
          refine D.y 4 rfl rfl (by decide) (Y.ld1 ty_I rfl (eh48 _) rfl) (by kernel_rfl) ?_
          refine D.st 5 rfl rfl (by kernel_rfl) (fun _ => rfl) (N.call0 t_spec_IsVar rfl rfl rfl (by decide) (fun w Lp hA => trivial)) (fun _ _ => (Ent.b (fun q56 => ?_) (fun q56 => ?_)))
          · refine D.yp 6 rfl rfl (by decide) (Y.mv rfl) (by kernel_rfl) ?_
            refine D.y 7 rfl rfl (by decide) (Y.ldS (cs := [_, _]) ty_Binding rfl (Has.pt (mS (mS m0))) rfl) (by kernel_rfl) ?_
            refine D.yp 8 rfl rfl (by decide) (Y.fld fo_Atom_1 ty_Is (by decide) rfl) (by kernel_rfl) ?_
            refine D.y 9 rfl rfl (by decide) (Y.ld1 ty_Is rfl ((Has.pt (mS (mS (mS (mS (mS m0)))))).sub (cs' := [_]) 1 rfl) rfl) (by kernel_rfl) ?_
            refine D.yp 10 rfl rfl (by decide) (Y.mv rfl) (by kernel_rfl) ?_
            refine D.yp 11 rfl rfl (by decide) (Y.ix us_Is ty_I rfl ea48 rfl g rfl (by omega)) (by kernel_rfl) ?_
            refine D.y 12 rfl rfl (by decide) (Y.ld1 ty_I rfl (eh48 _) rfl) (by kernel_rfl) ?_
            refine D.st 13 rfl rfl (by kernel_rfl) (fun _ => rfl) (N.call0 t_spec_l4Bound rfl rfl rfl (by decide) (fun w Lp hA => ⟨hA.ow (mS m0), hA.ow m0⟩)) (fun _ _ => (Ent.b (fun q64 => ?_) (fun q64 => ?_)))
            · refine D.yp 14 rfl rfl (by decide) (Y.not (b := true) rfl) (by kernel_rfl) ?_
              refine D.yp 15 rfl rfl (by decide) (Y.pkt rfl rfl) (by kernel_rfl) ?_
              refine D.done (by kernel_rfl) (E.thn (E.cf rfl (E.seq (E.region (l := [0, 1, 2, 3, 4, 5, 6]) rfl (E.y rfl rfl (by decide) ((Y.mv rfl).yd) ?_)))))
              refine E.y rfl rfl (by decide) ((Y.fld fo_Fact_1 ty_Is (by decide) rfl).yd) ?_
              refine E.y rfl rfl (by decide) (Y.ld1 ty_Is rfl ((Has.pt (mS (mS (mS (mS m0))))).sub (cs' := [_]) 1 rfl) rfl) ?_
              refine E.y rfl rfl (by decide) ((Y.mv rfl).yd) ?_
              obtain ⟨eb83, eo83, ea83, ei83, eh83⟩ := hf_Values.elemI g (by omega)
              refine E.y rfl rfl (by decide) ((Y.ix us_Is ty_I rfl ea83 rfl g rfl (by omega)).yd) ?_
              refine E.y rfl rfl (by decide) (Y.ld1 ty_I rfl (eh83 _) rfl) ?_
              refine E.y rfl rfl (by decide) ((Y.neq rfl rfl).yd) (Ent.d (fun q85 => ?_) (fun q85 => ?_))
              · refine E.nil (E.thn (E.ct rfl (E.seq (E.region (l := [0, 1, 2]) rfl (E.y rfl rfl (by decide) ((Y.bld (pvs := []) (cs := [_, _]) ty_Binding pl_Binding rfl rfl).yd) ?_)))))
                refine Ent.p3 ?_
                refine E.st rfl rfl (N.sto (vs := [_, _]) (cs' := [_, _]) ty_Binding rfl rfl rfl rfl rfl (Nat.le_of_ble_eq_true rfl) rfl) (fun _ _ => ?_)
                refine E.y rfl rfl (by decide) ((Y.as rfl).yd) ?_
                refine E.nil (E.thn (E.ret (E.blr (E.thr (E.thr (E.blr (E.thr (Ent.mkow (A := []) (Own.nil (E := Enc.int) (e := tI) (a := none)) rfl ?_))))))))
                refine Ent.cv (congrArg (ow eIs [_]) (show _ = cond (matchB (b_Vars, b_Values) (a_Rel, a_Terms) (f_Rel, f_Values)) (matchV (b_Vars, b_Values) (a_Rel, a_Terms) (f_Rel, f_Values)).2 [] by grind [matchB, matchV, okV_step, okV_end, fv_step, fv_all, addV, unb_idx, val_ok, List.drop_eq_getElem_cons, List.drop_eq_nil_of_le, List.take_succ_eq_append_getElem, List.take_of_length_le])) ?_
                refine Ent.mkow (A := []) (Own.nil (E := Enc.int) (e := tI) (a := none)) rfl ?_
                refine Ent.cv (congrArg (ow eIs [_]) (show _ = cond (matchB (b_Vars, b_Values) (a_Rel, a_Terms) (f_Rel, f_Values)) (matchV (b_Vars, b_Values) (a_Rel, a_Terms) (f_Rel, f_Values)).1 [] by grind [matchB, matchV, okV_step, okV_end, fv_step, fv_all, addV, unb_idx, val_ok, List.drop_eq_getElem_cons, List.drop_eq_nil_of_le, List.take_succ_eq_append_getElem, List.take_of_length_le])) ?_
                refine Ent.p1 ?_
                refine Ent.p1 ?_
                exact F.c2 (Back.refl _ _) rfl rfl rfl (mS (mS m0)) ty_Binding rfl ((none, 0, 0), (none, 0, 0)) trivial (by rw [show (matchB (b_Vars, b_Values) (a_Rel, a_Terms) (f_Rel, f_Values)) = (false) from (by grind [matchB, matchV, okV_step, okV_end, fv_step, fv_all, addV, unb_idx, val_ok, List.drop_eq_getElem_cons, List.drop_eq_nil_of_le, List.take_succ_eq_append_getElem, List.take_of_length_le])]; try rfl) (J := _) (.refl _) (.inl rfl)
              · refine E.nil (E.thn (E.cf rfl (E.skipc (E.bln (E.thn (E.region (l := [0, 1, 2]) rfl (E.y rfl rfl (by decide) ((Y.mv rfl).yd) ?_)))))))
                refine E.y rfl rfl (by decide) ((Y.add rfl rfl (by omega) (by omega)).yd) ?_
                refine E.y rfl rfl (by decide) ((Y.as rfl).yd) ?_
                refine E.nil (E.thn (Ent.p1 ?_))
                refine Ent.cv (congrArg (ow eIs [_]) (show (foldV (b_Vars, b_Values) ((a_Terms.zip f_Values).take g)).1 = (foldV (b_Vars, b_Values) ((a_Terms.zip f_Values).take (g + 1))).1 from by grind [matchB, matchV, okV_step, okV_end, fv_step, fv_all, addV, unb_idx, val_ok, List.drop_eq_getElem_cons, List.drop_eq_nil_of_le, List.take_succ_eq_append_getElem, List.take_of_length_le])) ?_
                refine Ent.p1 ?_
                refine Ent.cv (congrArg (ow eIs [_]) (show (foldV (b_Vars, b_Values) ((a_Terms.zip f_Values).take g)).2 = (foldV (b_Vars, b_Values) ((a_Terms.zip f_Values).take (g + 1))).2 from by grind [matchB, matchV, okV_step, okV_end, fv_step, fv_all, addV, unb_idx, val_ok, List.drop_eq_getElem_cons, List.drop_eq_nil_of_le, List.take_succ_eq_append_getElem, List.take_of_length_le])) ?_
                refine Ent.p6 ?_
                refine Ent.p6 ?_
                refine Ent.p6 ?_
                refine Ent.p6 ?_
                refine Ent.p6 ?_
                refine Ent.p6 ?_
                refine Ent.p6 ?_
                exact E.again (Back.refl _ _) (g + 1, aA0_0, ((foldV (b_Vars, b_Values) ((a_Terms.zip f_Values).take g)).1).length, cA0_0, aA0_1, ((foldV (b_Vars, b_Values) ((a_Terms.zip f_Values).take g)).2).length, cA0_1) ⟨rfl, rfl, rfl, rfl, rfl, trivial⟩ (.refl _) ⟨(show g + 1 ≤ a_Terms.length from by omega), (show okV (b_Vars, b_Values) (a_Terms.zip f_Values) = okV (foldV (b_Vars, b_Values) ((a_Terms.zip f_Values).take (g + 1))) ((a_Terms.zip f_Values).drop (g + 1)) from by grind [matchB, matchV, okV_step, okV_end, fv_step, fv_all, addV, unb_idx, val_ok, List.drop_eq_getElem_cons, List.drop_eq_nil_of_le, List.take_succ_eq_append_getElem, List.take_of_length_le])⟩ (show a_Terms.length - (g + 1) < a_Terms.length - g from by omega)
            · refine D.yp 14 rfl rfl (by decide) (Y.not (b := false) rfl) (by kernel_rfl) ?_
              refine D.yp 15 rfl rfl (by decide) (Y.pkt rfl rfl) (by kernel_rfl) ?_
              refine D.done (by kernel_rfl) (E.thn (E.ct rfl (D.region (fun j => !(Nat.beq j 12)) mixed (D.y 0 rfl rfl (by decide) (Y.ldS (cs := [_, _]) ty_Binding rfl (Has.pt (mS (mS m0))) rfl) (by kernel_rfl) ?_))))
              refine D.yp 1 rfl rfl (by decide) (Y.fld fo_Atom_1 ty_Is (by decide) rfl) (by kernel_rfl) ?_
              refine D.y 2 rfl rfl (by decide) (Y.ld1 ty_Is rfl ((Has.pt (mS (mS (mS (mS (mS m0)))))).sub (cs' := [_]) 1 rfl) rfl) (by kernel_rfl) ?_
              refine D.yp 3 rfl rfl (by decide) (Y.mv rfl) (by kernel_rfl) ?_
              refine D.yp 4 rfl rfl (by decide) (Y.ix us_Is ty_I rfl ea48 rfl g rfl (by omega)) (by kernel_rfl) ?_
              refine D.y 5 rfl rfl (by decide) (Y.ld1 ty_I rfl (eh48 _) rfl) (by kernel_rfl) ?_
              refine D.yp 6 rfl rfl (by decide) (Y.fld fo_Fact_1 ty_Is (by decide) rfl) (by kernel_rfl) ?_
              refine D.y 7 rfl rfl (by decide) (Y.ld1 ty_Is rfl ((Has.pt (mS (mS (mS (mS m0))))).sub (cs' := [_]) 1 rfl) rfl) (by kernel_rfl) ?_
              refine D.yp 8 rfl rfl (by decide) (Y.mv rfl) (by kernel_rfl) ?_
              obtain ⟨eb76, eo76, ea76, ei76, eh76⟩ := hf_Values.elemI g (by omega)
              refine D.yp 9 rfl rfl (by decide) (Y.ix us_Is ty_I rfl ea76 rfl g rfl (by omega)) (by kernel_rfl) ?_
              refine D.y 10 rfl rfl (by decide) (Y.ld1 ty_I rfl (eh76 _) rfl) (by kernel_rfl) ?_
              refine D.st 11 rfl rfl (by kernel_rfl) (fun _ => rfl) (N.call (t_spec_l4Bind (by first | omega | assumption | (constructor <;> omega)) (by first | omega | assumption | (constructor <;> omega))) rfl rfl rfl (by decide) rfl (fun w Lp hA => ⟨hA.ow (mS m0), hA.ow m0, ei48, ei76⟩)) (fun k78 _ => ?_)
              obtain ⟨⟨a78_0, m78_0, c78_0⟩, ⟨a78_1, m78_1, c78_1⟩⟩ := k78
              refine Ent.lenow m0 fun e78_0 l78_0 => ?_
              subst e78_0
              refine Ent.lenow (mS m0) fun e78_1 l78_1 => ?_
              subst e78_1
              refine Ent.p4 ?_
              refine D.st 12 rfl rfl (by kernel_rfl) (fun h => by cases h) (N.sto (vs := [_, _]) (cs' := [_, _]) ty_Binding rfl rfl rfl rfl rfl (Nat.le_of_ble_eq_true rfl) rfl) (fun _ _ => ?_)
              refine D.done (by kernel_rfl) (E.bln (E.thn (E.region (l := [0, 1, 2]) rfl (E.y rfl rfl (by decide) ((Y.mv rfl).yd) ?_))))
              refine E.y rfl rfl (by decide) ((Y.add rfl rfl (by omega) (by omega)).yd) ?_
              refine E.y rfl rfl (by decide) ((Y.as rfl).yd) ?_
              refine E.nil (E.thn (Ent.p3 ?_))
              refine Ent.drop ?_
              refine Ent.p3 ?_
              refine Ent.drop ?_
              refine Ent.p1 ?_
              refine Ent.cv (congrArg (ow eIs [_]) (show ((foldV (b_Vars, b_Values) ((a_Terms.zip f_Values).take g)).1) ++ [a_Terms[g]] = (foldV (b_Vars, b_Values) ((a_Terms.zip f_Values).take (g + 1))).1 from by grind [matchB, matchV, okV_step, okV_end, fv_step, fv_all, addV, unb_idx, val_ok, List.drop_eq_getElem_cons, List.drop_eq_nil_of_le, List.take_succ_eq_append_getElem, List.take_of_length_le])) ?_
              refine Ent.p2 ?_
              refine Ent.cv (congrArg (ow eIs [_]) (show ((foldV (b_Vars, b_Values) ((a_Terms.zip f_Values).take g)).2) ++ [f_Values[g]] = (foldV (b_Vars, b_Values) ((a_Terms.zip f_Values).take (g + 1))).2 from by grind [matchB, matchV, okV_step, okV_end, fv_step, fv_all, addV, unb_idx, val_ok, List.drop_eq_getElem_cons, List.drop_eq_nil_of_le, List.take_succ_eq_append_getElem, List.take_of_length_le])) ?_
              refine Ent.p6 ?_
              refine Ent.p6 ?_
              refine Ent.p6 ?_
              refine Ent.p6 ?_
              refine Ent.p6 ?_
              refine Ent.p6 ?_
              refine Ent.p6 ?_
              exact E.again (Back.refl _ _) (g + 1, a78_0, (((foldV (b_Vars, b_Values) ((a_Terms.zip f_Values).take g)).1) ++ [a_Terms[g]]).length, c78_0, a78_1, (((foldV (b_Vars, b_Values) ((a_Terms.zip f_Values).take g)).2) ++ [f_Values[g]]).length, c78_1) ⟨rfl, rfl, rfl, rfl, rfl, trivial⟩ (.refl _) ⟨(show g + 1 ≤ a_Terms.length from by omega), (show okV (b_Vars, b_Values) (a_Terms.zip f_Values) = okV (foldV (b_Vars, b_Values) ((a_Terms.zip f_Values).take (g + 1))) ((a_Terms.zip f_Values).drop (g + 1)) from by grind [matchB, matchV, okV_step, okV_end, fv_step, fv_all, addV, unb_idx, val_ok, List.drop_eq_getElem_cons, List.drop_eq_nil_of_le, List.take_succ_eq_append_getElem, List.take_of_length_le])⟩ (show a_Terms.length - (g + 1) < a_Terms.length - g from by omega)
          · refine D.yp 6 rfl rfl (by decide) (Y.mv rfl) (by kernel_rfl) ?_
            refine D.skip 7 rfl rfl (by kernel_rfl) rfl ?_
            refine D.skip 8 rfl rfl (by kernel_rfl) rfl ?_
            refine D.skip 9 rfl rfl (by kernel_rfl) rfl ?_
            refine D.skip 10 rfl rfl (by kernel_rfl) rfl ?_
            refine D.skip 11 rfl rfl (by kernel_rfl) rfl ?_
            refine D.skip 12 rfl rfl (by kernel_rfl) rfl ?_
            refine D.skip 13 rfl rfl (by kernel_rfl) rfl ?_
            refine D.skip 14 rfl rfl (by kernel_rfl) rfl ?_
            refine D.yp 15 rfl rfl (by decide) (Y.pkf rfl rfl) (by kernel_rfl) ?_
            refine D.done (by kernel_rfl) (E.thn (E.cf rfl (E.seq (E.region (l := [0, 1, 2, 3, 4, 5, 6]) rfl (E.y rfl rfl (by decide) ((Y.mv rfl).yd) ?_)))))
            refine E.y rfl rfl (by decide) ((Y.fld fo_Fact_1 ty_Is (by decide) rfl).yd) ?_
            refine E.y rfl rfl (by decide) (Y.ld1 ty_Is rfl ((Has.pt (mS (mS (mS (mS m0))))).sub (cs' := [_]) 1 rfl) rfl) ?_
            refine E.y rfl rfl (by decide) ((Y.mv rfl).yd) ?_
            obtain ⟨eb83, eo83, ea83, ei83, eh83⟩ := hf_Values.elemI g (by omega)
            refine E.y rfl rfl (by decide) ((Y.ix us_Is ty_I rfl ea83 rfl g rfl (by omega)).yd) ?_
            refine E.y rfl rfl (by decide) (Y.ld1 ty_I rfl (eh83 _) rfl) ?_
            refine E.y rfl rfl (by decide) ((Y.neq rfl rfl).yd) (Ent.d (fun q85 => ?_) (fun q85 => ?_))
            · refine E.nil (E.thn (E.ct rfl (E.seq (E.region (l := [0, 1, 2]) rfl (E.y rfl rfl (by decide) ((Y.bld (pvs := []) (cs := [_, _]) ty_Binding pl_Binding rfl rfl).yd) ?_)))))
              refine Ent.p3 ?_
              refine E.st rfl rfl (N.sto (vs := [_, _]) (cs' := [_, _]) ty_Binding rfl rfl rfl rfl rfl (Nat.le_of_ble_eq_true rfl) rfl) (fun _ _ => ?_)
              refine E.y rfl rfl (by decide) ((Y.as rfl).yd) ?_
              refine E.nil (E.thn (E.ret (E.blr (E.thr (E.thr (E.blr (E.thr (Ent.mkow (A := []) (Own.nil (E := Enc.int) (e := tI) (a := none)) rfl ?_))))))))
              refine Ent.cv (congrArg (ow eIs [_]) (show _ = cond (matchB (b_Vars, b_Values) (a_Rel, a_Terms) (f_Rel, f_Values)) (matchV (b_Vars, b_Values) (a_Rel, a_Terms) (f_Rel, f_Values)).2 [] by grind [matchB, matchV, okV_step, okV_end, fv_step, fv_all, addV, unb_idx, val_ok, List.drop_eq_getElem_cons, List.drop_eq_nil_of_le, List.take_succ_eq_append_getElem, List.take_of_length_le])) ?_
              refine Ent.mkow (A := []) (Own.nil (E := Enc.int) (e := tI) (a := none)) rfl ?_
              refine Ent.cv (congrArg (ow eIs [_]) (show _ = cond (matchB (b_Vars, b_Values) (a_Rel, a_Terms) (f_Rel, f_Values)) (matchV (b_Vars, b_Values) (a_Rel, a_Terms) (f_Rel, f_Values)).1 [] by grind [matchB, matchV, okV_step, okV_end, fv_step, fv_all, addV, unb_idx, val_ok, List.drop_eq_getElem_cons, List.drop_eq_nil_of_le, List.take_succ_eq_append_getElem, List.take_of_length_le])) ?_
              refine Ent.p1 ?_
              refine Ent.p1 ?_
              exact F.c2 (Back.refl _ _) rfl rfl rfl (mS (mS m0)) ty_Binding rfl ((none, 0, 0), (none, 0, 0)) trivial (by rw [show (matchB (b_Vars, b_Values) (a_Rel, a_Terms) (f_Rel, f_Values)) = (false) from (by grind [matchB, matchV, okV_step, okV_end, fv_step, fv_all, addV, unb_idx, val_ok, List.drop_eq_getElem_cons, List.drop_eq_nil_of_le, List.take_succ_eq_append_getElem, List.take_of_length_le])]; try rfl) (J := _) (.refl _) (.inl rfl)
            · refine E.nil (E.thn (E.cf rfl (E.skipc (E.bln (E.thn (E.region (l := [0, 1, 2]) rfl (E.y rfl rfl (by decide) ((Y.mv rfl).yd) ?_)))))))
              refine E.y rfl rfl (by decide) ((Y.add rfl rfl (by omega) (by omega)).yd) ?_
              refine E.y rfl rfl (by decide) ((Y.as rfl).yd) ?_
              refine E.nil (E.thn (Ent.p1 ?_))
              refine Ent.cv (congrArg (ow eIs [_]) (show (foldV (b_Vars, b_Values) ((a_Terms.zip f_Values).take g)).1 = (foldV (b_Vars, b_Values) ((a_Terms.zip f_Values).take (g + 1))).1 from by grind [matchB, matchV, okV_step, okV_end, fv_step, fv_all, addV, unb_idx, val_ok, List.drop_eq_getElem_cons, List.drop_eq_nil_of_le, List.take_succ_eq_append_getElem, List.take_of_length_le])) ?_
              refine Ent.p1 ?_
              refine Ent.cv (congrArg (ow eIs [_]) (show (foldV (b_Vars, b_Values) ((a_Terms.zip f_Values).take g)).2 = (foldV (b_Vars, b_Values) ((a_Terms.zip f_Values).take (g + 1))).2 from by grind [matchB, matchV, okV_step, okV_end, fv_step, fv_all, addV, unb_idx, val_ok, List.drop_eq_getElem_cons, List.drop_eq_nil_of_le, List.take_succ_eq_append_getElem, List.take_of_length_le])) ?_
              refine Ent.p6 ?_
              refine Ent.p6 ?_
              refine Ent.p6 ?_
              refine Ent.p6 ?_
              refine Ent.p6 ?_
              refine Ent.p6 ?_
              refine Ent.p6 ?_
              exact E.again (Back.refl _ _) (g + 1, aA0_0, ((foldV (b_Vars, b_Values) ((a_Terms.zip f_Values).take g)).1).length, cA0_0, aA0_1, ((foldV (b_Vars, b_Values) ((a_Terms.zip f_Values).take g)).2).length, cA0_1) ⟨rfl, rfl, rfl, rfl, rfl, trivial⟩ (.refl _) ⟨(show g + 1 ≤ a_Terms.length from by omega), (show okV (b_Vars, b_Values) (a_Terms.zip f_Values) = okV (foldV (b_Vars, b_Values) ((a_Terms.zip f_Values).take (g + 1))) ((a_Terms.zip f_Values).drop (g + 1)) from by grind [matchB, matchV, okV_step, okV_end, fv_step, fv_all, addV, unb_idx, val_ok, List.drop_eq_getElem_cons, List.drop_eq_nil_of_le, List.take_succ_eq_append_getElem, List.take_of_length_le])⟩ (show a_Terms.length - (g + 1) < a_Terms.length - g from by omega)
        · refine E.nil (E.thn (E.cf rfl (E.exit (E.the (E.the (E.blh (E.thn (E.seq (E.region (l := [0, 1, 2]) rfl (E.y rfl rfl (by decide) (Y.ldS (cs := [_, _]) ty_Binding rfl (Has.pt (mS (mS m0))) rfl) ?_))))))))))
          refine Ent.p3 ?_
          refine E.st rfl rfl (N.sto (vs := [_, _]) (cs' := [_, _]) ty_Binding rfl rfl rfl rfl rfl (Nat.le_of_ble_eq_true rfl) rfl) (fun _ _ => ?_)
          refine E.y rfl rfl (by decide) ((Y.as rfl).yd) ?_
          refine E.nil (E.thn (E.ret (Ent.p1 ?_)))
          refine Ent.cv (congrArg (ow eIs [_]) (show _ = cond (matchB (b_Vars, b_Values) (a_Rel, a_Terms) (f_Rel, f_Values)) (matchV (b_Vars, b_Values) (a_Rel, a_Terms) (f_Rel, f_Values)).2 [] by grind [matchB, matchV, okV_step, okV_end, fv_step, fv_all, addV, unb_idx, val_ok, List.drop_eq_getElem_cons, List.drop_eq_nil_of_le, List.take_succ_eq_append_getElem, List.take_of_length_le])) ?_
          refine Ent.p2 ?_
          refine Ent.cv (congrArg (ow eIs [_]) (show _ = cond (matchB (b_Vars, b_Values) (a_Rel, a_Terms) (f_Rel, f_Values)) (matchV (b_Vars, b_Values) (a_Rel, a_Terms) (f_Rel, f_Values)).1 [] by grind [matchB, matchV, okV_step, okV_end, fv_step, fv_all, addV, unb_idx, val_ok, List.drop_eq_getElem_cons, List.drop_eq_nil_of_le, List.take_succ_eq_append_getElem, List.take_of_length_le])) ?_
          refine Ent.p1 ?_
          refine Ent.p1 ?_
          exact F.c2 (Back.refl _ _) rfl rfl rfl (mS (mS m0)) ty_Binding rfl ((_, _, _), (_, _, _)) trivial (by rw [show (matchB (b_Vars, b_Values) (a_Rel, a_Terms) (f_Rel, f_Values)) = (true) from (by grind [matchB, matchV, okV_step, okV_end, fv_step, fv_all, addV, unb_idx, val_ok, List.drop_eq_getElem_cons, List.drop_eq_nil_of_le, List.take_succ_eq_append_getElem, List.take_of_length_le])]; try rfl) (J := _) (.refl _) (.inl rfl)
theorem t_impl_matchAll {a_l : Option Addr} {m_l c_l : Nat} {l : List (List Int × List Int)} {a_Rel : Int} {a_a_Terms : Option Addr} {m_a_Terms c_a_Terms : Nat} {a_Terms : List Int} {a_facts : Option Addr} {m_facts c_facts : Nat} {facts : List (Int × List Int)} (hbl : ∀ b ∈ l, b.1.length ≤ 1000 ∧ b.2.length ≤ 1000) (hat : a_Terms.length ≤ 1000) (hn : l.length * facts.length ≤ 100000000) : Tr Tryz.prog 158 [.slice a_l m_l c_l, .agg #[.int .i64 a_Rel, .slice a_a_Terms m_a_Terms c_a_Terms], .slice a_facts m_facts c_facts] (fun w L => Ro w L eBindings [.slice a_l m_l c_l] l ∧ I64 a_Rel ∧ Ro w L eIs [.slice a_a_Terms m_a_Terms c_a_Terms] a_Terms ∧ Ro w L eFacts [.slice a_facts m_facts c_facts] facts) [] (κ := Option Addr × Nat × Nat) (fun k => True) (fun k => .slice k.1 k.2.1 k.2.2) (fun k => [ow eBindings [.slice k.1 k.2.1 k.2.2] (extF l (a_Rel, a_Terms) facts)]) := by
  refine Tr.intro Tryz.func158 rfl (n := 42) rfl (by decide +kernel) (Nat.le_of_ble_eq_true rfl) (fr := [(0, .slice a_l m_l c_l), (1, .agg #[.int .i64 a_Rel, .slice a_a_Terms m_a_Terms c_a_Terms]), (2, .slice a_facts m_facts c_facts)]) rfl fun w L hR => ?_
  obtain ⟨hl, i6a_Rel, ha_Terms, hfacts⟩ := hR
  obtain ⟨rfl, ll⟩ := hl.slen
  obtain ⟨rfl, la_Terms⟩ := ha_Terms.slen
  obtain ⟨rfl, lfacts⟩ := hfacts.slen
  refine E.seq (E.region (l := [0, 1]) rfl (E.st rfl rfl (N.box (cs := [_, _]) rfl (by decide) rfl) (fun b4 _ => ?_)))
  refine E.y rfl rfl (by decide) ((Y.as rfl).yd) ?_
  refine E.nil (E.thn (E.seq (E.region (l := [0, 1]) rfl (E.st rfl rfl (N.bsl (pvs := []) (cs := []) us_Bindings ty_Binding rfl (by decide) (by decide) (fillZ rfl rfl) rfl (by decide)) (fun b14 _ => ?_)))))
  refine Ent.drop ?_
  refine E.y rfl rfl (by decide) ((Y.as rfl).yd) ?_
  refine E.nil (E.thn (E.seq (E.seq (E.region (l := [0, 1, 2]) rfl (E.y rfl rfl (by decide) ((Y.mv rfl).yd) ?_)))))
  refine E.y rfl rfl (by decide) ((Y.len us_Bindings rfl).yd) ?_
  refine E.y rfl rfl (by decide) ((Y.mv rfl).yd) ?_
  refine E.nil (E.thn (E.block (Ent.mkow (A := []) (Own.nil (E := eBinding) (e := tBinding) (a := (some ⟨b14, 0, none⟩))) rfl ?_)))
  refine Ent.cv (congrArg (ow eBindings [_]) (show [] = extF (l.take 0) (a_Rel, a_Terms) facts from by first | rfl | (simp; done) | grind [ext1_snoc, ext1_nil, extF_nil, extF_snoc, List.drop_eq_getElem_cons, List.drop_eq_nil_of_le, List.take_succ_eq_append_getElem, List.take_of_length_le])) ?_
  refine E.loop (κ := Nat × Option Addr × Nat × Nat) (fun g => g.1 ≤ l.length ∧ True) (fun g => [(2, .slice a_facts facts.length c_facts), (4, .pointer (some ⟨b4, 0, none⟩)), (7, .slice g.2.1 g.2.2.1 g.2.2.2), (15, .slice a_l l.length c_l), (16, .int .i64 (↑l.length : Int)), (17, .int .i64 (↑g.1 : Int))]) (fun g => [ow eBindings [.slice g.2.1 g.2.2.1 g.2.2.2] (extF (l.take g.1) (a_Rel, a_Terms) facts), pt b4 113 [.int .i64 a_Rel, .slice a_a_Terms a_Terms.length c_a_Terms]]) (fun g => l.length - g.1) (0, (some ⟨b14, 0, none⟩), 0, 0) ⟨Nat.zero_le _, by simp⟩ ⟨rfl, rfl, rfl, rfl, rfl, rfl, trivial⟩ (.refl _) (fun g pg => ?_)
  obtain ⟨g, aA0_0, mA0_0, cA0_0⟩ := g
  try dsimp only at pg
  show Ent _ _ _ [(2, .slice a_facts facts.length c_facts), (4, .pointer (some ⟨b4, 0, none⟩)), (7, .slice aA0_0 mA0_0 cA0_0), (15, .slice a_l l.length c_l), (16, .int .i64 (↑l.length : Int)), (17, .int .i64 (↑g : Int))] [ow eBindings [.slice aA0_0 mA0_0 cA0_0] (extF (l.take g) (a_Rel, a_Terms) facts), pt b4 113 [.int .i64 a_Rel, .slice a_a_Terms a_Terms.length c_a_Terms]] _
  obtain ⟨pk, pa⟩ := pg
  have jn := extF_len (a := (a_Rel, a_Terms)) (facts := facts) (l := l.take g)
  have jp := List.length_take_le g l
  have jm := Nat.mul_le_mul_right facts.length jp
  have jm2 := Nat.mul_le_mul_right facts.length pk
  refine Ent.lenow m0 fun eaA0_0 laA0_0 => ?_
  subst eaA0_0
  refine E.seq (E.region (l := [0]) rfl (E.y rfl rfl (by decide) ((Y.lss rfl rfl).yd) (Ent.d (fun q18 => ?_) (fun q18 => ?_))))
  · obtain ⟨eb19, eo19, ec19, ea19, er19, el19, eh19⟩ := hl.elem g (by omega)
    obtain ⟨xa19_0, xc19_0, xa19_1, xc19_1, rfl, xh19_0, xh19_1⟩ := Ro.pBinding er19
    have := xh19_0.slen.2
    have := xh19_1.slen.2
    refine E.nil (E.thn (E.seq (E.ct rfl (E.skipc (E.thn (E.seq (E.block (E.seq (E.region (l := [0, 1, 2, 3]) rfl (E.y rfl rfl (by decide) ((Y.ix us_Bindings ty_Binding rfl ea19 rfl g rfl (by omega)).yd) ?_))))))))))
    refine E.y rfl rfl (by decide) (Y.ldS (cs := [_, _]) ty_Binding rfl (eh19 _) rfl) ?_
    refine E.st rfl rfl (N.alloc ty_Binding (by decide)) (fun b9 _ => ?_)
    refine E.st rfl rfl (N.sto (vs := [_, _]) (cs' := [_, _]) ty_Binding rfl rfl rfl rfl rfl (Nat.le_of_ble_eq_true rfl) rfl) (fun _ _ => ?_)
    refine E.nil (E.thn (E.seq (E.region (l := [0, 1, 2]) rfl (E.y rfl rfl (by decide) ((Y.mv rfl).yd) ?_))))
    refine E.y rfl rfl (by decide) ((Y.len us_Facts rfl).yd) ?_
    refine E.y rfl rfl (by decide) ((Y.mv rfl).yd) ?_
    refine E.nil (E.thn (E.block (Ent.p1 ?_)))
    refine Ent.cv (congrArg (ow eBindings [_]) (show extF (l.take g) (a_Rel, a_Terms) facts = extF (l.take g) (a_Rel, a_Terms) facts ++ ext1 l[g] (a_Rel, a_Terms) (facts.take 0) from by first | rfl | (simp; done) | grind [ext1_snoc, ext1_nil, extF_nil, extF_snoc, List.drop_eq_getElem_cons, List.drop_eq_nil_of_le, List.take_succ_eq_append_getElem, List.take_of_length_le])) ?_
    refine E.loop (κ := Nat × Option Addr × Nat × Nat) (fun h => h.1 ≤ facts.length ∧ True) (fun h => [(2, .slice a_facts facts.length c_facts), (4, .pointer (some ⟨b4, 0, none⟩)), (7, .slice h.2.1 h.2.2.1 h.2.2.2), (9, .pointer (some ⟨b9, 0, none⟩)), (15, .slice a_l l.length c_l), (16, .int .i64 (↑l.length : Int)), (17, .int .i64 (↑g : Int)), (21, .slice a_facts facts.length c_facts), (22, .int .i64 (↑facts.length : Int)), (23, .int .i64 (↑h.1 : Int))]) (fun h => [ow eBindings [.slice h.2.1 h.2.2.1 h.2.2.2] (extF (l.take g) (a_Rel, a_Terms) facts ++ ext1 l[g] (a_Rel, a_Terms) (facts.take h.1)), pt b9 80 [.slice xa19_0 l[g].1.length xc19_0, .slice xa19_1 l[g].2.length xc19_1], pt b4 113 [.int .i64 a_Rel, .slice a_a_Terms a_Terms.length c_a_Terms]]) (fun h => facts.length - h.1) (0, aA0_0, (extF (l.take g) (a_Rel, a_Terms) facts).length, cA0_0) ⟨Nat.zero_le _, by simp⟩ ⟨rfl, rfl, rfl, rfl, rfl, rfl, rfl, rfl, rfl, rfl, trivial⟩ (.refl _) (fun h ph => ?_)
    obtain ⟨h, aA1_0, mA1_0, cA1_0⟩ := h
    try dsimp only at ph
    show Ent _ _ _ [(2, .slice a_facts facts.length c_facts), (4, .pointer (some ⟨b4, 0, none⟩)), (7, .slice aA1_0 mA1_0 cA1_0), (9, .pointer (some ⟨b9, 0, none⟩)), (15, .slice a_l l.length c_l), (16, .int .i64 (↑l.length : Int)), (17, .int .i64 (↑g : Int)), (21, .slice a_facts facts.length c_facts), (22, .int .i64 (↑facts.length : Int)), (23, .int .i64 (↑h : Int))] [ow eBindings [.slice aA1_0 mA1_0 cA1_0] (extF (l.take g) (a_Rel, a_Terms) facts ++ ext1 l[g] (a_Rel, a_Terms) (facts.take h)), pt b9 80 [.slice xa19_0 l[g].1.length xc19_0, .slice xa19_1 l[g].2.length xc19_1], pt b4 113 [.int .i64 a_Rel, .slice a_a_Terms a_Terms.length c_a_Terms]] _
    obtain ⟨pk, pa⟩ := ph
    have jo := extF_lent (a := (a_Rel, a_Terms)) (facts := facts) (fs := facts.take h) (l := l) (g := g) (b := l[g]) hn (by omega) (List.length_take_le' h facts)
    refine Ent.lenow m0 fun eaA1_0 laA1_0 => ?_
    subst eaA1_0
    refine E.seq (E.region (l := [0]) rfl (E.y rfl rfl (by decide) ((Y.lss rfl rfl).yd) (Ent.d (fun q24 => ?_) (fun q24 => ?_))))
    · obtain ⟨eb25, eo25, ec25, ea25, er25, el25, eh25⟩ := hfacts.elem h (by omega)
      obtain ⟨xa25_0, xc25_0, rfl, ei25_0, xh25_0⟩ := Ro.pFact er25
      have := xh25_0.slen.2
      refine E.nil (E.thn (E.seq (E.ct rfl (E.skipc (E.thn (E.seq (E.block (E.seq (E.region (l := [0, 1, 2, 3]) rfl (E.y rfl rfl (by decide) ((Y.ix us_Facts ty_Fact rfl ea25 rfl h rfl (by omega)).yd) ?_))))))))))
      refine E.y rfl rfl (by decide) (Y.ldS (cs := [_, _]) ty_Fact rfl (eh25 _) rfl) ?_
      refine E.st rfl rfl (N.alloc ty_Fact (by decide)) (fun b11 _ => ?_)
      refine E.st rfl rfl (N.sto (vs := [_, _]) (cs' := [_, _]) ty_Fact rfl rfl rfl rfl rfl (Nat.le_of_ble_eq_true rfl) rfl) (fun _ _ => ?_)
      refine E.nil (E.thn (E.seq (E.region (l := [0, 1, 2, 3, 4, 5, 6, 7, 8, 9]) rfl (E.y rfl rfl (by decide) (Y.ldS (cs := [_, _]) ty_Binding rfl (Has.pt (mS (mS m0))) rfl) ?_))))
      refine E.y rfl rfl (by decide) (Y.ldS (cs := [_, _]) ty_Atom rfl (Has.pt (mS (mS (mS m0)))) rfl) ?_
      refine E.y rfl rfl (by decide) (Y.ldS (cs := [_, _]) ty_Fact rfl (Has.pt m0) rfl) ?_
      refine E.st rfl rfl (N.call (t_impl_MatchAtom ((hbl _ (List.getElem_mem (by omega))).1) ((hbl _ (List.getElem_mem (by omega))).2) ((by first | omega | assumption))) rfl rfl rfl (by decide) rfl (fun w Lp hA => ⟨hA.ro xh19_0, hA.ro xh19_1, i6a_Rel, hA.ro ha_Terms, ei25_0, hA.ro xh25_0⟩)) (fun k31 _ => ?_)
      obtain ⟨⟨a31_0, m31_0, c31_0⟩, ⟨a31_1, m31_1, c31_1⟩⟩ := k31
      refine Ent.lenow m0 fun e31_0 l31_0 => ?_
      subst e31_0
      refine Ent.lenow (mS m0) fun e31_1 l31_1 => ?_
      subst e31_1
      refine E.y rfl rfl (by decide) ((Y.mv rfl).yd) ?_
      refine E.y rfl rfl (by decide) ((Y.ext rfl rfl).yd) ?_
      refine E.y rfl rfl (by decide) ((Y.ext rfl rfl).yd) ?_
      refine E.st rfl rfl (N.alloc ty_Binding (by decide)) (fun b12 _ => ?_)
      refine E.st rfl rfl (N.sto (vs := [_, _]) (cs' := [_, _]) ty_Binding rfl rfl rfl rfl rfl (Nat.le_of_ble_eq_true rfl) rfl) (fun _ _ => ?_)
      refine E.y rfl rfl (by decide) ((Y.as rfl).yd) (Ent.b (fun q13 => ?_) (fun q13 => ?_))
      · refine E.nil (E.thn (E.seq (E.region (l := [0]) rfl (E.y rfl rfl (by decide) ((Y.mv rfl).yd) ?_))))
        refine E.nil (E.thn (E.ct rfl (E.region (l := [0, 1, 2, 3, 4]) rfl (E.y rfl rfl (by decide) ((Y.mv rfl).yd) ?_))))
        refine E.y rfl rfl (by decide) (Y.ldS (cs := [_, _]) ty_Binding rfl (Has.pt m0) rfl) ?_
        refine E.st rfl rfl (N.bsl (pvs := [_]) (cs := [_, _]) us_Bindings ty_Binding rfl (by decide) (by decide) (fillZ rfl rfl) rfl (by decide)) (fun b37 _ => ?_)
        refine Ent.p3 ?_
        refine Ent.p3 ?_
        refine Ent.p2 ?_
        refine Ent.p5 ?_
        refine E.st rfl rfl (N.push (E := eBinding) (ex := (cond (matchB l[g] (a_Rel, a_Terms) facts[h]) (matchV l[g] (a_Rel, a_Terms) facts[h]).1 [], cond (matchB l[g] (a_Rel, a_Terms) facts[h]) (matchV l[g] (a_Rel, a_Terms) facts[h]).2 [])) us_Bindings ty_Binding rfl rfl rfl (Own.mkBinding (x := (cond (matchB l[g] (a_Rel, a_Terms) facts[h]) (matchV l[g] (a_Rel, a_Terms) facts[h]).1 [], cond (matchB l[g] (a_Rel, a_Terms) facts[h]) (matchV l[g] (a_Rel, a_Terms) facts[h]).2 [])) Own.ow Own.ow) rfl (by first | omega | (simp only [List.length_map, List.length_take, List.length_append, List.length_drop, List.length_cons, List.length_nil]; omega)) (by first | omega | (simp only [List.length_map, List.length_take, List.length_append, List.length_drop, List.length_cons, List.length_nil]; omega)) (by decide)) (fun p38 _ => ?_)
        refine E.y rfl rfl (by decide) ((Y.as rfl).yd) ?_
        refine E.nil (E.bln (E.thn (E.region (l := [0, 1]) rfl (E.y rfl rfl (by decide) ((Y.add rfl rfl (by omega) (by omega)).yd) ?_))))
        refine E.y rfl rfl (by decide) ((Y.mv rfl).yd) ?_
        refine E.nil (E.thn (Ent.p1 ?_))
        refine Ent.drop ?_
        refine Ent.p1 ?_
        refine Ent.drop ?_
        refine Ent.cv (congrArg (ow eBindings [_]) (show (extF (l.take g) (a_Rel, a_Terms) facts ++ ext1 l[g] (a_Rel, a_Terms) (facts.take h)) ++ [(cond (matchB l[g] (a_Rel, a_Terms) facts[h]) (matchV l[g] (a_Rel, a_Terms) facts[h]).1 [], cond (matchB l[g] (a_Rel, a_Terms) facts[h]) (matchV l[g] (a_Rel, a_Terms) facts[h]).2 [])] = extF (l.take g) (a_Rel, a_Terms) facts ++ ext1 l[g] (a_Rel, a_Terms) (facts.take (h + 1)) from by grind [ext1_snoc, ext1_nil, extF_nil, extF_snoc, List.drop_eq_getElem_cons, List.drop_eq_nil_of_le, List.take_succ_eq_append_getElem, List.take_of_length_le])) ?_
        refine Ent.p2 ?_
        refine Ent.p2 ?_
        refine Ent.p2 ?_
        exact E.again (Back.refl _ _) (h + 1, p38.1, ((extF (l.take g) (a_Rel, a_Terms) facts ++ ext1 l[g] (a_Rel, a_Terms) (facts.take h)).length + 1), p38.2) ⟨rfl, rfl, rfl, rfl, rfl, rfl, rfl, rfl, rfl, rfl, trivial⟩ (.refl _) ⟨(show h + 1 ≤ facts.length from by omega), (show True from by grind [List.drop_eq_getElem_cons, List.drop_eq_nil_of_le, List.take_succ_eq_append_getElem, List.take_of_length_le])⟩ (show facts.length - (h + 1) < facts.length - h from by omega)
      · refine E.nil (E.thn (E.seq (E.region (l := [0]) rfl (E.y rfl rfl (by decide) ((Y.mv rfl).yd) ?_))))
        refine E.nil (E.thn (E.cf rfl (E.skipc (E.bln (E.thn (E.region (l := [0, 1]) rfl (E.y rfl rfl (by decide) ((Y.add rfl rfl (by omega) (by omega)).yd) ?_)))))))
        refine E.y rfl rfl (by decide) ((Y.mv rfl).yd) ?_
        refine E.nil (E.thn (Ent.drop ?_))
        refine Ent.drop ?_
        refine Ent.drop ?_
        refine Ent.drop ?_
        refine Ent.cv (congrArg (ow eBindings [_]) (show extF (l.take g) (a_Rel, a_Terms) facts ++ ext1 l[g] (a_Rel, a_Terms) (facts.take h) = extF (l.take g) (a_Rel, a_Terms) facts ++ ext1 l[g] (a_Rel, a_Terms) (facts.take (h + 1)) from by grind [ext1_snoc, ext1_nil, extF_nil, extF_snoc, List.drop_eq_getElem_cons, List.drop_eq_nil_of_le, List.take_succ_eq_append_getElem, List.take_of_length_le])) ?_
        refine Ent.p2 ?_
        refine Ent.p2 ?_
        refine Ent.p2 ?_
        exact E.again (Back.refl _ _) (h + 1, aA1_0, (extF (l.take g) (a_Rel, a_Terms) facts ++ ext1 l[g] (a_Rel, a_Terms) (facts.take h)).length, cA1_0) ⟨rfl, rfl, rfl, rfl, rfl, rfl, rfl, rfl, rfl, rfl, trivial⟩ (.refl _) ⟨(show h + 1 ≤ facts.length from by omega), (show True from by grind [List.drop_eq_getElem_cons, List.drop_eq_nil_of_le, List.take_succ_eq_append_getElem, List.take_of_length_le])⟩ (show facts.length - (h + 1) < facts.length - h from by omega)
    · refine E.nil (E.thn (E.seq (E.cf rfl (E.exit (E.the (E.the (E.blh (E.bln (E.thn (E.region (l := [0, 1]) rfl (E.y rfl rfl (by decide) ((Y.add rfl rfl (by omega) (by omega)).yd) ?_)))))))))))
      refine E.y rfl rfl (by decide) ((Y.mv rfl).yd) ?_
      refine E.nil (E.thn (Ent.p1 ?_))
      refine Ent.drop ?_
      refine Ent.cv (congrArg (ow eBindings [_]) (show extF (l.take g) (a_Rel, a_Terms) facts ++ ext1 l[g] (a_Rel, a_Terms) (facts.take h) = extF (l.take (g + 1)) (a_Rel, a_Terms) facts from by grind [ext1_snoc, ext1_nil, extF_nil, extF_snoc, List.drop_eq_getElem_cons, List.drop_eq_nil_of_le, List.take_succ_eq_append_getElem, List.take_of_length_le])) ?_
      refine Ent.p1 ?_
      refine Ent.p1 ?_
      exact E.again (Back.refl _ _) (g + 1, aA1_0, (extF (l.take g) (a_Rel, a_Terms) facts ++ ext1 l[g] (a_Rel, a_Terms) (facts.take h)).length, cA1_0) ⟨rfl, rfl, rfl, rfl, rfl, rfl, trivial⟩ (.refl _) ⟨(show g + 1 ≤ l.length from by omega), (show True from by grind [List.drop_eq_getElem_cons, List.drop_eq_nil_of_le, List.take_succ_eq_append_getElem, List.take_of_length_le])⟩ (show l.length - (g + 1) < l.length - g from by omega)
  · refine E.nil (E.thn (E.seq (E.cf rfl (E.exit (E.the (E.the (E.blh (E.thn (E.seq (E.region (l := [0, 1]) rfl (E.y rfl rfl (by decide) ((Y.mv rfl).yd) ?_)))))))))))
    refine E.y rfl rfl (by decide) ((Y.as rfl).yd) ?_
    refine E.nil (E.thn (E.ret (Ent.cv (congrArg (ow eBindings [_]) (show _ = extF l (a_Rel, a_Terms) facts by grind [ext1_snoc, ext1_nil, extF_nil, extF_snoc, List.drop_eq_getElem_cons, List.drop_eq_nil_of_le, List.take_succ_eq_append_getElem, List.take_of_length_le])) ?_)))
    exact F.r1 (Back.refl _ _) rfl rfl (_, _, _) trivial rfl (J := _) (.refl _) (.inl rfl)
theorem t_spec_l4Extend {a_l : Option Addr} {m_l c_l : Nat} {l : List (List Int × List Int)} {a_Rel : Int} {a_a_Terms : Option Addr} {m_a_Terms c_a_Terms : Nat} {a_Terms : List Int} {a_facts : Option Addr} {m_facts c_facts : Nat} {facts : List (Int × List Int)} (hbl : ∀ b ∈ l, b.1.length ≤ 1000 ∧ b.2.length ≤ 1000) (hat : a_Terms.length ≤ 1000) (hn : l.length * facts.length ≤ 100000000) : Tr Tryz.prog 132 [.slice a_l m_l c_l, .agg #[.int .i64 a_Rel, .slice a_a_Terms m_a_Terms c_a_Terms], .slice a_facts m_facts c_facts] (fun w L => Ro w L eBindings [.slice a_l m_l c_l] l ∧ I64 a_Rel ∧ Ro w L eIs [.slice a_a_Terms m_a_Terms c_a_Terms] a_Terms ∧ Ro w L eFacts [.slice a_facts m_facts c_facts] facts) [] (κ := Option Addr × Nat × Nat) (fun k => True) (fun k => .slice k.1 k.2.1 k.2.2) (fun k => [ow eBindings [.slice k.1 k.2.1 k.2.2] (extF l (a_Rel, a_Terms) facts)]) := by
  refine Tr.intro Tryz.func132 rfl (n := 44) rfl (by decide +kernel) (Nat.le_of_ble_eq_true rfl) (fr := [(0, .slice a_l m_l c_l), (1, .agg #[.int .i64 a_Rel, .slice a_a_Terms m_a_Terms c_a_Terms]), (2, .slice a_facts m_facts c_facts)]) rfl fun w L hR => ?_
  obtain ⟨hl, i6a_Rel, ha_Terms, hfacts⟩ := hR
  obtain ⟨rfl, ll⟩ := hl.slen
  obtain ⟨rfl, la_Terms⟩ := ha_Terms.slen
  obtain ⟨rfl, lfacts⟩ := hfacts.slen
  refine E.seq (E.region (l := [0, 1]) rfl (E.st rfl rfl (N.box (cs := [_, _]) rfl (by decide) rfl) (fun b4 _ => ?_)))
  refine E.y rfl rfl (by decide) ((Y.as rfl).yd) ?_
  refine E.nil (E.thn (E.seq (E.region (l := [0, 1]) rfl (E.st rfl rfl (N.bsl (pvs := []) (cs := []) us_Bindings ty_Binding rfl (by decide) (by decide) (fillZ rfl rfl) rfl (by decide)) (fun b12 _ => ?_)))))
  refine Ent.drop ?_
  refine E.y rfl rfl (by decide) ((Y.as rfl).yd) ?_
  refine E.nil (E.thn (E.seq (E.seq (E.region (l := [0]) rfl (E.y rfl rfl (by decide) ((Y.as rfl).yd) ?_)))))
  refine E.nil (E.thn (E.block (Ent.mkow (A := []) (Own.nil (E := eBinding) (e := tBinding) (a := (some ⟨b12, 0, none⟩))) rfl ?_)))
  refine Ent.cv (congrArg (ow eBindings [_]) (show [] = extF (l.take 0) (a_Rel, a_Terms) facts from by first | rfl | (simp; done) | grind [ext1_snoc, ext1_nil, extF_nil, extF_snoc, List.drop_eq_getElem_cons, List.drop_eq_nil_of_le, List.take_succ_eq_append_getElem, List.take_of_length_le])) ?_
  refine E.loop (κ := Nat × Option Addr × Nat × Nat) (fun g => g.1 ≤ l.length ∧ True) (fun g => [(0, .slice a_l l.length c_l), (2, .slice a_facts facts.length c_facts), (4, .pointer (some ⟨b4, 0, none⟩)), (7, .slice g.2.1 g.2.2.1 g.2.2.2), (8, .int .i64 (↑g.1 : Int))]) (fun g => [ow eBindings [.slice g.2.1 g.2.2.1 g.2.2.2] (extF (l.take g.1) (a_Rel, a_Terms) facts), pt b4 113 [.int .i64 a_Rel, .slice a_a_Terms a_Terms.length c_a_Terms]]) (fun g => l.length - g.1) (0, (some ⟨b12, 0, none⟩), 0, 0) ⟨Nat.zero_le _, by simp⟩ ⟨rfl, rfl, rfl, rfl, rfl, trivial⟩ (.refl _) (fun g pg => ?_)
  obtain ⟨g, aA0_0, mA0_0, cA0_0⟩ := g
  try dsimp only at pg
  show Ent _ _ _ [(0, .slice a_l l.length c_l), (2, .slice a_facts facts.length c_facts), (4, .pointer (some ⟨b4, 0, none⟩)), (7, .slice aA0_0 mA0_0 cA0_0), (8, .int .i64 (↑g : Int))] [ow eBindings [.slice aA0_0 mA0_0 cA0_0] (extF (l.take g) (a_Rel, a_Terms) facts), pt b4 113 [.int .i64 a_Rel, .slice a_a_Terms a_Terms.length c_a_Terms]] _
  obtain ⟨pk, pa⟩ := pg
  have jn := extF_len (a := (a_Rel, a_Terms)) (facts := facts) (l := l.take g)
  have jp := List.length_take_le g l
  have jm := Nat.mul_le_mul_right facts.length jp
  have jm2 := Nat.mul_le_mul_right facts.length pk
  refine Ent.lenow m0 fun eaA0_0 laA0_0 => ?_
  subst eaA0_0
  refine E.seq (E.seq (E.region (l := [0, 1, 2, 3]) rfl (E.y rfl rfl (by decide) ((Y.mv rfl).yd) ?_)))
  refine E.y rfl rfl (by decide) ((Y.mv rfl).yd) ?_
  refine E.y rfl rfl (by decide) ((Y.len us_Bindings rfl).yd) ?_
  refine E.y rfl rfl (by decide) ((Y.lss rfl rfl).yd) (Ent.d (fun q16 => ?_) (fun q16 => ?_))
  · refine E.nil (E.thn (E.ct rfl (E.skipc (E.thn (E.seq (E.block (E.seq (E.region (l := [0]) rfl (E.y rfl rfl (by decide) ((Y.as rfl).yd) ?_)))))))))
    refine E.nil (E.thn (E.block (Ent.cv (congrArg (ow eBindings [_]) (show extF (l.take g) (a_Rel, a_Terms) facts = extF (l.take g) (a_Rel, a_Terms) facts ++ ext1 l[g] (a_Rel, a_Terms) (facts.take 0) from by first | rfl | (simp; done) | grind [ext1_snoc, ext1_nil, extF_nil, extF_snoc, List.drop_eq_getElem_cons, List.drop_eq_nil_of_le, List.take_succ_eq_append_getElem, List.take_of_length_le])) ?_)))
    refine E.loop (κ := Nat × Option Addr × Nat × Nat) (fun h => h.1 ≤ facts.length ∧ True) (fun h => [(0, .slice a_l l.length c_l), (2, .slice a_facts facts.length c_facts), (4, .pointer (some ⟨b4, 0, none⟩)), (7, .slice h.2.1 h.2.2.1 h.2.2.2), (8, .int .i64 (↑g : Int)), (9, .int .i64 (↑h.1 : Int))]) (fun h => [ow eBindings [.slice h.2.1 h.2.2.1 h.2.2.2] (extF (l.take g) (a_Rel, a_Terms) facts ++ ext1 l[g] (a_Rel, a_Terms) (facts.take h.1)), pt b4 113 [.int .i64 a_Rel, .slice a_a_Terms a_Terms.length c_a_Terms]]) (fun h => facts.length - h.1) (0, aA0_0, (extF (l.take g) (a_Rel, a_Terms) facts).length, cA0_0) ⟨Nat.zero_le _, by simp⟩ ⟨rfl, rfl, rfl, rfl, rfl, rfl, trivial⟩ (.refl _) (fun h ph => ?_)
    obtain ⟨h, aA1_0, mA1_0, cA1_0⟩ := h
    try dsimp only at ph
    show Ent _ _ _ [(0, .slice a_l l.length c_l), (2, .slice a_facts facts.length c_facts), (4, .pointer (some ⟨b4, 0, none⟩)), (7, .slice aA1_0 mA1_0 cA1_0), (8, .int .i64 (↑g : Int)), (9, .int .i64 (↑h : Int))] [ow eBindings [.slice aA1_0 mA1_0 cA1_0] (extF (l.take g) (a_Rel, a_Terms) facts ++ ext1 l[g] (a_Rel, a_Terms) (facts.take h)), pt b4 113 [.int .i64 a_Rel, .slice a_a_Terms a_Terms.length c_a_Terms]] _
    obtain ⟨pk, pa⟩ := ph
    have jo := extF_lent (a := (a_Rel, a_Terms)) (facts := facts) (fs := facts.take h) (l := l) (g := g) (b := l[g]) hn (by omega) (List.length_take_le' h facts)
    refine Ent.lenow m0 fun eaA1_0 laA1_0 => ?_
    subst eaA1_0
    refine E.seq (E.seq (E.region (l := [0, 1, 2, 3]) rfl (E.y rfl rfl (by decide) ((Y.mv rfl).yd) ?_)))
    refine E.y rfl rfl (by decide) ((Y.mv rfl).yd) ?_
    refine E.y rfl rfl (by decide) ((Y.len us_Facts rfl).yd) ?_
    refine E.y rfl rfl (by decide) ((Y.lss rfl rfl).yd) (Ent.d (fun q22 => ?_) (fun q22 => ?_))
    · refine E.nil (E.thn (E.ct rfl (E.skipc (E.thn (E.seq (E.block (E.seq (E.mid (κ := Nat × Option Addr × Nat × Option Addr × Nat) (fun _ => True) (fun kM => [(0, .slice a_l l.length c_l), (2, .slice a_facts facts.length c_facts), (4, .pointer (some ⟨b4, 0, none⟩)), (7, .slice aA1_0 (extF (l.take g) (a_Rel, a_Terms) facts ++ ext1 l[g] (a_Rel, a_Terms) (facts.take h)).length cA1_0), (8, .int .i64 (↑g : Int)), (9, .int .i64 (↑h : Int)), (10, .pointer (some ⟨kM.1, 0, none⟩)), (11, .bool (matchB l[g] (a_Rel, a_Terms) facts[h]))]) (fun kM => [pt kM.1 80 [.slice kM.2.1 (cond (matchB l[g] (a_Rel, a_Terms) facts[h]) (matchV l[g] (a_Rel, a_Terms) facts[h]).1 []).length kM.2.2.1, .slice kM.2.2.2.1 (cond (matchB l[g] (a_Rel, a_Terms) facts[h]) (matchV l[g] (a_Rel, a_Terms) facts[h]).2 []).length kM.2.2.2.2], ow eIs [.slice kM.2.1 (cond (matchB l[g] (a_Rel, a_Terms) facts[h]) (matchV l[g] (a_Rel, a_Terms) facts[h]).1 []).length kM.2.2.1] (cond (matchB l[g] (a_Rel, a_Terms) facts[h]) (matchV l[g] (a_Rel, a_Terms) facts[h]).1 []), ow eIs [.slice kM.2.2.2.1 (cond (matchB l[g] (a_Rel, a_Terms) facts[h]) (matchV l[g] (a_Rel, a_Terms) facts[h]).2 []).length kM.2.2.2.2] (cond (matchB l[g] (a_Rel, a_Terms) facts[h]) (matchV l[g] (a_Rel, a_Terms) facts[h]).2 []), ow eBindings [.slice aA1_0 (extF (l.take g) (a_Rel, a_Terms) facts ++ ext1 l[g] (a_Rel, a_Terms) (facts.take h)).length cA1_0] (extF (l.take g) (a_Rel, a_Terms) facts ++ ext1 l[g] (a_Rel, a_Terms) (facts.take h)), pt b4 113 [.int .i64 a_Rel, .slice a_a_Terms a_Terms.length c_a_Terms]]) ?_ (fun kM _ => ?_)))))))))
      · refine D.region (fun j => !(Nat.beq j 14)) mixed (D.yp 0 rfl rfl (by decide) (Y.mv rfl) (by kernel_rfl) ?_)
        refine D.yp 1 rfl rfl (by decide) (Y.mv rfl) (by kernel_rfl) ?_
        obtain ⟨eb28, eo28, ec28, ea28, er28, el28, eh28⟩ := hl.elem g (by omega)
        obtain ⟨xa28_0, xc28_0, xa28_1, xc28_1, rfl, xh28_0, xh28_1⟩ := Ro.pBinding er28
        have := xh28_0.slen.2
        have := xh28_1.slen.2
        refine D.yp 2 rfl rfl (by decide) (Y.ix us_Bindings ty_Binding rfl ea28 rfl g rfl (by omega)) (by kernel_rfl) ?_
        refine D.y 3 rfl rfl (by decide) (Y.ldS (cs := [_, _]) ty_Binding rfl (eh28 _) rfl) (by kernel_rfl) ?_
        refine D.y 4 rfl rfl (by decide) (Y.ldS (cs := [_, _]) ty_Atom rfl (Has.pt (mS m0)) rfl) (by kernel_rfl) ?_
        refine D.yp 5 rfl rfl (by decide) (Y.mv rfl) (by kernel_rfl) ?_
        refine D.yp 6 rfl rfl (by decide) (Y.mv rfl) (by kernel_rfl) ?_
        obtain ⟨eb33, eo33, ec33, ea33, er33, el33, eh33⟩ := hfacts.elem h (by omega)
        obtain ⟨xa33_0, xc33_0, rfl, ei33_0, xh33_0⟩ := Ro.pFact er33
        have := xh33_0.slen.2
        refine D.yp 7 rfl rfl (by decide) (Y.ix us_Facts ty_Fact rfl ea33 rfl h rfl (by omega)) (by kernel_rfl) ?_
        refine D.y 8 rfl rfl (by decide) (Y.ldS (cs := [_, _]) ty_Fact rfl (eh33 _) rfl) (by kernel_rfl) ?_
        refine D.ch2 (i := 9) (j := 13) (by kernel_rfl) ?_ ?_
        · refine D.pk 9 rfl rfl (fun _ => rfl) (N.call (t_spec_MatchAtom ((hbl _ (List.getElem_mem (by omega))).1) ((hbl _ (List.getElem_mem (by omega))).2) ((by first | omega | assumption))) rfl rfl rfl (by decide) rfl (fun w Lp hA => ⟨hA.ro xh28_0, hA.ro xh28_1, i6a_Rel, hA.ro ha_Terms, ei33_0, hA.ro xh33_0⟩)) (fun k35 _ => ?_)
          obtain ⟨⟨a35_0, m35_0, c35_0⟩, ⟨a35_1, m35_1, c35_1⟩⟩ := k35
          refine Ent.lenow m0 fun e35_0 l35_0 => ?_
          subst e35_0
          refine Ent.lenow (mS m0) fun e35_1 l35_1 => ?_
          subst e35_1
          refine D.yp 10 rfl rfl (by decide) (Y.mv rfl) (by kernel_rfl) ?_
          refine D.yp 11 rfl rfl (by decide) (Y.ext rfl rfl) (by kernel_rfl) ?_
          refine D.yp 12 rfl rfl (by decide) (Y.ext rfl rfl) (by kernel_rfl) ?_
          refine D.st 13 rfl rfl (by kernel_rfl) (fun _ => rfl) (N.alloc ty_Binding (by decide)) (fun b10 _ => ?_)
          refine D.st 14 rfl rfl (by kernel_rfl) (fun h => by cases h) (N.sto (vs := [_, _]) (cs' := [_, _]) ty_Binding rfl rfl rfl rfl rfl (Nat.le_of_ble_eq_true rfl) rfl) (fun _ _ => ?_)
          refine D.yp 15 rfl rfl (by decide) (Y.as rfl) (by kernel_rfl) ?_
          refine D.done (by kernel_rfl) (Ent.p4 ?_)
          refine Ent.p4 ?_
          refine Ent.p4 ?_
          refine Ent.p4 ?_
          refine Ent.p4 ?_
          exact E.mdn (b10, a35_0, c35_0, a35_1, c35_1) trivial ⟨rfl, rfl, rfl, rfl, rfl, rfl, rfl, rfl, trivial⟩ (.refl _)
        · refine D.pk 13 rfl rfl (fun _ => rfl) (N.alloc ty_Binding (by decide)) (fun b10 _ => ?_)
          refine D.st 9 rfl rfl (by kernel_rfl) (fun _ => rfl) (N.call (t_spec_MatchAtom ((hbl _ (List.getElem_mem (by omega))).1) ((hbl _ (List.getElem_mem (by omega))).2) ((by first | omega | assumption))) rfl rfl rfl (by decide) rfl (fun w Lp hA => ⟨hA.ro xh28_0, hA.ro xh28_1, i6a_Rel, hA.ro ha_Terms, ei33_0, hA.ro xh33_0⟩)) (fun k35 _ => ?_)
          obtain ⟨⟨a35_0, m35_0, c35_0⟩, ⟨a35_1, m35_1, c35_1⟩⟩ := k35
          refine Ent.lenow m0 fun e35_0 l35_0 => ?_
          subst e35_0
          refine Ent.lenow (mS m0) fun e35_1 l35_1 => ?_
          subst e35_1
          refine D.yp 10 rfl rfl (by decide) (Y.mv rfl) (by kernel_rfl) ?_
          refine D.yp 11 rfl rfl (by decide) (Y.ext rfl rfl) (by kernel_rfl) ?_
          refine D.yp 12 rfl rfl (by decide) (Y.ext rfl rfl) (by kernel_rfl) ?_
          refine Ent.p2 ?_
          refine D.st 14 rfl rfl (by kernel_rfl) (fun h => by cases h) (N.sto (vs := [_, _]) (cs' := [_, _]) ty_Binding rfl rfl rfl rfl rfl (Nat.le_of_ble_eq_true rfl) rfl) (fun _ _ => ?_)
          refine D.yp 15 rfl rfl (by decide) (Y.as rfl) (by kernel_rfl) ?_
          refine D.done (by kernel_rfl) (Ent.p4 ?_)
          refine Ent.p4 ?_
          refine Ent.p4 ?_
          refine Ent.p4 ?_
          refine Ent.p4 ?_
          exact E.mdn (b10, a35_0, c35_0, a35_1, c35_1) trivial ⟨rfl, rfl, rfl, rfl, rfl, rfl, rfl, rfl, trivial⟩ (.refl _)
      · obtain ⟨b10, a35_0, c35_0, a35_1, c35_1⟩ := kM
        show Ent _ _ _ [(0, .slice a_l l.length c_l), (2, .slice a_facts facts.length c_facts), (4, .pointer (some ⟨b4, 0, none⟩)), (7, .slice aA1_0 (extF (l.take g) (a_Rel, a_Terms) facts ++ ext1 l[g] (a_Rel, a_Terms) (facts.take h)).length cA1_0), (8, .int .i64 (↑g : Int)), (9, .int .i64 (↑h : Int)), (10, .pointer (some ⟨b10, 0, none⟩)), (11, .bool (matchB l[g] (a_Rel, a_Terms) facts[h]))] [pt b10 80 [.slice a35_0 (cond (matchB l[g] (a_Rel, a_Terms) facts[h]) (matchV l[g] (a_Rel, a_Terms) facts[h]).1 []).length c35_0, .slice a35_1 (cond (matchB l[g] (a_Rel, a_Terms) facts[h]) (matchV l[g] (a_Rel, a_Terms) facts[h]).2 []).length c35_1], ow eIs [.slice a35_0 (cond (matchB l[g] (a_Rel, a_Terms) facts[h]) (matchV l[g] (a_Rel, a_Terms) facts[h]).1 []).length c35_0] (cond (matchB l[g] (a_Rel, a_Terms) facts[h]) (matchV l[g] (a_Rel, a_Terms) facts[h]).1 []), ow eIs [.slice a35_1 (cond (matchB l[g] (a_Rel, a_Terms) facts[h]) (matchV l[g] (a_Rel, a_Terms) facts[h]).2 []).length c35_1] (cond (matchB l[g] (a_Rel, a_Terms) facts[h]) (matchV l[g] (a_Rel, a_Terms) facts[h]).2 []), ow eBindings [.slice aA1_0 (extF (l.take g) (a_Rel, a_Terms) facts ++ ext1 l[g] (a_Rel, a_Terms) (facts.take h)).length cA1_0] (extF (l.take g) (a_Rel, a_Terms) facts ++ ext1 l[g] (a_Rel, a_Terms) (facts.take h)), pt b4 113 [.int .i64 a_Rel, .slice a_a_Terms a_Terms.length c_a_Terms]] _
        refine E.thn (E.seq (E.region (l := [0]) rfl (E.y rfl rfl (by decide) ((Y.mv rfl).yd) (Ent.b (fun q38 => ?_) (fun q38 => ?_)))))
        · refine E.nil (E.thn (E.ct rfl (E.region (l := [0, 1, 2, 3, 4]) rfl (E.y rfl rfl (by decide) ((Y.mv rfl).yd) ?_))))
          refine E.y rfl rfl (by decide) (Y.ldS (cs := [_, _]) ty_Binding rfl (Has.pt m0) rfl) ?_
          refine E.st rfl rfl (N.bsl (pvs := [_]) (cs := [_, _]) us_Bindings ty_Binding rfl (by decide) (by decide) (fillZ rfl rfl) rfl (by decide)) (fun b41 _ => ?_)
          refine Ent.p3 ?_
          refine Ent.p3 ?_
          refine Ent.p2 ?_
          refine Ent.p4 ?_
          refine E.st rfl rfl (N.push (E := eBinding) (ex := (cond (matchB l[g] (a_Rel, a_Terms) facts[h]) (matchV l[g] (a_Rel, a_Terms) facts[h]).1 [], cond (matchB l[g] (a_Rel, a_Terms) facts[h]) (matchV l[g] (a_Rel, a_Terms) facts[h]).2 [])) us_Bindings ty_Binding rfl rfl rfl (Own.mkBinding (x := (cond (matchB l[g] (a_Rel, a_Terms) facts[h]) (matchV l[g] (a_Rel, a_Terms) facts[h]).1 [], cond (matchB l[g] (a_Rel, a_Terms) facts[h]) (matchV l[g] (a_Rel, a_Terms) facts[h]).2 [])) Own.ow Own.ow) rfl (by first | omega | (simp only [List.length_map, List.length_take, List.length_append, List.length_drop, List.length_cons, List.length_nil]; omega)) (by first | omega | (simp only [List.length_map, List.length_take, List.length_append, List.length_drop, List.length_cons, List.length_nil]; omega)) (by decide)) (fun p42 _ => ?_)
          refine E.y rfl rfl (by decide) ((Y.as rfl).yd) ?_
          refine E.nil (E.bln (E.thn (E.region (l := [0, 1, 2]) rfl (E.y rfl rfl (by decide) ((Y.mv rfl).yd) ?_))))
          refine E.y rfl rfl (by decide) ((Y.add rfl rfl (by omega) (by omega)).yd) ?_
          refine E.y rfl rfl (by decide) ((Y.as rfl).yd) ?_
          refine E.nil (E.thn (Ent.p1 ?_))
          refine Ent.drop ?_
          refine Ent.cv (congrArg (ow eBindings [_]) (show (extF (l.take g) (a_Rel, a_Terms) facts ++ ext1 l[g] (a_Rel, a_Terms) (facts.take h)) ++ [(cond (matchB l[g] (a_Rel, a_Terms) facts[h]) (matchV l[g] (a_Rel, a_Terms) facts[h]).1 [], cond (matchB l[g] (a_Rel, a_Terms) facts[h]) (matchV l[g] (a_Rel, a_Terms) facts[h]).2 [])] = extF (l.take g) (a_Rel, a_Terms) facts ++ ext1 l[g] (a_Rel, a_Terms) (facts.take (h + 1)) from by grind [ext1_snoc, ext1_nil, extF_nil, extF_snoc, List.drop_eq_getElem_cons, List.drop_eq_nil_of_le, List.take_succ_eq_append_getElem, List.take_of_length_le])) ?_
          refine Ent.p1 ?_
          refine Ent.p1 ?_
          exact E.again (Back.refl _ _) (h + 1, p42.1, ((extF (l.take g) (a_Rel, a_Terms) facts ++ ext1 l[g] (a_Rel, a_Terms) (facts.take h)).length + 1), p42.2) ⟨rfl, rfl, rfl, rfl, rfl, rfl, trivial⟩ (.refl _) ⟨(show h + 1 ≤ facts.length from by omega), (show True from by grind [List.drop_eq_getElem_cons, List.drop_eq_nil_of_le, List.take_succ_eq_append_getElem, List.take_of_length_le])⟩ (show facts.length - (h + 1) < facts.length - h from by omega)
        · refine E.nil (E.thn (E.cf rfl (E.skipc (E.bln (E.thn (E.region (l := [0, 1, 2]) rfl (E.y rfl rfl (by decide) ((Y.mv rfl).yd) ?_)))))))
          refine E.y rfl rfl (by decide) ((Y.add rfl rfl (by omega) (by omega)).yd) ?_
          refine E.y rfl rfl (by decide) ((Y.as rfl).yd) ?_
          refine E.nil (E.thn (Ent.drop ?_))
          refine Ent.drop ?_
          refine Ent.drop ?_
          refine Ent.cv (congrArg (ow eBindings [_]) (show extF (l.take g) (a_Rel, a_Terms) facts ++ ext1 l[g] (a_Rel, a_Terms) (facts.take h) = extF (l.take g) (a_Rel, a_Terms) facts ++ ext1 l[g] (a_Rel, a_Terms) (facts.take (h + 1)) from by grind [ext1_snoc, ext1_nil, extF_nil, extF_snoc, List.drop_eq_getElem_cons, List.drop_eq_nil_of_le, List.take_succ_eq_append_getElem, List.take_of_length_le])) ?_
          refine Ent.p1 ?_
          refine Ent.p1 ?_
          exact E.again (Back.refl _ _) (h + 1, aA1_0, (extF (l.take g) (a_Rel, a_Terms) facts ++ ext1 l[g] (a_Rel, a_Terms) (facts.take h)).length, cA1_0) ⟨rfl, rfl, rfl, rfl, rfl, rfl, trivial⟩ (.refl _) ⟨(show h + 1 ≤ facts.length from by omega), (show True from by grind [List.drop_eq_getElem_cons, List.drop_eq_nil_of_le, List.take_succ_eq_append_getElem, List.take_of_length_le])⟩ (show facts.length - (h + 1) < facts.length - h from by omega)
    · refine E.nil (E.thn (E.cf rfl (E.exit (E.the (E.the (E.blh (E.bln (E.thn (E.region (l := [0, 1, 2]) rfl (E.y rfl rfl (by decide) ((Y.mv rfl).yd) ?_))))))))))
      refine E.y rfl rfl (by decide) ((Y.add rfl rfl (by omega) (by omega)).yd) ?_
      refine E.y rfl rfl (by decide) ((Y.as rfl).yd) ?_
      refine E.nil (E.thn (Ent.cv (congrArg (ow eBindings [_]) (show extF (l.take g) (a_Rel, a_Terms) facts ++ ext1 l[g] (a_Rel, a_Terms) (facts.take h) = extF (l.take (g + 1)) (a_Rel, a_Terms) facts from by grind [ext1_snoc, ext1_nil, extF_nil, extF_snoc, List.drop_eq_getElem_cons, List.drop_eq_nil_of_le, List.take_succ_eq_append_getElem, List.take_of_length_le])) ?_))
      refine Ent.p1 ?_
      refine Ent.p1 ?_
      exact E.again (Back.refl _ _) (g + 1, aA1_0, (extF (l.take g) (a_Rel, a_Terms) facts ++ ext1 l[g] (a_Rel, a_Terms) (facts.take h)).length, cA1_0) ⟨rfl, rfl, rfl, rfl, rfl, trivial⟩ (.refl _) ⟨(show g + 1 ≤ l.length from by omega), (show True from by grind [List.drop_eq_getElem_cons, List.drop_eq_nil_of_le, List.take_succ_eq_append_getElem, List.take_of_length_le])⟩ (show l.length - (g + 1) < l.length - g from by omega)
  · refine E.nil (E.thn (E.cf rfl (E.exit (E.the (E.the (E.blh (E.thn (E.seq (E.region (l := [0, 1]) rfl (E.y rfl rfl (by decide) ((Y.mv rfl).yd) ?_))))))))))
    refine E.y rfl rfl (by decide) ((Y.as rfl).yd) ?_
    refine E.nil (E.thn (E.ret (Ent.cv (congrArg (ow eBindings [_]) (show _ = extF l (a_Rel, a_Terms) facts by grind [ext1_snoc, ext1_nil, extF_nil, extF_snoc, List.drop_eq_getElem_cons, List.drop_eq_nil_of_le, List.take_succ_eq_append_getElem, List.take_of_length_le])) ?_)))
    exact F.r1 (Back.refl _ _) rfl rfl (_, _, _) trivial rfl (J := _) (.refl _) (.inl rfl)
theorem t_impl_BindingsOf {a_q_Head : Option Addr} {m_q_Head c_q_Head : Nat} {q_Head : List Int} {a_q_Atoms : Option Addr} {m_q_Atoms c_q_Atoms : Nat} {q_Atoms : List (Int × List Int)} {a_facts : Option Addr} {m_facts c_facts : Nat} {facts : List (Int × List Int)} (hqa : q_Atoms.length ≤ 4) (hqt : ∀ a ∈ q_Atoms, a.2.length ≤ 3) (hf : facts.length ≤ 24) : Tr Tryz.prog 96 [.agg #[.slice a_q_Head m_q_Head c_q_Head, .slice a_q_Atoms m_q_Atoms c_q_Atoms], .slice a_facts m_facts c_facts] (fun w L => Ro w L eIs [.slice a_q_Head m_q_Head c_q_Head] q_Head ∧ Ro w L eAtoms [.slice a_q_Atoms m_q_Atoms c_q_Atoms] q_Atoms ∧ Ro w L eFacts [.slice a_facts m_facts c_facts] facts) [] (κ := Option Addr × Nat × Nat) (fun k => True) (fun k => .slice k.1 k.2.1 k.2.2) (fun k => [ow eBindings [.slice k.1 k.2.1 k.2.2] (bindsF q_Atoms facts)]) := by
  refine Tr.intro Tryz.func96 rfl (n := 23) rfl (by decide +kernel) (Nat.le_of_ble_eq_true rfl) (fr := [(0, .agg #[.slice a_q_Head m_q_Head c_q_Head, .slice a_q_Atoms m_q_Atoms c_q_Atoms]), (1, .slice a_facts m_facts c_facts)]) rfl fun w L hR => ?_
  obtain ⟨hq_Head, hq_Atoms, hfacts⟩ := hR
  obtain ⟨rfl, lq_Head⟩ := hq_Head.slen
  obtain ⟨rfl, lq_Atoms⟩ := hq_Atoms.slen
  obtain ⟨rfl, lfacts⟩ := hfacts.slen
  refine E.seq (E.region (l := [0, 1]) rfl (E.st rfl rfl (N.box (cs := [_, _]) rfl (by decide) rfl) (fun b2 _ => ?_)))
  refine E.y rfl rfl (by decide) ((Y.as rfl).yd) ?_
  refine E.nil (E.thn (E.seq (E.region (l := [0, 1, 2]) rfl (E.y rfl rfl (by decide) ((Y.bld (pvs := []) (cs := [_, _]) ty_Binding pl_Binding rfl rfl).yd) ?_))))
  refine E.st rfl rfl (N.bsl (pvs := [_]) (cs := [_, _]) us_Bindings ty_Binding rfl (by decide) (by decide) (fillZ rfl rfl) rfl (by decide)) (fun b9 _ => ?_)
  refine Ent.mkow (A := _ :: _) (Own.row1 (E := eBinding) (e := tBinding) (Own.mkBinding (x := ([], [])) Own.nil Own.nil)) rfl ?_
  refine E.y rfl rfl (by decide) ((Y.as rfl).yd) ?_
  refine E.nil (E.thn (E.seq (E.seq (E.region (l := [0, 1, 2, 3]) rfl (E.y rfl rfl (by decide) ((Y.fld fo_Query_1 ty_Atoms (by decide) rfl).yd) ?_)))))
  refine E.y rfl rfl (by decide) (Y.ld1 ty_Atoms rfl ((Has.pt (mS m0)).sub (cs' := [_]) 1 rfl) rfl) ?_
  refine E.y rfl rfl (by decide) ((Y.len us_Atoms rfl).yd) ?_
  refine E.y rfl rfl (by decide) ((Y.mv rfl).yd) ?_
  refine E.nil (E.thn (E.block (Ent.cv (congrArg (ow eBindings [_]) (show [([], [])] = bindsF (q_Atoms.take 0) facts from by first | rfl | (simp; done) | grind [binds_nil, binds_snoc, List.drop_eq_getElem_cons, List.drop_eq_nil_of_le, List.take_succ_eq_append_getElem, List.take_of_length_le])) ?_)))
  refine E.loop (κ := Nat × Option Addr × Nat × Nat) (fun g => g.1 ≤ q_Atoms.length ∧ True) (fun g => [(1, .slice a_facts facts.length c_facts), (5, .slice g.2.1 g.2.2.1 g.2.2.2), (11, .slice a_q_Atoms q_Atoms.length c_q_Atoms), (12, .int .i64 (↑q_Atoms.length : Int)), (13, .int .i64 (↑g.1 : Int))]) (fun g => [ow eBindings [.slice g.2.1 g.2.2.1 g.2.2.2] (bindsF (q_Atoms.take g.1) facts), pt b2 31 [.slice a_q_Head q_Head.length c_q_Head, .slice a_q_Atoms q_Atoms.length c_q_Atoms]]) (fun g => q_Atoms.length - g.1) (0, (some ⟨b9, 0, none⟩), 1, 1) ⟨Nat.zero_le _, by simp⟩ ⟨rfl, rfl, rfl, rfl, rfl, trivial⟩ (.refl _) (fun g pg => ?_)
  obtain ⟨g, aA0_0, mA0_0, cA0_0⟩ := g
  try dsimp only at pg
  show Ent _ _ _ [(1, .slice a_facts facts.length c_facts), (5, .slice aA0_0 mA0_0 cA0_0), (11, .slice a_q_Atoms q_Atoms.length c_q_Atoms), (12, .int .i64 (↑q_Atoms.length : Int)), (13, .int .i64 (↑g : Int))] [ow eBindings [.slice aA0_0 mA0_0 cA0_0] (bindsF (q_Atoms.take g) facts), pt b2 31 [.slice a_q_Head q_Head.length c_q_Head, .slice a_q_Atoms q_Atoms.length c_q_Atoms]] _
  obtain ⟨pk, pa⟩ := pg
  have jb := binds_take (facts := facts) hf hqa hqt g
  refine Ent.lenow m0 fun eaA0_0 laA0_0 => ?_
  subst eaA0_0
  refine E.seq (E.region (l := [0]) rfl (E.y rfl rfl (by decide) ((Y.lss rfl rfl).yd) (Ent.d (fun q14 => ?_) (fun q14 => ?_))))
  · obtain ⟨eb15, eo15, ec15, ea15, er15, el15, eh15⟩ := hq_Atoms.elem g (by omega)
    obtain ⟨xa15_0, xc15_0, rfl, ei15_0, xh15_0⟩ := Ro.pAtom er15
    have := xh15_0.slen.2
    refine E.nil (E.thn (E.seq (E.ct rfl (E.skipc (E.thn (E.seq (E.block (E.seq (E.region (l := [0, 1, 2, 3]) rfl (E.y rfl rfl (by decide) ((Y.ix us_Atoms ty_Atom rfl ea15 rfl g rfl (by omega)).yd) ?_))))))))))
    refine E.y rfl rfl (by decide) (Y.ldS (cs := [_, _]) ty_Atom rfl (eh15 _) rfl) ?_
    refine E.st rfl rfl (N.alloc ty_Atom (by decide)) (fun b7 _ => ?_)
    refine E.st rfl rfl (N.sto (vs := [_, _]) (cs' := [_, _]) ty_Atom rfl rfl rfl rfl rfl (Nat.le_of_ble_eq_true rfl) rfl) (fun _ _ => ?_)
    refine E.nil (E.thn (E.region (l := [0, 1, 2, 3, 4]) rfl (E.y rfl rfl (by decide) ((Y.mv rfl).yd) ?_)))
    refine E.y rfl rfl (by decide) (Y.ldS (cs := [_, _]) ty_Atom rfl (Has.pt m0) rfl) ?_
    refine E.y rfl rfl (by decide) ((Y.mv rfl).yd) ?_
    refine E.st rfl rfl (N.call (t_impl_matchAll (fun b hb => by have := jb.2 b hb; omega) (Nat.le_trans (hqt _ (List.getElem_mem (by omega))) (by decide)) (Nat.le_trans (Nat.mul_le_mul jb.1 hf) (by decide))) rfl rfl rfl (by decide) rfl (fun w Lp hA => ⟨hA.ow (mS m0), ei15_0, hA.ro xh15_0, hA.ro hfacts⟩)) (fun k20 _ => ?_)
    obtain ⟨a20, m20, c20⟩ := k20
    refine Ent.lenow m0 fun e20 l20 => ?_
    subst e20
    refine E.y rfl rfl (by decide) ((Y.as rfl).yd) ?_
    refine E.nil (E.bln (E.thn (E.region (l := [0, 1]) rfl (E.y rfl rfl (by decide) ((Y.add rfl rfl (by omega) (by omega)).yd) ?_))))
    refine E.y rfl rfl (by decide) ((Y.mv rfl).yd) ?_
    refine E.nil (E.thn (Ent.p1 ?_))
    refine Ent.drop ?_
    refine Ent.p1 ?_
    refine Ent.drop ?_
    refine Ent.cv (congrArg (ow eBindings [_]) (show extF (bindsF (q_Atoms.take g) facts) q_Atoms[g] facts = bindsF (q_Atoms.take (g + 1)) facts from by grind [binds_nil, binds_snoc, List.drop_eq_getElem_cons, List.drop_eq_nil_of_le, List.take_succ_eq_append_getElem, List.take_of_length_le])) ?_
    refine Ent.p1 ?_
    refine Ent.p1 ?_
    exact E.again (Back.refl _ _) (g + 1, a20, (extF (bindsF (q_Atoms.take g) facts) q_Atoms[g] facts).length, c20) ⟨rfl, rfl, rfl, rfl, rfl, trivial⟩ (.refl _) ⟨(show g + 1 ≤ q_Atoms.length from by omega), (show True from by grind [List.drop_eq_getElem_cons, List.drop_eq_nil_of_le, List.take_succ_eq_append_getElem, List.take_of_length_le])⟩ (show q_Atoms.length - (g + 1) < q_Atoms.length - g from by omega)
  · refine E.nil (E.thn (E.seq (E.cf rfl (E.exit (E.the (E.the (E.blh (E.thn (E.seq (E.region (l := [0, 1]) rfl (E.y rfl rfl (by decide) ((Y.mv rfl).yd) ?_)))))))))))
    refine E.y rfl rfl (by decide) ((Y.as rfl).yd) ?_
    refine E.nil (E.thn (E.ret (Ent.cv (congrArg (ow eBindings [_]) (show _ = bindsF q_Atoms facts by grind [binds_nil, binds_snoc, List.drop_eq_getElem_cons, List.drop_eq_nil_of_le, List.take_succ_eq_append_getElem, List.take_of_length_le])) ?_)))
    exact F.r1 (Back.refl _ _) rfl rfl (_, _, _) trivial rfl (J := _) (.refl _) (.inl rfl)
theorem t_spec_BindingsOf {a_q_Head : Option Addr} {m_q_Head c_q_Head : Nat} {q_Head : List Int} {a_q_Atoms : Option Addr} {m_q_Atoms c_q_Atoms : Nat} {q_Atoms : List (Int × List Int)} {a_facts : Option Addr} {m_facts c_facts : Nat} {facts : List (Int × List Int)} (hqa : q_Atoms.length ≤ 4) (hqt : ∀ a ∈ q_Atoms, a.2.length ≤ 3) (hf : facts.length ≤ 24) : Tr Tryz.prog 70 [.agg #[.slice a_q_Head m_q_Head c_q_Head, .slice a_q_Atoms m_q_Atoms c_q_Atoms], .slice a_facts m_facts c_facts] (fun w L => Ro w L eIs [.slice a_q_Head m_q_Head c_q_Head] q_Head ∧ Ro w L eAtoms [.slice a_q_Atoms m_q_Atoms c_q_Atoms] q_Atoms ∧ Ro w L eFacts [.slice a_facts m_facts c_facts] facts) [] (κ := Option Addr × Nat × Nat) (fun k => True) (fun k => .slice k.1 k.2.1 k.2.2) (fun k => [ow eBindings [.slice k.1 k.2.1 k.2.2] (bindsF q_Atoms facts)]) := by
  refine Tr.intro Tryz.func70 rfl (n := 25) rfl (by decide +kernel) (Nat.le_of_ble_eq_true rfl) (fr := [(0, .agg #[.slice a_q_Head m_q_Head c_q_Head, .slice a_q_Atoms m_q_Atoms c_q_Atoms]), (1, .slice a_facts m_facts c_facts)]) rfl fun w L hR => ?_
  obtain ⟨hq_Head, hq_Atoms, hfacts⟩ := hR
  obtain ⟨rfl, lq_Head⟩ := hq_Head.slen
  obtain ⟨rfl, lq_Atoms⟩ := hq_Atoms.slen
  obtain ⟨rfl, lfacts⟩ := hfacts.slen
  refine E.seq (E.region (l := [0, 1]) rfl (E.st rfl rfl (N.box (cs := [_, _]) rfl (by decide) rfl) (fun b2 _ => ?_)))
  refine E.y rfl rfl (by decide) ((Y.as rfl).yd) ?_
  refine E.nil (E.thn (E.seq (E.region (l := [0, 1, 2]) rfl (E.y rfl rfl (by decide) ((Y.bld (pvs := []) (cs := [_, _]) ty_Binding pl_Binding rfl rfl).yd) ?_))))
  refine E.st rfl rfl (N.bsl (pvs := [_]) (cs := [_, _]) us_Bindings ty_Binding rfl (by decide) (by decide) (fillZ rfl rfl) rfl (by decide)) (fun b8 _ => ?_)
  refine Ent.mkow (A := _ :: _) (Own.row1 (E := eBinding) (e := tBinding) (Own.mkBinding (x := ([], [])) Own.nil Own.nil)) rfl ?_
  refine E.y rfl rfl (by decide) ((Y.as rfl).yd) ?_
  refine E.nil (E.thn (E.seq (E.seq (E.region (l := [0]) rfl (E.y rfl rfl (by decide) ((Y.as rfl).yd) ?_)))))
  refine E.nil (E.thn (E.block (Ent.cv (congrArg (ow eBindings [_]) (show [([], [])] = bindsF (q_Atoms.take 0) facts from by first | rfl | (simp; done) | grind [binds_nil, binds_snoc, List.drop_eq_getElem_cons, List.drop_eq_nil_of_le, List.take_succ_eq_append_getElem, List.take_of_length_le])) ?_)))
  refine E.loop (κ := Nat × Option Addr × Nat × Nat) (fun g => g.1 ≤ q_Atoms.length ∧ True) (fun g => [(1, .slice a_facts facts.length c_facts), (2, .pointer (some ⟨b2, 0, none⟩)), (5, .slice g.2.1 g.2.2.1 g.2.2.2), (6, .int .i64 (↑g.1 : Int))]) (fun g => [ow eBindings [.slice g.2.1 g.2.2.1 g.2.2.2] (bindsF (q_Atoms.take g.1) facts), pt b2 31 [.slice a_q_Head q_Head.length c_q_Head, .slice a_q_Atoms q_Atoms.length c_q_Atoms]]) (fun g => q_Atoms.length - g.1) (0, (some ⟨b8, 0, none⟩), 1, 1) ⟨Nat.zero_le _, by simp⟩ ⟨rfl, rfl, rfl, rfl, trivial⟩ (.refl _) (fun g pg => ?_)
  obtain ⟨g, aA0_0, mA0_0, cA0_0⟩ := g
  try dsimp only at pg
  show Ent _ _ _ [(1, .slice a_facts facts.length c_facts), (2, .pointer (some ⟨b2, 0, none⟩)), (5, .slice aA0_0 mA0_0 cA0_0), (6, .int .i64 (↑g : Int))] [ow eBindings [.slice aA0_0 mA0_0 cA0_0] (bindsF (q_Atoms.take g) facts), pt b2 31 [.slice a_q_Head q_Head.length c_q_Head, .slice a_q_Atoms q_Atoms.length c_q_Atoms]] _
  obtain ⟨pk, pa⟩ := pg
  have jb := binds_take (facts := facts) hf hqa hqt g
  refine Ent.lenow m0 fun eaA0_0 laA0_0 => ?_
  subst eaA0_0
  refine E.seq (E.seq (E.region (l := [0, 1, 2, 3, 4]) rfl (E.y rfl rfl (by decide) ((Y.mv rfl).yd) ?_)))
  refine E.y rfl rfl (by decide) ((Y.fld fo_Query_1 ty_Atoms (by decide) rfl).yd) ?_
  refine E.y rfl rfl (by decide) (Y.ld1 ty_Atoms rfl ((Has.pt (mS m0)).sub (cs' := [_]) 1 rfl) rfl) ?_
  refine E.y rfl rfl (by decide) ((Y.len us_Atoms rfl).yd) ?_
  refine E.y rfl rfl (by decide) ((Y.lss rfl rfl).yd) (Ent.d (fun q13 => ?_) (fun q13 => ?_))
  · refine E.nil (E.thn (E.ct rfl (E.skipc (E.thn (E.seq (E.block (E.region (l := [0, 1, 2, 3, 4, 5, 6, 7, 8]) rfl (E.y rfl rfl (by decide) ((Y.mv rfl).yd) ?_))))))))
    refine E.y rfl rfl (by decide) ((Y.fld fo_Query_1 ty_Atoms (by decide) rfl).yd) ?_
    refine E.y rfl rfl (by decide) (Y.ld1 ty_Atoms rfl ((Has.pt (mS m0)).sub (cs' := [_]) 1 rfl) rfl) ?_
    refine E.y rfl rfl (by decide) ((Y.mv rfl).yd) ?_
    obtain ⟨eb20, eo20, ec20, ea20, er20, el20, eh20⟩ := hq_Atoms.elem g (by omega)
    obtain ⟨xa20_0, xc20_0, rfl, ei20_0, xh20_0⟩ := Ro.pAtom er20
    have := xh20_0.slen.2
    refine E.y rfl rfl (by decide) ((Y.ix us_Atoms ty_Atom rfl ea20 rfl g rfl (by omega)).yd) ?_
    refine E.y rfl rfl (by decide) (Y.ldS (cs := [_, _]) ty_Atom rfl (eh20 _) rfl) ?_
    refine E.y rfl rfl (by decide) ((Y.mv rfl).yd) ?_
    refine E.st rfl rfl (N.call (t_spec_l4Extend (fun b hb => by have := jb.2 b hb; omega) (Nat.le_trans (hqt _ (List.getElem_mem (by omega))) (by decide)) (Nat.le_trans (Nat.mul_le_mul jb.1 hf) (by decide))) rfl rfl rfl (by decide) rfl (fun w Lp hA => ⟨hA.ow m0, ei20_0, hA.ro xh20_0, hA.ro hfacts⟩)) (fun k23 _ => ?_)
    obtain ⟨a23, m23, c23⟩ := k23
    refine Ent.lenow m0 fun e23 l23 => ?_
    subst e23
    refine E.y rfl rfl (by decide) ((Y.as rfl).yd) ?_
    refine E.nil (E.bln (E.thn (E.region (l := [0, 1, 2]) rfl (E.y rfl rfl (by decide) ((Y.mv rfl).yd) ?_))))
    refine E.y rfl rfl (by decide) ((Y.add rfl rfl (by omega) (by omega)).yd) ?_
    refine E.y rfl rfl (by decide) ((Y.as rfl).yd) ?_
    refine E.nil (E.thn (Ent.p1 ?_))
    refine Ent.drop ?_
    refine Ent.cv (congrArg (ow eBindings [_]) (show extF (bindsF (q_Atoms.take g) facts) q_Atoms[g] facts = bindsF (q_Atoms.take (g + 1)) facts from by grind [binds_nil, binds_snoc, List.drop_eq_getElem_cons, List.drop_eq_nil_of_le, List.take_succ_eq_append_getElem, List.take_of_length_le])) ?_
    refine Ent.p1 ?_
    refine Ent.p1 ?_
    exact E.again (Back.refl _ _) (g + 1, a23, (extF (bindsF (q_Atoms.take g) facts) q_Atoms[g] facts).length, c23) ⟨rfl, rfl, rfl, rfl, trivial⟩ (.refl _) ⟨(show g + 1 ≤ q_Atoms.length from by omega), (show True from by grind [List.drop_eq_getElem_cons, List.drop_eq_nil_of_le, List.take_succ_eq_append_getElem, List.take_of_length_le])⟩ (show q_Atoms.length - (g + 1) < q_Atoms.length - g from by omega)
  · refine E.nil (E.thn (E.cf rfl (E.exit (E.the (E.the (E.blh (E.thn (E.seq (E.region (l := [0, 1]) rfl (E.y rfl rfl (by decide) ((Y.mv rfl).yd) ?_))))))))))
    refine E.y rfl rfl (by decide) ((Y.as rfl).yd) ?_
    refine E.nil (E.thn (E.ret (Ent.cv (congrArg (ow eBindings [_]) (show _ = bindsF q_Atoms facts by grind [binds_nil, binds_snoc, List.drop_eq_getElem_cons, List.drop_eq_nil_of_le, List.take_succ_eq_append_getElem, List.take_of_length_le])) ?_)))
    exact F.r1 (Back.refl _ _) rfl rfl (_, _, _) trivial rfl (J := _) (.refl _) (.inl rfl)
end Go.Proofs.YtlcfbfbdnnoifaaGreat
