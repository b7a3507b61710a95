import Derived.Test.YtlcfbfbdnnoifaaGreatT17
import Derived.Test.YtlcfbfbdnnoifaaGreatT20
import Derived.Test.YtlcfbfbdnnoifaaGreatT11
import Derived.Test.YtlcfbfbdnnoifaaGreatT15
import Derived.Test.YtlcfbfbdnnoifaaGreatT16
import Derived.Test.YtlcfbfbdnnoifaaGreatDr
namespace Go.Proofs.YtlcfbfbdnnoifaaGreat
open Go.RowKit
set_option linter.unusedVariables false
set_option linter.unusedSimpArgs false
set_option maxHeartbeats 2000000
attribute [local irreducible] Nop Yd Yp Ent Has Tr FnP FnP2 Src listsF opnF opn1 opnR chainB
theorem t_IndexFunc_Is {a_s : Option Addr} {m_s c_s : Nat} {s : List (List Int)} {f_g : FuncId} {f_c : List Value} {D_f : (List Int) → Prop} {f : (List Int) → Bool} (hD_f : ∀ x ∈ s, D_f x) : Tr Tryz.prog 183 [.slice a_s m_s c_s, .func (.func f_g) #[] f_c.toArray] (fun w L => Ro w L eIss [.slice a_s m_s c_s] s ∧ FnP Tryz.prog w L f_g f_c eIs val1 D_f f) [] (κ := Unit) (fun k => True) (fun k => .int .i64 (idxP f s)) (fun k => []) := by
  refine Tr.intro Tryz.func183 rfl (n := 19) rfl (by decide +kernel) (Nat.le_of_ble_eq_true rfl) (fr := [(0, .slice a_s m_s c_s), (1, .func (.func f_g) #[] f_c.toArray)]) rfl fun w L hR => ?_
  obtain ⟨hs, hf⟩ := hR
  obtain ⟨rfl, ls⟩ := hs.slen
  refine E.seq (E.region (l := [0]) rfl (E.y rfl rfl (by decide) ((Y.as rfl).yd) ?_))
  refine E.nil (E.thn (E.seq (E.seq (E.region (l := [0, 1, 2]) rfl (E.y rfl rfl (by decide) ((Y.mv rfl).yd) ?_)))))
  refine E.y rfl rfl (by decide) ((Y.len us_Iss rfl).yd) ?_
  refine E.y rfl rfl (by decide) ((Y.mv rfl).yd) ?_
  refine E.nil (E.thn (E.block (E.loop (κ := Nat) (fun g => g ≤ s.length ∧ ∀ x ∈ s.take g, f x = false) (fun g => [(0, .slice a_s s.length c_s), (1, .func (.func f_g) #[] f_c.toArray), (7, .int .i64 (↑s.length : Int)), (8, .int .i64 (↑g : Int))]) (fun g => []) (fun g => s.length - g) 0 ⟨by omega, by simp⟩ ⟨rfl, rfl, rfl, rfl, trivial⟩ (.refl _) (fun g pg => ?_))))
  obtain ⟨pk, pa⟩ := pg
  refine E.seq (E.region (l := [0]) rfl (E.y rfl rfl (by decide) ((Y.lss rfl rfl).yd) (Ent.d (fun q9 => ?_) (fun q9 => ?_))))
  · refine E.nil (E.thn (E.seq (E.ct rfl (E.skipc (E.thn (E.seq (E.block (E.seq (E.region (l := [0, 1]) rfl (E.y rfl rfl (by decide) ((Y.mv rfl).yd) ?_))))))))))
    refine E.y rfl rfl (by decide) ((Y.as rfl).yd) ?_
    refine E.nil (E.thn (E.seq (E.region (l := [0, 1, 2, 3, 4, 5]) rfl (E.y rfl rfl (by decide) ((Y.mv rfl).yd) ?_))))
    refine E.y rfl rfl (by decide) ((Y.mv rfl).yd) ?_
    refine E.y rfl rfl (by decide) ((Y.mv rfl).yd) ?_
    obtain ⟨eb14, eo14, ec14, ea14, er14, el14, eh14⟩ := hs.elem g (by omega)
    obtain ⟨xa14, xc14, rfl⟩ := er14.sl
    have := er14.slen.2
    refine E.y rfl rfl (by decide) ((Y.ix us_Iss ty_Is rfl ea14 rfl g rfl (by omega)).yd) ?_
    refine E.y rfl rfl (by decide) (Y.ld1 ty_Is rfl (eh14 _) rfl) ?_
    refine E.st rfl rfl (N.fn (cs := [_]) hf rfl rfl rfl (by decide) (fun w Lp hA => (hA.ro er14)) (hD_f _ (List.getElem_mem (by omega)))) (fun _ _ => (Ent.b (fun q16 => ?_) (fun q16 => ?_)))
    · refine E.nil (E.thn (E.ct rfl (E.seq (E.region (l := [0, 1]) rfl (E.y rfl rfl (by decide) ((Y.mv rfl).yd) ?_)))))
      refine E.y rfl rfl (by decide) ((Y.as rfl).yd) ?_
      exact E.nil (E.thn (E.ret (E.blr (E.thr (E.thr (E.blr (E.thr (F.r1 (Back.refl _ _) rfl rfl () trivial (congrArg (Value.int .i64) (by first | exact idxP_hit (by omega) pa q16 | exact idxP_miss (by omega) pa)) (J := _) (.refl _) (.inl rfl)))))))))
    · refine E.nil (E.thn (E.cf rfl (E.skipc (E.bln (E.thn (E.region (l := [0, 1]) rfl (E.y rfl rfl (by decide) ((Y.add rfl rfl (by omega) (by omega)).yd) ?_)))))))
      refine E.y rfl rfl (by decide) ((Y.mv rfl).yd) ?_
      exact E.nil (E.thn (E.again (Back.refl _ _) (g + 1) ⟨rfl, rfl, rfl, rfl, trivial⟩ (.refl _) ⟨by omega, take_step (by omega) pa q16⟩ (by omega)))
  · refine E.nil (E.thn (E.seq (E.cf rfl (E.exit (E.the (E.the (E.blh (E.thn (E.seq (E.region (l := [0]) rfl (E.y rfl rfl (by decide) ((Y.as rfl).yd) ?_)))))))))))
    exact E.nil (E.thn (E.ret (F.r1 (Back.refl _ _) rfl rfl () trivial (congrArg (Value.int .i64) (by first | exact idxP_hit (by omega) pa q16 | exact idxP_miss (by omega) pa)) (J := _) (.refl _) (.inl rfl))))
theorem t_ContainsFunc_Is {a_s : Option Addr} {m_s c_s : Nat} {s : List (List Int)} {f_g : FuncId} {f_c : List Value} {D_f : (List Int) → Prop} {f : (List Int) → Bool} (hD_f : ∀ x ∈ s, D_f x) : Tr Tryz.prog 146 [.slice a_s m_s c_s, .func (.func f_g) #[] f_c.toArray] (fun w L => Ro w L eIss [.slice a_s m_s c_s] s ∧ FnP Tryz.prog w L f_g f_c eIs val1 D_f f) [] (κ := Unit) (fun k => True) (fun k => .bool (s.any f)) (fun k => []) := by
  refine Tr.intro Tryz.func146 rfl (n := 9) rfl (by decide +kernel) (Nat.le_of_ble_eq_true rfl) (fr := [(0, .slice a_s m_s c_s), (1, .func (.func f_g) #[] f_c.toArray)]) rfl fun w L hR => ?_
  obtain ⟨hs, hf⟩ := hR
  obtain ⟨rfl, ls⟩ := hs.slen
  refine E.seq (E.region (l := [0]) rfl (E.y rfl rfl (by decide) ((Y.as rfl).yd) ?_))
  refine E.nil (E.thn (E.seq (E.region (l := [0, 1, 2, 3, 4]) rfl (E.y rfl rfl (by decide) ((Y.mv rfl).yd) ?_))))
  refine E.y rfl rfl (by decide) ((Y.mv rfl).yd) ?_
  refine E.st rfl rfl (N.call0 (t_IndexFunc_Is (f := f) (D_f := D_f) hD_f) rfl rfl rfl (by decide) (fun w Lp hA => ⟨hA.ro hs, hA.fn hf⟩)) (fun _ _ => ?_)
  refine E.y rfl rfl (by decide) ((Y.geq rfl rfl).yd) ?_
  refine E.y rfl rfl (by decide) ((Y.as rfl).yd) ?_
  exact E.nil (E.thn (E.ret (F.r1 (Back.refl _ _) rfl rfl () trivial (congrArg Value.bool (by exact idxP_nonneg)) (J := _) (.refl _) (.inl rfl))))
theorem t_impl_hasTuple_1 {a_x : Option Addr} {m_x c_x : Nat} {x : List Int} {b_t : Nat} {a_t : Option Addr} {m_t c_t : Nat} {t : List Int} : Tr Tryz.prog 147 [.slice a_x m_x c_x, .pointer (some ⟨b_t, 0, none⟩)] (fun w L => (Ro w L eIs [.slice a_x m_x c_x] x) ∧ RoPt w L b_t [.slice a_t m_t c_t] ∧ Ro w L eIs [.slice a_t m_t c_t] t) [] (κ := Unit) (fun k => True) (fun k => .bool (decide (x = t))) (fun k => []) := by
  refine Tr.intro Tryz.func147 rfl (n := 7) rfl (by decide +kernel) (Nat.le_of_ble_eq_true rfl) (fr := [(0, .slice a_x m_x c_x), (1, .pointer (some ⟨b_t, 0, none⟩))]) rfl fun w L hR => ?_
  obtain ⟨hx, hb_t, ht⟩ := hR
  obtain ⟨rfl, lx⟩ := hx.slen
  obtain ⟨rfl, lt⟩ := ht.slen
  refine E.seq (E.region (l := [0]) rfl (E.y rfl rfl (by decide) ((Y.as rfl).yd) ?_))
  refine E.nil (E.thn (E.seq (E.region (l := [0, 1, 2, 3]) rfl (E.y rfl rfl (by decide) ((Y.mv rfl).yd) ?_))))
  refine E.y rfl rfl (by decide) (Y.ld1 ty_Is rfl (hb_t.has) rfl) ?_
  refine E.st rfl rfl (N.call0 t_slices_Equal_int_int rfl rfl rfl (by decide) (fun w Lp hA => ⟨hA.ro hx, hA.ro ht⟩)) (fun _ _ => ?_)
  refine E.y rfl rfl (by decide) ((Y.as rfl).yd) ?_
  exact E.nil (E.thn (E.ret (F.r1 (Back.refl _ _) rfl rfl () trivial rfl (J := _) (.refl _) (.inl rfl))))
theorem t_impl_hasTuple {a_l : Option Addr} {m_l c_l : Nat} {l : List (List Int)} {a_t : Option Addr} {m_t c_t : Nat} {t : List Int} : Tr Tryz.prog 85 [.slice a_l m_l c_l, .slice a_t m_t c_t] (fun w L => Ro w L eIss [.slice a_l m_l c_l] l ∧ Ro w L eIs [.slice a_t m_t c_t] t) [] (κ := Unit) (fun k => True) (fun k => .bool (hasT l t)) (fun k => []) := by
  refine Tr.intro Tryz.func85 rfl (n := 8) rfl (by decide +kernel) (Nat.le_of_ble_eq_true rfl) (fr := [(0, .slice a_l m_l c_l), (1, .slice a_t m_t c_t)]) rfl fun w L hR => ?_
  obtain ⟨hl, ht⟩ := hR
  obtain ⟨rfl, ll⟩ := hl.slen
  obtain ⟨rfl, lt⟩ := ht.slen
  refine E.seq (E.region (l := [0, 1]) rfl (E.st rfl rfl (N.box (cs := [_]) rfl (by decide) rfl) (fun b3 _ => ?_)))
  refine E.y rfl rfl (by decide) ((Y.as rfl).yd) ?_
  refine E.nil (E.thn (E.seq (E.region (l := [0, 1, 2, 3]) rfl (E.y rfl rfl (by decide) ((Y.mv rfl).yd) ?_))))
  refine E.y rfl rfl (by decide) ((Y.fn (vs := [_]) rfl).yd) ?_
  refine E.st rfl rfl (N.call0 (t_ContainsFunc_Is (f := (fun x => decide (x = t))) (D_f := (fun _ => True)) (by intros; exact trivial)) rfl rfl rfl (by decide) (fun w Lp hA => ⟨hA.ro hl, FnP.ofIs (D := (fun _ => True)) (fun hd => t_impl_hasTuple_1) (fun w' hk => ⟨(hA.pt m0).keep hk, (hA.ro ht).keep hk⟩)⟩)) (fun _ _ => ?_)
  refine E.y rfl rfl (by decide) ((Y.as rfl).yd) ?_
  exact E.nil (E.thn (E.ret (F.r1 (Back.refl _ _) rfl rfl () trivial (congrArg Value.bool (by grind [hasT, List.drop_eq_getElem_cons, List.drop_eq_nil_of_le, List.take_succ_eq_append_getElem, List.take_of_length_le])) (J := _) (.refl _) (.inl rfl))))
theorem t_impl_addedTuple_1 {a_x : Option Addr} {m_x c_x : Nat} {x : List Int} {b_t : Nat} {a_t : Option Addr} {m_t c_t : Nat} {t : List Int} : Tr Tryz.prog 184 [.slice a_x m_x c_x, .pointer (some ⟨b_t, 0, none⟩)] (fun w L => (Ro w L eIs [.slice a_x m_x c_x] x) ∧ RoPt w L b_t [.slice a_t m_t c_t] ∧ Ro w L eIs [.slice a_t m_t c_t] t) [] (κ := Unit) (fun k => True) (fun k => .bool (decide (0 < cmpL x t))) (fun k => []) := by
  refine Tr.intro Tryz.func184 rfl (n := 8) rfl (by decide +kernel) (Nat.le_of_ble_eq_true rfl) (fr := [(0, .slice a_x m_x c_x), (1, .pointer (some ⟨b_t, 0, none⟩))]) rfl fun w L hR => ?_
  obtain ⟨hx, hb_t, ht⟩ := hR
  obtain ⟨rfl, lx⟩ := hx.slen
  obtain ⟨rfl, lt⟩ := ht.slen
  refine E.seq (E.region (l := [0]) rfl (E.y rfl rfl (by decide) ((Y.as rfl).yd) ?_))
  refine E.nil (E.thn (E.seq (E.region (l := [0, 1, 2, 3, 4]) rfl (E.y rfl rfl (by decide) ((Y.mv rfl).yd) ?_))))
  refine E.y rfl rfl (by decide) (Y.ld1 ty_Is rfl (hb_t.has) rfl) ?_
  refine E.st rfl rfl (N.call0 t_slices_Compare_int_int rfl rfl rfl (by decide) (fun w Lp hA => ⟨hA.ro hx, hA.ro ht⟩)) (fun _ _ => ?_)
  refine E.y rfl rfl (by decide) ((Y.gtr rfl rfl).yd) ?_
  refine E.y rfl rfl (by decide) ((Y.as rfl).yd) ?_
  exact E.nil (E.thn (E.ret (F.r1 (Back.refl _ _) rfl rfl () trivial rfl (J := _) (.refl _) (.inl rfl))))
theorem t_impl_addedTuple {a_l : Option Addr} {m_l c_l : Nat} {l : List (List Int)} {a_t : Option Addr} {m_t c_t : Nat} {t : List Int} (hz : l.length ≤ 1000000000) (ht : t.length ≤ 1048576) : Tr Tryz.prog 150 [.slice a_l m_l c_l, .slice a_t m_t c_t] (fun w L => Ro w L eIs [.slice a_t m_t c_t] t) [ow eIss [.slice a_l m_l c_l] l] (κ := Option Addr × Nat × Nat) (fun k => True) (fun k => .slice k.1 k.2.1 k.2.2) (fun k => [ow eIss [.slice k.1 k.2.1 k.2.2] (addT l t)]) := by
  refine Tr.intro Tryz.func150 rfl (n := 23) rfl (by decide +kernel) (Nat.le_of_ble_eq_true rfl) (fr := [(0, .slice a_l m_l c_l), (1, .slice a_t m_t c_t)]) rfl fun w L hR => ?_
  have ht := hR
  obtain ⟨rfl, lt⟩ := ht.slen
  refine Ent.lenow m0 fun el ll => ?_
  subst el
  refine E.seq (E.region (l := [0, 1]) rfl (E.st rfl rfl (N.box (cs := [_]) rfl (by decide) rfl) (fun b3 _ => ?_)))
  refine E.y rfl rfl (by decide) ((Y.as rfl).yd) ?_
  refine E.nil (E.thn (E.seq (E.seq (E.region (l := [0, 1, 2]) rfl (E.y rfl rfl (by decide) ((Y.mv rfl).yd) ?_)))))
  refine E.y rfl rfl (by decide) (Y.ld1 ty_Is rfl (Has.pt m0) rfl) ?_
  refine E.st rfl rfl (N.call0 t_impl_hasTuple rfl rfl rfl (by decide) (fun w Lp hA => ⟨hA.ow (mS m0), hA.ro ht⟩)) (fun _ _ => (Ent.b (fun q8 => ?_) (fun q8 => ?_)))
  · refine E.nil (E.thn (E.ct rfl (E.seq (E.region (l := [0, 1]) rfl (E.y rfl rfl (by decide) ((Y.mv rfl).yd) ?_)))))
    refine E.y rfl rfl (by decide) ((Y.as rfl).yd) ?_
    refine E.nil (E.thn (E.ret (E.thr (Ent.p1 ?_))))
    refine Ent.cv (congrArg (ow eIss [_]) (show _ = addT l t by grind [addT_has, addT_ins])) ?_
    exact F.r1 (Back.refl _ _) rfl rfl (_, _, _) trivial rfl (J := _) (.refl _) (.inl rfl)
  · refine E.nil (E.thn (E.cf rfl (E.skipc (E.thn (E.seq (E.region (l := [0, 1, 2, 3]) rfl (E.y rfl rfl (by decide) ((Y.mv rfl).yd) ?_)))))))
    refine E.y rfl rfl (by decide) ((Y.fn (vs := [_]) rfl).yd) ?_
    have ji := idx_range (p := fun z => decide (0 < cmpL z t)) (s := l)
    refine E.st rfl rfl (N.call0 (t_IndexFunc_Is (f := (fun x => decide (0 < cmpL x t))) (D_f := (fun _ => True)) (by intros; exact trivial)) rfl rfl rfl (by decide) (fun w Lp hA => ⟨hA.ow (mS m0), FnP.ofIs (D := (fun _ => True)) (fun hd => t_impl_addedTuple_1) (fun w' hk => ⟨(hA.pt m0).keep hk, (hA.ro ht).keep hk⟩)⟩)) (fun _ _ => ?_)
    refine E.y rfl rfl (by decide) ((Y.as rfl).yd) ?_
    refine E.nil (E.thn (E.seq (E.seq (E.region (l := [0, 1]) rfl (E.y rfl rfl (by decide) ((Y.mv rfl).yd) ?_)))))
    refine E.y rfl rfl (by decide) ((Y.lss rfl rfl).yd) (Ent.d (fun q14 => ?_) (fun q14 => ?_))
    · refine E.nil (E.thn (E.ct rfl (E.region (l := [0, 1, 2]) rfl (E.y rfl rfl (by decide) ((Y.mv rfl).yd) ?_))))
      refine E.y rfl rfl (by decide) ((Y.len us_Iss rfl).yd) ?_
      refine E.y rfl rfl (by decide) ((Y.as rfl).yd) ?_
      refine E.nil (E.thn (E.seq (E.region (l := [0, 1, 2, 3, 4, 5, 6]) rfl (E.y rfl rfl (by decide) ((Y.mv rfl).yd) ?_))))
      refine E.y rfl rfl (by decide) ((Y.mv rfl).yd) ?_
      refine E.y rfl rfl (by decide) (Y.ld1 ty_Is rfl (Has.pt m0) rfl) ?_
      refine E.st rfl rfl (N.call (t_Clone_Is (by first | omega | assumption | (constructor <;> omega))) rfl rfl rfl (by decide) rfl (fun w Lp hA => hA.ro ht)) (fun k20 _ => ?_)
      obtain ⟨a20, m20, c20⟩ := k20
      refine Ent.lenow m0 fun e20 l20 => ?_
      subst e20
      refine E.st rfl rfl (N.bsl (pvs := [_]) (cs := [_]) us_Iss ty_Is rfl (by decide) (by decide) (fillZ rfl rfl) rfl (by decide)) (fun b21 _ => ?_)
      refine Ent.p1 ?_
      refine Ent.p1 ?_
      refine Ent.mkow (A := _ :: _) (Own.row1 (E := eIs) (e := tIs) Own.ow) rfl ?_
      refine Ent.p2 ?_
      refine E.st rfl rfl (N.call (pre := [_, _]) (t_Insert_Is (by omega) (by simp) (by simp; omega)) rfl rfl rfl (by decide) rfl (fun w Lp hA => trivial)) (fun k22 _ => ?_)
      obtain ⟨a22, m22, c22⟩ := k22
      refine Ent.lenow m0 fun e22 l22 => ?_
      subst e22
      refine E.y rfl rfl (by decide) ((Y.as rfl).yd) ?_
      refine E.nil (E.thn (E.ret (Ent.cv (congrArg (ow eIss [_]) (show _ = addT l t by grind [addT_has, addT_ins])) ?_)))
      exact F.r1 (Back.refl _ _) rfl rfl (_, _, _) trivial rfl (J := _) (.refl _) (.inl rfl)
    · refine E.nil (E.thn (E.cf rfl (E.skipc (E.thn (E.seq (E.region (l := [0, 1, 2, 3, 4, 5, 6]) rfl (E.y rfl rfl (by decide) ((Y.mv rfl).yd) ?_)))))))
      refine E.y rfl rfl (by decide) ((Y.mv rfl).yd) ?_
      refine E.y rfl rfl (by decide) (Y.ld1 ty_Is rfl (Has.pt m0) rfl) ?_
      refine E.st rfl rfl (N.call (t_Clone_Is (by first | omega | assumption | (constructor <;> omega))) rfl rfl rfl (by decide) rfl (fun w Lp hA => hA.ro ht)) (fun k20 _ => ?_)
      obtain ⟨a20, m20, c20⟩ := k20
      refine Ent.lenow m0 fun e20 l20 => ?_
      subst e20
      refine E.st rfl rfl (N.bsl (pvs := [_]) (cs := [_]) us_Iss ty_Is rfl (by decide) (by decide) (fillZ rfl rfl) rfl (by decide)) (fun b21 _ => ?_)
      refine Ent.p1 ?_
      refine Ent.p1 ?_
      refine Ent.mkow (A := _ :: _) (Own.row1 (E := eIs) (e := tIs) Own.ow) rfl ?_
      refine Ent.p2 ?_
      refine E.st rfl rfl (N.call (pre := [_, _]) (t_Insert_Is (by omega) (by simp) (by simp; omega)) rfl rfl rfl (by decide) rfl (fun w Lp hA => trivial)) (fun k22 _ => ?_)
      obtain ⟨a22, m22, c22⟩ := k22
      refine Ent.lenow m0 fun e22 l22 => ?_
      subst e22
      refine E.y rfl rfl (by decide) ((Y.as rfl).yd) ?_
      refine E.nil (E.thn (E.ret (Ent.cv (congrArg (ow eIss [_]) (show _ = addT l t by grind [addT_has, addT_ins])) ?_)))
      exact F.r1 (Back.refl _ _) rfl rfl (_, _, _) trivial rfl (J := _) (.refl _) (.inl rfl)
theorem t_spec_l4Less {a_a : Option Addr} {m_a c_a : Nat} {a : List Int} {a_b : Option Addr} {m_b c_b : Nat} {b : List Int} : Tr Tryz.prog 149 [.slice a_a m_a c_a, .slice a_b m_b c_b] (fun w L => Ro w L eIs [.slice a_a m_a c_a] a ∧ Ro w L eIs [.slice a_b m_b c_b] b) [] (κ := Unit) (fun k => True) (fun k => .bool (ltT a b)) (fun k => []) := by
  refine Tr.intro Tryz.func149 rfl (n := 41) rfl (by decide +kernel) (Nat.le_of_ble_eq_true rfl) (fr := [(0, .slice a_a m_a c_a), (1, .slice a_b m_b c_b)]) rfl fun w L hR => ?_
  obtain ⟨ha, hb⟩ := hR
  obtain ⟨rfl, la⟩ := ha.slen
  obtain ⟨rfl, lb⟩ := hb.slen
  refine E.seq (E.region (l := [0]) rfl (E.y rfl rfl (by decide) ((Y.as rfl).yd) ?_))
  refine E.nil (E.thn (E.seq (E.seq (E.region (l := [0]) rfl (E.y rfl rfl (by decide) ((Y.as rfl).yd) ?_)))))
  refine E.nil (E.thn (E.block (E.loop (κ := Nat) (fun g => g ≤ a.length ∧ g ≤ b.length ∧ cmpL a b = cmpL (a.drop g) (b.drop g)) (fun g => [(0, .slice a_a a.length c_a), (1, .slice a_b b.length c_b), (5, .int .i64 (↑g : Int))]) (fun g => []) (fun g => a.length - g) 0 ⟨Nat.zero_le _, by simp⟩ ⟨rfl, rfl, rfl, trivial⟩ (.refl _) (fun g pg => ?_))))
  obtain ⟨pk, pa⟩ := pg
  refine E.seq (E.seq (E.region (l := [0, 1, 2, 3, 4, 5, 6, 7, 8, 9]) rfl (E.y rfl rfl (by decide) ((Y.mv rfl).yd) ?_)))
  refine E.y rfl rfl (by decide) ((Y.mv rfl).yd) ?_
  refine E.y rfl rfl (by decide) ((Y.len us_Is rfl).yd) ?_
  refine E.y rfl rfl (by decide) ((Y.lss rfl rfl).yd) (Ent.d (fun q9 => ?_) (fun q9 => ?_))
  · refine E.y rfl rfl (by decide) ((Y.mv rfl).yd) ?_
    refine E.y rfl rfl (by decide) ((Y.mv rfl).yd) ?_
    refine E.y rfl rfl (by decide) ((Y.mv rfl).yd) ?_
    refine E.y rfl rfl (by decide) ((Y.len us_Is rfl).yd) ?_
    refine E.y rfl rfl (by decide) ((Y.lss rfl rfl).yd) (Ent.d (fun q14 => ?_) (fun q14 => ?_))
    · refine E.y rfl rfl (by decide) ((Y.pkt rfl rfl).yd) ?_
      refine E.nil (E.thn (E.ct rfl (E.skipc (E.thn (E.seq (E.block (E.seq (D.region (fun j => true) mixed (D.yp 0 rfl rfl (by decide) (Y.mv rfl) (by kernel_rfl) ?_)))))))))
      refine D.yp 1 rfl rfl (by decide) (Y.mv rfl) (by kernel_rfl) ?_
      obtain ⟨eb20, eo20, ea20, ei20, eh20⟩ := ha.elemI g (by omega)
      refine D.yp 2 rfl rfl (by decide) (Y.ix us_Is ty_I rfl ea20 rfl g rfl (by omega)) (by kernel_rfl) ?_
      refine D.y 3 rfl rfl (by decide) (Y.ld1 ty_I rfl (eh20 _) rfl) (by kernel_rfl) ?_
      refine D.yp 4 rfl rfl (by decide) (Y.mv rfl) (by kernel_rfl) ?_
      refine D.yp 5 rfl rfl (by decide) (Y.mv rfl) (by kernel_rfl) ?_
      obtain ⟨eb24, eo24, ea24, ei24, eh24⟩ := hb.elemI g (by omega)
      refine D.yp 6 rfl rfl (by decide) (Y.ix us_Is ty_I rfl ea24 rfl g rfl (by omega)) (by kernel_rfl) ?_
      refine D.y 7 rfl rfl (by decide) (Y.ld1 ty_I rfl (eh24 _) rfl) (by kernel_rfl) ?_
      refine D.yp 8 rfl rfl (by decide) (Y.neq rfl rfl) (by kernel_rfl) (Ent.d (fun q26 => ?_) (fun q26 => ?_))
      · refine D.done (by kernel_rfl) (E.thn (E.ct rfl (E.seq (D.region (fun j => true) mixed (D.yp 0 rfl rfl (by decide) (Y.mv rfl) (by kernel_rfl) ?_)))))
        refine D.yp 1 rfl rfl (by decide) (Y.mv rfl) (by kernel_rfl) ?_
        refine D.yp 2 rfl rfl (by decide) (Y.ix us_Is ty_I rfl ea20 rfl g rfl (by omega)) (by kernel_rfl) ?_
        refine D.y 3 rfl rfl (by decide) (Y.ld1 ty_I rfl (eh20 _) rfl) (by kernel_rfl) ?_
        refine D.yp 4 rfl rfl (by decide) (Y.mv rfl) (by kernel_rfl) ?_
        refine D.yp 5 rfl rfl (by decide) (Y.mv rfl) (by kernel_rfl) ?_
        refine D.yp 6 rfl rfl (by decide) (Y.ix us_Is ty_I rfl ea24 rfl g rfl (by omega)) (by kernel_rfl) ?_
        refine D.y 7 rfl rfl (by decide) (Y.ld1 ty_I rfl (eh24 _) rfl) (by kernel_rfl) ?_
        refine D.yp 8 rfl rfl (by decide) (Y.lss rfl rfl) (by kernel_rfl) ?_
        refine D.yp 9 rfl rfl (by decide) (Y.as rfl) (by kernel_rfl) ?_
        exact D.done (by kernel_rfl) (E.thn (E.ret (E.blr (E.thr (E.thr (E.blr (E.thr (F.r1 (Back.refl _ _) rfl rfl () trivial (congrArg Value.bool (by grind [ltT, cmpL, cmpI, List.drop_eq_getElem_cons, List.drop_eq_nil_of_le, List.take_succ_eq_append_getElem, List.take_of_length_le])) (J := _) (.refl _) (.inl rfl)))))))))
      · refine D.done (by kernel_rfl) (E.thn (E.cf rfl (E.skipc (E.bln (E.thn (E.region (l := [0, 1, 2]) rfl (E.y rfl rfl (by decide) ((Y.mv rfl).yd) ?_)))))))
        refine E.y rfl rfl (by decide) ((Y.add rfl rfl (by omega) (by omega)).yd) ?_
        refine E.y rfl rfl (by decide) ((Y.as rfl).yd) ?_
        exact E.nil (E.thn (E.again (Back.refl _ _) (g + 1) ⟨rfl, rfl, rfl, trivial⟩ (.refl _) ⟨by omega, by grind [cmpL, cmpI, List.drop_eq_getElem_cons, List.drop_eq_nil_of_le, List.take_succ_eq_append_getElem, List.take_of_length_le]⟩ (by omega)))
    · refine E.y rfl rfl (by decide) ((Y.pkt rfl rfl).yd) ?_
      refine E.nil (E.thn (E.cf rfl (E.exit (E.the (E.the (E.blh (E.thn (E.seq (E.region (l := [0, 1, 2, 3, 4, 5]) rfl (E.y rfl rfl (by decide) ((Y.mv rfl).yd) ?_))))))))))
      refine E.y rfl rfl (by decide) ((Y.len us_Is rfl).yd) ?_
      refine E.y rfl rfl (by decide) ((Y.mv rfl).yd) ?_
      refine E.y rfl rfl (by decide) ((Y.len us_Is rfl).yd) ?_
      refine E.y rfl rfl (by decide) ((Y.lss rfl rfl).yd) ?_
      refine E.y rfl rfl (by decide) ((Y.as rfl).yd) ?_
      exact E.nil (E.thn (E.ret (F.r1 (Back.refl _ _) rfl rfl () trivial (congrArg Value.bool (by grind [ltT, cmpL, cmpI, List.drop_eq_getElem_cons, List.drop_eq_nil_of_le, List.take_succ_eq_append_getElem, List.take_of_length_le])) (J := _) (.refl _) (.inl rfl))))
  · refine E.y rfl rfl (by decide) ((Y.mv rfl).yd) ?_
    refine E.skip rfl rfl rfl ?_
    refine E.skip rfl rfl rfl ?_
    refine E.skip rfl rfl rfl ?_
    refine E.skip rfl rfl rfl ?_
    refine E.y rfl rfl (by decide) ((Y.pkf rfl rfl).yd) ?_
    refine E.nil (E.thn (E.cf rfl (E.exit (E.the (E.the (E.blh (E.thn (E.seq (E.region (l := [0, 1, 2, 3, 4, 5]) rfl (E.y rfl rfl (by decide) ((Y.mv rfl).yd) ?_))))))))))
    refine E.y rfl rfl (by decide) ((Y.len us_Is rfl).yd) ?_
    refine E.y rfl rfl (by decide) ((Y.mv rfl).yd) ?_
    refine E.y rfl rfl (by decide) ((Y.len us_Is rfl).yd) ?_
    refine E.y rfl rfl (by decide) ((Y.lss rfl rfl).yd) ?_
    refine E.y rfl rfl (by decide) ((Y.as rfl).yd) ?_
    exact E.nil (E.thn (E.ret (F.r1 (Back.refl _ _) rfl rfl () trivial (congrArg Value.bool (by grind [ltT, cmpL, cmpI, List.drop_eq_getElem_cons, List.drop_eq_nil_of_le, List.take_succ_eq_append_getElem, List.take_of_length_le])) (J := _) (.refl _) (.inl rfl))))
theorem t_spec_AddTuple {a_l : Option Addr} {m_l c_l : Nat} {l : List (List Int)} {a_t : Option Addr} {m_t c_t : Nat} {t : List Int} (hz : l.length ≤ 1000000000) (hyl : ∀ x ∈ l, x.length ≤ 1048576) (ht : t.length ≤ 1048576) : Tr Tryz.prog 86 [.slice a_l m_l c_l, .slice a_t m_t c_t] (fun w L => Ro w L eIss [.slice a_l m_l c_l] l ∧ Ro w L eIs [.slice a_t m_t c_t] t) [] (κ := Option Addr × Nat × Nat) (fun k => True) (fun k => .slice k.1 k.2.1 k.2.2) (fun k => [ow eIss [.slice k.1 k.2.1 k.2.2] (addT l t)]) := by
  refine Tr.intro Tryz.func86 rfl (n := 65) rfl (by decide +kernel) (Nat.le_of_ble_eq_true rfl) (fr := [(0, .slice a_l m_l c_l), (1, .slice a_t m_t c_t)]) rfl fun w L hR => ?_
  obtain ⟨hl, ht⟩ := hR
  obtain ⟨rfl, ll⟩ := hl.slen
  obtain ⟨rfl, lt⟩ := ht.slen
  refine E.seq (E.region (l := [0]) rfl (E.y rfl rfl (by decide) ((Y.as rfl).yd) ?_))
  refine E.nil (E.thn (E.seq (E.region (l := [0, 1]) rfl (E.st rfl rfl (N.bsl (pvs := []) (cs := []) us_Iss ty_Is rfl (by decide) (by decide) (fillZ rfl rfl) rfl (by decide)) (fun b9 _ => ?_)))))
  refine Ent.drop ?_
  refine E.y rfl rfl (by decide) ((Y.as rfl).yd) ?_
  refine E.nil (E.thn (E.seq (E.region (l := [0]) rfl (E.y rfl rfl (by decide) ((Y.as rfl).yd) ?_))))
  refine E.nil (E.thn (E.seq (E.seq (E.region (l := [0]) rfl (E.y rfl rfl (by decide) ((Y.as rfl).yd) ?_)))))
  refine E.nil (E.thn (E.block (E.loop (κ := Nat) (fun g => g ≤ l.length ∧ True) (fun g => [(0, .slice a_l l.length c_l), (1, .slice a_t t.length c_t), (5, .slice (some ⟨b9, 0, none⟩) 0 0), (6, .bool ((l.take g).any fun x => decide (x = t))), (7, .int .i64 (↑g : Int))]) (fun g => []) (fun g => l.length - g) (0) ⟨Nat.zero_le _, by simp⟩ ⟨rfl, rfl, rfl, frB (by first | rfl | (simp; done) | grind [addT, addP_addS, addS_snoc, addS_nil, any_take, hasT, List.drop_eq_getElem_cons, List.drop_eq_nil_of_le, List.take_succ_eq_append_getElem, List.take_of_length_le]), rfl, trivial⟩ (.refl _) (fun g pg => ?_))))
  show Ent _ _ _ [(0, .slice a_l l.length c_l), (1, .slice a_t t.length c_t), (5, .slice (some ⟨b9, 0, none⟩) 0 0), (6, .bool ((l.take g).any fun x => decide (x = t))), (7, .int .i64 (↑g : Int))] [] _
  obtain ⟨pk, pa⟩ := pg
  refine E.seq (E.seq (E.region (l := [0, 1, 2, 3]) rfl (E.y rfl rfl (by decide) ((Y.mv rfl).yd) ?_)))
  refine E.y rfl rfl (by decide) ((Y.mv rfl).yd) ?_
  refine E.y rfl rfl (by decide) ((Y.len us_Iss rfl).yd) ?_
  refine E.y rfl rfl (by decide) ((Y.lss rfl rfl).yd) (Ent.d (fun q13 => ?_) (fun q13 => ?_))
  · refine E.nil (E.thn (E.ct rfl (E.skipc (E.thn (E.seq (E.block (E.region (l := [0, 1, 2, 3, 4, 5, 6, 7, 8, 9]) rfl (E.y rfl rfl (by decide) ((Y.mv rfl).yd) (Ent.b (fun q16 => ?_) (fun q16 => ?_))))))))))
    · refine E.y rfl rfl (by decide) ((Y.mv rfl).yd) ?_
      refine E.skip rfl rfl rfl ?_
      refine E.skip rfl rfl rfl ?_
      refine E.skip rfl rfl rfl ?_
      refine E.skip rfl rfl rfl ?_
      refine E.skip rfl rfl rfl ?_
      refine E.skip rfl rfl rfl ?_
      refine E.y rfl rfl (by decide) ((Y.pkt rfl rfl).yd) ?_
      refine E.y rfl rfl (by decide) ((Y.as rfl).yd) ?_
      refine E.nil (E.bln (E.thn (E.region (l := [0, 1, 2]) rfl (E.y rfl rfl (by decide) ((Y.mv rfl).yd) ?_))))
      refine E.y rfl rfl (by decide) ((Y.add rfl rfl (by omega) (by omega)).yd) ?_
      refine E.y rfl rfl (by decide) ((Y.as rfl).yd) ?_
      exact E.nil (E.thn (E.again (Back.refl _ _) (g + 1) ⟨rfl, rfl, rfl, frB (by grind [addT, addP_addS, addS_snoc, addS_nil, any_take, hasT, List.drop_eq_getElem_cons, List.drop_eq_nil_of_le, List.take_succ_eq_append_getElem, List.take_of_length_le]), rfl, trivial⟩ (.refl _) ⟨(show g + 1 ≤ l.length from by omega), (show True from by grind [List.drop_eq_getElem_cons, List.drop_eq_nil_of_le, List.take_succ_eq_append_getElem, List.take_of_length_le])⟩ (show l.length - (g + 1) < l.length - g from by omega)))
    · refine E.y rfl rfl (by decide) ((Y.mv rfl).yd) ?_
      refine E.y rfl rfl (by decide) ((Y.mv rfl).yd) ?_
      refine E.y rfl rfl (by decide) ((Y.mv rfl).yd) ?_
      obtain ⟨eb20, eo20, ec20, ea20, er20, el20, eh20⟩ := hl.elem g (by omega)
      obtain ⟨xa20, xc20, rfl⟩ := er20.sl
      have := er20.slen.2
      refine E.y rfl rfl (by decide) ((Y.ix us_Iss ty_Is rfl ea20 rfl g rfl (by omega)).yd) ?_
      refine E.y rfl rfl (by decide) (Y.ld1 ty_Is rfl (eh20 _) rfl) ?_
      refine E.y rfl rfl (by decide) ((Y.mv rfl).yd) ?_
      refine E.st rfl rfl (N.call0 t_spec_l2Ints rfl rfl rfl (by decide) (fun w Lp hA => ⟨hA.ro er20, hA.ro ht⟩)) (fun _ _ => ?_)
      refine E.y rfl rfl (by decide) ((Y.pkf rfl rfl).yd) ?_
      refine E.y rfl rfl (by decide) ((Y.as rfl).yd) (Ent.b (fun q6 => ?_) (fun q6 => ?_))
      · refine E.nil (E.bln (E.thn (E.region (l := [0, 1, 2]) rfl (E.y rfl rfl (by decide) ((Y.mv rfl).yd) ?_))))
        refine E.y rfl rfl (by decide) ((Y.add rfl rfl (by omega) (by omega)).yd) ?_
        refine E.y rfl rfl (by decide) ((Y.as rfl).yd) ?_
        exact E.nil (E.thn (E.again (Back.refl _ _) (g + 1) ⟨rfl, rfl, rfl, frB (by grind [addT, addP_addS, addS_snoc, addS_nil, any_take, hasT, List.drop_eq_getElem_cons, List.drop_eq_nil_of_le, List.take_succ_eq_append_getElem, List.take_of_length_le]), rfl, trivial⟩ (.refl _) ⟨(show g + 1 ≤ l.length from by omega), (show True from by grind [List.drop_eq_getElem_cons, List.drop_eq_nil_of_le, List.take_succ_eq_append_getElem, List.take_of_length_le])⟩ (show l.length - (g + 1) < l.length - g from by omega)))
      · refine E.nil (E.bln (E.thn (E.region (l := [0, 1, 2]) rfl (E.y rfl rfl (by decide) ((Y.mv rfl).yd) ?_))))
        refine E.y rfl rfl (by decide) ((Y.add rfl rfl (by omega) (by omega)).yd) ?_
        refine E.y rfl rfl (by decide) ((Y.as rfl).yd) ?_
        exact E.nil (E.thn (E.again (Back.refl _ _) (g + 1) ⟨rfl, rfl, rfl, frB (by grind [addT, addP_addS, addS_snoc, addS_nil, any_take, hasT, List.drop_eq_getElem_cons, List.drop_eq_nil_of_le, List.take_succ_eq_append_getElem, List.take_of_length_le]), rfl, trivial⟩ (.refl _) ⟨(show g + 1 ≤ l.length from by omega), (show True from by grind [List.drop_eq_getElem_cons, List.drop_eq_nil_of_le, List.take_succ_eq_append_getElem, List.take_of_length_le])⟩ (show l.length - (g + 1) < l.length - g from by omega)))
  · refine E.nil (E.thn (E.cf rfl (E.exit (E.the (E.the (E.blh (E.thn (E.seq (E.seq (E.region (l := [0]) rfl (E.y rfl rfl (by decide) ((Y.as rfl).yd) ?_)))))))))))
    refine E.nil (E.thn (E.block (Ent.mkow (A := []) (Own.nil (E := eIs) (e := tIs) (a := (some ⟨b9, 0, none⟩))) rfl ?_)))
    refine Ent.cv (congrArg (ow eIss [_]) (show [] = addS (hasT l t) (ltT t) t (l.take 0) from by first | rfl | (simp; done) | grind [addT, addP_addS, addS_snoc, addS_nil, any_take, hasT, List.drop_eq_getElem_cons, List.drop_eq_nil_of_le, List.take_succ_eq_append_getElem, List.take_of_length_le])) ?_
    refine E.loop (κ := Nat × Option Addr × Nat × Nat) (fun g => g.1 ≤ l.length ∧ True) (fun g => [(0, .slice a_l l.length c_l), (1, .slice a_t t.length c_t), (5, .slice g.2.1 g.2.2.1 g.2.2.2), (6, .bool (hasT l t || (l.take g.1).any (ltT t))), (8, .int .i64 (↑g.1 : Int))]) (fun g => [ow eIss [.slice g.2.1 g.2.2.1 g.2.2.2] (addS (hasT l t) (ltT t) t (l.take g.1))]) (fun g => l.length - g.1) (0, (some ⟨b9, 0, none⟩), 0, 0) ⟨Nat.zero_le _, by simp⟩ ⟨rfl, rfl, rfl, frB (by first | rfl | (simp; done) | grind [addT, addP_addS, addS_snoc, addS_nil, any_take, hasT, List.drop_eq_getElem_cons, List.drop_eq_nil_of_le, List.take_succ_eq_append_getElem, List.take_of_length_le]), rfl, trivial⟩ (.refl _) (fun g pg => ?_)
    obtain ⟨g, aA1_0, mA1_0, cA1_0⟩ := g
    try dsimp only at pg
    show Ent _ _ _ [(0, .slice a_l l.length c_l), (1, .slice a_t t.length c_t), (5, .slice aA1_0 mA1_0 cA1_0), (6, .bool (hasT l t || (l.take g).any (ltT t))), (8, .int .i64 (↑g : Int))] [ow eIss [.slice aA1_0 mA1_0 cA1_0] (addS (hasT l t) (ltT t) t (l.take g))] _
    obtain ⟨pk, pa⟩ := pg
    have jp := List.length_take_le g l
    have ji := addS_len (h := hasT l t) (p := (ltT t)) (f := t) (l := l.take g)
    refine Ent.lenow m0 fun eaA1_0 laA1_0 => ?_
    subst eaA1_0
    refine E.seq (E.seq (E.region (l := [0, 1, 2, 3]) rfl (E.y rfl rfl (by decide) ((Y.mv rfl).yd) ?_)))
    refine E.y rfl rfl (by decide) ((Y.mv rfl).yd) ?_
    refine E.y rfl rfl (by decide) ((Y.len us_Iss rfl).yd) ?_
    refine E.y rfl rfl (by decide) ((Y.lss rfl rfl).yd) (Ent.d (fun q28 => ?_) (fun q28 => ?_))
    · have jy1 := hyl l[g] (List.getElem_mem (by omega))
      refine E.nil (E.thn (E.ct rfl (E.skipc (E.thn (E.seq (E.block (E.seq (E.seq (E.region (l := [0, 1, 2, 3, 4, 5, 6, 7, 8, 9]) rfl (E.y rfl rfl (by decide) ((Y.mv rfl).yd) (Ent.b (fun q31 => ?_) (fun q31 => ?_))))))))))))
      · refine E.y rfl rfl (by decide) ((Y.not (b := true) rfl).yd) ?_
        refine E.y rfl rfl (by decide) ((Y.mv rfl).yd) ?_
        refine E.skip rfl rfl rfl ?_
        refine E.skip rfl rfl rfl ?_
        refine E.skip rfl rfl rfl ?_
        refine E.skip rfl rfl rfl ?_
        refine E.skip rfl rfl rfl ?_
        refine E.skip rfl rfl rfl ?_
        refine E.y rfl rfl (by decide) ((Y.pkf rfl rfl).yd) ?_
        refine E.nil (E.thn (E.cf rfl (E.skipc (E.thn (E.region (l := [0, 1, 2, 3, 4, 5, 6, 7, 8, 9]) rfl (E.y rfl rfl (by decide) ((Y.mv rfl).yd) ?_))))))
        refine E.st rfl rfl (N.bsl (pvs := []) (cs := []) us_Is ty_I rfl (by decide) (by decide) (fillZ rfl rfl) rfl (by decide)) (fun b48 _ => ?_)
        refine Ent.drop ?_
        refine E.y rfl rfl (by decide) ((Y.mv rfl).yd) ?_
        refine E.y rfl rfl (by decide) ((Y.mv rfl).yd) ?_
        obtain ⟨eb51, eo51, ec51, ea51, er51, el51, eh51⟩ := hl.elem g (by omega)
        obtain ⟨xa51, xc51, rfl⟩ := er51.sl
        have := er51.slen.2
        refine E.y rfl rfl (by decide) ((Y.ix us_Iss ty_Is rfl ea51 rfl g rfl (by omega)).yd) ?_
        refine E.y rfl rfl (by decide) (Y.ld1 ty_Is rfl (eh51 _) rfl) ?_
        refine E.st rfl rfl (N.pushR0 (E := Enc.int) Plain.int us_Is ty_I rfl rfl rfl er51 (by first | omega | (simp only [List.length_map, List.length_take, List.length_append, List.length_drop, List.length_cons, List.length_nil]; omega)) (by first | omega | (simp only [List.length_map, List.length_take, List.length_append, List.length_drop, List.length_cons, List.length_nil]; omega)) (by decide)) (fun p53 _ => ?_)
        refine E.st rfl rfl (N.bsl (pvs := [_]) (cs := [_]) us_Iss ty_Is rfl (by decide) (by decide) (fillZ rfl rfl) rfl (by decide)) (fun b54 _ => ?_)
        refine Ent.p1 ?_
        refine Ent.p1 ?_
        refine Ent.p2 ?_
        refine E.st rfl rfl (N.push (E := eIs) (ex := l[g]) us_Iss ty_Is rfl rfl rfl Own.ow rfl (by first | omega | (simp only [List.length_map, List.length_take, List.length_append, List.length_drop, List.length_cons, List.length_nil]; omega)) (by first | omega | (simp only [List.length_map, List.length_take, List.length_append, List.length_drop, List.length_cons, List.length_nil]; omega)) (by decide)) (fun p55 _ => ?_)
        refine E.y rfl rfl (by decide) ((Y.as rfl).yd) ?_
        refine E.nil (E.bln (E.thn (E.region (l := [0, 1, 2]) rfl (E.y rfl rfl (by decide) ((Y.mv rfl).yd) ?_))))
        refine E.y rfl rfl (by decide) ((Y.add rfl rfl (by omega) (by omega)).yd) ?_
        refine E.y rfl rfl (by decide) ((Y.as rfl).yd) ?_
        refine E.nil (E.thn (Ent.cv (congrArg (ow eIss [_]) (show (addS (hasT l t) (ltT t) t (l.take g)) ++ [l[g]] = addS (hasT l t) (ltT t) t (l.take (g + 1)) from by grind [addT, addP_addS, addS_snoc, addS_nil, any_take, hasT, List.drop_eq_getElem_cons, List.drop_eq_nil_of_le, List.take_succ_eq_append_getElem, List.take_of_length_le])) ?_))
        exact E.again (Back.refl _ _) (g + 1, p55.1, ((addS (hasT l t) (ltT t) t (l.take g)).length + 1), p55.2) ⟨rfl, rfl, rfl, frB (by grind [addT, addP_addS, addS_snoc, addS_nil, any_take, hasT, List.drop_eq_getElem_cons, List.drop_eq_nil_of_le, List.take_succ_eq_append_getElem, List.take_of_length_le]), rfl, trivial⟩ (.refl _) ⟨(show g + 1 ≤ l.length from by omega), (show True from by grind [List.drop_eq_getElem_cons, List.drop_eq_nil_of_le, List.take_succ_eq_append_getElem, List.take_of_length_le])⟩ (show l.length - (g + 1) < l.length - g from by omega)
      · refine E.y rfl rfl (by decide) ((Y.not (b := false) rfl).yd) ?_
        refine E.y rfl rfl (by decide) ((Y.mv rfl).yd) ?_
        refine E.y rfl rfl (by decide) ((Y.mv rfl).yd) ?_
        refine E.y rfl rfl (by decide) ((Y.mv rfl).yd) ?_
        refine E.y rfl rfl (by decide) ((Y.mv rfl).yd) ?_
        obtain ⟨eb37, eo37, ec37, ea37, er37, el37, eh37⟩ := hl.elem g (by omega)
        obtain ⟨xa37, xc37, rfl⟩ := er37.sl
        have := er37.slen.2
        refine E.y rfl rfl (by decide) ((Y.ix us_Iss ty_Is rfl ea37 rfl g rfl (by omega)).yd) ?_
        refine E.y rfl rfl (by decide) (Y.ld1 ty_Is rfl (eh37 _) rfl) ?_
        refine E.st rfl rfl (N.call0 t_spec_l4Less rfl rfl rfl (by decide) (fun w Lp hA => ⟨hA.ro ht, hA.ro er37⟩)) (fun _ _ => (Ent.b (fun q39 => ?_) (fun q39 => ?_)))
        · refine E.y rfl rfl (by decide) ((Y.pkt rfl rfl).yd) ?_
          refine E.nil (E.thn (E.ct rfl (E.seq (E.region (l := [0, 1, 2, 3, 4, 5, 6]) rfl (E.y rfl rfl (by decide) ((Y.mv rfl).yd) ?_)))))
          refine E.st rfl rfl (N.bsl (pvs := []) (cs := []) us_Is ty_I rfl (by decide) (by decide) (fillZ rfl rfl) rfl (by decide)) (fun b42 _ => ?_)
          refine Ent.drop ?_
          refine E.y rfl rfl (by decide) ((Y.mv rfl).yd) ?_
          refine E.st rfl rfl (N.pushR0 (E := Enc.int) Plain.int us_Is ty_I rfl rfl rfl ht (by first | omega | (simp only [List.length_map, List.length_take, List.length_append, List.length_drop, List.length_cons, List.length_nil]; omega)) (by first | omega | (simp only [List.length_map, List.length_take, List.length_append, List.length_drop, List.length_cons, List.length_nil]; omega)) (by decide)) (fun p44 _ => ?_)
          refine E.st rfl rfl (N.bsl (pvs := [_]) (cs := [_]) us_Iss ty_Is rfl (by decide) (by decide) (fillZ rfl rfl) rfl (by decide)) (fun b45 _ => ?_)
          refine Ent.p1 ?_
          refine Ent.p1 ?_
          refine Ent.p2 ?_
          refine E.st rfl rfl (N.push (E := eIs) (ex := t) us_Iss ty_Is rfl rfl rfl Own.ow rfl (by first | omega | (simp only [List.length_map, List.length_take, List.length_append, List.length_drop, List.length_cons, List.length_nil]; omega)) (by first | omega | (simp only [List.length_map, List.length_take, List.length_append, List.length_drop, List.length_cons, List.length_nil]; omega)) (by decide)) (fun p46 _ => ?_)
          refine E.y rfl rfl (by decide) ((Y.as rfl).yd) ?_
          refine E.nil (E.thn (E.region (l := [0]) rfl (E.y rfl rfl (by decide) ((Y.as rfl).yd) ?_)))
          refine E.nil (E.thn (E.region (l := [0, 1, 2, 3, 4, 5, 6, 7, 8, 9]) rfl (E.y rfl rfl (by decide) ((Y.mv rfl).yd) ?_)))
          refine E.st rfl rfl (N.bsl (pvs := []) (cs := []) us_Is ty_I rfl (by decide) (by decide) (fillZ rfl rfl) rfl (by decide)) (fun b48 _ => ?_)
          refine Ent.drop ?_
          refine E.y rfl rfl (by decide) ((Y.mv rfl).yd) ?_
          refine E.y rfl rfl (by decide) ((Y.mv rfl).yd) ?_
          refine E.y rfl rfl (by decide) ((Y.ix us_Iss ty_Is rfl ea37 rfl g rfl (by omega)).yd) ?_
          refine E.y rfl rfl (by decide) (Y.ld1 ty_Is rfl (eh37 _) rfl) ?_
          refine E.st rfl rfl (N.pushR0 (E := Enc.int) Plain.int us_Is ty_I rfl rfl rfl er37 (by first | omega | (simp only [List.length_map, List.length_take, List.length_append, List.length_drop, List.length_cons, List.length_nil]; omega)) (by first | omega | (simp only [List.length_map, List.length_take, List.length_append, List.length_drop, List.length_cons, List.length_nil]; omega)) (by decide)) (fun p53 _ => ?_)
          refine E.st rfl rfl (N.bsl (pvs := [_]) (cs := [_]) us_Iss ty_Is rfl (by decide) (by decide) (fillZ rfl rfl) rfl (by decide)) (fun b54 _ => ?_)
          refine Ent.p1 ?_
          refine Ent.p1 ?_
          refine Ent.p2 ?_
          refine E.st rfl rfl (N.push (E := eIs) (ex := l[g]) us_Iss ty_Is rfl rfl rfl Own.ow rfl (by first | omega | (simp only [List.length_map, List.length_take, List.length_append, List.length_drop, List.length_cons, List.length_nil]; omega)) (by first | omega | (simp only [List.length_map, List.length_take, List.length_append, List.length_drop, List.length_cons, List.length_nil]; omega)) (by decide)) (fun p55 _ => ?_)
          refine E.y rfl rfl (by decide) ((Y.as rfl).yd) ?_
          refine E.nil (E.bln (E.thn (E.region (l := [0, 1, 2]) rfl (E.y rfl rfl (by decide) ((Y.mv rfl).yd) ?_))))
          refine E.y rfl rfl (by decide) ((Y.add rfl rfl (by omega) (by omega)).yd) ?_
          refine E.y rfl rfl (by decide) ((Y.as rfl).yd) ?_
          refine E.nil (E.thn (Ent.cv (congrArg (ow eIss [_]) (show ((addS (hasT l t) (ltT t) t (l.take g)) ++ [t]) ++ [l[g]] = addS (hasT l t) (ltT t) t (l.take (g + 1)) from by grind [addT, addP_addS, addS_snoc, addS_nil, any_take, hasT, List.drop_eq_getElem_cons, List.drop_eq_nil_of_le, List.take_succ_eq_append_getElem, List.take_of_length_le])) ?_))
          exact E.again (Back.refl _ _) (g + 1, p55.1, (((addS (hasT l t) (ltT t) t (l.take g)).length + 1) + 1), p55.2) ⟨rfl, rfl, rfl, frB (by grind [addT, addP_addS, addS_snoc, addS_nil, any_take, hasT, List.drop_eq_getElem_cons, List.drop_eq_nil_of_le, List.take_succ_eq_append_getElem, List.take_of_length_le]), rfl, trivial⟩ (.refl _) ⟨(show g + 1 ≤ l.length from by omega), (show True from by grind [List.drop_eq_getElem_cons, List.drop_eq_nil_of_le, List.take_succ_eq_append_getElem, List.take_of_length_le])⟩ (show l.length - (g + 1) < l.length - g from by omega)
        · refine E.y rfl rfl (by decide) ((Y.pkt rfl rfl).yd) ?_
          refine E.nil (E.thn (E.cf rfl (E.skipc (E.thn (E.region (l := [0, 1, 2, 3, 4, 5, 6, 7, 8, 9]) rfl (E.y rfl rfl (by decide) ((Y.mv rfl).yd) ?_))))))
          refine E.st rfl rfl (N.bsl (pvs := []) (cs := []) us_Is ty_I rfl (by decide) (by decide) (fillZ rfl rfl) rfl (by decide)) (fun b48 _ => ?_)
          refine Ent.drop ?_
          refine E.y rfl rfl (by decide) ((Y.mv rfl).yd) ?_
          refine E.y rfl rfl (by decide) ((Y.mv rfl).yd) ?_
          refine E.y rfl rfl (by decide) ((Y.ix us_Iss ty_Is rfl ea37 rfl g rfl (by omega)).yd) ?_
          refine E.y rfl rfl (by decide) (Y.ld1 ty_Is rfl (eh37 _) rfl) ?_
          refine E.st rfl rfl (N.pushR0 (E := Enc.int) Plain.int us_Is ty_I rfl rfl rfl er37 (by first | omega | (simp only [List.length_map, List.length_take, List.length_append, List.length_drop, List.length_cons, List.length_nil]; omega)) (by first | omega | (simp only [List.length_map, List.length_take, List.length_append, List.length_drop, List.length_cons, List.length_nil]; omega)) (by decide)) (fun p53 _ => ?_)
          refine E.st rfl rfl (N.bsl (pvs := [_]) (cs := [_]) us_Iss ty_Is rfl (by decide) (by decide) (fillZ rfl rfl) rfl (by decide)) (fun b54 _ => ?_)
          refine Ent.p1 ?_
          refine Ent.p1 ?_
          refine Ent.p2 ?_
          refine E.st rfl rfl (N.push (E := eIs) (ex := l[g]) us_Iss ty_Is rfl rfl rfl Own.ow rfl (by first | omega | (simp only [List.length_map, List.length_take, List.length_append, List.length_drop, List.length_cons, List.length_nil]; omega)) (by first | omega | (simp only [List.length_map, List.length_take, List.length_append, List.length_drop, List.length_cons, List.length_nil]; omega)) (by decide)) (fun p55 _ => ?_)
          refine E.y rfl rfl (by decide) ((Y.as rfl).yd) ?_
          refine E.nil (E.bln (E.thn (E.region (l := [0, 1, 2]) rfl (E.y rfl rfl (by decide) ((Y.mv rfl).yd) ?_))))
          refine E.y rfl rfl (by decide) ((Y.add rfl rfl (by omega) (by omega)).yd) ?_
          refine E.y rfl rfl (by decide) ((Y.as rfl).yd) ?_
          refine E.nil (E.thn (Ent.cv (congrArg (ow eIss [_]) (show (addS (hasT l t) (ltT t) t (l.take g)) ++ [l[g]] = addS (hasT l t) (ltT t) t (l.take (g + 1)) from by grind [addT, addP_addS, addS_snoc, addS_nil, any_take, hasT, List.drop_eq_getElem_cons, List.drop_eq_nil_of_le, List.take_succ_eq_append_getElem, List.take_of_length_le])) ?_))
          exact E.again (Back.refl _ _) (g + 1, p55.1, ((addS (hasT l t) (ltT t) t (l.take g)).length + 1), p55.2) ⟨rfl, rfl, rfl, frB (by grind [addT, addP_addS, addS_snoc, addS_nil, any_take, hasT, List.drop_eq_getElem_cons, List.drop_eq_nil_of_le, List.take_succ_eq_append_getElem, List.take_of_length_le]), rfl, trivial⟩ (.refl _) ⟨(show g + 1 ≤ l.length from by omega), (show True from by grind [List.drop_eq_getElem_cons, List.drop_eq_nil_of_le, List.take_succ_eq_append_getElem, List.take_of_length_le])⟩ (show l.length - (g + 1) < l.length - g from by omega)
    · refine E.nil (E.thn (E.cf rfl (E.exit (E.the (E.the (E.blh (E.thn (E.seq (E.seq (E.region (l := [0, 1]) rfl (E.y rfl rfl (by decide) ((Y.mv rfl).yd) (Ent.b (fun q56 => ?_) (fun q56 => ?_)))))))))))))
      · refine E.y rfl rfl (by decide) ((Y.not (b := true) rfl).yd) ?_
        refine E.nil (E.thn (E.cf rfl (E.skipc (E.thn (E.seq (E.region (l := [0, 1]) rfl (E.y rfl rfl (by decide) ((Y.mv rfl).yd) ?_)))))))
        refine E.y rfl rfl (by decide) ((Y.as rfl).yd) ?_
        refine E.nil (E.thn (E.ret (Ent.cv (congrArg (ow eIss [_]) (show _ = addT l t by grind [addT, addP_addS, addS_snoc, addS_nil, any_take, hasT, List.drop_eq_getElem_cons, List.drop_eq_nil_of_le, List.take_succ_eq_append_getElem, List.take_of_length_le])) ?_)))
        exact F.r1 (Back.refl _ _) rfl rfl (_, _, _) trivial rfl (J := _) (.refl _) (.inl rfl)
      · refine E.y rfl rfl (by decide) ((Y.not (b := false) rfl).yd) ?_
        refine E.nil (E.thn (E.ct rfl (E.region (l := [0, 1, 2, 3, 4, 5, 6]) rfl (E.y rfl rfl (by decide) ((Y.mv rfl).yd) ?_))))
        refine E.st rfl rfl (N.bsl (pvs := []) (cs := []) us_Is ty_I rfl (by decide) (by decide) (fillZ rfl rfl) rfl (by decide)) (fun b59 _ => ?_)
        refine Ent.drop ?_
        refine E.y rfl rfl (by decide) ((Y.mv rfl).yd) ?_
        refine E.st rfl rfl (N.pushR0 (E := Enc.int) Plain.int us_Is ty_I rfl rfl rfl ht (by first | omega | (simp only [List.length_map, List.length_take, List.length_append, List.length_drop, List.length_cons, List.length_nil]; omega)) (by first | omega | (simp only [List.length_map, List.length_take, List.length_append, List.length_drop, List.length_cons, List.length_nil]; omega)) (by decide)) (fun p61 _ => ?_)
        refine E.st rfl rfl (N.bsl (pvs := [_]) (cs := [_]) us_Iss ty_Is rfl (by decide) (by decide) (fillZ rfl rfl) rfl (by decide)) (fun b62 _ => ?_)
        refine Ent.p1 ?_
        refine Ent.p1 ?_
        refine Ent.p2 ?_
        refine E.st rfl rfl (N.push (E := eIs) (ex := t) us_Iss ty_Is rfl rfl rfl Own.ow rfl (by first | omega | (simp only [List.length_map, List.length_take, List.length_append, List.length_drop, List.length_cons, List.length_nil]; omega)) (by first | omega | (simp only [List.length_map, List.length_take, List.length_append, List.length_drop, List.length_cons, List.length_nil]; omega)) (by decide)) (fun p63 _ => ?_)
        refine E.y rfl rfl (by decide) ((Y.as rfl).yd) ?_
        refine E.nil (E.thn (E.seq (E.region (l := [0, 1]) rfl (E.y rfl rfl (by decide) ((Y.mv rfl).yd) ?_))))
        refine E.y rfl rfl (by decide) ((Y.as rfl).yd) ?_
        refine E.nil (E.thn (E.ret (Ent.cv (congrArg (ow eIss [_]) (show _ = addT l t by grind [addT, addP_addS, addS_snoc, addS_nil, any_take, hasT, List.drop_eq_getElem_cons, List.drop_eq_nil_of_le, List.take_succ_eq_append_getElem, List.take_of_length_le])) ?_)))
        exact F.r1 (Back.refl _ _) rfl rfl (_, _, _) trivial rfl (J := _) (.refl _) (.inl rfl)
theorem t_impl_tuplesOf {a_q_Head : Option Addr} {m_q_Head c_q_Head : Nat} {q_Head : List Int} {a_q_Atoms : Option Addr} {m_q_Atoms c_q_Atoms : Nat} {q_Atoms : List (Int × List Int)} {a_l : Option Addr} {m_l c_l : Nat} {l : List (List Int × List Int)} (hqh : q_Head.length ≤ 1048576) (hz : l.length ≤ 100000000) : Tr Tryz.prog 94 [.agg #[.slice a_q_Head m_q_Head c_q_Head, .slice a_q_Atoms m_q_Atoms c_q_Atoms], .slice a_l m_l c_l] (fun w L => Ro w L eIs [.slice a_q_Head m_q_Head c_q_Head] q_Head ∧ Ro w L eAtoms [.slice a_q_Atoms m_q_Atoms c_q_Atoms] q_Atoms ∧ Ro w L eBindings [.slice a_l m_l c_l] l) [] (κ := Option Addr × Nat × Nat) (fun k => True) (fun k => .slice k.1 k.2.1 k.2.2) (fun k => [ow eIss [.slice k.1 k.2.1 k.2.2] (tupF q_Head l)]) := by
  refine Tr.intro Tryz.func94 rfl (n := 22) rfl (by decide +kernel) (Nat.le_of_ble_eq_true rfl) (fr := [(0, .agg #[.slice a_q_Head m_q_Head c_q_Head, .slice a_q_Atoms m_q_Atoms c_q_Atoms]), (1, .slice a_l m_l c_l)]) rfl fun w L hR => ?_
  obtain ⟨hq_Head, hq_Atoms, hl⟩ := hR
  obtain ⟨rfl, lq_Head⟩ := hq_Head.slen
  obtain ⟨rfl, lq_Atoms⟩ := hq_Atoms.slen
  obtain ⟨rfl, ll⟩ := hl.slen
  have jv := Ro.i64B hl
  have jw := hq_Head.i64
  refine E.seq (E.region (l := [0, 1]) rfl (E.st rfl rfl (N.box (cs := [_, _]) rfl (by decide) rfl) (fun b2 _ => ?_)))
  refine E.y rfl rfl (by decide) ((Y.as rfl).yd) ?_
  refine E.nil (E.thn (E.seq (E.region (l := [0, 1]) rfl (E.st rfl rfl (N.bsl (pvs := []) (cs := []) us_Iss ty_Is rfl (by decide) (by decide) (fillZ rfl rfl) rfl (by decide)) (fun b8 _ => ?_)))))
  refine Ent.drop ?_
  refine E.y rfl rfl (by decide) ((Y.as rfl).yd) ?_
  refine E.nil (E.thn (E.seq (E.seq (E.region (l := [0, 1, 2]) rfl (E.y rfl rfl (by decide) ((Y.mv rfl).yd) ?_)))))
  refine E.y rfl rfl (by decide) ((Y.len us_Bindings rfl).yd) ?_
  refine E.y rfl rfl (by decide) ((Y.mv rfl).yd) ?_
  refine E.nil (E.thn (E.block (Ent.mkow (A := []) (Own.nil (E := eIs) (e := tIs) (a := (some ⟨b8, 0, none⟩))) rfl ?_)))
  refine Ent.cv (congrArg (ow eIss [_]) (show [] = tupF q_Head (l.take 0) from by first | rfl | (simp; done) | grind [tup_nil, tup_snoc, List.drop_eq_getElem_cons, List.drop_eq_nil_of_le, List.take_succ_eq_append_getElem, List.take_of_length_le])) ?_
  refine E.loop (κ := Nat × Option Addr × Nat × Nat) (fun g => g.1 ≤ l.length ∧ True) (fun g => [(2, .pointer (some ⟨b2, 0, none⟩)), (5, .slice g.2.1 g.2.2.1 g.2.2.2), (9, .slice a_l l.length c_l), (10, .int .i64 (↑l.length : Int)), (11, .int .i64 (↑g.1 : Int))]) (fun g => [ow eIss [.slice g.2.1 g.2.2.1 g.2.2.2] (tupF q_Head (l.take g.1)), pt b2 31 [.slice a_q_Head q_Head.length c_q_Head, .slice a_q_Atoms q_Atoms.length c_q_Atoms]]) (fun g => l.length - g.1) (0, (some ⟨b8, 0, none⟩), 0, 0) ⟨Nat.zero_le _, by simp⟩ ⟨rfl, rfl, rfl, rfl, rfl, trivial⟩ (.refl _) (fun g pg => ?_)
  obtain ⟨g, aA0_0, mA0_0, cA0_0⟩ := g
  try dsimp only at pg
  show Ent _ _ _ [(2, .pointer (some ⟨b2, 0, none⟩)), (5, .slice aA0_0 mA0_0 cA0_0), (9, .slice a_l l.length c_l), (10, .int .i64 (↑l.length : Int)), (11, .int .i64 (↑g : Int))] [ow eIss [.slice aA0_0 mA0_0 cA0_0] (tupF q_Head (l.take g)), pt b2 31 [.slice a_q_Head q_Head.length c_q_Head, .slice a_q_Atoms q_Atoms.length c_q_Atoms]] _
  obtain ⟨pk, pa⟩ := pg
  have jp := List.length_take_le g l
  have jn := tup_len (h := q_Head) (l := l.take g)
  have je := tup_el (h := q_Head) (l := l.take g)
  refine Ent.lenow m0 fun eaA0_0 laA0_0 => ?_
  subst eaA0_0
  refine E.seq (E.region (l := [0]) rfl (E.y rfl rfl (by decide) ((Y.lss rfl rfl).yd) (Ent.d (fun q12 => ?_) (fun q12 => ?_))))
  · obtain ⟨eb13, eo13, ec13, ea13, er13, el13, eh13⟩ := hl.elem g (by omega)
    obtain ⟨xa13_0, xc13_0, xa13_1, xc13_1, rfl, xh13_0, xh13_1⟩ := Ro.pBinding er13
    have := xh13_0.slen.2
    have := xh13_1.slen.2
    refine E.nil (E.thn (E.seq (E.ct rfl (E.skipc (E.thn (E.seq (E.block (E.seq (E.region (l := [0, 1, 2, 3]) rfl (E.y rfl rfl (by decide) ((Y.ix us_Bindings ty_Binding rfl ea13 rfl g rfl (by omega)).yd) ?_))))))))))
    refine E.y rfl rfl (by decide) (Y.ldS (cs := [_, _]) ty_Binding rfl (eh13 _) rfl) ?_
    refine E.st rfl rfl (N.alloc ty_Binding (by decide)) (fun b7 _ => ?_)
    refine E.st rfl rfl (N.sto (vs := [_, _]) (cs' := [_, _]) ty_Binding rfl rfl rfl rfl rfl (Nat.le_of_ble_eq_true rfl) rfl) (fun _ _ => ?_)
    refine E.nil (E.thn (E.region (l := [0, 1, 2, 3, 4, 5]) rfl (E.y rfl rfl (by decide) ((Y.mv rfl).yd) ?_)))
    refine E.y rfl rfl (by decide) (Y.ldS (cs := [_, _]) ty_Query rfl (Has.pt (mS (mS m0))) rfl) ?_
    refine E.y rfl rfl (by decide) (Y.ldS (cs := [_, _]) ty_Binding rfl (Has.pt m0) rfl) ?_
    refine E.st rfl rfl (N.call (t_impl_TupleOf (by first | omega | assumption | (simp; omega))) rfl rfl rfl (by decide) rfl (fun w Lp hA => ⟨hA.ro hq_Head, hA.ro hq_Atoms, hA.ro xh13_0, hA.ro xh13_1⟩)) (fun k18 _ => ?_)
    obtain ⟨a18, m18, c18⟩ := k18
    refine Ent.lenow m0 fun e18 l18 => ?_
    subst e18
    refine Ent.p2 ?_
    refine E.st rfl rfl (N.call (pre := [_]) (t_impl_addedTuple (by first | omega | assumption | (simp; omega)) (by first | omega | assumption | (simp; omega))) rfl rfl rfl (by decide) rfl (fun w Lp hA => hA.ow m0)) (fun k19 _ => ?_)
    obtain ⟨a19, m19, c19⟩ := k19
    refine Ent.lenow m0 fun e19 l19 => ?_
    subst e19
    refine E.y rfl rfl (by decide) ((Y.as rfl).yd) ?_
    refine E.nil (E.bln (E.thn (E.region (l := [0, 1]) rfl (E.y rfl rfl (by decide) ((Y.add rfl rfl (by omega) (by omega)).yd) ?_))))
    refine E.y rfl rfl (by decide) ((Y.mv rfl).yd) ?_
    refine E.nil (E.thn (Ent.p1 ?_))
    refine Ent.drop ?_
    refine Ent.p1 ?_
    refine Ent.drop ?_
    refine Ent.cv (congrArg (ow eIss [_]) (show addT (tupF q_Head (l.take g)) (q_Head.map (valO l[g])) = tupF q_Head (l.take (g + 1)) from by grind [tup_nil, tup_snoc, List.drop_eq_getElem_cons, List.drop_eq_nil_of_le, List.take_succ_eq_append_getElem, List.take_of_length_le])) ?_
    refine Ent.p1 ?_
    refine Ent.p1 ?_
    exact E.again (Back.refl _ _) (g + 1, a19, (addT (tupF q_Head (l.take g)) (q_Head.map (valO l[g]))).length, c19) ⟨rfl, rfl, rfl, rfl, rfl, trivial⟩ (.refl _) ⟨(show g + 1 ≤ l.length from by omega), (show True from by grind [List.drop_eq_getElem_cons, List.drop_eq_nil_of_le, List.take_succ_eq_append_getElem, List.take_of_length_le])⟩ (show l.length - (g + 1) < l.length - g from by omega)
  · refine E.nil (E.thn (E.seq (E.cf rfl (E.exit (E.the (E.the (E.blh (E.thn (E.seq (E.region (l := [0, 1]) rfl (E.y rfl rfl (by decide) ((Y.mv rfl).yd) ?_)))))))))))
    refine E.y rfl rfl (by decide) ((Y.as rfl).yd) ?_
    refine E.nil (E.thn (E.ret (Ent.cv (congrArg (ow eIss [_]) (show _ = tupF q_Head l by grind [tup_nil, tup_snoc, List.drop_eq_getElem_cons, List.drop_eq_nil_of_le, List.take_succ_eq_append_getElem, List.take_of_length_le])) ?_)))
    exact F.r1 (Back.refl _ _) rfl rfl (_, _, _) trivial rfl (J := _) (.refl _) (.inl rfl)
theorem t_spec_l4Tuples {a_q_Head : Option Addr} {m_q_Head c_q_Head : Nat} {q_Head : List Int} {a_q_Atoms : Option Addr} {m_q_Atoms c_q_Atoms : Nat} {q_Atoms : List (Int × List Int)} {a_l : Option Addr} {m_l c_l : Nat} {l : List (List Int × List Int)} (hqh : q_Head.length ≤ 1048576) (hz : l.length ≤ 100000000) : Tr Tryz.prog 69 [.agg #[.slice a_q_Head m_q_Head c_q_Head, .slice a_q_Atoms m_q_Atoms c_q_Atoms], .slice a_l m_l c_l] (fun w L => Ro w L eIs [.slice a_q_Head m_q_Head c_q_Head] q_Head ∧ Ro w L eAtoms [.slice a_q_Atoms m_q_Atoms c_q_Atoms] q_Atoms ∧ Ro w L eBindings [.slice a_l m_l c_l] l) [] (κ := Option Addr × Nat × Nat) (fun k => True) (fun k => .slice k.1 k.2.1 k.2.2) (fun k => [ow eIss [.slice k.1 k.2.1 k.2.2] (tupF q_Head l)]) := by
  refine Tr.intro Tryz.func69 rfl (n := 41) rfl (by decide +kernel) (Nat.le_of_ble_eq_true rfl) (fr := [(0, .agg #[.slice a_q_Head m_q_Head c_q_Head, .slice a_q_Atoms m_q_Atoms c_q_Atoms]), (1, .slice a_l m_l c_l)]) rfl fun w L hR => ?_
  obtain ⟨hq_Head, hq_Atoms, hl⟩ := hR
  obtain ⟨rfl, lq_Head⟩ := hq_Head.slen
  obtain ⟨rfl, lq_Atoms⟩ := hq_Atoms.slen
  obtain ⟨rfl, ll⟩ := hl.slen
  have jv := Ro.i64B hl
  have jw := hq_Head.i64
  refine E.seq (E.region (l := [0, 1]) rfl (E.st rfl rfl (N.box (cs := [_, _]) rfl (by decide) rfl) (fun b2 _ => ?_)))
  refine E.y rfl rfl (by decide) ((Y.as rfl).yd) ?_
  refine E.nil (E.thn (E.seq (E.region (l := [0, 1]) rfl (E.st rfl rfl (N.bsl (pvs := []) (cs := []) us_Iss ty_Is rfl (by decide) (by decide) (fillZ rfl rfl) rfl (by decide)) (fun b9 _ => ?_)))))
  refine Ent.drop ?_
  refine E.y rfl rfl (by decide) ((Y.as rfl).yd) ?_
  refine E.nil (E.thn (E.seq (E.seq (E.region (l := [0]) rfl (E.y rfl rfl (by decide) ((Y.as rfl).yd) ?_)))))
  refine E.nil (E.thn (E.block (Ent.mkow (A := []) (Own.nil (E := eIs) (e := tIs) (a := (some ⟨b9, 0, none⟩))) rfl ?_)))
  refine Ent.cv (congrArg (ow eIss [_]) (show [] = tupF q_Head (l.take 0) from by first | rfl | (simp; done) | grind [tup_nil, tup_snoc, List.drop_eq_getElem_cons, List.drop_eq_nil_of_le, List.take_succ_eq_append_getElem, List.take_of_length_le])) ?_
  refine E.loop (κ := Nat × Option Addr × Nat × Nat) (fun g => g.1 ≤ l.length ∧ True) (fun g => [(1, .slice a_l l.length c_l), (2, .pointer (some ⟨b2, 0, none⟩)), (5, .slice g.2.1 g.2.2.1 g.2.2.2), (6, .int .i64 (↑g.1 : Int))]) (fun g => [ow eIss [.slice g.2.1 g.2.2.1 g.2.2.2] (tupF q_Head (l.take g.1)), pt b2 31 [.slice a_q_Head q_Head.length c_q_Head, .slice a_q_Atoms q_Atoms.length c_q_Atoms]]) (fun g => l.length - g.1) (0, (some ⟨b9, 0, none⟩), 0, 0) ⟨Nat.zero_le _, by simp⟩ ⟨rfl, rfl, rfl, rfl, trivial⟩ (.refl _) (fun g pg => ?_)
  obtain ⟨g, aA0_0, mA0_0, cA0_0⟩ := g
  try dsimp only at pg
  show Ent _ _ _ [(1, .slice a_l l.length c_l), (2, .pointer (some ⟨b2, 0, none⟩)), (5, .slice aA0_0 mA0_0 cA0_0), (6, .int .i64 (↑g : Int))] [ow eIss [.slice aA0_0 mA0_0 cA0_0] (tupF q_Head (l.take g)), pt b2 31 [.slice a_q_Head q_Head.length c_q_Head, .slice a_q_Atoms q_Atoms.length c_q_Atoms]] _
  obtain ⟨pk, pa⟩ := pg
  have jp := List.length_take_le g l
  have jn := tup_len (h := q_Head) (l := l.take g)
  have je := tup_el (h := q_Head) (l := l.take g)
  refine Ent.lenow m0 fun eaA0_0 laA0_0 => ?_
  subst eaA0_0
  refine E.seq (E.seq (E.region (l := [0, 1, 2, 3]) rfl (E.y rfl rfl (by decide) ((Y.mv rfl).yd) ?_)))
  refine E.y rfl rfl (by decide) ((Y.mv rfl).yd) ?_
  refine E.y rfl rfl (by decide) ((Y.len us_Bindings rfl).yd) ?_
  refine E.y rfl rfl (by decide) ((Y.lss rfl rfl).yd) (Ent.d (fun q13 => ?_) (fun q13 => ?_))
  · refine E.nil (E.thn (E.ct rfl (E.skipc (E.thn (E.seq (E.block (E.seq (E.region (l := [0, 1]) rfl (E.st rfl rfl (N.bsl (pvs := []) (cs := []) us_Is ty_I rfl (by decide) (by decide) (fillZ rfl rfl) rfl (by decide)) (fun b16 _ => ?_))))))))))
    refine Ent.drop ?_
    refine E.y rfl rfl (by decide) ((Y.as rfl).yd) ?_
    refine E.nil (E.thn (E.seq (E.seq (E.region (l := [0]) rfl (E.y rfl rfl (by decide) ((Y.as rfl).yd) ?_)))))
    refine E.nil (E.thn (E.block (Ent.mkow (A := []) (Own.nil (E := Enc.int) (e := tI) (a := (some ⟨b16, 0, none⟩))) rfl ?_)))
    refine Ent.cv (congrArg (ow eIs [_]) (show [] = (q_Head.take 0).map (valO l[g]) from by first | rfl | (simp; done) | grind [tup_nil, tup_snoc, List.drop_eq_getElem_cons, List.drop_eq_nil_of_le, List.take_succ_eq_append_getElem, List.take_of_length_le])) ?_
    refine E.loop (κ := Nat × Option Addr × Nat × Nat) (fun h => h.1 ≤ q_Head.length ∧ True) (fun h => [(1, .slice a_l l.length c_l), (2, .pointer (some ⟨b2, 0, none⟩)), (5, .slice aA0_0 (tupF q_Head (l.take g)).length cA0_0), (6, .int .i64 (↑g : Int)), (7, .slice h.2.1 h.2.2.1 h.2.2.2), (8, .int .i64 (↑h.1 : Int))]) (fun h => [ow eIs [.slice h.2.1 h.2.2.1 h.2.2.2] ((q_Head.take h.1).map (valO l[g])), ow eIss [.slice aA0_0 (tupF q_Head (l.take g)).length cA0_0] (tupF q_Head (l.take g)), pt b2 31 [.slice a_q_Head q_Head.length c_q_Head, .slice a_q_Atoms q_Atoms.length c_q_Atoms]]) (fun h => q_Head.length - h.1) (0, (some ⟨b16, 0, none⟩), 0, 0) ⟨Nat.zero_le _, by simp⟩ ⟨rfl, rfl, rfl, rfl, rfl, rfl, trivial⟩ (.refl _) (fun h ph => ?_)
    obtain ⟨h, aA1_0, mA1_0, cA1_0⟩ := h
    try dsimp only at ph
    show Ent _ _ _ [(1, .slice a_l l.length c_l), (2, .pointer (some ⟨b2, 0, none⟩)), (5, .slice aA0_0 (tupF q_Head (l.take g)).length cA0_0), (6, .int .i64 (↑g : Int)), (7, .slice aA1_0 mA1_0 cA1_0), (8, .int .i64 (↑h : Int))] [ow eIs [.slice aA1_0 mA1_0 cA1_0] ((q_Head.take h).map (valO l[g])), ow eIss [.slice aA0_0 (tupF q_Head (l.take g)).length cA0_0] (tupF q_Head (l.take g)), pt b2 31 [.slice a_q_Head q_Head.length c_q_Head, .slice a_q_Atoms q_Atoms.length c_q_Atoms]] _
    obtain ⟨pk, pa⟩ := ph
    refine Ent.lenow m0 fun eaA1_0 laA1_0 => ?_
    subst eaA1_0
    refine E.seq (E.seq (E.region (l := [0, 1, 2, 3, 4]) rfl (E.y rfl rfl (by decide) ((Y.mv rfl).yd) ?_)))
    refine E.y rfl rfl (by decide) ((Y.fld fo_Query_0 ty_Is (by decide) rfl).yd) ?_
    refine E.y rfl rfl (by decide) (Y.ld1 ty_Is rfl ((Has.pt (mS (mS m0))).sub (cs' := [_]) 0 rfl) rfl) ?_
    refine E.y rfl rfl (by decide) ((Y.len us_Is rfl).yd) ?_
    refine E.y rfl rfl (by decide) ((Y.lss rfl rfl).yd) (Ent.d (fun q21 => ?_) (fun q21 => ?_))
    · have jx := valO_i64 (b := l[g]) (jw q_Head[h] (List.getElem_mem (by omega))) (jv l[g] (List.getElem_mem (by omega))).2
      refine E.nil (E.thn (E.ct rfl (E.skipc (E.thn (E.seq (E.block (D.region (fun j => !(Nat.beq j 12)) mixed (D.yp 0 rfl rfl (by decide) (Y.mv rfl) (by kernel_rfl) ?_))))))))
      refine D.yp 1 rfl rfl (by decide) (Y.mv rfl) (by kernel_rfl) ?_
      refine D.yp 2 rfl rfl (by decide) (Y.mv rfl) (by kernel_rfl) ?_
      obtain ⟨eb27, eo27, ec27, ea27, er27, el27, eh27⟩ := hl.elem g (by omega)
      obtain ⟨xa27_0, xc27_0, xa27_1, xc27_1, rfl, xh27_0, xh27_1⟩ := Ro.pBinding er27
      have := xh27_0.slen.2
      have := xh27_1.slen.2
      refine D.yp 3 rfl rfl (by decide) (Y.ix us_Bindings ty_Binding rfl ea27 rfl g rfl (by omega)) (by kernel_rfl) ?_
      refine D.y 4 rfl rfl (by decide) (Y.ldS (cs := [_, _]) ty_Binding rfl (eh27 _) rfl) (by kernel_rfl) ?_
      refine D.yp 5 rfl rfl (by decide) (Y.fld fo_Query_0 ty_Is (by decide) rfl) (by kernel_rfl) ?_
      refine D.y 6 rfl rfl (by decide) (Y.ld1 ty_Is rfl ((Has.pt (mS (mS m0))).sub (cs' := [_]) 0 rfl) rfl) (by kernel_rfl) ?_
      refine D.yp 7 rfl rfl (by decide) (Y.mv rfl) (by kernel_rfl) ?_
      obtain ⟨eb32, eo32, ea32, ei32, eh32⟩ := hq_Head.elemI h (by omega)
      refine D.yp 8 rfl rfl (by decide) (Y.ix us_Is ty_I rfl ea32 rfl h rfl (by omega)) (by kernel_rfl) ?_
      refine D.y 9 rfl rfl (by decide) (Y.ld1 ty_I rfl (eh32 _) rfl) (by kernel_rfl) ?_
      refine D.st 10 rfl rfl (by kernel_rfl) (fun _ => rfl) (N.call0 t_spec_ValueOf rfl rfl rfl (by decide) (fun w Lp hA => ⟨hA.ro xh27_0, hA.ro xh27_1⟩)) (fun _ _ => ?_)
      refine D.st 11 rfl rfl (by kernel_rfl) (fun _ => rfl) (N.bsl (pvs := [_]) (cs := [_]) us_Is ty_I rfl (by decide) (by decide) (fillZ rfl rfl) rfl (by decide)) (fun b35 _ => ?_)
      refine Ent.p1 ?_
      refine D.st 12 rfl rfl (by kernel_rfl) (fun h => by cases h) (N.push (E := Enc.int) (ex := valO l[g] q_Head[h]) us_Is ty_I rfl rfl rfl (Own.int (by first | assumption | (unfold I64; (try dsimp only); omega) | grind)) rfl (by first | omega | (simp only [List.length_map, List.length_take, List.length_append, List.length_drop, List.length_cons, List.length_nil]; omega)) (by first | omega | (simp only [List.length_map, List.length_take, List.length_append, List.length_drop, List.length_cons, List.length_nil]; omega)) (by decide)) (fun p36 _ => ?_)
      refine D.yp 13 rfl rfl (by decide) (Y.as rfl) (by kernel_rfl) ?_
      refine D.done (by kernel_rfl) (E.bln (E.thn (E.region (l := [0, 1, 2]) rfl (E.y rfl rfl (by decide) ((Y.mv rfl).yd) ?_))))
      refine E.y rfl rfl (by decide) ((Y.add rfl rfl (by omega) (by omega)).yd) ?_
      refine E.y rfl rfl (by decide) ((Y.as rfl).yd) ?_
      refine E.nil (E.thn (Ent.cv (congrArg (ow eIs [_]) (show ((q_Head.take h).map (valO l[g])) ++ [valO l[g] q_Head[h]] = (q_Head.take (h + 1)).map (valO l[g]) from by grind [tup_nil, tup_snoc, List.drop_eq_getElem_cons, List.drop_eq_nil_of_le, List.take_succ_eq_append_getElem, List.take_of_length_le])) ?_))
      refine Ent.p2 ?_
      refine Ent.p2 ?_
      refine Ent.p2 ?_
      exact E.again (Back.refl _ _) (h + 1, p36.1, (((q_Head.take h).map (valO l[g])).length + 1), p36.2) ⟨rfl, rfl, rfl, rfl, rfl, rfl, trivial⟩ (.refl _) ⟨(show h + 1 ≤ q_Head.length from by omega), (show True from by grind [List.drop_eq_getElem_cons, List.drop_eq_nil_of_le, List.take_succ_eq_append_getElem, List.take_of_length_le])⟩ (show q_Head.length - (h + 1) < q_Head.length - h from by omega)
    · refine E.nil (E.thn (E.cf rfl (E.exit (E.the (E.the (E.blh (E.thn (E.region (l := [0, 1, 2, 3]) rfl (E.y rfl rfl (by decide) ((Y.mv rfl).yd) ?_)))))))))
      refine E.y rfl rfl (by decide) ((Y.mv rfl).yd) ?_
      refine E.st rfl rfl (N.call (t_spec_AddTuple (by first | omega | assumption | (simp; omega)) (fun x hx => Nat.le_trans (je x hx) hqh) (by first | omega | assumption | (simp; omega))) rfl rfl rfl (by decide) rfl (fun w Lp hA => ⟨hA.ow (mS m0), hA.ow m0⟩)) (fun k39 _ => ?_)
      obtain ⟨a39, m39, c39⟩ := k39
      refine Ent.lenow m0 fun e39 l39 => ?_
      subst e39
      refine E.y rfl rfl (by decide) ((Y.as rfl).yd) ?_
      refine E.nil (E.bln (E.thn (E.region (l := [0, 1, 2]) rfl (E.y rfl rfl (by decide) ((Y.mv rfl).yd) ?_))))
      refine E.y rfl rfl (by decide) ((Y.add rfl rfl (by omega) (by omega)).yd) ?_
      refine E.y rfl rfl (by decide) ((Y.as rfl).yd) ?_
      refine E.nil (E.thn (Ent.p1 ?_))
      refine Ent.drop ?_
      refine Ent.p1 ?_
      refine Ent.drop ?_
      refine Ent.cv (congrArg (ow eIss [_]) (show addT (tupF q_Head (l.take g)) ((q_Head.take h).map (valO l[g])) = tupF q_Head (l.take (g + 1)) from by grind [tup_nil, tup_snoc, List.drop_eq_getElem_cons, List.drop_eq_nil_of_le, List.take_succ_eq_append_getElem, List.take_of_length_le])) ?_
      refine Ent.p1 ?_
      refine Ent.p1 ?_
      exact E.again (Back.refl _ _) (g + 1, a39, (addT (tupF q_Head (l.take g)) ((q_Head.take h).map (valO l[g]))).length, c39) ⟨rfl, rfl, rfl, rfl, trivial⟩ (.refl _) ⟨(show g + 1 ≤ l.length from by omega), (show True from by grind [List.drop_eq_getElem_cons, List.drop_eq_nil_of_le, List.take_succ_eq_append_getElem, List.take_of_length_le])⟩ (show l.length - (g + 1) < l.length - g from by omega)
  · refine E.nil (E.thn (E.cf rfl (E.exit (E.the (E.the (E.blh (E.thn (E.seq (E.region (l := [0, 1]) rfl (E.y rfl rfl (by decide) ((Y.mv rfl).yd) ?_))))))))))
    refine E.y rfl rfl (by decide) ((Y.as rfl).yd) ?_
    refine E.nil (E.thn (E.ret (Ent.cv (congrArg (ow eIss [_]) (show _ = tupF q_Head l by grind [tup_nil, tup_snoc, List.drop_eq_getElem_cons, List.drop_eq_nil_of_le, List.take_succ_eq_append_getElem, List.take_of_length_le])) ?_)))
    exact F.r1 (Back.refl _ _) rfl rfl (_, _, _) trivial rfl (J := _) (.refl _) (.inl rfl)
theorem t_impl_answers {a_q_Head : Option Addr} {m_q_Head c_q_Head : Nat} {q_Head : List Int} {a_q_Atoms : Option Addr} {m_q_Atoms c_q_Atoms : Nat} {q_Atoms : List (Int × List Int)} {a_facts : Option Addr} {m_facts c_facts : Nat} {facts : List (Int × List Int)} (hqa : q_Atoms.length ≤ 4) (hqt : ∀ a ∈ q_Atoms, a.2.length ≤ 3) (hf : facts.length ≤ 24) (hqh : q_Head.length ≤ 3) : Tr Tryz.prog 73 [.agg #[.slice a_q_Head m_q_Head c_q_Head, .slice a_q_Atoms m_q_Atoms c_q_Atoms], .slice a_facts m_facts c_facts] (fun w L => Ro w L eIs [.slice a_q_Head m_q_Head c_q_Head] q_Head ∧ Ro w L eAtoms [.slice a_q_Atoms m_q_Atoms c_q_Atoms] q_Atoms ∧ Ro w L eFacts [.slice a_facts m_facts c_facts] facts) [] (κ := Option Addr × Nat × Nat) (fun k => True) (fun k => .slice k.1 k.2.1 k.2.2) (fun k => [ow eIss [.slice k.1 k.2.1 k.2.2] (tupF q_Head (bindsF q_Atoms facts))]) := by
  refine Tr.intro Tryz.func73 rfl (n := 10) rfl (by decide +kernel) (Nat.le_of_ble_eq_true rfl) (fr := [(0, .agg #[.slice a_q_Head m_q_Head c_q_Head, .slice a_q_Atoms m_q_Atoms c_q_Atoms]), (1, .slice a_facts m_facts c_facts)]) rfl fun w L hR => ?_
  obtain ⟨hq_Head, hq_Atoms, hfacts⟩ := hR
  obtain ⟨rfl, lq_Head⟩ := hq_Head.slen
  obtain ⟨rfl, lq_Atoms⟩ := hq_Atoms.slen
  obtain ⟨rfl, lfacts⟩ := hfacts.slen
  have jb := binds_lt (facts := facts) hf hqa hqt
  refine E.seq (E.region (l := [0, 1]) rfl (E.st rfl rfl (N.box (cs := [_, _]) rfl (by decide) rfl) (fun b2 _ => ?_)))
  refine E.y rfl rfl (by decide) ((Y.as rfl).yd) ?_
  refine E.nil (E.thn (E.seq (D.region (fun j => true) mixed (D.y 0 rfl rfl (by decide) (Y.ldS (cs := [_, _]) ty_Query rfl (Has.pt m0) rfl) (by kernel_rfl) ?_))))
  refine D.y 1 rfl rfl (by decide) (Y.ldS (cs := [_, _]) ty_Query rfl (Has.pt m0) rfl) (by kernel_rfl) ?_
  refine D.yp 2 rfl rfl (by decide) (Y.mv rfl) (by kernel_rfl) ?_
  refine D.st 3 rfl rfl (by kernel_rfl) (fun _ => rfl) (N.call (t_impl_BindingsOf (by first | omega | assumption | (constructor <;> omega)) (by first | omega | assumption | (constructor <;> omega)) (by first | omega | assumption | (constructor <;> omega))) rfl rfl rfl (by decide) rfl (fun w Lp hA => ⟨hA.ro hq_Head, hA.ro hq_Atoms, hA.ro hfacts⟩)) (fun k8 _ => ?_)
  obtain ⟨a8, m8, c8⟩ := k8
  refine Ent.lenow m0 fun e8 l8 => ?_
  subst e8
  refine D.st 4 rfl rfl (by kernel_rfl) (fun _ => rfl) (N.call (t_impl_tuplesOf (by first | omega | assumption | (constructor <;> omega)) (by first | omega | assumption | (constructor <;> omega))) rfl rfl rfl (by decide) rfl (fun w Lp hA => ⟨hA.ro hq_Head, hA.ro hq_Atoms, hA.ow m0⟩)) (fun k9 _ => ?_)
  obtain ⟨a9, m9, c9⟩ := k9
  refine Ent.lenow m0 fun e9 l9 => ?_
  subst e9
  refine D.yp 5 rfl rfl (by decide) (Y.as rfl) (by kernel_rfl) ?_
  exact D.done (by kernel_rfl) (E.thn (E.ret (F.r1 (Back.refl _ _) rfl rfl (_, _, _) trivial rfl (J := _) (.refl _) (.inl rfl))))
theorem t_impl_AnswersOf {a_s : Option Addr} {m_s c_s : Nat} {s : List Int} {a_q_Head : Option Addr} {m_q_Head c_q_Head : Nat} {q_Head : List Int} {a_q_Atoms : Option Addr} {m_q_Atoms c_q_Atoms : Nat} {q_Atoms : List (Int × List Int)} {a_facts : Option Addr} {m_facts c_facts : Nat} {facts : List (Int × List Int)} (hz : totL (fun x => x.2.length) q_Atoms ≤ 1048576) : Tr Tryz.prog 25 [.slice a_s m_s c_s, .agg #[.slice a_q_Head m_q_Head c_q_Head, .slice a_q_Atoms m_q_Atoms c_q_Atoms], .slice a_facts m_facts c_facts] (fun w L => Ro w L eIs [.slice a_s m_s c_s] s ∧ Ro w L eIs [.slice a_q_Head m_q_Head c_q_Head] q_Head ∧ Ro w L eAtoms [.slice a_q_Atoms m_q_Atoms c_q_Atoms] q_Atoms ∧ Ro w L eFacts [.slice a_facts m_facts c_facts] facts) [] (κ := Option Addr × Nat × Nat) (fun k => True) (fun k => .slice k.1 k.2.1 k.2.2) (fun k => [ow eIss [.slice k.1 k.2.1 k.2.2] (ansR s (q_Head, q_Atoms) facts)]) := by
  refine Tr.intro Tryz.func25 rfl (n := 20) rfl (by decide +kernel) (Nat.le_of_ble_eq_true rfl) (fr := [(0, .slice a_s m_s c_s), (1, .agg #[.slice a_q_Head m_q_Head c_q_Head, .slice a_q_Atoms m_q_Atoms c_q_Atoms]), (2, .slice a_facts m_facts c_facts)]) rfl fun w L hR => ?_
  obtain ⟨hs, hq_Head, hq_Atoms, hfacts⟩ := hR
  obtain ⟨rfl, ls⟩ := hs.slen
  obtain ⟨rfl, lq_Head⟩ := hq_Head.slen
  obtain ⟨rfl, lq_Atoms⟩ := hq_Atoms.slen
  obtain ⟨rfl, lfacts⟩ := hfacts.slen
  refine E.seq (E.region (l := [0, 1]) rfl (E.st rfl rfl (N.box (cs := [_, _]) rfl (by decide) rfl) (fun b4 _ => ?_)))
  refine E.y rfl rfl (by decide) ((Y.as rfl).yd) ?_
  refine E.nil (E.thn (E.seq (E.seq (E.region (l := [0, 1, 2, 3, 4, 5, 6, 7, 8, 9]) rfl (E.y rfl rfl (by decide) ((Y.mv rfl).yd) ?_)))))
  refine E.y rfl rfl (by decide) (Y.ldS (cs := [_, _]) ty_Query rfl (Has.pt m0) rfl) ?_
  refine E.st rfl rfl (N.call0 (t_impl_IsQuery ((by first | omega | assumption))) rfl rfl rfl (by decide) (fun w Lp hA => ⟨hA.ro hs, hA.ro hq_Head, hA.ro hq_Atoms⟩)) (fun _ _ => (Ent.b (fun q9 => ?_) (fun q9 => ?_)))
  · refine E.y rfl rfl (by decide) ((Y.not (b := true) rfl).yd) ?_
    refine E.y rfl rfl (by decide) ((Y.mv rfl).yd) ?_
    refine E.y rfl rfl (by decide) ((Y.mv rfl).yd) ?_
    refine E.y rfl rfl (by decide) ((Y.mv rfl).yd) ?_
    refine E.st rfl rfl (N.call0 t_impl_AreFacts rfl rfl rfl (by decide) (fun w Lp hA => ⟨hA.ro hs, hA.ro hfacts⟩)) (fun _ _ => (Ent.b (fun q14 => ?_) (fun q14 => ?_)))
    · refine E.y rfl rfl (by decide) ((Y.not (b := true) rfl).yd) ?_
      refine E.y rfl rfl (by decide) ((Y.pkf rfl rfl).yd) ?_
      refine E.nil (E.thn (E.cf rfl (E.skipc (E.thn (E.seq (E.region (l := [0, 1, 2, 3]) rfl (E.y rfl rfl (by decide) (Y.ldS (cs := [_, _]) ty_Query rfl (Has.pt m0) rfl) ?_)))))))
      refine E.y rfl rfl (by decide) ((Y.mv rfl).yd) ?_
      refine E.st rfl rfl (N.call (t_impl_answers ((okQuery_h (s := s) (q := (q_Head, q_Atoms)) (by assumption)).1) ((okQuery_h (s := s) (q := (q_Head, q_Atoms)) (by assumption)).2.2) ((okFacts_all (s := s) (by assumption)).1) ((Nat.le_trans (okQuery_h (s := s) (q := (q_Head, q_Atoms)) (by assumption)).2.1 (by decide)))) rfl rfl rfl (by decide) rfl (fun w Lp hA => ⟨hA.ro hq_Head, hA.ro hq_Atoms, hA.ro hfacts⟩)) (fun k19 _ => ?_)
      obtain ⟨a19, m19, c19⟩ := k19
      refine Ent.lenow m0 fun e19 l19 => ?_
      subst e19
      refine E.y rfl rfl (by decide) ((Y.as rfl).yd) ?_
      refine E.nil (E.thn (E.ret (Ent.cv (congrArg (ow eIss [_]) (show _ = ansR s (q_Head, q_Atoms) facts by grind [ansR, List.drop_eq_getElem_cons, List.drop_eq_nil_of_le, List.take_succ_eq_append_getElem, List.take_of_length_le])) ?_)))
      exact F.r1 (Back.refl _ _) rfl rfl (_, _, _) trivial rfl (J := _) (.refl _) (.inl rfl)
    · refine E.y rfl rfl (by decide) ((Y.not (b := false) rfl).yd) ?_
      refine E.y rfl rfl (by decide) ((Y.pkf rfl rfl).yd) ?_
      refine E.nil (E.thn (E.ct rfl (E.seq (E.region (l := [0]) rfl (E.y rfl rfl (by decide) ((Y.as rfl).yd) ?_)))))
      refine E.nil (E.thn (E.ret (E.thr (Ent.mkow (A := []) (Own.nil (E := eIs) (e := tIs) (a := none)) rfl ?_))))
      refine Ent.cv (congrArg (ow eIss [_]) (show _ = ansR s (q_Head, q_Atoms) facts by grind [ansR, List.drop_eq_getElem_cons, List.drop_eq_nil_of_le, List.take_succ_eq_append_getElem, List.take_of_length_le])) ?_
      exact F.r1 (Back.refl _ _) rfl rfl (none, 0, 0) trivial rfl (J := _) (.refl _) (.inl rfl)
  · refine E.y rfl rfl (by decide) ((Y.not (b := false) rfl).yd) ?_
    refine E.y rfl rfl (by decide) ((Y.mv rfl).yd) ?_
    refine E.skip rfl rfl rfl ?_
    refine E.skip rfl rfl rfl ?_
    refine E.skip rfl rfl rfl ?_
    refine E.skip rfl rfl rfl ?_
    refine E.y rfl rfl (by decide) ((Y.pkt rfl rfl).yd) ?_
    refine E.nil (E.thn (E.ct rfl (E.seq (E.region (l := [0]) rfl (E.y rfl rfl (by decide) ((Y.as rfl).yd) ?_)))))
    refine E.nil (E.thn (E.ret (E.thr (Ent.mkow (A := []) (Own.nil (E := eIs) (e := tIs) (a := none)) rfl ?_))))
    refine Ent.cv (congrArg (ow eIss [_]) (show _ = ansR s (q_Head, q_Atoms) facts by grind [ansR, List.drop_eq_getElem_cons, List.drop_eq_nil_of_le, List.take_succ_eq_append_getElem, List.take_of_length_le])) ?_
    exact F.r1 (Back.refl _ _) rfl rfl (none, 0, 0) trivial rfl (J := _) (.refl _) (.inl rfl)
theorem t_spec_AnswersOf {a_s : Option Addr} {m_s c_s : Nat} {s : List Int} {a_q_Head : Option Addr} {m_q_Head c_q_Head : Nat} {q_Head : List Int} {a_q_Atoms : Option Addr} {m_q_Atoms c_q_Atoms : Nat} {q_Atoms : List (Int × List Int)} {a_facts : Option Addr} {m_facts c_facts : Nat} {facts : List (Int × List Int)} (hz : totL (fun x => x.2.length) q_Atoms ≤ 1048576) : Tr Tryz.prog 23 [.slice a_s m_s c_s, .agg #[.slice a_q_Head m_q_Head c_q_Head, .slice a_q_Atoms m_q_Atoms c_q_Atoms], .slice a_facts m_facts c_facts] (fun w L => Ro w L eIs [.slice a_s m_s c_s] s ∧ Ro w L eIs [.slice a_q_Head m_q_Head c_q_Head] q_Head ∧ Ro w L eAtoms [.slice a_q_Atoms m_q_Atoms c_q_Atoms] q_Atoms ∧ Ro w L eFacts [.slice a_facts m_facts c_facts] facts) [] (κ := Option Addr × Nat × Nat) (fun k => True) (fun k => .slice k.1 k.2.1 k.2.2) (fun k => [ow eIss [.slice k.1 k.2.1 k.2.2] (ansR s (q_Head, q_Atoms) facts)]) := by
  refine Tr.intro Tryz.func23 rfl (n := 23) rfl (by decide +kernel) (Nat.le_of_ble_eq_true rfl) (fr := [(0, .slice a_s m_s c_s), (1, .agg #[.slice a_q_Head m_q_Head c_q_Head, .slice a_q_Atoms m_q_Atoms c_q_Atoms]), (2, .slice a_facts m_facts c_facts)]) rfl fun w L hR => ?_
  obtain ⟨hs, hq_Head, hq_Atoms, hfacts⟩ := hR
  obtain ⟨rfl, ls⟩ := hs.slen
  obtain ⟨rfl, lq_Head⟩ := hq_Head.slen
  obtain ⟨rfl, lq_Atoms⟩ := hq_Atoms.slen
  obtain ⟨rfl, lfacts⟩ := hfacts.slen
  refine E.seq (E.region (l := [0, 1]) rfl (E.st rfl rfl (N.box (cs := [_, _]) rfl (by decide) rfl) (fun b4 _ => ?_)))
  refine E.y rfl rfl (by decide) ((Y.as rfl).yd) ?_
  refine E.nil (E.thn (E.seq (E.seq (E.region (l := [0, 1, 2, 3, 4, 5, 6, 7, 8, 9]) rfl (E.y rfl rfl (by decide) ((Y.mv rfl).yd) ?_)))))
  refine E.y rfl rfl (by decide) (Y.ldS (cs := [_, _]) ty_Query rfl (Has.pt m0) rfl) ?_
  refine E.st rfl rfl (N.call0 (t_spec_IsQuery ((by first | omega | assumption))) rfl rfl rfl (by decide) (fun w Lp hA => ⟨hA.ro hs, hA.ro hq_Head, hA.ro hq_Atoms⟩)) (fun _ _ => (Ent.b (fun q9 => ?_) (fun q9 => ?_)))
  · refine E.y rfl rfl (by decide) ((Y.not (b := true) rfl).yd) ?_
    refine E.y rfl rfl (by decide) ((Y.mv rfl).yd) ?_
    refine E.y rfl rfl (by decide) ((Y.mv rfl).yd) ?_
    refine E.y rfl rfl (by decide) ((Y.mv rfl).yd) ?_
    refine E.st rfl rfl (N.call0 t_spec_AreFacts rfl rfl rfl (by decide) (fun w Lp hA => ⟨hA.ro hs, hA.ro hfacts⟩)) (fun _ _ => (Ent.b (fun q14 => ?_) (fun q14 => ?_)))
    · refine E.y rfl rfl (by decide) ((Y.not (b := true) rfl).yd) ?_
      refine E.y rfl rfl (by decide) ((Y.pkf rfl rfl).yd) ?_
      refine E.nil (E.thn (E.cf rfl (E.skipc (E.thn (E.seq (D.region (fun j => true) mixed (D.y 0 rfl rfl (by decide) (Y.ldS (cs := [_, _]) ty_Query rfl (Has.pt m0) rfl) (by kernel_rfl) ?_)))))))
      refine D.y 1 rfl rfl (by decide) (Y.ldS (cs := [_, _]) ty_Query rfl (Has.pt m0) rfl) (by kernel_rfl) ?_
      refine D.yp 2 rfl rfl (by decide) (Y.mv rfl) (by kernel_rfl) ?_
      refine D.st 3 rfl rfl (by kernel_rfl) (fun _ => rfl) (N.call (t_spec_BindingsOf ((okQuery_h (s := s) (q := (q_Head, q_Atoms)) (by assumption)).1) ((okQuery_h (s := s) (q := (q_Head, q_Atoms)) (by assumption)).2.2) ((okFacts_all (s := s) (by assumption)).1)) rfl rfl rfl (by decide) rfl (fun w Lp hA => ⟨hA.ro hq_Head, hA.ro hq_Atoms, hA.ro hfacts⟩)) (fun k21 _ => ?_)
      obtain ⟨a21, m21, c21⟩ := k21
      refine Ent.lenow m0 fun e21 l21 => ?_
      subst e21
      refine D.st 4 rfl rfl (by kernel_rfl) (fun _ => rfl) (N.call (t_spec_l4Tuples ((Nat.le_trans (okQuery_h (s := s) (q := (q_Head, q_Atoms)) (by assumption)).2.1 (by decide))) ((Nat.le_trans (binds_lt (facts := facts) (okFacts_all (s := s) (by assumption)).1 (okQuery_h (s := s) (q := (q_Head, q_Atoms)) (by assumption)).1 (okQuery_h (s := s) (q := (q_Head, q_Atoms)) (by assumption)).2.2).1 (by decide)))) rfl rfl rfl (by decide) rfl (fun w Lp hA => ⟨hA.ro hq_Head, hA.ro hq_Atoms, hA.ow m0⟩)) (fun k22 _ => ?_)
      obtain ⟨a22, m22, c22⟩ := k22
      refine Ent.lenow m0 fun e22 l22 => ?_
      subst e22
      refine D.yp 5 rfl rfl (by decide) (Y.as rfl) (by kernel_rfl) ?_
      refine D.done (by kernel_rfl) (E.thn (E.ret (Ent.cv (congrArg (ow eIss [_]) (show _ = ansR s (q_Head, q_Atoms) facts by grind [ansR, List.drop_eq_getElem_cons, List.drop_eq_nil_of_le, List.take_succ_eq_append_getElem, List.take_of_length_le])) ?_)))
      exact F.r1 (Back.refl _ _) rfl rfl (_, _, _) trivial rfl (J := _) (.refl _) (.inl rfl)
    · refine E.y rfl rfl (by decide) ((Y.not (b := false) rfl).yd) ?_
      refine E.y rfl rfl (by decide) ((Y.pkf rfl rfl).yd) ?_
      refine E.nil (E.thn (E.ct rfl (E.seq (E.region (l := [0, 1]) rfl (E.st rfl rfl (N.bsl (pvs := []) (cs := []) us_Iss ty_Is rfl (by decide) (by decide) (fillZ rfl rfl) rfl (by decide)) (fun b17 _ => ?_))))))
      refine Ent.drop ?_
      refine E.y rfl rfl (by decide) ((Y.as rfl).yd) ?_
      refine E.nil (E.thn (E.ret (E.thr (Ent.mkow (A := []) (Own.nil (E := eIs) (e := tIs) (a := (some ⟨b17, 0, none⟩))) rfl ?_))))
      refine Ent.cv (congrArg (ow eIss [_]) (show _ = ansR s (q_Head, q_Atoms) facts by grind [ansR, List.drop_eq_getElem_cons, List.drop_eq_nil_of_le, List.take_succ_eq_append_getElem, List.take_of_length_le])) ?_
      exact F.r1 (Back.refl _ _) rfl rfl ((some ⟨b17, 0, none⟩), 0, 0) trivial rfl (J := _) (.refl _) (.inl rfl)
  · refine E.y rfl rfl (by decide) ((Y.not (b := false) rfl).yd) ?_
    refine E.y rfl rfl (by decide) ((Y.mv rfl).yd) ?_
    refine E.skip rfl rfl rfl ?_
    refine E.skip rfl rfl rfl ?_
    refine E.skip rfl rfl rfl ?_
    refine E.skip rfl rfl rfl ?_
    refine E.y rfl rfl (by decide) ((Y.pkt rfl rfl).yd) ?_
    refine E.nil (E.thn (E.ct rfl (E.seq (E.region (l := [0, 1]) rfl (E.st rfl rfl (N.bsl (pvs := []) (cs := []) us_Iss ty_Is rfl (by decide) (by decide) (fillZ rfl rfl) rfl (by decide)) (fun b17 _ => ?_))))))
    refine Ent.drop ?_
    refine E.y rfl rfl (by decide) ((Y.as rfl).yd) ?_
    refine E.nil (E.thn (E.ret (E.thr (Ent.mkow (A := []) (Own.nil (E := eIs) (e := tIs) (a := (some ⟨b17, 0, none⟩))) rfl ?_))))
    refine Ent.cv (congrArg (ow eIss [_]) (show _ = ansR s (q_Head, q_Atoms) facts by grind [ansR, List.drop_eq_getElem_cons, List.drop_eq_nil_of_le, List.take_succ_eq_append_getElem, List.take_of_length_le])) ?_
    exact F.r1 (Back.refl _ _) rfl rfl ((some ⟨b17, 0, none⟩), 0, 0) trivial rfl (J := _) (.refl _) (.inl rfl)
theorem t_laws_markIntSS {a_a : Option Addr} {m_a c_a : Nat} {a : List (List Int)} {v : Int} : Tr Tryz.prog 31 [.slice a_a m_a c_a, .int .i64 v] (fun w L => 0 ≤ v ∧ v + ((totS cE_Is a : Nat) : Int) ≤ 4611686018427387904) [ow eIss [.slice a_a m_a c_a] a] (κ := Unit) (fun k => True) (fun k => .int .i64 (v + (totS cE_Is a : Nat))) (fun k => [ow eIss [.slice a_a m_a c_a] (mkL cE_Is mE_Is a v)]) := by
  refine Tr.intro Tryz.func31 rfl (n := 19) rfl (by decide +kernel) (Nat.le_of_ble_eq_true rfl) (fr := [(0, .slice a_a m_a c_a), (1, .int .i64 v)]) rfl fun w L hR => ?_
  obtain ⟨as0, as1⟩ := hR
  refine Ent.lenow m0 fun ea la => ?_
  subst ea
  refine E.seq (E.region (l := [0]) rfl (E.y rfl rfl (by decide) ((Y.as rfl).yd) ?_))
  refine E.nil (E.thn (E.seq (E.seq (E.region (l := [0]) rfl (E.y rfl rfl (by decide) ((Y.as rfl).yd) ?_)))))
  refine E.nil (E.thn (E.block (E.loop (κ := Nat) (fun g => g ≤ a.length) (fun g => [(0, .slice a_a a.length c_a), (1, .int .i64 (v + (totS cE_Is (a.take g) : Nat))), (5, .int .i64 (↑g : Int))]) (fun g => [ow eIss [.slice a_a a.length c_a] (mkL cE_Is mE_Is (a.take g) v ++ a.drop g)]) (fun g => a.length - g) 0 (Nat.zero_le _) ⟨rfl, frI (by simp [totS]), rfl, trivial⟩ (.refl _) (fun g pg => ?_))))
  have u1 := totS_le (t := cE_Is) (l := a) (g := g)
  have u2 := totS_le (t := cE_Is) (l := a) (g := g + 1)
  have hlen : (mkL cE_Is mE_Is (a.take g) v ++ a.drop g).length = a.length := by rw [List.length_append, mkL_len, ← List.length_append, List.take_append_drop]
  refine E.seq (E.seq (E.region (l := [0, 1, 2, 3]) rfl (E.y rfl rfl (by decide) ((Y.mv rfl).yd) ?_)))
  refine E.y rfl rfl (by decide) ((Y.mv rfl).yd) ?_
  refine E.y rfl rfl (by decide) ((Y.len us_Iss rfl).yd) ?_
  refine E.y rfl rfl (by decide) ((Y.lss rfl rfl).yd) (Ent.d (fun q9 => ?_) (fun q9 => ?_))
  · have u3 := totS_step (t := cE_Is) (show g < a.length by omega)
    have u4 : cE_Is a[g] = totS cE_I a[g] := rfl
    refine E.nil (E.thn (E.ct rfl (E.skipc (E.thn (E.seq (E.block (E.region (l := [0, 1, 2, 3, 4, 5, 6]) rfl (E.y rfl rfl (by decide) ((Y.mv rfl).yd) ?_))))))))
    refine E.y rfl rfl (by decide) ((Y.mv rfl).yd) ?_
    refine Ent.adr m0 (by omega) fun ab14 ae14 => ?_
    refine Ent.open (x := a[g]) g (mk_get (show g < a.length by omega)) fun ce14 => ?_
    refine Ent.p1 ?_
    refine Ent.osl fun oa14_0 om14_0 oc14_0 oe14 on14_0 => ?_
    subst oe14
    subst on14_0
    refine E.y rfl rfl (by decide) ((Y.ix us_Iss ty_Is rfl ae14 rfl g rfl (by omega)).yd) ?_
    refine E.y rfl rfl (by decide) (Y.ld1 ty_Is rfl (Has.hole ae14 (mS m0)) rfl) ?_
    refine E.y rfl rfl (by decide) ((Y.mv rfl).yd) ?_
    refine E.st rfl rfl (N.call (pre := [_]) t_laws_markIntS rfl rfl rfl (by decide) rfl (fun w Lp hA => ⟨(by first | assumption | omega), (by first | assumption | omega)⟩)) (fun _ _ => ?_)
    refine E.y rfl rfl (by decide) ((Y.as rfl).yd) ?_
    refine E.nil (E.bln (E.thn (E.region (l := [0, 1, 2]) rfl (E.y rfl rfl (by decide) ((Y.mv rfl).yd) ?_))))
    refine E.y rfl rfl (by decide) ((Y.add rfl rfl (by omega) (by omega)).yd) ?_
    refine E.y rfl rfl (by decide) ((Y.as rfl).yd) ?_
    refine E.nil (E.thn (Ent.p1 ?_))
    refine Ent.shut Own.ow rfl ?_
    exact E.again (Back.refl _ _) (g + 1) ⟨rfl, frI (by omega), rfl, trivial⟩ (permOw (mk_set (c := cE_Is) (m := mE_Is) (show g < a.length by omega) rfl)) (by omega) (by omega)
  · refine E.nil (E.thn (E.cf rfl (E.exit (E.the (E.the (E.blh (E.thn (E.seq (E.region (l := [0, 1]) rfl (E.y rfl rfl (by decide) ((Y.mv rfl).yd) ?_))))))))))
    refine E.y rfl rfl (by decide) ((Y.as rfl).yd) ?_
    refine E.nil (E.thn (E.ret (Ent.cv (congrArg (ow eIss [_]) (show mkL cE_Is mE_Is (a.take g) v ++ a.drop g = mkL cE_Is mE_Is a v from by first | exact mk_all (by omega) | (rw [totS_all (by omega)]))) ?_)))
    exact F.r1 (Back.refl _ _) rfl rfl () trivial (by rw [show (v + (totS cE_Is a : Nat)) = (v + (totS cE_Is (a.take g) : Nat)) from (by first | exact mk_all (by omega) | (rw [totS_all (by omega)]))]; try rfl) (J := _) (.refl _) (.inl rfl)
theorem t_laws_heldIntSS {a_a : Option Addr} {m_a c_a : Nat} {a : List (List Int)} {v : Int} (hz : mkL cE_Is mE_Is a v = a) : Tr Tryz.prog 32 [.slice a_a m_a c_a, .int .i64 v] (fun w L => Ro w L eIss [.slice a_a m_a c_a] a ∧ 0 ≤ v ∧ v + ((totS cE_Is a : Nat) : Int) ≤ 4611686018427387904) [] (κ := Unit) (fun k => True) (fun k => .int .i64 (v + (totS cE_Is a : Nat))) (fun k => []) := by
  refine Tr.intro Tryz.func32 rfl (n := 21) rfl (by decide +kernel) (Nat.le_of_ble_eq_true rfl) (fr := [(0, .slice a_a m_a c_a), (1, .int .i64 v)]) rfl fun w L hR => ?_
  obtain ⟨ha, as0, as1⟩ := hR
  obtain ⟨rfl, la⟩ := ha.slen
  refine E.seq (E.region (l := [0]) rfl (E.y rfl rfl (by decide) ((Y.as rfl).yd) ?_))
  refine E.nil (E.thn (E.seq (E.seq (E.region (l := [0]) rfl (E.y rfl rfl (by decide) ((Y.as rfl).yd) ?_)))))
  refine E.nil (E.thn (E.block (E.loop (κ := Nat) (fun g => g ≤ a.length) (fun g => [(0, .slice a_a a.length c_a), (1, .int .i64 (v + (totS cE_Is (a.take g) : Nat))), (5, .int .i64 (↑g : Int))]) (fun g => []) (fun g => a.length - g) 0 (Nat.zero_le _) ⟨rfl, frI (by simp [totS]), rfl, trivial⟩ (.refl _) (fun g pg => ?_))))
  have u1 := totS_le (t := cE_Is) (l := a) (g := g)
  have u2 := totS_le (t := cE_Is) (l := a) (g := g + 1)
  refine E.seq (E.seq (E.region (l := [0, 1, 2, 3]) rfl (E.y rfl rfl (by decide) ((Y.mv rfl).yd) ?_)))
  refine E.y rfl rfl (by decide) ((Y.mv rfl).yd) ?_
  refine E.y rfl rfl (by decide) ((Y.len us_Iss rfl).yd) ?_
  refine E.y rfl rfl (by decide) ((Y.lss rfl rfl).yd) (Ent.d (fun q9 => ?_) (fun q9 => ?_))
  · have u3 := totS_step (t := cE_Is) (show g < a.length by omega)
    have u4 : cE_Is a[g] = totS cE_I a[g] := rfl
    refine E.nil (E.thn (E.ct rfl (E.skipc (E.thn (E.seq (E.block (E.seq (E.region (l := [0, 1, 2, 3, 4, 5, 6]) rfl (E.y rfl rfl (by decide) ((Y.mv rfl).yd) ?_)))))))))
    refine E.y rfl rfl (by decide) ((Y.mv rfl).yd) ?_
    obtain ⟨eb14, eo14, ec14, ea14, er14, el14, eh14⟩ := ha.elem g (by omega)
    obtain ⟨xa14, xc14, rfl⟩ := er14.sl
    have := er14.slen.2
    refine E.y rfl rfl (by decide) ((Y.ix us_Iss ty_Is rfl ea14 rfl g rfl (by omega)).yd) ?_
    refine E.y rfl rfl (by decide) (Y.ld1 ty_Is rfl (eh14 _) rfl) ?_
    refine E.y rfl rfl (by decide) ((Y.mv rfl).yd) ?_
    refine E.st rfl rfl (N.call0 (t_laws_heldIntS (mkL_at hz (show g < a.length by omega))) rfl rfl rfl (by decide) (fun w Lp hA => ⟨hA.ro er14, (by first | assumption | omega), (by first | assumption | omega)⟩)) (fun _ _ => ?_)
    refine E.y rfl rfl (by decide) ((Y.as rfl).yd) ?_
    refine E.nil (E.thn (E.seq (E.region (l := [0, 1]) rfl (E.y rfl rfl (by decide) ((Y.mv rfl).yd) ?_))))
    refine E.y rfl rfl (by decide) ((Y.lss rfl rfl).yd) (Ent.d (fun q19 => ?_) (fun q19 => ?_))
    · exact absurd q19 (by omega)
    · refine E.nil (E.thn (E.cf rfl (E.skipc (E.bln (E.thn (E.region (l := [0, 1, 2]) rfl (E.y rfl rfl (by decide) ((Y.mv rfl).yd) ?_)))))))
      refine E.y rfl rfl (by decide) ((Y.add rfl rfl (by omega) (by omega)).yd) ?_
      refine E.y rfl rfl (by decide) ((Y.as rfl).yd) ?_
      exact E.nil (E.thn (E.again (Back.refl _ _) (g + 1) ⟨rfl, frI (by omega), rfl, trivial⟩ (.refl _) (by omega) (by omega)))
  · refine E.nil (E.thn (E.cf rfl (E.exit (E.the (E.the (E.blh (E.thn (E.seq (E.region (l := [0, 1]) rfl (E.y rfl rfl (by decide) ((Y.mv rfl).yd) ?_))))))))))
    refine E.y rfl rfl (by decide) ((Y.as rfl).yd) ?_
    exact E.nil (E.thn (E.ret (F.r1 (Back.refl _ _) rfl rfl () trivial (congrArg (Value.int .i64) (by rw [totS_all (by omega)])) (J := _) (.refl _) (.inl rfl))))
theorem t_laws_eqIntSS {a_a : Option Addr} {m_a c_a : Nat} {a : List (List Int)} {a_b : Option Addr} {m_b c_b : Nat} {b : List (List Int)} : Tr Tryz.prog 26 [.slice a_a m_a c_a, .slice a_b m_b c_b] (fun w L => Ro w L eIss [.slice a_a m_a c_a] a ∧ Ro w L eIss [.slice a_b m_b c_b] b) [] (κ := Unit) (fun k => True) (fun k => .bool (decide (a = b))) (fun k => []) := by
  refine Tr.intro Tryz.func26 rfl (n := 27) rfl (by decide +kernel) (Nat.le_of_ble_eq_true rfl) (fr := [(0, .slice a_a m_a c_a), (1, .slice a_b m_b c_b)]) rfl fun w L hR => ?_
  obtain ⟨ha, hb⟩ := hR
  obtain ⟨rfl, la⟩ := ha.slen
  obtain ⟨rfl, lb⟩ := hb.slen
  refine E.seq (E.region (l := [0]) rfl (E.y rfl rfl (by decide) ((Y.as rfl).yd) ?_))
  refine E.nil (E.thn (E.seq (E.seq (E.region (l := [0, 1, 2, 3, 4]) rfl (E.y rfl rfl (by decide) ((Y.mv rfl).yd) ?_)))))
  refine E.y rfl rfl (by decide) ((Y.len us_Iss rfl).yd) ?_
  refine E.y rfl rfl (by decide) ((Y.mv rfl).yd) ?_
  refine E.y rfl rfl (by decide) ((Y.len us_Iss rfl).yd) ?_
  refine E.y rfl rfl (by decide) ((Y.neq rfl rfl).yd) (Ent.d (fun q10 => ?_) (fun q10 => ?_))
  · refine E.nil (E.thn (E.ct rfl (E.seq (E.region (l := [0]) rfl (E.y rfl rfl (by decide) ((Y.as rfl).yd) ?_)))))
    exact E.nil (E.thn (E.ret (E.thr (F.r1 (Back.refl _ _) rfl rfl () trivial (congrArg Value.bool (by exact ne_of_len q10)) (J := _) (.refl _) (.inl rfl)))))
  · refine E.nil (E.thn (E.cf rfl (E.skipc (E.thn (E.seq (E.seq (E.region (l := [0]) rfl (E.y rfl rfl (by decide) ((Y.as rfl).yd) ?_))))))))
    refine E.nil (E.thn (E.block (E.loop (κ := Nat) (fun g => g ≤ a.length ∧ a.take g = b.take g) (fun g => [(0, .slice a_a a.length c_a), (1, .slice a_b b.length c_b), (5, .int .i64 (↑g : Int))]) (fun g => []) (fun g => a.length - g) 0 ⟨by omega, by simp⟩ ⟨rfl, rfl, rfl, trivial⟩ (.refl _) (fun g pg => ?_))))
    obtain ⟨pk, pa⟩ := pg
    refine E.seq (E.seq (E.region (l := [0, 1, 2, 3]) rfl (E.y rfl rfl (by decide) ((Y.mv rfl).yd) ?_)))
    refine E.y rfl rfl (by decide) ((Y.mv rfl).yd) ?_
    refine E.y rfl rfl (by decide) ((Y.len us_Iss rfl).yd) ?_
    refine E.y rfl rfl (by decide) ((Y.lss rfl rfl).yd) (Ent.d (fun q14 => ?_) (fun q14 => ?_))
    · refine E.nil (E.thn (E.ct rfl (E.skipc (E.thn (E.seq (E.block (E.seq (D.region (fun j => true) mixed (D.yp 0 rfl rfl (by decide) (Y.mv rfl) (by kernel_rfl) ?_)))))))))
      refine D.yp 1 rfl rfl (by decide) (Y.mv rfl) (by kernel_rfl) ?_
      obtain ⟨eb19, eo19, ec19, ea19, er19, el19, eh19⟩ := ha.elem g (by omega)
      obtain ⟨xa19, xc19, rfl⟩ := er19.sl
      have := er19.slen.2
      refine D.yp 2 rfl rfl (by decide) (Y.ix us_Iss ty_Is rfl ea19 rfl g rfl (by omega)) (by kernel_rfl) ?_
      refine D.y 3 rfl rfl (by decide) (Y.ld1 ty_Is rfl (eh19 _) rfl) (by kernel_rfl) ?_
      refine D.yp 4 rfl rfl (by decide) (Y.mv rfl) (by kernel_rfl) ?_
      refine D.yp 5 rfl rfl (by decide) (Y.mv rfl) (by kernel_rfl) ?_
      obtain ⟨eb23, eo23, ec23, ea23, er23, el23, eh23⟩ := hb.elem g (by omega)
      obtain ⟨xa23, xc23, rfl⟩ := er23.sl
      have := er23.slen.2
      refine D.yp 6 rfl rfl (by decide) (Y.ix us_Iss ty_Is rfl ea23 rfl g rfl (by omega)) (by kernel_rfl) ?_
      refine D.y 7 rfl rfl (by decide) (Y.ld1 ty_Is rfl (eh23 _) rfl) (by kernel_rfl) ?_
      refine D.st 8 rfl rfl (by kernel_rfl) (fun _ => rfl) (N.call0 t_laws_eqIntS rfl rfl rfl (by decide) (fun w Lp hA => ⟨hA.ro er19, hA.ro er23⟩)) (fun _ _ => (Ent.b (fun q25 => ?_) (fun q25 => ?_)))
      · refine D.yp 9 rfl rfl (by decide) (Y.not (b := true) rfl) (by kernel_rfl) ?_
        refine D.done (by kernel_rfl) (E.thn (E.cf rfl (E.skipc (E.bln (E.thn (E.region (l := [0, 1, 2]) rfl (E.y rfl rfl (by decide) ((Y.mv rfl).yd) ?_)))))))
        refine E.y rfl rfl (by decide) ((Y.add rfl rfl (by omega) (by omega)).yd) ?_
        refine E.y rfl rfl (by decide) ((Y.as rfl).yd) ?_
        exact E.nil (E.thn (E.again (Back.refl _ _) (g + 1) ⟨rfl, rfl, rfl, trivial⟩ (.refl _) ⟨by omega, take_eq_step (by omega) (by omega) pa (of_decide_eq_true q25)⟩ (by omega)))
      · refine D.yp 9 rfl rfl (by decide) (Y.not (b := false) rfl) (by kernel_rfl) ?_
        refine D.done (by kernel_rfl) (E.thn (E.ct rfl (E.seq (E.region (l := [0]) rfl (E.y rfl rfl (by decide) ((Y.as rfl).yd) ?_)))))
        exact E.nil (E.thn (E.ret (E.blr (E.thr (E.thr (E.blr (E.thr (F.r1 (Back.refl _ _) rfl rfl () trivial (congrArg Value.bool (by exact ne_of_get (show g < a.length by omega) (show g < b.length by omega) (of_decide_eq_false q25))) (J := _) (.refl _) (.inl rfl)))))))))
    · refine E.nil (E.thn (E.cf rfl (E.exit (E.the (E.the (E.blh (E.thn (E.seq (E.region (l := [0]) rfl (E.y rfl rfl (by decide) ((Y.as rfl).yd) ?_))))))))))
      exact E.nil (E.thn (E.ret (F.r1 (Back.refl _ _) rfl rfl () trivial (congrArg Value.bool (by exact eq_of_take (show a.length ≤ g by omega) (show b.length ≤ g by omega) pa)) (J := _) (.refl _) (.inl rfl))))
end Go.Proofs.YtlcfbfbdnnoifaaGreat
