import Derived.Test.YtonkkkjgdohooaaGreatBs
import Derived.Test.YtonkkkjgdohooaaGreatT17
import Derived.Test.YtonkkkjgdohooaaGreatT20
import Derived.Test.YtonkkkjgdohooaaGreatT11
import Derived.Test.YtonkkkjgdohooaaGreatT14
import Derived.Test.YtonkkkjgdohooaaGreatT1
import Derived.Test.YtonkkkjgdohooaaGreatBc
import Derived.Test.YtonkkkjgdohooaaGreatT5
import Derived.Test.YtonkkkjgdohooaaGreatBd
import Derived.Test.YtonkkkjgdohooaaGreatDw
namespace Go.Proofs.YtonkkkjgdohooaaGreat
open Go.RowKit
set_option linter.unusedVariables false
set_option linter.unusedSimpArgs false
set_option maxHeartbeats 2000000
attribute [local irreducible] Nop Yd Yp Ent Has Tr FnP FnP2 Src listsF opnF opn1 opnR chainB
theorem t_IndexFunc_Is {a_s : Option Addr} {m_s c_s : Nat} {s : List (List Int)} {f_g : FuncId} {f_c : List Value} {D_f : (List Int) → Prop} {f : (List Int) → Bool} (hD_f : ∀ x ∈ s, D_f x) : Tr Tryz.prog 290 [.slice a_s m_s c_s, .func (.func f_g) #[] f_c.toArray] (fun w L => Ro w L eIss [.slice a_s m_s c_s] s ∧ FnP Tryz.prog w L f_g f_c eIs val1 D_f f) [] (κ := Unit) (fun k => True) (fun k => .int .i64 (idxP f s)) (fun k => []) := by
  refine Tr.intro Tryz.func290 rfl (n := 19) rfl (by decide +kernel) bl (fr := [(0, .slice a_s m_s c_s), (1, .func (.func f_g) #[] f_c.toArray)]) rfl fun w L hR => ?_
  obtain ⟨hs, hf⟩ := hR
  obtain ⟨rfl, ls⟩ := hs.slen
  refine Ew Z1 (Eas rfl rfl (Eu (Eq_ (Ew Z3 (Emv rfl rfl (Ey rfl ((Y.len us_Iss rfl).yd) (Emv rfl rfl (Eu (E.block (E.loop (κ := Nat) (fun g => g ≤ s.length ∧ ∀ x ∈ s.take g, f x = false) (fun g => [(0, .slice a_s s.length c_s), (1, .func (.func f_g) #[] f_c.toArray), (7, .int .i64 (↑s.length : Int)), (8, .int .i64 (g : Int))]) (fun g => []) (fun g => s.length - g) 0 ⟨by omega, by simp⟩ ⟨rfl, rfl, rfl, rfl, trivial⟩ (.refl _) (fun g pg => ?_)))))))))))
  obtain ⟨pk, pa⟩ := pg
  refine Ew Z1 (Ey rfl ((Y.lss rfl rfl).yd) (Ent.d (fun q9 => ?_) (fun q9 => ?_)))
  · refine Eu (Eq_ (E.ct rfl (E.skipc (Et (Eq_ (E.block (Ew Z2 (Emv rfl rfl (Eas rfl rfl (Ev Z6 (Emv rfl rfl (Emv rfl rfl (Emv rfl rfl ?_)))))))))))))
    obtain ⟨eb14, eo14, ec14, ea14, er14, el14, eh14⟩ := hs.elem g om
    obtain ⟨xa14, xc14, rfl⟩ := er14.sl
    have := er14.slen.2
    refine Ey rfl ((Y.ix us_Iss ty_Is rfl ea14 rfl g rfl om).yd) (Ey rfl (Y.ld1 ty_Is rfl (eh14 _) rfl) (Est rfl (N.fn (cs := [_]) hf rfl rfl rfl dc (fun w Lp hA => (hA.ro er14)) (hD_f _ (List.getElem_mem om))) (fun _ _ => (Ent.b (fun q16 => ?_) (fun q16 => ?_)))))
    · refine Eu (E.ct rfl (Ew Z2 (Emv rfl rfl (Eas rfl rfl ?_))))
      exact Eu (E.ret (E.blr (E.thr (E.thr (E.blr (E.thr (Fg rfl rfl () (congrArg (Value.int .i64) (by first | exact idxP_hit om pa q16 | exact idxP_miss om pa)) rfl)))))))
    · refine Eu (E.cf rfl (E.skipc (E.bln (Et (Ez Z2 (Ey rfl ((Y.add rfl rfl om om).yd) (Emv rfl rfl ?_)))))))
      exact Eu (E.again br (g + 1) ⟨rfl, rfl, rfl, rfl, trivial⟩ (.refl _) ⟨by omega, take_step om pa q16⟩ om)
  · refine Eu (Eq_ (E.cf rfl (E.exit (E.the (E.the (E.blh (Et (Ew Z1 (Eas rfl rfl ?_)))))))))
    exact Eu (E.ret (Fg rfl rfl () (congrArg (Value.int .i64) (by first | exact idxP_hit om pa q16 | exact idxP_miss om pa)) rfl))
theorem t_ContainsFunc_Is {a_s : Option Addr} {m_s c_s : Nat} {s : List (List Int)} {f_g : FuncId} {f_c : List Value} {D_f : (List Int) → Prop} {f : (List Int) → Bool} (hD_f : ∀ x ∈ s, D_f x) : Tr Tryz.prog 265 [.slice a_s m_s c_s, .func (.func f_g) #[] f_c.toArray] (fun w L => Ro w L eIss [.slice a_s m_s c_s] s ∧ FnP Tryz.prog w L f_g f_c eIs val1 D_f f) [] (κ := Unit) (fun k => True) (fun k => .bool (s.any f)) (fun k => []) := by
  refine Tr.intro Tryz.func265 rfl (n := 9) rfl (by decide +kernel) bl (fr := [(0, .slice a_s m_s c_s), (1, .func (.func f_g) #[] f_c.toArray)]) rfl fun w L hR => ?_
  obtain ⟨hs, hf⟩ := hR
  obtain ⟨rfl, ls⟩ := hs.slen
  refine Ew Z1 (Eas rfl rfl (Ev Z5 (Emv rfl rfl (Emv rfl rfl (Est rfl (N.call0 (t_IndexFunc_Is (f := f) (D_f := D_f) hD_f) rfl rfl rfl dc (fun w Lp hA => ⟨hA.ro hs, hA.fn hf⟩)) (fun _ _ => (Ey rfl ((Y.geq rfl rfl).yd) (Eas rfl rfl ?_))))))))
  exact Eu (E.ret (Fb rfl rfl (by exact idxP_nonneg)))
theorem t_impl_hasTuple_1 {a_x : Option Addr} {m_x c_x : Nat} {x : List Int} {b_t : Nat} {a_t : Option Addr} {m_t c_t : Nat} {t : List Int} : Tr Tryz.prog 266 [.slice a_x m_x c_x, .pointer (some ⟨b_t, 0, none⟩)] (fun w L => (Ro w L eIs [.slice a_x m_x c_x] x) ∧ RoPt w L b_t [.slice a_t m_t c_t] ∧ Ro w L eIs [.slice a_t m_t c_t] t) [] (κ := Unit) (fun k => True) (fun k => .bool (decide (x = t))) (fun k => []) := by
  refine Tr.intro Tryz.func266 rfl (n := 7) rfl (by decide +kernel) bl (fr := [(0, .slice a_x m_x c_x), (1, .pointer (some ⟨b_t, 0, none⟩))]) rfl fun w L hR => ?_
  obtain ⟨hx, hb_t, ht⟩ := hR
  obtain ⟨rfl, lx⟩ := hx.slen
  obtain ⟨rfl, lt⟩ := ht.slen
  refine Ew Z1 (Eas rfl rfl (Ev Z4 (Emv rfl rfl (Ey rfl (Y.ld1 ty_Is rfl (hb_t.has) rfl) (Est rfl (N.call0 t_slices_Equal_int_int rfl rfl rfl dc (fun w Lp hA => ⟨hA.ro hx, hA.ro ht⟩)) (fun _ _ => (Eas rfl rfl ?_)))))))
  exact Eu (E.ret (Fg rfl rfl () rfl rfl))
theorem t_impl_hasTuple {a_l : Option Addr} {m_l c_l : Nat} {l : List (List Int)} {a_t : Option Addr} {m_t c_t : Nat} {t : List Int} : Tr Tryz.prog 165 [.slice a_l m_l c_l, .slice a_t m_t c_t] (fun w L => Ro w L eIss [.slice a_l m_l c_l] l ∧ Ro w L eIs [.slice a_t m_t c_t] t) [] (κ := Unit) (fun k => True) (fun k => .bool (hasT l t)) (fun k => []) := by
  refine Tr.intro Tryz.func165 rfl (n := 8) rfl (by decide +kernel) bl (fr := [(0, .slice a_l m_l c_l), (1, .slice a_t m_t c_t)]) rfl fun w L hR => ?_
  obtain ⟨hl, ht⟩ := hR
  obtain ⟨rfl, ll⟩ := hl.slen
  obtain ⟨rfl, lt⟩ := ht.slen
  refine Ew Z2 (Est rfl (N.box (cs := [_]) rfl dc rfl) (fun b3 _ => (Eas rfl rfl (Ev Z4 (Emv rfl rfl (Ey rfl ((Y.fn (vs := [_]) rfl).yd) (Est rfl (N.call0 (t_ContainsFunc_Is (f := (fun x => decide (x = t))) (D_f := (fun _ => True)) (by intros; exact trivial)) rfl rfl rfl dc (fun w Lp hA => ⟨hA.ro hl, FnP.ofIs (D := (fun _ => True)) (fun hd => t_impl_hasTuple_1) (fun w' hk => ⟨(hA.pt m0).keep hk, (hA.ro ht).keep hk⟩)⟩)) (fun _ _ => (Eas rfl rfl ?_)))))))))
  exact Eu (E.ret (Fb rfl rfl (by grind [hasT, d1, d2, t1, t2])))
theorem t_impl_addedTuple_1 {a_x : Option Addr} {m_x c_x : Nat} {x : List Int} {b_t : Nat} {a_t : Option Addr} {m_t c_t : Nat} {t : List Int} : Tr Tryz.prog 291 [.slice a_x m_x c_x, .pointer (some ⟨b_t, 0, none⟩)] (fun w L => (Ro w L eIs [.slice a_x m_x c_x] x) ∧ RoPt w L b_t [.slice a_t m_t c_t] ∧ Ro w L eIs [.slice a_t m_t c_t] t) [] (κ := Unit) (fun k => True) (fun k => .bool (decide (0 < cmpL x t))) (fun k => []) := by
  refine Tr.intro Tryz.func291 rfl (n := 8) rfl (by decide +kernel) bl (fr := [(0, .slice a_x m_x c_x), (1, .pointer (some ⟨b_t, 0, none⟩))]) rfl fun w L hR => ?_
  obtain ⟨hx, hb_t, ht⟩ := hR
  obtain ⟨rfl, lx⟩ := hx.slen
  obtain ⟨rfl, lt⟩ := ht.slen
  refine Ew Z1 (Eas rfl rfl (Ev Z5 (Emv rfl rfl (Ey rfl (Y.ld1 ty_Is rfl (hb_t.has) rfl) (Est rfl (N.call0 t_slices_Compare_int_int rfl rfl rfl dc (fun w Lp hA => ⟨hA.ro hx, hA.ro ht⟩)) (fun _ _ => (Ey rfl ((Y.gtr rfl rfl).yd) (Eas rfl rfl ?_))))))))
  exact Eu (E.ret (Fg rfl rfl () rfl rfl))
theorem t_impl_addedTuple {a_l : Option Addr} {m_l c_l : Nat} {l : List (List Int)} {a_t : Option Addr} {m_t c_t : Nat} {t : List Int} (hz : l.length ≤ 1000000000000) (ht : t.length ≤ 1048576) : Tr Tryz.prog 206 [.slice a_l m_l c_l, .slice a_t m_t c_t] (fun w L => Ro w L eIs [.slice a_t m_t c_t] t) [ow eIss [.slice a_l m_l c_l] l] (κ := Option Addr × Nat × Nat) (fun k => True) (fun k => .slice k.1 k.2.1 k.2.2) (fun k => [ow eIss [.slice k.1 k.2.1 k.2.2] (addT l t)]) := by
  refine Tr.intro Tryz.func206 rfl (n := 23) rfl (by decide +kernel) bl (fr := [(0, .slice a_l m_l c_l), (1, .slice a_t m_t c_t)]) rfl fun w L hR => ?_
  have ht := hR
  obtain ⟨rfl, lt⟩ := ht.slen
  refine Ent.lenow m0 fun el ll => ?_
  subst el
  refine Ew Z2 (Est rfl (N.box (cs := [_]) rfl dc rfl) (fun b3 _ => (Eas rfl rfl (Eu (Eq_ (Ew Z3 (Emv rfl rfl (Ey rfl (Y.ld1 ty_Is rfl (Has.pt m0) rfl) (Est rfl (N.call0 t_impl_hasTuple rfl rfl rfl dc (fun w Lp hA => ⟨hA.ow (mS m0), hA.ro ht⟩)) (fun _ _ => (Ent.b (fun q8 => ?_) (fun q8 => ?_))))))))))))
  · refine Eu (E.ct rfl (Ew Z2 (Emv rfl rfl (Eas rfl rfl (Eu (E.ret (E.thr (Ent.p1 (Ent.cv (congrArg (ow eIss [_]) (show _ = addT l t by grind [addT_has, addT_ins])) ?_)))))))))
    exact Fg rfl rfl (_, _, _) rfl rfl
  · refine Eu (E.cf rfl (E.skipc (Et (Ew Z4 (Emv rfl rfl (Ey rfl ((Y.fn (vs := [_]) rfl).yd) ?_))))))
    have ji := idx_range (p := fun z => decide (0 < cmpL z t)) (s := l)
    refine Est rfl (N.call0 (t_IndexFunc_Is (f := (fun x => decide (0 < cmpL x t))) (D_f := (fun _ => True)) (by intros; exact trivial)) rfl rfl rfl dc (fun w Lp hA => ⟨hA.ow (mS m0), FnP.ofIs (D := (fun _ => True)) (fun hd => t_impl_addedTuple_1) (fun w' hk => ⟨(hA.pt m0).keep hk, (hA.ro ht).keep hk⟩)⟩)) (fun _ _ => (Eas rfl rfl (Eu (Eq_ (Ew Z2 (Emv rfl rfl (Ey rfl ((Y.lss rfl rfl).yd) (Ent.d (fun q14 => ?_) (fun q14 => ?_)))))))))
    · refine Eu (E.ct rfl (Ez Z3 (Emv rfl rfl (Ey rfl ((Y.len us_Iss rfl).yd) (Eas rfl rfl (Ev Z7 (Emv rfl rfl (Emv rfl rfl (Ey rfl (Y.ld1 ty_Is rfl (Has.pt m0) rfl) (Est rfl (N.call (t_Clone_Is fc) rfl rfl rfl dc rfl (fun w Lp hA => hA.ro ht)) (fun k20 _ => ?_)))))))))))
      obtain ⟨a20, m20, c20⟩ := k20
      refine Ent.lenow m0 fun e20 l20 => ?_
      subst e20
      refine Est rfl (N.bsl (pvs := [_]) (cs := [_]) us_Iss ty_Is rfl dc dc (fillZ rfl rfl) rfl dc) (fun b21 _ => (Ent.p1 (Ent.p1 (Ent.mkow (A := _ :: _) (Own.row1 (E := eIs) (e := tIs) Own.ow) rfl (Ent.p2 (Est rfl (N.call (pre := [_, _]) (t_Insert_Is om (by simp) (by simp; omega)) rfl rfl rfl dc rfl (fun w Lp hA => trivial)) (fun k22 _ => ?_)))))))
      obtain ⟨a22, m22, c22⟩ := k22
      refine Ent.lenow m0 fun e22 l22 => ?_
      subst e22
      refine Eas rfl rfl (Eu (E.ret (Ent.cv (congrArg (ow eIss [_]) (show _ = addT l t by grind [addT_has, addT_ins])) ?_)))
      exact Fg rfl rfl (_, _, _) rfl rfl
    · refine Eu (E.cf rfl (E.skipc (Et (Ew Z7 (Emv rfl rfl (Emv rfl rfl (Ey rfl (Y.ld1 ty_Is rfl (Has.pt m0) rfl) (Est rfl (N.call (t_Clone_Is fc) rfl rfl rfl dc rfl (fun w Lp hA => hA.ro ht)) (fun k20 _ => ?_)))))))))
      obtain ⟨a20, m20, c20⟩ := k20
      refine Ent.lenow m0 fun e20 l20 => ?_
      subst e20
      refine Est rfl (N.bsl (pvs := [_]) (cs := [_]) us_Iss ty_Is rfl dc dc (fillZ rfl rfl) rfl dc) (fun b21 _ => (Ent.p1 (Ent.p1 (Ent.mkow (A := _ :: _) (Own.row1 (E := eIs) (e := tIs) Own.ow) rfl (Ent.p2 (Est rfl (N.call (pre := [_, _]) (t_Insert_Is om (by simp) (by simp; omega)) rfl rfl rfl dc rfl (fun w Lp hA => trivial)) (fun k22 _ => ?_)))))))
      obtain ⟨a22, m22, c22⟩ := k22
      refine Ent.lenow m0 fun e22 l22 => ?_
      subst e22
      refine Eas rfl rfl (Eu (E.ret (Ent.cv (congrArg (ow eIss [_]) (show _ = addT l t by grind [addT_has, addT_ins])) ?_)))
      exact Fg rfl rfl (_, _, _) rfl rfl
theorem t_spec_l4Less {a_a : Option Addr} {m_a c_a : Nat} {a : List Int} {a_b : Option Addr} {m_b c_b : Nat} {b : List Int} : Tr Tryz.prog 195 [.slice a_a m_a c_a, .slice a_b m_b c_b] (fun w L => Ro w L eIs [.slice a_a m_a c_a] a ∧ Ro w L eIs [.slice a_b m_b c_b] b) [] (κ := Unit) (fun k => True) (fun k => .bool (ltT a b)) (fun k => []) := by
  refine Tr.intro Tryz.func195 rfl (n := 41) rfl (by decide +kernel) bl (fr := [(0, .slice a_a m_a c_a), (1, .slice a_b m_b c_b)]) rfl fun w L hR => ?_
  obtain ⟨ha, hb⟩ := hR
  obtain ⟨rfl, la⟩ := ha.slen
  obtain ⟨rfl, lb⟩ := hb.slen
  refine Ew Z1 (Eas rfl rfl (Eu (Eq_ (Ew Z1 (Eas rfl rfl (Eu (E.block (E.loop (κ := Nat) (fun g => g ≤ a.length ∧ g ≤ b.length ∧ cmpL a b = cmpL (a.drop g) (b.drop g)) (fun g => [(0, .slice a_a a.length c_a), (1, .slice a_b b.length c_b), (5, .int .i64 (g : Int))]) (fun g => []) (fun g => a.length - g) 0 ⟨Nat.zero_le _, by simp⟩ ⟨rfl, rfl, rfl, trivial⟩ (.refl _) (fun g pg => ?_)))))))))
  obtain ⟨pk, pa⟩ := pg
  refine Eq_ (Ew Z10 (Emv rfl rfl (Emv rfl rfl (Ey rfl ((Y.len us_Is rfl).yd) (Ey rfl ((Y.lss rfl rfl).yd) (Ent.d (fun q9 => ?_) (fun q9 => ?_)))))))
  · refine Emv rfl rfl (Emv rfl rfl (Emv rfl rfl (Ey rfl ((Y.len us_Is rfl).yd) (Ey rfl ((Y.lss rfl rfl).yd) (Ent.d (fun q14 => ?_) (fun q14 => ?_))))))
    · refine Ey rfl ((Y.pkt rfl rfl).yd) (Eu (E.ct rfl (E.skipc (Et (Eq_ (E.block (Eq_ (D.region (fun j => true) mixed (Dyp 0 rfl (Y.mv rfl) (Dyp 1 rfl (Y.mv rfl) ?_))))))))))
      obtain ⟨eb20, eo20, ea20, ei20, eh20⟩ := ha.elemI g om
      refine Dyp 2 rfl (Y.ix us_Is ty_I rfl ea20 rfl g rfl om) (Dy 3 rfl (Y.ld1 ty_I rfl (eh20 _) rfl) (Dyp 4 rfl (Y.mv rfl) (Dyp 5 rfl (Y.mv rfl) ?_)))
      obtain ⟨eb24, eo24, ea24, ei24, eh24⟩ := hb.elemI g om
      refine Dyp 6 rfl (Y.ix us_Is ty_I rfl ea24 rfl g rfl om) (Dy 7 rfl (Y.ld1 ty_I rfl (eh24 _) rfl) (Dyp 8 rfl (Y.neq rfl rfl) (Ent.d (fun q26 => ?_) (fun q26 => ?_))))
      · refine D.done kr (Et (E.ct rfl (Eq_ (D.region (fun j => true) mixed (Dyp 0 rfl (Y.mv rfl) (Dyp 1 rfl (Y.mv rfl) (Dyp 2 rfl (Y.ix us_Is ty_I rfl ea20 rfl g rfl om) (Dy 3 rfl (Y.ld1 ty_I rfl (eh20 _) rfl) (Dyp 4 rfl (Y.mv rfl) (Dyp 5 rfl (Y.mv rfl) (Dyp 6 rfl (Y.ix us_Is ty_I rfl ea24 rfl g rfl om) (Dy 7 rfl (Y.ld1 ty_I rfl (eh24 _) rfl) (Dyp 8 rfl (Y.lss rfl rfl) (Dyp 9 rfl (Y.as rfl) ?_))))))))))))))
        exact D.done kr (Et (E.ret (E.blr (E.thr (E.thr (E.blr (E.thr (Fb rfl rfl (by grind [ltT, cmpL, cmpI, d1, d2, t1, t2])))))))))
      · refine D.done kr (Et (E.cf rfl (E.skipc (E.bln (Et (Ez Z3 (Emv rfl rfl (Ey rfl ((Y.add rfl rfl om om).yd) (Eas rfl rfl ?_)))))))))
        exact Eu (E.again br (g + 1) ⟨rfl, rfl, rfl, trivial⟩ (.refl _) ⟨by omega, by grind [cmpL, cmpI, d1, d2, t1, t2]⟩ om)
    · refine Ey rfl ((Y.pkt rfl rfl).yd) (Eu (E.cf rfl (E.exit (E.the (E.the (E.blh (Et (Ew Z6 (Emv rfl rfl (Ey rfl ((Y.len us_Is rfl).yd) (Emv rfl rfl (Ey rfl ((Y.len us_Is rfl).yd) (Ey rfl ((Y.lss rfl rfl).yd) (Eas rfl rfl ?_))))))))))))))
      exact Eu (E.ret (Fb rfl rfl (by grind [ltT, cmpL, cmpI, d1, d2, t1, t2])))
  · refine Emv rfl rfl (Es rfl (Es rfl (Es rfl (Es rfl (Ey rfl ((Y.pkf rfl rfl).yd) (Eu (E.cf rfl (E.exit (E.the (E.the (E.blh (Et (Ew Z6 (Emv rfl rfl (Ey rfl ((Y.len us_Is rfl).yd) (Emv rfl rfl (Ey rfl ((Y.len us_Is rfl).yd) (Ey rfl ((Y.lss rfl rfl).yd) (Eas rfl rfl ?_)))))))))))))))))))
    exact Eu (E.ret (Fb rfl rfl (by grind [ltT, cmpL, cmpI, d1, d2, t1, t2])))
theorem t_spec_AddTuple {a_l : Option Addr} {m_l c_l : Nat} {l : List (List Int)} {a_t : Option Addr} {m_t c_t : Nat} {t : List Int} (hz : l.length ≤ 1000000000000) (hyl : ∀ x ∈ l, x.length ≤ 1048576) (ht : t.length ≤ 1048576) : Tr Tryz.prog 90 [.slice a_l m_l c_l, .slice a_t m_t c_t] (fun w L => Ro w L eIss [.slice a_l m_l c_l] l ∧ Ro w L eIs [.slice a_t m_t c_t] t) [] (κ := Option Addr × Nat × Nat) (fun k => True) (fun k => .slice k.1 k.2.1 k.2.2) (fun k => [ow eIss [.slice k.1 k.2.1 k.2.2] (addT l t)]) := by
  refine Tr.intro Tryz.func90 rfl (n := 65) rfl (by decide +kernel) bl (fr := [(0, .slice a_l m_l c_l), (1, .slice a_t m_t c_t)]) rfl fun w L hR => ?_
  obtain ⟨hl, ht⟩ := hR
  obtain ⟨rfl, ll⟩ := hl.slen
  obtain ⟨rfl, lt⟩ := ht.slen
  refine Ew Z1 (Eas rfl rfl (Ev Z2 (Est rfl (N.bsl (pvs := []) (cs := []) us_Iss ty_Is rfl dc dc (fillZ rfl rfl) rfl dc) (fun b9 _ => (Ent.drop (Eas rfl rfl (Ev Z1 (Eas rfl rfl (Eu (Eq_ (Ew Z1 (Eas rfl rfl (Eu (E.block (E.loop (κ := Nat) (fun g => g ≤ l.length ∧ True) (fun g => [(0, .slice a_l l.length c_l), (1, .slice a_t t.length c_t), (5, .slice (some ⟨b9, 0, none⟩) 0 0), (6, .bool ((l.take g).any fun x => decide (x = t))), (7, .int .i64 (g : Int))]) (fun g => []) (fun g => l.length - g) (0) ⟨Nat.zero_le _, by simp⟩ ⟨rfl, rfl, rfl, frB (by first | rfl | (simp; done) | grind [addT, addP_addS, addS_snoc, addS_nil, any_take, hasT, d1, d2, t1, t2]), rfl, trivial⟩ (.refl _) (fun g pg => ?_))))))))))))))))
  try dsimp only
  obtain ⟨pk, pa⟩ := pg
  refine Eq_ (Ew Z4 (Emv rfl rfl (Emv rfl rfl (Ey rfl ((Y.len us_Iss rfl).yd) (Ey rfl ((Y.lss rfl rfl).yd) (Ent.d (fun q13 => ?_) (fun q13 => ?_)))))))
  · refine Eu (E.ct rfl (E.skipc (Et (Eq_ (E.block (Ez Z10 (Emv rfl rfl (Ent.b (fun q16 => ?_) (fun q16 => ?_)))))))))
    · refine Emv rfl rfl (Es rfl (Es rfl (Es rfl (Es rfl (Es rfl (Es rfl (Ey rfl ((Y.pkt rfl rfl).yd) (Eas rfl rfl (En (E.bln (Et (Ez Z3 (Emv rfl rfl (Ey rfl ((Y.add rfl rfl om om).yd) (Eas rfl rfl ?_)))))))))))))))
      exact Eu (E.again br (g + 1) ⟨rfl, rfl, rfl, frB (by grind [addT, addP_addS, addS_snoc, addS_nil, any_take, hasT, d1, d2, t1, t2]), rfl, trivial⟩ (.refl _) ⟨(show g + 1 ≤ l.length from by omega), trivial⟩ (show l.length - (g + 1) < l.length - g from by omega))
    · refine Emv rfl rfl (Emv rfl rfl (Emv rfl rfl ?_))
      obtain ⟨eb20, eo20, ec20, ea20, er20, el20, eh20⟩ := hl.elem g om
      obtain ⟨xa20, xc20, rfl⟩ := er20.sl
      have := er20.slen.2
      refine Ey rfl ((Y.ix us_Iss ty_Is rfl ea20 rfl g rfl om).yd) (Ey rfl (Y.ld1 ty_Is rfl (eh20 _) rfl) (Emv rfl rfl (Est rfl (N.call0 t_spec_l2Ints rfl rfl rfl dc (fun w Lp hA => ⟨hA.ro er20, hA.ro ht⟩)) (fun _ _ => (Ey rfl ((Y.pkf rfl rfl).yd) (Eas rfl rfl (Ent.b (fun q6 => ?_) (fun q6 => ?_))))))))
      · refine En (E.bln (Et (Ez Z3 (Emv rfl rfl (Ey rfl ((Y.add rfl rfl om om).yd) (Eas rfl rfl ?_))))))
        exact Eu (E.again br (g + 1) ⟨rfl, rfl, rfl, frB (by grind [addT, addP_addS, addS_snoc, addS_nil, any_take, hasT, d1, d2, t1, t2]), rfl, trivial⟩ (.refl _) ⟨(show g + 1 ≤ l.length from by omega), trivial⟩ (show l.length - (g + 1) < l.length - g from by omega))
      · refine En (E.bln (Et (Ez Z3 (Emv rfl rfl (Ey rfl ((Y.add rfl rfl om om).yd) (Eas rfl rfl ?_))))))
        exact Eu (E.again br (g + 1) ⟨rfl, rfl, rfl, frB (by grind [addT, addP_addS, addS_snoc, addS_nil, any_take, hasT, d1, d2, t1, t2]), rfl, trivial⟩ (.refl _) ⟨(show g + 1 ≤ l.length from by omega), trivial⟩ (show l.length - (g + 1) < l.length - g from by omega))
  · refine Eu (E.cf rfl (E.exit (E.the (E.the (E.blh (Et (Eq_ (Ew Z1 (Eas rfl rfl (Eu (E.block (Ent.mkow (A := []) (Own.nil (E := eIs) (e := tIs) (a := (some ⟨b9, 0, none⟩))) rfl (Ent.cv (congrArg (ow eIss [_]) (show [] = addS (hasT l t) (ltT t) t (l.take 0) from by first | rfl | (simp; done) | grind [addT, addP_addS, addS_snoc, addS_nil, any_take, hasT, d1, d2, t1, t2])) (E.loop (κ := Nat × Option Addr × Nat × Nat) (fun g => g.1 ≤ l.length ∧ True) (fun g => [(0, .slice a_l l.length c_l), (1, .slice a_t t.length c_t), (5, .slice g.2.1 g.2.2.1 g.2.2.2), (6, .bool (hasT l t || (l.take g.1).any (ltT t))), (8, .int .i64 (↑g.1 : Int))]) (fun g => [ow eIss [.slice g.2.1 g.2.2.1 g.2.2.2] (addS (hasT l t) (ltT t) t (l.take g.1))]) (fun g => l.length - g.1) (0, (some ⟨b9, 0, none⟩), 0, 0) ⟨Nat.zero_le _, by simp⟩ ⟨rfl, rfl, rfl, frB (by first | rfl | (simp; done) | grind [addT, addP_addS, addS_snoc, addS_nil, any_take, hasT, d1, d2, t1, t2]), rfl, trivial⟩ (.refl _) (fun g pg => ?_)))))))))))))))
    obtain ⟨g, aA1_0, mA1_0, cA1_0⟩ := g
    try dsimp only at pg
    try dsimp only
    obtain ⟨pk, pa⟩ := pg
    have jp := List.length_take_le g l
    have ji := addS_len (h := hasT l t) (p := (ltT t)) (f := t) (l := l.take g)
    refine Ent.lenow m0 fun eaA1_0 laA1_0 => ?_
    subst eaA1_0
    refine Eq_ (Ew Z4 (Emv rfl rfl (Emv rfl rfl (Ey rfl ((Y.len us_Iss rfl).yd) (Ey rfl ((Y.lss rfl rfl).yd) (Ent.d (fun q28 => ?_) (fun q28 => ?_)))))))
    · have jy1 := hyl l[g] (List.getElem_mem om)
      refine Eu (E.ct rfl (E.skipc (Et (Eq_ (E.block (Eq_ (Ew Z10 (Emv rfl rfl (Ent.b (fun q31 => ?_) (fun q31 => ?_))))))))))
      · refine Ey rfl ((Y.not (b := true) rfl).yd) (Emv rfl rfl (Es rfl (Es rfl (Es rfl (Es rfl (Es rfl (Es rfl (Ey rfl ((Y.pkf rfl rfl).yd) (Eu (E.cf rfl (E.skipc (Et (Ez Z10 (Emv rfl rfl (Est rfl (N.bsl (pvs := []) (cs := []) us_Is ty_I rfl dc dc (fillZ rfl rfl) rfl dc) (fun b48 _ => (Ent.drop (Emv rfl rfl (Emv rfl rfl ?_)))))))))))))))))))
        obtain ⟨eb51, eo51, ec51, ea51, er51, el51, eh51⟩ := hl.elem g om
        obtain ⟨xa51, xc51, rfl⟩ := er51.sl
        have := er51.slen.2
        refine Ey rfl ((Y.ix us_Iss ty_Is rfl ea51 rfl g rfl om).yd) (Ey rfl (Y.ld1 ty_Is rfl (eh51 _) rfl) (Est rfl (N.pushR0 (E := Enc.int) Plain.int us_Is ty_I rfl rfl rfl er51 bn bn dc) (fun p53 _ => (Est rfl (N.bsl (pvs := [_]) (cs := [_]) us_Iss ty_Is rfl dc dc (fillZ rfl rfl) rfl dc) (fun b54 _ => (Ent.p1 (Ent.p1 (Ent.p2 (Est rfl (N.push (E := eIs) (ex := l[g]) us_Iss ty_Is rfl rfl rfl Own.ow rfl bn bn dc) (fun p55 _ => (Eas rfl rfl (En (E.bln (Et (Ez Z3 (Emv rfl rfl (Ey rfl ((Y.add rfl rfl om om).yd) (Eas rfl rfl (Eu (Ent.cv (congrArg (ow eIss [_]) (show (addS (hasT l t) (ltT t) t (l.take g)) ++ [l[g]] = addS (hasT l t) (ltT t) t (l.take (g + 1)) from by grind [addT, addP_addS, addS_snoc, addS_nil, any_take, hasT, d1, d2, t1, t2])) ?_))))))))))))))))))))
        exact E.again br (g + 1, p55.1, ((addS (hasT l t) (ltT t) t (l.take g)).length + 1), p55.2) ⟨rfl, rfl, rfl, frB (by grind [addT, addP_addS, addS_snoc, addS_nil, any_take, hasT, d1, d2, t1, t2]), rfl, trivial⟩ (.refl _) ⟨(show g + 1 ≤ l.length from by omega), trivial⟩ (show l.length - (g + 1) < l.length - g from by omega)
      · refine Ey rfl ((Y.not (b := false) rfl).yd) (Emv rfl rfl (Emv rfl rfl (Emv rfl rfl (Emv rfl rfl ?_))))
        obtain ⟨eb37, eo37, ec37, ea37, er37, el37, eh37⟩ := hl.elem g om
        obtain ⟨xa37, xc37, rfl⟩ := er37.sl
        have := er37.slen.2
        refine Ey rfl ((Y.ix us_Iss ty_Is rfl ea37 rfl g rfl om).yd) (Ey rfl (Y.ld1 ty_Is rfl (eh37 _) rfl) (Est rfl (N.call0 t_spec_l4Less rfl rfl rfl dc (fun w Lp hA => ⟨hA.ro ht, hA.ro er37⟩)) (fun _ _ => (Ent.b (fun q39 => ?_) (fun q39 => ?_)))))
        · refine Ey rfl ((Y.pkt rfl rfl).yd) (Eu (E.ct rfl (Ew Z7 (Emv rfl rfl (Est rfl (N.bsl (pvs := []) (cs := []) us_Is ty_I rfl dc dc (fillZ rfl rfl) rfl dc) (fun b42 _ => (Ent.drop (Emv rfl rfl (Est rfl (N.pushR0 (E := Enc.int) Plain.int us_Is ty_I rfl rfl rfl ht bn bn dc) (fun p44 _ => (Est rfl (N.bsl (pvs := [_]) (cs := [_]) us_Iss ty_Is rfl dc dc (fillZ rfl rfl) rfl dc) (fun b45 _ => (Ent.p1 (Ent.p1 (Ent.p2 (Est rfl (N.push (E := eIs) (ex := t) us_Iss ty_Is rfl rfl rfl Own.ow rfl bn bn dc) (fun p46 _ => (Eas rfl rfl (Eu (Ez Z1 (Eas rfl rfl (Eu (Ez Z10 (Emv rfl rfl (Est rfl (N.bsl (pvs := []) (cs := []) us_Is ty_I rfl dc dc (fillZ rfl rfl) rfl dc) (fun b48 _ => ?_))))))))))))))))))))))))))
          refine Ent.drop (Emv rfl rfl (Emv rfl rfl (Ey rfl ((Y.ix us_Iss ty_Is rfl ea37 rfl g rfl om).yd) (Ey rfl (Y.ld1 ty_Is rfl (eh37 _) rfl) (Est rfl (N.pushR0 (E := Enc.int) Plain.int us_Is ty_I rfl rfl rfl er37 bn bn dc) (fun p53 _ => (Est rfl (N.bsl (pvs := [_]) (cs := [_]) us_Iss ty_Is rfl dc dc (fillZ rfl rfl) rfl dc) (fun b54 _ => (Ent.p1 (Ent.p1 (Ent.p2 (Est rfl (N.push (E := eIs) (ex := l[g]) us_Iss ty_Is rfl rfl rfl Own.ow rfl bn bn dc) (fun p55 _ => (Eas rfl rfl (En (E.bln (Et (Ez Z3 (Emv rfl rfl (Ey rfl ((Y.add rfl rfl om om).yd) (Eas rfl rfl ?_)))))))))))))))))))))
          refine Eu (Ent.cv (congrArg (ow eIss [_]) (show ((addS (hasT l t) (ltT t) t (l.take g)) ++ [t]) ++ [l[g]] = addS (hasT l t) (ltT t) t (l.take (g + 1)) from by grind [addT, addP_addS, addS_snoc, addS_nil, any_take, hasT, d1, d2, t1, t2])) ?_)
          exact E.again br (g + 1, p55.1, (((addS (hasT l t) (ltT t) t (l.take g)).length + 1) + 1), p55.2) ⟨rfl, rfl, rfl, frB (by grind [addT, addP_addS, addS_snoc, addS_nil, any_take, hasT, d1, d2, t1, t2]), rfl, trivial⟩ (.refl _) ⟨(show g + 1 ≤ l.length from by omega), trivial⟩ (show l.length - (g + 1) < l.length - g from by omega)
        · refine Ey rfl ((Y.pkt rfl rfl).yd) (Eu (E.cf rfl (E.skipc (Et (Ez Z10 (Emv rfl rfl (Est rfl (N.bsl (pvs := []) (cs := []) us_Is ty_I rfl dc dc (fillZ rfl rfl) rfl dc) (fun b48 _ => (Ent.drop (Emv rfl rfl (Emv rfl rfl (Ey rfl ((Y.ix us_Iss ty_Is rfl ea37 rfl g rfl om).yd) (Ey rfl (Y.ld1 ty_Is rfl (eh37 _) rfl) (Est rfl (N.pushR0 (E := Enc.int) Plain.int us_Is ty_I rfl rfl rfl er37 bn bn dc) (fun p53 _ => (Est rfl (N.bsl (pvs := [_]) (cs := [_]) us_Iss ty_Is rfl dc dc (fillZ rfl rfl) rfl dc) (fun b54 _ => (Ent.p1 (Ent.p1 (Ent.p2 (Est rfl (N.push (E := eIs) (ex := l[g]) us_Iss ty_Is rfl rfl rfl Own.ow rfl bn bn dc) (fun p55 _ => (Eas rfl rfl ?_)))))))))))))))))))))))
          refine En (E.bln (Et (Ez Z3 (Emv rfl rfl (Ey rfl ((Y.add rfl rfl om om).yd) (Eas rfl rfl (Eu (Ent.cv (congrArg (ow eIss [_]) (show (addS (hasT l t) (ltT t) t (l.take g)) ++ [l[g]] = addS (hasT l t) (ltT t) t (l.take (g + 1)) from by grind [addT, addP_addS, addS_snoc, addS_nil, any_take, hasT, d1, d2, t1, t2])) ?_))))))))
          exact E.again br (g + 1, p55.1, ((addS (hasT l t) (ltT t) t (l.take g)).length + 1), p55.2) ⟨rfl, rfl, rfl, frB (by grind [addT, addP_addS, addS_snoc, addS_nil, any_take, hasT, d1, d2, t1, t2]), rfl, trivial⟩ (.refl _) ⟨(show g + 1 ≤ l.length from by omega), trivial⟩ (show l.length - (g + 1) < l.length - g from by omega)
    · refine Eu (E.cf rfl (E.exit (E.the (E.the (E.blh (Et (Eq_ (Ew Z2 (Emv rfl rfl (Ent.b (fun q56 => ?_) (fun q56 => ?_)))))))))))
      · refine Ey rfl ((Y.not (b := true) rfl).yd) (Eu (E.cf rfl (E.skipc (Et (Ew Z2 (Emv rfl rfl (Eas rfl rfl (Eu (E.ret (Ent.cv (congrArg (ow eIss [_]) (show _ = addT l t by grind [addT, addP_addS, addS_snoc, addS_nil, any_take, hasT, d1, d2, t1, t2])) ?_))))))))))
        exact Fg rfl rfl (_, _, _) rfl rfl
      · refine Ey rfl ((Y.not (b := false) rfl).yd) (Eu (E.ct rfl (Ez Z7 (Emv rfl rfl (Est rfl (N.bsl (pvs := []) (cs := []) us_Is ty_I rfl dc dc (fillZ rfl rfl) rfl dc) (fun b59 _ => (Ent.drop (Emv rfl rfl (Est rfl (N.pushR0 (E := Enc.int) Plain.int us_Is ty_I rfl rfl rfl ht bn bn dc) (fun p61 _ => (Est rfl (N.bsl (pvs := [_]) (cs := [_]) us_Iss ty_Is rfl dc dc (fillZ rfl rfl) rfl dc) (fun b62 _ => (Ent.p1 (Ent.p1 (Ent.p2 (Est rfl (N.push (E := eIs) (ex := t) us_Iss ty_Is rfl rfl rfl Own.ow rfl bn bn dc) (fun p63 _ => (Eas rfl rfl (Ev Z2 (Emv rfl rfl (Eas rfl rfl (Eu (E.ret (Ent.cv (congrArg (ow eIss [_]) (show _ = addT l t by grind [addT, addP_addS, addS_snoc, addS_nil, any_take, hasT, d1, d2, t1, t2])) ?_))))))))))))))))))))))))
        exact Fg rfl rfl (_, _, _) rfl rfl
theorem t_impl_tuplesOf {a_q_Head : Option Addr} {m_q_Head c_q_Head : Nat} {q_Head : List Int} {a_q_Atoms : Option Addr} {m_q_Atoms c_q_Atoms : Nat} {q_Atoms : List (Int × List Int)} {a_l : Option Addr} {m_l c_l : Nat} {l : List (List Int × List Int)} (hqh : q_Head.length ≤ 1048576) (hz : l.length ≤ 1000000000000) : Tr Tryz.prog 188 [.agg #[.slice a_q_Head m_q_Head c_q_Head, .slice a_q_Atoms m_q_Atoms c_q_Atoms], .slice a_l m_l c_l] (fun w L => Ro w L eIs [.slice a_q_Head m_q_Head c_q_Head] q_Head ∧ Ro w L eAtoms [.slice a_q_Atoms m_q_Atoms c_q_Atoms] q_Atoms ∧ Ro w L eBindings [.slice a_l m_l c_l] l) [] (κ := Option Addr × Nat × Nat) (fun k => True) (fun k => .slice k.1 k.2.1 k.2.2) (fun k => [ow eIss [.slice k.1 k.2.1 k.2.2] (tupF q_Head l)]) := by
  refine Tr.intro Tryz.func188 rfl (n := 22) rfl (by decide +kernel) bl (fr := [(0, .agg #[.slice a_q_Head m_q_Head c_q_Head, .slice a_q_Atoms m_q_Atoms c_q_Atoms]), (1, .slice a_l m_l c_l)]) rfl fun w L hR => ?_
  obtain ⟨hq_Head, hq_Atoms, hl⟩ := hR
  obtain ⟨rfl, lq_Head⟩ := hq_Head.slen
  obtain ⟨rfl, lq_Atoms⟩ := hq_Atoms.slen
  obtain ⟨rfl, ll⟩ := hl.slen
  have jv := Ro.i64B hl
  have jw := hq_Head.i64
  refine Ew Z2 (Est rfl (N.box (cs := [_, _]) rfl dc rfl) (fun b2 _ => (Eas rfl rfl (Ev Z2 (Est rfl (N.bsl (pvs := []) (cs := []) us_Iss ty_Is rfl dc dc (fillZ rfl rfl) rfl dc) (fun b8 _ => (Ent.drop (Eas rfl rfl (Eu (Eq_ (Ew Z3 (Emv rfl rfl (Ey rfl ((Y.len us_Bindings rfl).yd) (Emv rfl rfl (Eu (E.block (Ent.mkow (A := []) (Own.nil (E := eIs) (e := tIs) (a := (some ⟨b8, 0, none⟩))) rfl (Ent.cv (congrArg (ow eIss [_]) (show [] = tupF q_Head (l.take 0) from by first | rfl | (simp; done) | grind [tup_nil, tup_snoc, d1, d2, t1, t2])) (E.loop (κ := Nat × Option Addr × Nat × Nat) (fun g => g.1 ≤ l.length ∧ True) (fun g => [(2, .pointer (some ⟨b2, 0, none⟩)), (5, .slice g.2.1 g.2.2.1 g.2.2.2), (9, .slice a_l l.length c_l), (10, .int .i64 (↑l.length : Int)), (11, .int .i64 (↑g.1 : Int))]) (fun g => [ow eIss [.slice g.2.1 g.2.2.1 g.2.2.2] (tupF q_Head (l.take g.1)), pt b2 55 [.slice a_q_Head q_Head.length c_q_Head, .slice a_q_Atoms q_Atoms.length c_q_Atoms]]) (fun g => l.length - g.1) (0, (some ⟨b8, 0, none⟩), 0, 0) ⟨Nat.zero_le _, by simp⟩ ⟨rfl, rfl, rfl, rfl, rfl, trivial⟩ (.refl _) (fun g pg => ?_))))))))))))))))))))
  obtain ⟨g, aA0_0, mA0_0, cA0_0⟩ := g
  try dsimp only at pg
  try dsimp only
  obtain ⟨pk, pa⟩ := pg
  have jp := List.length_take_le g l
  have jn := tup_len (h := q_Head) (l := l.take g)
  have je := tup_el (h := q_Head) (l := l.take g)
  refine Ent.lenow m0 fun eaA0_0 laA0_0 => ?_
  subst eaA0_0
  refine Ew Z1 (Ey rfl ((Y.lss rfl rfl).yd) (Ent.d (fun q12 => ?_) (fun q12 => ?_)))
  · obtain ⟨eb13, eo13, ec13, ea13, er13, el13, eh13⟩ := hl.elem g om
    obtain ⟨xa13_0, xc13_0, xa13_1, xc13_1, rfl, xh13_0, xh13_1⟩ := Ro.pBinding er13
    have := xh13_0.slen.2
    have := xh13_1.slen.2
    refine Eu (Eq_ (E.ct rfl (E.skipc (Et (Eq_ (E.block (Ew Z4 (Ey rfl ((Y.ix us_Bindings ty_Binding rfl ea13 rfl g rfl om).yd) (Ey rfl (Y.ldS (cs := [_, _]) ty_Binding rfl (eh13 _) rfl) (Est rfl (N.alloc ty_Binding dc) (fun b7 _ => (Est rfl (N.sto (vs := [_, _]) (cs' := [_, _]) ty_Binding rfl rfl rfl rfl rfl bl rfl) (fun _ _ => (Eu (Ez Z6 (Emv rfl rfl (Ey rfl (Y.ldS (cs := [_, _]) ty_Query rfl (Has.pt (mS (mS m0))) rfl) (Ey rfl (Y.ldS (cs := [_, _]) ty_Binding rfl (Has.pt m0) rfl) (Est rfl (N.call (t_impl_TupleOf (by first | omega | assumption | (simp; omega))) rfl rfl rfl dc rfl (fun w Lp hA => ⟨hA.ro hq_Head, hA.ro hq_Atoms, hA.ro xh13_0, hA.ro xh13_1⟩)) (fun k18 _ => ?_))))))))))))))))))))
    obtain ⟨a18, m18, c18⟩ := k18
    refine Ent.lenow m0 fun e18 l18 => ?_
    subst e18
    refine Ent.p2 (Est rfl (N.call (pre := [_]) (t_impl_addedTuple (by first | omega | assumption | (simp; omega)) (by first | omega | assumption | (simp; omega))) rfl rfl rfl dc rfl (fun w Lp hA => hA.ow m0)) (fun k19 _ => ?_))
    obtain ⟨a19, m19, c19⟩ := k19
    refine Ent.lenow m0 fun e19 l19 => ?_
    subst e19
    refine Eas rfl rfl (En (E.bln (Et (Ez Z2 (Ey rfl ((Y.add rfl rfl om om).yd) (Emv rfl rfl (Eu (Ent.p1 (Ent.drop (Ent.p1 (Ent.drop (Ent.cv (congrArg (ow eIss [_]) (show addT (tupF q_Head (l.take g)) (q_Head.map (valO l[g])) = tupF q_Head (l.take (g + 1)) from by grind [tup_nil, tup_snoc, d1, d2, t1, t2])) (Ent.p1 (Ent.p1 ?_))))))))))))))
    exact E.again br (g + 1, a19, (addT (tupF q_Head (l.take g)) (q_Head.map (valO l[g]))).length, c19) ⟨rfl, rfl, rfl, rfl, rfl, trivial⟩ (.refl _) ⟨(show g + 1 ≤ l.length from by omega), trivial⟩ (show l.length - (g + 1) < l.length - g from by omega)
  · refine Eu (Eq_ (E.cf rfl (E.exit (E.the (E.the (E.blh (Et (Ew Z2 (Emv rfl rfl (Eas rfl rfl (Eu (E.ret (Ent.cv (congrArg (ow eIss [_]) (show _ = tupF q_Head l by grind [tup_nil, tup_snoc, d1, d2, t1, t2])) ?_)))))))))))))
    exact Fg rfl rfl (_, _, _) rfl rfl
theorem t_spec_l4Tuples {a_q_Head : Option Addr} {m_q_Head c_q_Head : Nat} {q_Head : List Int} {a_q_Atoms : Option Addr} {m_q_Atoms c_q_Atoms : Nat} {q_Atoms : List (Int × List Int)} {a_l : Option Addr} {m_l c_l : Nat} {l : List (List Int × List Int)} (hqh : q_Head.length ≤ 1048576) (hz : l.length ≤ 1000000000000) : Tr Tryz.prog 139 [.agg #[.slice a_q_Head m_q_Head c_q_Head, .slice a_q_Atoms m_q_Atoms c_q_Atoms], .slice a_l m_l c_l] (fun w L => Ro w L eIs [.slice a_q_Head m_q_Head c_q_Head] q_Head ∧ Ro w L eAtoms [.slice a_q_Atoms m_q_Atoms c_q_Atoms] q_Atoms ∧ Ro w L eBindings [.slice a_l m_l c_l] l) [] (κ := Option Addr × Nat × Nat) (fun k => True) (fun k => .slice k.1 k.2.1 k.2.2) (fun k => [ow eIss [.slice k.1 k.2.1 k.2.2] (tupF q_Head l)]) := by
  refine Tr.intro Tryz.func139 rfl (n := 41) rfl (by decide +kernel) bl (fr := [(0, .agg #[.slice a_q_Head m_q_Head c_q_Head, .slice a_q_Atoms m_q_Atoms c_q_Atoms]), (1, .slice a_l m_l c_l)]) rfl fun w L hR => ?_
  obtain ⟨hq_Head, hq_Atoms, hl⟩ := hR
  obtain ⟨rfl, lq_Head⟩ := hq_Head.slen
  obtain ⟨rfl, lq_Atoms⟩ := hq_Atoms.slen
  obtain ⟨rfl, ll⟩ := hl.slen
  have jv := Ro.i64B hl
  have jw := hq_Head.i64
  refine Ew Z2 (Est rfl (N.box (cs := [_, _]) rfl dc rfl) (fun b2 _ => (Eas rfl rfl (Ev Z2 (Est rfl (N.bsl (pvs := []) (cs := []) us_Iss ty_Is rfl dc dc (fillZ rfl rfl) rfl dc) (fun b9 _ => (Ent.drop (Eas rfl rfl (Eu (Eq_ (Ew Z1 (Eas rfl rfl (Eu (E.block (Ent.mkow (A := []) (Own.nil (E := eIs) (e := tIs) (a := (some ⟨b9, 0, none⟩))) rfl (Ent.cv (congrArg (ow eIss [_]) (show [] = tupF q_Head (l.take 0) from by first | rfl | (simp; done) | grind [tup_nil, tup_snoc, d1, d2, t1, t2])) (E.loop (κ := Nat × Option Addr × Nat × Nat) (fun g => g.1 ≤ l.length ∧ True) (fun g => [(1, .slice a_l l.length c_l), (2, .pointer (some ⟨b2, 0, none⟩)), (5, .slice g.2.1 g.2.2.1 g.2.2.2), (6, .int .i64 (↑g.1 : Int))]) (fun g => [ow eIss [.slice g.2.1 g.2.2.1 g.2.2.2] (tupF q_Head (l.take g.1)), pt b2 55 [.slice a_q_Head q_Head.length c_q_Head, .slice a_q_Atoms q_Atoms.length c_q_Atoms]]) (fun g => l.length - g.1) (0, (some ⟨b9, 0, none⟩), 0, 0) ⟨Nat.zero_le _, by simp⟩ ⟨rfl, rfl, rfl, rfl, trivial⟩ (.refl _) (fun g pg => ?_))))))))))))))))))
  obtain ⟨g, aA0_0, mA0_0, cA0_0⟩ := g
  try dsimp only at pg
  try dsimp only
  obtain ⟨pk, pa⟩ := pg
  have jp := List.length_take_le g l
  have jn := tup_len (h := q_Head) (l := l.take g)
  have je := tup_el (h := q_Head) (l := l.take g)
  refine Ent.lenow m0 fun eaA0_0 laA0_0 => ?_
  subst eaA0_0
  refine Eq_ (Ew Z4 (Emv rfl rfl (Emv rfl rfl (Ey rfl ((Y.len us_Bindings rfl).yd) (Ey rfl ((Y.lss rfl rfl).yd) (Ent.d (fun q13 => ?_) (fun q13 => ?_)))))))
  · refine Eu (E.ct rfl (E.skipc (Et (Eq_ (E.block (Ew Z2 (Est rfl (N.bsl (pvs := []) (cs := []) us_Is ty_I rfl dc dc (fillZ rfl rfl) rfl dc) (fun b16 _ => (Ent.drop (Eas rfl rfl (Eu (Eq_ (Ew Z1 (Eas rfl rfl (Eu (E.block (Ent.mkow (A := []) (Own.nil (E := Enc.int) (e := tI) (a := (some ⟨b16, 0, none⟩))) rfl (Ent.cv (congrArg (ow eIs [_]) (show [] = (q_Head.take 0).map (valO l[g]) from by first | rfl | (simp; done) | grind [tup_nil, tup_snoc, d1, d2, t1, t2])) (E.loop (κ := Nat × Option Addr × Nat × Nat) (fun h => h.1 ≤ q_Head.length ∧ True) (fun h => [(1, .slice a_l l.length c_l), (2, .pointer (some ⟨b2, 0, none⟩)), (5, .slice aA0_0 (tupF q_Head (l.take g)).length cA0_0), (6, .int .i64 (g : Int)), (7, .slice h.2.1 h.2.2.1 h.2.2.2), (8, .int .i64 (↑h.1 : Int))]) (fun h => [ow eIs [.slice h.2.1 h.2.2.1 h.2.2.2] ((q_Head.take h.1).map (valO l[g])), ow eIss [.slice aA0_0 (tupF q_Head (l.take g)).length cA0_0] (tupF q_Head (l.take g)), pt b2 55 [.slice a_q_Head q_Head.length c_q_Head, .slice a_q_Atoms q_Atoms.length c_q_Atoms]]) (fun h => q_Head.length - h.1) (0, (some ⟨b16, 0, none⟩), 0, 0) ⟨Nat.zero_le _, by simp⟩ ⟨rfl, rfl, rfl, rfl, rfl, rfl, trivial⟩ (.refl _) (fun h ph => ?_))))))))))))))))))))
    obtain ⟨h, aA1_0, mA1_0, cA1_0⟩ := h
    try dsimp only at ph
    try dsimp only
    obtain ⟨pk, pa⟩ := ph
    refine Ent.lenow m0 fun eaA1_0 laA1_0 => ?_
    subst eaA1_0
    refine Eq_ (Ew Z5 (Emv rfl rfl (Ey rfl ((Y.fld fo_Query_0 ty_Is dc rfl).yd) (Ey rfl (Y.ld1 ty_Is rfl ((Has.pt (mS (mS m0))).sub (cs' := [_]) 0 rfl) rfl) (Ey rfl ((Y.len us_Is rfl).yd) (Ey rfl ((Y.lss rfl rfl).yd) (Ent.d (fun q21 => ?_) (fun q21 => ?_))))))))
    · have jx := valO_i64 (b := l[g]) (jw q_Head[h] (List.getElem_mem om)) (jv l[g] (List.getElem_mem om)).2
      refine Eu (E.ct rfl (E.skipc (Et (Eq_ (E.block (D.region (fun j => !(Nat.beq j 12)) mixed (Dyp 0 rfl (Y.mv rfl) (Dyp 1 rfl (Y.mv rfl) (Dyp 2 rfl (Y.mv rfl) ?_)))))))))
      obtain ⟨eb27, eo27, ec27, ea27, er27, el27, eh27⟩ := hl.elem g om
      obtain ⟨xa27_0, xc27_0, xa27_1, xc27_1, rfl, xh27_0, xh27_1⟩ := Ro.pBinding er27
      have := xh27_0.slen.2
      have := xh27_1.slen.2
      refine Dyp 3 rfl (Y.ix us_Bindings ty_Binding rfl ea27 rfl g rfl om) (Dy 4 rfl (Y.ldS (cs := [_, _]) ty_Binding rfl (eh27 _) rfl) (Dyp 5 rfl (Y.fld fo_Query_0 ty_Is dc rfl) (Dy 6 rfl (Y.ld1 ty_Is rfl ((Has.pt (mS (mS m0))).sub (cs' := [_]) 0 rfl) rfl) (Dyp 7 rfl (Y.mv rfl) ?_))))
      obtain ⟨eb32, eo32, ea32, ei32, eh32⟩ := hq_Head.elemI h om
      refine Dyp 8 rfl (Y.ix us_Is ty_I rfl ea32 rfl h rfl om) (Dy 9 rfl (Y.ld1 ty_I rfl (eh32 _) rfl) (D.st 10 rfl rfl kr (fun _ => rfl) (N.call0 t_spec_ValueOf rfl rfl rfl dc (fun w Lp hA => ⟨hA.ro xh27_0, hA.ro xh27_1⟩)) (fun _ _ => (D.st 11 rfl rfl kr (fun _ => rfl) (N.bsl (pvs := [_]) (cs := [_]) us_Is ty_I rfl dc dc (fillZ rfl rfl) rfl dc) (fun b35 _ => (Ent.p1 (D.st 12 rfl rfl kr (fun h => by cases h) (N.push (E := Enc.int) (ex := valO l[g] q_Head[h]) us_Is ty_I rfl rfl rfl (Own.int i6) rfl bn bn dc) (fun p36 _ => (Dyp 13 rfl (Y.as rfl) (D.done kr (E.bln (Et (Ez Z3 (Emv rfl rfl (Ey rfl ((Y.add rfl rfl om om).yd) (Eas rfl rfl (Eu (Ent.cv (congrArg (ow eIs [_]) (show ((q_Head.take h).map (valO l[g])) ++ [valO l[g] q_Head[h]] = (q_Head.take (h + 1)).map (valO l[g]) from by grind [tup_nil, tup_snoc, d1, d2, t1, t2])) (Ent.p2 (Ent.p2 (Ent.p2 ?_)))))))))))))))))))))
      exact E.again br (h + 1, p36.1, (((q_Head.take h).map (valO l[g])).length + 1), p36.2) ⟨rfl, rfl, rfl, rfl, rfl, rfl, trivial⟩ (.refl _) ⟨(show h + 1 ≤ q_Head.length from by omega), trivial⟩ (show q_Head.length - (h + 1) < q_Head.length - h from by omega)
    · refine Eu (E.cf rfl (E.exit (E.the (E.the (E.blh (Et (Ez Z4 (Emv rfl rfl (Emv rfl rfl (Est rfl (N.call (t_spec_AddTuple (by first | omega | assumption | (simp; omega)) (fun x hx => Nat.le_trans (je x hx) hqh) (by first | omega | assumption | (simp; omega))) rfl rfl rfl dc rfl (fun w Lp hA => ⟨hA.ow (mS m0), hA.ow m0⟩)) (fun k39 _ => ?_)))))))))))
      obtain ⟨a39, m39, c39⟩ := k39
      refine Ent.lenow m0 fun e39 l39 => ?_
      subst e39
      refine Eas rfl rfl (En (E.bln (Et (Ez Z3 (Emv rfl rfl (Ey rfl ((Y.add rfl rfl om om).yd) (Eas rfl rfl (Eu (Ent.p1 (Ent.drop (Ent.p1 (Ent.drop (Ent.cv (congrArg (ow eIss [_]) (show addT (tupF q_Head (l.take g)) ((q_Head.take h).map (valO l[g])) = tupF q_Head (l.take (g + 1)) from by grind [tup_nil, tup_snoc, d1, d2, t1, t2])) (Ent.p1 (Ent.p1 ?_)))))))))))))))
      exact E.again br (g + 1, a39, (addT (tupF q_Head (l.take g)) ((q_Head.take h).map (valO l[g]))).length, c39) ⟨rfl, rfl, rfl, rfl, trivial⟩ (.refl _) ⟨(show g + 1 ≤ l.length from by omega), trivial⟩ (show l.length - (g + 1) < l.length - g from by omega)
  · refine Eu (E.cf rfl (E.exit (E.the (E.the (E.blh (Et (Ew Z2 (Emv rfl rfl (Eas rfl rfl (Eu (E.ret (Ent.cv (congrArg (ow eIss [_]) (show _ = tupF q_Head l by grind [tup_nil, tup_snoc, d1, d2, t1, t2])) ?_))))))))))))
    exact Fg rfl rfl (_, _, _) rfl rfl
theorem t_impl_answers {a_q_Head : Option Addr} {m_q_Head c_q_Head : Nat} {q_Head : List Int} {a_q_Atoms : Option Addr} {m_q_Atoms c_q_Atoms : Nat} {q_Atoms : List (Int × List Int)} {a_facts : Option Addr} {m_facts c_facts : Nat} {facts : List (Int × List Int)} (hqa : q_Atoms.length ≤ 4) (hqt : ∀ a ∈ q_Atoms, a.2.length ≤ 3) (hf : ∀ a ∈ q_Atoms, Few a facts) (hqh : q_Head.length ≤ 3) : Tr Tryz.prog 166 [.agg #[.slice a_q_Head m_q_Head c_q_Head, .slice a_q_Atoms m_q_Atoms c_q_Atoms], .slice a_facts m_facts c_facts] (fun w L => Ro w L eIs [.slice a_q_Head m_q_Head c_q_Head] q_Head ∧ Ro w L eAtoms [.slice a_q_Atoms m_q_Atoms c_q_Atoms] q_Atoms ∧ Ro w L eFacts [.slice a_facts m_facts c_facts] facts) [] (κ := Option Addr × Nat × Nat) (fun k => True) (fun k => .slice k.1 k.2.1 k.2.2) (fun k => [ow eIss [.slice k.1 k.2.1 k.2.2] (tupF q_Head (bindsF q_Atoms facts))]) := by
  refine Tr.intro Tryz.func166 rfl (n := 10) rfl (by decide +kernel) bl (fr := [(0, .agg #[.slice a_q_Head m_q_Head c_q_Head, .slice a_q_Atoms m_q_Atoms c_q_Atoms]), (1, .slice a_facts m_facts c_facts)]) rfl fun w L hR => ?_
  obtain ⟨hq_Head, hq_Atoms, hfacts⟩ := hR
  obtain ⟨rfl, lq_Head⟩ := hq_Head.slen
  obtain ⟨rfl, lq_Atoms⟩ := hq_Atoms.slen
  obtain ⟨rfl, lfacts⟩ := hfacts.slen
  have jb := bindsK_all (facts := facts) hf hqa hqt
  refine Ew Z2 (Est rfl (N.box (cs := [_, _]) rfl dc rfl) (fun b2 _ => (Eas rfl rfl (Eu (Eq_ (D.region (fun j => true) mixed (Dy 0 rfl (Y.ldS (cs := [_, _]) ty_Query rfl (Has.pt m0) rfl) (Dy 1 rfl (Y.ldS (cs := [_, _]) ty_Query rfl (Has.pt m0) rfl) (Dyp 2 rfl (Y.mv rfl) (D.st 3 rfl rfl kr (fun _ => rfl) (N.call (t_impl_BindingsOf fc fc fc) rfl rfl rfl dc rfl (fun w Lp hA => ⟨hA.ro hq_Head, hA.ro hq_Atoms, hA.ro hfacts⟩)) (fun k8 _ => ?_)))))))))))
  obtain ⟨a8, m8, c8⟩ := k8
  refine Ent.lenow m0 fun e8 l8 => ?_
  subst e8
  refine D.st 4 rfl rfl kr (fun _ => rfl) (N.call (t_impl_tuplesOf fc fc) rfl rfl rfl dc rfl (fun w Lp hA => ⟨hA.ro hq_Head, hA.ro hq_Atoms, hA.ow m0⟩)) (fun k9 _ => ?_)
  obtain ⟨a9, m9, c9⟩ := k9
  refine Ent.lenow m0 fun e9 l9 => ?_
  subst e9
  refine Dyp 5 rfl (Y.as rfl) ?_
  exact D.done kr (Et (E.ret (Fg rfl rfl (_, _, _) rfl rfl)))
end Go.Proofs.YtonkkkjgdohooaaGreat
