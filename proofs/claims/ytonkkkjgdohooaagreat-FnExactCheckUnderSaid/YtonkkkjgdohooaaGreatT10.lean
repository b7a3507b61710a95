import Derived.Test.YtonkkkjgdohooaaGreatBs
import Derived.Test.YtonkkkjgdohooaaGreatT8
import Derived.Test.YtonkkkjgdohooaaGreatT6
import Derived.Test.YtonkkkjgdohooaaGreatT1
import Derived.Test.YtonkkkjgdohooaaGreatBc
import Derived.Test.YtonkkkjgdohooaaGreatT5
import Derived.Test.YtonkkkjgdohooaaGreatBd
namespace Go.Proofs.YtonkkkjgdohooaaGreat
open Go.RowKit
set_option linter.unusedVariables false
set_option linter.unusedSimpArgs false
set_option maxHeartbeats 2000000
attribute [local irreducible] Nop Yd Yp Ent Has Tr FnP FnP2 Src listsF opnF opn1 opnR chainB
theorem t_impl_ascending {a_l : Option Addr} {m_l c_l : Nat} {l : List Int} : Tr Tryz.prog 329 [.slice a_l m_l c_l] (fun w L => Ro w L eIs [.slice a_l m_l c_l] l) [] (κ := Unit) (fun k => True) (fun k => .bool (chainB ltB l)) (fun k => []) := by
  refine Tr.intro Tryz.func329 rfl (n := 24) rfl (by decide +kernel) bl (fr := [(0, .slice a_l m_l c_l)]) rfl fun w L hR => ?_
  have hl := hR
  obtain ⟨rfl, ll⟩ := hl.slen
  refine Ew Z1 (Eas rfl rfl (Eu (Eq_ (Ew Z3 (Emv rfl rfl (Ey rfl ((Y.len us_Is rfl).yd) (Emv rfl rfl (Eu (E.block (E.loop (κ := Nat) (fun g => g ≤ l.length ∧ chainB ltB l = chainB ltB (l.drop (g - 1))) (fun g => [(0, .slice a_l l.length c_l), (5, .int .i64 (↑l.length : Int)), (6, .int .i64 (g : Int))]) (fun g => []) (fun g => l.length - g) 0 ⟨Nat.zero_le _, by simp⟩ ⟨rfl, rfl, rfl, trivial⟩ (.refl _) (fun g pg => ?_)))))))))))
  obtain ⟨pk, pa⟩ := pg
  refine Ew Z1 (Ey rfl ((Y.lss rfl rfl).yd) (Ent.d (fun q7 => ?_) (fun q7 => ?_)))
  · refine Eu (Eq_ (E.ct rfl (E.skipc (Et (Eq_ (E.block (Ew Z2 (Emv rfl rfl (Eas rfl rfl (Eu (Eq_ (D.region (fun j => true) mixed (Dyp 0 rfl (Y.mv rfl) (Dyp 1 rfl (Y.gtr rfl rfl) (Ent.d (fun q10 => ?_) (fun q10 => ?_))))))))))))))))
    · refine Dyp 2 rfl (Y.mv rfl) (Dyp 3 rfl (Y.mv rfl) (Dyp 4 rfl (Y.mv rfl) ?_))
      obtain ⟨eb14, eo14, ea14, ei14, eh14⟩ := hl.elemI g om
      refine Dyp 5 rfl (Y.ix us_Is ty_I rfl ea14 rfl g rfl om) (Dy 6 rfl (Y.ld1 ty_I rfl (eh14 _) rfl) (Dyp 7 rfl (Y.mv rfl) (Dyp 8 rfl (Y.mv rfl) (Dyp 9 rfl (Y.sub rfl rfl om om) ?_))))
      obtain ⟨eb19, eo19, ea19, ei19, eh19⟩ := hl.elemI (g - 1) om
      refine Dyp 10 rfl (Y.ix us_Is ty_I rfl ea19 rfl (g - 1) om om) (Dy 11 rfl (Y.ld1 ty_I rfl (eh19 _) rfl) (Dyp 12 rfl (Y.leq rfl rfl) (Ent.d (fun q21 => ?_) (fun q21 => ?_))))
      · refine Dyp 13 rfl (Y.pkt rfl rfl) (D.done kr (Et (E.ct rfl (Ew Z1 (Eas rfl rfl ?_)))))
        exact Eu (E.ret (E.blr (E.thr (E.thr (E.blr (E.thr (Fb rfl rfl (by grind [chain_step, chain_zero, chain_end, ltB, d1, d2, t1, t2]))))))))
      · refine Dyp 13 rfl (Y.pkt rfl rfl) (D.done kr (Et (E.cf rfl (E.skipc (E.bln (Et (Ez Z2 (Ey rfl ((Y.add rfl rfl om om).yd) (Emv rfl rfl ?_)))))))))
        exact Eu (E.again br (g + 1) ⟨rfl, rfl, rfl, trivial⟩ (.refl _) ⟨by omega, by grind [chain_step, chain_zero, chain_end, ltB, d1, d2, t1, t2]⟩ om)
    · refine Dyp 2 rfl (Y.mv rfl) (Dsk 3 rfl (Dsk 4 rfl (Dsk 5 rfl (Dsk 6 rfl (Dsk 7 rfl (Dsk 8 rfl (Dsk 9 rfl (Dsk 10 rfl (Dsk 11 rfl (Dsk 12 rfl (Dyp 13 rfl (Y.pkf rfl rfl) (D.done kr (Et (E.cf rfl (E.skipc (E.bln (Et (Ez Z2 (Ey rfl ((Y.add rfl rfl om om).yd) (Emv rfl rfl ?_))))))))))))))))))))
      exact Eu (E.again br (g + 1) ⟨rfl, rfl, rfl, trivial⟩ (.refl _) ⟨by omega, by grind [chain_step, chain_zero, chain_end, ltB, d1, d2, t1, t2]⟩ om)
  · refine Eu (Eq_ (E.cf rfl (E.exit (E.the (E.the (E.blh (Et (Ew Z1 (Eas rfl rfl ?_)))))))))
    exact Eu (E.ret (Fb rfl rfl (by grind [chain_step, chain_zero, chain_end, ltB, d1, d2, t1, t2])))
theorem t_impl_Method_fits_1 {i : Int} {b_arity : Nat} {arity : Int} : Tr Tryz.prog 330 [.int .i64 i, .pointer (some ⟨b_arity, 0, none⟩)] (fun w L => (I64 i) ∧ RoPt w L b_arity [.int .i64 arity] ∧ -1000 ≤ arity ∧ arity ≤ 1000) [] (κ := Unit) (fun k => True) (fun k => .bool (!inR i 0 (arity - 1))) (fun k => []) := by
  refine Tr.intro Tryz.func330 rfl (n := 9) rfl (by decide +kernel) bl (fr := [(0, .int .i64 i), (1, .pointer (some ⟨b_arity, 0, none⟩))]) rfl fun w L hR => ?_
  obtain ⟨i6i, hb_arity, as0, as1⟩ := hR
  refine Ew Z1 (Eas rfl rfl (Ev Z6 (Emv rfl rfl (Ey rfl (Y.ld1 ty_I rfl (hb_arity.has) rfl) (Ey rfl ((Y.sub rfl rfl om om).yd) (Est rfl (N.call0 t_impl_within rfl rfl rfl dc (fun w Lp hA => trivial)) (fun _ _ => (Ey rfl ((Y.not rfl).yd) (Eas rfl rfl ?_)))))))))
  exact Eu (E.ret (Fb rfl rfl (by grind [d1, d2, t1, t2])))
theorem t_impl_isCost {n : Int} : Tr Tryz.prog 331 [.int .i64 n] (fun w L => True) [] (κ := Unit) (fun k => True) (fun k => .bool (inR n 0 99)) (fun k => []) := by
  refine Tr.intro Tryz.func331 rfl (n := 5) rfl (by decide +kernel) bl (fr := [(0, .int .i64 n)]) rfl fun w L hR => (Ew Z1 (Eas rfl rfl (Ev Z3 (Emv rfl rfl (Est rfl (N.call0 t_impl_within rfl rfl rfl dc (fun w Lp hA => trivial)) (fun _ _ => (Eas rfl rfl ?_)))))))
  exact Eu (E.ret (Fg rfl rfl () rfl rfl))
theorem t_impl_Method_fits {m_Rel : Int} {a_m_Inputs : Option Addr} {m_m_Inputs c_m_Inputs : Nat} {m_Inputs : List Int} {m_Limit : Int} {m_Cost : Int} {m_Quota : Int} {arity : Int} : Tr Tryz.prog 286 [.agg #[.int .i64 m_Rel, .slice a_m_Inputs m_m_Inputs c_m_Inputs, .int .i64 m_Limit, .int .i64 m_Cost, .int .i64 m_Quota], .int .i64 arity] (fun w L => I64 m_Rel ∧ Ro w L eIs [.slice a_m_Inputs m_m_Inputs c_m_Inputs] m_Inputs ∧ I64 m_Limit ∧ I64 m_Cost ∧ I64 m_Quota ∧ -1000 ≤ arity ∧ arity ≤ 1000) [] (κ := Unit) (fun k => True) (fun k => .bool (fitsB (m_Rel, m_Inputs, m_Limit, m_Cost, m_Quota) arity)) (fun k => []) := by
  refine Tr.intro Tryz.func286 rfl (n := 30) rfl (by decide +kernel) bl (fr := [(0, .agg #[.int .i64 m_Rel, .slice a_m_Inputs m_m_Inputs c_m_Inputs, .int .i64 m_Limit, .int .i64 m_Cost, .int .i64 m_Quota]), (1, .int .i64 arity)]) rfl fun w L hR => ?_
  obtain ⟨i6m_Rel, hm_Inputs, i6m_Limit, i6m_Cost, i6m_Quota, as0, as1⟩ := hR
  obtain ⟨rfl, lm_Inputs⟩ := hm_Inputs.slen
  refine Ew Z3 (Est rfl (N.box (cs := [_, _, _, _, _]) rfl dc rfl) (fun b2 _ => (Est rfl (N.box (cs := [_]) rfl dc rfl) (fun b3 _ => (Eas rfl rfl (Ev Z26 (Ey rfl ((Y.fld fo_Method_1 ty_Is dc rfl).yd) (Ey rfl (Y.ld1 ty_Is rfl ((Has.pt (mS m0)).sub (cs' := [_]) 1 rfl) rfl) (Est rfl (N.call0 t_impl_ascending rfl rfl rfl dc (fun w Lp hA => hA.ro hm_Inputs)) (fun _ _ => (Ent.b (fun q7 => ?_) (fun q7 => ?_))))))))))))
  · refine Emv rfl rfl (Ey rfl ((Y.fld fo_Method_1 ty_Is dc rfl).yd) (Ey rfl (Y.ld1 ty_Is rfl ((Has.pt (mS m0)).sub (cs' := [_]) 1 rfl) rfl) (Ey rfl ((Y.fn (vs := [_]) rfl).yd) (Est rfl (N.call0 (t_ContainsFunc_I (f := (fun i => !inR i 0 (arity - 1))) (D_f := (fun _ => True)) (by intros; exact trivial)) rfl rfl rfl dc (fun w Lp hA => ⟨hA.ro hm_Inputs, FnP.ofI (D := (fun _ => True)) (fun hd => t_impl_Method_fits_1) (fun w' hk => ⟨(hA.pt m0).keep hk, (by first | assumption | omega), (by first | assumption | omega)⟩)⟩)) (fun _ _ => (Ent.b (fun q12 => ?_) (fun q12 => ?_)))))))
    · refine Ey rfl ((Y.not (b := true) rfl).yd) (Ey rfl ((Y.pkt rfl rfl).yd) (Emv rfl rfl (Es rfl (Es rfl (Es rfl (Ey rfl ((Y.pkf rfl rfl).yd) (Emv rfl rfl (Es rfl (Es rfl (Es rfl (Ey rfl ((Y.pkf rfl rfl).yd) (Emv rfl rfl (Es rfl (Es rfl ?_))))))))))))))
      refine Es rfl (Ey rfl ((Y.pkf rfl rfl).yd) (Eas rfl rfl ?_))
      exact Eu (E.ret (Fb rfl rfl (by grind [fitsB, okPos, d1, d2, t1, t2])))
    · refine Ey rfl ((Y.not (b := false) rfl).yd) (Ey rfl ((Y.pkt rfl rfl).yd) (Emv rfl rfl (Ey rfl ((Y.fld fo_Method_2 ty_I dc rfl).yd) (Ey rfl (Y.ld1 ty_I rfl ((Has.pt (mS m0)).sub (cs' := [_]) 2 rfl) rfl) (Est rfl (N.call0 t_impl_within rfl rfl rfl dc (fun w Lp hA => trivial)) (fun _ _ => (Ent.b (fun q18 => ?_) (fun q18 => ?_))))))))
      · refine Ey rfl ((Y.pkt rfl rfl).yd) (Emv rfl rfl (Ey rfl ((Y.fld fo_Method_3 ty_I dc rfl).yd) (Ey rfl (Y.ld1 ty_I rfl ((Has.pt (mS m0)).sub (cs' := [_]) 3 rfl) rfl) (Est rfl (N.call0 t_impl_isCost rfl rfl rfl dc (fun w Lp hA => trivial)) (fun _ _ => (Ent.b (fun q23 => ?_) (fun q23 => ?_)))))))
        · refine Ey rfl ((Y.pkt rfl rfl).yd) (Emv rfl rfl (Ey rfl ((Y.fld fo_Method_4 ty_I dc rfl).yd) (Ey rfl (Y.ld1 ty_I rfl ((Has.pt (mS m0)).sub (cs' := [_]) 4 rfl) rfl) (Est rfl (N.call0 t_impl_within rfl rfl rfl dc (fun w Lp hA => trivial)) (fun _ _ => (Ey rfl ((Y.pkt rfl rfl).yd) (Eas rfl rfl ?_)))))))
          exact Eu (E.ret (Fb rfl rfl (by grind [fitsB, okPos, d1, d2, t1, t2])))
        · refine Ey rfl ((Y.pkt rfl rfl).yd) (Emv rfl rfl (Es rfl (Es rfl (Es rfl (Ey rfl ((Y.pkf rfl rfl).yd) (Eas rfl rfl ?_))))))
          exact Eu (E.ret (Fb rfl rfl (by grind [fitsB, okPos, d1, d2, t1, t2])))
      · refine Ey rfl ((Y.pkt rfl rfl).yd) (Emv rfl rfl (Es rfl (Es rfl (Es rfl (Ey rfl ((Y.pkf rfl rfl).yd) (Emv rfl rfl (Es rfl (Es rfl (Es rfl (Ey rfl ((Y.pkf rfl rfl).yd) (Eas rfl rfl ?_)))))))))))
        exact Eu (E.ret (Fb rfl rfl (by grind [fitsB, okPos, d1, d2, t1, t2])))
  · refine Emv rfl rfl (Es rfl (Es rfl (Es rfl (Es rfl (Es rfl (Ey rfl ((Y.pkf rfl rfl).yd) (Emv rfl rfl (Es rfl (Es rfl (Es rfl (Ey rfl ((Y.pkf rfl rfl).yd) (Emv rfl rfl (Es rfl (Es rfl ?_))))))))))))))
    refine Es rfl (Ey rfl ((Y.pkf rfl rfl).yd) (Emv rfl rfl (Es rfl (Es rfl (Es rfl (Ey rfl ((Y.pkf rfl rfl).yd) (Eas rfl rfl ?_)))))))
    exact Eu (E.ret (Fb rfl rfl (by grind [fitsB, okPos, d1, d2, t1, t2])))
theorem t_impl_IsMethod {a_s : Option Addr} {m_s c_s : Nat} {s : List Int} {m_Rel : Int} {a_m_Inputs : Option Addr} {m_m_Inputs c_m_Inputs : Nat} {m_Inputs : List Int} {m_Limit : Int} {m_Cost : Int} {m_Quota : Int} : Tr Tryz.prog 199 [.slice a_s m_s c_s, .agg #[.int .i64 m_Rel, .slice a_m_Inputs m_m_Inputs c_m_Inputs, .int .i64 m_Limit, .int .i64 m_Cost, .int .i64 m_Quota]] (fun w L => Ro w L eIs [.slice a_s m_s c_s] s ∧ I64 m_Rel ∧ Ro w L eIs [.slice a_m_Inputs m_m_Inputs c_m_Inputs] m_Inputs ∧ I64 m_Limit ∧ I64 m_Cost ∧ I64 m_Quota) [] (κ := Unit) (fun k => True) (fun k => .bool (okMeth s (m_Rel, m_Inputs, m_Limit, m_Cost, m_Quota))) (fun k => []) := by
  refine Tr.intro Tryz.func199 rfl (n := 18) rfl (by decide +kernel) bl (fr := [(0, .slice a_s m_s c_s), (1, .agg #[.int .i64 m_Rel, .slice a_m_Inputs m_m_Inputs c_m_Inputs, .int .i64 m_Limit, .int .i64 m_Cost, .int .i64 m_Quota])]) rfl fun w L hR => ?_
  obtain ⟨hs, i6m_Rel, hm_Inputs, i6m_Limit, i6m_Cost, i6m_Quota⟩ := hR
  obtain ⟨rfl, ls⟩ := hs.slen
  obtain ⟨rfl, lm_Inputs⟩ := hm_Inputs.slen
  refine Ew Z2 (Est rfl (N.box (cs := [_, _, _, _, _]) rfl dc rfl) (fun b3 _ => (Eas rfl rfl (Eu (Eq_ (D.region (fun j => true) mixed (Dyp 0 rfl (Y.mv rfl) (Dyp 1 rfl (Y.fld fo_Method_0 ty_I dc rfl) (Dy 2 rfl (Y.ld1 ty_I rfl ((Has.pt m0).sub (cs' := [_]) 0 rfl) rfl) (D.st 3 rfl rfl kr (fun _ => rfl) (N.call0 t_impl_hasRel rfl rfl rfl dc (fun w Lp hA => hA.ro hs)) (fun _ _ => (Ent.b (fun q8 => ?_) (fun q8 => ?_)))))))))))))
  · obtain ⟨z1, z2, z3, z4⟩ := okRel_lt q8
    rw [getD_get om] at z3 z4
    refine Dyp 4 rfl (Y.mv rfl) (Dy 5 rfl (Y.ldS (cs := [_, _, _, _, _]) ty_Method rfl (Has.pt m0) rfl) (Dyp 6 rfl (Y.mv rfl) (Dyp 7 rfl (Y.fld fo_Method_0 ty_I dc rfl) (Dy 8 rfl (Y.ld1 ty_I rfl ((Has.pt m0).sub (cs' := [_]) 0 rfl) rfl) ?_))))
    obtain ⟨eb14, eo14, ea14, ei14, eh14⟩ := hs.elemI m_Rel.toNat om
    refine Dyp 9 rfl (Y.ix us_Is ty_I rfl ea14 rfl m_Rel.toNat om om) (Dy 10 rfl (Y.ld1 ty_I rfl (eh14 _) rfl) (D.st 11 rfl rfl kr (fun _ => rfl) (N.call0 t_impl_Method_fits rfl rfl rfl dc (fun w Lp hA => ⟨i6m_Rel, hA.ro hm_Inputs, i6m_Limit, i6m_Cost, i6m_Quota, (by first | assumption | omega), (by first | assumption | omega)⟩)) (fun _ _ => (Dyp 12 rfl (Y.pkt rfl rfl) (Dyp 13 rfl (Y.as rfl) ?_)))))
    exact D.done kr (Et (E.ret (Fb rfl rfl (by grind [okMeth, at0_get, d1, d2, t1, t2]))))
  · refine Dyp 4 rfl (Y.mv rfl) (Dsk 5 rfl (Dsk 6 rfl (Dsk 7 rfl (Dsk 8 rfl (Dsk 9 rfl (Dsk 10 rfl (Dsk 11 rfl (Dyp 12 rfl (Y.pkf rfl rfl) (Dyp 13 rfl (Y.as rfl) ?_)))))))))
    exact D.done kr (Et (E.ret (Fb rfl rfl (by grind [okMeth, at0_get, d1, d2, t1, t2]))))
theorem t_spec_IsMethod {a_s : Option Addr} {m_s c_s : Nat} {s : List Int} {m_Rel : Int} {a_m_Inputs : Option Addr} {m_m_Inputs c_m_Inputs : Nat} {m_Inputs : List Int} {m_Limit : Int} {m_Cost : Int} {m_Quota : Int} : Tr Tryz.prog 190 [.slice a_s m_s c_s, .agg #[.int .i64 m_Rel, .slice a_m_Inputs m_m_Inputs c_m_Inputs, .int .i64 m_Limit, .int .i64 m_Cost, .int .i64 m_Quota]] (fun w L => Ro w L eIs [.slice a_s m_s c_s] s ∧ I64 m_Rel ∧ Ro w L eIs [.slice a_m_Inputs m_m_Inputs c_m_Inputs] m_Inputs ∧ I64 m_Limit ∧ I64 m_Cost ∧ I64 m_Quota) [] (κ := Unit) (fun k => True) (fun k => .bool (okMeth s (m_Rel, m_Inputs, m_Limit, m_Cost, m_Quota))) (fun k => []) := by
  refine Tr.intro Tryz.func190 rfl (n := 74) rfl (by decide +kernel) bl (fr := [(0, .slice a_s m_s c_s), (1, .agg #[.int .i64 m_Rel, .slice a_m_Inputs m_m_Inputs c_m_Inputs, .int .i64 m_Limit, .int .i64 m_Cost, .int .i64 m_Quota])]) rfl fun w L hR => ?_
  obtain ⟨hs, i6m_Rel, hm_Inputs, i6m_Limit, i6m_Cost, i6m_Quota⟩ := hR
  obtain ⟨rfl, ls⟩ := hs.slen
  obtain ⟨rfl, lm_Inputs⟩ := hm_Inputs.slen
  refine Ew Z2 (Est rfl (N.box (cs := [_, _, _, _, _]) rfl dc rfl) (fun b3 _ => (Eas rfl rfl (Eu (Eq_ (Ew Z30 (Emv rfl rfl (Est rfl (N.call0 t_spec_IsSchema rfl rfl rfl dc (fun w Lp hA => hA.ro hs)) (fun _ _ => (Ent.b (fun q7 => ?_) (fun q7 => ?_)))))))))))
  · refine Ey rfl ((Y.not (b := true) rfl).yd) (Emv rfl rfl (Ey rfl ((Y.fld fo_Method_0 ty_I dc rfl).yd) (Ey rfl (Y.ld1 ty_I rfl ((Has.pt m0).sub (cs' := [_]) 0 rfl) rfl) (Emv rfl rfl (Ey rfl ((Y.len us_Is rfl).yd) (Ey rfl ((Y.sub rfl rfl om om).yd) (Est rfl (N.call0 t_spec_l1In rfl rfl rfl dc (fun w Lp hA => trivial)) (fun _ _ => (Ent.b (fun q15 => ?_) (fun q15 => ?_))))))))))
    · have y1 : okRel s m_Rel = true := by rw [okRel, q7, q15]; rfl
      obtain ⟨z1, z2, z3, z4⟩ := okRel_lt y1
      rw [getD_get om] at z3 z4
      refine Ey rfl ((Y.not (b := true) rfl).yd) (Ey rfl ((Y.pkf rfl rfl).yd) (Emv rfl rfl (Ey rfl ((Y.fld fo_Method_2 ty_I dc rfl).yd) (Ey rfl (Y.ld1 ty_I rfl ((Has.pt m0).sub (cs' := [_]) 2 rfl) rfl) (Est rfl (N.call0 t_spec_l1In rfl rfl rfl dc (fun w Lp hA => trivial)) (fun _ _ => (Ent.b (fun q21 => ?_) (fun q21 => ?_))))))))
      · refine Ey rfl ((Y.not (b := true) rfl).yd) (Ey rfl ((Y.pkf rfl rfl).yd) (Emv rfl rfl (Ey rfl ((Y.fld fo_Method_3 ty_I dc rfl).yd) (Ey rfl (Y.ld1 ty_I rfl ((Has.pt m0).sub (cs' := [_]) 3 rfl) rfl) (Est rfl (N.call0 t_spec_l1In rfl rfl rfl dc (fun w Lp hA => trivial)) (fun _ _ => (Ent.b (fun q27 => ?_) (fun q27 => ?_))))))))
        · refine Ey rfl ((Y.not (b := true) rfl).yd) (Ey rfl ((Y.pkf rfl rfl).yd) (Emv rfl rfl (Ey rfl ((Y.fld fo_Method_4 ty_I dc rfl).yd) (Ey rfl (Y.ld1 ty_I rfl ((Has.pt m0).sub (cs' := [_]) 4 rfl) rfl) (Est rfl (N.call0 t_spec_l1In rfl rfl rfl dc (fun w Lp hA => trivial)) (fun _ _ => (Ent.b (fun q33 => ?_) (fun q33 => ?_))))))))
          · refine Ey rfl ((Y.not (b := true) rfl).yd) (Ey rfl ((Y.pkf rfl rfl).yd) (Eu (E.cf rfl (E.skipc (Et (Eq_ (Ew Z1 (Eas rfl rfl (Eu (E.block (E.loop (κ := Nat) (fun g => g ≤ m_Inputs.length ∧ (okPos m_Inputs (at0 s m_Rel) && chainB ltB m_Inputs) = (okPos (m_Inputs.drop g) (at0 s m_Rel) && chainB ltB (m_Inputs.drop (g - 1)))) (fun g => [(0, .slice a_s s.length c_s), (3, .pointer (some ⟨b3, 0, none⟩)), (5, .int .i64 (g : Int))]) (fun g => [pt b3 130 [.int .i64 m_Rel, .slice a_m_Inputs m_Inputs.length c_m_Inputs, .int .i64 m_Limit, .int .i64 m_Cost, .int .i64 m_Quota]]) (fun g => m_Inputs.length - g) 0 ⟨Nat.zero_le _, by simp⟩ ⟨rfl, rfl, rfl, trivial⟩ (.refl _) (fun g pg => ?_))))))))))))
            obtain ⟨pk, pa⟩ := pg
            refine Eq_ (Ew Z5 (Emv rfl rfl (Ey rfl ((Y.fld fo_Method_1 ty_Is dc rfl).yd) (Ey rfl (Y.ld1 ty_Is rfl ((Has.pt m0).sub (cs' := [_]) 1 rfl) rfl) (Ey rfl ((Y.len us_Is rfl).yd) (Ey rfl ((Y.lss rfl rfl).yd) (Ent.d (fun q40 => ?_) (fun q40 => ?_))))))))
            · refine Eu (E.ct rfl (E.skipc (Et (Eq_ (E.block (Eq_ (D.region (fun j => true) mixed (Dyp 0 rfl (Y.fld fo_Method_1 ty_Is dc rfl) (Dy 1 rfl (Y.ld1 ty_Is rfl ((Has.pt m0).sub (cs' := [_]) 1 rfl) rfl) (Dyp 2 rfl (Y.mv rfl) ?_))))))))))
              obtain ⟨eb46, eo46, ea46, ei46, eh46⟩ := hm_Inputs.elemI g om
              refine Dyp 3 rfl (Y.ix us_Is ty_I rfl ea46 rfl g rfl om) (Dy 4 rfl (Y.ld1 ty_I rfl (eh46 _) rfl) (Dyp 5 rfl (Y.mv rfl) (Dyp 6 rfl (Y.fld fo_Method_0 ty_I dc rfl) (Dy 7 rfl (Y.ld1 ty_I rfl ((Has.pt m0).sub (cs' := [_]) 0 rfl) rfl) ?_))))
              obtain ⟨eb51, eo51, ea51, ei51, eh51⟩ := hs.elemI m_Rel.toNat om
              refine Dyp 8 rfl (Y.ix us_Is ty_I rfl ea51 rfl m_Rel.toNat om om) (Dy 9 rfl (Y.ld1 ty_I rfl (eh51 _) rfl) (Dyp 10 rfl (Y.sub rfl rfl om om) (D.st 11 rfl rfl kr (fun _ => rfl) (N.call0 t_spec_l1In rfl rfl rfl dc (fun w Lp hA => trivial)) (fun _ _ => (Ent.b (fun q54 => ?_) (fun q54 => ?_))))))
              · refine Dyp 12 rfl (Y.not (b := true) rfl) (Dyp 13 rfl (Y.mv rfl) (Dyp 14 rfl (Y.mv rfl) (Dyp 15 rfl (Y.gtr rfl rfl) (Ent.d (fun q58 => ?_) (fun q58 => ?_)))))
                · refine Dyp 16 rfl (Y.mv rfl) (Dyp 17 rfl (Y.fld fo_Method_1 ty_Is dc rfl) (Dy 18 rfl (Y.ld1 ty_Is rfl ((Has.pt m0).sub (cs' := [_]) 1 rfl) rfl) (Dyp 19 rfl (Y.mv rfl) (Dyp 20 rfl (Y.ix us_Is ty_I rfl ea46 rfl g rfl om) (Dy 21 rfl (Y.ld1 ty_I rfl (eh46 _) rfl) (Dyp 22 rfl (Y.fld fo_Method_1 ty_Is dc rfl) (Dy 23 rfl (Y.ld1 ty_Is rfl ((Has.pt m0).sub (cs' := [_]) 1 rfl) rfl) (Dyp 24 rfl (Y.mv rfl) (Dyp 25 rfl (Y.sub rfl rfl om om) ?_)))))))))
                  obtain ⟨eb69, eo69, ea69, ei69, eh69⟩ := hm_Inputs.elemI (g - 1) om
                  refine Dyp 26 rfl (Y.ix us_Is ty_I rfl ea69 rfl (g - 1) om om) (Dy 27 rfl (Y.ld1 ty_I rfl (eh69 _) rfl) (Dyp 28 rfl (Y.leq rfl rfl) (Ent.d (fun q71 => ?_) (fun q71 => ?_))))
                  · refine Dyp 29 rfl (Y.pkt rfl rfl) (Dyp 30 rfl (Y.pkf rfl rfl) (D.done kr (Et (E.ct rfl (Ew Z1 (Eas rfl rfl ?_))))))
                    exact Eu (E.ret (E.blr (E.thr (E.thr (E.blr (E.thr (Fb rfl rfl (by grind [okMeth, fitsB, okRel, at0_get, okPos, chain_step, chain_zero, chain_end, ltB, d1, d2, t1, t2]))))))))
                  · refine Dyp 29 rfl (Y.pkt rfl rfl) (Dyp 30 rfl (Y.pkf rfl rfl) (D.done kr (Et (E.cf rfl (E.skipc (E.bln (Et (Ez Z3 (Emv rfl rfl (Ey rfl ((Y.add rfl rfl om om).yd) (Eas rfl rfl ?_)))))))))))
                    exact Eu (E.again br (g + 1) ⟨rfl, rfl, rfl, trivial⟩ (.refl _) ⟨by omega, by grind [okPos, chain_step, chain_zero, chain_end, ltB, at0_get, d1, d2, t1, t2]⟩ om)
                · refine Dyp 16 rfl (Y.mv rfl) (Dsk 17 rfl (Dsk 18 rfl (Dsk 19 rfl (Dsk 20 rfl (Dsk 21 rfl (Dsk 22 rfl (Dsk 23 rfl (Dsk 24 rfl (Dsk 25 rfl (Dsk 26 rfl (Dsk 27 rfl (Dsk 28 rfl (Dyp 29 rfl (Y.pkf rfl rfl) (Dyp 30 rfl (Y.pkf rfl rfl) ?_))))))))))))))
                  refine D.done kr (Et (E.cf rfl (E.skipc (E.bln (Et (Ez Z3 (Emv rfl rfl (Ey rfl ((Y.add rfl rfl om om).yd) (Eas rfl rfl ?_)))))))))
                  exact Eu (E.again br (g + 1) ⟨rfl, rfl, rfl, trivial⟩ (.refl _) ⟨by omega, by grind [okPos, chain_step, chain_zero, chain_end, ltB, at0_get, d1, d2, t1, t2]⟩ om)
              · refine Dyp 12 rfl (Y.not (b := false) rfl) (Dyp 13 rfl (Y.mv rfl) (Dsk 14 rfl (Dsk 15 rfl (D.sku 16 rfl rfl dc kr (Dsk 17 rfl (Dsk 18 rfl (Dsk 19 rfl (Dsk 20 rfl (Dsk 21 rfl (Dsk 22 rfl (Dsk 23 rfl (Dsk 24 rfl (Dsk 25 rfl (Dsk 26 rfl ?_))))))))))))))
                refine Dsk 27 rfl (Dsk 28 rfl (Dsk 29 rfl (Dyp 30 rfl (Y.pkt rfl rfl) (D.done kr (Et (E.ct rfl (Ew Z1 (Eas rfl rfl ?_))))))))
                exact Eu (E.ret (E.blr (E.thr (E.thr (E.blr (E.thr (Fb rfl rfl (by grind [okMeth, fitsB, okRel, at0_get, okPos, chain_step, chain_zero, chain_end, ltB, d1, d2, t1, t2]))))))))
            · refine Eu (E.cf rfl (E.exit (E.the (E.the (E.blh (Et (Ew Z1 (Eas rfl rfl ?_))))))))
              exact Eu (E.ret (Fb rfl rfl (by grind [okMeth, fitsB, okRel, at0_get, okPos, chain_step, chain_zero, chain_end, ltB, d1, d2, t1, t2])))
          · refine Ey rfl ((Y.not (b := false) rfl).yd) (Ey rfl ((Y.pkf rfl rfl).yd) (Eu (E.ct rfl (Ew Z1 (Eas rfl rfl ?_)))))
            exact Eu (E.ret (E.thr (Fb rfl rfl (by grind [okMeth, fitsB, okRel, at0_get, okPos, chain_step, chain_zero, chain_end, ltB, d1, d2, t1, t2]))))
        · refine Ey rfl ((Y.not (b := false) rfl).yd) (Ey rfl ((Y.pkf rfl rfl).yd) (Emv rfl rfl (Es rfl (Es rfl (Es rfl (Es rfl (Ey rfl ((Y.pkt rfl rfl).yd) (Eu (E.ct rfl (Ew Z1 (Eas rfl rfl ?_)))))))))))
          exact Eu (E.ret (E.thr (Fb rfl rfl (by grind [okMeth, fitsB, okRel, at0_get, okPos, chain_step, chain_zero, chain_end, ltB, d1, d2, t1, t2]))))
      · refine Ey rfl ((Y.not (b := false) rfl).yd) (Ey rfl ((Y.pkf rfl rfl).yd) (Emv rfl rfl (Es rfl (Es rfl (Es rfl (Es rfl (Ey rfl ((Y.pkt rfl rfl).yd) (Emv rfl rfl (Es rfl (Es rfl (Es rfl (Es rfl (Ey rfl ((Y.pkt rfl rfl).yd) (Eu (E.ct rfl (Ew Z1 (Eas rfl rfl ?_)))))))))))))))))
        exact Eu (E.ret (E.thr (Fb rfl rfl (by grind [okMeth, fitsB, okRel, at0_get, okPos, chain_step, chain_zero, chain_end, ltB, d1, d2, t1, t2]))))
    · refine Ey rfl ((Y.not (b := false) rfl).yd) (Ey rfl ((Y.pkf rfl rfl).yd) (Emv rfl rfl (Es rfl (Es rfl (Es rfl (Es rfl (Ey rfl ((Y.pkt rfl rfl).yd) (Emv rfl rfl (Es rfl (Es rfl (Es rfl (Es rfl (Ey rfl ((Y.pkt rfl rfl).yd) (Emv rfl rfl ?_))))))))))))))
      refine Es rfl (Es rfl (Es rfl (Es rfl (Ey rfl ((Y.pkt rfl rfl).yd) (Eu (E.ct rfl (Ew Z1 (Eas rfl rfl ?_))))))))
      exact Eu (E.ret (E.thr (Fb rfl rfl (by grind [okMeth, fitsB, okRel, at0_get, okPos, chain_step, chain_zero, chain_end, ltB, d1, d2, t1, t2]))))
  · refine Ey rfl ((Y.not (b := false) rfl).yd) (Emv rfl rfl (Es rfl (Es rfl (Es rfl (Es rfl (Es rfl (Es rfl (Es rfl (Ey rfl ((Y.pkt rfl rfl).yd) (Emv rfl rfl (Es rfl (Es rfl (Es rfl (Es rfl ?_))))))))))))))
    refine Ey rfl ((Y.pkt rfl rfl).yd) (Emv rfl rfl (Es rfl (Es rfl (Es rfl (Es rfl (Ey rfl ((Y.pkt rfl rfl).yd) (Emv rfl rfl (Es rfl (Es rfl (Es rfl (Es rfl (Ey rfl ((Y.pkt rfl rfl).yd) (Eu (E.ct rfl (Ew Z1 (Eas rfl rfl ?_))))))))))))))))
    exact Eu (E.ret (E.thr (Fb rfl rfl (by grind [okMeth, fitsB, okRel, at0_get, okPos, chain_step, chain_zero, chain_end, ltB, d1, d2, t1, t2]))))
theorem t_impl_AreMethods_1 {m_Rel : Int} {a_m_Inputs : Option Addr} {m_m_Inputs c_m_Inputs : Nat} {m_Inputs : List Int} {m_Limit : Int} {m_Cost : Int} {m_Quota : Int} {b_s : Nat} {a_s : Option Addr} {m_s c_s : Nat} {s : List Int} : Tr Tryz.prog 198 [.agg #[.int .i64 m_Rel, .slice a_m_Inputs m_m_Inputs c_m_Inputs, .int .i64 m_Limit, .int .i64 m_Cost, .int .i64 m_Quota], .pointer (some ⟨b_s, 0, none⟩)] (fun w L => (I64 m_Rel ∧ Ro w L eIs [.slice a_m_Inputs m_m_Inputs c_m_Inputs] m_Inputs ∧ I64 m_Limit ∧ I64 m_Cost ∧ I64 m_Quota) ∧ RoPt w L b_s [.slice a_s m_s c_s] ∧ Ro w L eIs [.slice a_s m_s c_s] s) [] (κ := Unit) (fun k => True) (fun k => .bool (!okMeth s (m_Rel, m_Inputs, m_Limit, m_Cost, m_Quota))) (fun k => []) := by
  refine Tr.intro Tryz.func198 rfl (n := 8) rfl (by decide +kernel) bl (fr := [(0, .agg #[.int .i64 m_Rel, .slice a_m_Inputs m_m_Inputs c_m_Inputs, .int .i64 m_Limit, .int .i64 m_Cost, .int .i64 m_Quota]), (1, .pointer (some ⟨b_s, 0, none⟩))]) rfl fun w L hR => ?_
  obtain ⟨⟨i6m_Rel, hm_Inputs, i6m_Limit, i6m_Cost, i6m_Quota⟩, hb_s, hs⟩ := hR
  obtain ⟨rfl, lm_Inputs⟩ := hm_Inputs.slen
  obtain ⟨rfl, ls⟩ := hs.slen
  refine Ew Z2 (Est rfl (N.box (cs := [_, _, _, _, _]) rfl dc rfl) (fun b2 _ => (Eas rfl rfl (Ev Z5 (Ey rfl (Y.ld1 ty_Is rfl (hb_s.has) rfl) (Ey rfl (Y.ldS (cs := [_, _, _, _, _]) ty_Method rfl (Has.pt m0) rfl) (Est rfl (N.call0 t_impl_IsMethod rfl rfl rfl dc (fun w Lp hA => ⟨hA.ro hs, i6m_Rel, hA.ro hm_Inputs, i6m_Limit, i6m_Cost, i6m_Quota⟩)) (fun _ _ => (Ey rfl ((Y.not rfl).yd) (Eas rfl rfl ?_))))))))))
  exact Eu (E.ret (Fb rfl rfl (by grind [d1, d2, t1, t2])))
theorem t_impl_AreMethods {a_s : Option Addr} {m_s c_s : Nat} {s : List Int} {a_l : Option Addr} {m_l c_l : Nat} {l : List (Int × List Int × Int × Int × Int)} : Tr Tryz.prog 93 [.slice a_s m_s c_s, .slice a_l m_l c_l] (fun w L => Ro w L eIs [.slice a_s m_s c_s] s ∧ Ro w L eMethods [.slice a_l m_l c_l] l) [] (κ := Unit) (fun k => True) (fun k => .bool (okMeths s l)) (fun k => []) := by
  refine Tr.intro Tryz.func93 rfl (n := 18) rfl (by decide +kernel) bl (fr := [(0, .slice a_s m_s c_s), (1, .slice a_l m_l c_l)]) rfl fun w L hR => ?_
  obtain ⟨hs, hl⟩ := hR
  obtain ⟨rfl, ls⟩ := hs.slen
  obtain ⟨rfl, ll⟩ := hl.slen
  refine Ew Z2 (Est rfl (N.box (cs := [_]) rfl dc rfl) (fun b2 _ => (Eas rfl rfl (Ev Z14 (Ey rfl (Y.ld1 ty_Is rfl (Has.pt m0) rfl) (Est rfl (N.call0 t_impl_IsSchema rfl rfl rfl dc (fun w Lp hA => hA.ro hs)) (fun _ _ => (Ent.b (fun q6 => ?_) (fun q6 => ?_)))))))))
  · refine Emv rfl rfl (Emv rfl rfl (Ey rfl ((Y.len us_Methods rfl).yd) (Ey rfl ((Y.leq rfl rfl).yd) (Ent.d (fun q10 => ?_) (fun q10 => ?_)))))
    · refine Ey rfl ((Y.pkt rfl rfl).yd) (Emv rfl rfl (Emv rfl rfl (Ey rfl ((Y.fn (vs := [_]) rfl).yd) (Est rfl (N.call0 (t_ContainsFunc_Method (f := (fun z => !okMeth s z)) (D_f := (fun _ => True)) (by intros; exact trivial)) rfl rfl rfl dc (fun w Lp hA => ⟨hA.ro hl, FnP.ofMethod (D := (fun _ => True)) (fun hd => t_impl_AreMethods_1) (fun w' hk => ⟨(hA.pt m0).keep hk, (hA.ro hs).keep hk⟩)⟩)) (fun _ _ => (Ey rfl ((Y.not rfl).yd) (Ey rfl ((Y.pkt rfl rfl).yd) (Eas rfl rfl ?_))))))))
      exact Eu (E.ret (Fb rfl rfl (by grind [okMeths, d1, d2, t1, t2])))
    · refine Ey rfl ((Y.pkt rfl rfl).yd) (Emv rfl rfl (Es rfl (Es rfl (Es rfl (Es rfl (Ey rfl ((Y.pkf rfl rfl).yd) (Eas rfl rfl ?_)))))))
      exact Eu (E.ret (Fb rfl rfl (by grind [okMeths, d1, d2, t1, t2])))
  · refine Emv rfl rfl (Es rfl (Es rfl (Es rfl (Ey rfl ((Y.pkf rfl rfl).yd) (Emv rfl rfl (Es rfl (Es rfl (Es rfl (Es rfl (Ey rfl ((Y.pkf rfl rfl).yd) (Eas rfl rfl ?_)))))))))))
    exact Eu (E.ret (Fb rfl rfl (by grind [okMeths, d1, d2, t1, t2])))
theorem t_spec_AreMethods {a_s : Option Addr} {m_s c_s : Nat} {s : List Int} {a_l : Option Addr} {m_l c_l : Nat} {l : List (Int × List Int × Int × Int × Int)} : Tr Tryz.prog 85 [.slice a_s m_s c_s, .slice a_l m_l c_l] (fun w L => Ro w L eIs [.slice a_s m_s c_s] s ∧ Ro w L eMethods [.slice a_l m_l c_l] l) [] (κ := Unit) (fun k => True) (fun k => .bool (okMeths s l)) (fun k => []) := by
  refine Tr.intro Tryz.func85 rfl (n := 26) rfl (by decide +kernel) bl (fr := [(0, .slice a_s m_s c_s), (1, .slice a_l m_l c_l)]) rfl fun w L hR => ?_
  obtain ⟨hs, hl⟩ := hR
  obtain ⟨rfl, ls⟩ := hs.slen
  obtain ⟨rfl, ll⟩ := hl.slen
  refine Ew Z1 (Eas rfl rfl (Eu (Eq_ (Ew Z1 (Eas rfl rfl (Eu (E.block (E.loop (κ := Nat) (fun g => g ≤ l.length ∧ l.any (fun m => !okMeth s m) = (l.drop g).any (fun m => !okMeth s m)) (fun g => [(0, .slice a_s s.length c_s), (1, .slice a_l l.length c_l), (5, .int .i64 (g : Int))]) (fun g => []) (fun g => l.length - g) 0 ⟨Nat.zero_le _, by simp⟩ ⟨rfl, rfl, rfl, trivial⟩ (.refl _) (fun g pg => ?_)))))))))
  obtain ⟨pk, pa⟩ := pg
  refine Eq_ (Ew Z4 (Emv rfl rfl (Emv rfl rfl (Ey rfl ((Y.len us_Methods rfl).yd) (Ey rfl ((Y.lss rfl rfl).yd) (Ent.d (fun q9 => ?_) (fun q9 => ?_)))))))
  · refine Eu (E.ct rfl (E.skipc (Et (Eq_ (E.block (Ew Z7 (Emv rfl rfl (Emv rfl rfl (Emv rfl rfl ?_)))))))))
    obtain ⟨eb15, eo15, ec15, ea15, er15, el15, eh15⟩ := hl.elem g om
    obtain ⟨xa15_0, xc15_0, rfl, ei15_0, xh15_0, ei15_2, ei15_3, ei15_4⟩ := Ro.pMethod er15
    have := xh15_0.slen.2
    refine Ey rfl ((Y.ix us_Methods ty_Method rfl ea15 rfl g rfl om).yd) (Ey rfl (Y.ldS (cs := [_, _, _, _, _]) ty_Method rfl (eh15 _) rfl) (Est rfl (N.call0 t_spec_IsMethod rfl rfl rfl dc (fun w Lp hA => ⟨hA.ro hs, ei15_0, hA.ro xh15_0, ei15_2, ei15_3, ei15_4⟩)) (fun _ _ => (Ent.b (fun q17 => ?_) (fun q17 => ?_)))))
    · refine Ey rfl ((Y.not (b := true) rfl).yd) (Eu (E.cf rfl (E.skipc (E.bln (Et (Ez Z3 (Emv rfl rfl (Ey rfl ((Y.add rfl rfl om om).yd) (Eas rfl rfl ?_)))))))))
      exact Eu (E.again br (g + 1) ⟨rfl, rfl, rfl, trivial⟩ (.refl _) ⟨by omega, by grind [d1, d2, t1, t2]⟩ om)
    · refine Ey rfl ((Y.not (b := false) rfl).yd) (Eu (E.ct rfl (Ew Z1 (Eas rfl rfl ?_))))
      exact Eu (E.ret (E.blr (E.thr (E.thr (E.blr (E.thr (Fb rfl rfl (by grind [okMeths, d1, d2, t1, t2]))))))))
  · refine Eu (E.cf rfl (E.exit (E.the (E.the (E.blh (Et (Ew Z8 (Emv rfl rfl (Est rfl (N.call0 t_spec_IsSchema rfl rfl rfl dc (fun w Lp hA => hA.ro hs)) (fun _ _ => (Ent.b (fun q20 => ?_) (fun q20 => ?_))))))))))))
    · refine Emv rfl rfl (Emv rfl rfl (Ey rfl ((Y.len us_Methods rfl).yd) (Ey rfl ((Y.leq rfl rfl).yd) (Ey rfl ((Y.pkt rfl rfl).yd) (Eas rfl rfl ?_)))))
      exact Eu (E.ret (Fb rfl rfl (by grind [okMeths, d1, d2, t1, t2])))
    · refine Emv rfl rfl (Es rfl (Es rfl (Es rfl (Ey rfl ((Y.pkf rfl rfl).yd) (Eas rfl rfl ?_)))))
      exact Eu (E.ret (Fb rfl rfl (by grind [okMeths, d1, d2, t1, t2])))
theorem t_impl_hasAccess_1 {x_Method : Int} {a_x_Values : Option Addr} {m_x_Values c_x_Values : Nat} {x_Values : List Int} {b_a : Nat} {a_Method : Int} {a_a_Values : Option Addr} {m_a_Values c_a_Values : Nat} {a_Values : List Int} : Tr Tryz.prog 280 [.agg #[.int .i64 x_Method, .slice a_x_Values m_x_Values c_x_Values], .pointer (some ⟨b_a, 0, none⟩)] (fun w L => (I64 x_Method ∧ Ro w L eIs [.slice a_x_Values m_x_Values c_x_Values] x_Values) ∧ RoPt w L b_a [.int .i64 a_Method, .slice a_a_Values m_a_Values c_a_Values] ∧ I64 a_Method ∧ Ro w L eIs [.slice a_a_Values m_a_Values c_a_Values] a_Values) [] (κ := Unit) (fun k => True) (fun k => .bool (decide ((x_Method, x_Values) = (a_Method, a_Values)))) (fun k => []) := by
  refine Tr.intro Tryz.func280 rfl (n := 7) rfl (by decide +kernel) bl (fr := [(0, .agg #[.int .i64 x_Method, .slice a_x_Values m_x_Values c_x_Values]), (1, .pointer (some ⟨b_a, 0, none⟩))]) rfl fun w L hR => ?_
  obtain ⟨⟨i6x_Method, hx_Values⟩, hb_a, i6a_Method, ha_Values⟩ := hR
  obtain ⟨rfl, lx_Values⟩ := hx_Values.slen
  obtain ⟨rfl, la_Values⟩ := ha_Values.slen
  refine Ew Z2 (Est rfl (N.box (cs := [_, _]) rfl dc rfl) (fun b2 _ => (Eas rfl rfl (Ev Z4 (Ey rfl (Y.ldS (cs := [_, _]) ty_Access rfl (Has.pt m0) rfl) (Ey rfl (Y.ldS (cs := [_, _]) ty_Access rfl (hb_a.has) rfl) (Est rfl (N.call0 t_impl_sameAccess rfl rfl rfl dc (fun w Lp hA => ⟨⟨i6x_Method, hA.ro hx_Values, i6a_Method, hA.ro ha_Values⟩, trivial⟩)) (fun _ _ => (Eas rfl rfl ?_)))))))))
  exact Eu (E.ret (Fg rfl rfl () rfl rfl))
theorem t_impl_hasAccess {a_l : Option Addr} {m_l c_l : Nat} {l : List (Int × List Int)} {a_Method : Int} {a_a_Values : Option Addr} {m_a_Values c_a_Values : Nat} {a_Values : List Int} : Tr Tryz.prog 185 [.slice a_l m_l c_l, .agg #[.int .i64 a_Method, .slice a_a_Values m_a_Values c_a_Values]] (fun w L => Ro w L eAccesss [.slice a_l m_l c_l] l ∧ I64 a_Method ∧ Ro w L eIs [.slice a_a_Values m_a_Values c_a_Values] a_Values) [] (κ := Unit) (fun k => True) (fun k => .bool (hasA l (a_Method, a_Values))) (fun k => []) := by
  refine Tr.intro Tryz.func185 rfl (n := 8) rfl (by decide +kernel) bl (fr := [(0, .slice a_l m_l c_l), (1, .agg #[.int .i64 a_Method, .slice a_a_Values m_a_Values c_a_Values])]) rfl fun w L hR => ?_
  obtain ⟨hl, i6a_Method, ha_Values⟩ := hR
  obtain ⟨rfl, ll⟩ := hl.slen
  obtain ⟨rfl, la_Values⟩ := ha_Values.slen
  refine Ew Z2 (Est rfl (N.box (cs := [_, _]) rfl dc rfl) (fun b3 _ => (Eas rfl rfl (Ev Z4 (Emv rfl rfl (Ey rfl ((Y.fn (vs := [_]) rfl).yd) (Est rfl (N.call0 (t_ContainsFunc_Access (f := (fun z => decide (z = (a_Method, a_Values)))) (D_f := (fun _ => True)) (by intros; exact trivial)) rfl rfl rfl dc (fun w Lp hA => ⟨hA.ro hl, FnP.ofAccess (D := (fun _ => True)) (fun hd => t_impl_hasAccess_1) (fun w' hk => ⟨(hA.pt m0).keep hk, i6a_Method, (hA.ro ha_Values).keep hk⟩)⟩)) (fun _ _ => (Eas rfl rfl ?_)))))))))
  exact Eu (E.ret (Fb rfl rfl (by rfl)))
theorem t_spec_l7Logged {a_log : Option Addr} {m_log c_log : Nat} {log : List (Int × List Int)} {a_Method : Int} {a_a_Values : Option Addr} {m_a_Values c_a_Values : Nat} {a_Values : List Int} : Tr Tryz.prog 136 [.slice a_log m_log c_log, .agg #[.int .i64 a_Method, .slice a_a_Values m_a_Values c_a_Values]] (fun w L => Ro w L eAccesss [.slice a_log m_log c_log] log ∧ I64 a_Method ∧ Ro w L eIs [.slice a_a_Values m_a_Values c_a_Values] a_Values) [] (κ := Unit) (fun k => True) (fun k => .bool (hasA log (a_Method, a_Values))) (fun k => []) := by
  refine Tr.intro Tryz.func136 rfl (n := 18) rfl (by decide +kernel) bl (fr := [(0, .slice a_log m_log c_log), (1, .agg #[.int .i64 a_Method, .slice a_a_Values m_a_Values c_a_Values])]) rfl fun w L hR => ?_
  obtain ⟨hlog, i6a_Method, ha_Values⟩ := hR
  obtain ⟨rfl, llog⟩ := hlog.slen
  obtain ⟨rfl, la_Values⟩ := ha_Values.slen
  refine Ew Z2 (Est rfl (N.box (cs := [_, _]) rfl dc rfl) (fun b3 _ => (Eas rfl rfl (Eu (Eq_ (Ew Z1 (Eas rfl rfl (Eu (E.block (E.loop (κ := Nat) (fun g => g ≤ log.length ∧ hasA log (a_Method, a_Values) = hasA (log.drop g) (a_Method, a_Values)) (fun g => [(0, .slice a_log log.length c_log), (3, .pointer (some ⟨b3, 0, none⟩)), (5, .int .i64 (g : Int))]) (fun g => [pt b3 169 [.int .i64 a_Method, .slice a_a_Values a_Values.length c_a_Values]]) (fun g => log.length - g) 0 ⟨Nat.zero_le _, by simp⟩ ⟨rfl, rfl, rfl, trivial⟩ (.refl _) (fun g pg => ?_)))))))))))
  obtain ⟨pk, pa⟩ := pg
  refine Eq_ (Ew Z4 (Emv rfl rfl (Emv rfl rfl (Ey rfl ((Y.len us_Accesss rfl).yd) (Ey rfl ((Y.lss rfl rfl).yd) (Ent.d (fun q9 => ?_) (fun q9 => ?_)))))))
  · refine Eu (E.ct rfl (E.skipc (Et (Eq_ (E.block (Eq_ (D.region (fun j => true) mixed (Dyp 0 rfl (Y.mv rfl) (Dyp 1 rfl (Y.mv rfl) ?_)))))))))
    obtain ⟨eb14, eo14, ec14, ea14, er14, el14, eh14⟩ := hlog.elem g om
    obtain ⟨xa14_0, xc14_0, rfl, ei14_0, xh14_0⟩ := Ro.pAccess er14
    have := xh14_0.slen.2
    refine Dyp 2 rfl (Y.ix us_Accesss ty_Access rfl ea14 rfl g rfl om) (Dy 3 rfl (Y.ldS (cs := [_, _]) ty_Access rfl (eh14 _) rfl) (Dy 4 rfl (Y.ldS (cs := [_, _]) ty_Access rfl (Has.pt m0) rfl) (D.st 5 rfl rfl kr (fun _ => rfl) (N.call0 t_spec_l5Same rfl rfl rfl dc (fun w Lp hA => ⟨ei14_0, hA.ro xh14_0, i6a_Method, hA.ro ha_Values⟩)) (fun _ _ => (Ent.b (fun q17 => ?_) (fun q17 => ?_))))))
    · refine D.done kr (Et (E.ct rfl (Ew Z1 (Eas rfl rfl ?_))))
      exact Eu (E.ret (E.blr (E.thr (E.thr (E.blr (E.thr (Fb rfl rfl (by grind [hasA, d1, d2, t1, t2]))))))))
    · refine D.done kr (Et (E.cf rfl (E.skipc (E.bln (Et (Ez Z3 (Emv rfl rfl (Ey rfl ((Y.add rfl rfl om om).yd) (Eas rfl rfl ?_)))))))))
      exact Eu (E.again br (g + 1) ⟨rfl, rfl, rfl, trivial⟩ (.refl _) ⟨by omega, by grind [hasA, d1, d2, t1, t2]⟩ om)
  · refine Eu (E.cf rfl (E.exit (E.the (E.the (E.blh (Et (Ew Z1 (Eas rfl rfl ?_))))))))
    exact Eu (E.ret (Fb rfl rfl (by grind [hasA, d1, d2, t1, t2])))
theorem t_spec_l8Access {m : Int} {a_values : Option Addr} {m_values c_values : Nat} {values : List Int} (hz : values.length ≤ 1048576) : Tr Tryz.prog 175 [.int .i64 m, .slice a_values m_values c_values] (fun w L => I64 m ∧ Ro w L eIs [.slice a_values m_values c_values] values) [] (κ := Option Addr × Nat × Nat) (fun k => True) (fun k => .agg #[.int .i64 m, .slice k.1 k.2.1 k.2.2]) (fun k => [ow eIs [.slice k.1 k.2.1 k.2.2] values]) := by
  refine Tr.intro Tryz.func175 rfl (n := 10) rfl (by decide +kernel) bl (fr := [(0, .int .i64 m), (1, .slice a_values m_values c_values)]) rfl fun w L hR => ?_
  obtain ⟨i6m, hvalues⟩ := hR
  obtain ⟨rfl, lvalues⟩ := hvalues.slen
  refine Ew Z1 (Est rfl (N.alloc ty_Access dc) (fun b4 _ => (Ev Z6 (Emv rfl rfl (Est rfl (N.bsl (pvs := []) (cs := []) us_Is ty_I rfl dc dc (fillZ rfl rfl) rfl dc) (fun b6 _ => (Ent.drop (Emv rfl rfl (Est rfl (N.pushR0 (E := Enc.int) Plain.int us_Is ty_I rfl rfl rfl hvalues bn bn dc) (fun p8 _ => (Ey rfl ((Y.bld (pvs := [_, _]) (cs := [_, _]) ty_Access pl_Access rfl rfl).yd) (Ent.p1 (Est rfl (N.sto (vs := [_, _]) (cs' := [_, _]) ty_Access rfl rfl rfl rfl rfl bl rfl) (fun _ _ => (Eu (E.ret (Ent.p1 ?_)))))))))))))))))
  exact F.c1 br rfl rfl (mS m0) ty_Access rfl (_, _, _) trivial rfl (J := _) (.refl _) (.inl rfl)
theorem t_impl_lists {a_values : Option Addr} {m_values c_values : Nat} {values : List Int} {n : Int} (hv : values.length ≤ 10) (hn : 0 ≤ n ∧ n ≤ 3) : Tr Tryz.prog 345 [.slice a_values m_values c_values, .int .i64 n] (fun w L => Ro w L eIs [.slice a_values m_values c_values] values) [] (κ := Option Addr × Nat × Nat) (fun k => True) (fun k => .slice k.1 k.2.1 k.2.2) (fun k => [ow eIss [.slice k.1 k.2.1 k.2.2] (listsF values n.toNat)]) := by
  refine Tr.intro Tryz.func345 rfl (n := 42) rfl (by decide +kernel) bl (fr := [(0, .slice a_values m_values c_values), (1, .int .i64 n)]) rfl fun w L hR => ?_
  have hvalues := hR
  obtain ⟨rfl, lvalues⟩ := hvalues.slen
  have ji := hvalues.i64
  refine Ew Z1 (Eas rfl rfl (Ev Z3 (Est rfl (N.bsl (pvs := []) (cs := []) us_Is ty_I rfl dc dc (fillZ rfl rfl) rfl dc) (fun b11 _ => (Ent.drop (Est rfl (N.bsl (pvs := [_]) (cs := [_]) us_Iss ty_Is rfl dc dc (fillZ rfl rfl) rfl dc) (fun b12 _ => (Ent.mkow (A := _ :: _) (Own.row1 (E := eIs) (e := tIs) Own.nil) rfl (Eas rfl rfl (Eu (Eq_ (Ew Z2 (Emv rfl rfl (Emv rfl rfl (Eu (E.block (Ent.cv (congrArg (ow eIss [_]) (show [[]] = listsF values 0 from by first | rfl | (simp; done) | grind [listsF, lists_len, lists_mem, d1, d2, t1, t2])) (E.loop (κ := Nat × Option Addr × Nat × Nat) (fun t => t.1 ≤ n.toNat ∧ True) (fun t => [(0, .slice a_values values.length c_values), (5, .slice t.2.1 t.2.2.1 t.2.2.2), (13, .int .i64 n), (14, .int .i64 (↑t.1 : Int))]) (fun t => [ow eIss [.slice t.2.1 t.2.2.1 t.2.2.2] (listsF values t.1)]) (fun t => n.toNat - t.1) (0, (some ⟨b12, 0, none⟩), 1, 1) ⟨Nat.zero_le _, by simp⟩ ⟨rfl, rfl, rfl, rfl, trivial⟩ (.refl _) (fun t pt => ?_)))))))))))))))))))
  obtain ⟨t, aA0_0, mA0_0, cA0_0⟩ := t
  try dsimp only at pt
  try dsimp only
  obtain ⟨pk, pa⟩ := pt
  refine Ent.lenow m0 fun eaA0_0 laA0_0 => ?_
  subst eaA0_0
  have jl := lists_le (values := values) (t := t) hv om
  refine Ew Z1 (Ey rfl ((Y.lss rfl rfl).yd) (Ent.d (fun q15 => ?_) (fun q15 => ?_)))
  · refine Ent.rebase (A := [_]) rfl fun wb1 Lb1 hB1 hA1 => ?_
    have hvalues := hA1.ro hvalues
    have rb1 : Ro wb1 Lb1 eIss [.slice aA0_0 (listsF values t).length cA0_0] (listsF values t) := hA1.ow m0
    refine Eu (Eq_ (E.ct rfl (E.skipc (Et (Eq_ (E.block (Ew Z2 (Est rfl (N.bsl (pvs := []) (cs := []) us_Iss ty_Is rfl dc dc (fillZ rfl rfl) rfl dc) (fun b16 _ => (Ent.drop (Eas rfl rfl (Eu (Eq_ (Ew Z3 (Emv rfl rfl (Ey rfl ((Y.len us_Iss rfl).yd) (Emv rfl rfl (Eu (E.block (Ent.mkow (A := []) (Own.nil (E := eIs) (e := tIs) (a := (some ⟨b16, 0, none⟩))) rfl (Ent.cv (congrArg (ow eIss [_]) (show [] = ((listsF values t).take 0).flatMap (fun l => values.map (fun v => l ++ [v])) from by first | rfl | (simp; done) | grind [listsF, lists_len, lists_mem, d1, d2, t1, t2])) (E.loop (κ := Nat × Option Addr × Nat × Nat) (fun k => k.1 ≤ (listsF values t).length ∧ True) (fun k => [(0, .slice a_values values.length c_values), (6, .slice k.2.1 k.2.2.1 k.2.2.2), (13, .int .i64 n), (14, .int .i64 (t : Int)), (17, .slice aA0_0 (listsF values t).length cA0_0), (18, .int .i64 (↑((listsF values t).length) : Int)), (19, .int .i64 (↑k.1 : Int))]) (fun k => [ow eIss [.slice k.2.1 k.2.2.1 k.2.2.2] (((listsF values t).take k.1).flatMap (fun l => values.map (fun v => l ++ [v])))]) (fun k => (listsF values t).length - k.1) (0, (some ⟨b16, 0, none⟩), 0, 0) ⟨Nat.zero_le _, by simp⟩ ⟨rfl, rfl, rfl, rfl, rfl, rfl, rfl, trivial⟩ (.refl _) (fun k pk => ?_)))))))))))))))))))))))
    obtain ⟨k, aA1_0, mA1_0, cA1_0⟩ := k
    try dsimp only at pk
    try dsimp only
    obtain ⟨pk, pa⟩ := pk
    refine Ent.lenow m0 fun eaA1_0 laA1_0 => ?_
    subst eaA1_0
    have jk := take_flat_le (values := values) (l := listsF values t) (k := k) hv
    refine Ew Z1 (Ey rfl ((Y.lss rfl rfl).yd) (Ent.d (fun q20 => ?_) (fun q20 => ?_)))
    · obtain ⟨eb21, eo21, ec21, ea21, er21, el21, eh21⟩ := rb1.elem k om
      obtain ⟨xa21, xc21, rfl⟩ := er21.sl
      have := er21.slen.2
      refine Eu (Eq_ (E.ct rfl (E.skipc (Et (Eq_ (E.block (Ew Z3 (Ey rfl ((Y.ix us_Iss ty_Is rfl ea21 rfl k rfl om).yd) (Ey rfl (Y.ld1 ty_Is rfl (eh21 _) rfl) (Eas rfl rfl (Ev Z3 (Emv rfl rfl (Ey rfl ((Y.len us_Is rfl).yd) (Emv rfl rfl (Eu (E.block (Ent.cv (congrArg (ow eIss [_]) (show ((listsF values t).take k).flatMap (fun l => values.map (fun v => l ++ [v])) = ((listsF values t).take k).flatMap (fun l => values.map (fun v => l ++ [v])) ++ (values.take 0).map (fun v => (listsF values t)[k] ++ [v]) from by first | rfl | (simp; done) | grind [listsF, lists_len, lists_mem, d1, d2, t1, t2])) (E.loop (κ := Nat × Option Addr × Nat × Nat) (fun j => j.1 ≤ values.length ∧ True) (fun j => [(0, .slice a_values values.length c_values), (6, .slice j.2.1 j.2.2.1 j.2.2.2), (8, .slice xa21 ((listsF values t)[k].length) xc21), (13, .int .i64 n), (14, .int .i64 (t : Int)), (17, .slice aA0_0 (listsF values t).length cA0_0), (18, .int .i64 (↑((listsF values t).length) : Int)), (19, .int .i64 (k : Int)), (23, .slice a_values values.length c_values), (24, .int .i64 (↑values.length : Int)), (25, .int .i64 (↑j.1 : Int))]) (fun j => [ow eIss [.slice j.2.1 j.2.2.1 j.2.2.2] (((listsF values t).take k).flatMap (fun l => values.map (fun v => l ++ [v])) ++ (values.take j.1).map (fun v => (listsF values t)[k] ++ [v]))]) (fun j => values.length - j.1) (0, aA1_0, (((listsF values t).take k).flatMap (fun l => values.map (fun v => l ++ [v]))).length, cA1_0) ⟨Nat.zero_le _, by simp⟩ ⟨rfl, rfl, rfl, rfl, rfl, rfl, rfl, rfl, rfl, rfl, rfl, trivial⟩ (.refl _) (fun j pj => ?_)))))))))))))))))))
      obtain ⟨j, aA2_0, mA2_0, cA2_0⟩ := j
      try dsimp only at pj
      try dsimp only
      obtain ⟨pk, pa⟩ := pj
      have jm := lists_mem (values := values) (t := t) _ (List.getElem_mem (l := listsF values t) (n := k) om)
      refine Ent.lenow m0 fun eaA2_0 laA2_0 => ?_
      subst eaA2_0
      refine Ew Z1 (Ey rfl ((Y.lss rfl rfl).yd) (Ent.d (fun q26 => ?_) (fun q26 => ?_)))
      · obtain ⟨eb27, eo27, ea27, ei27, eh27⟩ := hvalues.elemI j om
        refine Eu (Eq_ (E.ct rfl (E.skipc (Et (Eq_ (E.block (Ew Z3 (Ey rfl ((Y.ix us_Is ty_I rfl ea27 rfl j rfl om).yd) (Ey rfl (Y.ld1 ty_I rfl (eh27 _) rfl) (Eas rfl rfl (Eu (Ez Z9 (Emv rfl rfl (Emv rfl rfl (Est rfl (N.call (t_Clone_Is fc) rfl rfl rfl dc rfl (fun w Lp hA => hA.ro er21)) (fun k31 _ => ?_))))))))))))))))
        obtain ⟨a31, m31, c31⟩ := k31
        refine Ent.lenow m0 fun e31 l31 => ?_
        subst e31
        refine Emv rfl rfl (Est rfl (N.bsl (pvs := [_]) (cs := [_]) us_Is ty_I rfl dc dc (fillZ rfl rfl) rfl dc) (fun b33 _ => (Ent.p1 (Est rfl (N.push (E := Enc.int) (ex := values[j]) us_Is ty_I rfl rfl rfl (Own.int ei27) rfl bn bn dc) (fun p34 _ => (Est rfl (N.bsl (pvs := [_]) (cs := [_]) us_Iss ty_Is rfl dc dc (fillZ rfl rfl) rfl dc) (fun b35 _ => (Ent.p1 (Ent.p1 (Ent.p2 (Est rfl (N.push (E := eIs) (ex := ((listsF values t)[k]) ++ [values[j]]) us_Iss ty_Is rfl rfl rfl Own.ow rfl bn bn dc) (fun p36 _ => (Eas rfl rfl (En (E.bln (Et (Ez Z2 (Ey rfl ((Y.add rfl rfl om om).yd) (Emv rfl rfl (Eu (Ent.cv (congrArg (ow eIss [_]) (show (((listsF values t).take k).flatMap (fun l => values.map (fun v => l ++ [v])) ++ (values.take j).map (fun v => (listsF values t)[k] ++ [v])) ++ [((listsF values t)[k]) ++ [values[j]]] = ((listsF values t).take k).flatMap (fun l => values.map (fun v => l ++ [v])) ++ (values.take (j + 1)).map (fun v => (listsF values t)[k] ++ [v]) from by grind [listsF, lists_len, lists_mem, d1, d2, t1, t2])) ?_)))))))))))))))))))))
        exact E.again br (j + 1, p36.1, ((((listsF values t).take k).flatMap (fun l => values.map (fun v => l ++ [v])) ++ (values.take j).map (fun v => (listsF values t)[k] ++ [v])).length + 1), p36.2) ⟨rfl, rfl, rfl, rfl, rfl, rfl, rfl, rfl, rfl, rfl, rfl, trivial⟩ (.refl _) ⟨(show j + 1 ≤ values.length from by omega), trivial⟩ (show values.length - (j + 1) < values.length - j from by omega)
      · refine Eu (Eq_ (E.cf rfl (E.exit (E.the (E.the (E.blh (E.bln (Et (Ez Z2 (Ey rfl ((Y.add rfl rfl om om).yd) (Emv rfl rfl (Eu (Ent.cv (congrArg (ow eIss [_]) (show ((listsF values t).take k).flatMap (fun l => values.map (fun v => l ++ [v])) ++ (values.take j).map (fun v => (listsF values t)[k] ++ [v]) = ((listsF values t).take (k + 1)).flatMap (fun l => values.map (fun v => l ++ [v])) from by grind [listsF, lists_len, lists_mem, d1, d2, t1, t2])) ?_)))))))))))))
        exact E.again br (k + 1, aA2_0, (((listsF values t).take k).flatMap (fun l => values.map (fun v => l ++ [v])) ++ (values.take j).map (fun v => (listsF values t)[k] ++ [v])).length, cA2_0) ⟨rfl, rfl, rfl, rfl, rfl, rfl, rfl, trivial⟩ (.refl _) ⟨(show k + 1 ≤ (listsF values t).length from by omega), trivial⟩ (show (listsF values t).length - (k + 1) < (listsF values t).length - k from by omega)
    · refine Eu (Eq_ (E.cf rfl (E.exit (E.the (E.the (E.blh (Et (Ez Z2 (Emv rfl rfl (Eas rfl rfl (En (E.bln (Et (Ez Z2 (Ey rfl ((Y.add rfl rfl om om).yd) (Emv rfl rfl (Eu (Ent.cv (congrArg (ow eIss [_]) (show ((listsF values t).take k).flatMap (fun l => values.map (fun v => l ++ [v])) = listsF values (t + 1) from by grind [listsF, lists_len, lists_mem, d1, d2, t1, t2])) ?_))))))))))))))))))
      exact E.again hB1 (t + 1, aA1_0, (((listsF values t).take k).flatMap (fun l => values.map (fun v => l ++ [v]))).length, cA1_0) ⟨rfl, rfl, rfl, rfl, trivial⟩ (.refl _) ⟨(show t + 1 ≤ n.toNat from by omega), trivial⟩ (show n.toNat - (t + 1) < n.toNat - t from by omega)
  · refine Eu (Eq_ (E.cf rfl (E.exit (E.the (E.the (E.blh (Et (Ew Z2 (Emv rfl rfl (Eas rfl rfl (Eu (E.ret (Ent.cv (congrArg (ow eIss [_]) (show _ = listsF values n.toNat by grind [listsF, lists_len, lists_mem, d1, d2, t1, t2])) ?_)))))))))))))
    exact Fg rfl rfl (_, _, _) rfl rfl
theorem t_spec_l8Lists {a_values : Option Addr} {m_values c_values : Nat} {values : List Int} {n : Int} (hv : values.length ≤ 10) (hn : 0 ≤ n ∧ n ≤ 3) : Tr Tryz.prog 316 [.slice a_values m_values c_values, .int .i64 n] (fun w L => Ro w L eIs [.slice a_values m_values c_values] values) [] (κ := Option Addr × Nat × Nat) (fun k => True) (fun k => .slice k.1 k.2.1 k.2.2) (fun k => [ow eIss [.slice k.1 k.2.1 k.2.2] (listsF values n.toNat)]) := by
  refine Tr.intro Tryz.func316 rfl (n := 47) rfl (by decide +kernel) bl (fr := [(0, .slice a_values m_values c_values), (1, .int .i64 n)]) rfl fun w L hR => ?_
  have hvalues := hR
  obtain ⟨rfl, lvalues⟩ := hvalues.slen
  have ji := hvalues.i64
  refine Ew Z1 (Eas rfl rfl (Ev Z3 (Est rfl (N.bsl (pvs := []) (cs := []) us_Is ty_I rfl dc dc (fillZ rfl rfl) rfl dc) (fun b10 _ => (Ent.drop (Est rfl (N.bsl (pvs := [_]) (cs := [_]) us_Iss ty_Is rfl dc dc (fillZ rfl rfl) rfl dc) (fun b11 _ => (Ent.mkow (A := _ :: _) (Own.row1 (E := eIs) (e := tIs) Own.nil) rfl (Eas rfl rfl (Eu (Eq_ (Ew Z1 (Eas rfl rfl (Eu (E.block (Ent.cv (congrArg (ow eIss [_]) (show [[]] = listsF values 0 from by first | rfl | (simp; done) | grind [listsF, lists_len, lists_mem, d1, d2, t1, t2])) (E.loop (κ := Nat × Option Addr × Nat × Nat) (fun t => t.1 ≤ n.toNat ∧ True) (fun t => [(0, .slice a_values values.length c_values), (1, .int .i64 n), (5, .slice t.2.1 t.2.2.1 t.2.2.2), (6, .int .i64 (↑t.1 : Int))]) (fun t => [ow eIss [.slice t.2.1 t.2.2.1 t.2.2.2] (listsF values t.1)]) (fun t => n.toNat - t.1) (0, (some ⟨b11, 0, none⟩), 1, 1) ⟨Nat.zero_le _, by simp⟩ ⟨rfl, rfl, rfl, rfl, trivial⟩ (.refl _) (fun t pt => ?_))))))))))))))))))
  obtain ⟨t, aA0_0, mA0_0, cA0_0⟩ := t
  try dsimp only at pt
  try dsimp only
  obtain ⟨pk, pa⟩ := pt
  refine Ent.lenow m0 fun eaA0_0 laA0_0 => ?_
  subst eaA0_0
  have jl := lists_le (values := values) (t := t) hv om
  refine Eq_ (Ew Z3 (Emv rfl rfl (Emv rfl rfl (Ey rfl ((Y.lss rfl rfl).yd) (Ent.d (fun q14 => ?_) (fun q14 => ?_))))))
  · refine Ent.rebase (A := [_]) rfl fun wb2 Lb2 hB2 hA2 => ?_
    have hvalues := hA2.ro hvalues
    have rb2 : Ro wb2 Lb2 eIss [.slice aA0_0 (listsF values t).length cA0_0] (listsF values t) := hA2.ow m0
    refine Eu (E.ct rfl (E.skipc (Et (Eq_ (E.block (Ew Z2 (Est rfl (N.bsl (pvs := []) (cs := []) us_Iss ty_Is rfl dc dc (fillZ rfl rfl) rfl dc) (fun b17 _ => (Ent.drop (Eas rfl rfl (Eu (Eq_ (Ew Z1 (Eas rfl rfl (Eu (E.block (Ent.mkow (A := []) (Own.nil (E := eIs) (e := tIs) (a := (some ⟨b17, 0, none⟩))) rfl (Ent.cv (congrArg (ow eIss [_]) (show [] = ((listsF values t).take 0).flatMap (fun l => values.map (fun v => l ++ [v])) from by first | rfl | (simp; done) | grind [listsF, lists_len, lists_mem, d1, d2, t1, t2])) (E.loop (κ := Nat × Option Addr × Nat × Nat) (fun k => k.1 ≤ (listsF values t).length ∧ True) (fun k => [(0, .slice a_values values.length c_values), (1, .int .i64 n), (5, .slice aA0_0 (listsF values t).length cA0_0), (6, .int .i64 (t : Int)), (7, .slice k.2.1 k.2.2.1 k.2.2.2), (8, .int .i64 (↑k.1 : Int))]) (fun k => [ow eIss [.slice k.2.1 k.2.2.1 k.2.2.2] (((listsF values t).take k.1).flatMap (fun l => values.map (fun v => l ++ [v])))]) (fun k => (listsF values t).length - k.1) (0, (some ⟨b17, 0, none⟩), 0, 0) ⟨Nat.zero_le _, by simp⟩ ⟨rfl, rfl, rfl, rfl, rfl, rfl, trivial⟩ (.refl _) (fun k pk => ?_))))))))))))))))))))
    obtain ⟨k, aA1_0, mA1_0, cA1_0⟩ := k
    try dsimp only at pk
    try dsimp only
    obtain ⟨pk, pa⟩ := pk
    refine Ent.lenow m0 fun eaA1_0 laA1_0 => ?_
    subst eaA1_0
    have jk := take_flat_le (values := values) (l := listsF values t) (k := k) hv
    refine Eq_ (Ew Z4 (Emv rfl rfl (Emv rfl rfl (Ey rfl ((Y.len us_Iss rfl).yd) (Ey rfl ((Y.lss rfl rfl).yd) (Ent.d (fun q21 => ?_) (fun q21 => ?_)))))))
    · refine Eu (E.ct rfl (E.skipc (Et (Eq_ (E.block (Ew Z1 (Eas rfl rfl (Eu (E.block (Ent.cv (congrArg (ow eIss [_]) (show ((listsF values t).take k).flatMap (fun l => values.map (fun v => l ++ [v])) = ((listsF values t).take k).flatMap (fun l => values.map (fun v => l ++ [v])) ++ (values.take 0).map (fun v => (listsF values t)[k] ++ [v]) from by first | rfl | (simp; done) | grind [listsF, lists_len, lists_mem, d1, d2, t1, t2])) (E.loop (κ := Nat × Option Addr × Nat × Nat) (fun j => j.1 ≤ values.length ∧ True) (fun j => [(0, .slice a_values values.length c_values), (1, .int .i64 n), (5, .slice aA0_0 (listsF values t).length cA0_0), (6, .int .i64 (t : Int)), (7, .slice j.2.1 j.2.2.1 j.2.2.2), (8, .int .i64 (k : Int)), (9, .int .i64 (↑j.1 : Int))]) (fun j => [ow eIss [.slice j.2.1 j.2.2.1 j.2.2.2] (((listsF values t).take k).flatMap (fun l => values.map (fun v => l ++ [v])) ++ (values.take j.1).map (fun v => (listsF values t)[k] ++ [v]))]) (fun j => values.length - j.1) (0, aA1_0, (((listsF values t).take k).flatMap (fun l => values.map (fun v => l ++ [v]))).length, cA1_0) ⟨Nat.zero_le _, by simp⟩ ⟨rfl, rfl, rfl, rfl, rfl, rfl, rfl, trivial⟩ (.refl _) (fun j pj => ?_))))))))))))
      obtain ⟨j, aA2_0, mA2_0, cA2_0⟩ := j
      try dsimp only at pj
      try dsimp only
      obtain ⟨pk, pa⟩ := pj
      have jm := lists_mem (values := values) (t := t) _ (List.getElem_mem (l := listsF values t) (n := k) om)
      refine Ent.lenow m0 fun eaA2_0 laA2_0 => ?_
      subst eaA2_0
      refine Eq_ (Ew Z4 (Emv rfl rfl (Emv rfl rfl (Ey rfl ((Y.len us_Is rfl).yd) (Ey rfl ((Y.lss rfl rfl).yd) (Ent.d (fun q27 => ?_) (fun q27 => ?_)))))))
      · refine Eu (E.ct rfl (E.skipc (Et (Eq_ (E.block (E.mid (κ := (Option Addr × Nat)) (fun _ => True) (fun kM => [(0, .slice a_values values.length c_values), (1, .int .i64 n), (5, .slice aA0_0 (listsF values t).length cA0_0), (6, .int .i64 (t : Int)), (7, .slice kM.1 ((((listsF values t).take k).flatMap (fun l => values.map (fun v => l ++ [v])) ++ (values.take j).map (fun v => (listsF values t)[k] ++ [v])).length + 1) kM.2), (8, .int .i64 (k : Int)), (9, .int .i64 (j : Int))]) (fun kM => [ow eIss [.slice kM.1 ((((listsF values t).take k).flatMap (fun l => values.map (fun v => l ++ [v])) ++ (values.take j).map (fun v => (listsF values t)[k] ++ [v])).length + 1) kM.2] ((((listsF values t).take k).flatMap (fun l => values.map (fun v => l ++ [v])) ++ (values.take j).map (fun v => (listsF values t)[k] ++ [v])) ++ [((listsF values t)[k]) ++ [values[j]]])]) ?_ (fun p44 _ => ?_)))))))
        · refine D.region (fun j => !(Nat.beq j 12) && !(Nat.beq j 14)) mixed (Dyp 0 rfl (Y.mv rfl) (Dyp 2 rfl (Y.mv rfl) (Dyp 3 rfl (Y.mv rfl) ?_)))
          obtain ⟨eb34, eo34, ec34, ea34, er34, el34, eh34⟩ := rb2.elem k om
          obtain ⟨xa34, xc34, rfl⟩ := er34.sl
          have := er34.slen.2
          refine Dyp 4 rfl (Y.ix us_Iss ty_Is rfl ea34 rfl k rfl om) (Dy 5 rfl (Y.ld1 ty_Is rfl (eh34 _) rfl) (Dyp 7 rfl (Y.mv rfl) (Dyp 8 rfl (Y.mv rfl) ?_)))
          obtain ⟨eb39, eo39, ea39, ei39, eh39⟩ := hvalues.elemI j om
          refine Dyp 9 rfl (Y.ix us_Is ty_I rfl ea39 rfl j rfl om) (Dy 10 rfl (Y.ld1 ty_I rfl (eh39 _) rfl) (D.ch2 (i := 1) (j := 11) kr ?_ ?_))
          · refine D.pk 1 rfl rfl (fun _ => rfl) (N.bsl (pvs := []) (cs := []) us_Is ty_I rfl dc dc (fillZ rfl rfl) rfl dc) (fun b31 _ => (Ent.drop (D.ch2 (i := 6) (j := 11) kr ?_ ?_)))
            · refine D.pk 6 rfl rfl (fun _ => rfl) (N.pushR0 (E := Enc.int) Plain.int us_Is ty_I rfl rfl rfl er34 bn bn dc) (fun p36 _ => (D.st 11 rfl rfl kr (fun _ => rfl) (N.bsl (pvs := [_]) (cs := [_]) us_Is ty_I rfl dc dc (fillZ rfl rfl) rfl dc) (fun b41 _ => (Ent.p1 (D.st 12 rfl rfl kr (fun h => by cases h) (N.push (E := Enc.int) (ex := values[j]) us_Is ty_I rfl rfl rfl (Own.int ei39) rfl bn bn dc) (fun p42 _ => (D.st 13 rfl rfl kr (fun _ => rfl) (N.bsl (pvs := [_]) (cs := [_]) us_Iss ty_Is rfl dc dc (fillZ rfl rfl) rfl dc) (fun b43 _ => (Ent.p1 (Ent.p1 (Ent.p2 (D.st 14 rfl rfl kr (fun h => by cases h) (N.push (E := eIs) (ex := ((listsF values t)[k]) ++ [values[j]]) us_Iss ty_Is rfl rfl rfl Own.ow rfl bn bn dc) (fun p44 _ => (Dyp 15 rfl (Y.as rfl) ?_))))))))))))))
              exact D.done kr (E.mdn p44 trivial ⟨rfl, rfl, rfl, rfl, rfl, rfl, rfl, trivial⟩ (.refl _))
            · refine D.pk 11 rfl rfl (fun _ => rfl) (N.bsl (pvs := [_]) (cs := [_]) us_Is ty_I rfl dc dc (fillZ rfl rfl) rfl dc) (fun b41 _ => (D.st 6 rfl rfl kr (fun _ => rfl) (N.pushR0 (E := Enc.int) Plain.int us_Is ty_I rfl rfl rfl er34 bn bn dc) (fun p36 _ => (Ent.p1 (Ent.p1 (D.st 12 rfl rfl kr (fun h => by cases h) (N.push (E := Enc.int) (ex := values[j]) us_Is ty_I rfl rfl rfl (Own.int ei39) rfl bn bn dc) (fun p42 _ => (D.st 13 rfl rfl kr (fun _ => rfl) (N.bsl (pvs := [_]) (cs := [_]) us_Iss ty_Is rfl dc dc (fillZ rfl rfl) rfl dc) (fun b43 _ => (Ent.p1 (Ent.p1 (Ent.p2 (D.st 14 rfl rfl kr (fun h => by cases h) (N.push (E := eIs) (ex := ((listsF values t)[k]) ++ [values[j]]) us_Iss ty_Is rfl rfl rfl Own.ow rfl bn bn dc) (fun p44 _ => (Dyp 15 rfl (Y.as rfl) ?_)))))))))))))))
              exact D.done kr (E.mdn p44 trivial ⟨rfl, rfl, rfl, rfl, rfl, rfl, rfl, trivial⟩ (.refl _))
          · refine D.pk 11 rfl rfl (fun _ => rfl) (N.bsl (pvs := [_]) (cs := [_]) us_Is ty_I rfl dc dc (fillZ rfl rfl) rfl dc) (fun b41 _ => (D.st 1 rfl rfl kr (fun _ => rfl) (N.bsl (pvs := []) (cs := []) us_Is ty_I rfl dc dc (fillZ rfl rfl) rfl dc) (fun b31 _ => (Ent.drop (D.st 6 rfl rfl kr (fun _ => rfl) (N.pushR0 (E := Enc.int) Plain.int us_Is ty_I rfl rfl rfl er34 bn bn dc) (fun p36 _ => (Ent.p1 (Ent.p1 (D.st 12 rfl rfl kr (fun h => by cases h) (N.push (E := Enc.int) (ex := values[j]) us_Is ty_I rfl rfl rfl (Own.int ei39) rfl bn bn dc) (fun p42 _ => (D.st 13 rfl rfl kr (fun _ => rfl) (N.bsl (pvs := [_]) (cs := [_]) us_Iss ty_Is rfl dc dc (fillZ rfl rfl) rfl dc) (fun b43 _ => (Ent.p1 (Ent.p1 (Ent.p2 (D.st 14 rfl rfl kr (fun h => by cases h) (N.push (E := eIs) (ex := ((listsF values t)[k]) ++ [values[j]]) us_Iss ty_Is rfl rfl rfl Own.ow rfl bn bn dc) (fun p44 _ => (Dyp 15 rfl (Y.as rfl) ?_))))))))))))))))))
            exact D.done kr (E.mdn p44 trivial ⟨rfl, rfl, rfl, rfl, rfl, rfl, rfl, trivial⟩ (.refl _))
        · show Ent _ _ _ [(0, .slice a_values values.length c_values), (1, .int .i64 n), (5, .slice aA0_0 (listsF values t).length cA0_0), (6, .int .i64 (t : Int)), (7, .slice p44.1 ((((listsF values t).take k).flatMap (fun l => values.map (fun v => l ++ [v])) ++ (values.take j).map (fun v => (listsF values t)[k] ++ [v])).length + 1) p44.2), (8, .int .i64 (k : Int)), (9, .int .i64 (j : Int))] [ow eIss [.slice p44.1 ((((listsF values t).take k).flatMap (fun l => values.map (fun v => l ++ [v])) ++ (values.take j).map (fun v => (listsF values t)[k] ++ [v])).length + 1) p44.2] ((((listsF values t).take k).flatMap (fun l => values.map (fun v => l ++ [v])) ++ (values.take j).map (fun v => (listsF values t)[k] ++ [v])) ++ [((listsF values t)[k]) ++ [values[j]]])] _
          refine E.bln (Et (Ez Z3 (Emv rfl rfl (Ey rfl ((Y.add rfl rfl om om).yd) (Eas rfl rfl (Eu (Ent.cv (congrArg (ow eIss [_]) (show (((listsF values t).take k).flatMap (fun l => values.map (fun v => l ++ [v])) ++ (values.take j).map (fun v => (listsF values t)[k] ++ [v])) ++ [((listsF values t)[k]) ++ [values[j]]] = ((listsF values t).take k).flatMap (fun l => values.map (fun v => l ++ [v])) ++ (values.take (j + 1)).map (fun v => (listsF values t)[k] ++ [v]) from by grind [listsF, lists_len, lists_mem, d1, d2, t1, t2])) ?_)))))))
          exact E.again br (j + 1, p44.1, ((((listsF values t).take k).flatMap (fun l => values.map (fun v => l ++ [v])) ++ (values.take j).map (fun v => (listsF values t)[k] ++ [v])).length + 1), p44.2) ⟨rfl, rfl, rfl, rfl, rfl, rfl, rfl, trivial⟩ (.refl _) ⟨(show j + 1 ≤ values.length from by omega), trivial⟩ (show values.length - (j + 1) < values.length - j from by omega)
      · refine Eu (E.cf rfl (E.exit (E.the (E.the (E.blh (E.bln (Et (Ez Z3 (Emv rfl rfl (Ey rfl ((Y.add rfl rfl om om).yd) (Eas rfl rfl (Eu (Ent.cv (congrArg (ow eIss [_]) (show ((listsF values t).take k).flatMap (fun l => values.map (fun v => l ++ [v])) ++ (values.take j).map (fun v => (listsF values t)[k] ++ [v]) = ((listsF values t).take (k + 1)).flatMap (fun l => values.map (fun v => l ++ [v])) from by grind [listsF, lists_len, lists_mem, d1, d2, t1, t2])) ?_)))))))))))))
        exact E.again br (k + 1, aA2_0, (((listsF values t).take k).flatMap (fun l => values.map (fun v => l ++ [v])) ++ (values.take j).map (fun v => (listsF values t)[k] ++ [v])).length, cA2_0) ⟨rfl, rfl, rfl, rfl, rfl, rfl, trivial⟩ (.refl _) ⟨(show k + 1 ≤ (listsF values t).length from by omega), trivial⟩ (show (listsF values t).length - (k + 1) < (listsF values t).length - k from by omega)
    · refine Eu (E.cf rfl (E.exit (E.the (E.the (E.blh (Et (Ez Z2 (Emv rfl rfl (Eas rfl rfl (En (E.bln (Et (Ez Z3 (Emv rfl rfl (Ey rfl ((Y.add rfl rfl om om).yd) (Eas rfl rfl (Eu (Ent.cv (congrArg (ow eIss [_]) (show ((listsF values t).take k).flatMap (fun l => values.map (fun v => l ++ [v])) = listsF values (t + 1) from by grind [listsF, lists_len, lists_mem, d1, d2, t1, t2])) ?_))))))))))))))))))
      exact E.again hB2 (t + 1, aA1_0, (((listsF values t).take k).flatMap (fun l => values.map (fun v => l ++ [v]))).length, cA1_0) ⟨rfl, rfl, rfl, rfl, trivial⟩ (.refl _) ⟨(show t + 1 ≤ n.toNat from by omega), trivial⟩ (show n.toNat - (t + 1) < n.toNat - t from by omega)
  · refine Eu (E.cf rfl (E.exit (E.the (E.the (E.blh (Et (Ew Z2 (Emv rfl rfl (Eas rfl rfl (Eu (E.ret (Ent.cv (congrArg (ow eIss [_]) (show _ = listsF values n.toNat by grind [listsF, lists_len, lists_mem, d1, d2, t1, t2])) ?_))))))))))))
    exact Fg rfl rfl (_, _, _) rfl rfl
theorem t_impl_Reached_open {a_r_Facts : Option Addr} {m_r_Facts c_r_Facts : Nat} {r_Facts : List (Int × List Int)} {a_r_Values : Option Addr} {m_r_Values c_r_Values : Nat} {r_Values : List Int} {a_r_Log : Option Addr} {m_r_Log c_r_Log : Nat} {r_Log : List (Int × List Int)} {r_Rounds : Int} {a_l : Option Addr} {m_l c_l : Nat} {l : List (Int × List Int × Int × Int × Int)} (hv : r_Values.length ≤ 10) (hm : ∀ m ∈ l, m.2.1.length ≤ 3) (hl : l.length ≤ 5) : Tr Tryz.prog 322 [.agg #[.slice a_r_Facts m_r_Facts c_r_Facts, .slice a_r_Values m_r_Values c_r_Values, .slice a_r_Log m_r_Log c_r_Log, .int .i64 r_Rounds], .slice a_l m_l c_l] (fun w L => Ro w L eFacts [.slice a_r_Facts m_r_Facts c_r_Facts] r_Facts ∧ Ro w L eIs [.slice a_r_Values m_r_Values c_r_Values] r_Values ∧ Ro w L eAccesss [.slice a_r_Log m_r_Log c_r_Log] r_Log ∧ I64 r_Rounds ∧ Ro w L eMethods [.slice a_l m_l c_l] l) [] (κ := Option Addr × Nat × Nat) (fun k => True) (fun k => .slice k.1 k.2.1 k.2.2) (fun k => [ow eAccesss [.slice k.1 k.2.1 k.2.2] (opnF r_Values r_Log l 0)]) := by
  refine Tr.intro Tryz.func322 rfl (n := 48) rfl (by decide +kernel) bl (fr := [(0, .agg #[.slice a_r_Facts m_r_Facts c_r_Facts, .slice a_r_Values m_r_Values c_r_Values, .slice a_r_Log m_r_Log c_r_Log, .int .i64 r_Rounds]), (1, .slice a_l m_l c_l)]) rfl fun w L hR => ?_
  obtain ⟨hr_Facts, hr_Values, hr_Log, i6r_Rounds, hl⟩ := hR
  obtain ⟨rfl, lr_Facts⟩ := hr_Facts.slen
  obtain ⟨rfl, lr_Values⟩ := hr_Values.slen
  obtain ⟨rfl, lr_Log⟩ := hr_Log.slen
  obtain ⟨rfl, ll⟩ := hl.slen
  refine Ew Z2 (Est rfl (N.box (cs := [_, _, _, _]) rfl dc rfl) (fun b2 _ => (Eas rfl rfl (Ev Z2 (Est rfl (N.bsl (pvs := []) (cs := []) us_Accesss ty_Access rfl dc dc (fillZ rfl rfl) rfl dc) (fun b11 _ => (Ent.drop (Eas rfl rfl (Eu (Eq_ (Ew Z3 (Emv rfl rfl (Ey rfl ((Y.len us_Methods rfl).yd) (Emv rfl rfl (Eu (E.block (Ent.mkow (A := []) (Own.nil (E := eAccess) (e := tAccess) (a := (some ⟨b11, 0, none⟩))) rfl (Ent.cv (congrArg (ow eAccesss [_]) (show [] = opnF r_Values r_Log (l.take 0) 0 from by first | rfl | (simp; done) | grind [opnF, opn1, opn_app, d1, d2, t1, t2])) (E.loop (κ := Nat × Option Addr × Nat × Nat) (fun g => g.1 ≤ l.length ∧ True) (fun g => [(2, .pointer (some ⟨b2, 0, none⟩)), (5, .slice g.2.1 g.2.2.1 g.2.2.2), (12, .slice a_l l.length c_l), (13, .int .i64 (↑l.length : Int)), (14, .int .i64 (↑g.1 : Int))]) (fun g => [ow eAccesss [.slice g.2.1 g.2.2.1 g.2.2.2] (opnF r_Values r_Log (l.take g.1) 0), pt b2 253 [.slice a_r_Facts r_Facts.length c_r_Facts, .slice a_r_Values r_Values.length c_r_Values, .slice a_r_Log r_Log.length c_r_Log, .int .i64 r_Rounds]]) (fun g => l.length - g.1) (0, (some ⟨b11, 0, none⟩), 0, 0) ⟨Nat.zero_le _, by simp⟩ ⟨rfl, rfl, rfl, rfl, rfl, trivial⟩ (.refl _) (fun g pg => ?_))))))))))))))))))))
  obtain ⟨g, aA0_0, mA0_0, cA0_0⟩ := g
  try dsimp only at pg
  try dsimp only
  obtain ⟨pk, pa⟩ := pg
  refine Ent.lenow m0 fun eaA0_0 laA0_0 => ?_
  subst eaA0_0
  have jo := opn_len (values := r_Values) (log := r_Log) (i := 0) hv (l := l.take g) (fun m h => hm m (List.mem_of_mem_take h))
  have jp := List.length_take_le g l
  refine Ew Z1 (Ey rfl ((Y.lss rfl rfl).yd) (Ent.d (fun q15 => ?_) (fun q15 => ?_)))
  · refine Eu (Eq_ (E.ct rfl (E.skipc (Et (Eq_ (E.block (Ew Z6 (Emv rfl rfl ?_))))))))
    obtain ⟨eb17, eo17, ec17, ea17, er17, el17, eh17⟩ := hl.elem g om
    obtain ⟨xa17_0, xc17_0, rfl, ei17_0, xh17_0, ei17_2, ei17_3, ei17_4⟩ := Ro.pMethod er17
    have := xh17_0.slen.2
    refine Ey rfl ((Y.ix us_Methods ty_Method rfl ea17 rfl g rfl om).yd) (Ey rfl (Y.ldS (cs := [_, _, _, _, _]) ty_Method rfl (eh17 _) rfl) (Est rfl (N.alloc ty_Method dc) (fun b7 _ => (Eas rfl rfl (Est rfl (N.sto (vs := [_, _, _, _, _]) (cs' := [_, _, _, _, _]) ty_Method rfl rfl rfl rfl rfl bl rfl) (fun _ _ => (Eu (Eq_ (Ew Z3 (Ey rfl ((Y.fld fo_Method_2 ty_I dc rfl).yd) (Ey rfl (Y.ld1 ty_I rfl ((Has.pt m0).sub (cs' := [_]) 2 rfl) rfl) (Ey rfl ((Y.neq rfl rfl).yd) (Ent.d (fun q21 => ?_) (fun q21 => ?_))))))))))))))
    · refine Eu (E.ct rfl (E.exit (E.the (E.blh (Et (Ez Z2 (Ey rfl ((Y.add rfl rfl om om).yd) (Emv rfl rfl (Eu (Ent.drop (Ent.cv (congrArg (ow eAccesss [_]) (show opnF r_Values r_Log (l.take g) 0 = opnF r_Values r_Log (l.take (g + 1)) 0 from by grind [opnF, opn1, opn_app, d1, d2, t1, t2])) (Ent.p1 (Ent.p1 ?_)))))))))))))
      exact E.again br (g + 1, aA0_0, (opnF r_Values r_Log (l.take g) 0).length, cA0_0) ⟨rfl, rfl, rfl, rfl, rfl, trivial⟩ (.refl _) ⟨(show g + 1 ≤ l.length from by omega), trivial⟩ (show l.length - (g + 1) < l.length - g from by omega)
    · refine Eu (E.cf rfl (E.skipc (Et (Ew Z8 (Ey rfl ((Y.fld fo_Reached_1 ty_Is dc rfl).yd) (Ey rfl (Y.ld1 ty_Is rfl ((Has.pt (mS (mS m0))).sub (cs' := [_]) 1 rfl) rfl) (Ey rfl ((Y.fld fo_Method_1 ty_Is dc rfl).yd) (Ey rfl (Y.ld1 ty_Is rfl ((Has.pt m0).sub (cs' := [_]) 1 rfl) rfl) (Ey rfl ((Y.len us_Is rfl).yd) ?_)))))))))
      have jm := hm l[g] (List.getElem_mem om)
      refine Est rfl (N.call (t_impl_lists fc fc) rfl rfl rfl dc rfl (fun w Lp hA => hA.ro hr_Values)) (fun k27 _ => ?_)
      obtain ⟨a27, m27, c27⟩ := k27
      refine Ent.lenow m0 fun e27 l27 => ?_
      subst e27
      refine Ey rfl ((Y.len us_Iss rfl).yd) (Emv rfl rfl (Eu (E.block (Ent.p2 (Ent.cv (congrArg (ow eAccesss [_]) (show opnF r_Values r_Log (l.take g) 0 = opnF r_Values r_Log (l.take g) 0 ++ (((listsF r_Values l[g].2.1.length).take 0).filter (fun v => !hasA r_Log (↑g, v))).map (fun v => ((g : Int), v)) from by first | rfl | (simp; done) | grind [opnF, opn1, opn_app, d1, d2, t1, t2])) (Ent.p1 (Ent.od0 (E.loop (κ := Nat × Option Addr × Nat × Nat) (fun h => h.1 ≤ (listsF r_Values l[g].2.1.length).length ∧ True) (fun h => [(2, .pointer (some ⟨b2, 0, none⟩)), (5, .slice h.2.1 h.2.2.1 h.2.2.2), (6, .int .i64 (g : Int)), (12, .slice a_l l.length c_l), (13, .int .i64 (↑l.length : Int)), (14, .int .i64 (g : Int)), (27, .slice a27 (listsF r_Values l[g].2.1.length).length c27), (28, .int .i64 (↑((listsF r_Values l[g].2.1.length).length) : Int)), (29, .int .i64 (↑h.1 : Int))]) (fun h => [owd tIs eIs a27 ((listsF r_Values l[g].2.1.length).length) c27 (listsF r_Values l[g].2.1.length) h.1, ow eAccesss [.slice h.2.1 h.2.2.1 h.2.2.2] (opnF r_Values r_Log (l.take g) 0 ++ (((listsF r_Values l[g].2.1.length).take h.1).filter (fun v => !hasA r_Log (↑g, v))).map (fun v => ((g : Int), v))), pt b7 130 [.int .i64 l[g].1, .slice xa17_0 l[g].2.1.length xc17_0, .int .i64 l[g].2.2.1, .int .i64 l[g].2.2.2.1, .int .i64 l[g].2.2.2.2], pt b2 253 [.slice a_r_Facts r_Facts.length c_r_Facts, .slice a_r_Values r_Values.length c_r_Values, .slice a_r_Log r_Log.length c_r_Log, .int .i64 r_Rounds]]) (fun h => (listsF r_Values l[g].2.1.length).length - h.1) (0, aA0_0, (opnF r_Values r_Log (l.take g) 0).length, cA0_0) ⟨Nat.zero_le _, by simp⟩ ⟨rfl, rfl, rfl, rfl, rfl, rfl, rfl, rfl, rfl, trivial⟩ (.refl _) (fun h ph => ?_)))))))))
      obtain ⟨h, aA1_0, mA1_0, cA1_0⟩ := h
      try dsimp only at ph
      try dsimp only
      obtain ⟨pk, pa⟩ := ph
      have jl := lists_le (values := r_Values) (t := l[g].2.1.length) hv (hm _ (List.getElem_mem om))
      have jf := List.length_filter_le (fun v => !hasA r_Log (↑g, v)) ((listsF r_Values l[g].2.1.length).take h)
      have jt := List.length_take_le h (listsF r_Values l[g].2.1.length)
      refine Ent.lenow (mS m0) fun eaA1_0 laA1_0 => ?_
      subst eaA1_0
      refine Ew Z1 (Ey rfl ((Y.lss rfl rfl).yd) (Ent.d (fun q30 => ?_) (fun q30 => ?_)))
      · refine Ent.adrd m0 om fun ab31 ae31 => (Ent.odt (j := h) om fun ce31 => (Ent.p1 (Ent.osl fun oa31_0 om31_0 oc31_0 oe31 on31_0 => ?_)))
        subst oe31
        subst on31_0
        refine Ent.lenow m0 fun _ ol31_0 => (Eu (Eq_ (E.ct rfl (E.skipc (Et (Eq_ (E.block (Ew Z3 (Ey rfl ((Y.ix us_Iss ty_Is rfl ae31 rfl h rfl om).yd) (Ey rfl (Y.ld1 ty_Is rfl (Has.owt ae31 (mS m0)) rfl) (Eas rfl rfl (Ev Z5 (Emv rfl rfl (Emv rfl rfl (Ey rfl ((Y.bld (pvs := [_, _]) (cs := [_, _]) ty_Access pl_Access rfl rfl).yd) (Est rfl (N.alloc ty_Access dc) (fun b10 _ => (Est rfl (N.sto (vs := [_, _]) (cs' := [_, _]) ty_Access rfl rfl rfl rfl rfl bl rfl) (fun _ _ => (Ev Z5 (Ey rfl ((Y.fld fo_Reached_2 ty_Accesss dc rfl).yd) (Ey rfl (Y.ld1 ty_Accesss rfl ((Has.pt (mS (mS (mS (mS (mS m0)))))).sub (cs' := [_]) 2 rfl) rfl) (Ey rfl (Y.ldS (cs := [_, _]) ty_Access rfl (Has.pt m0) rfl) (Est rfl (N.call0 t_impl_hasAccess rfl rfl rfl dc (fun w Lp hA => ⟨hA.ro hr_Log, i6, hA.ow (mS m0)⟩)) (fun _ _ => (Ent.b (fun q39 => ?_) (fun q39 => ?_)))))))))))))))))))))))))))
        · refine Ey rfl ((Y.not (b := true) rfl).yd) (Eu (E.cf rfl (E.skipc (E.bln (Et (Ez Z2 (Ey rfl ((Y.add rfl rfl om om).yd) (Emv rfl rfl (Eu (Ent.p2 (Ent.otd (Ent.p1 (Ent.drop (Ent.p1 (Ent.drop (Ent.p1 (Ent.cv (congrArg (ow eAccesss [_]) (show opnF r_Values r_Log (l.take g) 0 ++ (((listsF r_Values l[g].2.1.length).take h).filter (fun v => !hasA r_Log (↑g, v))).map (fun v => ((g : Int), v)) = opnF r_Values r_Log (l.take g) 0 ++ (((listsF r_Values l[g].2.1.length).take (h + 1)).filter (fun v => !hasA r_Log (↑g, v))).map (fun v => ((g : Int), v)) from by grind [opnF, opn1, opn_app, d1, d2, t1, t2])) (Ent.p3 (Ent.p3 (Ent.p2 (Ent.p3 ?_)))))))))))))))))))))
          exact E.again br (h + 1, aA1_0, (opnF r_Values r_Log (l.take g) 0 ++ (((listsF r_Values l[g].2.1.length).take h).filter (fun v => !hasA r_Log (↑g, v))).map (fun v => ((g : Int), v))).length, cA1_0) ⟨rfl, rfl, rfl, rfl, rfl, rfl, rfl, rfl, rfl, trivial⟩ (.refl _) ⟨(show h + 1 ≤ (listsF r_Values l[g].2.1.length).length from by omega), trivial⟩ (show (listsF r_Values l[g].2.1.length).length - (h + 1) < (listsF r_Values l[g].2.1.length).length - h from by omega)
        · refine Ey rfl ((Y.not (b := false) rfl).yd) (Eu (E.ct rfl (Ez Z5 (Emv rfl rfl (Ey rfl (Y.ldS (cs := [_, _]) ty_Access rfl (Has.pt m0) rfl) (Est rfl (N.bsl (pvs := [_]) (cs := [_, _]) us_Accesss ty_Access rfl dc dc (fillZ rfl rfl) rfl dc) (fun b43 _ => (Ent.p2 (Ent.p1 (Ent.p4 (Est rfl (N.push (E := eAccess) (ex := ((g : Int), (listsF r_Values l[g].2.1.length)[h])) us_Accesss ty_Access rfl rfl rfl (Own.mkAccess (x := ((g : Int), (listsF r_Values l[g].2.1.length)[h])) i6 Own.ow) rfl bn bn dc) (fun p44 _ => (Eas rfl rfl (En (E.bln (Et (Ez Z2 (Ey rfl ((Y.add rfl rfl om om).yd) (Emv rfl rfl (Eu (Ent.p2 (Ent.otd (Ent.p2 (Ent.drop ?_))))))))))))))))))))))))
          refine Ent.p1 (Ent.cv (congrArg (ow eAccesss [_]) (show (opnF r_Values r_Log (l.take g) 0 ++ (((listsF r_Values l[g].2.1.length).take h).filter (fun v => !hasA r_Log (↑g, v))).map (fun v => ((g : Int), v))) ++ [((g : Int), (listsF r_Values l[g].2.1.length)[h])] = opnF r_Values r_Log (l.take g) 0 ++ (((listsF r_Values l[g].2.1.length).take (h + 1)).filter (fun v => !hasA r_Log (↑g, v))).map (fun v => ((g : Int), v)) from by grind [opnF, opn1, opn_app, d1, d2, t1, t2])) (Ent.p3 (Ent.p3 (Ent.p2 (Ent.p3 ?_)))))
          exact E.again br (h + 1, p44.1, ((opnF r_Values r_Log (l.take g) 0 ++ (((listsF r_Values l[g].2.1.length).take h).filter (fun v => !hasA r_Log (↑g, v))).map (fun v => ((g : Int), v))).length + 1), p44.2) ⟨rfl, rfl, rfl, rfl, rfl, rfl, rfl, rfl, rfl, trivial⟩ (.refl _) ⟨(show h + 1 ≤ (listsF r_Values l[g].2.1.length).length from by omega), trivial⟩ (show (listsF r_Values l[g].2.1.length).length - (h + 1) < (listsF r_Values l[g].2.1.length).length - h from by omega)
      · refine Eu (Eq_ (E.cf rfl (E.exit (E.the (E.the (E.blh (E.bln (Et (Ez Z2 (Ey rfl ((Y.add rfl rfl om om).yd) (Emv rfl rfl (Eu (Ent.drop (Ent.p1 (Ent.drop (Ent.cv (congrArg (ow eAccesss [_]) (show opnF r_Values r_Log (l.take g) 0 ++ (((listsF r_Values l[g].2.1.length).take h).filter (fun v => !hasA r_Log (↑g, v))).map (fun v => ((g : Int), v)) = opnF r_Values r_Log (l.take (g + 1)) 0 from by grind [opnF, opn1, opn_app, d1, d2, t1, t2])) (Ent.p1 (Ent.p1 ?_))))))))))))))))))
        exact E.again br (g + 1, aA1_0, (opnF r_Values r_Log (l.take g) 0 ++ (((listsF r_Values l[g].2.1.length).take h).filter (fun v => !hasA r_Log (↑g, v))).map (fun v => ((g : Int), v))).length, cA1_0) ⟨rfl, rfl, rfl, rfl, rfl, trivial⟩ (.refl _) ⟨(show g + 1 ≤ l.length from by omega), trivial⟩ (show l.length - (g + 1) < l.length - g from by omega)
  · refine Eu (Eq_ (E.cf rfl (E.exit (E.the (E.the (E.blh (Et (Ew Z2 (Emv rfl rfl (Eas rfl rfl (Eu (E.ret (Ent.cv (congrArg (ow eAccesss [_]) (show _ = opnF r_Values r_Log l 0 by grind [opnF, opn1, opn_app, d1, d2, t1, t2])) ?_)))))))))))))
    exact Fg rfl rfl (_, _, _) rfl rfl
theorem t_spec_l8Open {a_l : Option Addr} {m_l c_l : Nat} {l : List (Int × List Int × Int × Int × Int)} {a_r_Facts : Option Addr} {m_r_Facts c_r_Facts : Nat} {r_Facts : List (Int × List Int)} {a_r_Values : Option Addr} {m_r_Values c_r_Values : Nat} {r_Values : List Int} {a_r_Log : Option Addr} {m_r_Log c_r_Log : Nat} {r_Log : List (Int × List Int)} {r_Rounds : Int} (hv : r_Values.length ≤ 10) (hm : ∀ m ∈ l, m.2.1.length ≤ 3) (hl : l.length ≤ 5) : Tr Tryz.prog 254 [.slice a_l m_l c_l, .agg #[.slice a_r_Facts m_r_Facts c_r_Facts, .slice a_r_Values m_r_Values c_r_Values, .slice a_r_Log m_r_Log c_r_Log, .int .i64 r_Rounds]] (fun w L => Ro w L eMethods [.slice a_l m_l c_l] l ∧ Ro w L eFacts [.slice a_r_Facts m_r_Facts c_r_Facts] r_Facts ∧ Ro w L eIs [.slice a_r_Values m_r_Values c_r_Values] r_Values ∧ Ro w L eAccesss [.slice a_r_Log m_r_Log c_r_Log] r_Log ∧ I64 r_Rounds) [] (κ := Option Addr × Nat × Nat) (fun k => True) (fun k => .slice k.1 k.2.1 k.2.2) (fun k => [ow eAccesss [.slice k.1 k.2.1 k.2.2] (opnF r_Values r_Log l 0)]) := by
  refine Tr.intro Tryz.func254 rfl (n := 54) rfl (by decide +kernel) bl (fr := [(0, .slice a_l m_l c_l), (1, .agg #[.slice a_r_Facts m_r_Facts c_r_Facts, .slice a_r_Values m_r_Values c_r_Values, .slice a_r_Log m_r_Log c_r_Log, .int .i64 r_Rounds])]) rfl fun w L hR => ?_
  obtain ⟨hl, hr_Facts, hr_Values, hr_Log, i6r_Rounds⟩ := hR
  obtain ⟨rfl, ll⟩ := hl.slen
  obtain ⟨rfl, lr_Facts⟩ := hr_Facts.slen
  obtain ⟨rfl, lr_Values⟩ := hr_Values.slen
  obtain ⟨rfl, lr_Log⟩ := hr_Log.slen
  refine Ew Z2 (Est rfl (N.box (cs := [_, _, _, _]) rfl dc rfl) (fun b3 _ => (Eas rfl rfl (Ev Z2 (Est rfl (N.bsl (pvs := []) (cs := []) us_Accesss ty_Access rfl dc dc (fillZ rfl rfl) rfl dc) (fun b10 _ => (Ent.drop (Eas rfl rfl (Eu (Eq_ (Ew Z1 (Eas rfl rfl (Eu (E.block (Ent.mkow (A := []) (Own.nil (E := eAccess) (e := tAccess) (a := (some ⟨b10, 0, none⟩))) rfl (Ent.cv (congrArg (ow eAccesss [_]) (show [] = opnF r_Values r_Log (l.take 0) 0 from by first | rfl | (simp; done) | grind [opnF, opn1, opn_app, d1, d2, t1, t2])) (E.loop (κ := Nat × Option Addr × Nat × Nat) (fun g => g.1 ≤ l.length ∧ True) (fun g => [(0, .slice a_l l.length c_l), (3, .pointer (some ⟨b3, 0, none⟩)), (5, .slice g.2.1 g.2.2.1 g.2.2.2), (6, .int .i64 (↑g.1 : Int))]) (fun g => [ow eAccesss [.slice g.2.1 g.2.2.1 g.2.2.2] (opnF r_Values r_Log (l.take g.1) 0), pt b3 253 [.slice a_r_Facts r_Facts.length c_r_Facts, .slice a_r_Values r_Values.length c_r_Values, .slice a_r_Log r_Log.length c_r_Log, .int .i64 r_Rounds]]) (fun g => l.length - g.1) (0, (some ⟨b10, 0, none⟩), 0, 0) ⟨Nat.zero_le _, by simp⟩ ⟨rfl, rfl, rfl, rfl, trivial⟩ (.refl _) (fun g pg => ?_))))))))))))))))))
  obtain ⟨g, aA0_0, mA0_0, cA0_0⟩ := g
  try dsimp only at pg
  try dsimp only
  obtain ⟨pk, pa⟩ := pg
  refine Ent.lenow m0 fun eaA0_0 laA0_0 => ?_
  subst eaA0_0
  have jo := opn_len (values := r_Values) (log := r_Log) (i := 0) hv (l := l.take g) (fun m h => hm m (List.mem_of_mem_take h))
  have jp := List.length_take_le g l
  refine Eq_ (Ew Z4 (Emv rfl rfl (Emv rfl rfl (Ey rfl ((Y.len us_Methods rfl).yd) (Ey rfl ((Y.lss rfl rfl).yd) (Ent.d (fun q14 => ?_) (fun q14 => ?_)))))))
  · refine Eu (E.ct rfl (E.skipc (Et (Eq_ (E.block (Eq_ (Ew Z6 (Emv rfl rfl (Emv rfl rfl ?_)))))))))
    obtain ⟨eb19, eo19, ec19, ea19, er19, el19, eh19⟩ := hl.elem g om
    obtain ⟨xa19_0, xc19_0, rfl, ei19_0, xh19_0, ei19_2, ei19_3, ei19_4⟩ := Ro.pMethod er19
    have := xh19_0.slen.2
    refine Ey rfl ((Y.ix us_Methods ty_Method rfl ea19 rfl g rfl om).yd) (Ey rfl ((Y.fld fo_Method_2 ty_I dc rfl).yd) (Ey rfl (Y.ld1 ty_I rfl ((eh19 _).sub (cs' := [_]) 2 rfl) rfl) (Ey rfl ((Y.neq rfl rfl).yd) (Ent.d (fun q22 => ?_) (fun q22 => ?_)))))
    · refine Eu (E.ct rfl (E.exit (E.the (E.blh (Et (Ez Z3 (Emv rfl rfl (Ey rfl ((Y.add rfl rfl om om).yd) (Eas rfl rfl (Eu (Ent.cv (congrArg (ow eAccesss [_]) (show opnF r_Values r_Log (l.take g) 0 = opnF r_Values r_Log (l.take (g + 1)) 0 from by grind [opnF, opn1, opn_app, d1, d2, t1, t2])) (Ent.p1 (Ent.p1 ?_)))))))))))))
      exact E.again br (g + 1, aA0_0, (opnF r_Values r_Log (l.take g) 0).length, cA0_0) ⟨rfl, rfl, rfl, rfl, trivial⟩ (.refl _) ⟨(show g + 1 ≤ l.length from by omega), trivial⟩ (show l.length - (g + 1) < l.length - g from by omega)
    · refine Eu (E.cf rfl (E.skipc (Et (Eq_ (D.region (fun j => true) mixed (Dyp 0 rfl (Y.fld fo_Reached_1 ty_Is dc rfl) (Dy 1 rfl (Y.ld1 ty_Is rfl ((Has.pt (mS m0)).sub (cs' := [_]) 1 rfl) rfl) (Dyp 2 rfl (Y.mv rfl) (Dyp 3 rfl (Y.mv rfl) (Dyp 4 rfl (Y.ix us_Methods ty_Method rfl ea19 rfl g rfl om) (Dyp 5 rfl (Y.fld fo_Method_1 ty_Is dc rfl) (Dy 6 rfl (Y.ld1 ty_Is rfl ((eh19 _).sub (cs' := [_]) 1 rfl) rfl) (Dyp 7 rfl (Y.len us_Is rfl) ?_)))))))))))))
      have jm := hm l[g] (List.getElem_mem om)
      refine D.st 8 rfl rfl kr (fun _ => rfl) (N.call (t_spec_l8Lists fc fc) rfl rfl rfl dc rfl (fun w Lp hA => hA.ro hr_Values)) (fun k31 _ => ?_)
      obtain ⟨a31, m31, c31⟩ := k31
      refine Ent.lenow m0 fun e31 l31 => ?_
      subst e31
      refine Ent.rebase (A := [_]) rfl fun wb3 Lb3 hB3 hA3 => ?_
      have hl := hA3.ro hl
      have xh19_0 := hA3.ro xh19_0
      have hr_Values := hA3.ro hr_Values
      have hr_Facts := hA3.ro hr_Facts
      have hr_Log := hA3.ro hr_Log
      have eh19 := hB3.has eh19
      have rb3 : Ro wb3 Lb3 eIss [.slice a31 (listsF r_Values l[g].2.1.length).length c31] (listsF r_Values l[g].2.1.length) := hA3.ow m0
      refine Dyp 9 rfl (Y.as rfl) (D.done kr (Et (Ew Z1 (Eas rfl rfl (Eu (E.block (Ent.cv (congrArg (ow eAccesss [_]) (show opnF r_Values r_Log (l.take g) 0 = opnF r_Values r_Log (l.take g) 0 ++ (((listsF r_Values l[g].2.1.length).take 0).filter (fun v => !hasA r_Log (↑g, v))).map (fun v => ((g : Int), v)) from by first | rfl | (simp; done) | grind [opnF, opn1, opn_app, d1, d2, t1, t2])) (E.loop (κ := Nat × Option Addr × Nat × Nat) (fun h => h.1 ≤ (listsF r_Values l[g].2.1.length).length ∧ True) (fun h => [(0, .slice a_l l.length c_l), (3, .pointer (some ⟨b3, 0, none⟩)), (5, .slice h.2.1 h.2.2.1 h.2.2.2), (6, .int .i64 (g : Int)), (7, .slice a31 (listsF r_Values l[g].2.1.length).length c31), (8, .int .i64 (↑h.1 : Int))]) (fun h => [ow eAccesss [.slice h.2.1 h.2.2.1 h.2.2.2] (opnF r_Values r_Log (l.take g) 0 ++ (((listsF r_Values l[g].2.1.length).take h.1).filter (fun v => !hasA r_Log (↑g, v))).map (fun v => ((g : Int), v))), pt b3 253 [.slice a_r_Facts r_Facts.length c_r_Facts, .slice a_r_Values r_Values.length c_r_Values, .slice a_r_Log r_Log.length c_r_Log, .int .i64 r_Rounds]]) (fun h => (listsF r_Values l[g].2.1.length).length - h.1) (0, aA0_0, (opnF r_Values r_Log (l.take g) 0).length, cA0_0) ⟨Nat.zero_le _, by simp⟩ ⟨rfl, rfl, rfl, rfl, rfl, rfl, trivial⟩ (.refl _) (fun h ph => ?_)))))))))
      obtain ⟨h, aA1_0, mA1_0, cA1_0⟩ := h
      try dsimp only at ph
      try dsimp only
      obtain ⟨pk, pa⟩ := ph
      have jl := lists_le (values := r_Values) (t := l[g].2.1.length) hv (hm _ (List.getElem_mem om))
      have jf := List.length_filter_le (fun v => !hasA r_Log (↑g, v)) ((listsF r_Values l[g].2.1.length).take h)
      have jt := List.length_take_le h (listsF r_Values l[g].2.1.length)
      refine Ent.lenow m0 fun eaA1_0 laA1_0 => ?_
      subst eaA1_0
      refine Eq_ (Ew Z4 (Emv rfl rfl (Emv rfl rfl (Ey rfl ((Y.len us_Iss rfl).yd) (Ey rfl ((Y.lss rfl rfl).yd) (Ent.d (fun q35 => ?_) (fun q35 => ?_)))))))
      · refine Eu (E.ct rfl (E.skipc (Et (Eq_ (E.block (Ew Z8 (Emv rfl rfl (Emv rfl rfl (Emv rfl rfl ?_)))))))))
        obtain ⟨eb41, eo41, ec41, ea41, er41, el41, eh41⟩ := rb3.elem h om
        obtain ⟨xa41, xc41, rfl⟩ := er41.sl
        have := er41.slen.2
        refine Ey rfl ((Y.ix us_Iss ty_Is rfl ea41 rfl h rfl om).yd) (Ey rfl (Y.ld1 ty_Is rfl (eh41 _) rfl) ?_)
        have jz := lists_mem _ (List.getElem_mem (l := (listsF r_Values l[g].2.1.length)) (n := h) om)
        refine Est rfl (N.call (t_spec_l8Access fc) rfl rfl rfl dc rfl (fun w Lp hA => ⟨i6, hA.ro er41⟩)) (fun k43 _ => ?_)
        obtain ⟨a43, m43, c43⟩ := k43
        refine Ent.lenow m0 fun e43 l43 => ?_
        subst e43
        refine Est rfl (N.alloc ty_Access dc) (fun b9 _ => (Est rfl (N.sto (vs := [_, _]) (cs' := [_, _]) ty_Access rfl rfl rfl rfl rfl bl rfl) (fun _ _ => (Ev Z5 (Ey rfl ((Y.fld fo_Reached_2 ty_Accesss dc rfl).yd) (Ey rfl (Y.ld1 ty_Accesss rfl ((Has.pt (mS (mS (mS m0)))).sub (cs' := [_]) 2 rfl) rfl) (Ey rfl (Y.ldS (cs := [_, _]) ty_Access rfl (Has.pt m0) rfl) (Est rfl (N.call0 t_spec_l7Logged rfl rfl rfl dc (fun w Lp hA => ⟨hA.ro hr_Log, i6, hA.ow (mS m0)⟩)) (fun _ _ => (Ent.b (fun q47 => ?_) (fun q47 => ?_)))))))))))
        · refine Ey rfl ((Y.not (b := true) rfl).yd) (Eu (E.cf rfl (E.skipc (E.bln (Et (Ez Z3 (Emv rfl rfl (Ey rfl ((Y.add rfl rfl om om).yd) (Eas rfl rfl (Eu (Ent.drop (Ent.drop (Ent.cv (congrArg (ow eAccesss [_]) (show opnF r_Values r_Log (l.take g) 0 ++ (((listsF r_Values l[g].2.1.length).take h).filter (fun v => !hasA r_Log (↑g, v))).map (fun v => ((g : Int), v)) = opnF r_Values r_Log (l.take g) 0 ++ (((listsF r_Values l[g].2.1.length).take (h + 1)).filter (fun v => !hasA r_Log (↑g, v))).map (fun v => ((g : Int), v)) from by grind [opnF, opn1, opn_app, d1, d2, t1, t2])) (Ent.p1 (Ent.p1 ?_)))))))))))))))
          exact E.again br (h + 1, aA1_0, (opnF r_Values r_Log (l.take g) 0 ++ (((listsF r_Values l[g].2.1.length).take h).filter (fun v => !hasA r_Log (↑g, v))).map (fun v => ((g : Int), v))).length, cA1_0) ⟨rfl, rfl, rfl, rfl, rfl, rfl, trivial⟩ (.refl _) ⟨(show h + 1 ≤ (listsF r_Values l[g].2.1.length).length from by omega), trivial⟩ (show (listsF r_Values l[g].2.1.length).length - (h + 1) < (listsF r_Values l[g].2.1.length).length - h from by omega)
        · refine Ey rfl ((Y.not (b := false) rfl).yd) (Eu (E.ct rfl (Ez Z5 (Emv rfl rfl (Ey rfl (Y.ldS (cs := [_, _]) ty_Access rfl (Has.pt m0) rfl) (Est rfl (N.bsl (pvs := [_]) (cs := [_, _]) us_Accesss ty_Access rfl dc dc (fillZ rfl rfl) rfl dc) (fun b51 _ => (Ent.p2 (Ent.p1 (Ent.p3 (Est rfl (N.push (E := eAccess) (ex := ((g : Int), ((listsF r_Values l[g].2.1.length)[h]))) us_Accesss ty_Access rfl rfl rfl (Own.mkAccess (x := ((g : Int), ((listsF r_Values l[g].2.1.length)[h]))) i6 Own.ow) rfl bn bn dc) (fun p52 _ => (Eas rfl rfl (En (E.bln (Et (Ez Z3 (Emv rfl rfl (Ey rfl ((Y.add rfl rfl om om).yd) (Eas rfl rfl (Eu (Ent.p1 (Ent.drop (Ent.cv (congrArg (ow eAccesss [_]) (show (opnF r_Values r_Log (l.take g) 0 ++ (((listsF r_Values l[g].2.1.length).take h).filter (fun v => !hasA r_Log (↑g, v))).map (fun v => ((g : Int), v))) ++ [((g : Int), ((listsF r_Values l[g].2.1.length)[h]))] = opnF r_Values r_Log (l.take g) 0 ++ (((listsF r_Values l[g].2.1.length).take (h + 1)).filter (fun v => !hasA r_Log (↑g, v))).map (fun v => ((g : Int), v)) from by grind [opnF, opn1, opn_app, d1, d2, t1, t2])) ?_))))))))))))))))))))))))
          refine Ent.p1 (Ent.p1 ?_)
          exact E.again br (h + 1, p52.1, ((opnF r_Values r_Log (l.take g) 0 ++ (((listsF r_Values l[g].2.1.length).take h).filter (fun v => !hasA r_Log (↑g, v))).map (fun v => ((g : Int), v))).length + 1), p52.2) ⟨rfl, rfl, rfl, rfl, rfl, rfl, trivial⟩ (.refl _) ⟨(show h + 1 ≤ (listsF r_Values l[g].2.1.length).length from by omega), trivial⟩ (show (listsF r_Values l[g].2.1.length).length - (h + 1) < (listsF r_Values l[g].2.1.length).length - h from by omega)
      · refine Eu (E.cf rfl (E.exit (E.the (E.the (E.blh (E.bln (Et (Ez Z3 (Emv rfl rfl (Ey rfl ((Y.add rfl rfl om om).yd) (Eas rfl rfl (Eu (Ent.cv (congrArg (ow eAccesss [_]) (show opnF r_Values r_Log (l.take g) 0 ++ (((listsF r_Values l[g].2.1.length).take h).filter (fun v => !hasA r_Log (↑g, v))).map (fun v => ((g : Int), v)) = opnF r_Values r_Log (l.take (g + 1)) 0 from by grind [opnF, opn1, opn_app, d1, d2, t1, t2])) (Ent.p1 (Ent.p1 ?_)))))))))))))))
        exact E.again hB3 (g + 1, aA1_0, (opnF r_Values r_Log (l.take g) 0 ++ (((listsF r_Values l[g].2.1.length).take h).filter (fun v => !hasA r_Log (↑g, v))).map (fun v => ((g : Int), v))).length, cA1_0) ⟨rfl, rfl, rfl, rfl, trivial⟩ (.refl _) ⟨(show g + 1 ≤ l.length from by omega), trivial⟩ (show l.length - (g + 1) < l.length - g from by omega)
  · refine Eu (E.cf rfl (E.exit (E.the (E.the (E.blh (Et (Ew Z2 (Emv rfl rfl (Eas rfl rfl (Eu (E.ret (Ent.cv (congrArg (ow eAccesss [_]) (show _ = opnF r_Values r_Log l 0 by grind [opnF, opn1, opn_app, d1, d2, t1, t2])) ?_))))))))))))
    exact Fg rfl rfl (_, _, _) rfl rfl
end Go.Proofs.YtonkkkjgdohooaaGreat
