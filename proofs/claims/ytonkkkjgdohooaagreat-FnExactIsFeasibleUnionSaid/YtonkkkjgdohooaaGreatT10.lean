import Derived.Test.YtonkkkjgdohooaaGreatBs
import Derived.Test.YtonkkkjgdohooaaGreatT8
import Derived.Test.YtonkkkjgdohooaaGreatT6
import Derived.Test.YtonkkkjgdohooaaGreatT1
import Derived.Test.YtonkkkjgdohooaaGreatBc
import Derived.Test.YtonkkkjgdohooaaGreatT5
import Derived.Test.YtonkkkjgdohooaaGreatBd
namespace Go.Proofs.YtonkkkjgdohooaaGreat
open Go.RowKit
set_option linter.unusedVariables false
set_option linter.unusedSimpArgs false
set_option maxHeartbeats 2000000
attribute [local irreducible] Nop Yd Yp Ent Has Tr FnP FnP2 Src listsF opnF opn1 opnR chainB
theorem t_impl_ascending {a_l : Option Addr} {m_l c_l : Nat} {l : List Int} : Tr Tryz.prog 329 [.slice a_l m_l c_l] (fun w L => Ro w L eIs [.slice a_l m_l c_l] l) [] (κ := Unit) (fun k => True) (fun k => .bool (chainB ltB l)) (fun k => []) := by
  refine Tr.intro Tryz.func329 rfl (n := 24) rfl (by decide +kernel) bl (fr := [(0, .slice a_l m_l c_l)]) rfl fun w L hR => ?_
  have hl := hR
  obtain ⟨rfl, ll⟩ := hl.slen
  refine Ew Z1 (Eas rfl rfl (Eu (Eq_ (Ew Z3 (Emv rfl rfl (Ey rfl ((Y.len us_Is rfl).yd) (Emv rfl rfl (Eu (E.block (E.loop (κ := Nat) (fun g => g ≤ l.length ∧ chainB ltB l = chainB ltB (l.drop (g - 1))) (fun g => [(0, .slice a_l l.length c_l), (5, .int .i64 (↑l.length : Int)), (6, .int .i64 (g : Int))]) (fun g => []) (fun g => l.length - g) 0 ⟨Nat.zero_le _, by simp⟩ ⟨rfl, rfl, rfl, trivial⟩ (.refl _) (fun g pg => ?_)))))))))))
  obtain ⟨pk, pa⟩ := pg
  refine Ew Z1 (Ey rfl ((Y.lss rfl rfl).yd) (Ent.d (fun q7 => ?_) (fun q7 => ?_)))
  · refine Eu (Eq_ (E.ct rfl (E.skipc (Et (Eq_ (E.block (Ew Z2 (Emv rfl rfl (Eas rfl rfl (Eu (Eq_ (D.region (fun j => true) mixed (Dyp 0 rfl (Y.mv rfl) (Dyp 1 rfl (Y.gtr rfl rfl) (Ent.d (fun q10 => ?_) (fun q10 => ?_))))))))))))))))
    · refine Dyp 2 rfl (Y.mv rfl) (Dyp 3 rfl (Y.mv rfl) (Dyp 4 rfl (Y.mv rfl) ?_))
      obtain ⟨eb14, eo14, ea14, ei14, eh14⟩ := hl.elemI g om
      refine Dyp 5 rfl (Y.ix us_Is ty_I rfl ea14 rfl g rfl om) (Dy 6 rfl (Y.ld1 ty_I rfl (eh14 _) rfl) (Dyp 7 rfl (Y.mv rfl) (Dyp 8 rfl (Y.mv rfl) (Dyp 9 rfl (Y.sub rfl rfl om om) ?_))))
      obtain ⟨eb19, eo19, ea19, ei19, eh19⟩ := hl.elemI (g - 1) om
      refine Dyp 10 rfl (Y.ix us_Is ty_I rfl ea19 rfl (g - 1) om om) (Dy 11 rfl (Y.ld1 ty_I rfl (eh19 _) rfl) (Dyp 12 rfl (Y.leq rfl rfl) (Ent.d (fun q21 => ?_) (fun q21 => ?_))))
      · refine Dyp 13 rfl (Y.pkt rfl rfl) (D.done kr (Et (E.ct rfl (Ew Z1 (Eas rfl rfl ?_)))))
        exact Eu (E.ret (E.blr (E.thr (E.thr (E.blr (E.thr (Fb rfl rfl (by grind [chain_step, chain_zero, chain_end, ltB, d1, d2, t1, t2]))))))))
      · refine Dyp 13 rfl (Y.pkt rfl rfl) (D.done kr (Et (E.cf rfl (E.skipc (E.bln (Et (Ez Z2 (Ey rfl ((Y.add rfl rfl om om).yd) (Emv rfl rfl ?_)))))))))
        exact Eu (E.again br (g + 1) ⟨rfl, rfl, rfl, trivial⟩ (.refl _) ⟨by omega, by grind [chain_step, chain_zero, chain_end, ltB, d1, d2, t1, t2]⟩ om)
    · refine Dyp 2 rfl (Y.mv rfl) (Dsk 3 rfl (Dsk 4 rfl (Dsk 5 rfl (Dsk 6 rfl (Dsk 7 rfl (Dsk 8 rfl (Dsk 9 rfl (Dsk 10 rfl (Dsk 11 rfl (Dsk 12 rfl (Dyp 13 rfl (Y.pkf rfl rfl) (D.done kr (Et (E.cf rfl (E.skipc (E.bln (Et (Ez Z2 (Ey rfl ((Y.add rfl rfl om om).yd) (Emv rfl rfl ?_))))))))))))))))))))
      exact Eu (E.again br (g + 1) ⟨rfl, rfl, rfl, trivial⟩ (.refl _) ⟨by omega, by grind [chain_step, chain_zero, chain_end, ltB, d1, d2, t1, t2]⟩ om)
  · refine Eu (Eq_ (E.cf rfl (E.exit (E.the (E.the (E.blh (Et (Ew Z1 (Eas rfl rfl ?_)))))))))
    exact Eu (E.ret (Fb rfl rfl (by grind [chain_step, chain_zero, chain_end, ltB, d1, d2, t1, t2])))
theorem t_impl_Method_fits_1 {i : Int} {b_arity : Nat} {arity : Int} : Tr Tryz.prog 330 [.int .i64 i, .pointer (some ⟨b_arity, 0, none⟩)] (fun w L => (I64 i) ∧ RoPt w L b_arity [.int .i64 arity] ∧ -1000 ≤ arity ∧ arity ≤ 1000) [] (κ := Unit) (fun k => True) (fun k => .bool (!inR i 0 (arity - 1))) (fun k => []) := by
  refine Tr.intro Tryz.func330 rfl (n := 9) rfl (by decide +kernel) bl (fr := [(0, .int .i64 i), (1, .pointer (some ⟨b_arity, 0, none⟩))]) rfl fun w L hR => ?_
  obtain ⟨i6i, hb_arity, as0, as1⟩ := hR
  refine Ew Z1 (Eas rfl rfl (Ev Z6 (Emv rfl rfl (Ey rfl (Y.ld1 ty_I rfl (hb_arity.has) rfl) (Ey rfl ((Y.sub rfl rfl om om).yd) (Est rfl (N.call0 t_impl_within rfl rfl rfl dc (fun w Lp hA => trivial)) (fun _ _ => (Ey rfl ((Y.not rfl).yd) (Eas rfl rfl ?_)))))))))
  exact Eu (E.ret (Fb rfl rfl (by grind [d1, d2, t1, t2])))
theorem t_impl_isCost {n : Int} : Tr Tryz.prog 331 [.int .i64 n] (fun w L => True) [] (κ := Unit) (fun k => True) (fun k => .bool (inR n 0 99)) (fun k => []) := by
  refine Tr.intro Tryz.func331 rfl (n := 5) rfl (by decide +kernel) bl (fr := [(0, .int .i64 n)]) rfl fun w L hR => (Ew Z1 (Eas rfl rfl (Ev Z3 (Emv rfl rfl (Est rfl (N.call0 t_impl_within rfl rfl rfl dc (fun w Lp hA => trivial)) (fun _ _ => (Eas rfl rfl ?_)))))))
  exact Eu (E.ret (Fg rfl rfl () rfl rfl))
theorem t_impl_Method_fits {m_Rel : Int} {a_m_Inputs : Option Addr} {m_m_Inputs c_m_Inputs : Nat} {m_Inputs : List Int} {m_Limit : Int} {m_Cost : Int} {m_Quota : Int} {arity : Int} : Tr Tryz.prog 286 [.agg #[.int .i64 m_Rel, .slice a_m_Inputs m_m_Inputs c_m_Inputs, .int .i64 m_Limit, .int .i64 m_Cost, .int .i64 m_Quota], .int .i64 arity] (fun w L => I64 m_Rel ∧ Ro w L eIs [.slice a_m_Inputs m_m_Inputs c_m_Inputs] m_Inputs ∧ I64 m_Limit ∧ I64 m_Cost ∧ I64 m_Quota ∧ -1000 ≤ arity ∧ arity ≤ 1000) [] (κ := Unit) (fun k => True) (fun k => .bool (fitsB (m_Rel, m_Inputs, m_Limit, m_Cost, m_Quota) arity)) (fun k => []) := by
  refine Tr.intro Tryz.func286 rfl (n := 30) rfl (by decide +kernel) bl (fr := [(0, .agg #[.int .i64 m_Rel, .slice a_m_Inputs m_m_Inputs c_m_Inputs, .int .i64 m_Limit, .int .i64 m_Cost, .int .i64 m_Quota]), (1, .int .i64 arity)]) rfl fun w L hR => ?_
  obtain ⟨i6m_Rel, hm_Inputs, i6m_Limit, i6m_Cost, i6m_Quota, as0, as1⟩ := hR
  obtain ⟨rfl, lm_Inputs⟩ := hm_Inputs.slen
  refine Ew Z3 (Est rfl (N.box (cs := [_, _, _, _, _]) rfl dc rfl) (fun b2 _ => (Est rfl (N.box (cs := [_]) rfl dc rfl) (fun b3 _ => (Eas rfl rfl (Ev Z26 (Ey rfl ((Y.fld fo_Method_1 ty_Is dc rfl).yd) (Ey rfl (Y.ld1 ty_Is rfl ((Has.pt (mS m0)).sub (cs' := [_]) 1 rfl) rfl) (Est rfl (N.call0 t_impl_ascending rfl rfl rfl dc (fun w Lp hA => hA.ro hm_Inputs)) (fun _ _ => (Ent.b (fun q7 => ?_) (fun q7 => ?_))))))))))))
  · refine Emv rfl rfl (Ey rfl ((Y.fld fo_Method_1 ty_Is dc rfl).yd) (Ey rfl (Y.ld1 ty_Is rfl ((Has.pt (mS m0)).sub (cs' := [_]) 1 rfl) rfl) (Ey rfl ((Y.fn (vs := [_]) rfl).yd) (Est rfl (N.call0 (t_ContainsFunc_I (f := (fun i => !inR i 0 (arity - 1))) (D_f := (fun _ => True)) (by intros; exact trivial)) rfl rfl rfl dc (fun w Lp hA => ⟨hA.ro hm_Inputs, FnP.ofI (D := (fun _ => True)) (fun hd => t_impl_Method_fits_1) (fun w' hk => ⟨(hA.pt m0).keep hk, (by first | assumption | omega), (by first | assumption | omega)⟩)⟩)) (fun _ _ => (Ent.b (fun q12 => ?_) (fun q12 => ?_)))))))
    · refine Ey rfl ((Y.not (b := true) rfl).yd) (Ey rfl ((Y.pkt rfl rfl).yd) (Emv rfl rfl (Es rfl (Es rfl (Es rfl (Ey rfl ((Y.pkf rfl rfl).yd) (Emv rfl rfl (Es rfl (Es rfl (Es rfl (Ey rfl ((Y.pkf rfl rfl).yd) (Emv rfl rfl (Es rfl (Es rfl ?_))))))))))))))
      refine Es rfl (Ey rfl ((Y.pkf rfl rfl).yd) (Eas rfl rfl ?_))
      exact Eu (E.ret (Fb rfl rfl (by grind [fitsB, okPos, d1, d2, t1, t2])))
    · refine Ey rfl ((Y.not (b := false) rfl).yd) (Ey rfl ((Y.pkt rfl rfl).yd) (Emv rfl rfl (Ey rfl ((Y.fld fo_Method_2 ty_I dc rfl).yd) (Ey rfl (Y.ld1 ty_I rfl ((Has.pt (mS m0)).sub (cs' := [_]) 2 rfl) rfl) (Est rfl (N.call0 t_impl_within rfl rfl rfl dc (fun w Lp hA => trivial)) (fun _ _ => (Ent.b (fun q18 => ?_) (fun q18 => ?_))))))))
      · refine Ey rfl ((Y.pkt rfl rfl).yd) (Emv rfl rfl (Ey rfl ((Y.fld fo_Method_3 ty_I dc rfl).yd) (Ey rfl (Y.ld1 ty_I rfl ((Has.pt (mS m0)).sub (cs' := [_]) 3 rfl) rfl) (Est rfl (N.call0 t_impl_isCost rfl rfl rfl dc (fun w Lp hA => trivial)) (fun _ _ => (Ent.b (fun q23 => ?_) (fun q23 => ?_)))))))
        · refine Ey rfl ((Y.pkt rfl rfl).yd) (Emv rfl rfl (Ey rfl ((Y.fld fo_Method_4 ty_I dc rfl).yd) (Ey rfl (Y.ld1 ty_I rfl ((Has.pt (mS m0)).sub (cs' := [_]) 4 rfl) rfl) (Est rfl (N.call0 t_impl_within rfl rfl rfl dc (fun w Lp hA => trivial)) (fun _ _ => (Ey rfl ((Y.pkt rfl rfl).yd) (Eas rfl rfl ?_)))))))
          exact Eu (E.ret (Fb rfl rfl (by grind [fitsB, okPos, d1, d2, t1, t2])))
        · refine Ey rfl ((Y.pkt rfl rfl).yd) (Emv rfl rfl (Es rfl (Es rfl (Es rfl (Ey rfl ((Y.pkf rfl rfl).yd) (Eas rfl rfl ?_))))))
          exact Eu (E.ret (Fb rfl rfl (by grind [fitsB, okPos, d1, d2, t1, t2])))
      · refine Ey rfl ((Y.pkt rfl rfl).yd) (Emv rfl rfl (Es rfl (Es rfl (Es rfl (Ey rfl ((Y.pkf rfl rfl).yd) (Emv rfl rfl (Es rfl (Es rfl (Es rfl (Ey rfl ((Y.pkf rfl rfl).yd) (Eas rfl rfl ?_)))))))))))
        exact Eu (E.ret (Fb rfl rfl (by grind [fitsB, okPos, d1, d2, t1, t2])))
  · refine Emv rfl rfl (Es rfl (Es rfl (Es rfl (Es rfl (Es rfl (Ey rfl ((Y.pkf rfl rfl).yd) (Emv rfl rfl (Es rfl (Es rfl (Es rfl (Ey rfl ((Y.pkf rfl rfl).yd) (Emv rfl rfl (Es rfl (Es rfl ?_))))))))))))))
    refine Es rfl (Ey rfl ((Y.pkf rfl rfl).yd) (Emv rfl rfl (Es rfl (Es rfl (Es rfl (Ey rfl ((Y.pkf rfl rfl).yd) (Eas rfl rfl ?_)))))))
    exact Eu (E.ret (Fb rfl rfl (by grind [fitsB, okPos, d1, d2, t1, t2])))
theorem t_impl_IsMethod {a_s : Option Addr} {m_s c_s : Nat} {s : List Int} {m_Rel : Int} {a_m_Inputs : Option Addr} {m_m_Inputs c_m_Inputs : Nat} {m_Inputs : List Int} {m_Limit : Int} {m_Cost : Int} {m_Quota : Int} : Tr Tryz.prog 199 [.slice a_s m_s c_s, .agg #[.int .i64 m_Rel, .slice a_m_Inputs m_m_Inputs c_m_Inputs, .int .i64 m_Limit, .int .i64 m_Cost, .int .i64 m_Quota]] (fun w L => Ro w L eIs [.slice a_s m_s c_s] s ∧ I64 m_Rel ∧ Ro w L eIs [.slice a_m_Inputs m_m_Inputs c_m_Inputs] m_Inputs ∧ I64 m_Limit ∧ I64 m_Cost ∧ I64 m_Quota) [] (κ := Unit) (fun k => True) (fun k => .bool (okMeth s (m_Rel, m_Inputs, m_Limit, m_Cost, m_Quota))) (fun k => []) := by
  refine Tr.intro Tryz.func199 rfl (n := 18) rfl (by decide +kernel) bl (fr := [(0, .slice a_s m_s c_s), (1, .agg #[.int .i64 m_Rel, .slice a_m_Inputs m_m_Inputs c_m_Inputs, .int .i64 m_Limit, .int .i64 m_Cost, .int .i64 m_Quota])]) rfl fun w L hR => ?_
  obtain ⟨hs, i6m_Rel, hm_Inputs, i6m_Limit, i6m_Cost, i6m_Quota⟩ := hR
  obtain ⟨rfl, ls⟩ := hs.slen
  obtain ⟨rfl, lm_Inputs⟩ := hm_Inputs.slen
  refine Ew Z2 (Est rfl (N.box (cs := [_, _, _, _, _]) rfl dc rfl) (fun b3 _ => (Eas rfl rfl (Eu (Eq_ (D.region (fun j => true) mixed (Dyp 0 rfl (Y.mv rfl) (Dyp 1 rfl (Y.fld fo_Method_0 ty_I dc rfl) (Dy 2 rfl (Y.ld1 ty_I rfl ((Has.pt m0).sub (cs' := [_]) 0 rfl) rfl) (D.st 3 rfl rfl kr (fun _ => rfl) (N.call0 t_impl_hasRel rfl rfl rfl dc (fun w Lp hA => hA.ro hs)) (fun _ _ => (Ent.b (fun q8 => ?_) (fun q8 => ?_)))))))))))))
  · obtain ⟨z1, z2, z3, z4⟩ := okRel_lt q8
    rw [getD_get om] at z3 z4
    refine Dyp 4 rfl (Y.mv rfl) (Dy 5 rfl (Y.ldS (cs := [_, _, _, _, _]) ty_Method rfl (Has.pt m0) rfl) (Dyp 6 rfl (Y.mv rfl) (Dyp 7 rfl (Y.fld fo_Method_0 ty_I dc rfl) (Dy 8 rfl (Y.ld1 ty_I rfl ((Has.pt m0).sub (cs' := [_]) 0 rfl) rfl) ?_))))
    obtain ⟨eb14, eo14, ea14, ei14, eh14⟩ := hs.elemI m_Rel.toNat om
    refine Dyp 9 rfl (Y.ix us_Is ty_I rfl ea14 rfl m_Rel.toNat om om) (Dy 10 rfl (Y.ld1 ty_I rfl (eh14 _) rfl) (D.st 11 rfl rfl kr (fun _ => rfl) (N.call0 t_impl_Method_fits rfl rfl rfl dc (fun w Lp hA => ⟨i6m_Rel, hA.ro hm_Inputs, i6m_Limit, i6m_Cost, i6m_Quota, (by first | assumption | omega), (by first | assumption | omega)⟩)) (fun _ _ => (Dyp 12 rfl (Y.pkt rfl rfl) (Dyp 13 rfl (Y.as rfl) ?_)))))
    exact D.done kr (Et (E.ret (Fb rfl rfl (by grind [okMeth, at0_get, d1, d2, t1, t2]))))
  · refine Dyp 4 rfl (Y.mv rfl) (Dsk 5 rfl (Dsk 6 rfl (Dsk 7 rfl (Dsk 8 rfl (Dsk 9 rfl (Dsk 10 rfl (Dsk 11 rfl (Dyp 12 rfl (Y.pkf rfl rfl) (Dyp 13 rfl (Y.as rfl) ?_)))))))))
    exact D.done kr (Et (E.ret (Fb rfl rfl (by grind [okMeth, at0_get, d1, d2, t1, t2]))))
theorem t_spec_IsMethod {a_s : Option Addr} {m_s c_s : Nat} {s : List Int} {m_Rel : Int} {a_m_Inputs : Option Addr} {m_m_Inputs c_m_Inputs : Nat} {m_Inputs : List Int} {m_Limit : Int} {m_Cost : Int} {m_Quota : Int} : Tr Tryz.prog 190 [.slice a_s m_s c_s, .agg #[.int .i64 m_Rel, .slice a_m_Inputs m_m_Inputs c_m_Inputs, .int .i64 m_Limit, .int .i64 m_Cost, .int .i64 m_Quota]] (fun w L => Ro w L eIs [.slice a_s m_s c_s] s ∧ I64 m_Rel ∧ Ro w L eIs [.slice a_m_Inputs m_m_Inputs c_m_Inputs] m_Inputs ∧ I64 m_Limit ∧ I64 m_Cost ∧ I64 m_Quota) [] (κ := Unit) (fun k => True) (fun k => .bool (okMeth s (m_Rel, m_Inputs, m_Limit, m_Cost, m_Quota))) (fun k => []) := by
  refine Tr.intro Tryz.func190 rfl (n := 74) rfl (by decide +kernel) bl (fr := [(0, .slice a_s m_s c_s), (1, .agg #[.int .i64 m_Rel, .slice a_m_Inputs m_m_Inputs c_m_Inputs, .int .i64 m_Limit, .int .i64 m_Cost, .int .i64 m_Quota])]) rfl fun w L hR => ?_
  obtain ⟨hs, i6m_Rel, hm_Inputs, i6m_Limit, i6m_Cost, i6m_Quota⟩ := hR
  obtain ⟨rfl, ls⟩ := hs.slen
  obtain ⟨rfl, lm_Inputs⟩ := hm_Inputs.slen
  refine Ew Z2 (Est rfl (N.box (cs := [_, _, _, _, _]) rfl dc rfl) (fun b3 _ => (Eas rfl rfl (Eu (Eq_ (Ew Z30 (Emv rfl rfl (Est rfl (N.call0 t_spec_IsSchema rfl rfl rfl dc (fun w Lp hA => hA.ro hs)) (fun _ _ => (Ent.b (fun q7 => ?_) (fun q7 => ?_)))))))))))
  · refine Ey rfl ((Y.not (b := true) rfl).yd) (Emv rfl rfl (Ey rfl ((Y.fld fo_Method_0 ty_I dc rfl).yd) (Ey rfl (Y.ld1 ty_I rfl ((Has.pt m0).sub (cs' := [_]) 0 rfl) rfl) (Emv rfl rfl (Ey rfl ((Y.len us_Is rfl).yd) (Ey rfl ((Y.sub rfl rfl om om).yd) (Est rfl (N.call0 t_spec_l1In rfl rfl rfl dc (fun w Lp hA => trivial)) (fun _ _ => (Ent.b (fun q15 => ?_) (fun q15 => ?_))))))))))
    · have y1 : okRel s m_Rel = true := by rw [okRel, q7, q15]; rfl
      obtain ⟨z1, z2, z3, z4⟩ := okRel_lt y1
      rw [getD_get om] at z3 z4
      refine Ey rfl ((Y.not (b := true) rfl).yd) (Ey rfl ((Y.pkf rfl rfl).yd) (Emv rfl rfl (Ey rfl ((Y.fld fo_Method_2 ty_I dc rfl).yd) (Ey rfl (Y.ld1 ty_I rfl ((Has.pt m0).sub (cs' := [_]) 2 rfl) rfl) (Est rfl (N.call0 t_spec_l1In rfl rfl rfl dc (fun w Lp hA => trivial)) (fun _ _ => (Ent.b (fun q21 => ?_) (fun q21 => ?_))))))))
      · refine Ey rfl ((Y.not (b := true) rfl).yd) (Ey rfl ((Y.pkf rfl rfl).yd) (Emv rfl rfl (Ey rfl ((Y.fld fo_Method_3 ty_I dc rfl).yd) (Ey rfl (Y.ld1 ty_I rfl ((Has.pt m0).sub (cs' := [_]) 3 rfl) rfl) (Est rfl (N.call0 t_spec_l1In rfl rfl rfl dc (fun w Lp hA => trivial)) (fun _ _ => (Ent.b (fun q27 => ?_) (fun q27 => ?_))))))))
        · refine Ey rfl ((Y.not (b := true) rfl).yd) (Ey rfl ((Y.pkf rfl rfl).yd) (Emv rfl rfl (Ey rfl ((Y.fld fo_Method_4 ty_I dc rfl).yd) (Ey rfl (Y.ld1 ty_I rfl ((Has.pt m0).sub (cs' := [_]) 4 rfl) rfl) (Est rfl (N.call0 t_spec_l1In rfl rfl rfl dc (fun w Lp hA => trivial)) (fun _ _ => (Ent.b (fun q33 => ?_) (fun q33 => ?_))))))))
          · refine Ey rfl ((Y.not (b := true) rfl).yd) (Ey rfl ((Y.pkf rfl rfl).yd) (Eu (E.cf rfl (E.skipc (Et (Eq_ (Ew Z1 (Eas rfl rfl (Eu (E.block (E.loop (κ := Nat) (fun g => g ≤ m_Inputs.length ∧ (okPos m_Inputs (at0 s m_Rel) && chainB ltB m_Inputs) = (okPos (m_Inputs.drop g) (at0 s m_Rel) && chainB ltB (m_Inputs.drop (g - 1)))) (fun g => [(0, .slice a_s s.length c_s), (3, .pointer (some ⟨b3, 0, none⟩)), (5, .int .i64 (g : Int))]) (fun g => [pt b3 130 [.int .i64 m_Rel, .slice a_m_Inputs m_Inputs.length c_m_Inputs, .int .i64 m_Limit, .int .i64 m_Cost, .int .i64 m_Quota]]) (fun g => m_Inputs.length - g) 0 ⟨Nat.zero_le _, by simp⟩ ⟨rfl, rfl, rfl, trivial⟩ (.refl _) (fun g pg => ?_))))))))))))
            obtain ⟨pk, pa⟩ := pg
            refine Eq_ (Ew Z5 (Emv rfl rfl (Ey rfl ((Y.fld fo_Method_1 ty_Is dc rfl).yd) (Ey rfl (Y.ld1 ty_Is rfl ((Has.pt m0).sub (cs' := [_]) 1 rfl) rfl) (Ey rfl ((Y.len us_Is rfl).yd) (Ey rfl ((Y.lss rfl rfl).yd) (Ent.d (fun q40 => ?_) (fun q40 => ?_))))))))
            · refine Eu (E.ct rfl (E.skipc (Et (Eq_ (E.block (Eq_ (D.region (fun j => true) mixed (Dyp 0 rfl (Y.fld fo_Method_1 ty_Is dc rfl) (Dy 1 rfl (Y.ld1 ty_Is rfl ((Has.pt m0).sub (cs' := [_]) 1 rfl) rfl) (Dyp 2 rfl (Y.mv rfl) ?_))))))))))
              obtain ⟨eb46, eo46, ea46, ei46, eh46⟩ := hm_Inputs.elemI g om
              refine Dyp 3 rfl (Y.ix us_Is ty_I rfl ea46 rfl g rfl om) (Dy 4 rfl (Y.ld1 ty_I rfl (eh46 _) rfl) (Dyp 5 rfl (Y.mv rfl) (Dyp 6 rfl (Y.fld fo_Method_0 ty_I dc rfl) (Dy 7 rfl (Y.ld1 ty_I rfl ((Has.pt m0).sub (cs' := [_]) 0 rfl) rfl) ?_))))
              obtain ⟨eb51, eo51, ea51, ei51, eh51⟩ := hs.elemI m_Rel.toNat om
              refine Dyp 8 rfl (Y.ix us_Is ty_I rfl ea51 rfl m_Rel.toNat om om) (Dy 9 rfl (Y.ld1 ty_I rfl (eh51 _) rfl) (Dyp 10 rfl (Y.sub rfl rfl om om) (D.st 11 rfl rfl kr (fun _ => rfl) (N.call0 t_spec_l1In rfl rfl rfl dc (fun w Lp hA => trivial)) (fun _ _ => (Ent.b (fun q54 => ?_) (fun q54 => ?_))))))
              · refine Dyp 12 rfl (Y.not (b := true) rfl) (Dyp 13 rfl (Y.mv rfl) (Dyp 14 rfl (Y.mv rfl) (Dyp 15 rfl (Y.gtr rfl rfl) (Ent.d (fun q58 => ?_) (fun q58 => ?_)))))
                · refine Dyp 16 rfl (Y.mv rfl) (Dyp 17 rfl (Y.fld fo_Method_1 ty_Is dc rfl) (Dy 18 rfl (Y.ld1 ty_Is rfl ((Has.pt m0).sub (cs' := [_]) 1 rfl) rfl) (Dyp 19 rfl (Y.mv rfl) (Dyp 20 rfl (Y.ix us_Is ty_I rfl ea46 rfl g rfl om) (Dy 21 rfl (Y.ld1 ty_I rfl (eh46 _) rfl) (Dyp 22 rfl (Y.fld fo_Method_1 ty_Is dc rfl) (Dy 23 rfl (Y.ld1 ty_Is rfl ((Has.pt m0).sub (cs' := [_]) 1 rfl) rfl) (Dyp 24 rfl (Y.mv rfl) (Dyp 25 rfl (Y.sub rfl rfl om om) ?_)))))))))
                  obtain ⟨eb69, eo69, ea69, ei69, eh69⟩ := hm_Inputs.elemI (g - 1) om
                  refine Dyp 26 rfl (Y.ix us_Is ty_I rfl ea69 rfl (g - 1) om om) (Dy 27 rfl (Y.ld1 ty_I rfl (eh69 _) rfl) (Dyp 28 rfl (Y.leq rfl rfl) (Ent.d (fun q71 => ?_) (fun q71 => ?_))))
                  · refine Dyp 29 rfl (Y.pkt rfl rfl) (Dyp 30 rfl (Y.pkf rfl rfl) (D.done kr (Et (E.ct rfl (Ew Z1 (Eas rfl rfl ?_))))))
                    exact Eu (E.ret (E.blr (E.thr (E.thr (E.blr (E.thr (Fb rfl rfl (by grind [okMeth, fitsB, okRel, at0_get, okPos, chain_step, chain_zero, chain_end, ltB, d1, d2, t1, t2]))))))))
                  · refine Dyp 29 rfl (Y.pkt rfl rfl) (Dyp 30 rfl (Y.pkf rfl rfl) (D.done kr (Et (E.cf rfl (E.skipc (E.bln (Et (Ez Z3 (Emv rfl rfl (Ey rfl ((Y.add rfl rfl om om).yd) (Eas rfl rfl ?_)))))))))))
                    exact Eu (E.again br (g + 1) ⟨rfl, rfl, rfl, trivial⟩ (.refl _) ⟨by omega, by grind [okPos, chain_step, chain_zero, chain_end, ltB, at0_get, d1, d2, t1, t2]⟩ om)
                · refine Dyp 16 rfl (Y.mv rfl) (Dsk 17 rfl (Dsk 18 rfl (Dsk 19 rfl (Dsk 20 rfl (Dsk 21 rfl (Dsk 22 rfl (Dsk 23 rfl (Dsk 24 rfl (Dsk 25 rfl (Dsk 26 rfl (Dsk 27 rfl (Dsk 28 rfl (Dyp 29 rfl (Y.pkf rfl rfl) (Dyp 30 rfl (Y.pkf rfl rfl) ?_))))))))))))))
                  refine D.done kr (Et (E.cf rfl (E.skipc (E.bln (Et (Ez Z3 (Emv rfl rfl (Ey rfl ((Y.add rfl rfl om om).yd) (Eas rfl rfl ?_)))))))))
                  exact Eu (E.again br (g + 1) ⟨rfl, rfl, rfl, trivial⟩ (.refl _) ⟨by omega, by grind [okPos, chain_step, chain_zero, chain_end, ltB, at0_get, d1, d2, t1, t2]⟩ om)
              · refine Dyp 12 rfl (Y.not (b := false) rfl) (Dyp 13 rfl (Y.mv rfl) (Dsk 14 rfl (Dsk 15 rfl (D.sku 16 rfl rfl dc kr (Dsk 17 rfl (Dsk 18 rfl (Dsk 19 rfl (Dsk 20 rfl (Dsk 21 rfl (Dsk 22 rfl (Dsk 23 rfl (Dsk 24 rfl (Dsk 25 rfl (Dsk 26 rfl ?_))))))))))))))
                refine Dsk 27 rfl (Dsk 28 rfl (Dsk 29 rfl (Dyp 30 rfl (Y.pkt rfl rfl) (D.done kr (Et (E.ct rfl (Ew Z1 (Eas rfl rfl ?_))))))))
                exact Eu (E.ret (E.blr (E.thr (E.thr (E.blr (E.thr (Fb rfl rfl (by grind [okMeth, fitsB, okRel, at0_get, okPos, chain_step, chain_zero, chain_end, ltB, d1, d2, t1, t2]))))))))
            · refine Eu (E.cf rfl (E.exit (E.the (E.the (E.blh (Et (Ew Z1 (Eas rfl rfl ?_))))))))
              exact Eu (E.ret (Fb rfl rfl (by grind [okMeth, fitsB, okRel, at0_get, okPos, chain_step, chain_zero, chain_end, ltB, d1, d2, t1, t2])))
          · refine Ey rfl ((Y.not (b := false) rfl).yd) (Ey rfl ((Y.pkf rfl rfl).yd) (Eu (E.ct rfl (Ew Z1 (Eas rfl rfl ?_)))))
            exact Eu (E.ret (E.thr (Fb rfl rfl (by grind [okMeth, fitsB, okRel, at0_get, okPos, chain_step, chain_zero, chain_end, ltB, d1, d2, t1, t2]))))
        · refine Ey rfl ((Y.not (b := false) rfl).yd) (Ey rfl ((Y.pkf rfl rfl).yd) (Emv rfl rfl (Es rfl (Es rfl (Es rfl (Es rfl (Ey rfl ((Y.pkt rfl rfl).yd) (Eu (E.ct rfl (Ew Z1 (Eas rfl rfl ?_)))))))))))
          exact Eu (E.ret (E.thr (Fb rfl rfl (by grind [okMeth, fitsB, okRel, at0_get, okPos, chain_step, chain_zero, chain_end, ltB, d1, d2, t1, t2]))))
      · refine Ey rfl ((Y.not (b := false) rfl).yd) (Ey rfl ((Y.pkf rfl rfl).yd) (Emv rfl rfl (Es rfl (Es rfl (Es rfl (Es rfl (Ey rfl ((Y.pkt rfl rfl).yd) (Emv rfl rfl (Es rfl (Es rfl (Es rfl (Es rfl (Ey rfl ((Y.pkt rfl rfl).yd) (Eu (E.ct rfl (Ew Z1 (Eas rfl rfl ?_)))))))))))))))))
        exact Eu (E.ret (E.thr (Fb rfl rfl (by grind [okMeth, fitsB, okRel, at0_get, okPos, chain_step, chain_zero, chain_end, ltB, d1, d2, t1, t2]))))
    · refine Ey rfl ((Y.not (b := false) rfl).yd) (Ey rfl ((Y.pkf rfl rfl).yd) (Emv rfl rfl (Es rfl (Es rfl (Es rfl (Es rfl (Ey rfl ((Y.pkt rfl rfl).yd) (Emv rfl rfl (Es rfl (Es rfl (Es rfl (Es rfl (Ey rfl ((Y.pkt rfl rfl).yd) (Emv rfl rfl ?_))))))))))))))
      refine Es rfl (Es rfl (Es rfl (Es rfl (Ey rfl ((Y.pkt rfl rfl).yd) (Eu (E.ct rfl (Ew Z1 (Eas rfl rfl ?_))))))))
      exact Eu (E.ret (E.thr (Fb rfl rfl (by grind [okMeth, fitsB, okRel, at0_get, okPos, chain_step, chain_zero, chain_end, ltB, d1, d2, t1, t2]))))
  · refine Ey rfl ((Y.not (b := false) rfl).yd) (Emv rfl rfl (Es rfl (Es rfl (Es rfl (Es rfl (Es rfl (Es rfl (Es rfl (Ey rfl ((Y.pkt rfl rfl).yd) (Emv rfl rfl (Es rfl (Es rfl (Es rfl (Es rfl ?_))))))))))))))
    refine Ey rfl ((Y.pkt rfl rfl).yd) (Emv rfl rfl (Es rfl (Es rfl (Es rfl (Es rfl (Ey rfl ((Y.pkt rfl rfl).yd) (Emv rfl rfl (Es rfl (Es rfl (Es rfl (Es rfl (Ey rfl ((Y.pkt rfl rfl).yd) (Eu (E.ct rfl (Ew Z1 (Eas rfl rfl ?_))))))))))))))))
    exact Eu (E.ret (E.thr (Fb rfl rfl (by grind [okMeth, fitsB, okRel, at0_get, okPos, chain_step, chain_zero, chain_end, ltB, d1, d2, t1, t2]))))
theorem t_impl_AreMethods_1 {m_Rel : Int} {a_m_Inputs : Option Addr} {m_m_Inputs c_m_Inputs : Nat} {m_Inputs : List Int} {m_Limit : Int} {m_Cost : Int} {m_Quota : Int} {b_s : Nat} {a_s : Option Addr} {m_s c_s : Nat} {s : List Int} : Tr Tryz.prog 198 [.agg #[.int .i64 m_Rel, .slice a_m_Inputs m_m_Inputs c_m_Inputs, .int .i64 m_Limit, .int .i64 m_Cost, .int .i64 m_Quota], .pointer (some ⟨b_s, 0, none⟩)] (fun w L => (I64 m_Rel ∧ Ro w L eIs [.slice a_m_Inputs m_m_Inputs c_m_Inputs] m_Inputs ∧ I64 m_Limit ∧ I64 m_Cost ∧ I64 m_Quota) ∧ RoPt w L b_s [.slice a_s m_s c_s] ∧ Ro w L eIs [.slice a_s m_s c_s] s) [] (κ := Unit) (fun k => True) (fun k => .bool (!okMeth s (m_Rel, m_Inputs, m_Limit, m_Cost, m_Quota))) (fun k => []) := by
  refine Tr.intro Tryz.func198 rfl (n := 8) rfl (by decide +kernel) bl (fr := [(0, .agg #[.int .i64 m_Rel, .slice a_m_Inputs m_m_Inputs c_m_Inputs, .int .i64 m_Limit, .int .i64 m_Cost, .int .i64 m_Quota]), (1, .pointer (some ⟨b_s, 0, none⟩))]) rfl fun w L hR => ?_
  obtain ⟨⟨i6m_Rel, hm_Inputs, i6m_Limit, i6m_Cost, i6m_Quota⟩, hb_s, hs⟩ := hR
  obtain ⟨rfl, lm_Inputs⟩ := hm_Inputs.slen
  obtain ⟨rfl, ls⟩ := hs.slen
  refine Ew Z2 (Est rfl (N.box (cs := [_, _, _, _, _]) rfl dc rfl) (fun b2 _ => (Eas rfl rfl (Ev Z5 (Ey rfl (Y.ld1 ty_Is rfl (hb_s.has) rfl) (Ey rfl (Y.ldS (cs := [_, _, _, _, _]) ty_Method rfl (Has.pt m0) rfl) (Est rfl (N.call0 t_impl_IsMethod rfl rfl rfl dc (fun w Lp hA => ⟨hA.ro hs, i6m_Rel, hA.ro hm_Inputs, i6m_Limit, i6m_Cost, i6m_Quota⟩)) (fun _ _ => (Ey rfl ((Y.not rfl).yd) (Eas rfl rfl ?_))))))))))
  exact Eu (E.ret (Fb rfl rfl (by grind [d1, d2, t1, t2])))
theorem t_impl_AreMethods {a_s : Option Addr} {m_s c_s : Nat} {s : List Int} {a_l : Option Addr} {m_l c_l : Nat} {l : List (Int × List Int × Int × Int × Int)} : Tr Tryz.prog 93 [.slice a_s m_s c_s, .slice a_l m_l c_l] (fun w L => Ro w L eIs [.slice a_s m_s c_s] s ∧ Ro w L eMethods [.slice a_l m_l c_l] l) [] (κ := Unit) (fun k => True) (fun k => .bool (okMeths s l)) (fun k => []) := by
  refine Tr.intro Tryz.func93 rfl (n := 18) rfl (by decide +kernel) bl (fr := [(0, .slice a_s m_s c_s), (1, .slice a_l m_l c_l)]) rfl fun w L hR => ?_
  obtain ⟨hs, hl⟩ := hR
  obtain ⟨rfl, ls⟩ := hs.slen
  obtain ⟨rfl, ll⟩ := hl.slen
  refine Ew Z2 (Est rfl (N.box (cs := [_]) rfl dc rfl) (fun b2 _ => (Eas rfl rfl (Ev Z14 (Ey rfl (Y.ld1 ty_Is rfl (Has.pt m0) rfl) (Est rfl (N.call0 t_impl_IsSchema rfl rfl rfl dc (fun w Lp hA => hA.ro hs)) (fun _ _ => (Ent.b (fun q6 => ?_) (fun q6 => ?_)))))))))
  · refine Emv rfl rfl (Emv rfl rfl (Ey rfl ((Y.len us_Methods rfl).yd) (Ey rfl ((Y.leq rfl rfl).yd) (Ent.d (fun q10 => ?_) (fun q10 => ?_)))))
    · refine Ey rfl ((Y.pkt rfl rfl).yd) (Emv rfl rfl (Emv rfl rfl (Ey rfl ((Y.fn (vs := [_]) rfl).yd) (Est rfl (N.call0 (t_ContainsFunc_Method (f := (fun z => !okMeth s z)) (D_f := (fun _ => True)) (by intros; exact trivial)) rfl rfl rfl dc (fun w Lp hA => ⟨hA.ro hl, FnP.ofMethod (D := (fun _ => True)) (fun hd => t_impl_AreMethods_1) (fun w' hk => ⟨(hA.pt m0).keep hk, (hA.ro hs).keep hk⟩)⟩)) (fun _ _ => (Ey rfl ((Y.not rfl).yd) (Ey rfl ((Y.pkt rfl rfl).yd) (Eas rfl rfl ?_))))))))
      exact Eu (E.ret (Fb rfl rfl (by grind [okMeths, d1, d2, t1, t2])))
    · refine Ey rfl ((Y.pkt rfl rfl).yd) (Emv rfl rfl (Es rfl (Es rfl (Es rfl (Es rfl (Ey rfl ((Y.pkf rfl rfl).yd) (Eas rfl rfl ?_)))))))
      exact Eu (E.ret (Fb rfl rfl (by grind [okMeths, d1, d2, t1, t2])))
  · refine Emv rfl rfl (Es rfl (Es rfl (Es rfl (Ey rfl ((Y.pkf rfl rfl).yd) (Emv rfl rfl (Es rfl (Es rfl (Es rfl (Es rfl (Ey rfl ((Y.pkf rfl rfl).yd) (Eas rfl rfl ?_)))))))))))
    exact Eu (E.ret (Fb rfl rfl (by grind [okMeths, d1, d2, t1, t2])))
theorem t_spec_AreMethods {a_s : Option Addr} {m_s c_s : Nat} {s : List Int} {a_l : Option Addr} {m_l c_l : Nat} {l : List (Int × List Int × Int × Int × Int)} : Tr Tryz.prog 85 [.slice a_s m_s c_s, .slice a_l m_l c_l] (fun w L => Ro w L eIs [.slice a_s m_s c_s] s ∧ Ro w L eMethods [.slice a_l m_l c_l] l) [] (κ := Unit) (fun k => True) (fun k => .bool (okMeths s l)) (fun k => []) := by
  refine Tr.intro Tryz.func85 rfl (n := 26) rfl (by decide +kernel) bl (fr := [(0, .slice a_s m_s c_s), (1, .slice a_l m_l c_l)]) rfl fun w L hR => ?_
  obtain ⟨hs, hl⟩ := hR
  obtain ⟨rfl, ls⟩ := hs.slen
  obtain ⟨rfl, ll⟩ := hl.slen
  refine Ew Z1 (Eas rfl rfl (Eu (Eq_ (Ew Z1 (Eas rfl rfl (Eu (E.block (E.loop (κ := Nat) (fun g => g ≤ l.length ∧ l.any (fun m => !okMeth s m) = (l.drop g).any (fun m => !okMeth s m)) (fun g => [(0, .slice a_s s.length c_s), (1, .slice a_l l.length c_l), (5, .int .i64 (g : Int))]) (fun g => []) (fun g => l.length - g) 0 ⟨Nat.zero_le _, by simp⟩ ⟨rfl, rfl, rfl, trivial⟩ (.refl _) (fun g pg => ?_)))))))))
  obtain ⟨pk, pa⟩ := pg
  refine Eq_ (Ew Z4 (Emv rfl rfl (Emv rfl rfl (Ey rfl ((Y.len us_Methods rfl).yd) (Ey rfl ((Y.lss rfl rfl).yd) (Ent.d (fun q9 => ?_) (fun q9 => ?_)))))))
  · refine Eu (E.ct rfl (E.skipc (Et (Eq_ (E.block (Ew Z7 (Emv rfl rfl (Emv rfl rfl (Emv rfl rfl ?_)))))))))
    obtain ⟨eb15, eo15, ec15, ea15, er15, el15, eh15⟩ := hl.elem g om
    obtain ⟨xa15_0, xc15_0, rfl, ei15_0, xh15_0, ei15_2, ei15_3, ei15_4⟩ := Ro.pMethod er15
    have := xh15_0.slen.2
    refine Ey rfl ((Y.ix us_Methods ty_Method rfl ea15 rfl g rfl om).yd) (Ey rfl (Y.ldS (cs := [_, _, _, _, _]) ty_Method rfl (eh15 _) rfl) (Est rfl (N.call0 t_spec_IsMethod rfl rfl rfl dc (fun w Lp hA => ⟨hA.ro hs, ei15_0, hA.ro xh15_0, ei15_2, ei15_3, ei15_4⟩)) (fun _ _ => (Ent.b (fun q17 => ?_) (fun q17 => ?_)))))
    · refine Ey rfl ((Y.not (b := true) rfl).yd) (Eu (E.cf rfl (E.skipc (E.bln (Et (Ez Z3 (Emv rfl rfl (Ey rfl ((Y.add rfl rfl om om).yd) (Eas rfl rfl ?_)))))))))
      exact Eu (E.again br (g + 1) ⟨rfl, rfl, rfl, trivial⟩ (.refl _) ⟨by omega, by grind [d1, d2, t1, t2]⟩ om)
    · refine Ey rfl ((Y.not (b := false) rfl).yd) (Eu (E.ct rfl (Ew Z1 (Eas rfl rfl ?_))))
      exact Eu (E.ret (E.blr (E.thr (E.thr (E.blr (E.thr (Fb rfl rfl (by grind [okMeths, d1, d2, t1, t2]))))))))
  · refine Eu (E.cf rfl (E.exit (E.the (E.the (E.blh (Et (Ew Z8 (Emv rfl rfl (Est rfl (N.call0 t_spec_IsSchema rfl rfl rfl dc (fun w Lp hA => hA.ro hs)) (fun _ _ => (Ent.b (fun q20 => ?_) (fun q20 => ?_))))))))))))
    · refine Emv rfl rfl (Emv rfl rfl (Ey rfl ((Y.len us_Methods rfl).yd) (Ey rfl ((Y.leq rfl rfl).yd) (Ey rfl ((Y.pkt rfl rfl).yd) (Eas rfl rfl ?_)))))
      exact Eu (E.ret (Fb rfl rfl (by grind [okMeths, d1, d2, t1, t2])))
    · refine Emv rfl rfl (Es rfl (Es rfl (Es rfl (Ey rfl ((Y.pkf rfl rfl).yd) (Eas rfl rfl ?_)))))
      exact Eu (E.ret (Fb rfl rfl (by grind [okMeths, d1, d2, t1, t2])))
end Go.Proofs.YtonkkkjgdohooaaGreat
