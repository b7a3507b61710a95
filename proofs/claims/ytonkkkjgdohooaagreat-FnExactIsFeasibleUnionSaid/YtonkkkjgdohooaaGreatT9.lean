import Derived.Test.YtonkkkjgdohooaaGreatBs
import Derived.Test.YtonkkkjgdohooaaGreatT8
import Derived.Test.YtonkkkjgdohooaaGreatT6
import Derived.Test.YtonkkkjgdohooaaGreatBd
namespace Go.Proofs.YtonkkkjgdohooaaGreat
open Go.RowKit
set_option linter.unusedVariables false
set_option linter.unusedSimpArgs false
set_option maxHeartbeats 2000000
attribute [local irreducible] Nop Yd Yp Ent Has Tr FnP FnP2 Src
theorem t_impl_HasFact_1 {x_Rel : Int} {a_x_Values : Option Addr} {m_x_Values c_x_Values : Nat} {x_Values : List Int} {b_f : Nat} {f_Rel : Int} {a_f_Values : Option Addr} {m_f_Values c_f_Values : Nat} {f_Values : List Int} : Tr Tryz.prog 283 [.agg #[.int .i64 x_Rel, .slice a_x_Values m_x_Values c_x_Values], .pointer (some ⟨b_f, 0, none⟩)] (fun w L => (I64 x_Rel ∧ Ro w L eIs [.slice a_x_Values m_x_Values c_x_Values] x_Values) ∧ RoPt w L b_f [.int .i64 f_Rel, .slice a_f_Values m_f_Values c_f_Values] ∧ I64 f_Rel ∧ Ro w L eIs [.slice a_f_Values m_f_Values c_f_Values] f_Values) [] (κ := Unit) (fun k => True) (fun k => .bool (decide (cmpF (x_Rel, x_Values) (f_Rel, f_Values) = 0))) (fun k => []) := by
  refine Tr.intro Tryz.func283 rfl (n := 8) rfl (by decide +kernel) bl (fr := [(0, .agg #[.int .i64 x_Rel, .slice a_x_Values m_x_Values c_x_Values]), (1, .pointer (some ⟨b_f, 0, none⟩))]) rfl fun w L hR => ?_
  obtain ⟨⟨i6x_Rel, hx_Values⟩, hb_f, i6f_Rel, hf_Values⟩ := hR
  obtain ⟨rfl, lx_Values⟩ := hx_Values.slen
  obtain ⟨rfl, lf_Values⟩ := hf_Values.slen
  refine Ew Z2 (Est rfl (N.box (cs := [_, _]) rfl dc rfl) (fun b2 _ => (Eas rfl rfl (Ev Z5 (Ey rfl (Y.ldS (cs := [_, _]) ty_Fact rfl (Has.pt m0) rfl) (Ey rfl (Y.ldS (cs := [_, _]) ty_Fact rfl (hb_f.has) rfl) (Est rfl (N.call0 t_impl_CompareFacts rfl rfl rfl dc (fun w Lp hA => ⟨i6x_Rel, hA.ro hx_Values, i6f_Rel, hA.ro hf_Values⟩)) (fun _ _ => (Ey rfl ((Y.eql rfl rfl).yd) (Eas rfl rfl ?_))))))))))
  exact Eu (E.ret (Fg rfl rfl () rfl rfl))
theorem t_impl_HasFact {a_l : Option Addr} {m_l c_l : Nat} {l : List (Int × List Int)} {f_Rel : Int} {a_f_Values : Option Addr} {m_f_Values c_f_Values : Nat} {f_Values : List Int} : Tr Tryz.prog 186 [.slice a_l m_l c_l, .agg #[.int .i64 f_Rel, .slice a_f_Values m_f_Values c_f_Values]] (fun w L => Ro w L eFacts [.slice a_l m_l c_l] l ∧ I64 f_Rel ∧ Ro w L eIs [.slice a_f_Values m_f_Values c_f_Values] f_Values) [] (κ := Unit) (fun k => True) (fun k => .bool (hasF l (f_Rel, f_Values))) (fun k => []) := by
  refine Tr.intro Tryz.func186 rfl (n := 8) rfl (by decide +kernel) bl (fr := [(0, .slice a_l m_l c_l), (1, .agg #[.int .i64 f_Rel, .slice a_f_Values m_f_Values c_f_Values])]) rfl fun w L hR => ?_
  obtain ⟨hl, i6f_Rel, hf_Values⟩ := hR
  obtain ⟨rfl, ll⟩ := hl.slen
  obtain ⟨rfl, lf_Values⟩ := hf_Values.slen
  refine Ew Z2 (Est rfl (N.box (cs := [_, _]) rfl dc rfl) (fun b3 _ => (Eas rfl rfl (Ev Z4 (Emv rfl rfl (Ey rfl ((Y.fn (vs := [_]) rfl).yd) (Est rfl (N.call0 (t_ContainsFunc_Fact (f := (fun z => decide (cmpF z (f_Rel, f_Values) = 0))) (D_f := (fun _ => True)) (by intros; exact trivial)) rfl rfl rfl dc (fun w Lp hA => ⟨hA.ro hl, FnP.ofFact (D := (fun _ => True)) (fun hd => t_impl_HasFact_1) (fun w' hk => ⟨(hA.pt m0).keep hk, i6f_Rel, (hA.ro hf_Values).keep hk⟩)⟩)) (fun _ _ => (Eas rfl rfl ?_)))))))))
  exact Eu (E.ret (Fb rfl rfl (by rfl)))
theorem t_spec_HasFact {a_l : Option Addr} {m_l c_l : Nat} {l : List (Int × List Int)} {f_Rel : Int} {a_f_Values : Option Addr} {m_f_Values c_f_Values : Nat} {f_Values : List Int} : Tr Tryz.prog 176 [.slice a_l m_l c_l, .agg #[.int .i64 f_Rel, .slice a_f_Values m_f_Values c_f_Values]] (fun w L => Ro w L eFacts [.slice a_l m_l c_l] l ∧ I64 f_Rel ∧ Ro w L eIs [.slice a_f_Values m_f_Values c_f_Values] f_Values) [] (κ := Unit) (fun k => True) (fun k => .bool (hasF l (f_Rel, f_Values))) (fun k => []) := by
  refine Tr.intro Tryz.func176 rfl (n := 19) rfl (by decide +kernel) bl (fr := [(0, .slice a_l m_l c_l), (1, .agg #[.int .i64 f_Rel, .slice a_f_Values m_f_Values c_f_Values])]) rfl fun w L hR => ?_
  obtain ⟨hl, i6f_Rel, hf_Values⟩ := hR
  obtain ⟨rfl, ll⟩ := hl.slen
  obtain ⟨rfl, lf_Values⟩ := hf_Values.slen
  refine Ew Z2 (Est rfl (N.box (cs := [_, _]) rfl dc rfl) (fun b3 _ => (Eas rfl rfl (Eu (Eq_ (Ew Z1 (Eas rfl rfl (Eu (E.block (E.loop (κ := Nat) (fun g => g ≤ l.length ∧ hasF l (f_Rel, f_Values) = hasF (l.drop g) (f_Rel, f_Values)) (fun g => [(0, .slice a_l l.length c_l), (3, .pointer (some ⟨b3, 0, none⟩)), (5, .int .i64 (g : Int))]) (fun g => [pt b3 132 [.int .i64 f_Rel, .slice a_f_Values f_Values.length c_f_Values]]) (fun g => l.length - g) 0 ⟨Nat.zero_le _, by simp⟩ ⟨rfl, rfl, rfl, trivial⟩ (.refl _) (fun g pg => ?_)))))))))))
  obtain ⟨pk, pa⟩ := pg
  refine Eq_ (Ew Z4 (Emv rfl rfl (Emv rfl rfl (Ey rfl ((Y.len us_Facts rfl).yd) (Ey rfl ((Y.lss rfl rfl).yd) (Ent.d (fun q9 => ?_) (fun q9 => ?_)))))))
  · refine Eu (E.ct rfl (E.skipc (Et (Eq_ (E.block (Eq_ (D.region (fun j => true) mixed (Dyp 0 rfl (Y.mv rfl) (Dyp 1 rfl (Y.mv rfl) ?_)))))))))
    obtain ⟨eb14, eo14, ec14, ea14, er14, el14, eh14⟩ := hl.elem g om
    obtain ⟨xa14_0, xc14_0, rfl, ei14_0, xh14_0⟩ := Ro.pFact er14
    have := xh14_0.slen.2
    refine Dyp 2 rfl (Y.ix us_Facts ty_Fact rfl ea14 rfl g rfl om) (Dy 3 rfl (Y.ldS (cs := [_, _]) ty_Fact rfl (eh14 _) rfl) (Dy 4 rfl (Y.ldS (cs := [_, _]) ty_Fact rfl (Has.pt m0) rfl) (D.st 5 rfl rfl kr (fun _ => rfl) (N.call0 t_spec_CompareFacts rfl rfl rfl dc (fun w Lp hA => ⟨ei14_0, hA.ro xh14_0, i6f_Rel, hA.ro hf_Values⟩)) (fun _ _ => (Dyp 6 rfl (Y.eql rfl rfl) (Ent.d (fun q18 => ?_) (fun q18 => ?_)))))))
    · refine D.done kr (Et (E.ct rfl (Ew Z1 (Eas rfl rfl ?_))))
      exact Eu (E.ret (E.blr (E.thr (E.thr (E.blr (E.thr (Fb rfl rfl (by grind [hasF, d1, d2, t1, t2]))))))))
    · refine D.done kr (Et (E.cf rfl (E.skipc (E.bln (Et (Ez Z3 (Emv rfl rfl (Ey rfl ((Y.add rfl rfl om om).yd) (Eas rfl rfl ?_)))))))))
      exact Eu (E.again br (g + 1) ⟨rfl, rfl, rfl, trivial⟩ (.refl _) ⟨by omega, by grind [hasF, d1, d2, t1, t2]⟩ om)
  · refine Eu (E.cf rfl (E.exit (E.the (E.the (E.blh (Et (Ew Z1 (Eas rfl rfl ?_))))))))
    exact Eu (E.ret (Fb rfl rfl (by grind [hasF, d1, d2, t1, t2])))
theorem t_impl_factOf {a_Rel : Int} {a_a_Terms : Option Addr} {m_a_Terms c_a_Terms : Nat} {a_Terms : List Int} {a_b_Vars : Option Addr} {m_b_Vars c_b_Vars : Nat} {b_Vars : List Int} {a_b_Values : Option Addr} {m_b_Values c_b_Values : Nat} {b_Values : List Int} (hz : a_Terms.length ≤ 1048576) : Tr Tryz.prog 187 [.agg #[.int .i64 a_Rel, .slice a_a_Terms m_a_Terms c_a_Terms], .agg #[.slice a_b_Vars m_b_Vars c_b_Vars, .slice a_b_Values m_b_Values c_b_Values]] (fun w L => I64 a_Rel ∧ Ro w L eIs [.slice a_a_Terms m_a_Terms c_a_Terms] a_Terms ∧ Ro w L eIs [.slice a_b_Vars m_b_Vars c_b_Vars] b_Vars ∧ Ro w L eIs [.slice a_b_Values m_b_Values c_b_Values] b_Values) [] (κ := Option Addr × Nat × Nat) (fun k => True) (fun k => .agg #[.int .i64 ((factO (a_Rel, a_Terms) (b_Vars, b_Values)).1), .slice k.1 k.2.1 k.2.2]) (fun k => [ow eIs [.slice k.1 k.2.1 k.2.2] ((factO (a_Rel, a_Terms) (b_Vars, b_Values)).2)]) := by
  refine Tr.intro Tryz.func187 rfl (n := 29) rfl (by decide +kernel) bl (fr := [(0, .agg #[.int .i64 a_Rel, .slice a_a_Terms m_a_Terms c_a_Terms]), (1, .agg #[.slice a_b_Vars m_b_Vars c_b_Vars, .slice a_b_Values m_b_Values c_b_Values])]) rfl fun w L hR => ?_
  obtain ⟨i6a_Rel, ha_Terms, hb_Vars, hb_Values⟩ := hR
  obtain ⟨rfl, la_Terms⟩ := ha_Terms.slen
  obtain ⟨rfl, lb_Vars⟩ := hb_Vars.slen
  obtain ⟨rfl, lb_Values⟩ := hb_Values.slen
  have jv := valO_i64s (b := (b_Vars, b_Values)) (l := a_Terms) ha_Terms.i64 hb_Vars.i64 hb_Values.i64
  refine Ew Z3 (Est rfl (N.box (cs := [_, _]) rfl dc rfl) (fun b2 _ => (Est rfl (N.box (cs := [_, _]) rfl dc rfl) (fun b3 _ => (Est rfl (N.alloc ty_Fact dc) (fun b4 _ => (Ev Z6 (Ey rfl ((Y.fld fo_Atom_0 ty_I dc rfl).yd) (Ey rfl (Y.ld1 ty_I rfl ((Has.pt (mS (mS m0))).sub (cs' := [_]) 0 rfl) rfl) (Est rfl (N.bsl (pvs := []) (cs := []) us_Is ty_I rfl dc dc (fillZ rfl rfl) rfl dc) (fun b10 _ => (Ent.drop (Ey rfl ((Y.bld (pvs := [_, _]) (cs := [_, _]) ty_Fact pl_Fact rfl rfl).yd) (Est rfl (N.alloc ty_Fact dc) (fun b5 _ => (Est rfl (N.sto (vs := [_, _]) (cs' := [_, _]) ty_Fact rfl rfl rfl rfl rfl bl rfl) (fun _ _ => (Eu (Eq_ (Ew Z4 (Ey rfl ((Y.fld fo_Atom_1 ty_Is dc rfl).yd) (Ey rfl (Y.ld1 ty_Is rfl ((Has.pt (mS (mS (mS m0)))).sub (cs' := [_]) 1 rfl) rfl) (Ey rfl ((Y.len us_Is rfl).yd) (Emv rfl rfl (Eu (E.block (Ent.mkow (A := []) (Own.nil (E := Enc.int) (e := tI) (a := (some ⟨b10, 0, none⟩))) rfl ?_)))))))))))))))))))))))))))
  refine Ent.cv (congrArg (ow eIs [_]) (show [] = (a_Terms.take 0).map (valO (b_Vars, b_Values)) from by first | rfl | (simp; done) | grind [factO, d1, d2, t1, t2])) (E.loop (κ := Nat × Option Addr × Nat × Nat) (fun g => g.1 ≤ a_Terms.length ∧ True) (fun g => [(3, .pointer (some ⟨b3, 0, none⟩)), (4, .pointer (some ⟨b4, 0, none⟩)), (5, .pointer (some ⟨b5, 0, none⟩)), (13, .slice a_a_Terms a_Terms.length c_a_Terms), (14, .int .i64 (↑a_Terms.length : Int)), (15, .int .i64 (↑g.1 : Int))]) (fun g => [ow eIs [.slice g.2.1 g.2.2.1 g.2.2.2] ((a_Terms.take g.1).map (valO (b_Vars, b_Values))), pt b5 132 [.int .i64 a_Rel, .slice g.2.1 g.2.2.1 g.2.2.2], pt b4 132 [.int .i64 0, .slice none 0 0], pt b3 165 [.slice a_b_Vars b_Vars.length c_b_Vars, .slice a_b_Values b_Values.length c_b_Values], pt b2 144 [.int .i64 a_Rel, .slice a_a_Terms a_Terms.length c_a_Terms]]) (fun g => a_Terms.length - g.1) (0, (some ⟨b10, 0, none⟩), 0, 0) ⟨Nat.zero_le _, by simp⟩ ⟨rfl, rfl, rfl, rfl, rfl, rfl, trivial⟩ (.refl _) (fun g pg => ?_))
  obtain ⟨g, aA0_0, mA0_0, cA0_0⟩ := g
  try dsimp only at pg
  try dsimp only
  obtain ⟨pk, pa⟩ := pg
  refine Ent.lenow m0 fun eaA0_0 laA0_0 => ?_
  subst eaA0_0
  refine Ew Z1 (Ey rfl ((Y.lss rfl rfl).yd) (Ent.d (fun q16 => ?_) (fun q16 => ?_)))
  · obtain ⟨eb17, eo17, ea17, ei17, eh17⟩ := ha_Terms.elemI g om
    refine Eu (Eq_ (E.ct rfl (E.skipc (Et (Eq_ (E.block (Ew Z3 (Ey rfl ((Y.ix us_Is ty_I rfl ea17 rfl g rfl om).yd) (Ey rfl (Y.ld1 ty_I rfl (eh17 _) rfl) (Eas rfl rfl (Eu (D.region (fun j => !(Nat.beq j 6) && !(Nat.beq j 8)) mixed (Dyp 0 rfl (Y.fld fo_Fact_1 ty_Is dc rfl) (Dy 1 rfl (Y.ld1 ty_Is rfl ((Has.pt (mS m0)).sub (cs' := [_]) 1 rfl) rfl) (Dy 2 rfl (Y.ldS (cs := [_, _]) ty_Binding rfl (Has.pt (mS (mS (mS m0)))) rfl) (Dyp 3 rfl (Y.mv rfl) (D.st 4 rfl rfl kr (fun _ => rfl) (N.call0 t_impl_ValueOf rfl rfl rfl dc (fun w Lp hA => ⟨hA.ro hb_Vars, hA.ro hb_Values⟩)) (fun _ _ => (D.st 5 rfl rfl kr (fun _ => rfl) (N.bsl (pvs := [_]) (cs := [_]) us_Is ty_I rfl dc dc (fillZ rfl rfl) rfl dc) (fun b24 _ => (Ent.p1 (D.st 6 rfl rfl kr (fun h => by cases h) (N.push (E := Enc.int) (ex := valO (b_Vars, b_Values) a_Terms[g]) us_Is ty_I rfl rfl rfl (Own.int i6) rfl bn bn dc) (fun p25 _ => (Dyp 7 rfl (Y.fld fo_Fact_1 ty_Is dc rfl) (Ent.p1 (D.st 8 rfl rfl kr (fun h => by cases h) (N.sto (vs := [_]) (cs' := [_, _]) ty_Is rfl rfl rfl rfl rfl bl rfl) (fun _ _ => (D.done kr (E.bln (Et (Ez Z2 (Ey rfl ((Y.add rfl rfl om om).yd) ?_))))))))))))))))))))))))))))))))
    refine Emv rfl rfl (Eu (Ent.p1 (Ent.cv (congrArg (ow eIs [_]) (show ((a_Terms.take g).map (valO (b_Vars, b_Values))) ++ [valO (b_Vars, b_Values) a_Terms[g]] = (a_Terms.take (g + 1)).map (valO (b_Vars, b_Values)) from by grind [factO, d1, d2, t1, t2])) (Ent.p4 (Ent.p4 (Ent.p4 (Ent.p4 (Ent.p4 ?_))))))))
    exact E.again br (g + 1, p25.1, (((a_Terms.take g).map (valO (b_Vars, b_Values))).length + 1), p25.2) ⟨rfl, rfl, rfl, rfl, rfl, rfl, trivial⟩ (.refl _) ⟨(show g + 1 ≤ a_Terms.length from by omega), trivial⟩ (show a_Terms.length - (g + 1) < a_Terms.length - g from by omega)
  · refine Eu (Eq_ (E.cf rfl (E.exit (E.the (E.the (E.blh (Et (Ew Z2 (Ey rfl (Y.ldS (cs := [_, _]) ty_Fact rfl (Has.pt (mS m0)) rfl) (Ent.p2 (Est rfl (N.sto (vs := [_, _]) (cs' := [_, _]) ty_Fact rfl rfl rfl rfl rfl bl rfl) (fun _ _ => (Eu (E.ret (Ent.p1 (Ent.cv (congrArg (ow eIs [_]) (show _ = (factO (a_Rel, a_Terms) (b_Vars, b_Values)).2 by grind [factO, d1, d2, t1, t2])) ?_))))))))))))))))
    exact F.c1 br rfl rfl (mS m0) ty_Fact rfl (_, _, _) trivial (by rw [show ((factO (a_Rel, a_Terms) (b_Vars, b_Values)).1) = (a_Rel) from (by grind [factO, d1, d2, t1, t2])]; try rfl) (J := _) (.refl _) (.inl rfl)
end Go.Proofs.YtonkkkjgdohooaaGreat
