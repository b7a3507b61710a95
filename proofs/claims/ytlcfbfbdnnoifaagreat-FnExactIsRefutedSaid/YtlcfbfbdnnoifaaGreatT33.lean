import Derived.Test.YtlcfbfbdnnoifaaGreatT19
import Derived.Test.YtlcfbfbdnnoifaaGreatT31
import Derived.Test.YtlcfbfbdnnoifaaGreatDw
import Derived.Test.YtlcfbfbdnnoifaaGreatBm
namespace Go.Proofs.YtlcfbfbdnnoifaaGreat
open Go.RowKit
set_option linter.unusedVariables false
set_option linter.unusedSimpArgs false
set_option maxHeartbeats 2000000
attribute [local irreducible] Nop Yd Yp Ent Has Tr FnP FnP2 Src listsF opnF opn1 opnR chainB
theorem t_spec_l12Fact {a_Rel : Int} {a_a_Terms : Option Addr} {m_a_Terms c_a_Terms : Nat} {a_Terms : List Int} {a_b_Vars : Option Addr} {m_b_Vars c_b_Vars : Nat} {b_Vars : List Int} {a_b_Values : Option Addr} {m_b_Values c_b_Values : Nat} {b_Values : List Int} (hz : a_Terms.length ≤ 1048576) : Tr Tryz.prog 156 [.agg #[.int .i64 a_Rel, .slice a_a_Terms m_a_Terms c_a_Terms], .agg #[.slice a_b_Vars m_b_Vars c_b_Vars, .slice a_b_Values m_b_Values c_b_Values]] (fun w L => I64 a_Rel ∧ Ro w L eIs [.slice a_a_Terms m_a_Terms c_a_Terms] a_Terms ∧ Ro w L eIs [.slice a_b_Vars m_b_Vars c_b_Vars] b_Vars ∧ Ro w L eIs [.slice a_b_Values m_b_Values c_b_Values] b_Values) [] (κ := Option Addr × Nat × Nat) (fun k => True) (fun k => .agg #[.int .i64 ((factO (a_Rel, a_Terms) (b_Vars, b_Values)).1), .slice k.1 k.2.1 k.2.2]) (fun k => [ow eIs [.slice k.1 k.2.1 k.2.2] ((factO (a_Rel, a_Terms) (b_Vars, b_Values)).2)]) := by
  refine Tr.intro Tryz.func156 rfl (n := 30) rfl (by decide +kernel) (Nat.le_of_ble_eq_true rfl) (fr := [(0, .agg #[.int .i64 a_Rel, .slice a_a_Terms m_a_Terms c_a_Terms]), (1, .agg #[.slice a_b_Vars m_b_Vars c_b_Vars, .slice a_b_Values m_b_Values c_b_Values])]) rfl fun w L hR => ?_
  obtain ⟨i6a_Rel, ha_Terms, hb_Vars, hb_Values⟩ := hR
  obtain ⟨rfl, la_Terms⟩ := ha_Terms.slen
  obtain ⟨rfl, lb_Vars⟩ := hb_Vars.slen
  obtain ⟨rfl, lb_Values⟩ := hb_Values.slen
  have jv := valO_i64s (b := (b_Vars, b_Values)) (l := a_Terms) ha_Terms.i64 hb_Vars.i64 hb_Values.i64
  refine E.seq (E.region (l := [0, 1, 2]) rfl (E.st rfl rfl (N.box (cs := [_, _]) rfl (by decide) rfl) (fun b2 _ => ?_)))
  refine E.st rfl rfl (N.box (cs := [_, _]) rfl (by decide) rfl) (fun b3 _ => ?_)
  refine E.st rfl rfl (N.alloc ty_Fact (by decide)) (fun b4 _ => ?_)
  refine E.nil (E.thn (E.seq (E.region (l := [0, 1, 2, 3, 4]) rfl (E.y rfl rfl (by decide) ((Y.fld fo_Atom_0 ty_I (by decide) rfl).yd) ?_))))
  refine E.y rfl rfl (by decide) (Y.ld1 ty_I rfl ((Has.pt (mS (mS m0))).sub (cs' := [_]) 0 rfl) rfl) ?_
  refine E.y rfl rfl (by decide) ((Y.bld (pvs := [_]) (cs := [_, _]) ty_Fact pl_Fact rfl rfl).yd) ?_
  refine E.st rfl rfl (N.alloc ty_Fact (by decide)) (fun b5 _ => ?_)
  refine E.st rfl rfl (N.sto (vs := [_, _]) (cs' := [_, _]) ty_Fact rfl rfl rfl rfl rfl (Nat.le_of_ble_eq_true rfl) rfl) (fun _ _ => ?_)
  refine E.nil (E.thn (E.seq (E.seq (E.region (l := [0]) rfl (E.y rfl rfl (by decide) ((Y.as rfl).yd) ?_)))))
  refine E.nil (E.thn (E.block (Ent.mkow (A := []) (Own.nil (E := Enc.int) (e := tI) (a := none)) rfl ?_)))
  refine Ent.cv (congrArg (ow eIs [_]) (show [] = (a_Terms.take 0).map (valO (b_Vars, b_Values)) from by first | rfl | (simp; done) | grind [factO, List.drop_eq_getElem_cons, List.drop_eq_nil_of_le, List.take_succ_eq_append_getElem, List.take_of_length_le])) ?_
  refine E.loop (κ := Nat × Option Addr × Nat × Nat) (fun g => g.1 ≤ a_Terms.length ∧ True) (fun g => [(2, .pointer (some ⟨b2, 0, none⟩)), (3, .pointer (some ⟨b3, 0, none⟩)), (4, .pointer (some ⟨b4, 0, none⟩)), (5, .pointer (some ⟨b5, 0, none⟩)), (6, .int .i64 (↑g.1 : Int))]) (fun g => [ow eIs [.slice g.2.1 g.2.2.1 g.2.2.2] ((a_Terms.take g.1).map (valO (b_Vars, b_Values))), pt b5 95 [.int .i64 a_Rel, .slice g.2.1 g.2.2.1 g.2.2.2], pt b4 95 [.int .i64 0, .slice none 0 0], pt b3 80 [.slice a_b_Vars b_Vars.length c_b_Vars, .slice a_b_Values b_Values.length c_b_Values], pt b2 113 [.int .i64 a_Rel, .slice a_a_Terms a_Terms.length c_a_Terms]]) (fun g => a_Terms.length - g.1) (0, none, 0, 0) ⟨Nat.zero_le _, by simp⟩ ⟨rfl, rfl, rfl, rfl, rfl, trivial⟩ (.refl _) (fun g pg => ?_)
  obtain ⟨g, aA0_0, mA0_0, cA0_0⟩ := g
  try dsimp only at pg
  show Ent _ _ _ [(2, .pointer (some ⟨b2, 0, none⟩)), (3, .pointer (some ⟨b3, 0, none⟩)), (4, .pointer (some ⟨b4, 0, none⟩)), (5, .pointer (some ⟨b5, 0, none⟩)), (6, .int .i64 (↑g : Int))] [ow eIs [.slice aA0_0 mA0_0 cA0_0] ((a_Terms.take g).map (valO (b_Vars, b_Values))), pt b5 95 [.int .i64 a_Rel, .slice aA0_0 mA0_0 cA0_0], pt b4 95 [.int .i64 0, .slice none 0 0], pt b3 80 [.slice a_b_Vars b_Vars.length c_b_Vars, .slice a_b_Values b_Values.length c_b_Values], pt b2 113 [.int .i64 a_Rel, .slice a_a_Terms a_Terms.length c_a_Terms]] _
  obtain ⟨pk, pa⟩ := pg
  refine Ent.lenow m0 fun eaA0_0 laA0_0 => ?_
  subst eaA0_0
  refine E.seq (E.seq (E.region (l := [0, 1, 2, 3, 4]) rfl (E.y rfl rfl (by decide) ((Y.mv rfl).yd) ?_)))
  refine E.y rfl rfl (by decide) ((Y.fld fo_Atom_1 ty_Is (by decide) rfl).yd) ?_
  refine E.y rfl rfl (by decide) (Y.ld1 ty_Is rfl ((Has.pt (mS (mS (mS (mS m0))))).sub (cs' := [_]) 1 rfl) rfl) ?_
  refine E.y rfl rfl (by decide) ((Y.len us_Is rfl).yd) ?_
  refine E.y rfl rfl (by decide) ((Y.lss rfl rfl).yd) (Ent.d (fun q14 => ?_) (fun q14 => ?_))
  · refine E.nil (E.thn (E.ct rfl (E.skipc (E.thn (E.seq (E.block (D.region (fun j => !(Nat.beq j 10) && !(Nat.beq j 12)) mixed (D.yp 0 rfl rfl (by decide) (Y.fld fo_Fact_1 ty_Is (by decide) rfl) (by kernel_rfl) ?_))))))))
    refine D.y 1 rfl rfl (by decide) (Y.ld1 ty_Is rfl ((Has.pt (mS m0)).sub (cs' := [_]) 1 rfl) rfl) (by kernel_rfl) ?_
    refine D.y 2 rfl rfl (by decide) (Y.ldS (cs := [_, _]) ty_Binding rfl (Has.pt (mS (mS (mS m0)))) rfl) (by kernel_rfl) ?_
    refine D.yp 3 rfl rfl (by decide) (Y.fld fo_Atom_1 ty_Is (by decide) rfl) (by kernel_rfl) ?_
    refine D.y 4 rfl rfl (by decide) (Y.ld1 ty_Is rfl ((Has.pt (mS (mS (mS (mS m0))))).sub (cs' := [_]) 1 rfl) rfl) (by kernel_rfl) ?_
    refine D.yp 5 rfl rfl (by decide) (Y.mv rfl) (by kernel_rfl) ?_
    obtain ⟨eb23, eo23, ea23, ei23, eh23⟩ := ha_Terms.elemI g (by omega)
    refine D.yp 6 rfl rfl (by decide) (Y.ix us_Is ty_I rfl ea23 rfl g rfl (by omega)) (by kernel_rfl) ?_
    refine D.y 7 rfl rfl (by decide) (Y.ld1 ty_I rfl (eh23 _) rfl) (by kernel_rfl) ?_
    refine D.st 8 rfl rfl (by kernel_rfl) (fun _ => rfl) (N.call0 t_spec_ValueOf rfl rfl rfl (by decide) (fun w Lp hA => ⟨hA.ro hb_Vars, hA.ro hb_Values⟩)) (fun _ _ => ?_)
    refine D.st 9 rfl rfl (by kernel_rfl) (fun _ => rfl) (N.bsl (pvs := [_]) (cs := [_]) us_Is ty_I rfl (by decide) (by decide) (fillZ rfl rfl) rfl (by decide)) (fun b26 _ => ?_)
    refine Ent.p1 ?_
    refine D.st 10 rfl rfl (by kernel_rfl) (fun h => by cases h) (N.push (E := Enc.int) (ex := valO (b_Vars, b_Values) a_Terms[g]) us_Is ty_I rfl rfl rfl (Own.int (by first | assumption | (unfold I64; (try dsimp only); omega) | grind)) rfl (by first | omega | (simp only [List.length_map, List.length_take, List.length_append, List.length_drop, List.length_cons, List.length_nil]; omega)) (by first | omega | (simp only [List.length_map, List.length_take, List.length_append, List.length_drop, List.length_cons, List.length_nil]; omega)) (by decide)) (fun p27 _ => ?_)
    refine D.yp 11 rfl rfl (by decide) (Y.fld fo_Fact_1 ty_Is (by decide) rfl) (by kernel_rfl) ?_
    refine Ent.p1 ?_
    refine D.st 12 rfl rfl (by kernel_rfl) (fun h => by cases h) (N.sto (vs := [_]) (cs' := [_, _]) ty_Is rfl rfl rfl rfl rfl (Nat.le_of_ble_eq_true rfl) rfl) (fun _ _ => ?_)
    refine D.done (by kernel_rfl) (E.bln (E.thn (E.region (l := [0, 1, 2]) rfl (E.y rfl rfl (by decide) ((Y.mv rfl).yd) ?_))))
    refine E.y rfl rfl (by decide) ((Y.add rfl rfl (by omega) (by omega)).yd) ?_
    refine E.y rfl rfl (by decide) ((Y.as rfl).yd) ?_
    refine E.nil (E.thn (Ent.p1 ?_))
    refine Ent.cv (congrArg (ow eIs [_]) (show ((a_Terms.take g).map (valO (b_Vars, b_Values))) ++ [valO (b_Vars, b_Values) a_Terms[g]] = (a_Terms.take (g + 1)).map (valO (b_Vars, b_Values)) from by grind [factO, List.drop_eq_getElem_cons, List.drop_eq_nil_of_le, List.take_succ_eq_append_getElem, List.take_of_length_le])) ?_
    refine Ent.p4 ?_
    refine Ent.p4 ?_
    refine Ent.p4 ?_
    refine Ent.p4 ?_
    refine Ent.p4 ?_
    exact E.again (Back.refl _ _) (g + 1, p27.1, (((a_Terms.take g).map (valO (b_Vars, b_Values))).length + 1), p27.2) ⟨rfl, rfl, rfl, rfl, rfl, trivial⟩ (.refl _) ⟨(show g + 1 ≤ a_Terms.length from by omega), (show True from by grind [List.drop_eq_getElem_cons, List.drop_eq_nil_of_le, List.take_succ_eq_append_getElem, List.take_of_length_le])⟩ (show a_Terms.length - (g + 1) < a_Terms.length - g from by omega)
  · refine E.nil (E.thn (E.cf rfl (E.exit (E.the (E.the (E.blh (E.thn (E.seq (E.region (l := [0, 1]) rfl (E.y rfl rfl (by decide) (Y.ldS (cs := [_, _]) ty_Fact rfl (Has.pt (mS m0)) rfl) ?_))))))))))
    refine Ent.p2 ?_
    refine E.st rfl rfl (N.sto (vs := [_, _]) (cs' := [_, _]) ty_Fact rfl rfl rfl rfl rfl (Nat.le_of_ble_eq_true rfl) rfl) (fun _ _ => ?_)
    refine E.nil (E.thn (E.ret (Ent.p1 ?_)))
    refine Ent.cv (congrArg (ow eIs [_]) (show _ = (factO (a_Rel, a_Terms) (b_Vars, b_Values)).2 by grind [factO, List.drop_eq_getElem_cons, List.drop_eq_nil_of_le, List.take_succ_eq_append_getElem, List.take_of_length_le])) ?_
    exact F.c1 (Back.refl _ _) rfl rfl (mS m0) ty_Fact rfl (_, _, _) trivial (by rw [show ((factO (a_Rel, a_Terms) (b_Vars, b_Values)).1) = (a_Rel) from (by grind [factO, List.drop_eq_getElem_cons, List.drop_eq_nil_of_le, List.take_succ_eq_append_getElem, List.take_of_length_le])]; try rfl) (J := _) (.refl _) (.inl rfl)
theorem t_impl_GuardedAnswers_1_1 {a_Rel : Int} {a_a_Terms : Option Addr} {m_a_Terms c_a_Terms : Nat} {a_Terms : List Int} {b_facts : Nat} {a_facts : Option Addr} {m_facts c_facts : Nat} {facts : List (Int × List Int)} {b_b : Nat} {a_b_Vars : Option Addr} {m_b_Vars c_b_Vars : Nat} {b_Vars : List Int} {a_b_Values : Option Addr} {m_b_Values c_b_Values : Nat} {b_Values : List Int} (hz : a_Terms.length ≤ 1048576) : Tr Tryz.prog 99 [.agg #[.int .i64 a_Rel, .slice a_a_Terms m_a_Terms c_a_Terms], .pointer (some ⟨b_facts, 0, none⟩), .pointer (some ⟨b_b, 0, none⟩)] (fun w L => (I64 a_Rel ∧ Ro w L eIs [.slice a_a_Terms m_a_Terms c_a_Terms] a_Terms) ∧ RoPt w L b_facts [.slice a_facts m_facts c_facts] ∧ Ro w L eFacts [.slice a_facts m_facts c_facts] facts ∧ RoPt w L b_b [.slice a_b_Vars m_b_Vars c_b_Vars, .slice a_b_Values m_b_Values c_b_Values] ∧ Ro w L eIs [.slice a_b_Vars m_b_Vars c_b_Vars] b_Vars ∧ Ro w L eIs [.slice a_b_Values m_b_Values c_b_Values] b_Values) [] (κ := Unit) (fun k => True) (fun k => .bool (hasF facts (factO (a_Rel, a_Terms) (b_Vars, b_Values)))) (fun k => []) := by
  refine Tr.intro Tryz.func99 rfl (n := 10) rfl (by decide +kernel) (Nat.le_of_ble_eq_true rfl) (fr := [(0, .agg #[.int .i64 a_Rel, .slice a_a_Terms m_a_Terms c_a_Terms]), (1, .pointer (some ⟨b_facts, 0, none⟩)), (2, .pointer (some ⟨b_b, 0, none⟩))]) rfl fun w L hR => ?_
  obtain ⟨⟨i6a_Rel, ha_Terms⟩, hb_facts, hfacts, hb_b, hb_Vars, hb_Values⟩ := hR
  obtain ⟨rfl, la_Terms⟩ := ha_Terms.slen
  obtain ⟨rfl, lfacts⟩ := hfacts.slen
  obtain ⟨rfl, lb_Vars⟩ := hb_Vars.slen
  obtain ⟨rfl, lb_Values⟩ := hb_Values.slen
  refine E.seq (E.region (l := [0, 1]) rfl (E.st rfl rfl (N.box (cs := [_, _]) rfl (by decide) rfl) (fun b3 _ => ?_)))
  refine E.y rfl rfl (by decide) ((Y.as rfl).yd) ?_
  refine E.nil (E.thn (E.seq (D.region (fun j => true) mixed (D.y 0 rfl rfl (by decide) (Y.ld1 ty_Facts rfl (hb_facts.has) rfl) (by kernel_rfl) ?_))))
  refine D.y 1 rfl rfl (by decide) (Y.ldS (cs := [_, _]) ty_Atom rfl (Has.pt m0) rfl) (by kernel_rfl) ?_
  refine D.y 2 rfl rfl (by decide) (Y.ldS (cs := [_, _]) ty_Binding rfl (hb_b.has) rfl) (by kernel_rfl) ?_
  refine D.st 3 rfl rfl (by kernel_rfl) (fun _ => rfl) (N.call (t_impl_factOf (by first | omega | assumption | (constructor <;> omega))) rfl rfl rfl (by decide) rfl (fun w Lp hA => ⟨i6a_Rel, hA.ro ha_Terms, hA.ro hb_Vars, hA.ro hb_Values⟩)) (fun k8 _ => ?_)
  obtain ⟨a8, m8, c8⟩ := k8
  refine Ent.lenow m0 fun e8 l8 => ?_
  subst e8
  refine D.st 4 rfl rfl (by kernel_rfl) (fun _ => rfl) (N.call0 t_impl_HasFact rfl rfl rfl (by decide) (fun w Lp hA => ⟨hA.ro hfacts, (by first | assumption | (unfold I64; (try dsimp only); omega) | grind), hA.ow m0⟩)) (fun _ _ => ?_)
  refine D.yp 5 rfl rfl (by decide) (Y.as rfl) (by kernel_rfl) ?_
  exact D.done (by kernel_rfl) (E.thn (E.ret (F.r1 (Back.refl _ _) rfl rfl () trivial (congrArg Value.bool (by grind [List.drop_eq_getElem_cons, List.drop_eq_nil_of_le, List.take_succ_eq_append_getElem, List.take_of_length_le])) (J := _) (.refl _) (.inl rfl))))
theorem t_impl_GuardedAnswers_1 {a_b_Vars : Option Addr} {m_b_Vars c_b_Vars : Nat} {b_Vars : List Int} {a_b_Values : Option Addr} {m_b_Values c_b_Values : Nat} {b_Values : List Int} {b_g : Nat} {a_g_Query_Head : Option Addr} {m_g_Query_Head c_g_Query_Head : Nat} {g_Query_Head : List Int} {a_g_Query_Atoms : Option Addr} {m_g_Query_Atoms c_g_Query_Atoms : Nat} {g_Query_Atoms : List (Int × List Int)} {a_g_Not : Option Addr} {m_g_Not c_g_Not : Nat} {g_Not : List (Int × List Int)} {b_facts : Nat} {a_facts : Option Addr} {m_facts c_facts : Nat} {facts : List (Int × List Int)} (hgn : ∀ a ∈ g_Not, a.2.length ≤ 1048576) : Tr Tryz.prog 97 [.agg #[.slice a_b_Vars m_b_Vars c_b_Vars, .slice a_b_Values m_b_Values c_b_Values], .pointer (some ⟨b_g, 0, none⟩), .pointer (some ⟨b_facts, 0, none⟩)] (fun w L => (Ro w L eIs [.slice a_b_Vars m_b_Vars c_b_Vars] b_Vars ∧ Ro w L eIs [.slice a_b_Values m_b_Values c_b_Values] b_Values) ∧ RoPt w L b_g [.slice a_g_Query_Head m_g_Query_Head c_g_Query_Head, .slice a_g_Query_Atoms m_g_Query_Atoms c_g_Query_Atoms, .slice a_g_Not m_g_Not c_g_Not] ∧ Ro w L eIs [.slice a_g_Query_Head m_g_Query_Head c_g_Query_Head] g_Query_Head ∧ Ro w L eAtoms [.slice a_g_Query_Atoms m_g_Query_Atoms c_g_Query_Atoms] g_Query_Atoms ∧ Ro w L eAtoms [.slice a_g_Not m_g_Not c_g_Not] g_Not ∧ RoPt w L b_facts [.slice a_facts m_facts c_facts] ∧ Ro w L eFacts [.slice a_facts m_facts c_facts] facts) [] (κ := Unit) (fun k => True) (fun k => .bool (refB facts g_Not (b_Vars, b_Values))) (fun k => []) := by
  refine Tr.intro Tryz.func97 rfl (n := 9) rfl (by decide +kernel) (Nat.le_of_ble_eq_true rfl) (fr := [(0, .agg #[.slice a_b_Vars m_b_Vars c_b_Vars, .slice a_b_Values m_b_Values c_b_Values]), (1, .pointer (some ⟨b_g, 0, none⟩)), (2, .pointer (some ⟨b_facts, 0, none⟩))]) rfl fun w L hR => ?_
  obtain ⟨⟨hb_Vars, hb_Values⟩, hb_g, hg_Query_Head, hg_Query_Atoms, hg_Not, hb_facts, hfacts⟩ := hR
  obtain ⟨rfl, lb_Vars⟩ := hb_Vars.slen
  obtain ⟨rfl, lb_Values⟩ := hb_Values.slen
  obtain ⟨rfl, lg_Query_Head⟩ := hg_Query_Head.slen
  obtain ⟨rfl, lg_Query_Atoms⟩ := hg_Query_Atoms.slen
  obtain ⟨rfl, lg_Not⟩ := hg_Not.slen
  obtain ⟨rfl, lfacts⟩ := hfacts.slen
  refine E.seq (E.region (l := [0, 1]) rfl (E.st rfl rfl (N.box (cs := [_, _]) rfl (by decide) rfl) (fun b3 _ => ?_)))
  refine E.y rfl rfl (by decide) ((Y.as rfl).yd) ?_
  refine E.nil (E.thn (E.seq (E.region (l := [0, 1, 2, 3, 4]) rfl (E.y rfl rfl (by decide) ((Y.fld fo_Guarded_1 ty_Atoms (by decide) rfl).yd) ?_))))
  refine E.y rfl rfl (by decide) (Y.ld1 ty_Atoms rfl ((hb_g.has).sub (cs' := [_]) 2 rfl) rfl) ?_
  refine E.y rfl rfl (by decide) ((Y.fn (vs := [_, _]) rfl).yd) ?_
  refine E.st rfl rfl (N.call0 (t_ContainsFunc_Atom (f := (fun z => hasF facts (factO z (b_Vars, b_Values)))) (D_f := (fun z => (z.2.length ≤ 1048576))) (by grind)) rfl rfl rfl (by decide) (fun w Lp hA => ⟨hA.ro hg_Not, FnP.ofAtom (D := (fun z => (z.2.length ≤ 1048576))) (fun hd => t_impl_GuardedAnswers_1_1 hd) (fun w' hk => ⟨(hA.rop hb_facts).keep hk, (hA.ro hfacts).keep hk, (hA.pt m0).keep hk, (hA.ro hb_Vars).keep hk, (hA.ro hb_Values).keep hk⟩)⟩)) (fun _ _ => ?_)
  refine E.y rfl rfl (by decide) ((Y.as rfl).yd) ?_
  exact E.nil (E.thn (E.ret (F.r1 (Back.refl _ _) rfl rfl () trivial (congrArg Value.bool (by grind [refB, List.drop_eq_getElem_cons, List.drop_eq_nil_of_le, List.take_succ_eq_append_getElem, List.take_of_length_le])) (J := _) (.refl _) (.inl rfl))))
theorem t_spec_l12Pass {a_g_Query_Head : Option Addr} {m_g_Query_Head c_g_Query_Head : Nat} {g_Query_Head : List Int} {a_g_Query_Atoms : Option Addr} {m_g_Query_Atoms c_g_Query_Atoms : Nat} {g_Query_Atoms : List (Int × List Int)} {a_g_Not : Option Addr} {m_g_Not c_g_Not : Nat} {g_Not : List (Int × List Int)} {a_l : Option Addr} {m_l c_l : Nat} {l : List (List Int × List Int)} {a_facts : Option Addr} {m_facts c_facts : Nat} {facts : List (Int × List Int)} (hgn : ∀ a ∈ g_Not, a.2.length ≤ 1048576) (hln : l.length ≤ 1000000) : Tr Tryz.prog 93 [.agg #[.slice a_g_Query_Head m_g_Query_Head c_g_Query_Head, .slice a_g_Query_Atoms m_g_Query_Atoms c_g_Query_Atoms, .slice a_g_Not m_g_Not c_g_Not], .slice a_l m_l c_l, .slice a_facts m_facts c_facts] (fun w L => Ro w L eIs [.slice a_g_Query_Head m_g_Query_Head c_g_Query_Head] g_Query_Head ∧ Ro w L eAtoms [.slice a_g_Query_Atoms m_g_Query_Atoms c_g_Query_Atoms] g_Query_Atoms ∧ Ro w L eAtoms [.slice a_g_Not m_g_Not c_g_Not] g_Not ∧ Ro w L eFacts [.slice a_facts m_facts c_facts] facts) [ow eBindings [.slice a_l m_l c_l] l] (κ := Option Addr × Nat × Nat) (fun k => True) (fun k => .slice k.1 k.2.1 k.2.2) (fun k => [ow eBindings [.slice k.1 k.2.1 k.2.2] (l.filter (fun b => !refB facts g_Not b))]) := by
  refine Tr.intro Tryz.func93 rfl (n := 50) rfl (by decide +kernel) (Nat.le_of_ble_eq_true rfl) (fr := [(0, .agg #[.slice a_g_Query_Head m_g_Query_Head c_g_Query_Head, .slice a_g_Query_Atoms m_g_Query_Atoms c_g_Query_Atoms, .slice a_g_Not m_g_Not c_g_Not]), (1, .slice a_l m_l c_l), (2, .slice a_facts m_facts c_facts)]) rfl fun w L hR => ?_
  obtain ⟨hg_Query_Head, hg_Query_Atoms, hg_Not, hfacts⟩ := hR
  obtain ⟨rfl, lg_Query_Head⟩ := hg_Query_Head.slen
  obtain ⟨rfl, lg_Query_Atoms⟩ := hg_Query_Atoms.slen
  obtain ⟨rfl, lg_Not⟩ := hg_Not.slen
  obtain ⟨rfl, lfacts⟩ := hfacts.slen
  refine Ent.lenow m0 fun el ll => ?_
  subst el
  refine E.seq (E.region (l := [0, 1]) rfl (E.st rfl rfl (N.box (cs := [_, _, _]) rfl (by decide) rfl) (fun b3 _ => ?_)))
  refine E.y rfl rfl (by decide) ((Y.as rfl).yd) ?_
  refine E.nil (E.thn (E.seq (E.region (l := [0, 1]) rfl (E.st rfl rfl (N.bsl (pvs := []) (cs := []) us_Bindings ty_Binding rfl (by decide) (by decide) (fillZ rfl rfl) rfl (by decide)) (fun b11 _ => ?_)))))
  refine Ent.drop ?_
  refine E.y rfl rfl (by decide) ((Y.as rfl).yd) ?_
  refine E.nil (E.thn (E.seq (E.seq (E.region (l := [0]) rfl (E.y rfl rfl (by decide) ((Y.as rfl).yd) ?_)))))
  refine E.nil (E.thn (E.block (Ent.mkow (A := []) (Own.nil (E := eBinding) (e := tBinding) (a := (some ⟨b11, 0, none⟩))) rfl ?_)))
  refine Ent.cv (congrArg (ow eBindings [_]) (show [] = (l.take 0).filter (fun b => !refB facts g_Not b) from by first | rfl | (simp; done) | grind [any_take, refB, filter_drop_step, List.drop_eq_getElem_cons, List.drop_eq_nil_of_le, List.take_succ_eq_append_getElem, List.take_of_length_le])) ?_
  refine Ent.p2 ?_
  refine Ent.od0 ?_
  refine E.loop (κ := Nat × Option Addr × Nat × Nat) (fun r => r.1 ≤ l.length ∧ True) (fun r => [(1, .slice a_l l.length c_l), (2, .slice a_facts facts.length c_facts), (3, .pointer (some ⟨b3, 0, none⟩)), (7, .slice r.2.1 r.2.2.1 r.2.2.2), (8, .int .i64 (↑r.1 : Int))]) (fun r => [owd tBinding eBinding a_l l.length c_l l r.1, ow eBindings [.slice r.2.1 r.2.2.1 r.2.2.2] ((l.take r.1).filter (fun b => !refB facts g_Not b)), pt b3 63 [.slice a_g_Query_Head g_Query_Head.length c_g_Query_Head, .slice a_g_Query_Atoms g_Query_Atoms.length c_g_Query_Atoms, .slice a_g_Not g_Not.length c_g_Not]]) (fun r => l.length - r.1) (0, (some ⟨b11, 0, none⟩), 0, 0) ⟨Nat.zero_le _, by simp⟩ ⟨rfl, rfl, rfl, rfl, rfl, trivial⟩ (.refl _) (fun r pr => ?_)
  obtain ⟨r, aA0_0, mA0_0, cA0_0⟩ := r
  try dsimp only at pr
  show Ent _ _ _ [(1, .slice a_l l.length c_l), (2, .slice a_facts facts.length c_facts), (3, .pointer (some ⟨b3, 0, none⟩)), (7, .slice aA0_0 mA0_0 cA0_0), (8, .int .i64 (↑r : Int))] [owd tBinding eBinding a_l l.length c_l l r, ow eBindings [.slice aA0_0 mA0_0 cA0_0] ((l.take r).filter (fun b => !refB facts g_Not b)), pt b3 63 [.slice a_g_Query_Head g_Query_Head.length c_g_Query_Head, .slice a_g_Query_Atoms g_Query_Atoms.length c_g_Query_Atoms, .slice a_g_Not g_Not.length c_g_Not]] _
  obtain ⟨pk, pa⟩ := pr
  have jf := List.length_filter_le (fun b => !refB facts g_Not b) (l.take r)
  have jt := List.length_take_le r l
  refine Ent.lenow (mS m0) fun eaA0_0 laA0_0 => ?_
  subst eaA0_0
  refine E.seq (E.seq (E.region (l := [0, 1, 2, 3]) rfl (E.y rfl rfl (by decide) ((Y.mv rfl).yd) ?_)))
  refine E.y rfl rfl (by decide) ((Y.mv rfl).yd) ?_
  refine E.y rfl rfl (by decide) ((Y.len us_Bindings rfl).yd) ?_
  refine E.y rfl rfl (by decide) ((Y.lss rfl rfl).yd) (Ent.d (fun q15 => ?_) (fun q15 => ?_))
  · refine Ent.adrd m0 (by omega) fun ab99 ae99 => ?_
    refine Ent.odt (j := r) (by omega) fun ce99 => ?_
    refine Ent.p1 ?_
    refine Ent.oBinding fun oa99_0 om99_0 oc99_0 oa99_1 om99_1 oc99_1 oe99 on99_0 on99_1 => ?_
    subst oe99
    subst on99_0
    subst on99_1
    refine Ent.lenow m0 fun _ ol99_0 => ?_
    refine Ent.lenow (mS m0) fun _ ol99_1 => ?_
    refine E.nil (E.thn (E.ct rfl (E.skipc (E.thn (E.seq (E.block (E.seq (E.region (l := [0]) rfl (E.y rfl rfl (by decide) ((Y.as rfl).yd) ?_)))))))))
    refine E.nil (E.thn (E.seq (E.seq (E.region (l := [0]) rfl (E.y rfl rfl (by decide) ((Y.as rfl).yd) ?_)))))
    refine E.nil (E.thn (E.block (E.loop (κ := Nat) (fun h => h ≤ g_Not.length ∧ True) (fun h => [(1, .slice a_l l.length c_l), (2, .slice a_facts facts.length c_facts), (3, .pointer (some ⟨b3, 0, none⟩)), (7, .slice aA0_0 ((l.take r).filter (fun b => !refB facts g_Not b)).length cA0_0), (8, .int .i64 (↑r : Int)), (9, .bool (!(g_Not.take h).any (fun a => hasF facts (factO a l[r])))), (10, .int .i64 (↑h : Int))]) (fun h => [ow eIs [.slice oa99_0 l[r].1.length oc99_0] l[r].1, ow eIs [.slice oa99_1 l[r].2.length oc99_1] l[r].2, owt tBinding eBinding a_l l.length c_l l r [.slice oa99_0 l[r].1.length oc99_0, .slice oa99_1 l[r].2.length oc99_1], ow eBindings [.slice aA0_0 ((l.take r).filter (fun b => !refB facts g_Not b)).length cA0_0] ((l.take r).filter (fun b => !refB facts g_Not b)), pt b3 63 [.slice a_g_Query_Head g_Query_Head.length c_g_Query_Head, .slice a_g_Query_Atoms g_Query_Atoms.length c_g_Query_Atoms, .slice a_g_Not g_Not.length c_g_Not]]) (fun h => g_Not.length - h) (0) ⟨Nat.zero_le _, by simp⟩ ⟨rfl, rfl, rfl, rfl, rfl, frB (by first | rfl | (simp; done) | grind [any_take, refB, filter_drop_step, List.drop_eq_getElem_cons, List.drop_eq_nil_of_le, List.take_succ_eq_append_getElem, List.take_of_length_le]), rfl, trivial⟩ (.refl _) (fun h ph => ?_))))
    show Ent _ _ _ [(1, .slice a_l l.length c_l), (2, .slice a_facts facts.length c_facts), (3, .pointer (some ⟨b3, 0, none⟩)), (7, .slice aA0_0 ((l.take r).filter (fun b => !refB facts g_Not b)).length cA0_0), (8, .int .i64 (↑r : Int)), (9, .bool (!(g_Not.take h).any (fun a => hasF facts (factO a l[r])))), (10, .int .i64 (↑h : Int))] [ow eIs [.slice oa99_0 l[r].1.length oc99_0] l[r].1, ow eIs [.slice oa99_1 l[r].2.length oc99_1] l[r].2, owt tBinding eBinding a_l l.length c_l l r [.slice oa99_0 l[r].1.length oc99_0, .slice oa99_1 l[r].2.length oc99_1], ow eBindings [.slice aA0_0 ((l.take r).filter (fun b => !refB facts g_Not b)).length cA0_0] ((l.take r).filter (fun b => !refB facts g_Not b)), pt b3 63 [.slice a_g_Query_Head g_Query_Head.length c_g_Query_Head, .slice a_g_Query_Atoms g_Query_Atoms.length c_g_Query_Atoms, .slice a_g_Not g_Not.length c_g_Not]] _
    obtain ⟨pk, pa⟩ := ph
    refine E.seq (E.seq (E.region (l := [0, 1, 2, 3, 4]) rfl (E.y rfl rfl (by decide) ((Y.mv rfl).yd) ?_)))
    refine E.y rfl rfl (by decide) ((Y.fld fo_Guarded_1 ty_Atoms (by decide) rfl).yd) ?_
    refine E.y rfl rfl (by decide) (Y.ld1 ty_Atoms rfl ((Has.pt (mS (mS (mS (mS m0))))).sub (cs' := [_]) 2 rfl) rfl) ?_
    refine E.y rfl rfl (by decide) ((Y.len us_Atoms rfl).yd) ?_
    refine E.y rfl rfl (by decide) ((Y.lss rfl rfl).yd) (Ent.d (fun q22 => ?_) (fun q22 => ?_))
    · refine E.nil (E.thn (E.ct rfl (E.skipc (E.thn (E.seq (E.block (D.region (fun j => true) mixed (D.yp 0 rfl rfl (by decide) (Y.mv rfl) (by kernel_rfl) (Ent.b (fun q25 => ?_) (fun q25 => ?_))))))))))
      · refine D.yp 1 rfl rfl (by decide) (Y.mv rfl) (by kernel_rfl) ?_
        refine D.yp 2 rfl rfl (by decide) (Y.mv rfl) (by kernel_rfl) ?_
        refine D.yp 3 rfl rfl (by decide) (Y.fld fo_Guarded_1 ty_Atoms (by decide) rfl) (by kernel_rfl) ?_
        refine D.y 4 rfl rfl (by decide) (Y.ld1 ty_Atoms rfl ((Has.pt (mS (mS (mS (mS m0))))).sub (cs' := [_]) 2 rfl) rfl) (by kernel_rfl) ?_
        refine D.yp 5 rfl rfl (by decide) (Y.mv rfl) (by kernel_rfl) ?_
        obtain ⟨eb31, eo31, ec31, ea31, er31, el31, eh31⟩ := hg_Not.elem h (by omega)
        obtain ⟨xa31_0, xc31_0, rfl, ei31_0, xh31_0⟩ := Ro.pAtom er31
        have := xh31_0.slen.2
        refine D.yp 6 rfl rfl (by decide) (Y.ix us_Atoms ty_Atom rfl ea31 rfl h rfl (by omega)) (by kernel_rfl) ?_
        refine D.y 7 rfl rfl (by decide) (Y.ldS (cs := [_, _]) ty_Atom rfl (eh31 _) rfl) (by kernel_rfl) ?_
        refine D.yp 8 rfl rfl (by decide) (Y.mv rfl) (by kernel_rfl) ?_
        refine D.yp 9 rfl rfl (by decide) (Y.mv rfl) (by kernel_rfl) ?_
        refine D.yp 10 rfl rfl (by decide) (Y.ix us_Bindings ty_Binding rfl ae99 rfl r rfl (by omega)) (by kernel_rfl) ?_
        refine D.y 11 rfl rfl (by decide) (Y.ldS (cs := [_, _]) ty_Binding rfl (Has.owt ae99 (mS (mS m0))) rfl) (by kernel_rfl) ?_
        refine D.st 12 rfl rfl (by kernel_rfl) (fun _ => rfl) (N.call (t_spec_l12Fact (hgn _ (List.getElem_mem (by omega)))) rfl rfl rfl (by decide) rfl (fun w Lp hA => ⟨ei31_0, hA.ro xh31_0, hA.ow m0, hA.ow (mS m0)⟩)) (fun k37 _ => ?_)
        obtain ⟨a37, m37, c37⟩ := k37
        refine Ent.lenow m0 fun e37 l37 => ?_
        subst e37
        refine D.st 13 rfl rfl (by kernel_rfl) (fun _ => rfl) (N.call0 t_spec_HasFact rfl rfl rfl (by decide) (fun w Lp hA => ⟨hA.ro hfacts, (by first | assumption | (unfold I64; (try dsimp only); omega) | grind), hA.ow m0⟩)) (fun _ _ => ?_)
        refine D.yp 14 rfl rfl (by decide) (Y.not rfl) (by kernel_rfl) ?_
        refine D.yp 15 rfl rfl (by decide) (Y.pkt rfl rfl) (by kernel_rfl) ?_
        refine D.yp 16 rfl rfl (by decide) (Y.as rfl) (by kernel_rfl) (Ent.b (fun q9 => ?_) (fun q9 => ?_))
        · refine D.done (by kernel_rfl) (E.bln (E.thn (E.region (l := [0, 1, 2]) rfl (E.y rfl rfl (by decide) ((Y.mv rfl).yd) ?_))))
          refine E.y rfl rfl (by decide) ((Y.add rfl rfl (by omega) (by omega)).yd) ?_
          refine E.y rfl rfl (by decide) ((Y.as rfl).yd) ?_
          refine E.nil (E.thn (Ent.drop ?_))
          refine Ent.p4 ?_
          refine Ent.p4 ?_
          refine Ent.p4 ?_
          refine Ent.p4 ?_
          refine Ent.p4 ?_
          exact E.again (Back.refl _ _) (h + 1) ⟨rfl, rfl, rfl, rfl, rfl, frB (by grind [any_take, refB, filter_drop_step, List.drop_eq_getElem_cons, List.drop_eq_nil_of_le, List.take_succ_eq_append_getElem, List.take_of_length_le]), rfl, trivial⟩ (.refl _) ⟨(show h + 1 ≤ g_Not.length from by omega), (show True from by grind [List.drop_eq_getElem_cons, List.drop_eq_nil_of_le, List.take_succ_eq_append_getElem, List.take_of_length_le])⟩ (show g_Not.length - (h + 1) < g_Not.length - h from by omega)
        · refine D.done (by kernel_rfl) (E.bln (E.thn (E.region (l := [0, 1, 2]) rfl (E.y rfl rfl (by decide) ((Y.mv rfl).yd) ?_))))
          refine E.y rfl rfl (by decide) ((Y.add rfl rfl (by omega) (by omega)).yd) ?_
          refine E.y rfl rfl (by decide) ((Y.as rfl).yd) ?_
          refine E.nil (E.thn (Ent.drop ?_))
          refine Ent.p4 ?_
          refine Ent.p4 ?_
          refine Ent.p4 ?_
          refine Ent.p4 ?_
          refine Ent.p4 ?_
          exact E.again (Back.refl _ _) (h + 1) ⟨rfl, rfl, rfl, rfl, rfl, frB (by grind [any_take, refB, filter_drop_step, List.drop_eq_getElem_cons, List.drop_eq_nil_of_le, List.take_succ_eq_append_getElem, List.take_of_length_le]), rfl, trivial⟩ (.refl _) ⟨(show h + 1 ≤ g_Not.length from by omega), (show True from by grind [List.drop_eq_getElem_cons, List.drop_eq_nil_of_le, List.take_succ_eq_append_getElem, List.take_of_length_le])⟩ (show g_Not.length - (h + 1) < g_Not.length - h from by omega)
      · refine D.yp 1 rfl rfl (by decide) (Y.mv rfl) (by kernel_rfl) ?_
        refine D.skip 2 rfl rfl (by kernel_rfl) rfl ?_
        refine D.skip 3 rfl rfl (by kernel_rfl) rfl ?_
        refine D.skip 4 rfl rfl (by kernel_rfl) rfl ?_
        refine D.skip 5 rfl rfl (by kernel_rfl) rfl ?_
        refine D.skip 6 rfl rfl (by kernel_rfl) rfl ?_
        refine D.skip 7 rfl rfl (by kernel_rfl) rfl ?_
        refine D.skip 8 rfl rfl (by kernel_rfl) rfl ?_
        refine D.skip 9 rfl rfl (by kernel_rfl) rfl ?_
        refine D.skip 10 rfl rfl (by kernel_rfl) rfl ?_
        refine D.skip 11 rfl rfl (by kernel_rfl) rfl ?_
        refine D.skip 12 rfl rfl (by kernel_rfl) rfl ?_
        refine D.skip 13 rfl rfl (by kernel_rfl) rfl ?_
        refine D.skip 14 rfl rfl (by kernel_rfl) rfl ?_
        refine D.yp 15 rfl rfl (by decide) (Y.pkf rfl rfl) (by kernel_rfl) ?_
        refine D.yp 16 rfl rfl (by decide) (Y.as rfl) (by kernel_rfl) ?_
        refine D.done (by kernel_rfl) (E.bln (E.thn (E.region (l := [0, 1, 2]) rfl (E.y rfl rfl (by decide) ((Y.mv rfl).yd) ?_))))
        refine E.y rfl rfl (by decide) ((Y.add rfl rfl (by omega) (by omega)).yd) ?_
        refine E.y rfl rfl (by decide) ((Y.as rfl).yd) ?_
        refine E.nil (E.thn (Ent.p4 ?_))
        refine Ent.p4 ?_
        refine Ent.p4 ?_
        refine Ent.p4 ?_
        refine Ent.p4 ?_
        exact E.again (Back.refl _ _) (h + 1) ⟨rfl, rfl, rfl, rfl, rfl, frB (by grind [any_take, refB, filter_drop_step, List.drop_eq_getElem_cons, List.drop_eq_nil_of_le, List.take_succ_eq_append_getElem, List.take_of_length_le]), rfl, trivial⟩ (.refl _) ⟨(show h + 1 ≤ g_Not.length from by omega), (show True from by grind [List.drop_eq_getElem_cons, List.drop_eq_nil_of_le, List.take_succ_eq_append_getElem, List.take_of_length_le])⟩ (show g_Not.length - (h + 1) < g_Not.length - h from by omega)
    · have jq : g_Not.take h = g_Not := List.take_of_length_le (by omega)
      refine E.nil (E.thn (E.cf rfl (E.exit (E.the (E.the (E.blh (E.thn (E.seq (E.region (l := [0]) rfl (E.y rfl rfl (by decide) ((Y.mv rfl).yd) (Ent.b (fun q41 => ?_) (fun q41 => ?_))))))))))))
      · refine E.nil (E.thn (E.ct rfl (E.region (l := [0, 1, 2, 3, 4, 5, 6, 7]) rfl (E.y rfl rfl (by decide) ((Y.mv rfl).yd) ?_))))
        refine E.y rfl rfl (by decide) ((Y.mv rfl).yd) ?_
        refine E.y rfl rfl (by decide) ((Y.mv rfl).yd) ?_
        refine E.y rfl rfl (by decide) ((Y.ix us_Bindings ty_Binding rfl ae99 rfl r rfl (by omega)).yd) ?_
        refine E.y rfl rfl (by decide) (Y.ldS (cs := [_, _]) ty_Binding rfl (Has.owt ae99 (mS (mS m0))) rfl) ?_
        refine E.st rfl rfl (N.bsl (pvs := [_]) (cs := [_, _]) us_Bindings ty_Binding rfl (by decide) (by decide) (fillZ rfl rfl) rfl (by decide)) (fun b47 _ => ?_)
        refine Ent.p2 ?_
        refine Ent.p2 ?_
        refine Ent.p2 ?_
        refine Ent.p4 ?_
        refine E.st rfl rfl (N.push (E := eBinding) (ex := l[r]) us_Bindings ty_Binding rfl rfl rfl (Own.mkBinding (x := l[r]) Own.ow Own.ow) rfl (by first | omega | (simp only [List.length_map, List.length_take, List.length_append, List.length_drop, List.length_cons, List.length_nil]; omega)) (by first | omega | (simp only [List.length_map, List.length_take, List.length_append, List.length_drop, List.length_cons, List.length_nil]; omega)) (by decide)) (fun p48 _ => ?_)
        refine E.y rfl rfl (by decide) ((Y.as rfl).yd) ?_
        refine E.nil (E.bln (E.thn (E.region (l := [0, 1, 2]) rfl (E.y rfl rfl (by decide) ((Y.mv rfl).yd) ?_))))
        refine E.y rfl rfl (by decide) ((Y.add rfl rfl (by omega) (by omega)).yd) ?_
        refine E.y rfl rfl (by decide) ((Y.as rfl).yd) ?_
        refine E.nil (E.thn (Ent.p1 ?_))
        refine Ent.otd ?_
        refine Ent.p1 ?_
        refine Ent.cv (congrArg (ow eBindings [_]) (show ((l.take r).filter (fun b => !refB facts g_Not b)) ++ [l[r]] = (l.take (r + 1)).filter (fun b => !refB facts g_Not b) from by grind [any_take, refB, filter_drop_step, List.drop_eq_getElem_cons, List.drop_eq_nil_of_le, List.take_succ_eq_append_getElem, List.take_of_length_le])) ?_
        refine Ent.p2 ?_
        refine Ent.p1 ?_
        refine Ent.p2 ?_
        exact E.again (Back.refl _ _) (r + 1, p48.1, (((l.take r).filter (fun b => !refB facts g_Not b)).length + 1), p48.2) ⟨rfl, rfl, rfl, rfl, rfl, trivial⟩ (.refl _) ⟨(show r + 1 ≤ l.length from by omega), (show True from by grind [List.drop_eq_getElem_cons, List.drop_eq_nil_of_le, List.take_succ_eq_append_getElem, List.take_of_length_le])⟩ (show l.length - (r + 1) < l.length - r from by omega)
      · refine E.nil (E.thn (E.cf rfl (E.skipc (E.bln (E.thn (E.region (l := [0, 1, 2]) rfl (E.y rfl rfl (by decide) ((Y.mv rfl).yd) ?_)))))))
        refine E.y rfl rfl (by decide) ((Y.add rfl rfl (by omega) (by omega)).yd) ?_
        refine E.y rfl rfl (by decide) ((Y.as rfl).yd) ?_
        refine E.nil (E.thn (Ent.p2 ?_))
        refine Ent.otd ?_
        refine Ent.p1 ?_
        refine Ent.drop ?_
        refine Ent.p1 ?_
        refine Ent.drop ?_
        refine Ent.p1 ?_
        refine Ent.cv (congrArg (ow eBindings [_]) (show (l.take r).filter (fun b => !refB facts g_Not b) = (l.take (r + 1)).filter (fun b => !refB facts g_Not b) from by grind [any_take, refB, filter_drop_step, List.drop_eq_getElem_cons, List.drop_eq_nil_of_le, List.take_succ_eq_append_getElem, List.take_of_length_le])) ?_
        refine Ent.p2 ?_
        refine Ent.p1 ?_
        refine Ent.p2 ?_
        exact E.again (Back.refl _ _) (r + 1, aA0_0, ((l.take r).filter (fun b => !refB facts g_Not b)).length, cA0_0) ⟨rfl, rfl, rfl, rfl, rfl, trivial⟩ (.refl _) ⟨(show r + 1 ≤ l.length from by omega), (show True from by grind [List.drop_eq_getElem_cons, List.drop_eq_nil_of_le, List.take_succ_eq_append_getElem, List.take_of_length_le])⟩ (show l.length - (r + 1) < l.length - r from by omega)
  · refine E.nil (E.thn (E.cf rfl (E.exit (E.the (E.the (E.blh (E.thn (E.seq (E.region (l := [0, 1]) rfl (E.y rfl rfl (by decide) ((Y.mv rfl).yd) ?_))))))))))
    refine E.y rfl rfl (by decide) ((Y.as rfl).yd) ?_
    refine E.nil (E.thn (E.ret (Ent.p1 ?_)))
    refine Ent.cv (congrArg (ow eBindings [_]) (show _ = l.filter (fun b => !refB facts g_Not b) by grind [any_take, refB, filter_drop_step, List.drop_eq_getElem_cons, List.drop_eq_nil_of_le, List.take_succ_eq_append_getElem, List.take_of_length_le])) ?_
    exact F.r1 (Back.refl _ _) rfl rfl (_, _, _) trivial rfl (J := _) (.refl _) (.inl rfl)
theorem t_impl_GuardedAnswers {a_s : Option Addr} {m_s c_s : Nat} {s : List Int} {a_g_Query_Head : Option Addr} {m_g_Query_Head c_g_Query_Head : Nat} {g_Query_Head : List Int} {a_g_Query_Atoms : Option Addr} {m_g_Query_Atoms c_g_Query_Atoms : Nat} {g_Query_Atoms : List (Int × List Int)} {a_g_Not : Option Addr} {m_g_Not c_g_Not : Nat} {g_Not : List (Int × List Int)} {a_facts : Option Addr} {m_facts c_facts : Nat} {facts : List (Int × List Int)} (hz : totL (fun x => x.2.length) g_Query_Atoms ≤ 1048576) (hn : totL (fun x => x.2.length) g_Not ≤ 1048576) : Tr Tryz.prog 52 [.slice a_s m_s c_s, .agg #[.slice a_g_Query_Head m_g_Query_Head c_g_Query_Head, .slice a_g_Query_Atoms m_g_Query_Atoms c_g_Query_Atoms, .slice a_g_Not m_g_Not c_g_Not], .slice a_facts m_facts c_facts] (fun w L => Ro w L eIs [.slice a_s m_s c_s] s ∧ Ro w L eIs [.slice a_g_Query_Head m_g_Query_Head c_g_Query_Head] g_Query_Head ∧ Ro w L eAtoms [.slice a_g_Query_Atoms m_g_Query_Atoms c_g_Query_Atoms] g_Query_Atoms ∧ Ro w L eAtoms [.slice a_g_Not m_g_Not c_g_Not] g_Not ∧ Ro w L eFacts [.slice a_facts m_facts c_facts] facts) [] (κ := Option Addr × Nat × Nat) (fun k => True) (fun k => .slice k.1 k.2.1 k.2.2) (fun k => [ow eIss [.slice k.1 k.2.1 k.2.2] (grdA s ((g_Query_Head, g_Query_Atoms), g_Not) facts)]) := by
  refine Tr.intro Tryz.func52 rfl (n := 26) rfl (by decide +kernel) (Nat.le_of_ble_eq_true rfl) (fr := [(0, .slice a_s m_s c_s), (1, .agg #[.slice a_g_Query_Head m_g_Query_Head c_g_Query_Head, .slice a_g_Query_Atoms m_g_Query_Atoms c_g_Query_Atoms, .slice a_g_Not m_g_Not c_g_Not]), (2, .slice a_facts m_facts c_facts)]) rfl fun w L hR => ?_
  obtain ⟨hs, hg_Query_Head, hg_Query_Atoms, hg_Not, hfacts⟩ := hR
  obtain ⟨rfl, ls⟩ := hs.slen
  obtain ⟨rfl, lg_Query_Head⟩ := hg_Query_Head.slen
  obtain ⟨rfl, lg_Query_Atoms⟩ := hg_Query_Atoms.slen
  obtain ⟨rfl, lg_Not⟩ := hg_Not.slen
  obtain ⟨rfl, lfacts⟩ := hfacts.slen
  refine E.seq (E.region (l := [0, 1, 2]) rfl (E.st rfl rfl (N.box (cs := [_, _, _]) rfl (by decide) rfl) (fun b4 _ => ?_)))
  refine E.st rfl rfl (N.box (cs := [_]) rfl (by decide) rfl) (fun b5 _ => ?_)
  refine E.y rfl rfl (by decide) ((Y.as rfl).yd) ?_
  refine E.nil (E.thn (E.seq (E.seq (E.region (l := [0, 1, 2, 3, 4, 5, 6, 7, 8, 9]) rfl (E.y rfl rfl (by decide) ((Y.mv rfl).yd) ?_)))))
  refine E.y rfl rfl (by decide) (Y.ldS (cs := [_, _, _]) ty_Guarded rfl (Has.pt (mS m0)) rfl) ?_
  refine E.st rfl rfl (N.call0 (t_impl_IsGuarded ((by first | omega | assumption)) ((by first | omega | assumption))) rfl rfl rfl (by decide) (fun w Lp hA => ⟨hA.ro hs, hA.ro hg_Query_Head, hA.ro hg_Query_Atoms, hA.ro hg_Not⟩)) (fun _ _ => (Ent.b (fun q9 => ?_) (fun q9 => ?_)))
  · refine E.y rfl rfl (by decide) ((Y.not (b := true) rfl).yd) ?_
    refine E.y rfl rfl (by decide) ((Y.mv rfl).yd) ?_
    refine E.y rfl rfl (by decide) ((Y.mv rfl).yd) ?_
    refine E.y rfl rfl (by decide) (Y.ld1 ty_Facts rfl (Has.pt m0) rfl) ?_
    refine E.st rfl rfl (N.call0 t_impl_AreFacts rfl rfl rfl (by decide) (fun w Lp hA => ⟨hA.ro hs, hA.ro hfacts⟩)) (fun _ _ => (Ent.b (fun q14 => ?_) (fun q14 => ?_)))
    · refine E.y rfl rfl (by decide) ((Y.not (b := true) rfl).yd) ?_
      refine E.y rfl rfl (by decide) ((Y.pkf rfl rfl).yd) ?_
      refine E.nil (E.thn (E.cf rfl (E.skipc (E.thn (E.seq (E.mid (κ := Option Addr × Nat) (fun _ => True) (fun kM => [(6, .slice kM.1 (tupF g_Query_Head ((bindsF g_Query_Atoms facts).filter (fun x => !(fun z => refB facts g_Not z) x))).length kM.2)]) (fun kM => [ow eIss [.slice kM.1 (tupF g_Query_Head ((bindsF g_Query_Atoms facts).filter (fun x => !(fun z => refB facts g_Not z) x))).length kM.2] (tupF g_Query_Head ((bindsF g_Query_Atoms facts).filter (fun x => !(fun z => refB facts g_Not z) x))), pt b5 40 [.slice a_facts facts.length c_facts], pt b4 63 [.slice a_g_Query_Head g_Query_Head.length c_g_Query_Head, .slice a_g_Query_Atoms g_Query_Atoms.length c_g_Query_Atoms, .slice a_g_Not g_Not.length c_g_Not]]) ?_ (fun kM _ => ?_)))))))
      · refine D.Kregion [b5, b4] (fun j => true) mixed (D.Kyp 0 rfl rfl (by decide) (Y.fld fo_Guarded_0 ty_Query (by decide) rfl) (by kernel_rfl) ?_)
        refine D.Ky 1 rfl rfl (by decide) (Y.ldKS (cs := [_, _]) ty_Query rfl ((HasK.pt (mS m0) (by simp)).sub (cs' := [_, _]) 0 rfl) rfl) (by kernel_rfl) ?_
        refine D.Kyp 2 rfl rfl (by decide) (Y.fld fo_Guarded_0 ty_Query (by decide) rfl) (by kernel_rfl) ?_
        refine D.Ky 3 rfl rfl (by decide) (Y.ldKS (cs := [_, _]) ty_Query rfl ((HasK.pt (mS m0) (by simp)).sub (cs' := [_, _]) 0 rfl) rfl) (by kernel_rfl) ?_
        refine D.Ky 4 rfl rfl (by decide) (Y.ldK1 ty_Facts rfl (HasK.pt m0 (by simp)) rfl) (by kernel_rfl) ?_
        refine D.Kyp 6 rfl rfl (by decide) (Y.fn (vs := [_, _]) rfl) (by kernel_rfl) ?_
        refine D.Kst 5 rfl rfl (by kernel_rfl) (fun _ _ => SameI.out) (N.call (t_impl_BindingsOf (((okQuery_h (okGuard_h (s := s) (g := ((g_Query_Head, g_Query_Atoms), g_Not)) (by assumption)).1).1)) (((okQuery_h (okGuard_h (s := s) (g := ((g_Query_Head, g_Query_Atoms), g_Not)) (by assumption)).1).2.2)) ((okFacts_all (s := s) (by assumption)).1)) rfl rfl rfl (by decide) rfl (fun w Lp hA => ⟨hA.ro hg_Query_Head, hA.ro hg_Query_Atoms, hA.ro hfacts⟩)) (fun k22 _ => ?_)
        obtain ⟨a22, m22, c22⟩ := k22
        refine Ent.lenow m0 fun e22 l22 => ?_
        subst e22
        refine D.Kst 7 rfl rfl (by kernel_rfl) (fun _ _ => SameI.out) (N.call (pre := [_]) (t_DeleteFunc_Binding (del := (fun z => refB facts g_Not z)) (D_del := (fun z => (∀ a ∈ g_Not, a.2.length ≤ 1048576))) (by first | exact atoms_len hn | exact fun _ _ => atoms_len hn)) rfl rfl rfl (by decide) rfl (fun w Lp hA => FnP.ofBinding (D := (fun z => (∀ a ∈ g_Not, a.2.length ≤ 1048576))) (fun hd => t_impl_GuardedAnswers_1 hd) (fun w' hk => ⟨(hA.pt (mS m0)).keep hk, (hA.ro hg_Query_Head).keep hk, (hA.ro hg_Query_Atoms).keep hk, (hA.ro hg_Not).keep hk, (hA.pt m0).keep hk, (hA.ro hfacts).keep hk⟩))) (fun k24 _ => ?_)
        obtain ⟨a24, m24, c24⟩ := k24
        refine Ent.lenow m0 fun e24 l24 => ?_
        subst e24
        refine D.Kst 8 rfl rfl (by kernel_rfl) (fun _ _ => SameI.out) (N.call (t_impl_tuplesOf ((Nat.le_trans (okQuery_h (okGuard_h (s := s) (g := ((g_Query_Head, g_Query_Atoms), g_Not)) (by assumption)).1).2.1 (by decide))) ((Nat.le_trans (List.length_filter_le _ _) (Nat.le_trans (binds_lt (facts := facts) (okFacts_all (s := s) (by assumption)).1 (okQuery_h (okGuard_h (s := s) (g := ((g_Query_Head, g_Query_Atoms), g_Not)) (by assumption)).1).1 (okQuery_h (okGuard_h (s := s) (g := ((g_Query_Head, g_Query_Atoms), g_Not)) (by assumption)).1).2.2).1 (by decide))))) rfl rfl rfl (by decide) rfl (fun w Lp hA => ⟨hA.ro hg_Query_Head, hA.ro hg_Query_Atoms, hA.ow m0⟩)) (fun k25 _ => ?_)
        obtain ⟨a25, m25, c25⟩ := k25
        refine Ent.lenow m0 fun e25 l25 => ?_
        subst e25
        refine D.Kyp 9 rfl rfl (by decide) (Y.as rfl) (by kernel_rfl) ?_
        refine D.Kdone (by kernel_rfl) (Ent.p1 ?_)
        refine Ent.drop ?_
        refine Ent.p2 ?_
        refine Ent.p2 ?_
        refine Ent.p2 ?_
        exact E.mdn (a25, c25) trivial ⟨rfl, trivial⟩ (.refl _)
      · obtain ⟨a25, c25⟩ := kM
        show Ent _ _ _ [(6, .slice a25 (tupF g_Query_Head ((bindsF g_Query_Atoms facts).filter (fun x => !(fun z => refB facts g_Not z) x))).length c25)] [ow eIss [.slice a25 (tupF g_Query_Head ((bindsF g_Query_Atoms facts).filter (fun x => !(fun z => refB facts g_Not z) x))).length c25] (tupF g_Query_Head ((bindsF g_Query_Atoms facts).filter (fun x => !(fun z => refB facts g_Not z) x))), pt b5 40 [.slice a_facts facts.length c_facts], pt b4 63 [.slice a_g_Query_Head g_Query_Head.length c_g_Query_Head, .slice a_g_Query_Atoms g_Query_Atoms.length c_g_Query_Atoms, .slice a_g_Not g_Not.length c_g_Not]] _
        refine E.thn (E.ret (Ent.cv (congrArg (ow eIss [_]) (show _ = grdA s ((g_Query_Head, g_Query_Atoms), g_Not) facts by grind [grdA, List.drop_eq_getElem_cons, List.drop_eq_nil_of_le, List.take_succ_eq_append_getElem, List.take_of_length_le])) ?_))
        exact F.r1 (Back.refl _ _) rfl rfl (_, _, _) trivial rfl (J := _) (.refl _) (.inl rfl)
    · refine E.y rfl rfl (by decide) ((Y.not (b := false) rfl).yd) ?_
      refine E.y rfl rfl (by decide) ((Y.pkf rfl rfl).yd) ?_
      refine E.nil (E.thn (E.ct rfl (E.seq (E.region (l := [0]) rfl (E.y rfl rfl (by decide) ((Y.as rfl).yd) ?_)))))
      refine E.nil (E.thn (E.ret (E.thr (Ent.mkow (A := []) (Own.nil (E := eIs) (e := tIs) (a := none)) rfl ?_))))
      refine Ent.cv (congrArg (ow eIss [_]) (show _ = grdA s ((g_Query_Head, g_Query_Atoms), g_Not) facts by grind [grdA, List.drop_eq_getElem_cons, List.drop_eq_nil_of_le, List.take_succ_eq_append_getElem, List.take_of_length_le])) ?_
      exact F.r1 (Back.refl _ _) rfl rfl (none, 0, 0) trivial rfl (J := _) (.refl _) (.inl rfl)
  · refine E.y rfl rfl (by decide) ((Y.not (b := false) rfl).yd) ?_
    refine E.y rfl rfl (by decide) ((Y.mv rfl).yd) ?_
    refine E.skip rfl rfl rfl ?_
    refine E.skip rfl rfl rfl ?_
    refine E.skip rfl rfl rfl ?_
    refine E.skip rfl rfl rfl ?_
    refine E.y rfl rfl (by decide) ((Y.pkt rfl rfl).yd) ?_
    refine E.nil (E.thn (E.ct rfl (E.seq (E.region (l := [0]) rfl (E.y rfl rfl (by decide) ((Y.as rfl).yd) ?_)))))
    refine E.nil (E.thn (E.ret (E.thr (Ent.mkow (A := []) (Own.nil (E := eIs) (e := tIs) (a := none)) rfl ?_))))
    refine Ent.cv (congrArg (ow eIss [_]) (show _ = grdA s ((g_Query_Head, g_Query_Atoms), g_Not) facts by grind [grdA, List.drop_eq_getElem_cons, List.drop_eq_nil_of_le, List.take_succ_eq_append_getElem, List.take_of_length_le])) ?_
    exact F.r1 (Back.refl _ _) rfl rfl (none, 0, 0) trivial rfl (J := _) (.refl _) (.inl rfl)
theorem t_spec_GuardedAnswers {a_s : Option Addr} {m_s c_s : Nat} {s : List Int} {a_g_Query_Head : Option Addr} {m_g_Query_Head c_g_Query_Head : Nat} {g_Query_Head : List Int} {a_g_Query_Atoms : Option Addr} {m_g_Query_Atoms c_g_Query_Atoms : Nat} {g_Query_Atoms : List (Int × List Int)} {a_g_Not : Option Addr} {m_g_Not c_g_Not : Nat} {g_Not : List (Int × List Int)} {a_facts : Option Addr} {m_facts c_facts : Nat} {facts : List (Int × List Int)} (hz : totL (fun x => x.2.length) g_Query_Atoms ≤ 1048576) (hn : totL (fun x => x.2.length) g_Not ≤ 1048576) : Tr Tryz.prog 51 [.slice a_s m_s c_s, .agg #[.slice a_g_Query_Head m_g_Query_Head c_g_Query_Head, .slice a_g_Query_Atoms m_g_Query_Atoms c_g_Query_Atoms, .slice a_g_Not m_g_Not c_g_Not], .slice a_facts m_facts c_facts] (fun w L => Ro w L eIs [.slice a_s m_s c_s] s ∧ Ro w L eIs [.slice a_g_Query_Head m_g_Query_Head c_g_Query_Head] g_Query_Head ∧ Ro w L eAtoms [.slice a_g_Query_Atoms m_g_Query_Atoms c_g_Query_Atoms] g_Query_Atoms ∧ Ro w L eAtoms [.slice a_g_Not m_g_Not c_g_Not] g_Not ∧ Ro w L eFacts [.slice a_facts m_facts c_facts] facts) [] (κ := Option Addr × Nat × Nat) (fun k => True) (fun k => .slice k.1 k.2.1 k.2.2) (fun k => [ow eIss [.slice k.1 k.2.1 k.2.2] (grdA s ((g_Query_Head, g_Query_Atoms), g_Not) facts)]) := by
  refine Tr.intro Tryz.func51 rfl (n := 28) rfl (by decide +kernel) (Nat.le_of_ble_eq_true rfl) (fr := [(0, .slice a_s m_s c_s), (1, .agg #[.slice a_g_Query_Head m_g_Query_Head c_g_Query_Head, .slice a_g_Query_Atoms m_g_Query_Atoms c_g_Query_Atoms, .slice a_g_Not m_g_Not c_g_Not]), (2, .slice a_facts m_facts c_facts)]) rfl fun w L hR => ?_
  obtain ⟨hs, hg_Query_Head, hg_Query_Atoms, hg_Not, hfacts⟩ := hR
  obtain ⟨rfl, ls⟩ := hs.slen
  obtain ⟨rfl, lg_Query_Head⟩ := hg_Query_Head.slen
  obtain ⟨rfl, lg_Query_Atoms⟩ := hg_Query_Atoms.slen
  obtain ⟨rfl, lg_Not⟩ := hg_Not.slen
  obtain ⟨rfl, lfacts⟩ := hfacts.slen
  refine E.seq (E.region (l := [0, 1]) rfl (E.st rfl rfl (N.box (cs := [_, _, _]) rfl (by decide) rfl) (fun b4 _ => ?_)))
  refine E.y rfl rfl (by decide) ((Y.as rfl).yd) ?_
  refine E.nil (E.thn (E.seq (E.seq (E.region (l := [0, 1, 2, 3, 4, 5, 6, 7, 8, 9]) rfl (E.y rfl rfl (by decide) ((Y.mv rfl).yd) ?_)))))
  refine E.y rfl rfl (by decide) (Y.ldS (cs := [_, _, _]) ty_Guarded rfl (Has.pt m0) rfl) ?_
  refine E.st rfl rfl (N.call0 (t_spec_IsGuarded ((by first | omega | assumption)) ((by first | omega | assumption))) rfl rfl rfl (by decide) (fun w Lp hA => ⟨hA.ro hs, hA.ro hg_Query_Head, hA.ro hg_Query_Atoms, hA.ro hg_Not⟩)) (fun _ _ => (Ent.b (fun q9 => ?_) (fun q9 => ?_)))
  · refine E.y rfl rfl (by decide) ((Y.not (b := true) rfl).yd) ?_
    refine E.y rfl rfl (by decide) ((Y.mv rfl).yd) ?_
    refine E.y rfl rfl (by decide) ((Y.mv rfl).yd) ?_
    refine E.y rfl rfl (by decide) ((Y.mv rfl).yd) ?_
    refine E.st rfl rfl (N.call0 t_spec_AreFacts rfl rfl rfl (by decide) (fun w Lp hA => ⟨hA.ro hs, hA.ro hfacts⟩)) (fun _ _ => (Ent.b (fun q14 => ?_) (fun q14 => ?_)))
    · refine E.y rfl rfl (by decide) ((Y.not (b := true) rfl).yd) ?_
      refine E.y rfl rfl (by decide) ((Y.pkf rfl rfl).yd) ?_
      refine E.nil (E.thn (E.cf rfl (E.skipc (E.thn (E.seq (E.mid (κ := Option Addr × Nat) (fun _ => True) (fun kM => [(6, .slice kM.1 (tupF g_Query_Head ((bindsF g_Query_Atoms facts).filter (fun b => !refB facts g_Not b))).length kM.2)]) (fun kM => [ow eIss [.slice kM.1 (tupF g_Query_Head ((bindsF g_Query_Atoms facts).filter (fun b => !refB facts g_Not b))).length kM.2] (tupF g_Query_Head ((bindsF g_Query_Atoms facts).filter (fun b => !refB facts g_Not b))), pt b4 63 [.slice a_g_Query_Head g_Query_Head.length c_g_Query_Head, .slice a_g_Query_Atoms g_Query_Atoms.length c_g_Query_Atoms, .slice a_g_Not g_Not.length c_g_Not]]) ?_ (fun kM _ => ?_)))))))
      · refine D.Kregion [b4] (fun j => true) mixed (D.Kyp 0 rfl rfl (by decide) (Y.fld fo_Guarded_0 ty_Query (by decide) rfl) (by kernel_rfl) ?_)
        refine D.Ky 1 rfl rfl (by decide) (Y.ldKS (cs := [_, _]) ty_Query rfl ((HasK.pt m0 (by simp)).sub (cs' := [_, _]) 0 rfl) rfl) (by kernel_rfl) ?_
        refine D.Ky 2 rfl rfl (by decide) (Y.ldKS (cs := [_, _, _]) ty_Guarded rfl (HasK.pt m0 (by simp)) rfl) (by kernel_rfl) ?_
        refine D.Kyp 3 rfl rfl (by decide) (Y.fld fo_Guarded_0 ty_Query (by decide) rfl) (by kernel_rfl) ?_
        refine D.Ky 4 rfl rfl (by decide) (Y.ldKS (cs := [_, _]) ty_Query rfl ((HasK.pt m0 (by simp)).sub (cs' := [_, _]) 0 rfl) rfl) (by kernel_rfl) ?_
        refine D.Kyp 5 rfl rfl (by decide) (Y.mv rfl) (by kernel_rfl) ?_
        refine D.Kyp 7 rfl rfl (by decide) (Y.mv rfl) (by kernel_rfl) ?_
        refine D.Kst 6 rfl rfl (by kernel_rfl) (fun _ _ => SameI.out) (N.call (t_spec_BindingsOf (((okQuery_h (okGuard_h (s := s) (g := ((g_Query_Head, g_Query_Atoms), g_Not)) (by assumption)).1).1)) (((okQuery_h (okGuard_h (s := s) (g := ((g_Query_Head, g_Query_Atoms), g_Not)) (by assumption)).1).2.2)) ((okFacts_all (s := s) (by assumption)).1)) rfl rfl rfl (by decide) rfl (fun w Lp hA => ⟨hA.ro hg_Query_Head, hA.ro hg_Query_Atoms, hA.ro hfacts⟩)) (fun k24 _ => ?_)
        obtain ⟨a24, m24, c24⟩ := k24
        refine Ent.lenow m0 fun e24 l24 => ?_
        subst e24
        refine D.Kst 8 rfl rfl (by kernel_rfl) (fun _ _ => SameI.out) (N.call (pre := [_]) (t_spec_l12Pass ((atoms_len hn)) ((Nat.le_trans (binds_lt (facts := facts) (okFacts_all (s := s) (by assumption)).1 (okQuery_h (okGuard_h (s := s) (g := ((g_Query_Head, g_Query_Atoms), g_Not)) (by assumption)).1).1 (okQuery_h (okGuard_h (s := s) (g := ((g_Query_Head, g_Query_Atoms), g_Not)) (by assumption)).1).2.2).1 (by decide)))) rfl rfl rfl (by decide) rfl (fun w Lp hA => ⟨hA.ro hg_Query_Head, hA.ro hg_Query_Atoms, hA.ro hg_Not, hA.ro hfacts⟩)) (fun k26 _ => ?_)
        obtain ⟨a26, m26, c26⟩ := k26
        refine Ent.lenow m0 fun e26 l26 => ?_
        subst e26
        refine D.Kst 9 rfl rfl (by kernel_rfl) (fun _ _ => SameI.out) (N.call (t_spec_l4Tuples ((Nat.le_trans (okQuery_h (okGuard_h (s := s) (g := ((g_Query_Head, g_Query_Atoms), g_Not)) (by assumption)).1).2.1 (by decide))) ((Nat.le_trans (List.length_filter_le _ _) (Nat.le_trans (binds_lt (facts := facts) (okFacts_all (s := s) (by assumption)).1 (okQuery_h (okGuard_h (s := s) (g := ((g_Query_Head, g_Query_Atoms), g_Not)) (by assumption)).1).1 (okQuery_h (okGuard_h (s := s) (g := ((g_Query_Head, g_Query_Atoms), g_Not)) (by assumption)).1).2.2).1 (by decide))))) rfl rfl rfl (by decide) rfl (fun w Lp hA => ⟨hA.ro hg_Query_Head, hA.ro hg_Query_Atoms, hA.ow m0⟩)) (fun k27 _ => ?_)
        obtain ⟨a27, m27, c27⟩ := k27
        refine Ent.lenow m0 fun e27 l27 => ?_
        subst e27
        refine D.Kyp 10 rfl rfl (by decide) (Y.as rfl) (by kernel_rfl) ?_
        refine D.Kdone (by kernel_rfl) (Ent.p1 ?_)
        refine Ent.drop ?_
        refine Ent.p1 ?_
        refine Ent.p1 ?_
        exact E.mdn (a27, c27) trivial ⟨rfl, trivial⟩ (.refl _)
      · obtain ⟨a27, c27⟩ := kM
        show Ent _ _ _ [(6, .slice a27 (tupF g_Query_Head ((bindsF g_Query_Atoms facts).filter (fun b => !refB facts g_Not b))).length c27)] [ow eIss [.slice a27 (tupF g_Query_Head ((bindsF g_Query_Atoms facts).filter (fun b => !refB facts g_Not b))).length c27] (tupF g_Query_Head ((bindsF g_Query_Atoms facts).filter (fun b => !refB facts g_Not b))), pt b4 63 [.slice a_g_Query_Head g_Query_Head.length c_g_Query_Head, .slice a_g_Query_Atoms g_Query_Atoms.length c_g_Query_Atoms, .slice a_g_Not g_Not.length c_g_Not]] _
        refine E.thn (E.ret (Ent.cv (congrArg (ow eIss [_]) (show _ = grdA s ((g_Query_Head, g_Query_Atoms), g_Not) facts by grind [grdA, List.drop_eq_getElem_cons, List.drop_eq_nil_of_le, List.take_succ_eq_append_getElem, List.take_of_length_le])) ?_))
        exact F.r1 (Back.refl _ _) rfl rfl (_, _, _) trivial rfl (J := _) (.refl _) (.inl rfl)
    · refine E.y rfl rfl (by decide) ((Y.not (b := false) rfl).yd) ?_
      refine E.y rfl rfl (by decide) ((Y.pkf rfl rfl).yd) ?_
      refine E.nil (E.thn (E.ct rfl (E.seq (E.region (l := [0, 1]) rfl (E.st rfl rfl (N.bsl (pvs := []) (cs := []) us_Iss ty_Is rfl (by decide) (by decide) (fillZ rfl rfl) rfl (by decide)) (fun b17 _ => ?_))))))
      refine Ent.drop ?_
      refine E.y rfl rfl (by decide) ((Y.as rfl).yd) ?_
      refine E.nil (E.thn (E.ret (E.thr (Ent.mkow (A := []) (Own.nil (E := eIs) (e := tIs) (a := (some ⟨b17, 0, none⟩))) rfl ?_))))
      refine Ent.cv (congrArg (ow eIss [_]) (show _ = grdA s ((g_Query_Head, g_Query_Atoms), g_Not) facts by grind [grdA, List.drop_eq_getElem_cons, List.drop_eq_nil_of_le, List.take_succ_eq_append_getElem, List.take_of_length_le])) ?_
      exact F.r1 (Back.refl _ _) rfl rfl ((some ⟨b17, 0, none⟩), 0, 0) trivial rfl (J := _) (.refl _) (.inl rfl)
  · refine E.y rfl rfl (by decide) ((Y.not (b := false) rfl).yd) ?_
    refine E.y rfl rfl (by decide) ((Y.mv rfl).yd) ?_
    refine E.skip rfl rfl rfl ?_
    refine E.skip rfl rfl rfl ?_
    refine E.skip rfl rfl rfl ?_
    refine E.skip rfl rfl rfl ?_
    refine E.y rfl rfl (by decide) ((Y.pkt rfl rfl).yd) ?_
    refine E.nil (E.thn (E.ct rfl (E.seq (E.region (l := [0, 1]) rfl (E.st rfl rfl (N.bsl (pvs := []) (cs := []) us_Iss ty_Is rfl (by decide) (by decide) (fillZ rfl rfl) rfl (by decide)) (fun b17 _ => ?_))))))
    refine Ent.drop ?_
    refine E.y rfl rfl (by decide) ((Y.as rfl).yd) ?_
    refine E.nil (E.thn (E.ret (E.thr (Ent.mkow (A := []) (Own.nil (E := eIs) (e := tIs) (a := (some ⟨b17, 0, none⟩))) rfl ?_))))
    refine Ent.cv (congrArg (ow eIss [_]) (show _ = grdA s ((g_Query_Head, g_Query_Atoms), g_Not) facts by grind [grdA, List.drop_eq_getElem_cons, List.drop_eq_nil_of_le, List.take_succ_eq_append_getElem, List.take_of_length_le])) ?_
    exact F.r1 (Back.refl _ _) rfl rfl ((some ⟨b17, 0, none⟩), 0, 0) trivial rfl (J := _) (.refl _) (.inl rfl)
theorem t_laws_markGuarded {a_a_Query_Head : Option Addr} {m_a_Query_Head c_a_Query_Head : Nat} {a_Query_Head : List Int} {a_a_Query_Atoms : Option Addr} {m_a_Query_Atoms c_a_Query_Atoms : Nat} {a_Query_Atoms : List (Int × List Int)} {a_a_Not : Option Addr} {m_a_Not c_a_Not : Nat} {a_Not : List (Int × List Int)} {v : Int} : Tr Tryz.prog 53 [.agg #[.slice a_a_Query_Head m_a_Query_Head c_a_Query_Head, .slice a_a_Query_Atoms m_a_Query_Atoms c_a_Query_Atoms, .slice a_a_Not m_a_Not c_a_Not], .int .i64 v] (fun w L => 0 ≤ v ∧ v + ((totS cE_I a_Query_Head + totS cE_Atom a_Query_Atoms + totS cE_Atom a_Not : Nat) : Int) ≤ 4611686018427387904) [ow eIs [.slice a_a_Query_Head m_a_Query_Head c_a_Query_Head] a_Query_Head, ow eAtoms [.slice a_a_Query_Atoms m_a_Query_Atoms c_a_Query_Atoms] a_Query_Atoms, ow eAtoms [.slice a_a_Not m_a_Not c_a_Not] a_Not] (κ := Unit) (fun k => True) (fun k => .int .i64 (v + ((totS cE_I a_Query_Head + totS cE_Atom a_Query_Atoms + totS cE_Atom a_Not : Nat) : Int))) (fun k => [ow eIs [.slice a_a_Query_Head m_a_Query_Head c_a_Query_Head] (mkL cE_I mE_I a_Query_Head v), ow eAtoms [.slice a_a_Query_Atoms m_a_Query_Atoms c_a_Query_Atoms] (mkL cE_Atom mE_Atom a_Query_Atoms (v + ((totS cE_I a_Query_Head : Nat) : Int))), ow eAtoms [.slice a_a_Not m_a_Not c_a_Not] (mkL cE_Atom mE_Atom a_Not (v + ((totS cE_I a_Query_Head : Nat) : Int) + ((totS cE_Atom a_Query_Atoms : Nat) : Int)))]) := by
  refine Tr.intro Tryz.func53 rfl (n := 14) rfl (by decide +kernel) (Nat.le_of_ble_eq_true rfl) (fr := [(0, .agg #[.slice a_a_Query_Head m_a_Query_Head c_a_Query_Head, .slice a_a_Query_Atoms m_a_Query_Atoms c_a_Query_Atoms, .slice a_a_Not m_a_Not c_a_Not]), (1, .int .i64 v)]) rfl fun w L hR => ?_
  obtain ⟨as0, as1⟩ := hR
  refine Ent.lenow m0 fun ea_Query_Head la_Query_Head => ?_
  subst ea_Query_Head
  refine Ent.lenow (mS m0) fun ea_Query_Atoms la_Query_Atoms => ?_
  subst ea_Query_Atoms
  refine Ent.lenow (mS (mS m0)) fun ea_Not la_Not => ?_
  subst ea_Not
  refine E.seq (E.region (l := [0, 1]) rfl (E.st rfl rfl (N.box (cs := [_, _, _]) rfl (by decide) rfl) (fun b2 _ => ?_)))
  refine E.y rfl rfl (by decide) ((Y.as rfl).yd) ?_
  refine E.nil (E.thn (E.seq (E.region (l := [0, 1, 2, 3, 4]) rfl (E.y rfl rfl (by decide) ((Y.fld fo_Guarded_0 ty_Query (by decide) rfl).yd) ?_))))
  refine E.y rfl rfl (by decide) (Y.ldS (cs := [_, _]) ty_Query rfl ((Has.pt m0).sub (cs' := [_, _]) 0 rfl) rfl) ?_
  refine E.y rfl rfl (by decide) ((Y.mv rfl).yd) ?_
  refine Ent.p2 ?_
  refine Ent.p2 ?_
  refine E.st rfl rfl (N.call (pre := [_, _]) t_laws_markQuery rfl rfl rfl (by decide) rfl (fun w Lp hA => ⟨(by first | assumption | omega), (by first | assumption | omega)⟩)) (fun _ _ => ?_)
  refine E.y rfl rfl (by decide) ((Y.as rfl).yd) ?_
  refine E.nil (E.thn (E.seq (E.region (l := [0, 1, 2, 3, 4]) rfl (E.y rfl rfl (by decide) ((Y.fld fo_Guarded_1 ty_Atoms (by decide) rfl).yd) ?_))))
  refine E.y rfl rfl (by decide) (Y.ld1 ty_Atoms rfl ((Has.pt (mS (mS m0))).sub (cs' := [_]) 2 rfl) rfl) ?_
  refine E.y rfl rfl (by decide) ((Y.mv rfl).yd) ?_
  refine Ent.p3 ?_
  refine E.st rfl rfl (N.call (pre := [_]) t_laws_markAtomS rfl rfl rfl (by decide) rfl (fun w Lp hA => ⟨(by first | assumption | omega), (by first | assumption | omega)⟩)) (fun _ _ => ?_)
  refine E.y rfl rfl (by decide) ((Y.as rfl).yd) ?_
  refine E.nil (E.thn (E.seq (E.region (l := [0, 1]) rfl (E.y rfl rfl (by decide) ((Y.mv rfl).yd) ?_))))
  refine E.y rfl rfl (by decide) ((Y.as rfl).yd) ?_
  refine E.nil (E.thn (E.ret (Ent.cv (congrArg (ow eAtoms [_]) (show mkL cE_Atom mE_Atom a_Not (v + ((totS cE_I a_Query_Head + totS cE_Atom a_Query_Atoms : Nat) : Int)) = mkL cE_Atom mE_Atom a_Not (v + ((totS cE_I a_Query_Head : Nat) : Int) + ((totS cE_Atom a_Query_Atoms : Nat) : Int)) from by first | rfl | omega | (congr 1; omega))) ?_)))
  refine Ent.p2 ?_
  refine Ent.p2 ?_
  exact F.r1 (Back.refl _ _) rfl rfl () trivial (by rw [show (v + ((totS cE_I a_Query_Head + totS cE_Atom a_Query_Atoms + totS cE_Atom a_Not : Nat) : Int)) = ((v + ((totS cE_I a_Query_Head + totS cE_Atom a_Query_Atoms : Nat) : Int)) + (totS cE_Atom a_Not : Nat)) from (by first | rfl | omega | (congr 1; omega))]; try rfl) (J := _) (.refl _) (.inl rfl)
theorem t_laws_FnExactGuardedAnswers {a_aS : Option Addr} {m_aS c_aS : Nat} {aS : List Int} {a_aG_Query_Head : Option Addr} {m_aG_Query_Head c_aG_Query_Head : Nat} {aG_Query_Head : List Int} {a_aG_Query_Atoms : Option Addr} {m_aG_Query_Atoms c_aG_Query_Atoms : Nat} {aG_Query_Atoms : List (Int × List Int)} {a_aG_Not : Option Addr} {m_aG_Not c_aG_Not : Nat} {aG_Not : List (Int × List Int)} {a_aFacts : Option Addr} {m_aFacts c_aFacts : Nat} {aFacts : List (Int × List Int)} : Tr Tryz.prog 11 [.slice a_aS m_aS c_aS, .agg #[.slice a_aG_Query_Head m_aG_Query_Head c_aG_Query_Head, .slice a_aG_Query_Atoms m_aG_Query_Atoms c_aG_Query_Atoms, .slice a_aG_Not m_aG_Not c_aG_Not], .slice a_aFacts m_aFacts c_aFacts] (fun w L => Ro w L eIs [.slice a_aS m_aS c_aS] aS ∧ Ro w L eIs [.slice a_aG_Query_Head m_aG_Query_Head c_aG_Query_Head] aG_Query_Head ∧ Ro w L eAtoms [.slice a_aG_Query_Atoms m_aG_Query_Atoms c_aG_Query_Atoms] aG_Query_Atoms ∧ Ro w L eAtoms [.slice a_aG_Not m_aG_Not c_aG_Not] aG_Not ∧ Ro w L eFacts [.slice a_aFacts m_aFacts c_aFacts] aFacts) [] (κ := Unit) (fun k => True) (fun k => .bool (true)) (fun k => []) := by
  refine Tr.intro Tryz.func11 rfl (n := 113) rfl (by decide +kernel) (Nat.le_of_ble_eq_true rfl) (fr := [(0, .slice a_aS m_aS c_aS), (1, .agg #[.slice a_aG_Query_Head m_aG_Query_Head c_aG_Query_Head, .slice a_aG_Query_Atoms m_aG_Query_Atoms c_aG_Query_Atoms, .slice a_aG_Not m_aG_Not c_aG_Not]), (2, .slice a_aFacts m_aFacts c_aFacts)]) rfl fun w L hR => ?_
  obtain ⟨haS, haG_Query_Head, haG_Query_Atoms, haG_Not, haFacts⟩ := hR
  obtain ⟨rfl, laS⟩ := haS.slen
  obtain ⟨rfl, laG_Query_Head⟩ := haG_Query_Head.slen
  obtain ⟨rfl, laG_Query_Atoms⟩ := haG_Query_Atoms.slen
  obtain ⟨rfl, laG_Not⟩ := haG_Not.slen
  obtain ⟨rfl, laFacts⟩ := haFacts.slen
  have jb_aS := totS_I (l := aS)
  have jb_aG_Query_Head := totS_I (l := aG_Query_Head)
  have jb_aG_Query_Atoms := totS_lin (c := cE_Atom) (t := (fun x => x.2.length)) (n := 1) (fun x => by simp only [cE_Atom, totS_I]; omega) (l := aG_Query_Atoms)
  have jc_aG_Query_Atoms : totL (fun x => x.2.length) aG_Query_Atoms = aG_Query_Atoms.length + totS (fun x => x.2.length) aG_Query_Atoms := rfl
  have jb_aG_Not := totS_lin (c := cE_Atom) (t := (fun x => x.2.length)) (n := 1) (fun x => by simp only [cE_Atom, totS_I]; omega) (l := aG_Not)
  have jc_aG_Not : totL (fun x => x.2.length) aG_Not = aG_Not.length + totS (fun x => x.2.length) aG_Not := rfl
  have jb_aFacts := totS_lin (c := cE_Fact) (t := (fun x => x.2.length)) (n := 1) (fun x => by simp only [cE_Fact, totS_I]; omega) (l := aFacts)
  have jc_aFacts : totL (fun x => x.2.length) aFacts = aFacts.length + totS (fun x => x.2.length) aFacts := rfl
  have r1 := grdA_tot (s := aS) (g := ((aG_Query_Head, aG_Query_Atoms), aG_Not)) (facts := aFacts)
  refine E.seq (E.region (l := [0, 1]) rfl (E.st rfl rfl (N.box (cs := [_, _, _]) rfl (by decide) rfl) (fun b4 _ => ?_)))
  refine E.y rfl rfl (by decide) ((Y.as rfl).yd) ?_
  refine E.nil (E.thn (E.seq (E.seq (E.region (l := [0, 1, 2]) rfl (E.y rfl rfl (by decide) ((Y.mv rfl).yd) ?_)))))
  refine E.y rfl rfl (by decide) ((Y.len us_Is rfl).yd) ?_
  refine E.y rfl rfl (by decide) ((Y.gtr rfl rfl).yd) (Ent.d (fun q19 => ?_) (fun q19 => ?_))
  · refine E.nil (E.thn (E.ct rfl (E.seq (E.region (l := [0]) rfl (E.y rfl rfl (by decide) ((Y.as rfl).yd) ?_)))))
    exact E.nil (E.thn (E.ret (E.thr (F.r1 (Back.refl _ _) rfl rfl () trivial rfl (J := _) (.refl _) (.inl rfl)))))
  · refine E.nil (E.thn (E.cf rfl (E.skipc (E.thn (E.seq (E.region (l := [0]) rfl (E.y rfl rfl (by decide) ((Y.as rfl).yd) ?_)))))))
    refine E.nil (E.thn (E.seq (E.region (l := [0, 1, 2, 3]) rfl (E.y rfl rfl (by decide) (Y.ldS (cs := [_, _, _]) ty_lGuarded rfl (Has.pt m0) rfl) ?_))))
    refine E.y rfl rfl (by decide) ((Y.mv rfl).yd) ?_
    refine E.st rfl rfl (N.call0 t_laws_szGuarded rfl rfl rfl (by decide) (fun w Lp hA => ⟨hA.ro haG_Query_Head, hA.ro haG_Query_Atoms, hA.ro haG_Not, (by first | assumption | omega), (by first | assumption | omega)⟩)) (fun _ _ => ?_)
    refine E.y rfl rfl (by decide) ((Y.as rfl).yd) ?_
    refine E.nil (E.thn (E.seq (E.seq (E.region (l := [0, 1]) rfl (E.y rfl rfl (by decide) ((Y.mv rfl).yd) ?_)))))
    refine E.y rfl rfl (by decide) ((Y.lss rfl rfl).yd) (Ent.d (fun q24 => ?_) (fun q24 => ?_))
    · have z24 := szR_bad q24 (by omega)
      refine E.nil (E.thn (E.ct rfl (E.seq (E.region (l := [0]) rfl (E.y rfl rfl (by decide) ((Y.as rfl).yd) ?_)))))
      exact E.nil (E.thn (E.ret (E.thr (F.r1 (Back.refl _ _) rfl rfl () trivial rfl (J := _) (.refl _) (.inl rfl)))))
    · obtain ⟨z24, y24⟩ := szR_ok q24 (by omega)
      refine E.nil (E.thn (E.cf rfl (E.skipc (E.thn (E.seq (E.region (l := [0, 1, 2, 3]) rfl (E.y rfl rfl (by decide) ((Y.mv rfl).yd) ?_)))))))
      refine E.y rfl rfl (by decide) ((Y.mv rfl).yd) ?_
      refine E.st rfl rfl (N.call0 t_laws_szFactS rfl rfl rfl (by decide) (fun w Lp hA => ⟨hA.ro haFacts, (by first | assumption | omega), (by first | assumption | omega)⟩)) (fun _ _ => ?_)
      refine E.y rfl rfl (by decide) ((Y.as rfl).yd) ?_
      refine E.nil (E.thn (E.seq (E.seq (E.region (l := [0, 1]) rfl (E.y rfl rfl (by decide) ((Y.mv rfl).yd) ?_)))))
      refine E.y rfl rfl (by decide) ((Y.lss rfl rfl).yd) (Ent.d (fun q29 => ?_) (fun q29 => ?_))
      · have z29 := szR_bad q29 (by omega)
        refine E.nil (E.thn (E.ct rfl (E.seq (E.region (l := [0]) rfl (E.y rfl rfl (by decide) ((Y.as rfl).yd) ?_)))))
        exact E.nil (E.thn (E.ret (E.thr (F.r1 (Back.refl _ _) rfl rfl () trivial rfl (J := _) (.refl _) (.inl rfl)))))
      · obtain ⟨z29, y29⟩ := szR_ok q29 (by omega)
        refine E.nil (E.thn (E.cf rfl (E.skipc (E.thn (E.seq (D.region (fun j => true) mixed (D.yp 0 rfl rfl (by decide) (Y.mv rfl) (by kernel_rfl) ?_)))))))
        refine D.y 2 rfl rfl (by decide) (Y.ldS (cs := [_, _, _]) ty_lGuarded rfl (Has.pt m0) rfl) (by kernel_rfl) ?_
        refine D.yp 4 rfl rfl (by decide) (Y.mv rfl) (by kernel_rfl) ?_
        refine D.st 1 rfl rfl (by kernel_rfl) (fun _ => rfl) (N.call (t_laws_toIntS (by first | omega | assumption | (constructor <;> omega))) rfl rfl rfl (by decide) rfl (fun w Lp hA => hA.ro haS)) (fun k31 _ => ?_)
        obtain ⟨a31, m31, c31⟩ := k31
        refine Ent.lenow m0 fun e31 l31 => ?_
        subst e31
        refine D.st 3 rfl rfl (by kernel_rfl) (fun _ => rfl) (N.call (t_laws_toGuarded (by first | omega | assumption | (constructor <;> omega)) (by first | omega | assumption | (constructor <;> omega)) (by first | omega | assumption | (constructor <;> omega))) rfl rfl rfl (by decide) rfl (fun w Lp hA => ⟨hA.ro haG_Query_Head, hA.ro haG_Query_Atoms, hA.ro haG_Not⟩)) (fun k33 _ => ?_)
        obtain ⟨⟨a33_0, m33_0, c33_0⟩, ⟨a33_1, m33_1, c33_1⟩, ⟨a33_2, m33_2, c33_2⟩⟩ := k33
        refine Ent.lenow m0 fun e33_0 l33_0 => ?_
        subst e33_0
        refine Ent.lenow (mS m0) fun e33_1 l33_1 => ?_
        subst e33_1
        refine Ent.lenow (mS (mS m0)) fun e33_2 l33_2 => ?_
        subst e33_2
        refine D.st 5 rfl rfl (by kernel_rfl) (fun _ => rfl) (N.call (t_laws_toFactS (by first | omega | assumption | (constructor <;> omega))) rfl rfl rfl (by decide) rfl (fun w Lp hA => hA.ro haFacts)) (fun k35 _ => ?_)
        obtain ⟨a35, m35, c35⟩ := k35
        refine Ent.lenow m0 fun e35 l35 => ?_
        subst e35
        refine D.st 6 rfl rfl (by kernel_rfl) (fun _ => rfl) (N.call (t_spec_GuardedAnswers (by first | omega | assumption | (constructor <;> omega)) (by first | omega | assumption | (constructor <;> omega))) rfl rfl rfl (by decide) rfl (fun w Lp hA => ⟨hA.ow (mS (mS (mS (mS m0)))), hA.ow (mS m0), hA.ow (mS (mS m0)), hA.ow (mS (mS (mS m0))), hA.ow m0⟩)) (fun k36 _ => ?_)
        obtain ⟨a36, m36, c36⟩ := k36
        refine Ent.lenow m0 fun e36 l36 => ?_
        subst e36
        refine D.yp 7 rfl rfl (by decide) (Y.as rfl) (by kernel_rfl) ?_
        refine D.done (by kernel_rfl) (E.thn (E.seq (E.region (l := [0, 1, 2]) rfl (E.y rfl rfl (by decide) ((Y.mv rfl).yd) ?_))))
        refine E.st rfl rfl (N.call (t_laws_toIntS (by first | omega | assumption | (constructor <;> omega))) rfl rfl rfl (by decide) rfl (fun w Lp hA => hA.ro haS)) (fun k38 _ => ?_)
        obtain ⟨a38, m38, c38⟩ := k38
        refine Ent.lenow m0 fun e38 l38 => ?_
        subst e38
        refine E.y rfl rfl (by decide) ((Y.as rfl).yd) ?_
        refine E.nil (E.thn (E.seq (E.region (l := [0, 1, 2, 3]) rfl (E.y rfl rfl (by decide) (Y.ldS (cs := [_, _, _]) ty_lGuarded rfl (Has.pt (mS (mS (mS (mS (mS (mS (mS m0)))))))) rfl) ?_))))
        refine E.st rfl rfl (N.call (t_laws_toGuarded (by first | omega | assumption | (constructor <;> omega)) (by first | omega | assumption | (constructor <;> omega)) (by first | omega | assumption | (constructor <;> omega))) rfl rfl rfl (by decide) rfl (fun w Lp hA => ⟨hA.ro haG_Query_Head, hA.ro haG_Query_Atoms, hA.ro haG_Not⟩)) (fun k40 _ => ?_)
        obtain ⟨⟨a40_0, m40_0, c40_0⟩, ⟨a40_1, m40_1, c40_1⟩, ⟨a40_2, m40_2, c40_2⟩⟩ := k40
        refine Ent.lenow m0 fun e40_0 l40_0 => ?_
        subst e40_0
        refine Ent.lenow (mS m0) fun e40_1 l40_1 => ?_
        subst e40_1
        refine Ent.lenow (mS (mS m0)) fun e40_2 l40_2 => ?_
        subst e40_2
        refine E.st rfl rfl (N.alloc ty_Guarded (by decide)) (fun b10 _ => ?_)
        refine E.st rfl rfl (N.sto (vs := [_, _, _]) (cs' := [_, _, _]) ty_Guarded rfl rfl rfl rfl rfl (Nat.le_of_ble_eq_true rfl) rfl) (fun _ _ => ?_)
        refine E.nil (E.thn (E.seq (E.region (l := [0, 1, 2]) rfl (E.y rfl rfl (by decide) ((Y.mv rfl).yd) ?_))))
        refine E.st rfl rfl (N.call (t_laws_toFactS (by first | omega | assumption | (constructor <;> omega))) rfl rfl rfl (by decide) rfl (fun w Lp hA => hA.ro haFacts)) (fun k42 _ => ?_)
        obtain ⟨a42, m42, c42⟩ := k42
        refine Ent.lenow m0 fun e42 l42 => ?_
        subst e42
        refine E.y rfl rfl (by decide) ((Y.as rfl).yd) ?_
        refine E.nil (E.thn (E.seq (E.region (l := [0, 1, 2, 3, 4]) rfl (E.y rfl rfl (by decide) ((Y.mv rfl).yd) ?_))))
        refine E.y rfl rfl (by decide) (Y.ldS (cs := [_, _, _]) ty_Guarded rfl (Has.pt (mS m0)) rfl) ?_
        refine E.y rfl rfl (by decide) ((Y.mv rfl).yd) ?_
        refine E.st rfl rfl (N.call (t_impl_GuardedAnswers (by first | omega | assumption | (constructor <;> omega)) (by first | omega | assumption | (constructor <;> omega))) rfl rfl rfl (by decide) rfl (fun w Lp hA => ⟨hA.ow (mS (mS (mS (mS (mS m0))))), hA.ow (mS (mS m0)), hA.ow (mS (mS (mS m0))), hA.ow (mS (mS (mS (mS m0)))), hA.ow m0⟩)) (fun k46 _ => ?_)
        obtain ⟨a46, m46, c46⟩ := k46
        refine Ent.lenow m0 fun e46 l46 => ?_
        subst e46
        refine E.y rfl rfl (by decide) ((Y.as rfl).yd) ?_
        refine E.nil (E.thn (E.seq (E.seq (E.region (l := [0, 1, 2, 3]) rfl (E.y rfl rfl (by decide) ((Y.mv rfl).yd) ?_)))))
        refine E.y rfl rfl (by decide) ((Y.mv rfl).yd) ?_
        refine E.st rfl rfl (N.call0 t_laws_eqIntSS rfl rfl rfl (by decide) (fun w Lp hA => ⟨hA.ow m0, hA.ow (mS (mS (mS (mS (mS (mS (mS m0)))))))⟩)) (fun _ _ => (Ent.b (fun q49 => ?_) (fun q49 => ?_)))
        · refine E.y rfl rfl (by decide) ((Y.not (b := true) rfl).yd) ?_
          refine E.nil (E.thn (E.cf rfl (E.skipc (E.thn (E.seq (E.seq (E.region (l := [0, 1, 2, 3, 4]) rfl (E.y rfl rfl (by decide) ((Y.mv rfl).yd) ?_))))))))
          refine E.y rfl rfl (by decide) ((Y.mv rfl).yd) ?_
          refine E.st rfl rfl (N.call (t_laws_toIntS (by first | omega | assumption | (constructor <;> omega))) rfl rfl rfl (by decide) rfl (fun w Lp hA => hA.ro haS)) (fun k53 _ => ?_)
          obtain ⟨a53, m53, c53⟩ := k53
          refine Ent.lenow m0 fun e53 l53 => ?_
          subst e53
          refine E.st rfl rfl (N.call0 t_laws_eqIntS rfl rfl rfl (by decide) (fun w Lp hA => ⟨hA.ow (mS (mS (mS (mS (mS (mS (mS m0))))))), hA.ow m0⟩)) (fun _ _ => (Ent.b (fun q54 => ?_) (fun q54 => ?_)))
          · refine E.y rfl rfl (by decide) ((Y.not (b := true) rfl).yd) ?_
            refine E.nil (E.thn (E.cf rfl (E.skipc (E.thn (E.seq (E.seq (D.region (fun j => true) mixed (D.y 0 rfl rfl (by decide) (Y.ldS (cs := [_, _, _]) ty_Guarded rfl (Has.pt (mS (mS (mS m0)))) rfl) (by kernel_rfl) ?_))))))))
            refine D.y 1 rfl rfl (by decide) (Y.ldS (cs := [_, _, _]) ty_lGuarded rfl (Has.pt (mS (mS (mS (mS (mS (mS (mS (mS (mS (mS (mS (mS (mS (mS m0))))))))))))))) rfl) (by kernel_rfl) ?_
            refine D.st 2 rfl rfl (by kernel_rfl) (fun _ => rfl) (N.call (t_laws_toGuarded (by first | omega | assumption | (constructor <;> omega)) (by first | omega | assumption | (constructor <;> omega)) (by first | omega | assumption | (constructor <;> omega))) rfl rfl rfl (by decide) rfl (fun w Lp hA => ⟨hA.ro haG_Query_Head, hA.ro haG_Query_Atoms, hA.ro haG_Not⟩)) (fun k58 _ => ?_)
            obtain ⟨⟨a58_0, m58_0, c58_0⟩, ⟨a58_1, m58_1, c58_1⟩, ⟨a58_2, m58_2, c58_2⟩⟩ := k58
            refine Ent.lenow m0 fun e58_0 l58_0 => ?_
            subst e58_0
            refine Ent.lenow (mS m0) fun e58_1 l58_1 => ?_
            subst e58_1
            refine Ent.lenow (mS (mS m0)) fun e58_2 l58_2 => ?_
            subst e58_2
            refine D.st 3 rfl rfl (by kernel_rfl) (fun _ => rfl) (N.call0 t_laws_eqGuarded rfl rfl rfl (by decide) (fun w Lp hA => ⟨hA.ow (mS (mS (mS (mS (mS (mS (mS m0))))))), hA.ow (mS (mS (mS (mS (mS (mS (mS (mS m0)))))))), hA.ow (mS (mS (mS (mS (mS (mS (mS (mS (mS m0))))))))), hA.ow m0, hA.ow (mS m0), hA.ow (mS (mS m0))⟩)) (fun _ _ => (Ent.b (fun q59 => ?_) (fun q59 => ?_)))
            · refine D.yp 4 rfl rfl (by decide) (Y.not (b := true) rfl) (by kernel_rfl) ?_
              refine D.done (by kernel_rfl) (E.thn (E.cf rfl (E.skipc (E.thn (E.seq (E.seq (E.region (l := [0, 1, 2, 3, 4]) rfl (E.y rfl rfl (by decide) ((Y.mv rfl).yd) ?_))))))))
              refine E.y rfl rfl (by decide) ((Y.mv rfl).yd) ?_
              refine E.st rfl rfl (N.call (t_laws_toFactS (by first | omega | assumption | (constructor <;> omega))) rfl rfl rfl (by decide) rfl (fun w Lp hA => hA.ro haFacts)) (fun k63 _ => ?_)
              obtain ⟨a63, m63, c63⟩ := k63
              refine Ent.lenow m0 fun e63 l63 => ?_
              subst e63
              refine E.st rfl rfl (N.call0 t_laws_eqFactS rfl rfl rfl (by decide) (fun w Lp hA => ⟨hA.ow (mS (mS (mS (mS (mS (mS m0)))))), hA.ow m0⟩)) (fun _ _ => (Ent.b (fun q64 => ?_) (fun q64 => ?_)))
              · refine E.y rfl rfl (by decide) ((Y.not (b := true) rfl).yd) ?_
                refine E.nil (E.thn (E.cf rfl (E.skipc (E.thn (E.seq (E.region (l := [0]) rfl (E.y rfl rfl (by decide) ((Y.as rfl).yd) ?_)))))))
                refine E.nil (E.thn (E.seq (E.region (l := [0, 1, 2, 3]) rfl (E.y rfl rfl (by decide) ((Y.mv rfl).yd) ?_))))
                refine E.y rfl rfl (by decide) ((Y.mv rfl).yd) ?_
                refine Ent.p11 ?_
                refine E.st rfl rfl (N.call (pre := [_]) t_laws_markIntS rfl rfl rfl (by decide) rfl (fun w Lp hA => ⟨(by first | assumption | omega), (by first | assumption | omega)⟩)) (fun _ _ => ?_)
                refine E.y rfl rfl (by decide) ((Y.as rfl).yd) ?_
                refine E.nil (E.thn (E.seq (E.region (l := [0, 1, 2, 3]) rfl (E.y rfl rfl (by decide) (Y.ldS (cs := [_, _, _]) ty_Guarded rfl (Has.pt (mS (mS (mS (mS (mS (mS (mS (mS m0))))))))) rfl) ?_))))
                refine E.y rfl rfl (by decide) ((Y.mv rfl).yd) ?_
                refine Ent.p11 ?_
                refine Ent.p11 ?_
                refine Ent.p11 ?_
                refine E.st rfl rfl (N.call (pre := [_, _, _]) t_laws_markGuarded rfl rfl rfl (by decide) rfl (fun w Lp hA => ⟨(by first | assumption | omega), (by first | assumption | omega)⟩)) (fun _ _ => ?_)
                refine E.y rfl rfl (by decide) ((Y.as rfl).yd) ?_
                refine E.nil (E.thn (E.seq (E.region (l := [0, 1, 2, 3]) rfl (E.y rfl rfl (by decide) ((Y.mv rfl).yd) ?_))))
                refine E.y rfl rfl (by decide) ((Y.mv rfl).yd) ?_
                refine Ent.p10 ?_
                refine E.st rfl rfl (N.call (pre := [_]) t_laws_markFactS rfl rfl rfl (by decide) rfl (fun w Lp hA => ⟨(by first | assumption | omega), (by first | assumption | omega)⟩)) (fun _ _ => ?_)
                refine E.y rfl rfl (by decide) ((Y.as rfl).yd) ?_
                refine E.nil (E.thn (E.seq (E.seq (E.region (l := [0, 1, 2, 3, 4, 5, 6, 7]) rfl (E.y rfl rfl (by decide) ((Y.mv rfl).yd) ?_)))))
                refine E.y rfl rfl (by decide) ((Y.lss rfl rfl).yd) (Ent.d (fun q76 => ?_) (fun q76 => ?_))
                · exact absurd q76 (by omega)
                · refine E.y rfl rfl (by decide) ((Y.mv rfl).yd) ?_
                  refine E.y rfl rfl (by decide) ((Y.mv rfl).yd) ?_
                  refine E.y rfl rfl (by decide) ((Y.mv rfl).yd) ?_
                  refine E.st rfl rfl (N.call0 t_laws_eqIntSS rfl rfl rfl (by decide) (fun w Lp hA => ⟨hA.ow (mS (mS (mS (mS (mS (mS (mS (mS (mS (mS m0)))))))))), hA.ow (mS (mS (mS (mS (mS (mS (mS (mS (mS (mS (mS (mS m0))))))))))))⟩)) (fun _ _ => (Ent.b (fun q80 => ?_) (fun q80 => ?_)))
                  · refine E.y rfl rfl (by decide) ((Y.not (b := true) rfl).yd) ?_
                    refine E.y rfl rfl (by decide) ((Y.pkf rfl rfl).yd) ?_
                    refine E.nil (E.thn (E.cf rfl (E.skipc (E.thn (E.seq (E.region (l := [0]) rfl (E.y rfl rfl (by decide) ((Y.as rfl).yd) ?_)))))))
                    refine E.nil (E.thn (E.seq (E.region (l := [0, 1, 2, 3]) rfl (E.y rfl rfl (by decide) ((Y.mv rfl).yd) ?_))))
                    refine E.y rfl rfl (by decide) ((Y.mv rfl).yd) ?_
                    refine Ent.p10 ?_
                    refine E.st rfl rfl (N.call (pre := [_]) t_laws_markIntSS rfl rfl rfl (by decide) rfl (fun w Lp hA => ⟨(by first | assumption | omega), (by first | assumption | omega)⟩)) (fun _ _ => ?_)
                    refine E.y rfl rfl (by decide) ((Y.as rfl).yd) ?_
                    refine E.nil (E.thn (E.seq (E.region (l := [0]) rfl (E.y rfl rfl (by decide) ((Y.as rfl).yd) ?_))))
                    refine E.nil (E.thn (E.seq (E.region (l := [0, 1, 2, 3]) rfl (E.y rfl rfl (by decide) ((Y.mv rfl).yd) ?_))))
                    refine E.y rfl rfl (by decide) ((Y.mv rfl).yd) ?_
                    refine E.st rfl rfl (N.call0 (t_laws_heldIntSS (mkL_mk cm_Is mm_Is)) rfl rfl rfl (by decide) (fun w Lp hA => ⟨hA.ow m0, (by (try simp only [mkL_c cm_I, mkL_c cm_Is, mkL_c cm_Fact, mkL_c cm_Facts, mkL_c cm_Atom, mkL_c cm_Atoms, mkL_c cm_Access, mkL_c cm_Accesss, mkL_c cm_Step, mkL_c cm_Steps, mkL_c cm_Query, mkL_c cm_Querys, mkL_c cm_Binding, mkL_c cm_Bindings, mkL_c cm_Method, mkL_c cm_Methods, mkL_c cm_Rule, mkL_c cm_Rules, mkL_c cm_Line, mkL_c cm_Lines]); omega), (by (try simp only [mkL_c cm_I, mkL_c cm_Is, mkL_c cm_Fact, mkL_c cm_Facts, mkL_c cm_Atom, mkL_c cm_Atoms, mkL_c cm_Access, mkL_c cm_Accesss, mkL_c cm_Step, mkL_c cm_Steps, mkL_c cm_Query, mkL_c cm_Querys, mkL_c cm_Binding, mkL_c cm_Bindings, mkL_c cm_Method, mkL_c cm_Methods, mkL_c cm_Rule, mkL_c cm_Rules, mkL_c cm_Line, mkL_c cm_Lines]); omega)⟩)) (fun _ _ => ?_)
                    refine E.y rfl rfl (by decide) ((Y.as rfl).yd) ?_
                    refine E.nil (E.thn (E.seq (E.seq (E.region (l := [0, 1]) rfl (E.y rfl rfl (by decide) ((Y.mv rfl).yd) ?_)))))
                    refine E.y rfl rfl (by decide) ((Y.lss rfl rfl).yd) (Ent.d (fun q90 => ?_) (fun q90 => ?_))
                    · exact absurd q90 (by omega)
                    · refine E.nil (E.thn (E.cf rfl (E.skipc (E.thn (E.seq (E.seq (E.region (l := [0, 1, 2]) rfl (E.y rfl rfl (by decide) ((Y.mv rfl).yd) ?_))))))))
                      refine E.y rfl rfl (by decide) ((Y.mv rfl).yd) ?_
                      refine E.y rfl rfl (by decide) ((Y.neq rfl rfl).yd) (Ent.d (fun q93 => ?_) (fun q93 => ?_))
                      · exact absurd (by simp only [mkL_c cm_I, mkL_c cm_Is, mkL_c cm_Fact, mkL_c cm_Facts, mkL_c cm_Atom, mkL_c cm_Atoms, mkL_c cm_Access, mkL_c cm_Accesss, mkL_c cm_Step, mkL_c cm_Steps, mkL_c cm_Query, mkL_c cm_Querys, mkL_c cm_Binding, mkL_c cm_Bindings, mkL_c cm_Method, mkL_c cm_Methods, mkL_c cm_Rule, mkL_c cm_Rules, mkL_c cm_Line, mkL_c cm_Lines]) q93
                      · refine E.nil (E.thn (E.cf rfl (E.skipc (E.thn (E.seq (D.region (fun j => true) mixed (D.yp 0 rfl rfl (by decide) (Y.mv rfl) (by kernel_rfl) ?_)))))))
                        refine D.y 2 rfl rfl (by decide) (Y.ldS (cs := [_, _, _]) ty_lGuarded rfl (Has.pt (mS (mS (mS (mS (mS (mS (mS (mS (mS (mS (mS (mS (mS (mS (mS (mS (mS (mS m0))))))))))))))))))) rfl) (by kernel_rfl) ?_
                        refine D.yp 4 rfl rfl (by decide) (Y.mv rfl) (by kernel_rfl) ?_
                        refine D.st 1 rfl rfl (by kernel_rfl) (fun _ => rfl) (N.call (t_laws_toIntS (by first | omega | assumption | (constructor <;> omega))) rfl rfl rfl (by decide) rfl (fun w Lp hA => hA.ro haS)) (fun k95 _ => ?_)
                        obtain ⟨a95, m95, c95⟩ := k95
                        refine Ent.lenow m0 fun e95 l95 => ?_
                        subst e95
                        refine D.st 3 rfl rfl (by kernel_rfl) (fun _ => rfl) (N.call (t_laws_toGuarded (by first | omega | assumption | (constructor <;> omega)) (by first | omega | assumption | (constructor <;> omega)) (by first | omega | assumption | (constructor <;> omega))) rfl rfl rfl (by decide) rfl (fun w Lp hA => ⟨hA.ro haG_Query_Head, hA.ro haG_Query_Atoms, hA.ro haG_Not⟩)) (fun k97 _ => ?_)
                        obtain ⟨⟨a97_0, m97_0, c97_0⟩, ⟨a97_1, m97_1, c97_1⟩, ⟨a97_2, m97_2, c97_2⟩⟩ := k97
                        refine Ent.lenow m0 fun e97_0 l97_0 => ?_
                        subst e97_0
                        refine Ent.lenow (mS m0) fun e97_1 l97_1 => ?_
                        subst e97_1
                        refine Ent.lenow (mS (mS m0)) fun e97_2 l97_2 => ?_
                        subst e97_2
                        refine D.st 5 rfl rfl (by kernel_rfl) (fun _ => rfl) (N.call (t_laws_toFactS (by first | omega | assumption | (constructor <;> omega))) rfl rfl rfl (by decide) rfl (fun w Lp hA => hA.ro haFacts)) (fun k99 _ => ?_)
                        obtain ⟨a99, m99, c99⟩ := k99
                        refine Ent.lenow m0 fun e99 l99 => ?_
                        subst e99
                        refine D.st 6 rfl rfl (by kernel_rfl) (fun _ => rfl) (N.call (t_impl_GuardedAnswers (by first | omega | assumption | (constructor <;> omega)) (by first | omega | assumption | (constructor <;> omega))) rfl rfl rfl (by decide) rfl (fun w Lp hA => ⟨hA.ow (mS (mS (mS (mS m0)))), hA.ow (mS m0), hA.ow (mS (mS m0)), hA.ow (mS (mS (mS m0))), hA.ow m0⟩)) (fun k100 _ => ?_)
                        obtain ⟨a100, m100, c100⟩ := k100
                        refine Ent.lenow m0 fun e100 l100 => ?_
                        subst e100
                        refine D.yp 7 rfl rfl (by decide) (Y.as rfl) (by kernel_rfl) ?_
                        refine D.done (by kernel_rfl) (E.thn (E.seq (E.seq (E.region (l := [0, 1, 2, 3]) rfl (E.y rfl rfl (by decide) ((Y.mv rfl).yd) ?_)))))
                        refine E.y rfl rfl (by decide) ((Y.mv rfl).yd) ?_
                        refine E.st rfl rfl (N.call0 t_laws_eqIntSS rfl rfl rfl (by decide) (fun w Lp hA => ⟨hA.ow m0, hA.ow (mS (mS (mS (mS (mS (mS (mS (mS (mS (mS (mS (mS (mS (mS (mS (mS (mS (mS m0))))))))))))))))))⟩)) (fun _ _ => (Ent.b (fun q103 => ?_) (fun q103 => ?_)))
                        · refine E.y rfl rfl (by decide) ((Y.not (b := true) rfl).yd) ?_
                          refine E.nil (E.thn (E.cf rfl (E.skipc (E.thn (E.seq (E.region (l := [0]) rfl (E.y rfl rfl (by decide) ((Y.as rfl).yd) ?_)))))))
                          refine E.nil (E.thn (E.seq (E.region (l := [0, 1, 2, 3]) rfl (E.y rfl rfl (by decide) ((Y.mv rfl).yd) ?_))))
                          refine E.y rfl rfl (by decide) ((Y.mv rfl).yd) ?_
                          refine E.st rfl rfl (N.call0 (t_laws_heldIntSS (mkL_mk cm_Is mm_Is)) rfl rfl rfl (by decide) (fun w Lp hA => ⟨hA.ow (mS (mS (mS (mS (mS (mS m0)))))), (by (try simp only [mkL_c cm_I, mkL_c cm_Is, mkL_c cm_Fact, mkL_c cm_Facts, mkL_c cm_Atom, mkL_c cm_Atoms, mkL_c cm_Access, mkL_c cm_Accesss, mkL_c cm_Step, mkL_c cm_Steps, mkL_c cm_Query, mkL_c cm_Querys, mkL_c cm_Binding, mkL_c cm_Bindings, mkL_c cm_Method, mkL_c cm_Methods, mkL_c cm_Rule, mkL_c cm_Rules, mkL_c cm_Line, mkL_c cm_Lines]); omega), (by (try simp only [mkL_c cm_I, mkL_c cm_Is, mkL_c cm_Fact, mkL_c cm_Facts, mkL_c cm_Atom, mkL_c cm_Atoms, mkL_c cm_Access, mkL_c cm_Accesss, mkL_c cm_Step, mkL_c cm_Steps, mkL_c cm_Query, mkL_c cm_Querys, mkL_c cm_Binding, mkL_c cm_Bindings, mkL_c cm_Method, mkL_c cm_Methods, mkL_c cm_Rule, mkL_c cm_Rules, mkL_c cm_Line, mkL_c cm_Lines]); omega)⟩)) (fun _ _ => ?_)
                          refine E.y rfl rfl (by decide) ((Y.as rfl).yd) ?_
                          refine E.nil (E.thn (E.seq (E.seq (E.region (l := [0, 1]) rfl (E.y rfl rfl (by decide) ((Y.mv rfl).yd) ?_)))))
                          refine E.y rfl rfl (by decide) ((Y.lss rfl rfl).yd) (Ent.d (fun q109 => ?_) (fun q109 => ?_))
                          · exact absurd q109 (by omega)
                          · refine E.nil (E.thn (E.cf rfl (E.skipc (E.thn (E.seq (E.seq (E.region (l := [0, 1, 2]) rfl (E.y rfl rfl (by decide) ((Y.mv rfl).yd) ?_))))))))
                            refine E.y rfl rfl (by decide) ((Y.mv rfl).yd) ?_
                            refine E.y rfl rfl (by decide) ((Y.neq rfl rfl).yd) (Ent.d (fun q112 => ?_) (fun q112 => ?_))
                            · exact absurd (by simp only [mkL_c cm_I, mkL_c cm_Is, mkL_c cm_Fact, mkL_c cm_Facts, mkL_c cm_Atom, mkL_c cm_Atoms, mkL_c cm_Access, mkL_c cm_Accesss, mkL_c cm_Step, mkL_c cm_Steps, mkL_c cm_Query, mkL_c cm_Querys, mkL_c cm_Binding, mkL_c cm_Bindings, mkL_c cm_Method, mkL_c cm_Methods, mkL_c cm_Rule, mkL_c cm_Rules, mkL_c cm_Line, mkL_c cm_Lines]) q112
                            · refine E.nil (E.thn (E.cf rfl (E.skipc (E.thn (E.seq (E.region (l := [0]) rfl (E.y rfl rfl (by decide) ((Y.as rfl).yd) ?_)))))))
                              exact E.nil (E.thn (E.ret (F.r1 (Back.refl _ _) rfl rfl () trivial rfl (J := _) (.refl _) (.inl rfl))))
                        · refine E.y rfl rfl (by decide) ((Y.not (b := false) rfl).yd) ?_
                          refine E.nil (E.thn (E.ct rfl (E.seq (E.region (l := [0]) rfl (E.y rfl rfl (by decide) ((Y.as rfl).yd) ?_)))))
                          exact E.nil (E.thn (E.ret (E.thr (F.r1 (Back.refl _ _) rfl rfl () trivial (congrArg Value.bool (by simp_all)) (J := _) (.refl _) (.inl rfl)))))
                  · refine E.y rfl rfl (by decide) ((Y.not (b := false) rfl).yd) ?_
                    refine E.y rfl rfl (by decide) ((Y.pkf rfl rfl).yd) ?_
                    refine E.nil (E.thn (E.ct rfl (E.seq (E.region (l := [0]) rfl (E.y rfl rfl (by decide) ((Y.as rfl).yd) ?_)))))
                    exact E.nil (E.thn (E.ret (E.thr (F.r1 (Back.refl _ _) rfl rfl () trivial (congrArg Value.bool (by simp_all)) (J := _) (.refl _) (.inl rfl)))))
              · refine E.y rfl rfl (by decide) ((Y.not (b := false) rfl).yd) ?_
                refine E.nil (E.thn (E.ct rfl (E.seq (E.region (l := [0]) rfl (E.y rfl rfl (by decide) ((Y.as rfl).yd) ?_)))))
                exact E.nil (E.thn (E.ret (E.thr (F.r1 (Back.refl _ _) rfl rfl () trivial (congrArg Value.bool (by simp_all)) (J := _) (.refl _) (.inl rfl)))))
            · refine D.yp 4 rfl rfl (by decide) (Y.not (b := false) rfl) (by kernel_rfl) ?_
              refine D.done (by kernel_rfl) (E.thn (E.ct rfl (E.seq (E.region (l := [0]) rfl (E.y rfl rfl (by decide) ((Y.as rfl).yd) ?_)))))
              exact E.nil (E.thn (E.ret (E.thr (F.r1 (Back.refl _ _) rfl rfl () trivial (congrArg Value.bool (by simp_all)) (J := _) (.refl _) (.inl rfl)))))
          · refine E.y rfl rfl (by decide) ((Y.not (b := false) rfl).yd) ?_
            refine E.nil (E.thn (E.ct rfl (E.seq (E.region (l := [0]) rfl (E.y rfl rfl (by decide) ((Y.as rfl).yd) ?_)))))
            exact E.nil (E.thn (E.ret (E.thr (F.r1 (Back.refl _ _) rfl rfl () trivial (congrArg Value.bool (by simp_all)) (J := _) (.refl _) (.inl rfl)))))
        · refine E.y rfl rfl (by decide) ((Y.not (b := false) rfl).yd) ?_
          refine E.nil (E.thn (E.ct rfl (E.seq (E.region (l := [0]) rfl (E.y rfl rfl (by decide) ((Y.as rfl).yd) ?_)))))
          exact E.nil (E.thn (E.ret (E.thr (F.r1 (Back.refl _ _) rfl rfl () trivial (congrArg Value.bool (by simp_all)) (J := _) (.refl _) (.inl rfl)))))
end Go.Proofs.YtlcfbfbdnnoifaaGreat
