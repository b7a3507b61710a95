import Derived.Test.YtlcfbfbdnnoifaaGreatT26
import Derived.Test.YtlcfbfbdnnoifaaGreatT23
import Derived.Test.YtlcfbfbdnnoifaaGreatDu
namespace Go.Proofs.YtlcfbfbdnnoifaaGreat
open Go.RowKit
set_option linter.unusedVariables false
set_option linter.unusedSimpArgs false
set_option maxHeartbeats 2000000
attribute [local irreducible] Nop Yd Yp Ent Has Tr FnP FnP2 Src listsF opnF opn1 opnR chainB
theorem t_impl_copyAtom {a_Rel : Int} {a_a_Terms : Option Addr} {m_a_Terms c_a_Terms : Nat} {a_Terms : List Int} (haz : a_Terms.length ≤ 1048576) : Tr Tryz.prog 186 [.agg #[.int .i64 a_Rel, .slice a_a_Terms m_a_Terms c_a_Terms]] (fun w L => I64 a_Rel ∧ Ro w L eIs [.slice a_a_Terms m_a_Terms c_a_Terms] a_Terms) [] (κ := Option Addr × Nat × Nat) (fun k => True) (fun k => .agg #[.int .i64 a_Rel, .slice k.1 k.2.1 k.2.2]) (fun k => [ow eIs [.slice k.1 k.2.1 k.2.2] a_Terms]) := by
  refine Tr.intro Tryz.func186 rfl (n := 9) rfl (by decide +kernel) (Nat.le_of_ble_eq_true rfl) (fr := [(0, .agg #[.int .i64 a_Rel, .slice a_a_Terms m_a_Terms c_a_Terms])]) rfl fun w L hR => ?_
  obtain ⟨i6a_Rel, ha_Terms⟩ := hR
  obtain ⟨rfl, la_Terms⟩ := ha_Terms.slen
  refine E.seq (E.region (l := [0, 1]) rfl (E.st rfl rfl (N.box (cs := [_, _]) rfl (by decide) rfl) (fun b1 _ => ?_)))
  refine E.st rfl rfl (N.alloc ty_Atom (by decide)) (fun b2 _ => ?_)
  refine E.nil (E.thn (E.seq (D.region (fun j => !(Nat.beq j 6)) mixed (D.yp 0 rfl rfl (by decide) (Y.fld fo_Atom_0 ty_I (by decide) rfl) (by kernel_rfl) ?_))))
  refine D.y 1 rfl rfl (by decide) (Y.ld1 ty_I rfl ((Has.pt (mS m0)).sub (cs' := [_]) 0 rfl) rfl) (by kernel_rfl) ?_
  refine D.yp 2 rfl rfl (by decide) (Y.fld fo_Atom_1 ty_Is (by decide) rfl) (by kernel_rfl) ?_
  refine D.y 3 rfl rfl (by decide) (Y.ld1 ty_Is rfl ((Has.pt (mS m0)).sub (cs' := [_]) 1 rfl) rfl) (by kernel_rfl) ?_
  refine D.st 4 rfl rfl (by kernel_rfl) (fun _ => rfl) (N.call (t_Clone_Is (by first | omega | assumption | (constructor <;> omega))) rfl rfl rfl (by decide) rfl (fun w Lp hA => hA.ro ha_Terms)) (fun k7 _ => ?_)
  obtain ⟨a7, m7, c7⟩ := k7
  refine Ent.lenow m0 fun e7 l7 => ?_
  subst e7
  refine D.yp 5 rfl rfl (by decide) (Y.bld (pvs := [_, _]) (cs := [_, _]) ty_Atom pl_Atom rfl rfl) (by kernel_rfl) ?_
  refine Ent.p1 ?_
  refine D.st 6 rfl rfl (by kernel_rfl) (fun h => by cases h) (N.sto (vs := [_, _]) (cs' := [_, _]) ty_Atom rfl rfl rfl rfl rfl (Nat.le_of_ble_eq_true rfl) rfl) (fun _ _ => ?_)
  refine D.done (by kernel_rfl) (E.thn (E.ret (Ent.p1 ?_)))
  exact F.c1 (Back.refl _ _) rfl rfl (mS m0) ty_Atom rfl (_, _, _) trivial rfl (J := _) (.refl _) (.inl rfl)
theorem t_impl_copyAtoms {a_l : Option Addr} {m_l c_l : Nat} {l : List (Int × List Int)} (hln : l.length ≤ 1048576) (hlt : ∀ a ∈ l, a.2.length ≤ 1048576) : Tr Tryz.prog 153 [.slice a_l m_l c_l] (fun w L => Ro w L eAtoms [.slice a_l m_l c_l] l) [] (κ := Option Addr × Nat × Nat) (fun k => True) (fun k => .slice k.1 k.2.1 k.2.2) (fun k => [ow eAtoms [.slice k.1 k.2.1 k.2.2] l]) := by
  refine Tr.intro Tryz.func153 rfl (n := 20) rfl (by decide +kernel) (Nat.le_of_ble_eq_true rfl) (fr := [(0, .slice a_l m_l c_l)]) rfl fun w L hR => ?_
  have hl := hR
  obtain ⟨rfl, ll⟩ := hl.slen
  refine E.seq (E.region (l := [0]) rfl (E.y rfl rfl (by decide) ((Y.as rfl).yd) ?_))
  refine E.nil (E.thn (E.seq (E.region (l := [0, 1]) rfl (E.st rfl rfl (N.bsl (pvs := []) (cs := []) us_Atoms ty_Atom rfl (by decide) (by decide) (fillZ rfl rfl) rfl (by decide)) (fun b6 _ => ?_)))))
  refine Ent.drop ?_
  refine E.y rfl rfl (by decide) ((Y.as rfl).yd) ?_
  refine E.nil (E.thn (E.seq (E.seq (E.region (l := [0, 1, 2]) rfl (E.y rfl rfl (by decide) ((Y.mv rfl).yd) ?_)))))
  refine E.y rfl rfl (by decide) ((Y.len us_Atoms rfl).yd) ?_
  refine E.y rfl rfl (by decide) ((Y.mv rfl).yd) ?_
  refine E.nil (E.thn (E.block (Ent.mkow (A := []) (Own.nil (E := eAtom) (e := tAtom) (a := (some ⟨b6, 0, none⟩))) rfl ?_)))
  refine Ent.cv (congrArg (ow eAtoms [_]) (show [] = l.take 0 from by first | rfl | (simp; done) | grind [List.drop_eq_getElem_cons, List.drop_eq_nil_of_le, List.take_succ_eq_append_getElem, List.take_of_length_le])) ?_
  refine E.loop (κ := Nat × Option Addr × Nat × Nat) (fun g => g.1 ≤ l.length ∧ True) (fun g => [(3, .slice g.2.1 g.2.2.1 g.2.2.2), (7, .slice a_l l.length c_l), (8, .int .i64 (↑l.length : Int)), (9, .int .i64 (↑g.1 : Int))]) (fun g => [ow eAtoms [.slice g.2.1 g.2.2.1 g.2.2.2] (l.take g.1)]) (fun g => l.length - g.1) (0, (some ⟨b6, 0, none⟩), 0, 0) ⟨Nat.zero_le _, by simp⟩ ⟨rfl, rfl, rfl, rfl, trivial⟩ (.refl _) (fun g pg => ?_)
  obtain ⟨g, aA0_0, mA0_0, cA0_0⟩ := g
  try dsimp only at pg
  show Ent _ _ _ [(3, .slice aA0_0 mA0_0 cA0_0), (7, .slice a_l l.length c_l), (8, .int .i64 (↑l.length : Int)), (9, .int .i64 (↑g : Int))] [ow eAtoms [.slice aA0_0 mA0_0 cA0_0] (l.take g)] _
  obtain ⟨pk, pa⟩ := pg
  have jp := List.length_take_le g l
  refine Ent.lenow m0 fun eaA0_0 laA0_0 => ?_
  subst eaA0_0
  refine E.seq (E.region (l := [0]) rfl (E.y rfl rfl (by decide) ((Y.lss rfl rfl).yd) (Ent.d (fun q10 => ?_) (fun q10 => ?_))))
  · obtain ⟨eb11, eo11, ec11, ea11, er11, el11, eh11⟩ := hl.elem g (by omega)
    obtain ⟨xa11_0, xc11_0, rfl, ei11_0, xh11_0⟩ := Ro.pAtom er11
    have := xh11_0.slen.2
    refine E.nil (E.thn (E.seq (E.ct rfl (E.skipc (E.thn (E.seq (E.block (E.seq (E.region (l := [0, 1, 2, 3]) rfl (E.y rfl rfl (by decide) ((Y.ix us_Atoms ty_Atom rfl ea11 rfl g rfl (by omega)).yd) ?_))))))))))
    refine E.y rfl rfl (by decide) (Y.ldS (cs := [_, _]) ty_Atom rfl (eh11 _) rfl) ?_
    refine E.st rfl rfl (N.alloc ty_Atom (by decide)) (fun b5 _ => ?_)
    refine E.st rfl rfl (N.sto (vs := [_, _]) (cs' := [_, _]) ty_Atom rfl rfl rfl rfl rfl (Nat.le_of_ble_eq_true rfl) rfl) (fun _ _ => ?_)
    refine E.nil (E.thn (E.region (l := [0, 1, 2, 3, 4, 5]) rfl (E.y rfl rfl (by decide) ((Y.mv rfl).yd) ?_)))
    refine E.y rfl rfl (by decide) (Y.ldS (cs := [_, _]) ty_Atom rfl (Has.pt m0) rfl) ?_
    refine E.st rfl rfl (N.call (t_impl_copyAtom (hlt _ (List.getElem_mem (by omega)))) rfl rfl rfl (by decide) rfl (fun w Lp hA => ⟨ei11_0, hA.ro xh11_0⟩)) (fun k15 _ => ?_)
    obtain ⟨a15, m15, c15⟩ := k15
    refine Ent.lenow m0 fun e15 l15 => ?_
    subst e15
    refine E.st rfl rfl (N.bsl (pvs := [_]) (cs := [_, _]) us_Atoms ty_Atom rfl (by decide) (by decide) (fillZ rfl rfl) rfl (by decide)) (fun b16 _ => ?_)
    refine Ent.p1 ?_
    refine Ent.p1 ?_
    refine Ent.p3 ?_
    refine E.st rfl rfl (N.push (E := eAtom) (ex := l[g]) us_Atoms ty_Atom rfl rfl rfl (Own.mkAtom (x := l[g]) ei11_0 Own.ow) rfl (by first | omega | (simp only [List.length_map, List.length_take, List.length_append, List.length_drop, List.length_cons, List.length_nil]; omega)) (by first | omega | (simp only [List.length_map, List.length_take, List.length_append, List.length_drop, List.length_cons, List.length_nil]; omega)) (by decide)) (fun p17 _ => ?_)
    refine E.y rfl rfl (by decide) ((Y.as rfl).yd) ?_
    refine E.nil (E.bln (E.thn (E.region (l := [0, 1]) rfl (E.y rfl rfl (by decide) ((Y.add rfl rfl (by omega) (by omega)).yd) ?_))))
    refine E.y rfl rfl (by decide) ((Y.mv rfl).yd) ?_
    refine E.nil (E.thn (Ent.p1 ?_))
    refine Ent.drop ?_
    refine Ent.cv (congrArg (ow eAtoms [_]) (show (l.take g) ++ [l[g]] = l.take (g + 1) from by grind [List.drop_eq_getElem_cons, List.drop_eq_nil_of_le, List.take_succ_eq_append_getElem, List.take_of_length_le])) ?_
    exact E.again (Back.refl _ _) (g + 1, p17.1, ((l.take g).length + 1), p17.2) ⟨rfl, rfl, rfl, rfl, trivial⟩ (.refl _) ⟨(show g + 1 ≤ l.length from by omega), (show True from by grind [List.drop_eq_getElem_cons, List.drop_eq_nil_of_le, List.take_succ_eq_append_getElem, List.take_of_length_le])⟩ (show l.length - (g + 1) < l.length - g from by omega)
  · refine E.nil (E.thn (E.seq (E.cf rfl (E.exit (E.the (E.the (E.blh (E.thn (E.seq (E.region (l := [0, 1]) rfl (E.y rfl rfl (by decide) ((Y.mv rfl).yd) ?_)))))))))))
    refine E.y rfl rfl (by decide) ((Y.as rfl).yd) ?_
    refine E.nil (E.thn (E.ret (Ent.cv (congrArg (ow eAtoms [_]) (show _ = l by grind [List.drop_eq_getElem_cons, List.drop_eq_nil_of_le, List.take_succ_eq_append_getElem, List.take_of_length_le])) ?_)))
    exact F.r1 (Back.refl _ _) rfl rfl (_, _, _) trivial rfl (J := _) (.refl _) (.inl rfl)
theorem t_impl_copyQuery {a_q_Head : Option Addr} {m_q_Head c_q_Head : Nat} {q_Head : List Int} {a_q_Atoms : Option Addr} {m_q_Atoms c_q_Atoms : Nat} {q_Atoms : List (Int × List Int)} (hqh : q_Head.length ≤ 1048576) (hqn : q_Atoms.length ≤ 1048576) (hqt : ∀ a ∈ q_Atoms, a.2.length ≤ 1048576) : Tr Tryz.prog 90 [.agg #[.slice a_q_Head m_q_Head c_q_Head, .slice a_q_Atoms m_q_Atoms c_q_Atoms]] (fun w L => Ro w L eIs [.slice a_q_Head m_q_Head c_q_Head] q_Head ∧ Ro w L eAtoms [.slice a_q_Atoms m_q_Atoms c_q_Atoms] q_Atoms) [] (κ := (Option Addr × Nat × Nat) × (Option Addr × Nat × Nat)) (fun k => True) (fun k => .agg #[.slice k.1.1 k.1.2.1 k.1.2.2, .slice k.2.1 k.2.2.1 k.2.2.2]) (fun k => [ow eIs [.slice k.1.1 k.1.2.1 k.1.2.2] q_Head, ow eAtoms [.slice k.2.1 k.2.2.1 k.2.2.2] q_Atoms]) := by
  refine Tr.intro Tryz.func90 rfl (n := 10) rfl (by decide +kernel) (Nat.le_of_ble_eq_true rfl) (fr := [(0, .agg #[.slice a_q_Head m_q_Head c_q_Head, .slice a_q_Atoms m_q_Atoms c_q_Atoms])]) rfl fun w L hR => ?_
  obtain ⟨hq_Head, hq_Atoms⟩ := hR
  obtain ⟨rfl, lq_Head⟩ := hq_Head.slen
  obtain ⟨rfl, lq_Atoms⟩ := hq_Atoms.slen
  refine E.seq (E.region (l := [0, 1]) rfl (E.st rfl rfl (N.box (cs := [_, _]) rfl (by decide) rfl) (fun b1 _ => ?_)))
  refine E.st rfl rfl (N.alloc ty_Query (by decide)) (fun b2 _ => ?_)
  refine E.nil (E.thn (E.seq (D.region (fun j => !(Nat.beq j 7)) mixed (D.yp 0 rfl rfl (by decide) (Y.fld fo_Query_0 ty_Is (by decide) rfl) (by kernel_rfl) ?_))))
  refine D.y 1 rfl rfl (by decide) (Y.ld1 ty_Is rfl ((Has.pt (mS m0)).sub (cs' := [_]) 0 rfl) rfl) (by kernel_rfl) ?_
  refine D.yp 3 rfl rfl (by decide) (Y.fld fo_Query_1 ty_Atoms (by decide) rfl) (by kernel_rfl) ?_
  refine D.y 4 rfl rfl (by decide) (Y.ld1 ty_Atoms rfl ((Has.pt (mS m0)).sub (cs' := [_]) 1 rfl) rfl) (by kernel_rfl) ?_
  refine D.st 2 rfl rfl (by kernel_rfl) (fun _ => rfl) (N.call (t_Clone_Is (by first | omega | assumption | (constructor <;> omega))) rfl rfl rfl (by decide) rfl (fun w Lp hA => hA.ro hq_Head)) (fun k5 _ => ?_)
  obtain ⟨a5, m5, c5⟩ := k5
  refine Ent.lenow m0 fun e5 l5 => ?_
  subst e5
  refine D.st 5 rfl rfl (by kernel_rfl) (fun _ => rfl) (N.call (t_impl_copyAtoms (by first | omega | assumption | (constructor <;> omega)) (by first | omega | assumption | (constructor <;> omega))) rfl rfl rfl (by decide) rfl (fun w Lp hA => hA.ro hq_Atoms)) (fun k8 _ => ?_)
  obtain ⟨a8, m8, c8⟩ := k8
  refine Ent.lenow m0 fun e8 l8 => ?_
  subst e8
  refine D.yp 6 rfl rfl (by decide) (Y.bld (pvs := [_, _]) (cs := [_, _]) ty_Query pl_Query rfl rfl) (by kernel_rfl) ?_
  refine Ent.p2 ?_
  refine D.st 7 rfl rfl (by kernel_rfl) (fun h => by cases h) (N.sto (vs := [_, _]) (cs' := [_, _]) ty_Query rfl rfl rfl rfl rfl (Nat.le_of_ble_eq_true rfl) rfl) (fun _ _ => ?_)
  refine D.done (by kernel_rfl) (E.thn (E.ret (Ent.p1 ?_)))
  refine Ent.p2 ?_
  refine Ent.p1 ?_
  refine Ent.p1 ?_
  exact F.c1 (Back.refl _ _) rfl rfl (mS (mS m0)) ty_Query rfl ((_, _, _), (_, _, _)) trivial rfl (J := _) (.refl _) (.inl rfl)
theorem t_impl_DropAtom {a_q_Head : Option Addr} {m_q_Head c_q_Head : Nat} {q_Head : List Int} {a_q_Atoms : Option Addr} {m_q_Atoms c_q_Atoms : Nat} {q_Atoms : List (Int × List Int)} {ix : Int} (hqh : q_Head.length ≤ 1048576) (hqn : q_Atoms.length ≤ 1048576) (hqt : ∀ a ∈ q_Atoms, a.2.length ≤ 1048576) : Tr Tryz.prog 91 [.agg #[.slice a_q_Head m_q_Head c_q_Head, .slice a_q_Atoms m_q_Atoms c_q_Atoms], .int .i64 ix] (fun w L => Ro w L eIs [.slice a_q_Head m_q_Head c_q_Head] q_Head ∧ Ro w L eAtoms [.slice a_q_Atoms m_q_Atoms c_q_Atoms] q_Atoms) [] (κ := (Option Addr × Nat × Nat) × (Option Addr × Nat × Nat)) (fun k => True) (fun k => .agg #[.slice k.1.1 k.1.2.1 k.1.2.2, .slice k.2.1 k.2.2.1 k.2.2.2]) (fun k => [ow eIs [.slice k.1.1 k.1.2.1 k.1.2.2] q_Head, ow eAtoms [.slice k.2.1 k.2.2.1 k.2.2.2] (dropA q_Atoms ix)]) := by
  refine Tr.intro Tryz.func91 rfl (n := 22) rfl (by decide +kernel) (Nat.le_of_ble_eq_true rfl) (fr := [(0, .agg #[.slice a_q_Head m_q_Head c_q_Head, .slice a_q_Atoms m_q_Atoms c_q_Atoms]), (1, .int .i64 ix)]) rfl fun w L hR => ?_
  obtain ⟨hq_Head, hq_Atoms⟩ := hR
  obtain ⟨rfl, lq_Head⟩ := hq_Head.slen
  obtain ⟨rfl, lq_Atoms⟩ := hq_Atoms.slen
  refine E.seq (E.region (l := [0, 1]) rfl (E.st rfl rfl (N.box (cs := [_, _]) rfl (by decide) rfl) (fun b2 _ => ?_)))
  refine E.st rfl rfl (N.alloc ty_Query (by decide)) (fun b4 _ => ?_)
  refine E.nil (E.thn (E.seq (E.region (l := [0, 1, 2, 3]) rfl (E.y rfl rfl (by decide) (Y.ldS (cs := [_, _]) ty_Query rfl (Has.pt (mS m0)) rfl) ?_))))
  refine E.st rfl rfl (N.call (t_impl_copyQuery (by first | omega | assumption) (by first | omega | assumption) (by first | omega | assumption)) rfl rfl rfl (by decide) rfl (fun w Lp hA => ⟨hA.ro hq_Head, hA.ro hq_Atoms⟩)) (fun k7 _ => ?_)
  obtain ⟨⟨a7_0, m7_0, c7_0⟩, ⟨a7_1, m7_1, c7_1⟩⟩ := k7
  refine Ent.lenow m0 fun e7_0 l7_0 => ?_
  subst e7_0
  refine Ent.lenow (mS m0) fun e7_1 l7_1 => ?_
  subst e7_1
  refine E.st rfl rfl (N.alloc ty_Query (by decide)) (fun b5 _ => ?_)
  refine E.st rfl rfl (N.sto (vs := [_, _]) (cs' := [_, _]) ty_Query rfl rfl rfl rfl rfl (Nat.le_of_ble_eq_true rfl) rfl) (fun _ _ => ?_)
  refine E.nil (E.thn (E.seq (E.seq (E.region (l := [0, 1, 2, 3, 4, 5]) rfl (E.y rfl rfl (by decide) ((Y.mv rfl).yd) ?_)))))
  refine E.y rfl rfl (by decide) ((Y.fld fo_Query_1 ty_Atoms (by decide) rfl).yd) ?_
  refine E.y rfl rfl (by decide) (Y.ld1 ty_Atoms rfl ((Has.pt (mS (mS (mS (mS m0))))).sub (cs' := [_]) 1 rfl) rfl) ?_
  refine E.y rfl rfl (by decide) ((Y.len us_Atoms rfl).yd) ?_
  refine E.y rfl rfl (by decide) ((Y.sub rfl rfl (by omega) (by omega)).yd) ?_
  refine E.st rfl rfl (N.call0 t_impl_within rfl rfl rfl (by decide) (fun w Lp hA => trivial)) (fun _ _ => (Ent.b (fun q13 => ?_) (fun q13 => ?_)))
  · have jr : 0 ≤ ix ∧ ix ≤ (q_Atoms.length : Int) - 1 := by simpa only [inR, decide_eq_true_eq] using q13
    refine E.nil (E.thn (E.ct rfl (E.region (l := [0, 1, 2, 3, 4, 5, 6, 7]) rfl (E.y rfl rfl (by decide) ((Y.fld fo_Query_1 ty_Atoms (by decide) rfl).yd) ?_))))
    refine E.y rfl rfl (by decide) (Y.ld1 ty_Atoms rfl ((Has.pt m0).sub (cs' := [_]) 1 rfl) rfl) ?_
    refine E.y rfl rfl (by decide) ((Y.mv rfl).yd) ?_
    refine E.y rfl rfl (by decide) ((Y.mv rfl).yd) ?_
    refine E.y rfl rfl (by decide) ((Y.add rfl rfl (by omega) (by omega)).yd) ?_
    refine Ent.p2 ?_
    refine E.st rfl rfl (N.call (pre := [_]) (t_Delete_Atom (by simp only [inR, decide_eq_true_eq] at q13; omega)) rfl rfl rfl (by decide) rfl (fun w Lp hA => trivial)) (fun k19 _ => ?_)
    obtain ⟨a19, m19, c19⟩ := k19
    refine Ent.lenow m0 fun e19 l19 => ?_
    subst e19
    refine E.y rfl rfl (by decide) ((Y.fld fo_Query_1 ty_Atoms (by decide) rfl).yd) ?_
    refine Ent.p1 ?_
    refine E.st rfl rfl (N.sto (vs := [_]) (cs' := [_, _]) ty_Atoms rfl rfl rfl rfl rfl (Nat.le_of_ble_eq_true rfl) rfl) (fun _ _ => ?_)
    refine E.nil (E.thn (E.seq (E.region (l := [0, 1]) rfl (E.y rfl rfl (by decide) (Y.ldS (cs := [_, _]) ty_Query rfl (Has.pt m0) rfl) ?_))))
    refine Ent.p3 ?_
    refine E.st rfl rfl (N.sto (vs := [_, _]) (cs' := [_, _]) ty_Query rfl rfl rfl rfl rfl (Nat.le_of_ble_eq_true rfl) rfl) (fun _ _ => ?_)
    refine E.nil (E.thn (E.ret (Ent.p2 ?_)))
    refine Ent.cv (congrArg (ow eAtoms [_]) (show _ = dropA q_Atoms ix by grind [dropA, inR, List.drop_eq_getElem_cons, List.drop_eq_nil_of_le, List.take_succ_eq_append_getElem, List.take_of_length_le])) ?_
    refine Ent.p3 ?_
    refine Ent.p1 ?_
    refine Ent.p1 ?_
    exact F.c1 (Back.refl _ _) rfl rfl (mS (mS m0)) ty_Query rfl ((a7_0, (q_Head).length, c7_0), (a19, (q_Atoms.take ix.toNat ++ q_Atoms.drop (ix + 1).toNat).length, c19)) trivial rfl (J := _) (.refl _) (.inl rfl)
  · refine E.nil (E.thn (E.cf rfl (E.skipc (E.thn (E.seq (E.region (l := [0, 1]) rfl (E.y rfl rfl (by decide) (Y.ldS (cs := [_, _]) ty_Query rfl (Has.pt m0) rfl) ?_)))))))
    refine Ent.p3 ?_
    refine E.st rfl rfl (N.sto (vs := [_, _]) (cs' := [_, _]) ty_Query rfl rfl rfl rfl rfl (Nat.le_of_ble_eq_true rfl) rfl) (fun _ _ => ?_)
    refine E.nil (E.thn (E.ret (Ent.p3 ?_)))
    refine Ent.cv (congrArg (ow eAtoms [_]) (show _ = dropA q_Atoms ix by grind [dropA, inR, List.drop_eq_getElem_cons, List.drop_eq_nil_of_le, List.take_succ_eq_append_getElem, List.take_of_length_le])) ?_
    refine Ent.p3 ?_
    refine Ent.p1 ?_
    refine Ent.p1 ?_
    exact F.c1 (Back.refl _ _) rfl rfl (mS (mS m0)) ty_Query rfl ((a7_0, (q_Head).length, c7_0), (a7_1, (q_Atoms).length, c7_1)) trivial rfl (J := _) (.refl _) (.inl rfl)
theorem t_spec_DropAtom {a_q_Head : Option Addr} {m_q_Head c_q_Head : Nat} {q_Head : List Int} {a_q_Atoms : Option Addr} {m_q_Atoms c_q_Atoms : Nat} {q_Atoms : List (Int × List Int)} {ix : Int} (hqh : q_Head.length ≤ 1048576) (hqn : q_Atoms.length ≤ 1048576) (hqt : ∀ a ∈ q_Atoms, a.2.length ≤ 1048576) : Tr Tryz.prog 89 [.agg #[.slice a_q_Head m_q_Head c_q_Head, .slice a_q_Atoms m_q_Atoms c_q_Atoms], .int .i64 ix] (fun w L => Ro w L eIs [.slice a_q_Head m_q_Head c_q_Head] q_Head ∧ Ro w L eAtoms [.slice a_q_Atoms m_q_Atoms c_q_Atoms] q_Atoms) [] (κ := (Option Addr × Nat × Nat) × (Option Addr × Nat × Nat)) (fun k => True) (fun k => .agg #[.slice k.1.1 k.1.2.1 k.1.2.2, .slice k.2.1 k.2.2.1 k.2.2.2]) (fun k => [ow eIs [.slice k.1.1 k.1.2.1 k.1.2.2] q_Head, ow eAtoms [.slice k.2.1 k.2.2.1 k.2.2.2] (dropA q_Atoms ix)]) := by
  refine Tr.intro Tryz.func89 rfl (n := 41) rfl (by decide +kernel) (Nat.le_of_ble_eq_true rfl) (fr := [(0, .agg #[.slice a_q_Head m_q_Head c_q_Head, .slice a_q_Atoms m_q_Atoms c_q_Atoms]), (1, .int .i64 ix)]) rfl fun w L hR => ?_
  obtain ⟨hq_Head, hq_Atoms⟩ := hR
  obtain ⟨rfl, lq_Head⟩ := hq_Head.slen
  obtain ⟨rfl, lq_Atoms⟩ := hq_Atoms.slen
  have jv := hq_Atoms.i64A
  refine E.seq (E.region (l := [0, 1]) rfl (E.st rfl rfl (N.box (cs := [_, _]) rfl (by decide) rfl) (fun b2 _ => ?_)))
  refine E.st rfl rfl (N.alloc ty_Query (by decide)) (fun b4 _ => ?_)
  refine E.nil (E.thn (E.seq (E.region (l := [0, 1, 2, 3, 4, 5, 6]) rfl (E.st rfl rfl (N.bsl (pvs := []) (cs := []) us_Is ty_I rfl (by decide) (by decide) (fillZ rfl rfl) rfl (by decide)) (fun b7 _ => ?_)))))
  refine Ent.drop ?_
  refine E.y rfl rfl (by decide) ((Y.fld fo_Query_0 ty_Is (by decide) rfl).yd) ?_
  refine E.y rfl rfl (by decide) (Y.ld1 ty_Is rfl ((Has.pt (mS m0)).sub (cs' := [_]) 0 rfl) rfl) ?_
  refine E.st rfl rfl (N.pushR0 (E := Enc.int) Plain.int us_Is ty_I rfl rfl rfl hq_Head (by first | omega | (simp only [List.length_map, List.length_take, List.length_append, List.length_drop, List.length_cons, List.length_nil]; omega)) (by first | omega | (simp only [List.length_map, List.length_take, List.length_append, List.length_drop, List.length_cons, List.length_nil]; omega)) (by decide)) (fun p10 _ => ?_)
  refine E.y rfl rfl (by decide) ((Y.bld (pvs := [_]) (cs := [_, _]) ty_Query pl_Query rfl rfl).yd) ?_
  refine E.st rfl rfl (N.alloc ty_Query (by decide)) (fun b5 _ => ?_)
  refine E.st rfl rfl (N.sto (vs := [_, _]) (cs' := [_, _]) ty_Query rfl rfl rfl rfl rfl (Nat.le_of_ble_eq_true rfl) rfl) (fun _ _ => ?_)
  refine E.nil (E.thn (E.seq (E.seq (E.region (l := [0]) rfl (E.y rfl rfl (by decide) ((Y.as rfl).yd) ?_)))))
  refine E.nil (E.thn (E.block (Ent.mkow (A := []) (Own.nil (E := eAtom) (e := tAtom) (a := none)) rfl ?_)))
  refine Ent.cv (congrArg (ow eAtoms [_]) (show [] = dropA (q_Atoms.take 0) ix from by first | rfl | (simp; done) | grind [dropA_step, dropA_nil, dropA_all, List.drop_eq_getElem_cons, List.drop_eq_nil_of_le, List.take_succ_eq_append_getElem, List.take_of_length_le])) ?_
  refine E.loop (κ := Nat × Option Addr × Nat × Nat) (fun g => g.1 ≤ q_Atoms.length ∧ True) (fun g => [(1, .int .i64 ix), (2, .pointer (some ⟨b2, 0, none⟩)), (4, .pointer (some ⟨b4, 0, none⟩)), (5, .pointer (some ⟨b5, 0, none⟩)), (6, .int .i64 (↑g.1 : Int))]) (fun g => [ow eAtoms [.slice g.2.1 g.2.2.1 g.2.2.2] (dropA (q_Atoms.take g.1) ix), pt b5 31 [.slice p10.1 q_Head.length p10.2, .slice g.2.1 g.2.2.1 g.2.2.2], ow eIs [.slice p10.1 q_Head.length p10.2] q_Head, pt b4 31 [.slice none 0 0, .slice none 0 0], pt b2 31 [.slice a_q_Head q_Head.length c_q_Head, .slice a_q_Atoms q_Atoms.length c_q_Atoms]]) (fun g => q_Atoms.length - g.1) (0, none, 0, 0) ⟨Nat.zero_le _, by simp⟩ ⟨rfl, rfl, rfl, rfl, rfl, trivial⟩ (.refl _) (fun g pg => ?_)
  obtain ⟨g, aA0_0, mA0_0, cA0_0⟩ := g
  try dsimp only at pg
  show Ent _ _ _ [(1, .int .i64 ix), (2, .pointer (some ⟨b2, 0, none⟩)), (4, .pointer (some ⟨b4, 0, none⟩)), (5, .pointer (some ⟨b5, 0, none⟩)), (6, .int .i64 (↑g : Int))] [ow eAtoms [.slice aA0_0 mA0_0 cA0_0] (dropA (q_Atoms.take g) ix), pt b5 31 [.slice p10.1 q_Head.length p10.2, .slice aA0_0 mA0_0 cA0_0], ow eIs [.slice p10.1 q_Head.length p10.2] q_Head, pt b4 31 [.slice none 0 0, .slice none 0 0], pt b2 31 [.slice a_q_Head q_Head.length c_q_Head, .slice a_q_Atoms q_Atoms.length c_q_Atoms]] _
  obtain ⟨pk, pa⟩ := pg
  have jp := List.length_take_le g q_Atoms
  have jd := dropA_len (l := q_Atoms.take g) (i := ix)
  refine Ent.lenow m0 fun eaA0_0 laA0_0 => ?_
  subst eaA0_0
  refine E.seq (E.seq (E.region (l := [0, 1, 2, 3, 4]) rfl (E.y rfl rfl (by decide) ((Y.mv rfl).yd) ?_)))
  refine E.y rfl rfl (by decide) ((Y.fld fo_Query_1 ty_Atoms (by decide) rfl).yd) ?_
  refine E.y rfl rfl (by decide) (Y.ld1 ty_Atoms rfl ((Has.pt (mS (mS (mS (mS m0))))).sub (cs' := [_]) 1 rfl) rfl) ?_
  refine E.y rfl rfl (by decide) ((Y.len us_Atoms rfl).yd) ?_
  refine E.y rfl rfl (by decide) ((Y.lss rfl rfl).yd) (Ent.d (fun q16 => ?_) (fun q16 => ?_))
  · refine E.nil (E.thn (E.ct rfl (E.skipc (E.thn (E.seq (E.block (E.seq (E.region (l := [0, 1, 2]) rfl (E.y rfl rfl (by decide) ((Y.mv rfl).yd) ?_)))))))))
    refine E.y rfl rfl (by decide) ((Y.mv rfl).yd) ?_
    refine E.y rfl rfl (by decide) ((Y.neq rfl rfl).yd) (Ent.d (fun q21 => ?_) (fun q21 => ?_))
    · refine E.nil (E.thn (E.ct rfl (D.region (fun j => !(Nat.beq j 16) && !(Nat.beq j 18)) mixed (D.yp 0 rfl rfl (by decide) (Y.fld fo_Query_1 ty_Atoms (by decide) rfl) (by kernel_rfl) ?_))))
      refine D.y 1 rfl rfl (by decide) (Y.ld1 ty_Atoms rfl ((Has.pt (mS m0)).sub (cs' := [_]) 1 rfl) rfl) (by kernel_rfl) ?_
      refine D.yp 2 rfl rfl (by decide) (Y.fld fo_Query_1 ty_Atoms (by decide) rfl) (by kernel_rfl) ?_
      refine D.y 3 rfl rfl (by decide) (Y.ld1 ty_Atoms rfl ((Has.pt (mS (mS (mS (mS m0))))).sub (cs' := [_]) 1 rfl) rfl) (by kernel_rfl) ?_
      refine D.yp 4 rfl rfl (by decide) (Y.mv rfl) (by kernel_rfl) ?_
      obtain ⟨eb27, eo27, ec27, ea27, er27, el27, eh27⟩ := hq_Atoms.elem g (by omega)
      obtain ⟨xa27_0, xc27_0, rfl, ei27_0, xh27_0⟩ := Ro.pAtom er27
      have := xh27_0.slen.2
      refine D.yp 5 rfl rfl (by decide) (Y.ix us_Atoms ty_Atom rfl ea27 rfl g rfl (by omega)) (by kernel_rfl) ?_
      refine D.yp 6 rfl rfl (by decide) (Y.fld fo_Atom_0 ty_I (by decide) rfl) (by kernel_rfl) ?_
      refine D.y 7 rfl rfl (by decide) (Y.ld1 ty_I rfl ((eh27 _).sub (cs' := [_]) 0 rfl) rfl) (by kernel_rfl) ?_
      refine D.yp 8 rfl rfl (by decide) (Y.fld fo_Query_1 ty_Atoms (by decide) rfl) (by kernel_rfl) ?_
      refine D.y 9 rfl rfl (by decide) (Y.ld1 ty_Atoms rfl ((Has.pt (mS (mS (mS (mS m0))))).sub (cs' := [_]) 1 rfl) rfl) (by kernel_rfl) ?_
      refine D.yp 10 rfl rfl (by decide) (Y.mv rfl) (by kernel_rfl) ?_
      refine D.yp 11 rfl rfl (by decide) (Y.ix us_Atoms ty_Atom rfl ea27 rfl g rfl (by omega)) (by kernel_rfl) ?_
      refine D.yp 12 rfl rfl (by decide) (Y.fld fo_Atom_1 ty_Is (by decide) rfl) (by kernel_rfl) ?_
      refine D.y 13 rfl rfl (by decide) (Y.ld1 ty_Is rfl ((eh27 _).sub (cs' := [_]) 1 rfl) rfl) (by kernel_rfl) ?_
      refine D.st 14 rfl rfl (by kernel_rfl) (fun _ => rfl) (N.call (t_spec_l3Atom (hqt _ (List.getElem_mem (by omega)))) rfl rfl rfl (by decide) rfl (fun w Lp hA => ⟨ei27_0, hA.ro xh27_0⟩)) (fun k36 _ => ?_)
      obtain ⟨a36, m36, c36⟩ := k36
      refine Ent.lenow m0 fun e36 l36 => ?_
      subst e36
      refine D.st 15 rfl rfl (by kernel_rfl) (fun _ => rfl) (N.bsl (pvs := [_]) (cs := [_, _]) us_Atoms ty_Atom rfl (by decide) (by decide) (fillZ rfl rfl) rfl (by decide)) (fun b37 _ => ?_)
      refine Ent.p1 ?_
      refine Ent.p1 ?_
      refine Ent.p2 ?_
      refine D.st 16 rfl rfl (by kernel_rfl) (fun h => by cases h) (N.push (E := eAtom) (ex := q_Atoms[g]) us_Atoms ty_Atom rfl rfl rfl (Own.mkAtom (x := q_Atoms[g]) ei27_0 Own.ow) rfl (by first | omega | (simp only [List.length_map, List.length_take, List.length_append, List.length_drop, List.length_cons, List.length_nil]; omega)) (by first | omega | (simp only [List.length_map, List.length_take, List.length_append, List.length_drop, List.length_cons, List.length_nil]; omega)) (by decide)) (fun p38 _ => ?_)
      refine D.yp 17 rfl rfl (by decide) (Y.fld fo_Query_1 ty_Atoms (by decide) rfl) (by kernel_rfl) ?_
      refine Ent.p1 ?_
      refine D.st 18 rfl rfl (by kernel_rfl) (fun h => by cases h) (N.sto (vs := [_]) (cs' := [_, _]) ty_Atoms rfl rfl rfl rfl rfl (Nat.le_of_ble_eq_true rfl) rfl) (fun _ _ => ?_)
      refine D.done (by kernel_rfl) (E.bln (E.thn (E.region (l := [0, 1, 2]) rfl (E.y rfl rfl (by decide) ((Y.mv rfl).yd) ?_))))
      refine E.y rfl rfl (by decide) ((Y.add rfl rfl (by omega) (by omega)).yd) ?_
      refine E.y rfl rfl (by decide) ((Y.as rfl).yd) ?_
      refine E.nil (E.thn (Ent.p1 ?_))
      refine Ent.cv (congrArg (ow eAtoms [_]) (show (dropA (q_Atoms.take g) ix) ++ [q_Atoms[g]] = dropA (q_Atoms.take (g + 1)) ix from by grind [dropA_step, dropA_nil, dropA_all, List.drop_eq_getElem_cons, List.drop_eq_nil_of_le, List.take_succ_eq_append_getElem, List.take_of_length_le])) ?_
      refine Ent.p4 ?_
      refine Ent.p4 ?_
      refine Ent.p4 ?_
      refine Ent.p4 ?_
      refine Ent.p4 ?_
      exact E.again (Back.refl _ _) (g + 1, p38.1, ((dropA (q_Atoms.take g) ix).length + 1), p38.2) ⟨rfl, rfl, rfl, rfl, rfl, trivial⟩ (.refl _) ⟨(show g + 1 ≤ q_Atoms.length from by omega), (show True from by grind [List.drop_eq_getElem_cons, List.drop_eq_nil_of_le, List.take_succ_eq_append_getElem, List.take_of_length_le])⟩ (show q_Atoms.length - (g + 1) < q_Atoms.length - g from by omega)
    · refine E.nil (E.thn (E.cf rfl (E.skipc (E.bln (E.thn (E.region (l := [0, 1, 2]) rfl (E.y rfl rfl (by decide) ((Y.mv rfl).yd) ?_)))))))
      refine E.y rfl rfl (by decide) ((Y.add rfl rfl (by omega) (by omega)).yd) ?_
      refine E.y rfl rfl (by decide) ((Y.as rfl).yd) ?_
      refine E.nil (E.thn (Ent.cv (congrArg (ow eAtoms [_]) (show dropA (q_Atoms.take g) ix = dropA (q_Atoms.take (g + 1)) ix from by grind [dropA_step, dropA_nil, dropA_all, List.drop_eq_getElem_cons, List.drop_eq_nil_of_le, List.take_succ_eq_append_getElem, List.take_of_length_le])) ?_))
      refine Ent.p4 ?_
      refine Ent.p4 ?_
      refine Ent.p4 ?_
      refine Ent.p4 ?_
      refine Ent.p4 ?_
      exact E.again (Back.refl _ _) (g + 1, aA0_0, (dropA (q_Atoms.take g) ix).length, cA0_0) ⟨rfl, rfl, rfl, rfl, rfl, trivial⟩ (.refl _) ⟨(show g + 1 ≤ q_Atoms.length from by omega), (show True from by grind [List.drop_eq_getElem_cons, List.drop_eq_nil_of_le, List.take_succ_eq_append_getElem, List.take_of_length_le])⟩ (show q_Atoms.length - (g + 1) < q_Atoms.length - g from by omega)
  · refine E.nil (E.thn (E.cf rfl (E.exit (E.the (E.the (E.blh (E.thn (E.seq (E.region (l := [0, 1]) rfl (E.y rfl rfl (by decide) (Y.ldS (cs := [_, _]) ty_Query rfl (Has.pt (mS m0)) rfl) ?_))))))))))
    refine Ent.p3 ?_
    refine E.st rfl rfl (N.sto (vs := [_, _]) (cs' := [_, _]) ty_Query rfl rfl rfl rfl rfl (Nat.le_of_ble_eq_true rfl) rfl) (fun _ _ => ?_)
    refine E.nil (E.thn (E.ret (Ent.p1 ?_)))
    refine Ent.cv (congrArg (ow eAtoms [_]) (show _ = dropA q_Atoms ix by grind [dropA_step, dropA_nil, dropA_all, List.drop_eq_getElem_cons, List.drop_eq_nil_of_le, List.take_succ_eq_append_getElem, List.take_of_length_le])) ?_
    refine Ent.p3 ?_
    refine Ent.p1 ?_
    refine Ent.p1 ?_
    exact F.c1 (Back.refl _ _) rfl rfl (mS (mS m0)) ty_Query rfl ((_, _, _), (_, _, _)) trivial rfl (J := _) (.refl _) (.inl rfl)
end Go.Proofs.YtlcfbfbdnnoifaaGreat
