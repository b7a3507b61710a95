import Derived.Test.YtonkkkjgdohooaaGreatBs
import Derived.Test.YtonkkkjgdohooaaGreatT12
import Derived.Test.YtonkkkjgdohooaaGreatBj
import Derived.Test.YtonkkkjgdohooaaGreatT23
import Derived.Test.YtonkkkjgdohooaaGreatDu
namespace Go.Proofs.YtonkkkjgdohooaaGreat
open Go.RowKit
set_option linter.unusedVariables false
set_option linter.unusedSimpArgs false
set_option maxHeartbeats 2000000
attribute [local irreducible] Nop Yd Yp Ent Has Tr FnP FnP2 Src listsF opnF opn1 opnR chainB
theorem t_impl_copyAtom {a_Rel : Int} {a_a_Terms : Option Addr} {m_a_Terms c_a_Terms : Nat} {a_Terms : List Int} (haz : a_Terms.length ≤ 1048576) : Tr Tryz.prog 205 [.agg #[.int .i64 a_Rel, .slice a_a_Terms m_a_Terms c_a_Terms]] (fun w L => I64 a_Rel ∧ Ro w L eIs [.slice a_a_Terms m_a_Terms c_a_Terms] a_Terms) [] (κ := Option Addr × Nat × Nat) (fun k => True) (fun k => .agg #[.int .i64 a_Rel, .slice k.1 k.2.1 k.2.2]) (fun k => [ow eIs [.slice k.1 k.2.1 k.2.2] a_Terms]) := by
  refine Tr.intro Tryz.func205 rfl (n := 9) rfl (by decide +kernel) bl (fr := [(0, .agg #[.int .i64 a_Rel, .slice a_a_Terms m_a_Terms c_a_Terms])]) rfl fun w L hR => ?_
  obtain ⟨i6a_Rel, ha_Terms⟩ := hR
  obtain ⟨rfl, la_Terms⟩ := ha_Terms.slen
  refine Ew Z2 (Est rfl (N.box (cs := [_, _]) rfl dc rfl) (fun b1 _ => (Est rfl (N.alloc ty_Atom dc) (fun b2 _ => (Eu (Eq_ (D.region (fun j => !(Nat.beq j 6)) mixed (Dyp 0 rfl (Y.fld fo_Atom_0 ty_I dc rfl) (Dy 1 rfl (Y.ld1 ty_I rfl ((Has.pt (mS m0)).sub (cs' := [_]) 0 rfl) rfl) (Dyp 2 rfl (Y.fld fo_Atom_1 ty_Is dc rfl) (Dy 3 rfl (Y.ld1 ty_Is rfl ((Has.pt (mS m0)).sub (cs' := [_]) 1 rfl) rfl) (D.st 4 rfl rfl kr (fun _ => rfl) (N.call (t_Clone_Is fc) rfl rfl rfl dc rfl (fun w Lp hA => hA.ro ha_Terms)) (fun k7 _ => ?_)))))))))))))
  obtain ⟨a7, m7, c7⟩ := k7
  refine Ent.lenow m0 fun e7 l7 => ?_
  subst e7
  refine Dyp 5 rfl (Y.bld (pvs := [_, _]) (cs := [_, _]) ty_Atom pl_Atom rfl rfl) (Ent.p1 (D.st 6 rfl rfl kr (fun h => by cases h) (N.sto (vs := [_, _]) (cs' := [_, _]) ty_Atom rfl rfl rfl rfl rfl bl rfl) (fun _ _ => (D.done kr (Et (E.ret (Ent.p1 ?_)))))))
  exact F.c1 br rfl rfl (mS m0) ty_Atom rfl (_, _, _) trivial rfl (J := _) (.refl _) (.inl rfl)
theorem t_impl_copyAtoms {a_l : Option Addr} {m_l c_l : Nat} {l : List (Int × List Int)} (hln : l.length ≤ 1048576) (hlt : ∀ a ∈ l, a.2.length ≤ 1048576) : Tr Tryz.prog 303 [.slice a_l m_l c_l] (fun w L => Ro w L eAtoms [.slice a_l m_l c_l] l) [] (κ := Option Addr × Nat × Nat) (fun k => True) (fun k => .slice k.1 k.2.1 k.2.2) (fun k => [ow eAtoms [.slice k.1 k.2.1 k.2.2] l]) := by
  refine Tr.intro Tryz.func303 rfl (n := 20) rfl (by decide +kernel) bl (fr := [(0, .slice a_l m_l c_l)]) rfl fun w L hR => ?_
  have hl := hR
  obtain ⟨rfl, ll⟩ := hl.slen
  refine Ew Z1 (Eas rfl rfl (Ev Z2 (Est rfl (N.bsl (pvs := []) (cs := []) us_Atoms ty_Atom rfl dc dc (fillZ rfl rfl) rfl dc) (fun b6 _ => (Ent.drop (Eas rfl rfl (Eu (Eq_ (Ew Z3 (Emv rfl rfl (Ey rfl ((Y.len us_Atoms rfl).yd) (Emv rfl rfl (Eu (E.block (Ent.mkow (A := []) (Own.nil (E := eAtom) (e := tAtom) (a := (some ⟨b6, 0, none⟩))) rfl (Ent.cv (congrArg (ow eAtoms [_]) (show [] = l.take 0 from by first | rfl | (simp; done) | grind [d1, d2, t1, t2])) (E.loop (κ := Nat × Option Addr × Nat × Nat) (fun g => g.1 ≤ l.length ∧ True) (fun g => [(3, .slice g.2.1 g.2.2.1 g.2.2.2), (7, .slice a_l l.length c_l), (8, .int .i64 (↑l.length : Int)), (9, .int .i64 (↑g.1 : Int))]) (fun g => [ow eAtoms [.slice g.2.1 g.2.2.1 g.2.2.2] (l.take g.1)]) (fun g => l.length - g.1) (0, (some ⟨b6, 0, none⟩), 0, 0) ⟨Nat.zero_le _, by simp⟩ ⟨rfl, rfl, rfl, rfl, trivial⟩ (.refl _) (fun g pg => ?_))))))))))))))))))
  obtain ⟨g, aA0_0, mA0_0, cA0_0⟩ := g
  try dsimp only at pg
  try dsimp only
  obtain ⟨pk, pa⟩ := pg
  have jp := List.length_take_le g l
  refine Ent.lenow m0 fun eaA0_0 laA0_0 => ?_
  subst eaA0_0
  refine Ew Z1 (Ey rfl ((Y.lss rfl rfl).yd) (Ent.d (fun q10 => ?_) (fun q10 => ?_)))
  · obtain ⟨eb11, eo11, ec11, ea11, er11, el11, eh11⟩ := hl.elem g om
    obtain ⟨xa11_0, xc11_0, rfl, ei11_0, xh11_0⟩ := Ro.pAtom er11
    have := xh11_0.slen.2
    refine Eu (Eq_ (E.ct rfl (E.skipc (Et (Eq_ (E.block (Ew Z4 (Ey rfl ((Y.ix us_Atoms ty_Atom rfl ea11 rfl g rfl om).yd) (Ey rfl (Y.ldS (cs := [_, _]) ty_Atom rfl (eh11 _) rfl) (Est rfl (N.alloc ty_Atom dc) (fun b5 _ => (Est rfl (N.sto (vs := [_, _]) (cs' := [_, _]) ty_Atom rfl rfl rfl rfl rfl bl rfl) (fun _ _ => (Eu (Ez Z6 (Emv rfl rfl (Ey rfl (Y.ldS (cs := [_, _]) ty_Atom rfl (Has.pt m0) rfl) (Est rfl (N.call (t_impl_copyAtom (hlt _ (List.getElem_mem om))) rfl rfl rfl dc rfl (fun w Lp hA => ⟨ei11_0, hA.ro xh11_0⟩)) (fun k15 _ => ?_)))))))))))))))))))
    obtain ⟨a15, m15, c15⟩ := k15
    refine Ent.lenow m0 fun e15 l15 => ?_
    subst e15
    refine Est rfl (N.bsl (pvs := [_]) (cs := [_, _]) us_Atoms ty_Atom rfl dc dc (fillZ rfl rfl) rfl dc) (fun b16 _ => (Ent.p1 (Ent.p1 (Ent.p3 (Est rfl (N.push (E := eAtom) (ex := l[g]) us_Atoms ty_Atom rfl rfl rfl (Own.mkAtom (x := l[g]) ei11_0 Own.ow) rfl bn bn dc) (fun p17 _ => (Eas rfl rfl (En (E.bln (Et (Ez Z2 (Ey rfl ((Y.add rfl rfl om om).yd) (Emv rfl rfl (Eu (Ent.p1 (Ent.drop (Ent.cv (congrArg (ow eAtoms [_]) (show (l.take g) ++ [l[g]] = l.take (g + 1) from by grind [d1, d2, t1, t2])) ?_)))))))))))))))))
    exact E.again br (g + 1, p17.1, ((l.take g).length + 1), p17.2) ⟨rfl, rfl, rfl, rfl, trivial⟩ (.refl _) ⟨(show g + 1 ≤ l.length from by omega), trivial⟩ (show l.length - (g + 1) < l.length - g from by omega)
  · refine Eu (Eq_ (E.cf rfl (E.exit (E.the (E.the (E.blh (Et (Ew Z2 (Emv rfl rfl (Eas rfl rfl (Eu (E.ret (Ent.cv (congrArg (ow eAtoms [_]) (show _ = l by grind [d1, d2, t1, t2])) ?_)))))))))))))
    exact Fg rfl rfl (_, _, _) rfl rfl
theorem t_impl_copyQuery {a_q_Head : Option Addr} {m_q_Head c_q_Head : Nat} {q_Head : List Int} {a_q_Atoms : Option Addr} {m_q_Atoms c_q_Atoms : Nat} {q_Atoms : List (Int × List Int)} (hqh : q_Head.length ≤ 1048576) (hqn : q_Atoms.length ≤ 1048576) (hqt : ∀ a ∈ q_Atoms, a.2.length ≤ 1048576) : Tr Tryz.prog 232 [.agg #[.slice a_q_Head m_q_Head c_q_Head, .slice a_q_Atoms m_q_Atoms c_q_Atoms]] (fun w L => Ro w L eIs [.slice a_q_Head m_q_Head c_q_Head] q_Head ∧ Ro w L eAtoms [.slice a_q_Atoms m_q_Atoms c_q_Atoms] q_Atoms) [] (κ := (Option Addr × Nat × Nat) × (Option Addr × Nat × Nat)) (fun k => True) (fun k => .agg #[.slice k.1.1 k.1.2.1 k.1.2.2, .slice k.2.1 k.2.2.1 k.2.2.2]) (fun k => [ow eIs [.slice k.1.1 k.1.2.1 k.1.2.2] q_Head, ow eAtoms [.slice k.2.1 k.2.2.1 k.2.2.2] q_Atoms]) := by
  refine Tr.intro Tryz.func232 rfl (n := 10) rfl (by decide +kernel) bl (fr := [(0, .agg #[.slice a_q_Head m_q_Head c_q_Head, .slice a_q_Atoms m_q_Atoms c_q_Atoms])]) rfl fun w L hR => ?_
  obtain ⟨hq_Head, hq_Atoms⟩ := hR
  obtain ⟨rfl, lq_Head⟩ := hq_Head.slen
  obtain ⟨rfl, lq_Atoms⟩ := hq_Atoms.slen
  refine Ew Z2 (Est rfl (N.box (cs := [_, _]) rfl dc rfl) (fun b1 _ => (Est rfl (N.alloc ty_Query dc) (fun b2 _ => (Eu (Eq_ (D.region (fun j => !(Nat.beq j 7)) mixed (Dyp 0 rfl (Y.fld fo_Query_0 ty_Is dc rfl) (Dy 1 rfl (Y.ld1 ty_Is rfl ((Has.pt (mS m0)).sub (cs' := [_]) 0 rfl) rfl) (Dyp 3 rfl (Y.fld fo_Query_1 ty_Atoms dc rfl) (Dy 4 rfl (Y.ld1 ty_Atoms rfl ((Has.pt (mS m0)).sub (cs' := [_]) 1 rfl) rfl) (D.st 2 rfl rfl kr (fun _ => rfl) (N.call (t_Clone_Is fc) rfl rfl rfl dc rfl (fun w Lp hA => hA.ro hq_Head)) (fun k5 _ => ?_)))))))))))))
  obtain ⟨a5, m5, c5⟩ := k5
  refine Ent.lenow m0 fun e5 l5 => ?_
  subst e5
  refine D.st 5 rfl rfl kr (fun _ => rfl) (N.call (t_impl_copyAtoms fc fc) rfl rfl rfl dc rfl (fun w Lp hA => hA.ro hq_Atoms)) (fun k8 _ => ?_)
  obtain ⟨a8, m8, c8⟩ := k8
  refine Ent.lenow m0 fun e8 l8 => ?_
  subst e8
  refine Dyp 6 rfl (Y.bld (pvs := [_, _]) (cs := [_, _]) ty_Query pl_Query rfl rfl) (Ent.p2 (D.st 7 rfl rfl kr (fun h => by cases h) (N.sto (vs := [_, _]) (cs' := [_, _]) ty_Query rfl rfl rfl rfl rfl bl rfl) (fun _ _ => (D.done kr (Et (E.ret (Ent.p1 (Ent.p2 (Ent.p1 (Ent.p1 ?_))))))))))
  exact F.c1 br rfl rfl (mS (mS m0)) ty_Query rfl ((_, _, _), (_, _, _)) trivial rfl (J := _) (.refl _) (.inl rfl)
end Go.Proofs.YtonkkkjgdohooaaGreat
