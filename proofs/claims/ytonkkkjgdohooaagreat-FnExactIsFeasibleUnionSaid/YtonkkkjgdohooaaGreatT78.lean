import Derived.Test.YtonkkkjgdohooaaGreatBs
import Derived.Test.YtonkkkjgdohooaaGreatT77
import Derived.Test.YtonkkkjgdohooaaGreatT27
import Derived.Test.YtonkkkjgdohooaaGreatT25
import Derived.Test.YtonkkkjgdohooaaGreatT23
namespace Go.Proofs.YtonkkkjgdohooaaGreat
open Go.RowKit
set_option linter.unusedVariables false
set_option linter.unusedSimpArgs false
set_option maxHeartbeats 2000000
attribute [local irreducible] Nop Yd Yp Ent Has Tr FnP FnP2 Src listsF opnF opn1 opnR chainB
theorem t_impl_copyQueries {a_u : Option Addr} {m_u c_u : Nat} {u : List (List Int × List (Int × List Int))} (hyu : ∀ q ∈ u, totL (fun x => x.2.length) q.2 ≤ 1048576) (hyh : ∀ q ∈ u, q.1.length ≤ 1048576) (hun : u.length ≤ 1048576) : Tr Tryz.prog 125 [.slice a_u m_u c_u] (fun w L => Ro w L eQuerys [.slice a_u m_u c_u] u) [] (κ := Option Addr × Nat × Nat) (fun k => True) (fun k => .slice k.1 k.2.1 k.2.2) (fun k => [ow eQuerys [.slice k.1 k.2.1 k.2.2] u]) := by
  refine Tr.intro Tryz.func125 rfl (n := 20) rfl (by decide +kernel) bl (fr := [(0, .slice a_u m_u c_u)]) rfl fun w L hR => ?_
  have hu := hR
  obtain ⟨rfl, lu⟩ := hu.slen
  refine Ew Z1 (Eas rfl rfl (Ev Z2 (Est rfl (N.bsl (pvs := []) (cs := []) us_Querys ty_Query rfl dc dc (fillZ rfl rfl) rfl dc) (fun b6 _ => (Ent.drop (Eas rfl rfl (Eu (Eq_ (Ew Z3 (Emv rfl rfl (Ey rfl ((Y.len us_Querys rfl).yd) (Emv rfl rfl (Eu (E.block (Ent.mkow (A := []) (Own.nil (E := eQuery) (e := tQuery) (a := (some ⟨b6, 0, none⟩))) rfl (Ent.cv (congrArg (ow eQuerys [_]) (show [] = u.take 0 from by first | rfl | (simp; done) | grind [d1, d2, t1, t2])) (E.loop (κ := Nat × Option Addr × Nat × Nat) (fun g => g.1 ≤ u.length ∧ True) (fun g => [(3, .slice g.2.1 g.2.2.1 g.2.2.2), (7, .slice a_u u.length c_u), (8, .int .i64 (↑u.length : Int)), (9, .int .i64 (↑g.1 : Int))]) (fun g => [ow eQuerys [.slice g.2.1 g.2.2.1 g.2.2.2] (u.take g.1)]) (fun g => u.length - g.1) (0, (some ⟨b6, 0, none⟩), 0, 0) ⟨Nat.zero_le _, by simp⟩ ⟨rfl, rfl, rfl, rfl, trivial⟩ (.refl _) (fun g pg => ?_))))))))))))))))))
  obtain ⟨g, aA0_0, mA0_0, cA0_0⟩ := g
  try dsimp only at pg
  try dsimp only
  obtain ⟨pk, pa⟩ := pg
  have jt := List.length_take_le g u
  refine Ent.lenow m0 fun eaA0_0 laA0_0 => ?_
  subst eaA0_0
  refine Ew Z1 (Ey rfl ((Y.lss rfl rfl).yd) (Ent.d (fun q10 => ?_) (fun q10 => ?_)))
  · obtain ⟨eb11, eo11, ec11, ea11, er11, el11, eh11⟩ := hu.elem g om
    obtain ⟨xa11_0, xc11_0, xa11_1, xc11_1, rfl, xh11_0, xh11_1⟩ := Ro.pQuery er11
    have := xh11_0.slen.2
    have := xh11_1.slen.2
    refine Eu (Eq_ (E.ct rfl (E.skipc (Et (Eq_ (E.block (Ew Z4 (Ey rfl ((Y.ix us_Querys ty_Query rfl ea11 rfl g rfl om).yd) (Ey rfl (Y.ldS (cs := [_, _]) ty_Query rfl (eh11 _) rfl) (Est rfl (N.alloc ty_Query dc) (fun b5 _ => (Est rfl (N.sto (vs := [_, _]) (cs' := [_, _]) ty_Query rfl rfl rfl rfl rfl bl rfl) (fun _ _ => (Eu (Ez Z6 (Emv rfl rfl (Ey rfl (Y.ldS (cs := [_, _]) ty_Query rfl (Has.pt m0) rfl) (Est rfl (N.call (t_impl_copyQuery (hyh _ (List.getElem_mem om)) (by have h9 := hyu _ (List.getElem_mem (show g < u.length by omega)); unfold totL at h9; omega) (atoms_len (hyu _ (List.getElem_mem (show g < u.length by omega))))) rfl rfl rfl dc rfl (fun w Lp hA => ⟨hA.ro xh11_0, hA.ro xh11_1⟩)) (fun k15 _ => ?_)))))))))))))))))))
    obtain ⟨⟨a15_0, m15_0, c15_0⟩, ⟨a15_1, m15_1, c15_1⟩⟩ := k15
    refine Ent.lenow m0 fun e15_0 l15_0 => ?_
    subst e15_0
    refine Ent.lenow (mS m0) fun e15_1 l15_1 => ?_
    subst e15_1
    refine Est rfl (N.bsl (pvs := [_]) (cs := [_, _]) us_Querys ty_Query rfl dc dc (fillZ rfl rfl) rfl dc) (fun b16 _ => (Ent.p2 (Ent.p2 (Ent.p2 (Ent.p4 (Est rfl (N.push (E := eQuery) (ex := u[g]) us_Querys ty_Query rfl rfl rfl (Own.mkQuery (x := u[g]) Own.ow Own.ow) rfl bn bn dc) (fun p17 _ => (Eas rfl rfl (En (E.bln (Et (Ez Z2 (Ey rfl ((Y.add rfl rfl om om).yd) (Emv rfl rfl (Eu (Ent.p1 (Ent.drop (Ent.cv (congrArg (ow eQuerys [_]) (show (u.take g) ++ [u[g]] = u.take (g + 1) from by exact (List.take_succ_eq_append_getElem om).symm)) ?_))))))))))))))))))
    exact E.again br (g + 1, p17.1, ((u.take g).length + 1), p17.2) ⟨rfl, rfl, rfl, rfl, trivial⟩ (.refl _) ⟨(show g + 1 ≤ u.length from by omega), trivial⟩ (show u.length - (g + 1) < u.length - g from by omega)
  · refine Eu (Eq_ (E.cf rfl (E.exit (E.the (E.the (E.blh (Et (Ew Z2 (Emv rfl rfl (Eas rfl rfl (Eu (E.ret (Ent.cv (congrArg (ow eQuerys [_]) (show _ = u by exact List.take_of_length_le om)) ?_)))))))))))))
    exact Fg rfl rfl (_, _, _) rfl rfl
theorem t_spec_l11Copy {a_u : Option Addr} {m_u c_u : Nat} {u : List (List Int × List (Int × List Int))} (hyu : ∀ q ∈ u, totL (fun x => x.2.length) q.2 ≤ 1048576) (hyh : ∀ q ∈ u, q.1.length ≤ 1048576) (hun : u.length ≤ 1048576) : Tr Tryz.prog 122 [.slice a_u m_u c_u] (fun w L => Ro w L eQuerys [.slice a_u m_u c_u] u) [] (κ := Option Addr × Nat × Nat) (fun k => True) (fun k => .slice k.1 k.2.1 k.2.2) (fun k => [ow eQuerys [.slice k.1 k.2.1 k.2.2] u]) := by
  refine Tr.intro Tryz.func122 rfl (n := 23) rfl (by decide +kernel) bl (fr := [(0, .slice a_u m_u c_u)]) rfl fun w L hR => ?_
  have hu := hR
  obtain ⟨rfl, lu⟩ := hu.slen
  refine Ew Z1 (Eas rfl rfl (Ev Z2 (Est rfl (N.bsl (pvs := []) (cs := []) us_Querys ty_Query rfl dc dc (fillZ rfl rfl) rfl dc) (fun b6 _ => (Ent.drop (Eas rfl rfl (Eu (Eq_ (Ew Z1 (Eas rfl rfl (Eu (E.block (Ent.mkow (A := []) (Own.nil (E := eQuery) (e := tQuery) (a := (some ⟨b6, 0, none⟩))) rfl (Ent.cv (congrArg (ow eQuerys [_]) (show [] = u.take 0 from by first | rfl | (simp; done) | grind [d1, d2, t1, t2])) (E.loop (κ := Nat × Option Addr × Nat × Nat) (fun g => g.1 ≤ u.length ∧ True) (fun g => [(0, .slice a_u u.length c_u), (3, .slice g.2.1 g.2.2.1 g.2.2.2), (4, .int .i64 (↑g.1 : Int))]) (fun g => [ow eQuerys [.slice g.2.1 g.2.2.1 g.2.2.2] (u.take g.1)]) (fun g => u.length - g.1) (0, (some ⟨b6, 0, none⟩), 0, 0) ⟨Nat.zero_le _, by simp⟩ ⟨rfl, rfl, rfl, trivial⟩ (.refl _) (fun g pg => ?_))))))))))))))))
  obtain ⟨g, aA0_0, mA0_0, cA0_0⟩ := g
  try dsimp only at pg
  try dsimp only
  obtain ⟨pk, pa⟩ := pg
  have jt := List.length_take_le g u
  refine Ent.lenow m0 fun eaA0_0 laA0_0 => ?_
  subst eaA0_0
  refine Eq_ (Ew Z4 (Emv rfl rfl (Emv rfl rfl (Ey rfl ((Y.len us_Querys rfl).yd) (Ey rfl ((Y.lss rfl rfl).yd) (Ent.d (fun q10 => ?_) (fun q10 => ?_)))))))
  · refine Eu (E.ct rfl (E.skipc (Et (Eq_ (E.block (Ew Z7 (Emv rfl rfl (Emv rfl rfl ?_))))))))
    obtain ⟨eb15, eo15, ec15, ea15, er15, el15, eh15⟩ := hu.elem g om
    obtain ⟨xa15_0, xc15_0, xa15_1, xc15_1, rfl, xh15_0, xh15_1⟩ := Ro.pQuery er15
    have := xh15_0.slen.2
    have := xh15_1.slen.2
    refine Ey rfl ((Y.ix us_Querys ty_Query rfl ea15 rfl g rfl om).yd) (Ey rfl (Y.ldS (cs := [_, _]) ty_Query rfl (eh15 _) rfl) (Est rfl (N.call (t_spec_l3Copy (hyh _ (List.getElem_mem om)) (by have h9 := hyu _ (List.getElem_mem (show g < u.length by omega)); unfold totL at h9; omega) (atoms_len (hyu _ (List.getElem_mem (show g < u.length by omega))))) rfl rfl rfl dc rfl (fun w Lp hA => ⟨hA.ro xh15_0, hA.ro xh15_1⟩)) (fun k17 _ => ?_)))
    obtain ⟨⟨a17_0, m17_0, c17_0⟩, ⟨a17_1, m17_1, c17_1⟩⟩ := k17
    refine Ent.lenow m0 fun e17_0 l17_0 => ?_
    subst e17_0
    refine Ent.lenow (mS m0) fun e17_1 l17_1 => ?_
    subst e17_1
    refine Est rfl (N.alloc ty_Query dc) (fun b5 _ => (Est rfl (N.sto (vs := [_, _]) (cs' := [_, _]) ty_Query rfl rfl rfl rfl rfl bl rfl) (fun _ _ => (Eu (Ez Z5 (Emv rfl rfl (Ey rfl (Y.ldS (cs := [_, _]) ty_Query rfl (Has.pt m0) rfl) (Est rfl (N.bsl (pvs := [_]) (cs := [_, _]) us_Querys ty_Query rfl dc dc (fillZ rfl rfl) rfl dc) (fun b20 _ => (Ent.p3 (Ent.p3 (Ent.p2 (Ent.p4 (Est rfl (N.push (E := eQuery) (ex := u[g]) us_Querys ty_Query rfl rfl rfl (Own.mkQuery (x := u[g]) Own.ow Own.ow) rfl bn bn dc) (fun p21 _ => (Eas rfl rfl (En (E.bln (Et (Ez Z3 (Emv rfl rfl (Ey rfl ((Y.add rfl rfl om om).yd) (Eas rfl rfl (Eu (Ent.p1 ?_)))))))))))))))))))))))))
    refine Ent.drop (Ent.cv (congrArg (ow eQuerys [_]) (show (u.take g) ++ [u[g]] = u.take (g + 1) from by exact (List.take_succ_eq_append_getElem om).symm)) ?_)
    exact E.again br (g + 1, p21.1, ((u.take g).length + 1), p21.2) ⟨rfl, rfl, rfl, trivial⟩ (.refl _) ⟨(show g + 1 ≤ u.length from by omega), trivial⟩ (show u.length - (g + 1) < u.length - g from by omega)
  · refine Eu (E.cf rfl (E.exit (E.the (E.the (E.blh (Et (Ew Z2 (Emv rfl rfl (Eas rfl rfl (Eu (E.ret (Ent.cv (congrArg (ow eQuerys [_]) (show _ = u by exact List.take_of_length_le om)) ?_))))))))))))
    exact Fg rfl rfl (_, _, _) rfl rfl
theorem t_spec_l11Without {a_u : Option Addr} {m_u c_u : Nat} {u : List (List Int × List (Int × List Int))} {ix : Int} (hyu : ∀ q ∈ u, totL (fun x => x.2.length) q.2 ≤ 1048576) (hyh : ∀ q ∈ u, q.1.length ≤ 1048576) (hun : u.length ≤ 1048576) (hix : 0 ≤ ix) : Tr Tryz.prog 123 [.slice a_u m_u c_u, .int .i64 ix] (fun w L => Ro w L eQuerys [.slice a_u m_u c_u] u) [] (κ := Option Addr × Nat × Nat) (fun k => True) (fun k => .slice k.1 k.2.1 k.2.2) (fun k => [ow eQuerys [.slice k.1 k.2.1 k.2.2] (u.eraseIdx ix.toNat)]) := by
  refine Tr.intro Tryz.func123 rfl (n := 28) rfl (by decide +kernel) bl (fr := [(0, .slice a_u m_u c_u), (1, .int .i64 ix)]) rfl fun w L hR => ?_
  have hu := hR
  obtain ⟨rfl, lu⟩ := hu.slen
  refine Ew Z1 (Eas rfl rfl (Ev Z2 (Est rfl (N.bsl (pvs := []) (cs := []) us_Querys ty_Query rfl dc dc (fillZ rfl rfl) rfl dc) (fun b8 _ => (Ent.drop (Eas rfl rfl (Eu (Eq_ (Ew Z1 (Eas rfl rfl (Eu (E.block (Ent.mkow (A := []) (Own.nil (E := eQuery) (e := tQuery) (a := (some ⟨b8, 0, none⟩))) rfl (Ent.cv (congrArg (ow eQuerys [_]) (show [] = (u.take 0).eraseIdx ix.toNat from by simp)) (E.loop (κ := Nat × Option Addr × Nat × Nat) (fun g => g.1 ≤ u.length ∧ True) (fun g => [(0, .slice a_u u.length c_u), (1, .int .i64 ix), (5, .slice g.2.1 g.2.2.1 g.2.2.2), (6, .int .i64 (↑g.1 : Int))]) (fun g => [ow eQuerys [.slice g.2.1 g.2.2.1 g.2.2.2] ((u.take g.1).eraseIdx ix.toNat)]) (fun g => u.length - g.1) (0, (some ⟨b8, 0, none⟩), 0, 0) ⟨Nat.zero_le _, by simp⟩ ⟨rfl, rfl, rfl, rfl, trivial⟩ (.refl _) (fun g pg => ?_))))))))))))))))
  obtain ⟨g, aA0_0, mA0_0, cA0_0⟩ := g
  try dsimp only at pg
  try dsimp only
  obtain ⟨pk, pa⟩ := pg
  have jt := List.length_take_le g u
  have je := List.length_eraseIdx_le (u.take g) ix.toNat
  refine Ent.lenow m0 fun eaA0_0 laA0_0 => ?_
  subst eaA0_0
  refine Eq_ (Ew Z4 (Emv rfl rfl (Emv rfl rfl (Ey rfl ((Y.len us_Querys rfl).yd) (Ey rfl ((Y.lss rfl rfl).yd) (Ent.d (fun q12 => ?_) (fun q12 => ?_)))))))
  · refine Eu (E.ct rfl (E.skipc (Et (Eq_ (E.block (Ew Z3 (Emv rfl rfl (Emv rfl rfl (Ey rfl ((Y.neq rfl rfl).yd) (Ent.d (fun q17 => ?_) (fun q17 => ?_)))))))))))
    · refine Eu (E.ct rfl (Ew Z7 (Emv rfl rfl (Emv rfl rfl ?_))))
      obtain ⟨eb20, eo20, ec20, ea20, er20, el20, eh20⟩ := hu.elem g om
      obtain ⟨xa20_0, xc20_0, xa20_1, xc20_1, rfl, xh20_0, xh20_1⟩ := Ro.pQuery er20
      have := xh20_0.slen.2
      have := xh20_1.slen.2
      refine Ey rfl ((Y.ix us_Querys ty_Query rfl ea20 rfl g rfl om).yd) (Ey rfl (Y.ldS (cs := [_, _]) ty_Query rfl (eh20 _) rfl) (Est rfl (N.call (t_spec_l3Copy (hyh _ (List.getElem_mem om)) (by have h9 := hyu _ (List.getElem_mem (show g < u.length by omega)); unfold totL at h9; omega) (atoms_len (hyu _ (List.getElem_mem (show g < u.length by omega))))) rfl rfl rfl dc rfl (fun w Lp hA => ⟨hA.ro xh20_0, hA.ro xh20_1⟩)) (fun k22 _ => ?_)))
      obtain ⟨⟨a22_0, m22_0, c22_0⟩, ⟨a22_1, m22_1, c22_1⟩⟩ := k22
      refine Ent.lenow m0 fun e22_0 l22_0 => ?_
      subst e22_0
      refine Ent.lenow (mS m0) fun e22_1 l22_1 => ?_
      subst e22_1
      refine Est rfl (N.alloc ty_Query dc) (fun b7 _ => (Est rfl (N.sto (vs := [_, _]) (cs' := [_, _]) ty_Query rfl rfl rfl rfl rfl bl rfl) (fun _ _ => (Eu (Ez Z5 (Emv rfl rfl (Ey rfl (Y.ldS (cs := [_, _]) ty_Query rfl (Has.pt m0) rfl) (Est rfl (N.bsl (pvs := [_]) (cs := [_, _]) us_Querys ty_Query rfl dc dc (fillZ rfl rfl) rfl dc) (fun b25 _ => (Ent.p3 (Ent.p3 (Ent.p2 (Ent.p4 (Est rfl (N.push (E := eQuery) (ex := u[g]) us_Querys ty_Query rfl rfl rfl (Own.mkQuery (x := u[g]) Own.ow Own.ow) rfl bn bn dc) (fun p26 _ => (Eas rfl rfl (En (E.bln (Et (Ez Z3 (Emv rfl rfl (Ey rfl ((Y.add rfl rfl om om).yd) (Eas rfl rfl (Eu (Ent.p1 ?_)))))))))))))))))))))))))
      refine Ent.drop (Ent.cv (congrArg (ow eQuerys [_]) (show ((u.take g).eraseIdx ix.toNat) ++ [u[g]] = (u.take (g + 1)).eraseIdx ix.toNat from by first | exact era_s1 om q17 rfl hix | exact era_s0 om (Int.not_ne_iff_eq.1 q17) rfl | exact era_s0 om (Decidable.not_not.1 q17) rfl)) ?_)
      exact E.again br (g + 1, p26.1, (((u.take g).eraseIdx ix.toNat).length + 1), p26.2) ⟨rfl, rfl, rfl, rfl, trivial⟩ (.refl _) ⟨(show g + 1 ≤ u.length from by omega), trivial⟩ (show u.length - (g + 1) < u.length - g from by omega)
    · refine Eu (E.cf rfl (E.skipc (E.bln (Et (Ez Z3 (Emv rfl rfl (Ey rfl ((Y.add rfl rfl om om).yd) (Eas rfl rfl (Eu (Ent.cv (congrArg (ow eQuerys [_]) (show (u.take g).eraseIdx ix.toNat = (u.take (g + 1)).eraseIdx ix.toNat from by first | exact era_s1 om q17 rfl hix | exact era_s0 om (Int.not_ne_iff_eq.1 q17) rfl | exact era_s0 om (Decidable.not_not.1 q17) rfl)) ?_))))))))))
      exact E.again br (g + 1, aA0_0, ((u.take g).eraseIdx ix.toNat).length, cA0_0) ⟨rfl, rfl, rfl, rfl, trivial⟩ (.refl _) ⟨(show g + 1 ≤ u.length from by omega), trivial⟩ (show u.length - (g + 1) < u.length - g from by omega)
  · refine Eu (E.cf rfl (E.exit (E.the (E.the (E.blh (Et (Ew Z2 (Emv rfl rfl (Eas rfl rfl (Eu (E.ret (Ent.cv (congrArg (ow eQuerys [_]) (show _ = u.eraseIdx ix.toNat by rw [List.take_of_length_le om])) ?_))))))))))))
    exact Fg rfl rfl (_, _, _) rfl rfl
theorem t_impl_MinimalUnion {a_s : Option Addr} {m_s c_s : Nat} {s : List Int} {a_u : Option Addr} {m_u c_u : Nat} {u : List (List Int × List (Int × List Int))} (hyu : ∀ q ∈ u, totL (fun x => x.2.length) q.2 ≤ 1048576) (hyh : ∀ q ∈ u, q.1.length ≤ 1048576) (hun : u.length ≤ 1048576) : Tr Tryz.prog 52 [.slice a_s m_s c_s, .slice a_u m_u c_u] (fun w L => Ro w L eIs [.slice a_s m_s c_s] s ∧ Ro w L eQuerys [.slice a_u m_u c_u] u) [] (κ := Option Addr × Nat × Nat) (fun k => True) (fun k => .slice k.1 k.2.1 k.2.2) (fun k => [ow eQuerys [.slice k.1 k.2.1 k.2.2] (mnuF s u)]) := by
  refine Tr.intro Tryz.func52 rfl (n := 36) rfl (by decide +kernel) bl (fr := [(0, .slice a_s m_s c_s), (1, .slice a_u m_u c_u)]) rfl fun w L hR => ?_
  obtain ⟨hs, hu⟩ := hR
  obtain ⟨rfl, ls⟩ := hs.slen
  obtain ⟨rfl, lu⟩ := hu.slen
  refine Ew Z1 (Eas rfl rfl (Ev Z3 (Emv rfl rfl (Est rfl (N.call (t_impl_copyQueries (by first | omega | assumption | exact ⟨by omega, by omega, by omega⟩) (by first | omega | assumption | exact ⟨by omega, by omega, by omega⟩) (by first | omega | assumption | exact ⟨by omega, by omega, by omega⟩)) rfl rfl rfl dc rfl (fun w Lp hA => hA.ro hu)) (fun k9 _ => ?_)))))
  obtain ⟨a9, m9, c9⟩ := k9
  refine Ent.lenow m0 fun e9 l9 => ?_
  subst e9
  refine Eas rfl rfl (Eu (Eq_ (Ew Z4 (Emv rfl rfl (Emv rfl rfl (Est rfl (N.call0 (t_impl_IsUnion (by first | omega | assumption | exact ⟨by omega, by omega, by omega⟩)) rfl rfl rfl dc (fun w Lp hA => ⟨hA.ro hs, hA.ro hu⟩)) (fun _ _ => (Ent.b (fun q12 => ?_) (fun q12 => ?_)))))))))
  · refine Ent.splB (F := eQueryB) rfl spBQueryB fun ys hys => (Ent.p1 (Ent.rebaseU (A := [_]) rfl fun wb1 Lb1 hB1 hA1 hU1 => ?_))
    have hs := hA1.ro hs
    have hu := hA1.ro hu
    have hbor : Bor wb1 Lb1 eQuery fQueryB ys u := hA1.elsB (fun _ => rfl) hys m0
    refine Ey rfl ((Y.not (b := true) rfl).yd) (Eu (E.cf rfl (E.skipc (Et (Eq_ (Ew Z1 (Eas rfl rfl (Eu (E.block (Ent.cv (congrArg (ow eQueryBs [_]) (show ys = nowL dB ys (mSel s u 0) 0 from by rfl)) (E.loop (κ := Nat × Option Addr × Nat × Nat) (fun g => g.1 ≤ u.length ∧ True) (fun g => [(0, .slice a_s s.length c_s), (5, .slice g.2.1 g.2.2.1 g.2.2.2), (6, .int .i64 (↑((mSel s u g.1).length) : Int))]) (fun g => [ow eQueryBs [.slice g.2.1 g.2.2.1 g.2.2.2] (nowL dB ys (mSel s u g.1) g.1)]) (fun g => u.length - g.1) (0, a9, (u).length, c9) ⟨Nat.zero_le _, by trivial⟩ ⟨rfl, rfl, frI (by rfl), trivial⟩ (.refl _) (fun g pg => ?_))))))))))))
    obtain ⟨g, aA0_0, mA0_0, cA0_0⟩ := g
    try dsimp only at pg
    try dsimp only
    obtain ⟨pk, pa⟩ := pg
    have jn := now_len (d := dB) (xs := ys) (is := (mSel s u g)) (n := g)
    have jm := mSel_len (s := s) (u := u) (n := g)
    refine Ent.lenow m0 fun eaA0_0 laA0_0 => ?_
    subst eaA0_0
    refine Eq_ (Ew Z4 (Emv rfl rfl (Emv rfl rfl (Ey rfl ((Y.len us_Querys rfl).yd) (Ey rfl ((Y.lss rfl rfl).yd) (Ent.d (fun q18 => ?_) (fun q18 => ?_)))))))
    · refine Eu (E.ct rfl (E.skipc (Et (E.block (Ew Z7 (Emv rfl rfl (Est rfl (N.call (t_Clone_QueryBs (by first | omega | assumption | exact ⟨by omega, by omega, by omega⟩)) rfl rfl rfl dc rfl (fun w Lp hA => hA.ow m0)) (fun k20 _ => ?_))))))))
      obtain ⟨a20, m20, c20⟩ := k20
      refine Ent.lenow m0 fun e20 l20 => ?_
      subst e20
      refine Emv rfl rfl (Emv rfl rfl (Ey rfl ((Y.add rfl rfl om om).yd) (Est rfl (N.call (pre := [_]) (t_Delete_QueryB (by first | omega | assumption | exact ⟨by omega, by omega, by omega⟩)) rfl rfl rfl dc rfl (fun w Lp hA => trivial)) (fun k24 _ => ?_))))
      obtain ⟨a24, m24, c24⟩ := k24
      refine Ent.lenow m0 fun e24 l24 => ?_
      subst e24
      refine Ent.cv (congrArg (ow eQueryBs [_]) (show (nowL dB ys (mSel s u g) g).take ((mSel s u g).length) ++ (nowL dB ys (mSel s u g) g).drop ((↑((mSel s u g).length) : Int) + 1).toNat = delL dB ys (mSel s u g) g from by exact now_del3)) (Eas rfl rfl (Ev Z7 (Emv rfl rfl (Emv rfl rfl (Emv rfl rfl (Ent.adr (mS m0) om fun ab28 ae28 => (Ent.p1 (Ent.open (x := ys[g]) ((mSel s u g).length) (now_get (show g < ys.length by omega)) fun ce28 => (Ent.p1 (Ent.oQueryB fun  oe28  => ?_))))))))))
      subst oe28
      refine Ey rfl ((Y.ix us_Querys ty_Query rfl ae28 rfl ((mSel s u g).length) rfl om).yd) (Ey rfl (Y.ldS (cs := [_, _]) ty_Query rfl (Has.hole ae28 m0) rfl) (Emv rfl rfl ?_))
      have hq2 := partsQueryB (hbor.get g om om)
      have hbd := hbor.del (d := dB) (d' := dQ) (is := (mSel s u g)) (n := g) (fun i hi => by have := mSel_lt i hi; omega)
      refine Est rfl (N.call0 (t_impl_ContainedIn (hyu _ (List.getElem_mem om)) (fun q hq => hyu q (del_mem (fun i hi => by have := mSel_lt i hi; omega) hq))) rfl rfl rfl dc (fun w Lp hA => ⟨hA.ro hs, hA.ro hq2.1, hA.ro hq2.2, hA.bQueryB (mS m0) hbd⟩)) (fun _ _ => (Ent.b (fun q31 => ?_) (fun q31 => ?_)))
      · refine Eu (E.ct rfl (Ez Z2 (Emv rfl rfl (Eas rfl rfl (En (E.bln (Et (Ent.shut (Own.mkQueryB (x := ys[g]) ) rfl (Ent.drop (Ent.cv (congrArg (ow eQueryBs [_]) (show delL dB ys (mSel s u g) g = nowL dB ys (mSel s u (g + 1)) (g + 1) from by first | exact mn_y om q31 | exact mn_n om om q31 | exact (now_set om).trans (mn_n om om q31) | exact mn_iy om q31 | exact mn_in om q31)) ?_))))))))))
        exact E.again br (g + 1, a24, ((nowL dB ys (mSel s u g) g).take ((mSel s u g).length) ++ (nowL dB ys (mSel s u g) g).drop ((↑((mSel s u g).length) : Int) + 1).toNat).length, c24) ⟨rfl, rfl, frI (by first | exact mn_y om q31 | exact mn_n om om q31 | exact (now_set om).trans (mn_n om om q31) | exact mn_iy om q31 | exact mn_in om q31), trivial⟩ (.refl _) ⟨(show g + 1 ≤ u.length from by omega), (show True from by trivial)⟩ (show u.length - (g + 1) < u.length - g from by omega)
      · refine Eu (E.cf rfl (Ez Z3 (Emv rfl rfl (Ey rfl ((Y.add rfl rfl om om).yd) (Eas rfl rfl (En (E.bln (Et (Ent.shut (Own.mkQueryB (x := ys[g]) ) rfl (Ent.p1 (Ent.drop (Ent.cv (congrArg (ow eQueryBs [_]) (show (nowL dB ys (mSel s u g) g).set ((mSel s u g).length) ys[g] = nowL dB ys (mSel s u (g + 1)) (g + 1) from by first | exact mn_y om q31 | exact mn_n om om q31 | exact (now_set om).trans (mn_n om om q31) | exact mn_iy om q31 | exact mn_in om q31)) ?_))))))))))))
        exact E.again br (g + 1, aA0_0, (nowL dB ys (mSel s u g) g).length, cA0_0) ⟨rfl, rfl, frI (by first | exact mn_y om q31 | exact mn_n om om q31 | exact (now_set om).trans (mn_n om om q31) | exact mn_iy om q31 | exact mn_in om q31), trivial⟩ (.refl _) ⟨(show g + 1 ≤ u.length from by omega), (show True from by trivial)⟩ (show u.length - (g + 1) < u.length - g from by omega)
    · refine Eu (E.cf rfl (E.exit (E.the (E.the (E.blh (Et (Ew Z2 (Emv rfl rfl (Eas rfl rfl (Ent.unbase hU1 (Ent.elsNow (s := s) (u := u) (n := g) (d := dB) (d' := dQ) (fun _ => rfl) hys om (Eu (E.ret (Ent.p1 (Ent.joiB flatQueryB rfl (Ent.cv (congrArg (ow eQuerys [_]) (show _ = mnuF s u by exact mn_end q12 om om)) ?_))))))))))))))))
      exact Fg rfl rfl (_, _, _) rfl rfl
  · refine Ey rfl ((Y.not (b := false) rfl).yd) (Eu (E.ct rfl (Ew Z2 (Emv rfl rfl (Eas rfl rfl (Eu (E.ret (E.thr (Ent.cv (congrArg (ow eQuerys [_]) (show _ = mnuF s u by exact mn_bad q12)) ?_)))))))))
    exact Fg rfl rfl (_, _, _) rfl rfl
theorem t_spec_MinimalUnion {a_s : Option Addr} {m_s c_s : Nat} {s : List Int} {a_u : Option Addr} {m_u c_u : Nat} {u : List (List Int × List (Int × List Int))} (hyu : ∀ q ∈ u, totL (fun x => x.2.length) q.2 ≤ 1048576) (hyh : ∀ q ∈ u, q.1.length ≤ 1048576) (hun : u.length ≤ 1048576) : Tr Tryz.prog 51 [.slice a_s m_s c_s, .slice a_u m_u c_u] (fun w L => Ro w L eIs [.slice a_s m_s c_s] s ∧ Ro w L eQuerys [.slice a_u m_u c_u] u) [] (κ := Option Addr × Nat × Nat) (fun k => True) (fun k => .slice k.1 k.2.1 k.2.2) (fun k => [ow eQuerys [.slice k.1 k.2.1 k.2.2] (mnuF s u)]) := by
  refine Tr.intro Tryz.func51 rfl (n := 33) rfl (by decide +kernel) bl (fr := [(0, .slice a_s m_s c_s), (1, .slice a_u m_u c_u)]) rfl fun w L hR => ?_
  obtain ⟨hs, hu⟩ := hR
  obtain ⟨rfl, ls⟩ := hs.slen
  obtain ⟨rfl, lu⟩ := hu.slen
  refine Ew Z1 (Eas rfl rfl (Ev Z3 (Emv rfl rfl (Est rfl (N.call (t_spec_l11Copy (by first | omega | assumption | exact ⟨by omega, by omega, by omega⟩) (by first | omega | assumption | exact ⟨by omega, by omega, by omega⟩) (by first | omega | assumption | exact ⟨by omega, by omega, by omega⟩)) rfl rfl rfl dc rfl (fun w Lp hA => hA.ro hu)) (fun k9 _ => ?_)))))
  obtain ⟨a9, m9, c9⟩ := k9
  refine Ent.lenow m0 fun e9 l9 => ?_
  subst e9
  refine Eas rfl rfl (Ev Z1 (Eas rfl rfl (Eu (Eq_ (E.block (Ent.cv (congrArg (ow eQuerys [_]) (show u = nowL dQ u (mSel s u 0) 0 from by rfl)) (E.loop (κ := Nat × Option Addr × Nat × Nat) (fun g => g.1 ≤ u.length ∧ (g.1 = 0 ∨ okUnion s u = true)) (fun g => [(0, .slice a_s s.length c_s), (1, .slice a_u u.length c_u), (5, .slice g.2.1 g.2.2.1 g.2.2.2), (6, .int .i64 (↑((mSel s u g.1).length) : Int))]) (fun g => [ow eQuerys [.slice g.2.1 g.2.2.1 g.2.2.2] (nowL dQ u (mSel s u g.1) g.1)]) (fun g => u.length - g.1) (0, a9, (u).length, c9) ⟨Nat.zero_le _, by exact .inl rfl⟩ ⟨rfl, rfl, rfl, frI (by rfl), trivial⟩ (.refl _) (fun g pg => ?_))))))))
  obtain ⟨g, aA0_0, mA0_0, cA0_0⟩ := g
  try dsimp only at pg
  try dsimp only
  obtain ⟨pk, pa⟩ := pg
  have jn := now_len (d := dQ) (xs := u) (is := (mSel s u g)) (n := g)
  have jm := mSel_len (s := s) (u := u) (n := g)
  refine Ent.lenow m0 fun eaA0_0 laA0_0 => ?_
  subst eaA0_0
  refine Eq_ (Ew Z9 (Emv rfl rfl (Emv rfl rfl (Ey rfl ((Y.len us_Querys rfl).yd) (Ey rfl ((Y.lss rfl rfl).yd) (Ent.d (fun q13 => ?_) (fun q13 => ?_)))))))
  · refine Emv rfl rfl (Emv rfl rfl (Emv rfl rfl (Est rfl (N.call0 (t_spec_IsUnion (by first | omega | assumption | exact ⟨by omega, by omega, by omega⟩)) rfl rfl rfl dc (fun w Lp hA => ⟨hA.ro hs, hA.ro hu⟩)) (fun _ _ => (Ent.b (fun q17 => ?_) (fun q17 => ?_))))))
    · refine Ey rfl ((Y.pkt rfl rfl).yd) (Eu (E.ct rfl (E.skipc (Et (E.block (Ew Z4 (Emv rfl rfl (Emv rfl rfl (Est rfl (N.call (t_spec_l11Without (fun q hq => hyu q (now_mem (fun i hi => by have := mSel_lt i hi; omega) hq)) (fun q hq => hyh q (now_mem (fun i hi => by have := mSel_lt i hi; omega) hq)) fo fo) rfl rfl rfl dc rfl (fun w Lp hA => hA.ow m0)) (fun k21 _ => ?_))))))))))
      obtain ⟨a21, m21, c21⟩ := k21
      refine Ent.lenow m0 fun e21 l21 => ?_
      subst e21
      refine Ent.cv (congrArg (ow eQuerys [_]) (show (nowL dQ u (mSel s u g) g).eraseIdx ((mSel s u g).length) = delL dQ u (mSel s u g) g from by exact now_era3)) (Eas rfl rfl (Ev Z7 (Emv rfl rfl (Emv rfl rfl (Emv rfl rfl (Ent.adr (mS m0) om fun ab25 ae25 => (Ent.p1 (Ent.open (x := u[g]) ((mSel s u g).length) (now_get (show g < u.length by omega)) fun ce25 => (Ent.p1 (Ent.oQuery fun oa25_0 om25_0 oc25_0 oa25_1 om25_1 oc25_1 oe25 on25_0 on25_1 => ?_))))))))))
      subst oe25
      subst on25_0
      subst on25_1
      refine Ey rfl ((Y.ix us_Querys ty_Query rfl ae25 rfl ((mSel s u g).length) rfl om).yd) (Ey rfl (Y.ldS (cs := [_, _]) ty_Query rfl (Has.hole ae25 (mS (mS m0))) rfl) (Emv rfl rfl (Est rfl (N.call0 (t_spec_ContainedIn (hyu _ (List.getElem_mem om)) (fun q hq => hyu q (del_mem (fun i hi => by have := mSel_lt i hi; omega) hq))) rfl rfl rfl dc (fun w Lp hA => ⟨hA.ro hs, hA.ow m0, hA.ow (mS m0), hA.ow (mS (mS (mS m0)))⟩)) (fun _ _ => (Ent.b (fun q28 => ?_) (fun q28 => ?_))))))
      · refine Eu (E.ct rfl (Ez Z2 (Emv rfl rfl (Eas rfl rfl (En (E.bln (Et (Ent.p1 (Ent.p1 (Ent.p2 (Ent.shut (Own.mkQuery (x := u[g]) Own.ow Own.ow) rfl (Ent.drop (Ent.cv (congrArg (ow eQuerys [_]) (show delL dQ u (mSel s u g) g = nowL dQ u (mSel s u (g + 1)) (g + 1) from by first | exact mn_y om q28 | exact mn_n om om q28 | exact (now_set om).trans (mn_n om om q28) | exact mn_iy om q28 | exact mn_in om q28)) ?_)))))))))))))
        exact E.again br (g + 1, a21, ((nowL dQ u (mSel s u g) g).eraseIdx ((mSel s u g).length)).length, c21) ⟨rfl, rfl, rfl, frI (by first | exact mn_y om q28 | exact mn_n om om q28 | exact (now_set om).trans (mn_n om om q28) | exact mn_iy om q28 | exact mn_in om q28), trivial⟩ (.refl _) ⟨(show g + 1 ≤ u.length from by omega), (show ((g + 1) = 0 ∨ okUnion s u = true) from by exact .inr q17)⟩ (show u.length - (g + 1) < u.length - g from by omega)
      · refine Eu (E.cf rfl (Ez Z3 (Emv rfl rfl (Ey rfl ((Y.add rfl rfl om om).yd) (Eas rfl rfl (En (E.bln (Et (Ent.p1 (Ent.p1 (Ent.p2 (Ent.shut (Own.mkQuery (x := u[g]) Own.ow Own.ow) rfl (Ent.p1 (Ent.drop (Ent.cv (congrArg (ow eQuerys [_]) (show (nowL dQ u (mSel s u g) g).set ((mSel s u g).length) u[g] = nowL dQ u (mSel s u (g + 1)) (g + 1) from by first | exact mn_y om q28 | exact mn_n om om q28 | exact (now_set om).trans (mn_n om om q28) | exact mn_iy om q28 | exact mn_in om q28)) ?_)))))))))))))))
        exact E.again br (g + 1, aA0_0, (nowL dQ u (mSel s u g) g).length, cA0_0) ⟨rfl, rfl, rfl, frI (by first | exact mn_y om q28 | exact mn_n om om q28 | exact (now_set om).trans (mn_n om om q28) | exact mn_iy om q28 | exact mn_in om q28), trivial⟩ (.refl _) ⟨(show g + 1 ≤ u.length from by omega), (show ((g + 1) = 0 ∨ okUnion s u = true) from by exact .inr q17)⟩ (show u.length - (g + 1) < u.length - g from by omega)
    · refine Ey rfl ((Y.pkt rfl rfl).yd) (Eu (E.cf rfl (E.exit (E.the (E.the (E.blh (Et (Ew Z2 (Emv rfl rfl (Eas rfl rfl (Eu (E.ret (Ent.cv (congrArg (ow eQuerys [_]) (show _ = mnuF s u by (rcases pa with h9 | h9; (subst h9; exact mn_bad q17); (rw [q17] at h9; cases h9)))) ?_)))))))))))))
      exact Fg rfl rfl (_, _, _) rfl rfl
  · refine Emv rfl rfl (Es rfl (Es rfl (Es rfl (Ey rfl ((Y.pkf rfl rfl).yd) (Eu (E.cf rfl (E.exit (E.the (E.the (E.blh (Et (Ew Z2 (Emv rfl rfl (Eas rfl rfl (Eu (E.ret (Ent.cv (congrArg (ow eQuerys [_]) (show _ = mnuF s u by (cases hq9 : okUnion s u with | true => exact mn_end hq9 om om | false => (rcases pa with h9 | h9; (subst h9; exact mn_bad hq9); (rw [hq9] at h9; cases h9))))) ?_)))))))))))))))))
    exact Fg rfl rfl (_, _, _) rfl rfl
end Go.Proofs.YtonkkkjgdohooaaGreat
