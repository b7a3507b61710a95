import Derived.Test.YtonkkkjgdohooaaGreatBs
import Derived.Test.YtonkkkjgdohooaaGreatT24
import Derived.Test.YtonkkkjgdohooaaGreatDt
namespace Go.Proofs.YtonkkkjgdohooaaGreat
open Go.RowKit
set_option linter.unusedVariables false
set_option linter.unusedSimpArgs false
set_option maxHeartbeats 2000000
attribute [local irreducible] Nop Yd Yp Ent Has Tr FnP FnP2 Src listsF opnF opn1 opnR chainB
theorem t_impl_ContainedIn_1 {a_x_Head : Option Addr} {m_x_Head c_x_Head : Nat} {x_Head : List Int} {a_x_Atoms : Option Addr} {m_x_Atoms c_x_Atoms : Nat} {x_Atoms : List (Int × List Int)} {b_s : Nat} {a_s : Option Addr} {m_s c_s : Nat} {s : List Int} {b_q : Nat} {a_q_Head : Option Addr} {m_q_Head c_q_Head : Nat} {q_Head : List Int} {a_q_Atoms : Option Addr} {m_q_Atoms c_q_Atoms : Nat} {q_Atoms : List (Int × List Int)} (hzx : totL (fun x => x.2.length) x_Atoms ≤ 1048576) (hzq : totL (fun x => x.2.length) q_Atoms ≤ 1048576) : Tr Tryz.prog 233 [.agg #[.slice a_x_Head m_x_Head c_x_Head, .slice a_x_Atoms m_x_Atoms c_x_Atoms], .pointer (some ⟨b_s, 0, none⟩), .pointer (some ⟨b_q, 0, none⟩)] (fun w L => (Ro w L eIs [.slice a_x_Head m_x_Head c_x_Head] x_Head ∧ Ro w L eAtoms [.slice a_x_Atoms m_x_Atoms c_x_Atoms] x_Atoms) ∧ RoPt w L b_s [.slice a_s m_s c_s] ∧ Ro w L eIs [.slice a_s m_s c_s] s ∧ RoPt w L b_q [.slice a_q_Head m_q_Head c_q_Head, .slice a_q_Atoms m_q_Atoms c_q_Atoms] ∧ Ro w L eIs [.slice a_q_Head m_q_Head c_q_Head] q_Head ∧ Ro w L eAtoms [.slice a_q_Atoms m_q_Atoms c_q_Atoms] q_Atoms) [] (κ := Unit) (fun k => True) (fun k => .bool (conR s (q_Head, q_Atoms) (x_Head, x_Atoms))) (fun k => []) := by
  refine Tr.intro Tryz.func233 rfl (n := 9) rfl (by decide +kernel) bl (fr := [(0, .agg #[.slice a_x_Head m_x_Head c_x_Head, .slice a_x_Atoms m_x_Atoms c_x_Atoms]), (1, .pointer (some ⟨b_s, 0, none⟩)), (2, .pointer (some ⟨b_q, 0, none⟩))]) rfl fun w L hR => ?_
  obtain ⟨⟨hx_Head, hx_Atoms⟩, hb_s, hs, hb_q, hq_Head, hq_Atoms⟩ := hR
  obtain ⟨rfl, lx_Head⟩ := hx_Head.slen
  obtain ⟨rfl, lx_Atoms⟩ := hx_Atoms.slen
  obtain ⟨rfl, ls⟩ := hs.slen
  obtain ⟨rfl, lq_Head⟩ := hq_Head.slen
  obtain ⟨rfl, lq_Atoms⟩ := hq_Atoms.slen
  refine Ew Z2 (Est rfl (N.box (cs := [_, _]) rfl dc rfl) (fun b3 _ => (Eas rfl rfl (Ev Z5 (Ey rfl (Y.ld1 ty_Is rfl (hb_s.has) rfl) (Ey rfl (Y.ldS (cs := [_, _]) ty_Query rfl (hb_q.has) rfl) (Ey rfl (Y.ldS (cs := [_, _]) ty_Query rfl (Has.pt m0) rfl) (Est rfl (N.call0 (t_impl_IsContained fc fc) rfl rfl rfl dc (fun w Lp hA => ⟨hA.ro hs, hA.ro hq_Head, hA.ro hq_Atoms, hA.ro hx_Head, hA.ro hx_Atoms⟩)) (fun _ _ => (Eas rfl rfl ?_))))))))))
  exact Eu (E.ret (Fg rfl rfl () rfl rfl))
theorem t_impl_ContainedIn {a_s : Option Addr} {m_s c_s : Nat} {s : List Int} {a_q_Head : Option Addr} {m_q_Head c_q_Head : Nat} {q_Head : List Int} {a_q_Atoms : Option Addr} {m_q_Atoms c_q_Atoms : Nat} {q_Atoms : List (Int × List Int)} {a_u : Option Addr} {m_u c_u : Nat} {u : List (List Int × List (Int × List Int))} (hzq : totL (fun x => x.2.length) q_Atoms ≤ 1048576) (hyu : ∀ q ∈ u, totL (fun x => x.2.length) q.2 ≤ 1048576) : Tr Tryz.prog 128 [.slice a_s m_s c_s, .agg #[.slice a_q_Head m_q_Head c_q_Head, .slice a_q_Atoms m_q_Atoms c_q_Atoms], .slice a_u m_u c_u] (fun w L => Ro w L eIs [.slice a_s m_s c_s] s ∧ Ro w L eIs [.slice a_q_Head m_q_Head c_q_Head] q_Head ∧ Ro w L eAtoms [.slice a_q_Atoms m_q_Atoms c_q_Atoms] q_Atoms ∧ Ro w L eQuerys [.slice a_u m_u c_u] u) [] (κ := Unit) (fun k => True) (fun k => .bool (conIn s u (q_Head, q_Atoms))) (fun k => []) := by
  refine Tr.intro Tryz.func128 rfl (n := 10) rfl (by decide +kernel) bl (fr := [(0, .slice a_s m_s c_s), (1, .agg #[.slice a_q_Head m_q_Head c_q_Head, .slice a_q_Atoms m_q_Atoms c_q_Atoms]), (2, .slice a_u m_u c_u)]) rfl fun w L hR => ?_
  obtain ⟨hs, hq_Head, hq_Atoms, hu⟩ := hR
  obtain ⟨rfl, ls⟩ := hs.slen
  obtain ⟨rfl, lq_Head⟩ := hq_Head.slen
  obtain ⟨rfl, lq_Atoms⟩ := hq_Atoms.slen
  obtain ⟨rfl, lu⟩ := hu.slen
  refine Ew Z3 (Est rfl (N.box (cs := [_]) rfl dc rfl) (fun b3 _ => (Est rfl (N.box (cs := [_, _]) rfl dc rfl) (fun b4 _ => (Eas rfl rfl (Ev Z4 (Emv rfl rfl (Ey rfl ((Y.fn (vs := [_, _]) rfl).yd) (Est rfl (N.call0 (t_ContainsFunc_Query (f := (fun z => conR s (q_Head, q_Atoms) z)) (D_f := (fun z => (totL (fun x => x.2.length) z.2 ≤ 1048576) ∧ (totL (fun x => x.2.length) q_Atoms ≤ 1048576))) (by grind)) rfl rfl rfl dc (fun w Lp hA => ⟨hA.ro hu, FnP.ofQuery (D := (fun z => (totL (fun x => x.2.length) z.2 ≤ 1048576) ∧ (totL (fun x => x.2.length) q_Atoms ≤ 1048576))) (fun hd => t_impl_ContainedIn_1 hd.1 hd.2) (fun w' hk => ⟨(hA.pt (mS m0)).keep hk, (hA.ro hs).keep hk, (hA.pt m0).keep hk, (hA.ro hq_Head).keep hk, (hA.ro hq_Atoms).keep hk⟩)⟩)) (fun _ _ => (Eas rfl rfl ?_)))))))))))
  exact Eu (E.ret (Fb rfl rfl (by grind [conIn, d1, d2, t1, t2])))
theorem t_spec_ContainedIn {a_s : Option Addr} {m_s c_s : Nat} {s : List Int} {a_q_Head : Option Addr} {m_q_Head c_q_Head : Nat} {q_Head : List Int} {a_q_Atoms : Option Addr} {m_q_Atoms c_q_Atoms : Nat} {q_Atoms : List (Int × List Int)} {a_u : Option Addr} {m_u c_u : Nat} {u : List (List Int × List (Int × List Int))} (hzq : totL (fun x => x.2.length) q_Atoms ≤ 1048576) (hyu : ∀ q ∈ u, totL (fun x => x.2.length) q.2 ≤ 1048576) : Tr Tryz.prog 124 [.slice a_s m_s c_s, .agg #[.slice a_q_Head m_q_Head c_q_Head, .slice a_q_Atoms m_q_Atoms c_q_Atoms], .slice a_u m_u c_u] (fun w L => Ro w L eIs [.slice a_s m_s c_s] s ∧ Ro w L eIs [.slice a_q_Head m_q_Head c_q_Head] q_Head ∧ Ro w L eAtoms [.slice a_q_Atoms m_q_Atoms c_q_Atoms] q_Atoms ∧ Ro w L eQuerys [.slice a_u m_u c_u] u) [] (κ := Unit) (fun k => True) (fun k => .bool (conIn s u (q_Head, q_Atoms))) (fun k => []) := by
  refine Tr.intro Tryz.func124 rfl (n := 21) rfl (by decide +kernel) bl (fr := [(0, .slice a_s m_s c_s), (1, .agg #[.slice a_q_Head m_q_Head c_q_Head, .slice a_q_Atoms m_q_Atoms c_q_Atoms]), (2, .slice a_u m_u c_u)]) rfl fun w L hR => ?_
  obtain ⟨hs, hq_Head, hq_Atoms, hu⟩ := hR
  obtain ⟨rfl, ls⟩ := hs.slen
  obtain ⟨rfl, lq_Head⟩ := hq_Head.slen
  obtain ⟨rfl, lq_Atoms⟩ := hq_Atoms.slen
  obtain ⟨rfl, lu⟩ := hu.slen
  refine Ew Z2 (Est rfl (N.box (cs := [_, _]) rfl dc rfl) (fun b4 _ => (Eas rfl rfl (Eu (Eq_ (Ew Z1 (Eas rfl rfl (Eu (E.block (E.loop (κ := Nat) (fun g => g ≤ u.length ∧ u.any (conR s (q_Head, q_Atoms)) = (u.drop g).any (conR s (q_Head, q_Atoms))) (fun g => [(0, .slice a_s s.length c_s), (2, .slice a_u u.length c_u), (4, .pointer (some ⟨b4, 0, none⟩)), (7, .int .i64 (g : Int))]) (fun g => [pt b4 55 [.slice a_q_Head q_Head.length c_q_Head, .slice a_q_Atoms q_Atoms.length c_q_Atoms]]) (fun g => u.length - g) 0 ⟨Nat.zero_le _, by simp⟩ ⟨rfl, rfl, rfl, rfl, trivial⟩ (.refl _) (fun g pg => ?_)))))))))))
  obtain ⟨pk, pa⟩ := pg
  refine Eq_ (Ew Z4 (Emv rfl rfl (Emv rfl rfl (Ey rfl ((Y.len us_Querys rfl).yd) (Ey rfl ((Y.lss rfl rfl).yd) (Ent.d (fun q11 => ?_) (fun q11 => ?_)))))))
  · refine Eu (E.ct rfl (E.skipc (Et (Eq_ (E.block (Eq_ (D.region (fun j => true) mixed (Dyp 0 rfl (Y.mv rfl) (Dy 1 rfl (Y.ldS (cs := [_, _]) ty_Query rfl (Has.pt m0) rfl) (Dyp 2 rfl (Y.mv rfl) (Dyp 3 rfl (Y.mv rfl) ?_)))))))))))
    obtain ⟨eb18, eo18, ec18, ea18, er18, el18, eh18⟩ := hu.elem g om
    obtain ⟨xa18_0, xc18_0, xa18_1, xc18_1, rfl, xh18_0, xh18_1⟩ := Ro.pQuery er18
    have := xh18_0.slen.2
    have := xh18_1.slen.2
    refine Dyp 4 rfl (Y.ix us_Querys ty_Query rfl ea18 rfl g rfl om) (Dy 5 rfl (Y.ldS (cs := [_, _]) ty_Query rfl (eh18 _) rfl) (D.st 6 rfl rfl kr (fun _ => rfl) (N.call0 (t_spec_IsContained fo (hyu _ (List.getElem_mem om))) rfl rfl rfl dc (fun w Lp hA => ⟨hA.ro hs, hA.ro hq_Head, hA.ro hq_Atoms, hA.ro xh18_0, hA.ro xh18_1⟩)) (fun _ _ => (Ent.b (fun q20 => ?_) (fun q20 => ?_)))))
    · refine D.done kr (Et (E.ct rfl (Ew Z1 (Eas rfl rfl ?_))))
      exact Eu (E.ret (E.blr (E.thr (E.thr (E.blr (E.thr (Fb rfl rfl (by grind [conIn, d1, d2, t1, t2]))))))))
    · refine D.done kr (Et (E.cf rfl (E.skipc (E.bln (Et (Ez Z3 (Emv rfl rfl (Ey rfl ((Y.add rfl rfl om om).yd) (Eas rfl rfl ?_)))))))))
      exact Eu (E.again br (g + 1) ⟨rfl, rfl, rfl, rfl, trivial⟩ (.refl _) ⟨by omega, by grind [d1, d2, t1, t2]⟩ om)
  · refine Eu (E.cf rfl (E.exit (E.the (E.the (E.blh (Et (Ew Z1 (Eas rfl rfl ?_))))))))
    exact Eu (E.ret (Fb rfl rfl (by grind [conIn, d1, d2, t1, t2])))
end Go.Proofs.YtonkkkjgdohooaaGreat
