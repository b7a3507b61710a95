import Derived.Test.YtlcfbfbdnnoifaaGreatT24
import Derived.Test.YtlcfbfbdnnoifaaGreatDt
namespace Go.Proofs.YtlcfbfbdnnoifaaGreat
open Go.RowKit
set_option linter.unusedVariables false
set_option linter.unusedSimpArgs false
set_option maxHeartbeats 2000000
attribute [local irreducible] Nop Yd Yp Ent Has Tr FnP FnP2 Src listsF opnF opn1 opnR chainB
theorem t_impl_ContainedIn_1 {a_x_Head : Option Addr} {m_x_Head c_x_Head : Nat} {x_Head : List Int} {a_x_Atoms : Option Addr} {m_x_Atoms c_x_Atoms : Nat} {x_Atoms : List (Int × List Int)} {b_s : Nat} {a_s : Option Addr} {m_s c_s : Nat} {s : List Int} {b_q : Nat} {a_q_Head : Option Addr} {m_q_Head c_q_Head : Nat} {q_Head : List Int} {a_q_Atoms : Option Addr} {m_q_Atoms c_q_Atoms : Nat} {q_Atoms : List (Int × List Int)} (hzx : totL (fun x => x.2.length) x_Atoms ≤ 1048576) (hzq : totL (fun x => x.2.length) q_Atoms ≤ 1048576) : Tr Tryz.prog 78 [.agg #[.slice a_x_Head m_x_Head c_x_Head, .slice a_x_Atoms m_x_Atoms c_x_Atoms], .pointer (some ⟨b_s, 0, none⟩), .pointer (some ⟨b_q, 0, none⟩)] (fun w L => (Ro w L eIs [.slice a_x_Head m_x_Head c_x_Head] x_Head ∧ Ro w L eAtoms [.slice a_x_Atoms m_x_Atoms c_x_Atoms] x_Atoms) ∧ RoPt w L b_s [.slice a_s m_s c_s] ∧ Ro w L eIs [.slice a_s m_s c_s] s ∧ RoPt w L b_q [.slice a_q_Head m_q_Head c_q_Head, .slice a_q_Atoms m_q_Atoms c_q_Atoms] ∧ Ro w L eIs [.slice a_q_Head m_q_Head c_q_Head] q_Head ∧ Ro w L eAtoms [.slice a_q_Atoms m_q_Atoms c_q_Atoms] q_Atoms) [] (κ := Unit) (fun k => True) (fun k => .bool (conR s (q_Head, q_Atoms) (x_Head, x_Atoms))) (fun k => []) := by
  refine Tr.intro Tryz.func78 rfl (n := 9) rfl (by decide +kernel) (Nat.le_of_ble_eq_true rfl) (fr := [(0, .agg #[.slice a_x_Head m_x_Head c_x_Head, .slice a_x_Atoms m_x_Atoms c_x_Atoms]), (1, .pointer (some ⟨b_s, 0, none⟩)), (2, .pointer (some ⟨b_q, 0, none⟩))]) rfl fun w L hR => ?_
  obtain ⟨⟨hx_Head, hx_Atoms⟩, hb_s, hs, hb_q, hq_Head, hq_Atoms⟩ := hR
  obtain ⟨rfl, lx_Head⟩ := hx_Head.slen
  obtain ⟨rfl, lx_Atoms⟩ := hx_Atoms.slen
  obtain ⟨rfl, ls⟩ := hs.slen
  obtain ⟨rfl, lq_Head⟩ := hq_Head.slen
  obtain ⟨rfl, lq_Atoms⟩ := hq_Atoms.slen
  refine E.seq (E.region (l := [0, 1]) rfl (E.st rfl rfl (N.box (cs := [_, _]) rfl (by decide) rfl) (fun b3 _ => ?_)))
  refine E.y rfl rfl (by decide) ((Y.as rfl).yd) ?_
  refine E.nil (E.thn (E.seq (E.region (l := [0, 1, 2, 3, 4]) rfl (E.y rfl rfl (by decide) (Y.ld1 ty_Is rfl (hb_s.has) rfl) ?_))))
  refine E.y rfl rfl (by decide) (Y.ldS (cs := [_, _]) ty_Query rfl (hb_q.has) rfl) ?_
  refine E.y rfl rfl (by decide) (Y.ldS (cs := [_, _]) ty_Query rfl (Has.pt m0) rfl) ?_
  refine E.st rfl rfl (N.call0 (t_impl_IsContained (by first | omega | assumption | (constructor <;> omega)) (by first | omega | assumption | (constructor <;> omega))) rfl rfl rfl (by decide) (fun w Lp hA => ⟨hA.ro hs, hA.ro hq_Head, hA.ro hq_Atoms, hA.ro hx_Head, hA.ro hx_Atoms⟩)) (fun _ _ => ?_)
  refine E.y rfl rfl (by decide) ((Y.as rfl).yd) ?_
  exact E.nil (E.thn (E.ret (F.r1 (Back.refl _ _) rfl rfl () trivial rfl (J := _) (.refl _) (.inl rfl))))
theorem t_impl_ContainedIn {a_s : Option Addr} {m_s c_s : Nat} {s : List Int} {a_q_Head : Option Addr} {m_q_Head c_q_Head : Nat} {q_Head : List Int} {a_q_Atoms : Option Addr} {m_q_Atoms c_q_Atoms : Nat} {q_Atoms : List (Int × List Int)} {a_u : Option Addr} {m_u c_u : Nat} {u : List (List Int × List (Int × List Int))} (hzq : totL (fun x => x.2.length) q_Atoms ≤ 1048576) (hyu : ∀ q ∈ u, totL (fun x => x.2.length) q.2 ≤ 1048576) : Tr Tryz.prog 36 [.slice a_s m_s c_s, .agg #[.slice a_q_Head m_q_Head c_q_Head, .slice a_q_Atoms m_q_Atoms c_q_Atoms], .slice a_u m_u c_u] (fun w L => Ro w L eIs [.slice a_s m_s c_s] s ∧ Ro w L eIs [.slice a_q_Head m_q_Head c_q_Head] q_Head ∧ Ro w L eAtoms [.slice a_q_Atoms m_q_Atoms c_q_Atoms] q_Atoms ∧ Ro w L eQuerys [.slice a_u m_u c_u] u) [] (κ := Unit) (fun k => True) (fun k => .bool (conIn s u (q_Head, q_Atoms))) (fun k => []) := by
  refine Tr.intro Tryz.func36 rfl (n := 10) rfl (by decide +kernel) (Nat.le_of_ble_eq_true rfl) (fr := [(0, .slice a_s m_s c_s), (1, .agg #[.slice a_q_Head m_q_Head c_q_Head, .slice a_q_Atoms m_q_Atoms c_q_Atoms]), (2, .slice a_u m_u c_u)]) rfl fun w L hR => ?_
  obtain ⟨hs, hq_Head, hq_Atoms, hu⟩ := hR
  obtain ⟨rfl, ls⟩ := hs.slen
  obtain ⟨rfl, lq_Head⟩ := hq_Head.slen
  obtain ⟨rfl, lq_Atoms⟩ := hq_Atoms.slen
  obtain ⟨rfl, lu⟩ := hu.slen
  refine E.seq (E.region (l := [0, 1, 2]) rfl (E.st rfl rfl (N.box (cs := [_]) rfl (by decide) rfl) (fun b3 _ => ?_)))
  refine E.st rfl rfl (N.box (cs := [_, _]) rfl (by decide) rfl) (fun b4 _ => ?_)
  refine E.y rfl rfl (by decide) ((Y.as rfl).yd) ?_
  refine E.nil (E.thn (E.seq (E.region (l := [0, 1, 2, 3]) rfl (E.y rfl rfl (by decide) ((Y.mv rfl).yd) ?_))))
  refine E.y rfl rfl (by decide) ((Y.fn (vs := [_, _]) rfl).yd) ?_
  refine E.st rfl rfl (N.call0 (t_ContainsFunc_Query (f := (fun z => conR s (q_Head, q_Atoms) z)) (D_f := (fun z => (totL (fun x => x.2.length) z.2 ≤ 1048576) ∧ (totL (fun x => x.2.length) q_Atoms ≤ 1048576))) (by grind)) rfl rfl rfl (by decide) (fun w Lp hA => ⟨hA.ro hu, FnP.ofQuery (D := (fun z => (totL (fun x => x.2.length) z.2 ≤ 1048576) ∧ (totL (fun x => x.2.length) q_Atoms ≤ 1048576))) (fun hd => t_impl_ContainedIn_1 hd.1 hd.2) (fun w' hk => ⟨(hA.pt (mS m0)).keep hk, (hA.ro hs).keep hk, (hA.pt m0).keep hk, (hA.ro hq_Head).keep hk, (hA.ro hq_Atoms).keep hk⟩)⟩)) (fun _ _ => ?_)
  refine E.y rfl rfl (by decide) ((Y.as rfl).yd) ?_
  exact E.nil (E.thn (E.ret (F.r1 (Back.refl _ _) rfl rfl () trivial (congrArg Value.bool (by grind [conIn, List.drop_eq_getElem_cons, List.drop_eq_nil_of_le, List.take_succ_eq_append_getElem, List.take_of_length_le])) (J := _) (.refl _) (.inl rfl))))
theorem t_spec_ContainedIn {a_s : Option Addr} {m_s c_s : Nat} {s : List Int} {a_q_Head : Option Addr} {m_q_Head c_q_Head : Nat} {q_Head : List Int} {a_q_Atoms : Option Addr} {m_q_Atoms c_q_Atoms : Nat} {q_Atoms : List (Int × List Int)} {a_u : Option Addr} {m_u c_u : Nat} {u : List (List Int × List (Int × List Int))} (hzq : totL (fun x => x.2.length) q_Atoms ≤ 1048576) (hyu : ∀ q ∈ u, totL (fun x => x.2.length) q.2 ≤ 1048576) : Tr Tryz.prog 34 [.slice a_s m_s c_s, .agg #[.slice a_q_Head m_q_Head c_q_Head, .slice a_q_Atoms m_q_Atoms c_q_Atoms], .slice a_u m_u c_u] (fun w L => Ro w L eIs [.slice a_s m_s c_s] s ∧ Ro w L eIs [.slice a_q_Head m_q_Head c_q_Head] q_Head ∧ Ro w L eAtoms [.slice a_q_Atoms m_q_Atoms c_q_Atoms] q_Atoms ∧ Ro w L eQuerys [.slice a_u m_u c_u] u) [] (κ := Unit) (fun k => True) (fun k => .bool (conIn s u (q_Head, q_Atoms))) (fun k => []) := by
  refine Tr.intro Tryz.func34 rfl (n := 21) rfl (by decide +kernel) (Nat.le_of_ble_eq_true rfl) (fr := [(0, .slice a_s m_s c_s), (1, .agg #[.slice a_q_Head m_q_Head c_q_Head, .slice a_q_Atoms m_q_Atoms c_q_Atoms]), (2, .slice a_u m_u c_u)]) rfl fun w L hR => ?_
  obtain ⟨hs, hq_Head, hq_Atoms, hu⟩ := hR
  obtain ⟨rfl, ls⟩ := hs.slen
  obtain ⟨rfl, lq_Head⟩ := hq_Head.slen
  obtain ⟨rfl, lq_Atoms⟩ := hq_Atoms.slen
  obtain ⟨rfl, lu⟩ := hu.slen
  refine E.seq (E.region (l := [0, 1]) rfl (E.st rfl rfl (N.box (cs := [_, _]) rfl (by decide) rfl) (fun b4 _ => ?_)))
  refine E.y rfl rfl (by decide) ((Y.as rfl).yd) ?_
  refine E.nil (E.thn (E.seq (E.seq (E.region (l := [0]) rfl (E.y rfl rfl (by decide) ((Y.as rfl).yd) ?_)))))
  refine E.nil (E.thn (E.block (E.loop (κ := Nat) (fun g => g ≤ u.length ∧ u.any (conR s (q_Head, q_Atoms)) = (u.drop g).any (conR s (q_Head, q_Atoms))) (fun g => [(0, .slice a_s s.length c_s), (2, .slice a_u u.length c_u), (4, .pointer (some ⟨b4, 0, none⟩)), (7, .int .i64 (↑g : Int))]) (fun g => [pt b4 31 [.slice a_q_Head q_Head.length c_q_Head, .slice a_q_Atoms q_Atoms.length c_q_Atoms]]) (fun g => u.length - g) 0 ⟨Nat.zero_le _, by simp⟩ ⟨rfl, rfl, rfl, rfl, trivial⟩ (.refl _) (fun g pg => ?_))))
  obtain ⟨pk, pa⟩ := pg
  refine E.seq (E.seq (E.region (l := [0, 1, 2, 3]) rfl (E.y rfl rfl (by decide) ((Y.mv rfl).yd) ?_)))
  refine E.y rfl rfl (by decide) ((Y.mv rfl).yd) ?_
  refine E.y rfl rfl (by decide) ((Y.len us_Querys rfl).yd) ?_
  refine E.y rfl rfl (by decide) ((Y.lss rfl rfl).yd) (Ent.d (fun q11 => ?_) (fun q11 => ?_))
  · refine E.nil (E.thn (E.ct rfl (E.skipc (E.thn (E.seq (E.block (E.seq (D.region (fun j => true) mixed (D.yp 0 rfl rfl (by decide) (Y.mv rfl) (by kernel_rfl) ?_)))))))))
    refine D.y 1 rfl rfl (by decide) (Y.ldS (cs := [_, _]) ty_Query rfl (Has.pt m0) rfl) (by kernel_rfl) ?_
    refine D.yp 2 rfl rfl (by decide) (Y.mv rfl) (by kernel_rfl) ?_
    refine D.yp 3 rfl rfl (by decide) (Y.mv rfl) (by kernel_rfl) ?_
    obtain ⟨eb18, eo18, ec18, ea18, er18, el18, eh18⟩ := hu.elem g (by omega)
    obtain ⟨xa18_0, xc18_0, xa18_1, xc18_1, rfl, xh18_0, xh18_1⟩ := Ro.pQuery er18
    have := xh18_0.slen.2
    have := xh18_1.slen.2
    refine D.yp 4 rfl rfl (by decide) (Y.ix us_Querys ty_Query rfl ea18 rfl g rfl (by omega)) (by kernel_rfl) ?_
    refine D.y 5 rfl rfl (by decide) (Y.ldS (cs := [_, _]) ty_Query rfl (eh18 _) rfl) (by kernel_rfl) ?_
    refine D.st 6 rfl rfl (by kernel_rfl) (fun _ => rfl) (N.call0 (t_spec_IsContained (by first | omega | assumption) (hyu _ (List.getElem_mem (by omega)))) rfl rfl rfl (by decide) (fun w Lp hA => ⟨hA.ro hs, hA.ro hq_Head, hA.ro hq_Atoms, hA.ro xh18_0, hA.ro xh18_1⟩)) (fun _ _ => (Ent.b (fun q20 => ?_) (fun q20 => ?_)))
    · refine D.done (by kernel_rfl) (E.thn (E.ct rfl (E.seq (E.region (l := [0]) rfl (E.y rfl rfl (by decide) ((Y.as rfl).yd) ?_)))))
      exact E.nil (E.thn (E.ret (E.blr (E.thr (E.thr (E.blr (E.thr (F.r1 (Back.refl _ _) rfl rfl () trivial (congrArg Value.bool (by grind [conIn, List.drop_eq_getElem_cons, List.drop_eq_nil_of_le, List.take_succ_eq_append_getElem, List.take_of_length_le])) (J := _) (.refl _) (.inl rfl)))))))))
    · refine D.done (by kernel_rfl) (E.thn (E.cf rfl (E.skipc (E.bln (E.thn (E.region (l := [0, 1, 2]) rfl (E.y rfl rfl (by decide) ((Y.mv rfl).yd) ?_)))))))
      refine E.y rfl rfl (by decide) ((Y.add rfl rfl (by omega) (by omega)).yd) ?_
      refine E.y rfl rfl (by decide) ((Y.as rfl).yd) ?_
      exact E.nil (E.thn (E.again (Back.refl _ _) (g + 1) ⟨rfl, rfl, rfl, rfl, trivial⟩ (.refl _) ⟨by omega, by grind [List.drop_eq_getElem_cons, List.drop_eq_nil_of_le, List.take_succ_eq_append_getElem, List.take_of_length_le]⟩ (by omega)))
  · refine E.nil (E.thn (E.cf rfl (E.exit (E.the (E.the (E.blh (E.thn (E.seq (E.region (l := [0]) rfl (E.y rfl rfl (by decide) ((Y.as rfl).yd) ?_))))))))))
    exact E.nil (E.thn (E.ret (F.r1 (Back.refl _ _) rfl rfl () trivial (congrArg Value.bool (by grind [conIn, List.drop_eq_getElem_cons, List.drop_eq_nil_of_le, List.take_succ_eq_append_getElem, List.take_of_length_le])) (J := _) (.refl _) (.inl rfl))))
theorem t_impl_areWithin_1 {a_q_Head : Option Addr} {m_q_Head c_q_Head : Nat} {q_Head : List Int} {a_q_Atoms : Option Addr} {m_q_Atoms c_q_Atoms : Nat} {q_Atoms : List (Int × List Int)} {b_s : Nat} {a_s : Option Addr} {m_s c_s : Nat} {s : List Int} {b_b : Nat} {a_b : Option Addr} {m_b c_b : Nat} {b : List (List Int × List (Int × List Int))} (hzq : totL (fun x => x.2.length) q_Atoms ≤ 1048576) (hyb : ∀ q ∈ b, totL (fun x => x.2.length) q.2 ≤ 1048576) : Tr Tryz.prog 137 [.agg #[.slice a_q_Head m_q_Head c_q_Head, .slice a_q_Atoms m_q_Atoms c_q_Atoms], .pointer (some ⟨b_s, 0, none⟩), .pointer (some ⟨b_b, 0, none⟩)] (fun w L => (Ro w L eIs [.slice a_q_Head m_q_Head c_q_Head] q_Head ∧ Ro w L eAtoms [.slice a_q_Atoms m_q_Atoms c_q_Atoms] q_Atoms) ∧ RoPt w L b_s [.slice a_s m_s c_s] ∧ Ro w L eIs [.slice a_s m_s c_s] s ∧ RoPt w L b_b [.slice a_b m_b c_b] ∧ Ro w L eQuerys [.slice a_b m_b c_b] b) [] (κ := Unit) (fun k => True) (fun k => .bool (notIn s b (q_Head, q_Atoms))) (fun k => []) := by
  refine Tr.intro Tryz.func137 rfl (n := 10) rfl (by decide +kernel) (Nat.le_of_ble_eq_true rfl) (fr := [(0, .agg #[.slice a_q_Head m_q_Head c_q_Head, .slice a_q_Atoms m_q_Atoms c_q_Atoms]), (1, .pointer (some ⟨b_s, 0, none⟩)), (2, .pointer (some ⟨b_b, 0, none⟩))]) rfl fun w L hR => ?_
  obtain ⟨⟨hq_Head, hq_Atoms⟩, hb_s, hs, hb_b, hb⟩ := hR
  obtain ⟨rfl, lq_Head⟩ := hq_Head.slen
  obtain ⟨rfl, lq_Atoms⟩ := hq_Atoms.slen
  obtain ⟨rfl, ls⟩ := hs.slen
  obtain ⟨rfl, lb⟩ := hb.slen
  refine E.seq (E.region (l := [0, 1]) rfl (E.st rfl rfl (N.box (cs := [_, _]) rfl (by decide) rfl) (fun b3 _ => ?_)))
  refine E.y rfl rfl (by decide) ((Y.as rfl).yd) ?_
  refine E.nil (E.thn (E.seq (E.region (l := [0, 1, 2, 3, 4, 5]) rfl (E.y rfl rfl (by decide) (Y.ld1 ty_Is rfl (hb_s.has) rfl) ?_))))
  refine E.y rfl rfl (by decide) (Y.ldS (cs := [_, _]) ty_Query rfl (Has.pt m0) rfl) ?_
  refine E.y rfl rfl (by decide) (Y.ld1 ty_Querys rfl (hb_b.has) rfl) ?_
  refine E.st rfl rfl (N.call0 (t_impl_ContainedIn (by first | omega | assumption) hyb) rfl rfl rfl (by decide) (fun w Lp hA => ⟨hA.ro hs, hA.ro hq_Head, hA.ro hq_Atoms, hA.ro hb⟩)) (fun _ _ => ?_)
  refine E.y rfl rfl (by decide) ((Y.not rfl).yd) ?_
  refine E.y rfl rfl (by decide) ((Y.as rfl).yd) ?_
  exact E.nil (E.thn (E.ret (F.r1 (Back.refl _ _) rfl rfl () trivial (congrArg Value.bool (by grind [notIn, List.drop_eq_getElem_cons, List.drop_eq_nil_of_le, List.take_succ_eq_append_getElem, List.take_of_length_le])) (J := _) (.refl _) (.inl rfl))))
theorem t_impl_areWithin {a_s : Option Addr} {m_s c_s : Nat} {s : List Int} {a_a : Option Addr} {m_a c_a : Nat} {a : List (List Int × List (Int × List Int))} {a_b : Option Addr} {m_b c_b : Nat} {b : List (List Int × List (Int × List Int))} (hya : ∀ q ∈ a, totL (fun x => x.2.length) q.2 ≤ 1048576) (hyb : ∀ q ∈ b, totL (fun x => x.2.length) q.2 ≤ 1048576) : Tr Tryz.prog 81 [.slice a_s m_s c_s, .slice a_a m_a c_a, .slice a_b m_b c_b] (fun w L => Ro w L eIs [.slice a_s m_s c_s] s ∧ Ro w L eQuerys [.slice a_a m_a c_a] a ∧ Ro w L eQuerys [.slice a_b m_b c_b] b) [] (κ := Unit) (fun k => True) (fun k => .bool (areW s a b)) (fun k => []) := by
  refine Tr.intro Tryz.func81 rfl (n := 11) rfl (by decide +kernel) (Nat.le_of_ble_eq_true rfl) (fr := [(0, .slice a_s m_s c_s), (1, .slice a_a m_a c_a), (2, .slice a_b m_b c_b)]) rfl fun w L hR => ?_
  obtain ⟨hs, ha, hb⟩ := hR
  obtain ⟨rfl, ls⟩ := hs.slen
  obtain ⟨rfl, la⟩ := ha.slen
  obtain ⟨rfl, lb⟩ := hb.slen
  refine E.seq (E.region (l := [0, 1, 2]) rfl (E.st rfl rfl (N.box (cs := [_]) rfl (by decide) rfl) (fun b3 _ => ?_)))
  refine E.st rfl rfl (N.box (cs := [_]) rfl (by decide) rfl) (fun b5 _ => ?_)
  refine E.y rfl rfl (by decide) ((Y.as rfl).yd) ?_
  refine E.nil (E.thn (E.seq (E.region (l := [0, 1, 2, 3, 4]) rfl (E.y rfl rfl (by decide) ((Y.mv rfl).yd) ?_))))
  refine E.y rfl rfl (by decide) ((Y.fn (vs := [_, _]) rfl).yd) ?_
  refine E.st rfl rfl (N.call0 (t_ContainsFunc_Query (f := (fun z => notIn s b z)) (D_f := (fun z => (totL (fun x => x.2.length) z.2 ≤ 1048576) ∧ (∀ q ∈ b, totL (fun x => x.2.length) q.2 ≤ 1048576))) (by grind)) rfl rfl rfl (by decide) (fun w Lp hA => ⟨hA.ro ha, FnP.ofQuery (D := (fun z => (totL (fun x => x.2.length) z.2 ≤ 1048576) ∧ (∀ q ∈ b, totL (fun x => x.2.length) q.2 ≤ 1048576))) (fun hd => t_impl_areWithin_1 hd.1 hd.2) (fun w' hk => ⟨(hA.pt (mS m0)).keep hk, (hA.ro hs).keep hk, (hA.pt m0).keep hk, (hA.ro hb).keep hk⟩)⟩)) (fun _ _ => ?_)
  refine E.y rfl rfl (by decide) ((Y.not rfl).yd) ?_
  refine E.y rfl rfl (by decide) ((Y.as rfl).yd) ?_
  exact E.nil (E.thn (E.ret (F.r1 (Back.refl _ _) rfl rfl () trivial (congrArg Value.bool (by grind [areW, List.drop_eq_getElem_cons, List.drop_eq_nil_of_le, List.take_succ_eq_append_getElem, List.take_of_length_le])) (J := _) (.refl _) (.inl rfl))))
theorem t_impl_SameUnions {a_s : Option Addr} {m_s c_s : Nat} {s : List Int} {a_a : Option Addr} {m_a c_a : Nat} {a : List (List Int × List (Int × List Int))} {a_b : Option Addr} {m_b c_b : Nat} {b : List (List Int × List (Int × List Int))} (hya : ∀ q ∈ a, totL (fun x => x.2.length) q.2 ≤ 1048576) (hyb : ∀ q ∈ b, totL (fun x => x.2.length) q.2 ≤ 1048576) : Tr Tryz.prog 39 [.slice a_s m_s c_s, .slice a_a m_a c_a, .slice a_b m_b c_b] (fun w L => Ro w L eIs [.slice a_s m_s c_s] s ∧ Ro w L eQuerys [.slice a_a m_a c_a] a ∧ Ro w L eQuerys [.slice a_b m_b c_b] b) [] (κ := Unit) (fun k => True) (fun k => .bool (sameU s a b)) (fun k => []) := by
  refine Tr.intro Tryz.func39 rfl (n := 27) rfl (by decide +kernel) (Nat.le_of_ble_eq_true rfl) (fr := [(0, .slice a_s m_s c_s), (1, .slice a_a m_a c_a), (2, .slice a_b m_b c_b)]) rfl fun w L hR => ?_
  obtain ⟨hs, ha, hb⟩ := hR
  obtain ⟨rfl, ls⟩ := hs.slen
  obtain ⟨rfl, la⟩ := ha.slen
  obtain ⟨rfl, lb⟩ := hb.slen
  refine E.seq (E.region (l := [0]) rfl (E.y rfl rfl (by decide) ((Y.as rfl).yd) ?_))
  refine E.nil (E.thn (E.seq (E.region (l := [0, 1, 2, 3, 4, 5, 6, 7, 8, 9, 10, 11, 12, 13, 14, 15, 16, 17, 18, 19, 20]) rfl (E.y rfl rfl (by decide) ((Y.mv rfl).yd) ?_))))
  refine E.y rfl rfl (by decide) ((Y.mv rfl).yd) ?_
  refine E.st rfl rfl (N.call0 (t_impl_IsUnion (by first | omega | assumption | (constructor <;> omega))) rfl rfl rfl (by decide) (fun w Lp hA => ⟨hA.ro hs, hA.ro ha⟩)) (fun _ _ => (Ent.b (fun q9 => ?_) (fun q9 => ?_)))
  · refine E.y rfl rfl (by decide) ((Y.mv rfl).yd) ?_
    refine E.y rfl rfl (by decide) ((Y.mv rfl).yd) ?_
    refine E.y rfl rfl (by decide) ((Y.mv rfl).yd) ?_
    refine E.st rfl rfl (N.call0 (t_impl_IsUnion (by first | omega | assumption | (constructor <;> omega))) rfl rfl rfl (by decide) (fun w Lp hA => ⟨hA.ro hs, hA.ro hb⟩)) (fun _ _ => (Ent.b (fun q13 => ?_) (fun q13 => ?_)))
    · refine E.y rfl rfl (by decide) ((Y.pkt rfl rfl).yd) ?_
      refine E.y rfl rfl (by decide) ((Y.mv rfl).yd) ?_
      refine E.y rfl rfl (by decide) ((Y.mv rfl).yd) ?_
      refine E.y rfl rfl (by decide) ((Y.mv rfl).yd) ?_
      refine E.y rfl rfl (by decide) ((Y.mv rfl).yd) ?_
      refine E.st rfl rfl (N.call0 (t_impl_areWithin (by first | omega | assumption | (constructor <;> omega)) (by first | omega | assumption | (constructor <;> omega))) rfl rfl rfl (by decide) (fun w Lp hA => ⟨hA.ro hs, hA.ro ha, hA.ro hb⟩)) (fun _ _ => (Ent.b (fun q19 => ?_) (fun q19 => ?_)))
      · refine E.y rfl rfl (by decide) ((Y.pkt rfl rfl).yd) ?_
        refine E.y rfl rfl (by decide) ((Y.mv rfl).yd) ?_
        refine E.y rfl rfl (by decide) ((Y.mv rfl).yd) ?_
        refine E.y rfl rfl (by decide) ((Y.mv rfl).yd) ?_
        refine E.y rfl rfl (by decide) ((Y.mv rfl).yd) ?_
        refine E.st rfl rfl (N.call0 (t_impl_areWithin (by first | omega | assumption | (constructor <;> omega)) (by first | omega | assumption | (constructor <;> omega))) rfl rfl rfl (by decide) (fun w Lp hA => ⟨hA.ro hs, hA.ro hb, hA.ro ha⟩)) (fun _ _ => ?_)
        refine E.y rfl rfl (by decide) ((Y.pkt rfl rfl).yd) ?_
        refine E.y rfl rfl (by decide) ((Y.as rfl).yd) ?_
        exact E.nil (E.thn (E.ret (F.r1 (Back.refl _ _) rfl rfl () trivial (congrArg Value.bool (by grind [sameU, List.drop_eq_getElem_cons, List.drop_eq_nil_of_le, List.take_succ_eq_append_getElem, List.take_of_length_le])) (J := _) (.refl _) (.inl rfl))))
      · refine E.y rfl rfl (by decide) ((Y.pkt rfl rfl).yd) ?_
        refine E.y rfl rfl (by decide) ((Y.mv rfl).yd) ?_
        refine E.skip rfl rfl rfl ?_
        refine E.skip rfl rfl rfl ?_
        refine E.skip rfl rfl rfl ?_
        refine E.skip rfl rfl rfl ?_
        refine E.y rfl rfl (by decide) ((Y.pkf rfl rfl).yd) ?_
        refine E.y rfl rfl (by decide) ((Y.as rfl).yd) ?_
        exact E.nil (E.thn (E.ret (F.r1 (Back.refl _ _) rfl rfl () trivial (congrArg Value.bool (by grind [sameU, List.drop_eq_getElem_cons, List.drop_eq_nil_of_le, List.take_succ_eq_append_getElem, List.take_of_length_le])) (J := _) (.refl _) (.inl rfl))))
    · refine E.y rfl rfl (by decide) ((Y.pkt rfl rfl).yd) ?_
      refine E.y rfl rfl (by decide) ((Y.mv rfl).yd) ?_
      refine E.skip rfl rfl rfl ?_
      refine E.skip rfl rfl rfl ?_
      refine E.skip rfl rfl rfl ?_
      refine E.skip rfl rfl rfl ?_
      refine E.y rfl rfl (by decide) ((Y.pkf rfl rfl).yd) ?_
      refine E.y rfl rfl (by decide) ((Y.mv rfl).yd) ?_
      refine E.skip rfl rfl rfl ?_
      refine E.skip rfl rfl rfl ?_
      refine E.skip rfl rfl rfl ?_
      refine E.skip rfl rfl rfl ?_
      refine E.y rfl rfl (by decide) ((Y.pkf rfl rfl).yd) ?_
      refine E.y rfl rfl (by decide) ((Y.as rfl).yd) ?_
      exact E.nil (E.thn (E.ret (F.r1 (Back.refl _ _) rfl rfl () trivial (congrArg Value.bool (by grind [sameU, List.drop_eq_getElem_cons, List.drop_eq_nil_of_le, List.take_succ_eq_append_getElem, List.take_of_length_le])) (J := _) (.refl _) (.inl rfl))))
  · refine E.y rfl rfl (by decide) ((Y.mv rfl).yd) ?_
    refine E.skip rfl rfl rfl ?_
    refine E.skip rfl rfl rfl ?_
    refine E.skip rfl rfl rfl ?_
    refine E.y rfl rfl (by decide) ((Y.pkf rfl rfl).yd) ?_
    refine E.y rfl rfl (by decide) ((Y.mv rfl).yd) ?_
    refine E.skip rfl rfl rfl ?_
    refine E.skip rfl rfl rfl ?_
    refine E.skip rfl rfl rfl ?_
    refine E.skip rfl rfl rfl ?_
    refine E.y rfl rfl (by decide) ((Y.pkf rfl rfl).yd) ?_
    refine E.y rfl rfl (by decide) ((Y.mv rfl).yd) ?_
    refine E.skip rfl rfl rfl ?_
    refine E.skip rfl rfl rfl ?_
    refine E.skip rfl rfl rfl ?_
    refine E.skip rfl rfl rfl ?_
    refine E.y rfl rfl (by decide) ((Y.pkf rfl rfl).yd) ?_
    refine E.y rfl rfl (by decide) ((Y.as rfl).yd) ?_
    exact E.nil (E.thn (E.ret (F.r1 (Back.refl _ _) rfl rfl () trivial (congrArg Value.bool (by grind [sameU, List.drop_eq_getElem_cons, List.drop_eq_nil_of_le, List.take_succ_eq_append_getElem, List.take_of_length_le])) (J := _) (.refl _) (.inl rfl))))
theorem t_spec_SameUnions {a_s : Option Addr} {m_s c_s : Nat} {s : List Int} {a_a : Option Addr} {m_a c_a : Nat} {a : List (List Int × List (Int × List Int))} {a_b : Option Addr} {m_b c_b : Nat} {b : List (List Int × List (Int × List Int))} (hya : ∀ q ∈ a, totL (fun x => x.2.length) q.2 ≤ 1048576) (hyb : ∀ q ∈ b, totL (fun x => x.2.length) q.2 ≤ 1048576) : Tr Tryz.prog 38 [.slice a_s m_s c_s, .slice a_a m_a c_a, .slice a_b m_b c_b] (fun w L => Ro w L eIs [.slice a_s m_s c_s] s ∧ Ro w L eQuerys [.slice a_a m_a c_a] a ∧ Ro w L eQuerys [.slice a_b m_b c_b] b) [] (κ := Unit) (fun k => True) (fun k => .bool (sameU s a b)) (fun k => []) := by
  refine Tr.intro Tryz.func38 rfl (n := 45) rfl (by decide +kernel) (Nat.le_of_ble_eq_true rfl) (fr := [(0, .slice a_s m_s c_s), (1, .slice a_a m_a c_a), (2, .slice a_b m_b c_b)]) rfl fun w L hR => ?_
  obtain ⟨hs, ha, hb⟩ := hR
  obtain ⟨rfl, ls⟩ := hs.slen
  obtain ⟨rfl, la⟩ := ha.slen
  obtain ⟨rfl, lb⟩ := hb.slen
  refine E.seq (E.region (l := [0]) rfl (E.y rfl rfl (by decide) ((Y.as rfl).yd) ?_))
  refine E.nil (E.thn (E.seq (E.seq (E.region (l := [0]) rfl (E.y rfl rfl (by decide) ((Y.as rfl).yd) ?_)))))
  refine E.nil (E.thn (E.block (E.loop (κ := Nat) (fun g => g ≤ a.length ∧ a.any (notIn s b) = (a.drop g).any (notIn s b)) (fun g => [(0, .slice a_s s.length c_s), (1, .slice a_a a.length c_a), (2, .slice a_b b.length c_b), (7, .int .i64 (↑g : Int))]) (fun g => []) (fun g => a.length - g) 0 ⟨Nat.zero_le _, by simp⟩ ⟨rfl, rfl, rfl, rfl, trivial⟩ (.refl _) (fun g pg => ?_))))
  obtain ⟨pk, pa⟩ := pg
  refine E.seq (E.seq (E.region (l := [0, 1, 2, 3]) rfl (E.y rfl rfl (by decide) ((Y.mv rfl).yd) ?_)))
  refine E.y rfl rfl (by decide) ((Y.mv rfl).yd) ?_
  refine E.y rfl rfl (by decide) ((Y.len us_Querys rfl).yd) ?_
  refine E.y rfl rfl (by decide) ((Y.lss rfl rfl).yd) (Ent.d (fun q12 => ?_) (fun q12 => ?_))
  · refine E.nil (E.thn (E.ct rfl (E.skipc (E.thn (E.seq (E.block (E.seq (E.region (l := [0, 1, 2, 3, 4, 5, 6, 7]) rfl (E.y rfl rfl (by decide) ((Y.mv rfl).yd) ?_)))))))))
    refine E.y rfl rfl (by decide) ((Y.mv rfl).yd) ?_
    refine E.y rfl rfl (by decide) ((Y.mv rfl).yd) ?_
    obtain ⟨eb18, eo18, ec18, ea18, er18, el18, eh18⟩ := ha.elem g (by omega)
    obtain ⟨xa18_0, xc18_0, xa18_1, xc18_1, rfl, xh18_0, xh18_1⟩ := Ro.pQuery er18
    have := xh18_0.slen.2
    have := xh18_1.slen.2
    refine E.y rfl rfl (by decide) ((Y.ix us_Querys ty_Query rfl ea18 rfl g rfl (by omega)).yd) ?_
    refine E.y rfl rfl (by decide) (Y.ldS (cs := [_, _]) ty_Query rfl (eh18 _) rfl) ?_
    refine E.y rfl rfl (by decide) ((Y.mv rfl).yd) ?_
    refine E.st rfl rfl (N.call0 (t_spec_ContainedIn (hya _ (List.getElem_mem (by omega))) hyb) rfl rfl rfl (by decide) (fun w Lp hA => ⟨hA.ro hs, hA.ro xh18_0, hA.ro xh18_1, hA.ro hb⟩)) (fun _ _ => (Ent.b (fun q21 => ?_) (fun q21 => ?_)))
    · refine E.y rfl rfl (by decide) ((Y.not (b := true) rfl).yd) ?_
      refine E.nil (E.thn (E.cf rfl (E.skipc (E.bln (E.thn (E.region (l := [0, 1, 2]) rfl (E.y rfl rfl (by decide) ((Y.mv rfl).yd) ?_)))))))
      refine E.y rfl rfl (by decide) ((Y.add rfl rfl (by omega) (by omega)).yd) ?_
      refine E.y rfl rfl (by decide) ((Y.as rfl).yd) ?_
      exact E.nil (E.thn (E.again (Back.refl _ _) (g + 1) ⟨rfl, rfl, rfl, rfl, trivial⟩ (.refl _) ⟨by omega, by grind [notIn, List.drop_eq_getElem_cons, List.drop_eq_nil_of_le, List.take_succ_eq_append_getElem, List.take_of_length_le]⟩ (by omega)))
    · refine E.y rfl rfl (by decide) ((Y.not (b := false) rfl).yd) ?_
      refine E.nil (E.thn (E.ct rfl (E.seq (E.region (l := [0]) rfl (E.y rfl rfl (by decide) ((Y.as rfl).yd) ?_)))))
      exact E.nil (E.thn (E.ret (E.blr (E.thr (E.thr (E.blr (E.thr (F.r1 (Back.refl _ _) rfl rfl () trivial (congrArg Value.bool (by grind [sameU, areW, notIn, List.drop_eq_getElem_cons, List.drop_eq_nil_of_le, List.take_succ_eq_append_getElem, List.take_of_length_le])) (J := _) (.refl _) (.inl rfl)))))))))
  · refine E.nil (E.thn (E.cf rfl (E.exit (E.the (E.the (E.blh (E.thn (E.seq (E.seq (E.region (l := [0]) rfl (E.y rfl rfl (by decide) ((Y.as rfl).yd) ?_)))))))))))
    refine E.nil (E.thn (E.block (E.loop (κ := Nat) (fun r => r ≤ b.length ∧ b.any (notIn s a) = (b.drop r).any (notIn s a)) (fun r => [(0, .slice a_s s.length c_s), (1, .slice a_a a.length c_a), (2, .slice a_b b.length c_b), (8, .int .i64 (↑r : Int))]) (fun r => []) (fun r => b.length - r) 0 ⟨Nat.zero_le _, by simp⟩ ⟨rfl, rfl, rfl, rfl, trivial⟩ (.refl _) (fun r pr => ?_))))
    obtain ⟨pk, pa⟩ := pr
    refine E.seq (E.seq (E.region (l := [0, 1, 2, 3]) rfl (E.y rfl rfl (by decide) ((Y.mv rfl).yd) ?_)))
    refine E.y rfl rfl (by decide) ((Y.mv rfl).yd) ?_
    refine E.y rfl rfl (by decide) ((Y.len us_Querys rfl).yd) ?_
    refine E.y rfl rfl (by decide) ((Y.lss rfl rfl).yd) (Ent.d (fun q26 => ?_) (fun q26 => ?_))
    · refine E.nil (E.thn (E.ct rfl (E.skipc (E.thn (E.seq (E.block (E.seq (E.region (l := [0, 1, 2, 3, 4, 5, 6, 7]) rfl (E.y rfl rfl (by decide) ((Y.mv rfl).yd) ?_)))))))))
      refine E.y rfl rfl (by decide) ((Y.mv rfl).yd) ?_
      refine E.y rfl rfl (by decide) ((Y.mv rfl).yd) ?_
      obtain ⟨eb32, eo32, ec32, ea32, er32, el32, eh32⟩ := hb.elem r (by omega)
      obtain ⟨xa32_0, xc32_0, xa32_1, xc32_1, rfl, xh32_0, xh32_1⟩ := Ro.pQuery er32
      have := xh32_0.slen.2
      have := xh32_1.slen.2
      refine E.y rfl rfl (by decide) ((Y.ix us_Querys ty_Query rfl ea32 rfl r rfl (by omega)).yd) ?_
      refine E.y rfl rfl (by decide) (Y.ldS (cs := [_, _]) ty_Query rfl (eh32 _) rfl) ?_
      refine E.y rfl rfl (by decide) ((Y.mv rfl).yd) ?_
      refine E.st rfl rfl (N.call0 (t_spec_ContainedIn (hyb _ (List.getElem_mem (by omega))) hya) rfl rfl rfl (by decide) (fun w Lp hA => ⟨hA.ro hs, hA.ro xh32_0, hA.ro xh32_1, hA.ro ha⟩)) (fun _ _ => (Ent.b (fun q35 => ?_) (fun q35 => ?_)))
      · refine E.y rfl rfl (by decide) ((Y.not (b := true) rfl).yd) ?_
        refine E.nil (E.thn (E.cf rfl (E.skipc (E.bln (E.thn (E.region (l := [0, 1, 2]) rfl (E.y rfl rfl (by decide) ((Y.mv rfl).yd) ?_)))))))
        refine E.y rfl rfl (by decide) ((Y.add rfl rfl (by omega) (by omega)).yd) ?_
        refine E.y rfl rfl (by decide) ((Y.as rfl).yd) ?_
        exact E.nil (E.thn (E.again (Back.refl _ _) (r + 1) ⟨rfl, rfl, rfl, rfl, trivial⟩ (.refl _) ⟨by omega, by grind [notIn, List.drop_eq_getElem_cons, List.drop_eq_nil_of_le, List.take_succ_eq_append_getElem, List.take_of_length_le]⟩ (by omega)))
      · refine E.y rfl rfl (by decide) ((Y.not (b := false) rfl).yd) ?_
        refine E.nil (E.thn (E.ct rfl (E.seq (E.region (l := [0]) rfl (E.y rfl rfl (by decide) ((Y.as rfl).yd) ?_)))))
        exact E.nil (E.thn (E.ret (E.blr (E.thr (E.thr (E.blr (E.thr (F.r1 (Back.refl _ _) rfl rfl () trivial (congrArg Value.bool (by grind [sameU, areW, notIn, List.drop_eq_getElem_cons, List.drop_eq_nil_of_le, List.take_succ_eq_append_getElem, List.take_of_length_le])) (J := _) (.refl _) (.inl rfl)))))))))
    · refine E.nil (E.thn (E.cf rfl (E.exit (E.the (E.the (E.blh (E.thn (E.seq (E.region (l := [0, 1, 2, 3, 4, 5, 6, 7, 8]) rfl (E.y rfl rfl (by decide) ((Y.mv rfl).yd) ?_))))))))))
      refine E.y rfl rfl (by decide) ((Y.mv rfl).yd) ?_
      refine E.st rfl rfl (N.call0 (t_spec_IsUnion (by first | omega | assumption)) rfl rfl rfl (by decide) (fun w Lp hA => ⟨hA.ro hs, hA.ro ha⟩)) (fun _ _ => (Ent.b (fun q39 => ?_) (fun q39 => ?_)))
      · refine E.y rfl rfl (by decide) ((Y.mv rfl).yd) ?_
        refine E.y rfl rfl (by decide) ((Y.mv rfl).yd) ?_
        refine E.y rfl rfl (by decide) ((Y.mv rfl).yd) ?_
        refine E.st rfl rfl (N.call0 (t_spec_IsUnion (by first | omega | assumption)) rfl rfl rfl (by decide) (fun w Lp hA => ⟨hA.ro hs, hA.ro hb⟩)) (fun _ _ => ?_)
        refine E.y rfl rfl (by decide) ((Y.pkt rfl rfl).yd) ?_
        refine E.y rfl rfl (by decide) ((Y.as rfl).yd) ?_
        exact E.nil (E.thn (E.ret (F.r1 (Back.refl _ _) rfl rfl () trivial (congrArg Value.bool (by grind [sameU, areW, notIn, List.drop_eq_getElem_cons, List.drop_eq_nil_of_le, List.take_succ_eq_append_getElem, List.take_of_length_le])) (J := _) (.refl _) (.inl rfl))))
      · refine E.y rfl rfl (by decide) ((Y.mv rfl).yd) ?_
        refine E.skip rfl rfl rfl ?_
        refine E.skip rfl rfl rfl ?_
        refine E.skip rfl rfl rfl ?_
        refine E.y rfl rfl (by decide) ((Y.pkf rfl rfl).yd) ?_
        refine E.y rfl rfl (by decide) ((Y.as rfl).yd) ?_
        exact E.nil (E.thn (E.ret (F.r1 (Back.refl _ _) rfl rfl () trivial (congrArg Value.bool (by grind [sameU, areW, notIn, List.drop_eq_getElem_cons, List.drop_eq_nil_of_le, List.take_succ_eq_append_getElem, List.take_of_length_le])) (J := _) (.refl _) (.inl rfl))))
theorem t_laws_FnExactContainedIn {a_aS : Option Addr} {m_aS c_aS : Nat} {aS : List Int} {a_aQ_Head : Option Addr} {m_aQ_Head c_aQ_Head : Nat} {aQ_Head : List Int} {a_aQ_Atoms : Option Addr} {m_aQ_Atoms c_aQ_Atoms : Nat} {aQ_Atoms : List (Int × List Int)} {a_aU : Option Addr} {m_aU c_aU : Nat} {aU : List (List Int × List (Int × List Int))} : Tr Tryz.prog 6 [.slice a_aS m_aS c_aS, .agg #[.slice a_aQ_Head m_aQ_Head c_aQ_Head, .slice a_aQ_Atoms m_aQ_Atoms c_aQ_Atoms], .slice a_aU m_aU c_aU] (fun w L => Ro w L eIs [.slice a_aS m_aS c_aS] aS ∧ Ro w L eIs [.slice a_aQ_Head m_aQ_Head c_aQ_Head] aQ_Head ∧ Ro w L eAtoms [.slice a_aQ_Atoms m_aQ_Atoms c_aQ_Atoms] aQ_Atoms ∧ Ro w L eQuerys [.slice a_aU m_aU c_aU] aU) [] (κ := Unit) (fun k => True) (fun k => .bool (true)) (fun k => []) := by
  refine Tr.intro Tryz.func6 rfl (n := 61) rfl (by decide +kernel) (Nat.le_of_ble_eq_true rfl) (fr := [(0, .slice a_aS m_aS c_aS), (1, .agg #[.slice a_aQ_Head m_aQ_Head c_aQ_Head, .slice a_aQ_Atoms m_aQ_Atoms c_aQ_Atoms]), (2, .slice a_aU m_aU c_aU)]) rfl fun w L hR => ?_
  obtain ⟨haS, haQ_Head, haQ_Atoms, haU⟩ := hR
  obtain ⟨rfl, laS⟩ := haS.slen
  obtain ⟨rfl, laQ_Head⟩ := haQ_Head.slen
  obtain ⟨rfl, laQ_Atoms⟩ := haQ_Atoms.slen
  obtain ⟨rfl, laU⟩ := haU.slen
  refine E.seq (E.region (l := [0, 1]) rfl (E.st rfl rfl (N.box (cs := [_, _]) rfl (by decide) rfl) (fun b4 _ => ?_)))
  refine E.y rfl rfl (by decide) ((Y.as rfl).yd) ?_
  refine E.nil (E.thn (E.seq (E.seq (E.region (l := [0, 1, 2]) rfl (E.y rfl rfl (by decide) ((Y.mv rfl).yd) ?_)))))
  refine E.y rfl rfl (by decide) ((Y.len us_Is rfl).yd) ?_
  refine E.y rfl rfl (by decide) ((Y.gtr rfl rfl).yd) (Ent.d (fun q15 => ?_) (fun q15 => ?_))
  · refine E.nil (E.thn (E.ct rfl (E.seq (E.region (l := [0]) rfl (E.y rfl rfl (by decide) ((Y.as rfl).yd) ?_)))))
    exact E.nil (E.thn (E.ret (E.thr (F.r1 (Back.refl _ _) rfl rfl () trivial rfl (J := _) (.refl _) (.inl rfl)))))
  · refine E.nil (E.thn (E.cf rfl (E.skipc (E.thn (E.seq (E.region (l := [0]) rfl (E.y rfl rfl (by decide) ((Y.as rfl).yd) ?_)))))))
    refine E.nil (E.thn (E.seq (E.region (l := [0, 1, 2, 3]) rfl (E.y rfl rfl (by decide) (Y.ldS (cs := [_, _]) ty_lQuery rfl (Has.pt m0) rfl) ?_))))
    refine E.y rfl rfl (by decide) ((Y.mv rfl).yd) ?_
    refine E.st rfl rfl (N.call0 t_laws_szQuery rfl rfl rfl (by decide) (fun w Lp hA => ⟨hA.ro haQ_Head, hA.ro haQ_Atoms, (by first | assumption | omega), (by first | assumption | omega)⟩)) (fun _ _ => ?_)
    refine E.y rfl rfl (by decide) ((Y.as rfl).yd) ?_
    refine E.nil (E.thn (E.seq (E.seq (E.region (l := [0, 1]) rfl (E.y rfl rfl (by decide) ((Y.mv rfl).yd) ?_)))))
    refine E.y rfl rfl (by decide) ((Y.lss rfl rfl).yd) (Ent.d (fun q20 => ?_) (fun q20 => ?_))
    · have z20 := szR_bad q20 (by omega)
      refine E.nil (E.thn (E.ct rfl (E.seq (E.region (l := [0]) rfl (E.y rfl rfl (by decide) ((Y.as rfl).yd) ?_)))))
      exact E.nil (E.thn (E.ret (E.thr (F.r1 (Back.refl _ _) rfl rfl () trivial rfl (J := _) (.refl _) (.inl rfl)))))
    · obtain ⟨z20, y20⟩ := szR_ok q20 (by omega)
      refine E.nil (E.thn (E.cf rfl (E.skipc (E.thn (E.seq (E.region (l := [0, 1, 2, 3]) rfl (E.y rfl rfl (by decide) ((Y.mv rfl).yd) ?_)))))))
      refine E.y rfl rfl (by decide) ((Y.mv rfl).yd) ?_
      refine E.st rfl rfl (N.call0 t_laws_szQueryS rfl rfl rfl (by decide) (fun w Lp hA => ⟨hA.ro haU, (by first | assumption | omega), (by first | assumption | omega)⟩)) (fun _ _ => ?_)
      refine E.y rfl rfl (by decide) ((Y.as rfl).yd) ?_
      refine E.nil (E.thn (E.seq (E.seq (E.region (l := [0, 1]) rfl (E.y rfl rfl (by decide) ((Y.mv rfl).yd) ?_)))))
      refine E.y rfl rfl (by decide) ((Y.lss rfl rfl).yd) (Ent.d (fun q25 => ?_) (fun q25 => ?_))
      · have z25 := szR_bad q25 (by omega)
        refine E.nil (E.thn (E.ct rfl (E.seq (E.region (l := [0]) rfl (E.y rfl rfl (by decide) ((Y.as rfl).yd) ?_)))))
        exact E.nil (E.thn (E.ret (E.thr (F.r1 (Back.refl _ _) rfl rfl () trivial rfl (J := _) (.refl _) (.inl rfl)))))
      · obtain ⟨z25, y25⟩ := szR_ok q25 (by omega)
        refine E.nil (E.thn (E.cf rfl (E.skipc (E.thn (E.seq (D.region (fun j => true) mixed (D.yp 0 rfl rfl (by decide) (Y.mv rfl) (by kernel_rfl) ?_)))))))
        refine D.y 2 rfl rfl (by decide) (Y.ldS (cs := [_, _]) ty_lQuery rfl (Has.pt m0) rfl) (by kernel_rfl) ?_
        refine D.yp 4 rfl rfl (by decide) (Y.mv rfl) (by kernel_rfl) ?_
        refine D.st 1 rfl rfl (by kernel_rfl) (fun _ => rfl) (N.call (t_laws_toIntS (by first | omega | assumption)) rfl rfl rfl (by decide) rfl (fun w Lp hA => hA.ro haS)) (fun k27 _ => ?_)
        obtain ⟨a27, m27, c27⟩ := k27
        refine Ent.lenow m0 fun e27 l27 => ?_
        subst e27
        refine D.st 3 rfl rfl (by kernel_rfl) (fun _ => rfl) (N.call (t_laws_toQuery (by first | omega | assumption) (by first | omega | assumption)) rfl rfl rfl (by decide) rfl (fun w Lp hA => ⟨hA.ro haQ_Head, hA.ro haQ_Atoms⟩)) (fun k29 _ => ?_)
        obtain ⟨⟨a29_0, m29_0, c29_0⟩, ⟨a29_1, m29_1, c29_1⟩⟩ := k29
        refine Ent.lenow m0 fun e29_0 l29_0 => ?_
        subst e29_0
        refine Ent.lenow (mS m0) fun e29_1 l29_1 => ?_
        subst e29_1
        refine D.st 5 rfl rfl (by kernel_rfl) (fun _ => rfl) (N.call (t_laws_toQueryS (by first | omega | assumption)) rfl rfl rfl (by decide) rfl (fun w Lp hA => hA.ro haU)) (fun k31 _ => ?_)
        obtain ⟨a31, m31, c31⟩ := k31
        refine Ent.lenow m0 fun e31 l31 => ?_
        subst e31
        refine D.st 6 rfl rfl (by kernel_rfl) (fun _ => rfl) (N.call0 (t_spec_ContainedIn (by first | omega | assumption) (union_len (u := aU) (by omega))) rfl rfl rfl (by decide) (fun w Lp hA => ⟨hA.ow (mS (mS (mS m0))), hA.ow (mS m0), hA.ow (mS (mS m0)), hA.ow m0⟩)) (fun _ _ => ?_)
        refine D.yp 7 rfl rfl (by decide) (Y.as rfl) (by kernel_rfl) ?_
        refine D.done (by kernel_rfl) (E.thn (E.seq (E.region (l := [0, 1, 2]) rfl (E.y rfl rfl (by decide) ((Y.mv rfl).yd) ?_))))
        refine E.st rfl rfl (N.call (t_laws_toIntS (by first | omega | assumption)) rfl rfl rfl (by decide) rfl (fun w Lp hA => hA.ro haS)) (fun k34 _ => ?_)
        obtain ⟨a34, m34, c34⟩ := k34
        refine Ent.lenow m0 fun e34 l34 => ?_
        subst e34
        refine E.y rfl rfl (by decide) ((Y.as rfl).yd) ?_
        refine E.nil (E.thn (E.seq (E.region (l := [0, 1, 2, 3]) rfl (E.y rfl rfl (by decide) (Y.ldS (cs := [_, _]) ty_lQuery rfl (Has.pt (mS (mS (mS (mS (mS m0)))))) rfl) ?_))))
        refine E.st rfl rfl (N.call (t_laws_toQuery (by first | omega | assumption) (by first | omega | assumption)) rfl rfl rfl (by decide) rfl (fun w Lp hA => ⟨hA.ro haQ_Head, hA.ro haQ_Atoms⟩)) (fun k36 _ => ?_)
        obtain ⟨⟨a36_0, m36_0, c36_0⟩, ⟨a36_1, m36_1, c36_1⟩⟩ := k36
        refine Ent.lenow m0 fun e36_0 l36_0 => ?_
        subst e36_0
        refine Ent.lenow (mS m0) fun e36_1 l36_1 => ?_
        subst e36_1
        refine E.st rfl rfl (N.alloc ty_Query (by decide)) (fun b10 _ => ?_)
        refine E.st rfl rfl (N.sto (vs := [_, _]) (cs' := [_, _]) ty_Query rfl rfl rfl rfl rfl (Nat.le_of_ble_eq_true rfl) rfl) (fun _ _ => ?_)
        refine E.nil (E.thn (E.seq (E.region (l := [0, 1, 2]) rfl (E.y rfl rfl (by decide) ((Y.mv rfl).yd) ?_))))
        refine E.st rfl rfl (N.call (t_laws_toQueryS (by first | omega | assumption)) rfl rfl rfl (by decide) rfl (fun w Lp hA => hA.ro haU)) (fun k38 _ => ?_)
        obtain ⟨a38, m38, c38⟩ := k38
        refine Ent.lenow m0 fun e38 l38 => ?_
        subst e38
        refine E.y rfl rfl (by decide) ((Y.as rfl).yd) ?_
        refine E.nil (E.thn (E.seq (E.region (l := [0, 1, 2, 3, 4]) rfl (E.y rfl rfl (by decide) ((Y.mv rfl).yd) ?_))))
        refine E.y rfl rfl (by decide) (Y.ldS (cs := [_, _]) ty_Query rfl (Has.pt (mS m0)) rfl) ?_
        refine E.y rfl rfl (by decide) ((Y.mv rfl).yd) ?_
        refine E.st rfl rfl (N.call0 (t_impl_ContainedIn (by first | omega | assumption) (union_len (u := aU) (by omega))) rfl rfl rfl (by decide) (fun w Lp hA => ⟨hA.ow (mS (mS (mS (mS m0)))), hA.ow (mS (mS m0)), hA.ow (mS (mS (mS m0))), hA.ow m0⟩)) (fun _ _ => ?_)
        refine E.y rfl rfl (by decide) ((Y.as rfl).yd) ?_
        refine E.nil (E.thn (E.seq (E.seq (E.region (l := [0, 1, 2]) rfl (E.y rfl rfl (by decide) ((Y.mv rfl).yd) ?_)))))
        refine E.y rfl rfl (by decide) ((Y.mv rfl).yd) ?_
        refine E.y rfl rfl (by decide) ((Y.neqB (by kernel_rfl) rfl rfl).yd) (Ent.d (fun q45 => ?_) (fun q45 => ?_))
        · exact absurd rfl q45
        · refine E.nil (E.thn (E.cf rfl (E.skipc (E.thn (E.seq (E.seq (E.region (l := [0, 1, 2, 3, 4]) rfl (E.y rfl rfl (by decide) ((Y.mv rfl).yd) ?_))))))))
          refine E.y rfl rfl (by decide) ((Y.mv rfl).yd) ?_
          refine E.st rfl rfl (N.call (t_laws_toIntS (by first | omega | assumption)) rfl rfl rfl (by decide) rfl (fun w Lp hA => hA.ro haS)) (fun k48 _ => ?_)
          obtain ⟨a48, m48, c48⟩ := k48
          refine Ent.lenow m0 fun e48 l48 => ?_
          subst e48
          refine E.st rfl rfl (N.call0 t_laws_eqIntS rfl rfl rfl (by decide) (fun w Lp hA => ⟨hA.ow (mS (mS (mS (mS (mS m0))))), hA.ow m0⟩)) (fun _ _ => (Ent.b (fun q49 => ?_) (fun q49 => ?_)))
          · refine E.y rfl rfl (by decide) ((Y.not (b := true) rfl).yd) ?_
            refine E.nil (E.thn (E.cf rfl (E.skipc (E.thn (E.seq (E.seq (D.region (fun j => true) mixed (D.y 0 rfl rfl (by decide) (Y.ldS (cs := [_, _]) ty_Query rfl (Has.pt (mS (mS m0))) rfl) (by kernel_rfl) ?_))))))))
            refine D.y 1 rfl rfl (by decide) (Y.ldS (cs := [_, _]) ty_lQuery rfl (Has.pt (mS (mS (mS (mS (mS (mS (mS (mS (mS (mS m0))))))))))) rfl) (by kernel_rfl) ?_
            refine D.st 2 rfl rfl (by kernel_rfl) (fun _ => rfl) (N.call (t_laws_toQuery (by first | omega | assumption) (by first | omega | assumption)) rfl rfl rfl (by decide) rfl (fun w Lp hA => ⟨hA.ro haQ_Head, hA.ro haQ_Atoms⟩)) (fun k53 _ => ?_)
            obtain ⟨⟨a53_0, m53_0, c53_0⟩, ⟨a53_1, m53_1, c53_1⟩⟩ := k53
            refine Ent.lenow m0 fun e53_0 l53_0 => ?_
            subst e53_0
            refine Ent.lenow (mS m0) fun e53_1 l53_1 => ?_
            subst e53_1
            refine D.st 3 rfl rfl (by kernel_rfl) (fun _ => rfl) (N.call0 t_laws_eqQuery rfl rfl rfl (by decide) (fun w Lp hA => ⟨hA.ow (mS (mS (mS (mS (mS m0))))), hA.ow (mS (mS (mS (mS (mS (mS m0)))))), hA.ow m0, hA.ow (mS m0)⟩)) (fun _ _ => (Ent.b (fun q54 => ?_) (fun q54 => ?_)))
            · refine D.yp 4 rfl rfl (by decide) (Y.not (b := true) rfl) (by kernel_rfl) ?_
              refine D.done (by kernel_rfl) (E.thn (E.cf rfl (E.skipc (E.thn (E.seq (E.seq (E.region (l := [0, 1, 2, 3, 4]) rfl (E.y rfl rfl (by decide) ((Y.mv rfl).yd) ?_))))))))
              refine E.y rfl rfl (by decide) ((Y.mv rfl).yd) ?_
              refine E.st rfl rfl (N.call (t_laws_toQueryS (by first | omega | assumption)) rfl rfl rfl (by decide) rfl (fun w Lp hA => hA.ro haU)) (fun k58 _ => ?_)
              obtain ⟨a58, m58, c58⟩ := k58
              refine Ent.lenow m0 fun e58 l58 => ?_
              subst e58
              refine E.st rfl rfl (N.call0 t_laws_eqQueryS rfl rfl rfl (by decide) (fun w Lp hA => ⟨hA.ow (mS (mS (mS (mS m0)))), hA.ow m0⟩)) (fun _ _ => (Ent.b (fun q59 => ?_) (fun q59 => ?_)))
              · refine E.y rfl rfl (by decide) ((Y.not (b := true) rfl).yd) ?_
                refine E.nil (E.thn (E.cf rfl (E.skipc (E.thn (E.seq (E.region (l := [0]) rfl (E.y rfl rfl (by decide) ((Y.as rfl).yd) ?_)))))))
                exact E.nil (E.thn (E.ret (F.r1 (Back.refl _ _) rfl rfl () trivial rfl (J := _) (.refl _) (.inl rfl))))
              · refine E.y rfl rfl (by decide) ((Y.not (b := false) rfl).yd) ?_
                refine E.nil (E.thn (E.ct rfl (E.seq (E.region (l := [0]) rfl (E.y rfl rfl (by decide) ((Y.as rfl).yd) ?_)))))
                exact E.nil (E.thn (E.ret (E.thr (F.r1 (Back.refl _ _) rfl rfl () trivial (congrArg Value.bool (by simp_all)) (J := _) (.refl _) (.inl rfl)))))
            · refine D.yp 4 rfl rfl (by decide) (Y.not (b := false) rfl) (by kernel_rfl) ?_
              refine D.done (by kernel_rfl) (E.thn (E.ct rfl (E.seq (E.region (l := [0]) rfl (E.y rfl rfl (by decide) ((Y.as rfl).yd) ?_)))))
              exact E.nil (E.thn (E.ret (E.thr (F.r1 (Back.refl _ _) rfl rfl () trivial (congrArg Value.bool (by simp_all)) (J := _) (.refl _) (.inl rfl)))))
          · refine E.y rfl rfl (by decide) ((Y.not (b := false) rfl).yd) ?_
            refine E.nil (E.thn (E.ct rfl (E.seq (E.region (l := [0]) rfl (E.y rfl rfl (by decide) ((Y.as rfl).yd) ?_)))))
            exact E.nil (E.thn (E.ret (E.thr (F.r1 (Back.refl _ _) rfl rfl () trivial (congrArg Value.bool (by simp_all)) (J := _) (.refl _) (.inl rfl)))))
theorem t_laws_FnExactSameUnions {a_aS : Option Addr} {m_aS c_aS : Nat} {aS : List Int} {a_aA : Option Addr} {m_aA c_aA : Nat} {aA : List (List Int × List (Int × List Int))} {a_aB : Option Addr} {m_aB c_aB : Nat} {aB : List (List Int × List (Int × List Int))} : Tr Tryz.prog 7 [.slice a_aS m_aS c_aS, .slice a_aA m_aA c_aA, .slice a_aB m_aB c_aB] (fun w L => Ro w L eIs [.slice a_aS m_aS c_aS] aS ∧ Ro w L eQuerys [.slice a_aA m_aA c_aA] aA ∧ Ro w L eQuerys [.slice a_aB m_aB c_aB] aB) [] (κ := Unit) (fun k => True) (fun k => .bool (true)) (fun k => []) := by
  refine Tr.intro Tryz.func7 rfl (n := 61) rfl (by decide +kernel) (Nat.le_of_ble_eq_true rfl) (fr := [(0, .slice a_aS m_aS c_aS), (1, .slice a_aA m_aA c_aA), (2, .slice a_aB m_aB c_aB)]) rfl fun w L hR => ?_
  obtain ⟨haS, haA, haB⟩ := hR
  obtain ⟨rfl, laS⟩ := haS.slen
  obtain ⟨rfl, laA⟩ := haA.slen
  obtain ⟨rfl, laB⟩ := haB.slen
  refine E.seq (E.region (l := [0]) rfl (E.y rfl rfl (by decide) ((Y.as rfl).yd) ?_))
  refine E.nil (E.thn (E.seq (E.seq (E.region (l := [0, 1, 2]) rfl (E.y rfl rfl (by decide) ((Y.mv rfl).yd) ?_)))))
  refine E.y rfl rfl (by decide) ((Y.len us_Is rfl).yd) ?_
  refine E.y rfl rfl (by decide) ((Y.gtr rfl rfl).yd) (Ent.d (fun q15 => ?_) (fun q15 => ?_))
  · refine E.nil (E.thn (E.ct rfl (E.seq (E.region (l := [0]) rfl (E.y rfl rfl (by decide) ((Y.as rfl).yd) ?_)))))
    exact E.nil (E.thn (E.ret (E.thr (F.r1 (Back.refl _ _) rfl rfl () trivial rfl (J := _) (.refl _) (.inl rfl)))))
  · refine E.nil (E.thn (E.cf rfl (E.skipc (E.thn (E.seq (E.region (l := [0]) rfl (E.y rfl rfl (by decide) ((Y.as rfl).yd) ?_)))))))
    refine E.nil (E.thn (E.seq (E.region (l := [0, 1, 2, 3]) rfl (E.y rfl rfl (by decide) ((Y.mv rfl).yd) ?_))))
    refine E.y rfl rfl (by decide) ((Y.mv rfl).yd) ?_
    refine E.st rfl rfl (N.call0 t_laws_szQueryS rfl rfl rfl (by decide) (fun w Lp hA => ⟨hA.ro haA, (by first | assumption | omega), (by first | assumption | omega)⟩)) (fun _ _ => ?_)
    refine E.y rfl rfl (by decide) ((Y.as rfl).yd) ?_
    refine E.nil (E.thn (E.seq (E.seq (E.region (l := [0, 1]) rfl (E.y rfl rfl (by decide) ((Y.mv rfl).yd) ?_)))))
    refine E.y rfl rfl (by decide) ((Y.lss rfl rfl).yd) (Ent.d (fun q20 => ?_) (fun q20 => ?_))
    · have z20 := szR_bad q20 (by omega)
      refine E.nil (E.thn (E.ct rfl (E.seq (E.region (l := [0]) rfl (E.y rfl rfl (by decide) ((Y.as rfl).yd) ?_)))))
      exact E.nil (E.thn (E.ret (E.thr (F.r1 (Back.refl _ _) rfl rfl () trivial rfl (J := _) (.refl _) (.inl rfl)))))
    · obtain ⟨z20, y20⟩ := szR_ok q20 (by omega)
      refine E.nil (E.thn (E.cf rfl (E.skipc (E.thn (E.seq (E.region (l := [0, 1, 2, 3]) rfl (E.y rfl rfl (by decide) ((Y.mv rfl).yd) ?_)))))))
      refine E.y rfl rfl (by decide) ((Y.mv rfl).yd) ?_
      refine E.st rfl rfl (N.call0 t_laws_szQueryS rfl rfl rfl (by decide) (fun w Lp hA => ⟨hA.ro haB, (by first | assumption | omega), (by first | assumption | omega)⟩)) (fun _ _ => ?_)
      refine E.y rfl rfl (by decide) ((Y.as rfl).yd) ?_
      refine E.nil (E.thn (E.seq (E.seq (E.region (l := [0, 1]) rfl (E.y rfl rfl (by decide) ((Y.mv rfl).yd) ?_)))))
      refine E.y rfl rfl (by decide) ((Y.lss rfl rfl).yd) (Ent.d (fun q25 => ?_) (fun q25 => ?_))
      · have z25 := szR_bad q25 (by omega)
        refine E.nil (E.thn (E.ct rfl (E.seq (E.region (l := [0]) rfl (E.y rfl rfl (by decide) ((Y.as rfl).yd) ?_)))))
        exact E.nil (E.thn (E.ret (E.thr (F.r1 (Back.refl _ _) rfl rfl () trivial rfl (J := _) (.refl _) (.inl rfl)))))
      · obtain ⟨z25, y25⟩ := szR_ok q25 (by omega)
        refine E.nil (E.thn (E.cf rfl (E.skipc (E.thn (E.seq (E.region (l := [0, 1, 2, 3, 4, 5, 6, 7]) rfl (E.y rfl rfl (by decide) ((Y.mv rfl).yd) ?_)))))))
        refine E.st rfl rfl (N.call (t_laws_toIntS (by first | omega | assumption)) rfl rfl rfl (by decide) rfl (fun w Lp hA => hA.ro haS)) (fun k27 _ => ?_)
        obtain ⟨a27, m27, c27⟩ := k27
        refine Ent.lenow m0 fun e27 l27 => ?_
        subst e27
        refine E.y rfl rfl (by decide) ((Y.mv rfl).yd) ?_
        refine E.st rfl rfl (N.call (t_laws_toQueryS (by first | omega | assumption)) rfl rfl rfl (by decide) rfl (fun w Lp hA => hA.ro haA)) (fun k29 _ => ?_)
        obtain ⟨a29, m29, c29⟩ := k29
        refine Ent.lenow m0 fun e29 l29 => ?_
        subst e29
        refine E.y rfl rfl (by decide) ((Y.mv rfl).yd) ?_
        refine E.st rfl rfl (N.call (t_laws_toQueryS (by first | omega | assumption)) rfl rfl rfl (by decide) rfl (fun w Lp hA => hA.ro haB)) (fun k31 _ => ?_)
        obtain ⟨a31, m31, c31⟩ := k31
        refine Ent.lenow m0 fun e31 l31 => ?_
        subst e31
        refine E.st rfl rfl (N.call0 (t_spec_SameUnions (union_len (u := aA) (by omega)) (union_len (u := aB) (by omega))) rfl rfl rfl (by decide) (fun w Lp hA => ⟨hA.ow (mS (mS m0)), hA.ow (mS m0), hA.ow m0⟩)) (fun _ _ => ?_)
        refine E.y rfl rfl (by decide) ((Y.as rfl).yd) ?_
        refine E.nil (E.thn (E.seq (E.region (l := [0, 1, 2]) rfl (E.y rfl rfl (by decide) ((Y.mv rfl).yd) ?_))))
        refine E.st rfl rfl (N.call (t_laws_toIntS (by first | omega | assumption)) rfl rfl rfl (by decide) rfl (fun w Lp hA => hA.ro haS)) (fun k34 _ => ?_)
        obtain ⟨a34, m34, c34⟩ := k34
        refine Ent.lenow m0 fun e34 l34 => ?_
        subst e34
        refine E.y rfl rfl (by decide) ((Y.as rfl).yd) ?_
        refine E.nil (E.thn (E.seq (E.region (l := [0, 1, 2]) rfl (E.y rfl rfl (by decide) ((Y.mv rfl).yd) ?_))))
        refine E.st rfl rfl (N.call (t_laws_toQueryS (by first | omega | assumption)) rfl rfl rfl (by decide) rfl (fun w Lp hA => hA.ro haA)) (fun k36 _ => ?_)
        obtain ⟨a36, m36, c36⟩ := k36
        refine Ent.lenow m0 fun e36 l36 => ?_
        subst e36
        refine E.y rfl rfl (by decide) ((Y.as rfl).yd) ?_
        refine E.nil (E.thn (E.seq (E.region (l := [0, 1, 2]) rfl (E.y rfl rfl (by decide) ((Y.mv rfl).yd) ?_))))
        refine E.st rfl rfl (N.call (t_laws_toQueryS (by first | omega | assumption)) rfl rfl rfl (by decide) rfl (fun w Lp hA => hA.ro haB)) (fun k38 _ => ?_)
        obtain ⟨a38, m38, c38⟩ := k38
        refine Ent.lenow m0 fun e38 l38 => ?_
        subst e38
        refine E.y rfl rfl (by decide) ((Y.as rfl).yd) ?_
        refine E.nil (E.thn (E.seq (E.region (l := [0, 1, 2, 3, 4]) rfl (E.y rfl rfl (by decide) ((Y.mv rfl).yd) ?_))))
        refine E.y rfl rfl (by decide) ((Y.mv rfl).yd) ?_
        refine E.y rfl rfl (by decide) ((Y.mv rfl).yd) ?_
        refine E.st rfl rfl (N.call0 (t_impl_SameUnions (union_len (u := aA) (by omega)) (union_len (u := aB) (by omega))) rfl rfl rfl (by decide) (fun w Lp hA => ⟨hA.ow (mS (mS m0)), hA.ow (mS m0), hA.ow m0⟩)) (fun _ _ => ?_)
        refine E.y rfl rfl (by decide) ((Y.as rfl).yd) ?_
        refine E.nil (E.thn (E.seq (E.seq (E.region (l := [0, 1, 2]) rfl (E.y rfl rfl (by decide) ((Y.mv rfl).yd) ?_)))))
        refine E.y rfl rfl (by decide) ((Y.mv rfl).yd) ?_
        refine E.y rfl rfl (by decide) ((Y.neqB (by kernel_rfl) rfl rfl).yd) (Ent.d (fun q45 => ?_) (fun q45 => ?_))
        · exact absurd rfl q45
        · refine E.nil (E.thn (E.cf rfl (E.skipc (E.thn (E.seq (E.seq (E.region (l := [0, 1, 2, 3, 4]) rfl (E.y rfl rfl (by decide) ((Y.mv rfl).yd) ?_))))))))
          refine E.y rfl rfl (by decide) ((Y.mv rfl).yd) ?_
          refine E.st rfl rfl (N.call (t_laws_toIntS (by first | omega | assumption)) rfl rfl rfl (by decide) rfl (fun w Lp hA => hA.ro haS)) (fun k48 _ => ?_)
          obtain ⟨a48, m48, c48⟩ := k48
          refine Ent.lenow m0 fun e48 l48 => ?_
          subst e48
          refine E.st rfl rfl (N.call0 t_laws_eqIntS rfl rfl rfl (by decide) (fun w Lp hA => ⟨hA.ow (mS (mS (mS m0))), hA.ow m0⟩)) (fun _ _ => (Ent.b (fun q49 => ?_) (fun q49 => ?_)))
          · refine E.y rfl rfl (by decide) ((Y.not (b := true) rfl).yd) ?_
            refine E.nil (E.thn (E.cf rfl (E.skipc (E.thn (E.seq (E.seq (E.region (l := [0, 1, 2, 3, 4]) rfl (E.y rfl rfl (by decide) ((Y.mv rfl).yd) ?_))))))))
            refine E.y rfl rfl (by decide) ((Y.mv rfl).yd) ?_
            refine E.st rfl rfl (N.call (t_laws_toQueryS (by first | omega | assumption)) rfl rfl rfl (by decide) rfl (fun w Lp hA => hA.ro haA)) (fun k53 _ => ?_)
            obtain ⟨a53, m53, c53⟩ := k53
            refine Ent.lenow m0 fun e53 l53 => ?_
            subst e53
            refine E.st rfl rfl (N.call0 t_laws_eqQueryS rfl rfl rfl (by decide) (fun w Lp hA => ⟨hA.ow (mS (mS (mS m0))), hA.ow m0⟩)) (fun _ _ => (Ent.b (fun q54 => ?_) (fun q54 => ?_)))
            · refine E.y rfl rfl (by decide) ((Y.not (b := true) rfl).yd) ?_
              refine E.nil (E.thn (E.cf rfl (E.skipc (E.thn (E.seq (E.seq (E.region (l := [0, 1, 2, 3, 4]) rfl (E.y rfl rfl (by decide) ((Y.mv rfl).yd) ?_))))))))
              refine E.y rfl rfl (by decide) ((Y.mv rfl).yd) ?_
              refine E.st rfl rfl (N.call (t_laws_toQueryS (by first | omega | assumption)) rfl rfl rfl (by decide) rfl (fun w Lp hA => hA.ro haB)) (fun k58 _ => ?_)
              obtain ⟨a58, m58, c58⟩ := k58
              refine Ent.lenow m0 fun e58 l58 => ?_
              subst e58
              refine E.st rfl rfl (N.call0 t_laws_eqQueryS rfl rfl rfl (by decide) (fun w Lp hA => ⟨hA.ow (mS (mS (mS m0))), hA.ow m0⟩)) (fun _ _ => (Ent.b (fun q59 => ?_) (fun q59 => ?_)))
              · refine E.y rfl rfl (by decide) ((Y.not (b := true) rfl).yd) ?_
                refine E.nil (E.thn (E.cf rfl (E.skipc (E.thn (E.seq (E.region (l := [0]) rfl (E.y rfl rfl (by decide) ((Y.as rfl).yd) ?_)))))))
                exact E.nil (E.thn (E.ret (F.r1 (Back.refl _ _) rfl rfl () trivial rfl (J := _) (.refl _) (.inl rfl))))
              · refine E.y rfl rfl (by decide) ((Y.not (b := false) rfl).yd) ?_
                refine E.nil (E.thn (E.ct rfl (E.seq (E.region (l := [0]) rfl (E.y rfl rfl (by decide) ((Y.as rfl).yd) ?_)))))
                exact E.nil (E.thn (E.ret (E.thr (F.r1 (Back.refl _ _) rfl rfl () trivial (congrArg Value.bool (by simp_all)) (J := _) (.refl _) (.inl rfl)))))
            · refine E.y rfl rfl (by decide) ((Y.not (b := false) rfl).yd) ?_
              refine E.nil (E.thn (E.ct rfl (E.seq (E.region (l := [0]) rfl (E.y rfl rfl (by decide) ((Y.as rfl).yd) ?_)))))
              exact E.nil (E.thn (E.ret (E.thr (F.r1 (Back.refl _ _) rfl rfl () trivial (congrArg Value.bool (by simp_all)) (J := _) (.refl _) (.inl rfl)))))
          · refine E.y rfl rfl (by decide) ((Y.not (b := false) rfl).yd) ?_
            refine E.nil (E.thn (E.ct rfl (E.seq (E.region (l := [0]) rfl (E.y rfl rfl (by decide) ((Y.as rfl).yd) ?_)))))
            exact E.nil (E.thn (E.ret (E.thr (F.r1 (Back.refl _ _) rfl rfl () trivial (congrArg Value.bool (by simp_all)) (J := _) (.refl _) (.inl rfl)))))
end Go.Proofs.YtlcfbfbdnnoifaaGreat
