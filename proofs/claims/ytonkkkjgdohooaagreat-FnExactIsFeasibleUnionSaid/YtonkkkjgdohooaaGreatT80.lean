import Derived.Test.YtonkkkjgdohooaaGreatBs
import Derived.Test.YtonkkkjgdohooaaGreatT71
import Derived.Test.YtonkkkjgdohooaaGreatT78
import Derived.Test.YtonkkkjgdohooaaGreatEt
namespace Go.Proofs.YtonkkkjgdohooaaGreat
open Go.RowKit
set_option linter.unusedVariables false
set_option linter.unusedSimpArgs false
set_option maxHeartbeats 2000000
attribute [local irreducible] Nop Yd Yp Ent Has Tr FnP FnP2 Src listsF opnF opn1 opnR chainB
theorem t_impl_IsFeasibleUnion_1 {a_q_Head : Option Addr} {m_q_Head c_q_Head : Nat} {q_Head : List Int} {a_q_Atoms : Option Addr} {m_q_Atoms c_q_Atoms : Nat} {q_Atoms : List (Int × List Int)} {b_s : Nat} {a_s : Option Addr} {m_s c_s : Nat} {s : List Int} {b_l : Nat} {a_l : Option Addr} {m_l c_l : Nat} {l : List (Int × List Int × Int × Int × Int)} {b_least : Nat} {a_least : Option Addr} {m_least c_least : Nat} {least : List (List Int × List (Int × List Int))} (hq : okQuery s (q_Head, q_Atoms) = true) (hyl : ∀ q ∈ least, totL (fun x => x.2.length) q.2 ≤ 1048576) (hm : okMeths s l = true) : Tr Tryz.prog 132 [.agg #[.slice a_q_Head m_q_Head c_q_Head, .slice a_q_Atoms m_q_Atoms c_q_Atoms], .pointer (some ⟨b_s, 0, none⟩), .pointer (some ⟨b_l, 0, none⟩), .pointer (some ⟨b_least, 0, none⟩)] (fun w L => (Ro w L eIs [.slice a_q_Head m_q_Head c_q_Head] q_Head ∧ Ro w L eAtoms [.slice a_q_Atoms m_q_Atoms c_q_Atoms] q_Atoms) ∧ RoPt w L b_s [.slice a_s m_s c_s] ∧ Ro w L eIs [.slice a_s m_s c_s] s ∧ RoPt w L b_l [.slice a_l m_l c_l] ∧ Ro w L eMethods [.slice a_l m_l c_l] l ∧ RoPt w L b_least [.slice a_least m_least c_least] ∧ Ro w L eQuerys [.slice a_least m_least c_least] least) [] (κ := Unit) (fun k => True) (fun k => .bool (fuB s l least (q_Head, q_Atoms))) (fun k => []) := by
  refine Tr.intro Tryz.func132 rfl (n := 24) rfl (by decide +kernel) bl (fr := [(0, .agg #[.slice a_q_Head m_q_Head c_q_Head, .slice a_q_Atoms m_q_Atoms c_q_Atoms]), (1, .pointer (some ⟨b_s, 0, none⟩)), (2, .pointer (some ⟨b_l, 0, none⟩)), (3, .pointer (some ⟨b_least, 0, none⟩))]) rfl fun w L hR => ?_
  obtain ⟨⟨hq_Head, hq_Atoms⟩, hb_s, hs, hb_l, hl, hb_least, hleast⟩ := hR
  obtain ⟨rfl, lq_Head⟩ := hq_Head.slen
  obtain ⟨rfl, lq_Atoms⟩ := hq_Atoms.slen
  obtain ⟨rfl, ls⟩ := hs.slen
  obtain ⟨rfl, ll⟩ := hl.slen
  obtain ⟨rfl, lleast⟩ := hleast.slen
  have jq := okQuery_h hq
  have hqa : q_Atoms.length ≤ 4 := jq.1
  have hqh : q_Head.length ≤ 3 := jq.2.1
  have hqt : ∀ a ∈ q_Atoms, a.2.length ≤ 3 := jq.2.2
  have jl := (okMeths_len hm).2
  have jtp := tot_partF (l := l) hqt hqa
  refine Ew Z2 (Est rfl (N.box (cs := [_, _]) rfl dc rfl) (fun b4 _ => (Eas rfl rfl (Ev Z10 (Ey rfl (Y.ld1 ty_Is rfl (hb_s.has) rfl) (Ey rfl (Y.ld1 ty_Methods rfl (hb_l.has) rfl) (Ey rfl (Y.ldS (cs := [_, _]) ty_Query rfl (Has.pt m0) rfl) (Est rfl (N.call (t_impl_part jl hqa hqh hqt) rfl rfl rfl dc rfl (fun w Lp hA => ⟨hA.ro hs, hA.ro hl, hA.ro hq_Head, hA.ro hq_Atoms⟩)) (fun k12 _ => ?_)))))))))
  obtain ⟨⟨a12_0, m12_0, c12_0⟩, ⟨a12_1, m12_1, c12_1⟩⟩ := k12
  refine Ent.lenow m0 fun e12_0 l12_0 => ?_
  subst e12_0
  refine Ent.lenow (mS m0) fun e12_1 l12_1 => ?_
  subst e12_1
  refine Emv rfl rfl (Ey rfl ((Y.ext rfl rfl).yd) (Ey rfl ((Y.ext rfl rfl).yd) (Est rfl (N.alloc ty_Query dc) (fun b6 _ => (Est rfl (N.sto (vs := [_, _]) (cs' := [_, _]) ty_Query rfl rfl rfl rfl rfl bl rfl) (fun _ _ => (Eas rfl rfl (Ent.b (fun q7 => ?_) (fun q7 => ?_)))))))))
  · refine Ev Z10 (Emv rfl rfl (Ey rfl ((Y.not (b := true) rfl).yd) (Emv rfl rfl (Ey rfl (Y.ld1 ty_Is rfl (hb_s.has) rfl) (Ey rfl (Y.ldS (cs := [_, _]) ty_Query rfl (Has.pt m0) rfl) (Ey rfl (Y.ld1 ty_Querys rfl (hb_least.has) rfl) (Est rfl (N.call0 (t_impl_ContainedIn jtp hyl) rfl rfl rfl dc (fun w Lp hA => ⟨hA.ro hs, hA.ow (mS m0), hA.ow (mS (mS m0)), hA.ro hleast⟩)) (fun _ _ => (Ey rfl ((Y.not rfl).yd) (Ey rfl ((Y.pkf rfl rfl).yd) (Eas rfl rfl ?_)))))))))))
    exact Eu (E.ret (Fb rfl rfl (by grind [fuB, d1, d2, t1, t2])))
  · refine Ev Z10 (Emv rfl rfl (Ey rfl ((Y.not (b := false) rfl).yd) (Emv rfl rfl (Es rfl (Es rfl (Es rfl (Es rfl (Es rfl (Ey rfl ((Y.pkt rfl rfl).yd) (Eas rfl rfl ?_))))))))))
    exact Eu (E.ret (Fb rfl rfl (by grind [fuB, d1, d2, t1, t2])))
theorem t_impl_IsFeasibleUnion {a_s : Option Addr} {m_s c_s : Nat} {s : List Int} {a_l : Option Addr} {m_l c_l : Nat} {l : List (Int × List Int × Int × Int × Int)} {a_u : Option Addr} {m_u c_u : Nat} {u : List (List Int × List (Int × List Int))} (hyu : ∀ q ∈ u, totL (fun x => x.2.length) q.2 ≤ 1048576) (hyh : ∀ q ∈ u, q.1.length ≤ 1048576) (hun : u.length ≤ 1048576) : Tr Tryz.prog 57 [.slice a_s m_s c_s, .slice a_l m_l c_l, .slice a_u m_u c_u] (fun w L => Ro w L eIs [.slice a_s m_s c_s] s ∧ Ro w L eMethods [.slice a_l m_l c_l] l ∧ Ro w L eQuerys [.slice a_u m_u c_u] u) [] (κ := Unit) (fun k => True) (fun k => .bool (fsuB s l u)) (fun k => []) := by
  refine Tr.intro Tryz.func57 rfl (n := 25) rfl (by decide +kernel) bl (fr := [(0, .slice a_s m_s c_s), (1, .slice a_l m_l c_l), (2, .slice a_u m_u c_u)]) rfl fun w L hR => ?_
  obtain ⟨hs, hl, hu⟩ := hR
  obtain ⟨rfl, ls⟩ := hs.slen
  obtain ⟨rfl, ll⟩ := hl.slen
  obtain ⟨rfl, lu⟩ := hu.slen
  refine Ew Z3 (Est rfl (N.box (cs := [_]) rfl dc rfl) (fun b3 _ => (Est rfl (N.box (cs := [_]) rfl dc rfl) (fun b4 _ => (Eas rfl rfl (Eu (Eq_ (Ew Z10 (Ey rfl (Y.ld1 ty_Is rfl (Has.pt (mS m0)) rfl) (Ey rfl (Y.ld1 ty_Methods rfl (Has.pt m0) rfl) (Est rfl (N.call0 t_impl_AreMethods rfl rfl rfl dc (fun w Lp hA => ⟨hA.ro hs, hA.ro hl⟩)) (fun _ _ => (Ent.b (fun q10 => ?_) (fun q10 => ?_))))))))))))))
  · refine Ey rfl ((Y.not (b := true) rfl).yd) (Emv rfl rfl (Ey rfl (Y.ld1 ty_Is rfl (Has.pt (mS m0)) rfl) (Emv rfl rfl (Est rfl (N.call0 (t_impl_IsUnion fc) rfl rfl rfl dc (fun w Lp hA => ⟨hA.ro hs, hA.ro hu⟩)) (fun _ _ => (Ent.b (fun q15 => ?_) (fun q15 => ?_)))))))
    · refine Ey rfl ((Y.not (b := true) rfl).yd) (Ey rfl ((Y.pkf rfl rfl).yd) (Eu (E.cf rfl (E.skipc (Et (Ew Z5 (Ey rfl (Y.ld1 ty_Is rfl (Has.pt (mS m0)) rfl) (Emv rfl rfl (Est rfl (N.call (t_impl_MinimalUnion fc fc fc) rfl rfl rfl dc rfl (fun w Lp hA => ⟨hA.ro hs, hA.ro hu⟩)) (fun k20 _ => ?_))))))))))
      obtain ⟨a20, m20, c20⟩ := k20
      refine Ent.lenow m0 fun e20 l20 => ?_
      subst e20
      refine Est rfl (N.alloc ty_Querys dc) (fun b7 _ => (Est rfl (N.sto (vs := [_]) (cs' := [_]) ty_Querys rfl rfl rfl rfl rfl bl rfl) (fun _ _ => (Ev Z5 (Ey rfl (Y.ld1 ty_Querys rfl (Has.pt m0) rfl) (Ey rfl ((Y.fn (vs := [_, _, _]) rfl).yd) (Est rfl (N.call0 (t_ContainsFunc_Query (f := (fun z => fuB s l (mnuF s u) z)) (D_f := (fun z => (okQuery s z = true) ∧ (∀ q ∈ (mnuF s u), totL (fun x => x.2.length) q.2 ≤ 1048576) ∧ (okMeths s l = true))) (by exact fun q hq => ⟨mnu_ok q15 q hq, fun p hp => hyu p (mnu_mem hp), q10⟩)) rfl rfl rfl dc (fun w Lp hA => ⟨hA.ow (mS m0), FnP.ofQuery (D := (fun z => (okQuery s z = true) ∧ (∀ q ∈ (mnuF s u), totL (fun x => x.2.length) q.2 ≤ 1048576) ∧ (okMeths s l = true))) (fun hd => t_impl_IsFeasibleUnion_1 hd.1 hd.2.1 hd.2.2) (fun w' hk => ⟨(hA.pt (mS (mS (mS m0)))).keep hk, (hA.ro hs).keep hk, (hA.pt (mS (mS m0))).keep hk, (hA.ro hl).keep hk, (hA.pt m0).keep hk, (hA.ow (mS m0)).keep hk⟩)⟩)) (fun _ _ => (Ey rfl ((Y.not rfl).yd) (Eas rfl rfl ?_))))))))))
      exact Eu (E.ret (Fb rfl rfl (by exact fs_is q10 q15)))
    · refine Ey rfl ((Y.not (b := false) rfl).yd) (Ey rfl ((Y.pkf rfl rfl).yd) (Eu (E.ct rfl (Ew Z1 (Eas rfl rfl ?_)))))
      exact Eu (E.ret (E.thr (Fb rfl rfl (by exact fs_no2 q15))))
  · refine Ey rfl ((Y.not (b := false) rfl).yd) (Emv rfl rfl (Es rfl (Es rfl (Es rfl (Es rfl (Ey rfl ((Y.pkt rfl rfl).yd) (Eu (E.ct rfl (Ew Z1 (Eas rfl rfl ?_))))))))))
    exact Eu (E.ret (E.thr (Fb rfl rfl (by exact fs_no1 q10))))
theorem t_spec_IsFeasibleUnion {a_s : Option Addr} {m_s c_s : Nat} {s : List Int} {a_l : Option Addr} {m_l c_l : Nat} {l : List (Int × List Int × Int × Int × Int)} {a_u : Option Addr} {m_u c_u : Nat} {u : List (List Int × List (Int × List Int))} (hyu : ∀ q ∈ u, totL (fun x => x.2.length) q.2 ≤ 1048576) (hyh : ∀ q ∈ u, q.1.length ≤ 1048576) (hun : u.length ≤ 1048576) : Tr Tryz.prog 56 [.slice a_s m_s c_s, .slice a_l m_l c_l, .slice a_u m_u c_u] (fun w L => Ro w L eIs [.slice a_s m_s c_s] s ∧ Ro w L eMethods [.slice a_l m_l c_l] l ∧ Ro w L eQuerys [.slice a_u m_u c_u] u) [] (κ := Unit) (fun k => True) (fun k => .bool (fsuB s l u)) (fun k => []) := by
  refine Tr.intro Tryz.func56 rfl (n := 49) rfl (by decide +kernel) bl (fr := [(0, .slice a_s m_s c_s), (1, .slice a_l m_l c_l), (2, .slice a_u m_u c_u)]) rfl fun w L hR => ?_
  obtain ⟨hs, hl, hu⟩ := hR
  obtain ⟨rfl, ls⟩ := hs.slen
  obtain ⟨rfl, ll⟩ := hl.slen
  obtain ⟨rfl, lu⟩ := hu.slen
  refine Ew Z1 (Eas rfl rfl (Eu (Eq_ (Ew Z10 (Emv rfl rfl (Emv rfl rfl (Est rfl (N.call0 t_spec_AreMethods rfl rfl rfl dc (fun w Lp hA => ⟨hA.ro hs, hA.ro hl⟩)) (fun _ _ => (Ent.b (fun q13 => ?_) (fun q13 => ?_))))))))))
  · refine Ey rfl ((Y.not (b := true) rfl).yd) (Emv rfl rfl (Emv rfl rfl (Emv rfl rfl (Est rfl (N.call0 (t_spec_IsUnion fo) rfl rfl rfl dc (fun w Lp hA => ⟨hA.ro hs, hA.ro hu⟩)) (fun _ _ => (Ent.b (fun q18 => ?_) (fun q18 => ?_)))))))
    · refine Ey rfl ((Y.not (b := true) rfl).yd) (Ey rfl ((Y.pkf rfl rfl).yd) (Eu (E.cf rfl (E.skipc (Et (Ew Z4 (Emv rfl rfl (Emv rfl rfl (Est rfl (N.call (t_spec_MinimalUnion fo fo fo) rfl rfl rfl dc rfl (fun w Lp hA => ⟨hA.ro hs, hA.ro hu⟩)) (fun k23 _ => ?_))))))))))
      obtain ⟨a23, m23, c23⟩ := k23
      refine Ent.lenow m0 fun e23 l23 => ?_
      subst e23
      refine Ent.rebase (A := [_]) rfl fun wb1 Lb1 hB1 hA1 => ?_
      have hs := hA1.ro hs
      have hl := hA1.ro hl
      have hu := hA1.ro hu
      have rb1 : Ro wb1 Lb1 eQuerys [.slice a23 (mnuF s u).length c23] (mnuF s u) := hA1.ow m0
      refine Eas rfl rfl (Eu (Eq_ (Ew Z1 (Eas rfl rfl (Eu (E.block (E.loop (κ := Nat) (fun g => g ≤ (mnuF s u).length ∧ ∀ q ∈ (mnuF s u).take g, fuB s l (mnuF s u) q = false) (fun g => [(0, .slice a_s s.length c_s), (1, .slice a_l l.length c_l), (7, .slice a23 (mnuF s u).length c23), (8, .int .i64 (g : Int))]) (fun g => []) (fun g => (mnuF s u).length - g) 0 ⟨Nat.zero_le _, by simp⟩ ⟨rfl, rfl, rfl, rfl, trivial⟩ (.refl _) (fun g pg => ?_))))))))
      obtain ⟨pk, pa⟩ := pg
      have jml := mnu_len (s := s) (u := u)
      refine Eq_ (Ew Z4 (Emv rfl rfl (Emv rfl rfl (Ey rfl ((Y.len us_Querys rfl).yd) (Ey rfl ((Y.lss rfl rfl).yd) (Ent.d (fun q27 => ?_) (fun q27 => ?_)))))))
      · refine Eu (E.ct rfl (E.skipc (Et (Eq_ (E.block (Ew Z13 (Emv rfl rfl (Emv rfl rfl (Emv rfl rfl (Emv rfl rfl ?_))))))))))
        obtain ⟨eb35, eo35, ec35, ea35, er35, el35, eh35⟩ := rb1.elem g om
        obtain ⟨xa35_0, xc35_0, xa35_1, xc35_1, rfl, xh35_0, xh35_1⟩ := Ro.pQuery er35
        have := xh35_0.slen.2
        have := xh35_1.slen.2
        refine Ey rfl ((Y.ix us_Querys ty_Query rfl ea35 rfl g rfl om).yd) (Ey rfl (Y.ldS (cs := [_, _]) ty_Query rfl (eh35 _) rfl) (Est rfl (N.call (t_spec_AnswerablePart (hyu _ (mnu_mem (List.getElem_mem (show g < (mnuF s u).length by omega))))) rfl rfl rfl dc rfl (fun w Lp hA => ⟨hA.ro hs, hA.ro hl, hA.ro xh35_0, hA.ro xh35_1⟩)) (fun k37 _ => ?_)))
        obtain ⟨⟨a37_0, m37_0, c37_0⟩, ⟨a37_1, m37_1, c37_1⟩⟩ := k37
        refine Ent.lenow m0 fun e37_0 l37_0 => ?_
        subst e37_0
        refine Ent.lenow (mS m0) fun e37_1 l37_1 => ?_
        subst e37_1
        refine Emv rfl rfl (Ey rfl ((Y.ext rfl rfl).yd) (Ey rfl ((Y.ext rfl rfl).yd) (Est rfl (N.alloc ty_Query dc) (fun b9 _ => (Est rfl (N.sto (vs := [_, _]) (cs' := [_, _]) ty_Query rfl rfl rfl rfl rfl bl rfl) (fun _ _ => (Eas rfl rfl (Ent.b (fun q10 => ?_) (fun q10 => ?_)))))))))
        · have jp := okQuery_h (prt_ok q10).1
          have jpz : totL (fun x => x.2.length) (prtA s l (mnuF s u)[g]) ≤ 1048576 := Nat.le_trans (tot_few jp.2.2) (Nat.le_trans (Nat.mul_le_mul_left 4 jp.1) dc)
          refine Ev Z9 (Emv rfl rfl (Ey rfl ((Y.not (b := true) rfl).yd) (Emv rfl rfl (Emv rfl rfl (Ey rfl (Y.ldS (cs := [_, _]) ty_Query rfl (Has.pt m0) rfl) (Emv rfl rfl (Est rfl (N.call0 (t_spec_ContainedIn jpz (fun p hp => hyu p (mnu_mem hp))) rfl rfl rfl dc (fun w Lp hA => ⟨hA.ro hs, hA.ow (mS m0), hA.ow (mS (mS m0)), hA.ro rb1⟩)) (fun _ _ => (Ent.b (fun q46 => ?_) (fun q46 => ?_))))))))))
          · refine Ey rfl ((Y.not (b := true) rfl).yd) (Ey rfl ((Y.pkf rfl rfl).yd) (Eu (E.cf rfl (E.skipc (E.bln (Et (Ez Z3 (Emv rfl rfl (Ey rfl ((Y.add rfl rfl om om).yd) (Eas rfl rfl (Eu (Ent.drop (Ent.drop (Ent.drop ?_))))))))))))))
            exact E.again br (g + 1) ⟨rfl, rfl, rfl, rfl, trivial⟩ (.refl _) ⟨by omega, by exact take_step (p := fuB s l (mnuF s u)) om pa (fu3 q10 q46)⟩ om
          · refine Ey rfl ((Y.not (b := false) rfl).yd) (Ey rfl ((Y.pkf rfl rfl).yd) (Eu (E.ct rfl (Ew Z1 (Eas rfl rfl ?_)))))
            exact Eu (E.ret (E.blr (E.thr (E.thr (E.blr (E.thr (F.r1 hB1 rfl rfl () trivial (congrArg Value.bool (by exact fs_hit q13 q18 om (fu2 q10 q46))) (J := _) (.refl _) (.inl rfl))))))))
        · refine Ev Z9 (Emv rfl rfl (Ey rfl ((Y.not (b := false) rfl).yd) (Emv rfl rfl (Es rfl (Es rfl (Es rfl (Es rfl (Es rfl (Ey rfl ((Y.pkt rfl rfl).yd) (Eu (E.ct rfl (Ew Z1 (Eas rfl rfl ?_)))))))))))))
          exact Eu (E.ret (E.blr (E.thr (E.thr (E.blr (E.thr (F.r1 hB1 rfl rfl () trivial (congrArg Value.bool (by exact fs_hit q13 q18 om (fu1 q13 (mnu_ok q18 _ (List.getElem_mem (show g < (mnuF s u).length by omega))) q10))) (J := _) (.refl _) (.inl rfl))))))))
      · refine Eu (E.cf rfl (E.exit (E.the (E.the (E.blh (Et (Ew Z1 (Eas rfl rfl ?_))))))))
        exact Eu (E.ret (F.r1 hB1 rfl rfl () trivial (congrArg Value.bool (by exact fs_end q13 q18 om pa)) (J := _) (.refl _) (.inl rfl)))
    · refine Ey rfl ((Y.not (b := false) rfl).yd) (Ey rfl ((Y.pkf rfl rfl).yd) (Eu (E.ct rfl (Ew Z1 (Eas rfl rfl ?_)))))
      exact Eu (E.ret (E.thr (Fb rfl rfl (by exact fs_no2 q18))))
  · refine Ey rfl ((Y.not (b := false) rfl).yd) (Emv rfl rfl (Es rfl (Es rfl (Es rfl (Es rfl (Ey rfl ((Y.pkt rfl rfl).yd) (Eu (E.ct rfl (Ew Z1 (Eas rfl rfl ?_))))))))))
    exact Eu (E.ret (E.thr (Fb rfl rfl (by exact fs_no1 q13))))
end Go.Proofs.YtonkkkjgdohooaaGreat
