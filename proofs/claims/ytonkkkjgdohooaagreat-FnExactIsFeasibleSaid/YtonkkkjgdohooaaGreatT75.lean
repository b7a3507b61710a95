import Derived.Test.YtonkkkjgdohooaaGreatT71
import Derived.Test.YtonkkkjgdohooaaGreatT24
namespace Go.Proofs.YtonkkkjgdohooaaGreat
open Go.RowKit
set_option linter.unusedVariables false
set_option linter.unusedSimpArgs false
set_option maxHeartbeats 2000000
attribute [local irreducible] Nop Yd Yp Ent Has Tr FnP FnP2 Src listsF opnF opn1 opnR chainB
theorem t_impl_IsFeasible {a_s : Option Addr} {m_s c_s : Nat} {s : List Int} {a_l : Option Addr} {m_l c_l : Nat} {l : List (Int × List Int × Int × Int × Int)} {a_q_Head : Option Addr} {m_q_Head c_q_Head : Nat} {q_Head : List Int} {a_q_Atoms : Option Addr} {m_q_Atoms c_q_Atoms : Nat} {q_Atoms : List (Int × List Int)} (hz : totL (fun x => x.2.length) q_Atoms ≤ 1048576) : Tr Tryz.prog 55 [.slice a_s m_s c_s, .slice a_l m_l c_l, .agg #[.slice a_q_Head m_q_Head c_q_Head, .slice a_q_Atoms m_q_Atoms c_q_Atoms]] (fun w L => Ro w L eIs [.slice a_s m_s c_s] s ∧ Ro w L eMethods [.slice a_l m_l c_l] l ∧ Ro w L eIs [.slice a_q_Head m_q_Head c_q_Head] q_Head ∧ Ro w L eAtoms [.slice a_q_Atoms m_q_Atoms c_q_Atoms] q_Atoms) [] (κ := Unit) (fun k => True) (fun k => .bool ((prtB s l (q_Head, q_Atoms) && conB (prtH s l (q_Head, q_Atoms), prtA s l (q_Head, q_Atoms)) (q_Head, q_Atoms)))) (fun k => []) := by
  refine Tr.intro Tryz.func55 rfl (n := 22) rfl (by decide +kernel) (Nat.le_of_ble_eq_true rfl) (fr := [(0, .slice a_s m_s c_s), (1, .slice a_l m_l c_l), (2, .agg #[.slice a_q_Head m_q_Head c_q_Head, .slice a_q_Atoms m_q_Atoms c_q_Atoms])]) rfl fun w L hR => ?_
  obtain ⟨hs, hl, hq_Head, hq_Atoms⟩ := hR
  obtain ⟨rfl, ls⟩ := hs.slen
  obtain ⟨rfl, ll⟩ := hl.slen
  obtain ⟨rfl, lq_Head⟩ := hq_Head.slen
  obtain ⟨rfl, lq_Atoms⟩ := hq_Atoms.slen
  refine E.seq (E.region (l := [0, 1]) rfl (E.st rfl rfl (N.box (cs := [_, _]) rfl (by decide) rfl) (fun b5 _ => (E.y rfl rfl (by decide) ((Y.as rfl).yd) (E.nil (E.thn (E.seq (E.region (l := [0, 1, 2, 3, 4, 5, 6, 7, 8, 9]) rfl (E.y rfl rfl (by decide) ((Y.mv rfl).yd) (E.y rfl rfl (by decide) ((Y.mv rfl).yd) (E.y rfl rfl (by decide) (Y.ldS (cs := [_, _]) ty_Query rfl (Has.pt m0) rfl) (E.st rfl rfl (N.call (t_impl_AnswerablePart (by first | omega | assumption)) rfl rfl rfl (by decide) rfl (fun w Lp hA => ⟨hA.ro hs, hA.ro hl, hA.ro hq_Head, hA.ro hq_Atoms⟩)) (fun k13 _ => ?_)))))))))))))
  obtain ⟨⟨a13_0, m13_0, c13_0⟩, ⟨a13_1, m13_1, c13_1⟩⟩ := k13
  refine Ent.lenow m0 fun e13_0 l13_0 => ?_
  subst e13_0
  refine Ent.lenow (mS m0) fun e13_1 l13_1 => ?_
  subst e13_1
  refine E.y rfl rfl (by decide) ((Y.mv rfl).yd) (E.y rfl rfl (by decide) ((Y.ext rfl rfl).yd) (E.y rfl rfl (by decide) ((Y.ext rfl rfl).yd) (E.st rfl rfl (N.alloc ty_Query (by decide)) (fun b7 _ => (E.st rfl rfl (N.sto (vs := [_, _]) (cs' := [_, _]) ty_Query rfl rfl rfl rfl rfl (Nat.le_of_ble_eq_true rfl) rfl) (fun _ _ => (E.y rfl rfl (by decide) ((Y.as rfl).yd) (Ent.b (fun q8 => ?_) (fun q8 => ?_)))))))))
  · obtain ⟨jp0, jq0⟩ := prt_ok q8
    have jp := okQuery_h jp0
    have jq := okQuery_h jq0
    have jpz : totL (fun x => x.2.length) (prtA s l (q_Head, q_Atoms)) ≤ 1048576 := Nat.le_trans (tot_few jp.2.2) (Nat.le_trans (Nat.mul_le_mul_left 4 jp.1) (by decide))
    refine E.nil (E.thn (E.seq (E.region (l := [0, 1, 2, 3, 4, 5, 6]) rfl (E.y rfl rfl (by decide) ((Y.mv rfl).yd) (E.y rfl rfl (by decide) ((Y.mv rfl).yd) (E.y rfl rfl (by decide) (Y.ldS (cs := [_, _]) ty_Query rfl (Has.pt m0) rfl) (E.y rfl rfl (by decide) (Y.ldS (cs := [_, _]) ty_Query rfl (Has.pt (mS (mS (mS m0)))) rfl) (E.st rfl rfl (N.call0 (t_impl_contained jp.1 jp.2.2 jp.2.1 jq.1 jq.2.2 jq.2.1 jpz (by first | omega | assumption)) rfl rfl rfl (by decide) (fun w Lp hA => ⟨hA.ow (mS m0), hA.ow (mS (mS m0)), hA.ro hq_Head, hA.ro hq_Atoms⟩)) (fun _ _ => (E.y rfl rfl (by decide) ((Y.pkt rfl rfl).yd) (E.y rfl rfl (by decide) ((Y.as rfl).yd) ?_)))))))))))
    exact E.nil (E.thn (E.ret (F.r1 (Back.refl _ _) rfl rfl () trivial (congrArg Value.bool (by first | (rw [q8]; rfl) | simp [q8])) (J := _) (.refl _) (.inl rfl))))
  · refine E.nil (E.thn (E.seq (E.region (l := [0, 1, 2, 3, 4, 5, 6]) rfl (E.y rfl rfl (by decide) ((Y.mv rfl).yd) (E.y rfl rfl (by decide) ((Y.mv rfl).yd) (E.skip rfl rfl rfl (E.skip rfl rfl rfl (E.skip rfl rfl rfl (E.y rfl rfl (by decide) ((Y.pkf rfl rfl).yd) (E.y rfl rfl (by decide) ((Y.as rfl).yd) ?_))))))))))
    exact E.nil (E.thn (E.ret (F.r1 (Back.refl _ _) rfl rfl () trivial (congrArg Value.bool (by first | (rw [q8]; rfl) | simp [q8])) (J := _) (.refl _) (.inl rfl))))
theorem t_spec_IsFeasible {a_s : Option Addr} {m_s c_s : Nat} {s : List Int} {a_l : Option Addr} {m_l c_l : Nat} {l : List (Int × List Int × Int × Int × Int)} {a_q_Head : Option Addr} {m_q_Head c_q_Head : Nat} {q_Head : List Int} {a_q_Atoms : Option Addr} {m_q_Atoms c_q_Atoms : Nat} {q_Atoms : List (Int × List Int)} (hz : totL (fun x => x.2.length) q_Atoms ≤ 1048576) : Tr Tryz.prog 54 [.slice a_s m_s c_s, .slice a_l m_l c_l, .agg #[.slice a_q_Head m_q_Head c_q_Head, .slice a_q_Atoms m_q_Atoms c_q_Atoms]] (fun w L => Ro w L eIs [.slice a_s m_s c_s] s ∧ Ro w L eMethods [.slice a_l m_l c_l] l ∧ Ro w L eIs [.slice a_q_Head m_q_Head c_q_Head] q_Head ∧ Ro w L eAtoms [.slice a_q_Atoms m_q_Atoms c_q_Atoms] q_Atoms) [] (κ := Unit) (fun k => True) (fun k => .bool ((prtB s l (q_Head, q_Atoms) && conB (prtH s l (q_Head, q_Atoms), prtA s l (q_Head, q_Atoms)) (q_Head, q_Atoms)))) (fun k => []) := by
  refine Tr.intro Tryz.func54 rfl (n := 23) rfl (by decide +kernel) (Nat.le_of_ble_eq_true rfl) (fr := [(0, .slice a_s m_s c_s), (1, .slice a_l m_l c_l), (2, .agg #[.slice a_q_Head m_q_Head c_q_Head, .slice a_q_Atoms m_q_Atoms c_q_Atoms])]) rfl fun w L hR => ?_
  obtain ⟨hs, hl, hq_Head, hq_Atoms⟩ := hR
  obtain ⟨rfl, ls⟩ := hs.slen
  obtain ⟨rfl, ll⟩ := hl.slen
  obtain ⟨rfl, lq_Head⟩ := hq_Head.slen
  obtain ⟨rfl, lq_Atoms⟩ := hq_Atoms.slen
  refine E.seq (E.region (l := [0, 1]) rfl (E.st rfl rfl (N.box (cs := [_, _]) rfl (by decide) rfl) (fun b5 _ => (E.y rfl rfl (by decide) ((Y.as rfl).yd) (E.nil (E.thn (E.seq (E.region (l := [0, 1, 2, 3, 4, 5, 6, 7, 8, 9]) rfl (E.y rfl rfl (by decide) ((Y.mv rfl).yd) (E.y rfl rfl (by decide) ((Y.mv rfl).yd) (E.y rfl rfl (by decide) (Y.ldS (cs := [_, _]) ty_Query rfl (Has.pt m0) rfl) (E.st rfl rfl (N.call (t_spec_AnswerablePart (by first | omega | assumption)) rfl rfl rfl (by decide) rfl (fun w Lp hA => ⟨hA.ro hs, hA.ro hl, hA.ro hq_Head, hA.ro hq_Atoms⟩)) (fun k13 _ => ?_)))))))))))))
  obtain ⟨⟨a13_0, m13_0, c13_0⟩, ⟨a13_1, m13_1, c13_1⟩⟩ := k13
  refine Ent.lenow m0 fun e13_0 l13_0 => ?_
  subst e13_0
  refine Ent.lenow (mS m0) fun e13_1 l13_1 => ?_
  subst e13_1
  refine E.y rfl rfl (by decide) ((Y.mv rfl).yd) (E.y rfl rfl (by decide) ((Y.ext rfl rfl).yd) (E.y rfl rfl (by decide) ((Y.ext rfl rfl).yd) (E.st rfl rfl (N.alloc ty_Query (by decide)) (fun b7 _ => (E.st rfl rfl (N.sto (vs := [_, _]) (cs' := [_, _]) ty_Query rfl rfl rfl rfl rfl (Nat.le_of_ble_eq_true rfl) rfl) (fun _ _ => (E.y rfl rfl (by decide) ((Y.as rfl).yd) (Ent.b (fun q8 => ?_) (fun q8 => ?_)))))))))
  · obtain ⟨jp0, jq0⟩ := prt_ok q8
    have jp := okQuery_h jp0
    have jq := okQuery_h jq0
    have jpz : totL (fun x => x.2.length) (prtA s l (q_Head, q_Atoms)) ≤ 1048576 := Nat.le_trans (tot_few jp.2.2) (Nat.le_trans (Nat.mul_le_mul_left 4 jp.1) (by decide))
    refine E.nil (E.thn (E.seq (E.region (l := [0, 1, 2, 3, 4, 5, 6, 7]) rfl (E.y rfl rfl (by decide) ((Y.mv rfl).yd) (E.y rfl rfl (by decide) ((Y.mv rfl).yd) (E.y rfl rfl (by decide) ((Y.mv rfl).yd) (E.y rfl rfl (by decide) (Y.ldS (cs := [_, _]) ty_Query rfl (Has.pt m0) rfl) (E.y rfl rfl (by decide) (Y.ldS (cs := [_, _]) ty_Query rfl (Has.pt (mS (mS (mS m0)))) rfl) (E.st rfl rfl (N.call0 (t_spec_IsContained jpz (by first | omega | assumption)) rfl rfl rfl (by decide) (fun w Lp hA => ⟨hA.ro hs, hA.ow (mS m0), hA.ow (mS (mS m0)), hA.ro hq_Head, hA.ro hq_Atoms⟩)) (fun _ _ => (E.y rfl rfl (by decide) ((Y.pkt rfl rfl).yd) (E.y rfl rfl (by decide) ((Y.as rfl).yd) ?_))))))))))))
    exact E.nil (E.thn (E.ret (F.r1 (Back.refl _ _) rfl rfl () trivial (congrArg Value.bool (by first | (rw [q8, conR, jp0, jq0]; rfl) | simp [q8])) (J := _) (.refl _) (.inl rfl))))
  · refine E.nil (E.thn (E.seq (E.region (l := [0, 1, 2, 3, 4, 5, 6, 7]) rfl (E.y rfl rfl (by decide) ((Y.mv rfl).yd) (E.y rfl rfl (by decide) ((Y.mv rfl).yd) (E.skip rfl rfl rfl (E.skip rfl rfl rfl (E.skip rfl rfl rfl (E.skip rfl rfl rfl (E.y rfl rfl (by decide) ((Y.pkf rfl rfl).yd) (E.y rfl rfl (by decide) ((Y.as rfl).yd) ?_)))))))))))
    exact E.nil (E.thn (E.ret (F.r1 (Back.refl _ _) rfl rfl () trivial (congrArg Value.bool (by first | (rw [q8, conR, jp0, jq0]; rfl) | simp [q8])) (J := _) (.refl _) (.inl rfl))))
end Go.Proofs.YtonkkkjgdohooaaGreat
