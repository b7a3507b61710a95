import Derived.Test.YtfnagmokplpnjaaGreatBs
import Derived.Test.YtfnagmokplpnjaaGreatT45
import Derived.Test.YtfnagmokplpnjaaGreatT19
import Derived.Test.YtfnagmokplpnjaaGreatT22
import Derived.Test.YtfnagmokplpnjaaGreatEg
namespace Go.Proofs.YtfnagmokplpnjaaGreat
open Go.RowKit
set_option linter.unusedVariables false
set_option linter.unusedSimpArgs false
set_option maxHeartbeats 2000000
attribute [local irreducible] Nop Yd Yp Ent Has Tr FnP FnP2 Src listsF opnF opn1 opnR chainB uFin
theorem t_impl_AnswersUnder {a_s : Option Addr} {m_s c_s : Nat} {s : List Int} {a_l : Option Addr} {m_l c_l : Nat} {l : List (Int × List Int × Int × Int × Int)} {a_rules : Option Addr} {m_rules c_rules : Nat} {rules : List (Int × Int × List Int)} {a_q_Head : Option Addr} {m_q_Head c_q_Head : Nat} {q_Head : List Int} {a_q_Atoms : Option Addr} {m_q_Atoms c_q_Atoms : Nat} {q_Atoms : List (Int × List Int)} {a_facts : Option Addr} {m_facts c_facts : Nat} {facts : List (Int × List Int)} (hz : totL (fun x => x.2.length) q_Atoms ≤ 1048576) : Tr Tryz.prog 56 [.slice a_s m_s c_s, .slice a_l m_l c_l, .slice a_rules m_rules c_rules, .agg #[.slice a_q_Head m_q_Head c_q_Head, .slice a_q_Atoms m_q_Atoms c_q_Atoms], .slice a_facts m_facts c_facts] (fun w L => Ro w L eIs [.slice a_s m_s c_s] s ∧ Ro w L eMethods [.slice a_l m_l c_l] l ∧ Ro w L eRules [.slice a_rules m_rules c_rules] rules ∧ Ro w L eIs [.slice a_q_Head m_q_Head c_q_Head] q_Head ∧ Ro w L eAtoms [.slice a_q_Atoms m_q_Atoms c_q_Atoms] q_Atoms ∧ Ro w L eFacts [.slice a_facts m_facts c_facts] facts) [] (κ := Option Addr × Nat × Nat) (fun k => True) (fun k => .slice k.1 k.2.1 k.2.2) (fun k => [ow eIss [.slice k.1 k.2.1 k.2.2] (ansU s l rules (q_Head, q_Atoms) facts)]) := by
  refine Tr.intro Tryz.func56 rfl (n := 40) rfl (by decide +kernel) bl (fr := [(0, .slice a_s m_s c_s), (1, .slice a_l m_l c_l), (2, .slice a_rules m_rules c_rules), (3, .agg #[.slice a_q_Head m_q_Head c_q_Head, .slice a_q_Atoms m_q_Atoms c_q_Atoms]), (4, .slice a_facts m_facts c_facts)]) rfl fun w L hR => ?_
  obtain ⟨hs, hl, hrules, hq_Head, hq_Atoms, hfacts⟩ := hR
  obtain ⟨rfl, ls⟩ := hs.slen
  obtain ⟨rfl, ll⟩ := hl.slen
  obtain ⟨rfl, lrules⟩ := hrules.slen
  obtain ⟨rfl, lq_Head⟩ := hq_Head.slen
  obtain ⟨rfl, lq_Atoms⟩ := hq_Atoms.slen
  obtain ⟨rfl, lfacts⟩ := hfacts.slen
  refine Eq_ (Er (l := [0, 1]) rfl (Est rfl (N.box (cs := [_, _]) rfl dc rfl) (fun b8 _ => (Eas rfl rfl (En (Et (Eq_ (Eq_ (Er (l := [0, 1, 2, 3, 4, 5, 6, 7, 8, 9, 10, 11, 12, 13, 14, 15, 16]) rfl (Emv rfl rfl (Emv rfl rfl (Emv rfl rfl (Est rfl (N.call0 t_impl_areUnder rfl rfl rfl dc (fun w Lp hA => ⟨hA.ro hs, hA.ro hl, hA.ro hrules⟩)) (fun _ _ => (Ent.b (fun q14 => ?_) (fun q14 => ?_))))))))))))))))
  · refine Ey rfl ((Y.not (b := true) rfl).yd) (Emv rfl rfl (Emv rfl rfl (Ey rfl (Y.ldS (cs := [_, _]) ty_Query rfl (Has.pt m0) rfl) (Est rfl (N.call0 (t_impl_IsQuery fo) rfl rfl rfl dc (fun w Lp hA => ⟨hA.ro hs, hA.ro hq_Head, hA.ro hq_Atoms⟩)) (fun _ _ => (Ent.b (fun q19 => ?_) (fun q19 => ?_)))))))
    · refine Ey rfl ((Y.not (b := true) rfl).yd) (Ey rfl ((Y.pkf rfl rfl).yd) (Emv rfl rfl (Emv rfl rfl (Emv rfl rfl (Est rfl (N.call0 t_impl_AreFacts rfl rfl rfl dc (fun w Lp hA => ⟨hA.ro hs, hA.ro hfacts⟩)) (fun _ _ => (Ent.b (fun q25 => ?_) (fun q25 => ?_))))))))
      · have hO : okUnd s l rules facts = true := by rw [okUnd, q14, q25]; rfl
        obtain ⟨hm0, hr0, hf0⟩ := okUnd_all hO
        have jq := okQuery_h (s := s) (q := (q_Head, q_Atoms)) q19
        refine Ey rfl ((Y.not (b := true) rfl).yd) (Ey rfl ((Y.pkf rfl rfl).yd) (En (Et (E.cf rfl (E.skipc (Et (Eq_ (D.region (fun j => true) mixed (Dy 0 rfl (Y.ldS (cs := [_, _]) ty_Query rfl (Has.pt m0) rfl) (Dyp 1 rfl (Y.mv rfl) (Dyp 2 rfl (Y.mv rfl) (Dyp 3 rfl (Y.mv rfl) (Dy 4 rfl (Y.ldS (cs := [_, _]) ty_Query rfl (Has.pt m0) rfl) (D.st 5 rfl rfl kr (fun _ => rfl) (N.call (t_impl_ConstantsOf fo) rfl rfl rfl dc rfl (fun w Lp hA => ⟨hA.ro hq_Head, hA.ro hq_Atoms⟩)) (fun k33 _ => ?_)))))))))))))))
        obtain ⟨a33, m33, c33⟩ := k33
        refine Ent.lenow m0 fun e33 l33 => ?_
        subst e33
        refine D.st 6 rfl rfl kr (fun _ => rfl) (N.call (t_impl_reachUnder ⟨s, hm0, hr0, hf0⟩ (Nat.le_trans consts_few dc)) rfl rfl rfl dc rfl (fun w Lp hA => ⟨hA.ro hl, hA.ro hrules, hA.ro hfacts, hA.ow m0⟩)) (fun k34 _ => ?_)
        obtain ⟨nb34, ⟨a34_0, m34_0, c34_0⟩, ⟨a34_1, m34_1, c34_1⟩, ⟨a34_2, m34_2, c34_2⟩, ⟨a34_3, m34_3, c34_3⟩⟩ := k34
        try dsimp only
        refine Ent.lenow (mS m0) fun e34_0 l34_0 => ?_
        subst e34_0
        refine Ent.lenow (mS (mS m0)) fun e34_1 l34_1 => ?_
        subst e34_1
        refine Ent.lenow (mS (mS (mS m0))) fun e34_2 l34_2 => ?_
        subst e34_2
        refine Ent.lenow (mS (mS (mS (mS m0)))) fun e34_3 l34_3 => ?_
        subst e34_3
        refine Dyp 7 rfl (Y.nil rfl) (Dyp 8 rfl (Y.fld fo_under_3 ty_Reached dc rfl) (Dyp 9 rfl (Y.fld fo_Reached_0 ty_Facts dc rfl) (Dy 10 rfl (Y.ld1 ty_Facts rfl (((Has.pt m0).sub (cs' := [_, _, _, _]) 3 rfl).sub (cs' := [_]) 0 rfl) rfl) (D.st 11 rfl rfl kr (fun _ => rfl) (N.call (t_impl_answers jq.1 jq.2.2 (fun a _ => uFin_few hO a) jq.2.1) rfl rfl rfl dc rfl (fun w Lp hA => ⟨hA.ro hq_Head, hA.ro hq_Atoms, hA.ow (mS m0)⟩)) (fun k39 _ => ?_)))))
        obtain ⟨a39, m39, c39⟩ := k39
        refine Ent.lenow m0 fun e39 l39 => ?_
        subst e39
        refine Dyp 12 rfl (Y.as rfl) (D.done kr (Et (E.ret (Ent.cv (congrArg (ow eIss [_]) (show _ = ansU s l rules (q_Head, q_Atoms) facts by exact ansU_yes hO q19)) ?_))))
        exact F.r1 br rfl rfl (_, _, _) trivial rfl (J := _) (.refl _) (.inl rfl)
      · refine Ey rfl ((Y.not (b := false) rfl).yd) (Ey rfl ((Y.pkf rfl rfl).yd) (En (Et (E.ct rfl (Eq_ (Er (l := [0]) rfl (Eas rfl rfl (En (Et (E.ret (E.thr (Ent.mkow (A := []) (Own.nil (E := eIs) (e := tIs) (a := none)) rfl (Ent.cv (congrArg (ow eIss [_]) (show _ = ansU s l rules (q_Head, q_Atoms) facts by exact ansU_no (by simp [okUnd, q25]))) ?_)))))))))))))
        exact F.r1 br rfl rfl (none, 0, 0) trivial rfl (J := _) (.refl _) (.inl rfl)
    · refine Ey rfl ((Y.not (b := false) rfl).yd) (Ey rfl ((Y.pkf rfl rfl).yd) (Emv rfl rfl (Es rfl (Es rfl (Es rfl (Es rfl (Ey rfl ((Y.pkt rfl rfl).yd) (En (Et (E.ct rfl (Eq_ (Er (l := [0]) rfl (Eas rfl rfl (En (Et (E.ret (E.thr (Ent.mkow (A := []) (Own.nil (E := eIs) (e := tIs) (a := none)) rfl (Ent.cv (congrArg (ow eIss [_]) (show _ = ansU s l rules (q_Head, q_Atoms) facts by exact ansU_no (by simp [q19]))) ?_)))))))))))))))))))
      exact F.r1 br rfl rfl (none, 0, 0) trivial rfl (J := _) (.refl _) (.inl rfl)
  · refine Ey rfl ((Y.not (b := false) rfl).yd) (Emv rfl rfl (Es rfl (Es rfl (Es rfl (Es rfl (Ey rfl ((Y.pkt rfl rfl).yd) (Emv rfl rfl (Es rfl (Es rfl (Es rfl (Es rfl (Ey rfl ((Y.pkt rfl rfl).yd) (En (Et (E.ct rfl (Eq_ (Er (l := [0]) rfl (Eas rfl rfl (En (Et (E.ret (E.thr (Ent.mkow (A := []) (Own.nil (E := eIs) (e := tIs) (a := none)) rfl (Ent.cv (congrArg (ow eIss [_]) (show _ = ansU s l rules (q_Head, q_Atoms) facts by exact ansU_no (by simp [okUnd, q14]))) ?_))))))))))))))))))))))))
    exact F.r1 br rfl rfl (none, 0, 0) trivial rfl (J := _) (.refl _) (.inl rfl)
theorem t_spec_AnswersUnder {a_s : Option Addr} {m_s c_s : Nat} {s : List Int} {a_l : Option Addr} {m_l c_l : Nat} {l : List (Int × List Int × Int × Int × Int)} {a_rules : Option Addr} {m_rules c_rules : Nat} {rules : List (Int × Int × List Int)} {a_q_Head : Option Addr} {m_q_Head c_q_Head : Nat} {q_Head : List Int} {a_q_Atoms : Option Addr} {m_q_Atoms c_q_Atoms : Nat} {q_Atoms : List (Int × List Int)} {a_facts : Option Addr} {m_facts c_facts : Nat} {facts : List (Int × List Int)} (hz : totL (fun x => x.2.length) q_Atoms ≤ 1048576) : Tr Tryz.prog 55 [.slice a_s m_s c_s, .slice a_l m_l c_l, .slice a_rules m_rules c_rules, .agg #[.slice a_q_Head m_q_Head c_q_Head, .slice a_q_Atoms m_q_Atoms c_q_Atoms], .slice a_facts m_facts c_facts] (fun w L => Ro w L eIs [.slice a_s m_s c_s] s ∧ Ro w L eMethods [.slice a_l m_l c_l] l ∧ Ro w L eRules [.slice a_rules m_rules c_rules] rules ∧ Ro w L eIs [.slice a_q_Head m_q_Head c_q_Head] q_Head ∧ Ro w L eAtoms [.slice a_q_Atoms m_q_Atoms c_q_Atoms] q_Atoms ∧ Ro w L eFacts [.slice a_facts m_facts c_facts] facts) [] (κ := Option Addr × Nat × Nat) (fun k => True) (fun k => .slice k.1 k.2.1 k.2.2) (fun k => [ow eIss [.slice k.1 k.2.1 k.2.2] (ansU s l rules (q_Head, q_Atoms) facts)]) := by
  refine Tr.intro Tryz.func55 rfl (n := 40) rfl (by decide +kernel) bl (fr := [(0, .slice a_s m_s c_s), (1, .slice a_l m_l c_l), (2, .slice a_rules m_rules c_rules), (3, .agg #[.slice a_q_Head m_q_Head c_q_Head, .slice a_q_Atoms m_q_Atoms c_q_Atoms]), (4, .slice a_facts m_facts c_facts)]) rfl fun w L hR => ?_
  obtain ⟨hs, hl, hrules, hq_Head, hq_Atoms, hfacts⟩ := hR
  obtain ⟨rfl, ls⟩ := hs.slen
  obtain ⟨rfl, ll⟩ := hl.slen
  obtain ⟨rfl, lrules⟩ := hrules.slen
  obtain ⟨rfl, lq_Head⟩ := hq_Head.slen
  obtain ⟨rfl, lq_Atoms⟩ := hq_Atoms.slen
  obtain ⟨rfl, lfacts⟩ := hfacts.slen
  refine Eq_ (Er (l := [0, 1]) rfl (Est rfl (N.box (cs := [_, _]) rfl dc rfl) (fun b8 _ => (Eas rfl rfl (En (Et (Eq_ (Eq_ (Er (l := [0, 1, 2, 3, 4, 5, 6, 7, 8, 9, 10, 11, 12, 13, 14, 15, 16]) rfl (Emv rfl rfl (Emv rfl rfl (Emv rfl rfl (Est rfl (N.call0 t_spec_l14Fine rfl rfl rfl dc (fun w Lp hA => ⟨hA.ro hs, hA.ro hl, hA.ro hrules⟩)) (fun _ _ => (Ent.b (fun q14 => ?_) (fun q14 => ?_))))))))))))))))
  · refine Ey rfl ((Y.not (b := true) rfl).yd) (Emv rfl rfl (Emv rfl rfl (Ey rfl (Y.ldS (cs := [_, _]) ty_Query rfl (Has.pt m0) rfl) (Est rfl (N.call0 (t_spec_IsQuery fo) rfl rfl rfl dc (fun w Lp hA => ⟨hA.ro hs, hA.ro hq_Head, hA.ro hq_Atoms⟩)) (fun _ _ => (Ent.b (fun q19 => ?_) (fun q19 => ?_)))))))
    · refine Ey rfl ((Y.not (b := true) rfl).yd) (Ey rfl ((Y.pkf rfl rfl).yd) (Emv rfl rfl (Emv rfl rfl (Emv rfl rfl (Est rfl (N.call0 t_spec_AreFacts rfl rfl rfl dc (fun w Lp hA => ⟨hA.ro hs, hA.ro hfacts⟩)) (fun _ _ => (Ent.b (fun q25 => ?_) (fun q25 => ?_))))))))
      · have hO : okUnd s l rules facts = true := by rw [okUnd, q14, q25]; rfl
        obtain ⟨hm0, hr0, hf0⟩ := okUnd_all hO
        have jq := okQuery_h (s := s) (q := (q_Head, q_Atoms)) q19
        refine Ey rfl ((Y.not (b := true) rfl).yd) (Ey rfl ((Y.pkf rfl rfl).yd) (En (Et (E.cf rfl (E.skipc (Et (Eq_ (D.region (fun j => true) mixed (Dy 0 rfl (Y.ldS (cs := [_, _]) ty_Query rfl (Has.pt m0) rfl) (Dy 1 rfl (Y.ldS (cs := [_, _]) ty_Query rfl (Has.pt m0) rfl) (Dyp 2 rfl (Y.mv rfl) (Dyp 3 rfl (Y.mv rfl) (Dyp 4 rfl (Y.mv rfl) (Dyp 5 rfl (Y.mv rfl) (Dy 6 rfl (Y.ldS (cs := [_, _]) ty_Query rfl (Has.pt m0) rfl) (D.st 7 rfl rfl kr (fun _ => rfl) (N.call (t_spec_ConstantsOf fo) rfl rfl rfl dc rfl (fun w Lp hA => ⟨hA.ro hq_Head, hA.ro hq_Atoms⟩)) (fun k36 _ => ?_)))))))))))))))))
        obtain ⟨a36, m36, c36⟩ := k36
        refine Ent.lenow m0 fun e36 l36 => ?_
        subst e36
        refine D.st 8 rfl rfl kr (fun _ => rfl) (N.call (t_spec_ReachUnder (Nat.le_trans consts_few dc)) rfl rfl rfl dc rfl (fun w Lp hA => ⟨hA.ro hs, hA.ro hl, hA.ro hrules, hA.ro hfacts, hA.ow m0⟩)) (fun k37 _ => ?_)
        obtain ⟨a37, m37, c37⟩ := k37
        refine Ent.lenow m0 fun e37 l37 => ?_
        subst e37
        refine D.st 9 rfl rfl kr (fun _ => rfl) (N.call (t_spec_BindingsOf jq.1 jq.2.2 (fun a _ => reachU_few hO a)) rfl rfl rfl dc rfl (fun w Lp hA => ⟨hA.ro hq_Head, hA.ro hq_Atoms, hA.ow m0⟩)) (fun k38 _ => ?_)
        obtain ⟨a38, m38, c38⟩ := k38
        refine Ent.lenow m0 fun e38 l38 => ?_
        subst e38
        refine D.st 10 rfl rfl kr (fun _ => rfl) (N.call (t_spec_l4Tuples (Nat.le_trans jq.2.1 dc) (bindsK_all (facts := reachU s l rules facts (termsF (fun t => inR t 0 9) q_Atoms)) (fun a _ => reachU_few hO a) jq.1 jq.2.2).1) rfl rfl rfl dc rfl (fun w Lp hA => ⟨hA.ro hq_Head, hA.ro hq_Atoms, hA.ow m0⟩)) (fun k39 _ => ?_)
        obtain ⟨a39, m39, c39⟩ := k39
        refine Ent.lenow m0 fun e39 l39 => ?_
        subst e39
        refine Dyp 11 rfl (Y.as rfl) (D.done kr (Et (E.ret (Ent.cv (congrArg (ow eIss [_]) (show _ = ansU s l rules (q_Head, q_Atoms) facts by exact ansU_yes2 hO q19)) ?_))))
        exact F.r1 br rfl rfl (_, _, _) trivial rfl (J := _) (.refl _) (.inl rfl)
      · refine Ey rfl ((Y.not (b := false) rfl).yd) (Ey rfl ((Y.pkf rfl rfl).yd) (En (Et (E.ct rfl (Eq_ (Er (l := [0, 1]) rfl (Est rfl (N.bsl (pvs := []) (cs := []) us_Iss ty_Is rfl dc dc (fillZ rfl rfl) rfl dc) (fun b28 _ => (Ent.drop (Eas rfl rfl (En (Et (E.ret (E.thr (Ent.mkow (A := []) (Own.nil (E := eIs) (e := tIs) (a := (some ⟨b28, 0, none⟩))) rfl (Ent.cv (congrArg (ow eIss [_]) (show _ = ansU s l rules (q_Head, q_Atoms) facts by exact ansU_no (by simp [okUnd, q25]))) ?_))))))))))))))))
        exact F.r1 br rfl rfl ((some ⟨b28, 0, none⟩), 0, 0) trivial rfl (J := _) (.refl _) (.inl rfl)
    · refine Ey rfl ((Y.not (b := false) rfl).yd) (Ey rfl ((Y.pkf rfl rfl).yd) (Emv rfl rfl (Es rfl (Es rfl (Es rfl (Es rfl (Ey rfl ((Y.pkt rfl rfl).yd) (En (Et (E.ct rfl (Eq_ (Er (l := [0, 1]) rfl (Est rfl (N.bsl (pvs := []) (cs := []) us_Iss ty_Is rfl dc dc (fillZ rfl rfl) rfl dc) (fun b28 _ => (Ent.drop (Eas rfl rfl (En (Et (E.ret (E.thr (Ent.mkow (A := []) (Own.nil (E := eIs) (e := tIs) (a := (some ⟨b28, 0, none⟩))) rfl (Ent.cv (congrArg (ow eIss [_]) (show _ = ansU s l rules (q_Head, q_Atoms) facts by exact ansU_no (by simp [q19]))) ?_))))))))))))))))))))))
      exact F.r1 br rfl rfl ((some ⟨b28, 0, none⟩), 0, 0) trivial rfl (J := _) (.refl _) (.inl rfl)
  · refine Ey rfl ((Y.not (b := false) rfl).yd) (Emv rfl rfl (Es rfl (Es rfl (Es rfl (Es rfl (Ey rfl ((Y.pkt rfl rfl).yd) (Emv rfl rfl (Es rfl (Es rfl (Es rfl (Es rfl (Ey rfl ((Y.pkt rfl rfl).yd) (En (Et (E.ct rfl (Eq_ (Er (l := [0, 1]) rfl (Est rfl (N.bsl (pvs := []) (cs := []) us_Iss ty_Is rfl dc dc (fillZ rfl rfl) rfl dc) (fun b28 _ => (Ent.drop (Eas rfl rfl (En (Et (E.ret (E.thr (Ent.mkow (A := []) (Own.nil (E := eIs) (e := tIs) (a := (some ⟨b28, 0, none⟩))) rfl (Ent.cv (congrArg (ow eIss [_]) (show _ = ansU s l rules (q_Head, q_Atoms) facts by exact ansU_no (by simp [okUnd, q14]))) ?_)))))))))))))))))))))))))))
    exact F.r1 br rfl rfl ((some ⟨b28, 0, none⟩), 0, 0) trivial rfl (J := _) (.refl _) (.inl rfl)
end Go.Proofs.YtfnagmokplpnjaaGreat
