import Derived.Test.YtnagfcajnbkdoaaT14
import Derived.Test.YtnagfcajnbkdoaaT16
import Derived.Test.YtnagfcajnbkdoaaDn
namespace Go.Proofs.Ytnagfcajnbkdoaa
open Go.RowKit
set_option linter.unusedVariables false
set_option linter.unusedSimpArgs false
set_option maxHeartbeats 2000000
attribute [local irreducible] Nop Yd Yp Ent Has Tr FnP FnP2 Src closeF closeIt missF missR closeR
theorem t_impl_MissingFacts {a_s : Option Addr} {m_s c_s : Nat} {s : List Int} {a_l : Option Addr} {m_l c_l : Nat} {l : List (Int × Int × List Int)} {a_facts : Option Addr} {m_facts c_facts : Nat} {facts : List (Int × List Int)} : Tr Try.prog 62 [.slice a_s m_s c_s, .slice a_l m_l c_l, .slice a_facts m_facts c_facts] (fun w L => Ro w L eIs [.slice a_s m_s c_s] s ∧ Ro w L eRules [.slice a_l m_l c_l] l ∧ Ro w L eFacts [.slice a_facts m_facts c_facts] facts) [] (κ := Option Addr × Nat × Nat) (fun k => True) (fun k => .slice k.1 k.2.1 k.2.2) (fun k => [ow eFacts [.slice k.1 k.2.1 k.2.2] (missR s l facts)]) := by
  refine Tr.intro Try.func62 rfl (n := 15) rfl (by decide +kernel) (Nat.le_of_ble_eq_true rfl) (fr := [(0, .slice a_s m_s c_s), (1, .slice a_l m_l c_l), (2, .slice a_facts m_facts c_facts)]) rfl fun w L hR => ?_
  obtain ⟨hs, hl, hfacts⟩ := hR
  obtain ⟨rfl, ls⟩ := hs.slen
  obtain ⟨rfl, ll⟩ := hl.slen
  obtain ⟨rfl, lfacts⟩ := hfacts.slen
  refine E.seq (E.region (l := [0]) rfl (E.y rfl rfl (by decide) ((Y.as rfl).yd) ?_))
  refine E.nil (E.thn (E.seq (E.seq (E.region (l := [0, 1, 2, 3, 4]) rfl (E.y rfl rfl (by decide) ((Y.mv rfl).yd) ?_)))))
  refine E.y rfl rfl (by decide) ((Y.mv rfl).yd) ?_
  refine E.y rfl rfl (by decide) ((Y.mv rfl).yd) ?_
  refine E.st rfl rfl (N.call0 t_impl_areRuled rfl rfl rfl (by decide) (fun w Lp hA => ⟨hA.ro hs, hA.ro hl, hA.ro hfacts⟩)) (fun _ _ => (Ent.b (fun q10 => ?_) (fun q10 => ?_)))
  · refine E.y rfl rfl (by decide) ((Y.not (b := true) rfl).yd) ?_
    refine E.nil (E.thn (E.cf rfl (E.skipc (E.thn (E.seq (E.region (l := [0, 1, 2, 3]) rfl (E.y rfl rfl (by decide) ((Y.mv rfl).yd) ?_)))))))
    refine E.y rfl rfl (by decide) ((Y.mv rfl).yd) ?_
    refine E.st rfl rfl (N.call (t_impl_missing ((ruled_b (s := s) (l := l) (facts := facts) (by first | assumption | grind)).1) ((ruled_b (s := s) (l := l) (facts := facts) (by first | assumption | grind)).2.1) ((ruled_b (s := s) (l := l) (facts := facts) (by first | assumption | grind)).2.2.1) ((ruled_b (s := s) (l := l) (facts := facts) (by first | assumption | grind)).2.2.2)) rfl rfl rfl (by decide) rfl (fun w Lp hA => ⟨hA.ro hl, hA.ro hfacts⟩)) (fun k14 _ => ?_)
    obtain ⟨a14, m14, c14⟩ := k14
    refine Ent.lenow m0 fun e14 l14 => ?_
    subst e14
    refine E.y rfl rfl (by decide) ((Y.as rfl).yd) ?_
    refine E.nil (E.thn (E.ret (Ent.cv (congrArg (ow eFacts [_]) (show _ = missR s l facts by grind [missR, List.drop_eq_getElem_cons, List.drop_eq_nil_of_le, List.take_succ_eq_append_getElem, List.take_of_length_le])) ?_)))
    exact F.r1 (Back.refl _ _) rfl rfl (_, _, _) trivial rfl (J := _) (.refl _) (.inl rfl)
  · refine E.y rfl rfl (by decide) ((Y.not (b := false) rfl).yd) ?_
    refine E.nil (E.thn (E.ct rfl (E.seq (E.region (l := [0]) rfl (E.y rfl rfl (by decide) ((Y.as rfl).yd) ?_)))))
    refine E.nil (E.thn (E.ret (E.thr (Ent.mkow (A := []) (Own.nil (E := eFact) (e := tFact) (a := none)) rfl ?_))))
    refine Ent.cv (congrArg (ow eFacts [_]) (show _ = missR s l facts by grind [missR, List.drop_eq_getElem_cons, List.drop_eq_nil_of_le, List.take_succ_eq_append_getElem, List.take_of_length_le])) ?_
    exact F.r1 (Back.refl _ _) rfl rfl (none, 0, 0) trivial rfl (J := _) (.refl _) (.inl rfl)
theorem t_spec_MissingFacts {a_s : Option Addr} {m_s c_s : Nat} {s : List Int} {a_l : Option Addr} {m_l c_l : Nat} {l : List (Int × Int × List Int)} {a_facts : Option Addr} {m_facts c_facts : Nat} {facts : List (Int × List Int)} : Tr Try.prog 61 [.slice a_s m_s c_s, .slice a_l m_l c_l, .slice a_facts m_facts c_facts] (fun w L => Ro w L eIs [.slice a_s m_s c_s] s ∧ Ro w L eRules [.slice a_l m_l c_l] l ∧ Ro w L eFacts [.slice a_facts m_facts c_facts] facts) [] (κ := Option Addr × Nat × Nat) (fun k => True) (fun k => .slice k.1 k.2.1 k.2.2) (fun k => [ow eFacts [.slice k.1 k.2.1 k.2.2] (missR s l facts)]) := by
  refine Tr.intro Try.func61 rfl (n := 21) rfl (by decide +kernel) (Nat.le_of_ble_eq_true rfl) (fr := [(0, .slice a_s m_s c_s), (1, .slice a_l m_l c_l), (2, .slice a_facts m_facts c_facts)]) rfl fun w L hR => ?_
  obtain ⟨hs, hl, hfacts⟩ := hR
  obtain ⟨rfl, ls⟩ := hs.slen
  obtain ⟨rfl, ll⟩ := hl.slen
  obtain ⟨rfl, lfacts⟩ := hfacts.slen
  refine E.seq (E.region (l := [0]) rfl (E.y rfl rfl (by decide) ((Y.as rfl).yd) ?_))
  refine E.nil (E.thn (E.seq (E.seq (E.region (l := [0, 1, 2, 3, 4, 5, 6, 7, 8, 9]) rfl (E.y rfl rfl (by decide) ((Y.mv rfl).yd) ?_)))))
  refine E.y rfl rfl (by decide) ((Y.mv rfl).yd) ?_
  refine E.st rfl rfl (N.call0 t_spec_AreRules rfl rfl rfl (by decide) (fun w Lp hA => ⟨hA.ro hs, hA.ro hl⟩)) (fun _ _ => (Ent.b (fun q9 => ?_) (fun q9 => ?_)))
  · refine E.y rfl rfl (by decide) ((Y.not (b := true) rfl).yd) ?_
    refine E.y rfl rfl (by decide) ((Y.mv rfl).yd) ?_
    refine E.y rfl rfl (by decide) ((Y.mv rfl).yd) ?_
    refine E.y rfl rfl (by decide) ((Y.mv rfl).yd) ?_
    refine E.st rfl rfl (N.call0 t_spec_AreFacts rfl rfl rfl (by decide) (fun w Lp hA => ⟨hA.ro hs, hA.ro hfacts⟩)) (fun _ _ => (Ent.b (fun q14 => ?_) (fun q14 => ?_)))
    · refine E.y rfl rfl (by decide) ((Y.not (b := true) rfl).yd) ?_
      refine E.y rfl rfl (by decide) ((Y.pkf rfl rfl).yd) ?_
      refine E.nil (E.thn (E.cf rfl (E.skipc (E.thn (E.seq (E.region (l := [0, 1, 2, 3]) rfl (E.y rfl rfl (by decide) ((Y.mv rfl).yd) ?_)))))))
      refine E.y rfl rfl (by decide) ((Y.mv rfl).yd) ?_
      refine E.st rfl rfl (N.call (t_spec_l13Missing ((ruled_b (s := s) (l := l) (facts := facts) (by first | assumption | grind)).1) ((ruled_b (s := s) (l := l) (facts := facts) (by first | assumption | grind)).2.1) ((ruled_b (s := s) (l := l) (facts := facts) (by first | assumption | grind)).2.2.1) ((ruled_b (s := s) (l := l) (facts := facts) (by first | assumption | grind)).2.2.2)) rfl rfl rfl (by decide) rfl (fun w Lp hA => ⟨hA.ro hl, hA.ro hfacts⟩)) (fun k20 _ => ?_)
      obtain ⟨a20, m20, c20⟩ := k20
      refine Ent.lenow m0 fun e20 l20 => ?_
      subst e20
      refine E.y rfl rfl (by decide) ((Y.as rfl).yd) ?_
      refine E.nil (E.thn (E.ret (Ent.cv (congrArg (ow eFacts [_]) (show _ = missR s l facts by grind [missR, List.drop_eq_getElem_cons, List.drop_eq_nil_of_le, List.take_succ_eq_append_getElem, List.take_of_length_le])) ?_)))
      exact F.r1 (Back.refl _ _) rfl rfl (_, _, _) trivial rfl (J := _) (.refl _) (.inl rfl)
    · refine E.y rfl rfl (by decide) ((Y.not (b := false) rfl).yd) ?_
      refine E.y rfl rfl (by decide) ((Y.pkf rfl rfl).yd) ?_
      refine E.nil (E.thn (E.ct rfl (E.seq (E.region (l := [0, 1]) rfl (E.st rfl rfl (N.bsl (pvs := []) (cs := []) us_Facts ty_Fact rfl (by decide) (by decide) (fillZ rfl rfl) rfl (by decide)) (fun b17 _ => ?_))))))
      refine Ent.drop ?_
      refine E.y rfl rfl (by decide) ((Y.as rfl).yd) ?_
      refine E.nil (E.thn (E.ret (E.thr (Ent.mkow (A := []) (Own.nil (E := eFact) (e := tFact) (a := (some ⟨b17, 0, none⟩))) rfl ?_))))
      refine Ent.cv (congrArg (ow eFacts [_]) (show _ = missR s l facts by grind [missR, List.drop_eq_getElem_cons, List.drop_eq_nil_of_le, List.take_succ_eq_append_getElem, List.take_of_length_le])) ?_
      exact F.r1 (Back.refl _ _) rfl rfl ((some ⟨b17, 0, none⟩), 0, 0) trivial rfl (J := _) (.refl _) (.inl rfl)
  · refine E.y rfl rfl (by decide) ((Y.not (b := false) rfl).yd) ?_
    refine E.y rfl rfl (by decide) ((Y.mv rfl).yd) ?_
    refine E.skip rfl rfl rfl ?_
    refine E.skip rfl rfl rfl ?_
    refine E.skip rfl rfl rfl ?_
    refine E.skip rfl rfl rfl ?_
    refine E.y rfl rfl (by decide) ((Y.pkt rfl rfl).yd) ?_
    refine E.nil (E.thn (E.ct rfl (E.seq (E.region (l := [0, 1]) rfl (E.st rfl rfl (N.bsl (pvs := []) (cs := []) us_Facts ty_Fact rfl (by decide) (by decide) (fillZ rfl rfl) rfl (by decide)) (fun b17 _ => ?_))))))
    refine Ent.drop ?_
    refine E.y rfl rfl (by decide) ((Y.as rfl).yd) ?_
    refine E.nil (E.thn (E.ret (E.thr (Ent.mkow (A := []) (Own.nil (E := eFact) (e := tFact) (a := (some ⟨b17, 0, none⟩))) rfl ?_))))
    refine Ent.cv (congrArg (ow eFacts [_]) (show _ = missR s l facts by grind [missR, List.drop_eq_getElem_cons, List.drop_eq_nil_of_le, List.take_succ_eq_append_getElem, List.take_of_length_le])) ?_
    exact F.r1 (Back.refl _ _) rfl rfl ((some ⟨b17, 0, none⟩), 0, 0) trivial rfl (J := _) (.refl _) (.inl rfl)
theorem t_impl_SatisfiesRules {a_s : Option Addr} {m_s c_s : Nat} {s : List Int} {a_l : Option Addr} {m_l c_l : Nat} {l : List (Int × Int × List Int)} {a_facts : Option Addr} {m_facts c_facts : Nat} {facts : List (Int × List Int)} : Tr Try.prog 60 [.slice a_s m_s c_s, .slice a_l m_l c_l, .slice a_facts m_facts c_facts] (fun w L => Ro w L eIs [.slice a_s m_s c_s] s ∧ Ro w L eRules [.slice a_l m_l c_l] l ∧ Ro w L eFacts [.slice a_facts m_facts c_facts] facts) [] (κ := Unit) (fun k => True) (fun k => .bool ((okRules s l && okFacts s facts) && decide ((missF l facts).length = 0))) (fun k => []) := by
  refine Tr.intro Try.func60 rfl (n := 18) rfl (by decide +kernel) (Nat.le_of_ble_eq_true rfl) (fr := [(0, .slice a_s m_s c_s), (1, .slice a_l m_l c_l), (2, .slice a_facts m_facts c_facts)]) rfl fun w L hR => ?_
  obtain ⟨hs, hl, hfacts⟩ := hR
  obtain ⟨rfl, ls⟩ := hs.slen
  obtain ⟨rfl, ll⟩ := hl.slen
  obtain ⟨rfl, lfacts⟩ := hfacts.slen
  refine E.seq (E.region (l := [0]) rfl (E.y rfl rfl (by decide) ((Y.as rfl).yd) ?_))
  refine E.nil (E.thn (E.seq (E.region (l := [0, 1, 2, 3, 4, 5, 6, 7, 8, 9, 10, 11]) rfl (E.y rfl rfl (by decide) ((Y.mv rfl).yd) ?_))))
  refine E.y rfl rfl (by decide) ((Y.mv rfl).yd) ?_
  refine E.y rfl rfl (by decide) ((Y.mv rfl).yd) ?_
  refine E.st rfl rfl (N.call0 t_impl_areRuled rfl rfl rfl (by decide) (fun w Lp hA => ⟨hA.ro hs, hA.ro hl, hA.ro hfacts⟩)) (fun _ _ => (Ent.b (fun q10 => ?_) (fun q10 => ?_)))
  · refine E.y rfl rfl (by decide) ((Y.mv rfl).yd) ?_
    refine E.y rfl rfl (by decide) ((Y.mv rfl).yd) ?_
    refine E.y rfl rfl (by decide) ((Y.mv rfl).yd) ?_
    refine E.st rfl rfl (N.call (t_impl_missing ((ruled_b (s := s) (l := l) (facts := facts) (by first | assumption | grind)).1) ((ruled_b (s := s) (l := l) (facts := facts) (by first | assumption | grind)).2.1) ((ruled_b (s := s) (l := l) (facts := facts) (by first | assumption | grind)).2.2.1) ((ruled_b (s := s) (l := l) (facts := facts) (by first | assumption | grind)).2.2.2)) rfl rfl rfl (by decide) rfl (fun w Lp hA => ⟨hA.ro hl, hA.ro hfacts⟩)) (fun k14 _ => ?_)
    obtain ⟨a14, m14, c14⟩ := k14
    refine Ent.lenow m0 fun e14 l14 => ?_
    subst e14
    refine E.y rfl rfl (by decide) ((Y.len us_Facts rfl).yd) ?_
    refine E.y rfl rfl (by decide) ((Y.eql rfl rfl).yd) ?_
    refine E.y rfl rfl (by decide) ((Y.pkt rfl rfl).yd) ?_
    refine E.y rfl rfl (by decide) ((Y.as rfl).yd) ?_
    exact E.nil (E.thn (E.ret (F.r1 (Back.refl _ _) rfl rfl () trivial (congrArg Value.bool (by grind [List.drop_eq_getElem_cons, List.drop_eq_nil_of_le, List.take_succ_eq_append_getElem, List.take_of_length_le])) (J := _) (.refl _) (.inl rfl))))
  · refine E.y rfl rfl (by decide) ((Y.mv rfl).yd) ?_
    refine E.skip rfl rfl rfl ?_
    refine E.skip rfl rfl rfl ?_
    refine E.skip rfl rfl rfl ?_
    refine E.skip rfl rfl rfl ?_
    refine E.skip rfl rfl rfl ?_
    refine E.y rfl rfl (by decide) ((Y.pkf rfl rfl).yd) ?_
    refine E.y rfl rfl (by decide) ((Y.as rfl).yd) ?_
    exact E.nil (E.thn (E.ret (F.r1 (Back.refl _ _) rfl rfl () trivial (congrArg Value.bool (by grind [List.drop_eq_getElem_cons, List.drop_eq_nil_of_le, List.take_succ_eq_append_getElem, List.take_of_length_le])) (J := _) (.refl _) (.inl rfl))))
theorem t_spec_SatisfiesRules {a_s : Option Addr} {m_s c_s : Nat} {s : List Int} {a_l : Option Addr} {m_l c_l : Nat} {l : List (Int × Int × List Int)} {a_facts : Option Addr} {m_facts c_facts : Nat} {facts : List (Int × List Int)} : Tr Try.prog 59 [.slice a_s m_s c_s, .slice a_l m_l c_l, .slice a_facts m_facts c_facts] (fun w L => Ro w L eIs [.slice a_s m_s c_s] s ∧ Ro w L eRules [.slice a_l m_l c_l] l ∧ Ro w L eFacts [.slice a_facts m_facts c_facts] facts) [] (κ := Unit) (fun k => True) (fun k => .bool ((okRules s l && okFacts s facts) && decide ((missF l facts).length = 0))) (fun k => []) := by
  refine Tr.intro Try.func59 rfl (n := 22) rfl (by decide +kernel) (Nat.le_of_ble_eq_true rfl) (fr := [(0, .slice a_s m_s c_s), (1, .slice a_l m_l c_l), (2, .slice a_facts m_facts c_facts)]) rfl fun w L hR => ?_
  obtain ⟨hs, hl, hfacts⟩ := hR
  obtain ⟨rfl, ls⟩ := hs.slen
  obtain ⟨rfl, ll⟩ := hl.slen
  obtain ⟨rfl, lfacts⟩ := hfacts.slen
  refine E.seq (E.region (l := [0]) rfl (E.y rfl rfl (by decide) ((Y.as rfl).yd) ?_))
  refine E.nil (E.thn (E.seq (E.region (l := [0, 1, 2, 3, 4, 5, 6, 7, 8, 9, 10, 11, 12, 13, 14, 15]) rfl (E.y rfl rfl (by decide) ((Y.mv rfl).yd) ?_))))
  refine E.y rfl rfl (by decide) ((Y.mv rfl).yd) ?_
  refine E.st rfl rfl (N.call0 t_spec_AreRules rfl rfl rfl (by decide) (fun w Lp hA => ⟨hA.ro hs, hA.ro hl⟩)) (fun _ _ => (Ent.b (fun q9 => ?_) (fun q9 => ?_)))
  · refine E.y rfl rfl (by decide) ((Y.mv rfl).yd) ?_
    refine E.y rfl rfl (by decide) ((Y.mv rfl).yd) ?_
    refine E.y rfl rfl (by decide) ((Y.mv rfl).yd) ?_
    refine E.st rfl rfl (N.call0 t_spec_AreFacts rfl rfl rfl (by decide) (fun w Lp hA => ⟨hA.ro hs, hA.ro hfacts⟩)) (fun _ _ => (Ent.b (fun q13 => ?_) (fun q13 => ?_)))
    · refine E.y rfl rfl (by decide) ((Y.pkt rfl rfl).yd) ?_
      refine E.y rfl rfl (by decide) ((Y.mv rfl).yd) ?_
      refine E.y rfl rfl (by decide) ((Y.mv rfl).yd) ?_
      refine E.y rfl rfl (by decide) ((Y.mv rfl).yd) ?_
      refine E.st rfl rfl (N.call (t_spec_l13Missing ((ruled_b (s := s) (l := l) (facts := facts) (by first | assumption | grind)).1) ((ruled_b (s := s) (l := l) (facts := facts) (by first | assumption | grind)).2.1) ((ruled_b (s := s) (l := l) (facts := facts) (by first | assumption | grind)).2.2.1) ((ruled_b (s := s) (l := l) (facts := facts) (by first | assumption | grind)).2.2.2)) rfl rfl rfl (by decide) rfl (fun w Lp hA => ⟨hA.ro hl, hA.ro hfacts⟩)) (fun k18 _ => ?_)
      obtain ⟨a18, m18, c18⟩ := k18
      refine Ent.lenow m0 fun e18 l18 => ?_
      subst e18
      refine E.y rfl rfl (by decide) ((Y.len us_Facts rfl).yd) ?_
      refine E.y rfl rfl (by decide) ((Y.eql rfl rfl).yd) ?_
      refine E.y rfl rfl (by decide) ((Y.pkt rfl rfl).yd) ?_
      refine E.y rfl rfl (by decide) ((Y.as rfl).yd) ?_
      exact E.nil (E.thn (E.ret (F.r1 (Back.refl _ _) rfl rfl () trivial (congrArg Value.bool (by grind [List.drop_eq_getElem_cons, List.drop_eq_nil_of_le, List.take_succ_eq_append_getElem, List.take_of_length_le])) (J := _) (.refl _) (.inl rfl))))
    · refine E.y rfl rfl (by decide) ((Y.pkt rfl rfl).yd) ?_
      refine E.y rfl rfl (by decide) ((Y.mv rfl).yd) ?_
      refine E.skip rfl rfl rfl ?_
      refine E.skip rfl rfl rfl ?_
      refine E.skip rfl rfl rfl ?_
      refine E.skip rfl rfl rfl ?_
      refine E.skip rfl rfl rfl ?_
      refine E.y rfl rfl (by decide) ((Y.pkf rfl rfl).yd) ?_
      refine E.y rfl rfl (by decide) ((Y.as rfl).yd) ?_
      exact E.nil (E.thn (E.ret (F.r1 (Back.refl _ _) rfl rfl () trivial (congrArg Value.bool (by grind [List.drop_eq_getElem_cons, List.drop_eq_nil_of_le, List.take_succ_eq_append_getElem, List.take_of_length_le])) (J := _) (.refl _) (.inl rfl))))
  · refine E.y rfl rfl (by decide) ((Y.mv rfl).yd) ?_
    refine E.skip rfl rfl rfl ?_
    refine E.skip rfl rfl rfl ?_
    refine E.skip rfl rfl rfl ?_
    refine E.y rfl rfl (by decide) ((Y.pkf rfl rfl).yd) ?_
    refine E.y rfl rfl (by decide) ((Y.mv rfl).yd) ?_
    refine E.skip rfl rfl rfl ?_
    refine E.skip rfl rfl rfl ?_
    refine E.skip rfl rfl rfl ?_
    refine E.skip rfl rfl rfl ?_
    refine E.skip rfl rfl rfl ?_
    refine E.y rfl rfl (by decide) ((Y.pkf rfl rfl).yd) ?_
    refine E.y rfl rfl (by decide) ((Y.as rfl).yd) ?_
    exact E.nil (E.thn (E.ret (F.r1 (Back.refl _ _) rfl rfl () trivial (congrArg Value.bool (by grind [List.drop_eq_getElem_cons, List.drop_eq_nil_of_le, List.take_succ_eq_append_getElem, List.take_of_length_le])) (J := _) (.refl _) (.inl rfl))))
theorem t_laws_FnExactMissingFacts {a_aS : Option Addr} {m_aS c_aS : Nat} {aS : List Int} {a_aL : Option Addr} {m_aL c_aL : Nat} {aL : List (Int × Int × List Int)} {a_aFacts : Option Addr} {m_aFacts c_aFacts : Nat} {aFacts : List (Int × List Int)} : Tr Try.prog 9 [.slice a_aS m_aS c_aS, .slice a_aL m_aL c_aL, .slice a_aFacts m_aFacts c_aFacts] (fun w L => Ro w L eIs [.slice a_aS m_aS c_aS] aS ∧ Ro w L eRules [.slice a_aL m_aL c_aL] aL ∧ Ro w L eFacts [.slice a_aFacts m_aFacts c_aFacts] aFacts) [] (κ := Unit) (fun k => True) (fun k => .bool (true)) (fun k => []) := by
  refine Tr.intro Try.func9 rfl (n := 113) rfl (by decide +kernel) (Nat.le_of_ble_eq_true rfl) (fr := [(0, .slice a_aS m_aS c_aS), (1, .slice a_aL m_aL c_aL), (2, .slice a_aFacts m_aFacts c_aFacts)]) rfl fun w L hR => ?_
  obtain ⟨haS, haL, haFacts⟩ := hR
  obtain ⟨rfl, laS⟩ := haS.slen
  obtain ⟨rfl, laL⟩ := haL.slen
  obtain ⟨rfl, laFacts⟩ := haFacts.slen
  have b_aS := totS_I (l := aS)
  have b_aL := totS_lin (c := cE_Rule) (t := (fun x => x.2.2.length)) (n := 2) (fun x => by simp only [cE_Rule, totS_I]; omega) (l := aL)
  have c_aL : totL (fun x => x.2.2.length) aL = aL.length + totS (fun x => x.2.2.length) aL := rfl
  have b_aFacts := totS_lin (c := cE_Fact) (t := (fun x => x.2.length)) (n := 1) (fun x => by simp only [cE_Fact, totS_I]; omega) (l := aFacts)
  have c_aFacts : totL (fun x => x.2.length) aFacts = aFacts.length + totS (fun x => x.2.length) aFacts := rfl
  have r1 := missR_tot (s := aS) (l := aL) (facts := aFacts)
  refine E.seq (E.region (l := [0]) rfl (E.y rfl rfl (by decide) ((Y.as rfl).yd) ?_))
  refine E.nil (E.thn (E.seq (E.seq (E.region (l := [0, 1, 2]) rfl (E.y rfl rfl (by decide) ((Y.mv rfl).yd) ?_)))))
  refine E.y rfl rfl (by decide) ((Y.len us_Is rfl).yd) ?_
  refine E.y rfl rfl (by decide) ((Y.gtr rfl rfl).yd) (Ent.d (fun q19 => ?_) (fun q19 => ?_))
  · refine E.nil (E.thn (E.ct rfl (E.seq (E.region (l := [0]) rfl (E.y rfl rfl (by decide) ((Y.as rfl).yd) ?_)))))
    exact E.nil (E.thn (E.ret (E.thr (F.r1 (Back.refl _ _) rfl rfl () trivial rfl (J := _) (.refl _) (.inl rfl)))))
  · refine E.nil (E.thn (E.cf rfl (E.skipc (E.thn (E.seq (E.region (l := [0]) rfl (E.y rfl rfl (by decide) ((Y.as rfl).yd) ?_)))))))
    refine E.nil (E.thn (E.seq (E.region (l := [0, 1, 2, 3]) rfl (E.y rfl rfl (by decide) ((Y.mv rfl).yd) ?_))))
    refine E.y rfl rfl (by decide) ((Y.mv rfl).yd) ?_
    refine E.st rfl rfl (N.call0 t_laws_szRuleS rfl rfl rfl (by decide) (fun w Lp hA => ⟨hA.ro haL, (by first | assumption | omega), (by first | assumption | omega)⟩)) (fun _ _ => ?_)
    refine E.y rfl rfl (by decide) ((Y.as rfl).yd) ?_
    refine E.nil (E.thn (E.seq (E.seq (E.region (l := [0, 1]) rfl (E.y rfl rfl (by decide) ((Y.mv rfl).yd) ?_)))))
    refine E.y rfl rfl (by decide) ((Y.lss rfl rfl).yd) (Ent.d (fun q24 => ?_) (fun q24 => ?_))
    · have z24 := szR_bad q24 (by omega)
      refine E.nil (E.thn (E.ct rfl (E.seq (E.region (l := [0]) rfl (E.y rfl rfl (by decide) ((Y.as rfl).yd) ?_)))))
      exact E.nil (E.thn (E.ret (E.thr (F.r1 (Back.refl _ _) rfl rfl () trivial rfl (J := _) (.refl _) (.inl rfl)))))
    · obtain ⟨z24, y24⟩ := szR_ok q24 (by omega)
      refine E.nil (E.thn (E.cf rfl (E.skipc (E.thn (E.seq (E.region (l := [0, 1, 2, 3]) rfl (E.y rfl rfl (by decide) ((Y.mv rfl).yd) ?_)))))))
      refine E.y rfl rfl (by decide) ((Y.mv rfl).yd) ?_
      refine E.st rfl rfl (N.call0 t_laws_szFactS rfl rfl rfl (by decide) (fun w Lp hA => ⟨hA.ro haFacts, (by first | assumption | omega), (by first | assumption | omega)⟩)) (fun _ _ => ?_)
      refine E.y rfl rfl (by decide) ((Y.as rfl).yd) ?_
      refine E.nil (E.thn (E.seq (E.seq (E.region (l := [0, 1]) rfl (E.y rfl rfl (by decide) ((Y.mv rfl).yd) ?_)))))
      refine E.y rfl rfl (by decide) ((Y.lss rfl rfl).yd) (Ent.d (fun q29 => ?_) (fun q29 => ?_))
      · have z29 := szR_bad q29 (by omega)
        refine E.nil (E.thn (E.ct rfl (E.seq (E.region (l := [0]) rfl (E.y rfl rfl (by decide) ((Y.as rfl).yd) ?_)))))
        exact E.nil (E.thn (E.ret (E.thr (F.r1 (Back.refl _ _) rfl rfl () trivial rfl (J := _) (.refl _) (.inl rfl)))))
      · obtain ⟨z29, y29⟩ := szR_ok q29 (by omega)
        refine E.nil (E.thn (E.cf rfl (E.skipc (E.thn (E.seq (E.region (l := [0, 1, 2, 3, 4, 5, 6, 7]) rfl (E.y rfl rfl (by decide) ((Y.mv rfl).yd) ?_)))))))
        refine E.st rfl rfl (N.call (t_laws_toIntS (by first | omega | assumption | (constructor <;> omega))) rfl rfl rfl (by decide) rfl (fun w Lp hA => hA.ro haS)) (fun k31 _ => ?_)
        obtain ⟨a31, m31, c31⟩ := k31
        refine Ent.lenow m0 fun e31 l31 => ?_
        subst e31
        refine E.y rfl rfl (by decide) ((Y.mv rfl).yd) ?_
        refine E.st rfl rfl (N.call (t_laws_toRuleS (by first | omega | assumption | (constructor <;> omega))) rfl rfl rfl (by decide) rfl (fun w Lp hA => hA.ro haL)) (fun k33 _ => ?_)
        obtain ⟨a33, m33, c33⟩ := k33
        refine Ent.lenow m0 fun e33 l33 => ?_
        subst e33
        refine E.y rfl rfl (by decide) ((Y.mv rfl).yd) ?_
        refine E.st rfl rfl (N.call (t_laws_toFactS (by first | omega | assumption | (constructor <;> omega))) rfl rfl rfl (by decide) rfl (fun w Lp hA => hA.ro haFacts)) (fun k35 _ => ?_)
        obtain ⟨a35, m35, c35⟩ := k35
        refine Ent.lenow m0 fun e35 l35 => ?_
        subst e35
        refine E.st rfl rfl (N.call t_spec_MissingFacts rfl rfl rfl (by decide) rfl (fun w Lp hA => ⟨hA.ow (mS (mS m0)), hA.ow (mS m0), hA.ow m0⟩)) (fun k36 _ => ?_)
        obtain ⟨a36, m36, c36⟩ := k36
        refine Ent.lenow m0 fun e36 l36 => ?_
        subst e36
        refine E.y rfl rfl (by decide) ((Y.as rfl).yd) ?_
        refine E.nil (E.thn (E.seq (E.region (l := [0, 1, 2]) rfl (E.y rfl rfl (by decide) ((Y.mv rfl).yd) ?_))))
        refine E.st rfl rfl (N.call (t_laws_toIntS (by first | omega | assumption | (constructor <;> omega))) rfl rfl rfl (by decide) rfl (fun w Lp hA => hA.ro haS)) (fun k38 _ => ?_)
        obtain ⟨a38, m38, c38⟩ := k38
        refine Ent.lenow m0 fun e38 l38 => ?_
        subst e38
        refine E.y rfl rfl (by decide) ((Y.as rfl).yd) ?_
        refine E.nil (E.thn (E.seq (E.region (l := [0, 1, 2]) rfl (E.y rfl rfl (by decide) ((Y.mv rfl).yd) ?_))))
        refine E.st rfl rfl (N.call (t_laws_toRuleS (by first | omega | assumption | (constructor <;> omega))) rfl rfl rfl (by decide) rfl (fun w Lp hA => hA.ro haL)) (fun k40 _ => ?_)
        obtain ⟨a40, m40, c40⟩ := k40
        refine Ent.lenow m0 fun e40 l40 => ?_
        subst e40
        refine E.y rfl rfl (by decide) ((Y.as rfl).yd) ?_
        refine E.nil (E.thn (E.seq (E.region (l := [0, 1, 2]) rfl (E.y rfl rfl (by decide) ((Y.mv rfl).yd) ?_))))
        refine E.st rfl rfl (N.call (t_laws_toFactS (by first | omega | assumption | (constructor <;> omega))) rfl rfl rfl (by decide) rfl (fun w Lp hA => hA.ro haFacts)) (fun k42 _ => ?_)
        obtain ⟨a42, m42, c42⟩ := k42
        refine Ent.lenow m0 fun e42 l42 => ?_
        subst e42
        refine E.y rfl rfl (by decide) ((Y.as rfl).yd) ?_
        refine E.nil (E.thn (E.seq (E.region (l := [0, 1, 2, 3, 4]) rfl (E.y rfl rfl (by decide) ((Y.mv rfl).yd) ?_))))
        refine E.y rfl rfl (by decide) ((Y.mv rfl).yd) ?_
        refine E.y rfl rfl (by decide) ((Y.mv rfl).yd) ?_
        refine E.st rfl rfl (N.call t_impl_MissingFacts rfl rfl rfl (by decide) rfl (fun w Lp hA => ⟨hA.ow (mS (mS m0)), hA.ow (mS m0), hA.ow m0⟩)) (fun k46 _ => ?_)
        obtain ⟨a46, m46, c46⟩ := k46
        refine Ent.lenow m0 fun e46 l46 => ?_
        subst e46
        refine E.y rfl rfl (by decide) ((Y.as rfl).yd) ?_
        refine E.nil (E.thn (E.seq (E.seq (E.region (l := [0, 1, 2, 3]) rfl (E.y rfl rfl (by decide) ((Y.mv rfl).yd) ?_)))))
        refine E.y rfl rfl (by decide) ((Y.mv rfl).yd) ?_
        refine E.st rfl rfl (N.call0 t_laws_eqFactS rfl rfl rfl (by decide) (fun w Lp hA => ⟨hA.ow m0, hA.ow (mS (mS (mS (mS m0))))⟩)) (fun _ _ => (Ent.b (fun q49 => ?_) (fun q49 => ?_)))
        · refine E.y rfl rfl (by decide) ((Y.not (b := true) rfl).yd) ?_
          refine E.nil (E.thn (E.cf rfl (E.skipc (E.thn (E.seq (E.seq (E.region (l := [0, 1, 2, 3, 4]) rfl (E.y rfl rfl (by decide) ((Y.mv rfl).yd) ?_))))))))
          refine E.y rfl rfl (by decide) ((Y.mv rfl).yd) ?_
          refine E.st rfl rfl (N.call (t_laws_toIntS (by first | omega | assumption | (constructor <;> omega))) rfl rfl rfl (by decide) rfl (fun w Lp hA => hA.ro haS)) (fun k53 _ => ?_)
          obtain ⟨a53, m53, c53⟩ := k53
          refine Ent.lenow m0 fun e53 l53 => ?_
          subst e53
          refine E.st rfl rfl (N.call0 t_laws_eqIntS rfl rfl rfl (by decide) (fun w Lp hA => ⟨hA.ow (mS (mS (mS (mS m0)))), hA.ow m0⟩)) (fun _ _ => (Ent.b (fun q54 => ?_) (fun q54 => ?_)))
          · refine E.y rfl rfl (by decide) ((Y.not (b := true) rfl).yd) ?_
            refine E.nil (E.thn (E.cf rfl (E.skipc (E.thn (E.seq (E.seq (E.region (l := [0, 1, 2, 3, 4]) rfl (E.y rfl rfl (by decide) ((Y.mv rfl).yd) ?_))))))))
            refine E.y rfl rfl (by decide) ((Y.mv rfl).yd) ?_
            refine E.st rfl rfl (N.call (t_laws_toRuleS (by first | omega | assumption | (constructor <;> omega))) rfl rfl rfl (by decide) rfl (fun w Lp hA => hA.ro haL)) (fun k58 _ => ?_)
            obtain ⟨a58, m58, c58⟩ := k58
            refine Ent.lenow m0 fun e58 l58 => ?_
            subst e58
            refine E.st rfl rfl (N.call0 t_laws_eqRuleS rfl rfl rfl (by decide) (fun w Lp hA => ⟨hA.ow (mS (mS (mS (mS m0)))), hA.ow m0⟩)) (fun _ _ => (Ent.b (fun q59 => ?_) (fun q59 => ?_)))
            · refine E.y rfl rfl (by decide) ((Y.not (b := true) rfl).yd) ?_
              refine E.nil (E.thn (E.cf rfl (E.skipc (E.thn (E.seq (E.seq (E.region (l := [0, 1, 2, 3, 4]) rfl (E.y rfl rfl (by decide) ((Y.mv rfl).yd) ?_))))))))
              refine E.y rfl rfl (by decide) ((Y.mv rfl).yd) ?_
              refine E.st rfl rfl (N.call (t_laws_toFactS (by first | omega | assumption | (constructor <;> omega))) rfl rfl rfl (by decide) rfl (fun w Lp hA => hA.ro haFacts)) (fun k63 _ => ?_)
              obtain ⟨a63, m63, c63⟩ := k63
              refine Ent.lenow m0 fun e63 l63 => ?_
              subst e63
              refine E.st rfl rfl (N.call0 t_laws_eqFactS rfl rfl rfl (by decide) (fun w Lp hA => ⟨hA.ow (mS (mS (mS (mS m0)))), hA.ow m0⟩)) (fun _ _ => (Ent.b (fun q64 => ?_) (fun q64 => ?_)))
              · refine E.y rfl rfl (by decide) ((Y.not (b := true) rfl).yd) ?_
                refine E.nil (E.thn (E.cf rfl (E.skipc (E.thn (E.seq (E.region (l := [0]) rfl (E.y rfl rfl (by decide) ((Y.as rfl).yd) ?_)))))))
                refine E.nil (E.thn (E.seq (E.region (l := [0, 1, 2, 3]) rfl (E.y rfl rfl (by decide) ((Y.mv rfl).yd) ?_))))
                refine E.y rfl rfl (by decide) ((Y.mv rfl).yd) ?_
                refine Ent.p6 ?_
                refine E.st rfl rfl (N.call (pre := [_]) t_laws_markIntS rfl rfl rfl (by decide) rfl (fun w Lp hA => ⟨(by first | assumption | omega), (by first | assumption | omega)⟩)) (fun _ _ => ?_)
                refine E.y rfl rfl (by decide) ((Y.as rfl).yd) ?_
                refine E.nil (E.thn (E.seq (E.region (l := [0, 1, 2, 3]) rfl (E.y rfl rfl (by decide) ((Y.mv rfl).yd) ?_))))
                refine E.y rfl rfl (by decide) ((Y.mv rfl).yd) ?_
                refine Ent.p6 ?_
                refine E.st rfl rfl (N.call (pre := [_]) t_laws_markRuleS rfl rfl rfl (by decide) rfl (fun w Lp hA => ⟨(by first | assumption | omega), (by first | assumption | omega)⟩)) (fun _ _ => ?_)
                refine E.y rfl rfl (by decide) ((Y.as rfl).yd) ?_
                refine E.nil (E.thn (E.seq (E.region (l := [0, 1, 2, 3]) rfl (E.y rfl rfl (by decide) ((Y.mv rfl).yd) ?_))))
                refine E.y rfl rfl (by decide) ((Y.mv rfl).yd) ?_
                refine Ent.p6 ?_
                refine E.st rfl rfl (N.call (pre := [_]) t_laws_markFactS rfl rfl rfl (by decide) rfl (fun w Lp hA => ⟨(by first | assumption | omega), (by first | assumption | omega)⟩)) (fun _ _ => ?_)
                refine E.y rfl rfl (by decide) ((Y.as rfl).yd) ?_
                refine E.nil (E.thn (E.seq (E.seq (E.region (l := [0, 1, 2, 3, 4, 5, 6, 7]) rfl (E.y rfl rfl (by decide) ((Y.mv rfl).yd) ?_)))))
                refine E.y rfl rfl (by decide) ((Y.lss rfl rfl).yd) (Ent.d (fun q76 => ?_) (fun q76 => ?_))
                · exact absurd q76 (by omega)
                · refine E.y rfl rfl (by decide) ((Y.mv rfl).yd) ?_
                  refine E.y rfl rfl (by decide) ((Y.mv rfl).yd) ?_
                  refine E.y rfl rfl (by decide) ((Y.mv rfl).yd) ?_
                  refine E.st rfl rfl (N.call0 t_laws_eqFactS rfl rfl rfl (by decide) (fun w Lp hA => ⟨hA.ow (mS (mS (mS (mS (mS (mS m0)))))), hA.ow (mS (mS (mS (mS (mS (mS (mS m0)))))))⟩)) (fun _ _ => (Ent.b (fun q80 => ?_) (fun q80 => ?_)))
                  · refine E.y rfl rfl (by decide) ((Y.not (b := true) rfl).yd) ?_
                    refine E.y rfl rfl (by decide) ((Y.pkf rfl rfl).yd) ?_
                    refine E.nil (E.thn (E.cf rfl (E.skipc (E.thn (E.seq (E.region (l := [0]) rfl (E.y rfl rfl (by decide) ((Y.as rfl).yd) ?_)))))))
                    refine E.nil (E.thn (E.seq (E.region (l := [0, 1, 2, 3]) rfl (E.y rfl rfl (by decide) ((Y.mv rfl).yd) ?_))))
                    refine E.y rfl rfl (by decide) ((Y.mv rfl).yd) ?_
                    refine Ent.p6 ?_
                    refine E.st rfl rfl (N.call (pre := [_]) t_laws_markFactS rfl rfl rfl (by decide) rfl (fun w Lp hA => ⟨(by first | assumption | omega), (by first | assumption | omega)⟩)) (fun _ _ => ?_)
                    refine E.y rfl rfl (by decide) ((Y.as rfl).yd) ?_
                    refine E.nil (E.thn (E.seq (E.region (l := [0]) rfl (E.y rfl rfl (by decide) ((Y.as rfl).yd) ?_))))
                    refine E.nil (E.thn (E.seq (E.region (l := [0, 1, 2, 3]) rfl (E.y rfl rfl (by decide) ((Y.mv rfl).yd) ?_))))
                    refine E.y rfl rfl (by decide) ((Y.mv rfl).yd) ?_
                    refine E.st rfl rfl (N.call0 (t_laws_heldFactS (mkL_mk cm_Fact mm_Fact)) rfl rfl rfl (by decide) (fun w Lp hA => ⟨hA.ow m0, (by (try simp only [mkL_c cm_I, mkL_c cm_Is, mkL_c cm_Fact, mkL_c cm_Facts, mkL_c cm_Atom, mkL_c cm_Atoms, mkL_c cm_Access, mkL_c cm_Accesss, mkL_c cm_Step, mkL_c cm_Steps, mkL_c cm_Query, mkL_c cm_Querys, mkL_c cm_Binding, mkL_c cm_Bindings, mkL_c cm_Method, mkL_c cm_Methods, mkL_c cm_Rule, mkL_c cm_Rules, mkL_c cm_Line, mkL_c cm_Lines]); omega), (by (try simp only [mkL_c cm_I, mkL_c cm_Is, mkL_c cm_Fact, mkL_c cm_Facts, mkL_c cm_Atom, mkL_c cm_Atoms, mkL_c cm_Access, mkL_c cm_Accesss, mkL_c cm_Step, mkL_c cm_Steps, mkL_c cm_Query, mkL_c cm_Querys, mkL_c cm_Binding, mkL_c cm_Bindings, mkL_c cm_Method, mkL_c cm_Methods, mkL_c cm_Rule, mkL_c cm_Rules, mkL_c cm_Line, mkL_c cm_Lines]); omega)⟩)) (fun _ _ => ?_)
                    refine E.y rfl rfl (by decide) ((Y.as rfl).yd) ?_
                    refine E.nil (E.thn (E.seq (E.seq (E.region (l := [0, 1]) rfl (E.y rfl rfl (by decide) ((Y.mv rfl).yd) ?_)))))
                    refine E.y rfl rfl (by decide) ((Y.lss rfl rfl).yd) (Ent.d (fun q90 => ?_) (fun q90 => ?_))
                    · exact absurd q90 (by omega)
                    · refine E.nil (E.thn (E.cf rfl (E.skipc (E.thn (E.seq (E.seq (E.region (l := [0, 1, 2]) rfl (E.y rfl rfl (by decide) ((Y.mv rfl).yd) ?_))))))))
                      refine E.y rfl rfl (by decide) ((Y.mv rfl).yd) ?_
                      refine E.y rfl rfl (by decide) ((Y.neq rfl rfl).yd) (Ent.d (fun q93 => ?_) (fun q93 => ?_))
                      · exact absurd (by simp only [mkL_c cm_I, mkL_c cm_Is, mkL_c cm_Fact, mkL_c cm_Facts, mkL_c cm_Atom, mkL_c cm_Atoms, mkL_c cm_Access, mkL_c cm_Accesss, mkL_c cm_Step, mkL_c cm_Steps, mkL_c cm_Query, mkL_c cm_Querys, mkL_c cm_Binding, mkL_c cm_Bindings, mkL_c cm_Method, mkL_c cm_Methods, mkL_c cm_Rule, mkL_c cm_Rules, mkL_c cm_Line, mkL_c cm_Lines]) q93
                      · refine E.nil (E.thn (E.cf rfl (E.skipc (E.thn (E.seq (E.region (l := [0, 1, 2, 3, 4, 5, 6, 7]) rfl (E.y rfl rfl (by decide) ((Y.mv rfl).yd) ?_)))))))
                        refine E.st rfl rfl (N.call (t_laws_toIntS (by first | omega | assumption | (constructor <;> omega))) rfl rfl rfl (by decide) rfl (fun w Lp hA => hA.ro haS)) (fun k95 _ => ?_)
                        obtain ⟨a95, m95, c95⟩ := k95
                        refine Ent.lenow m0 fun e95 l95 => ?_
                        subst e95
                        refine E.y rfl rfl (by decide) ((Y.mv rfl).yd) ?_
                        refine E.st rfl rfl (N.call (t_laws_toRuleS (by first | omega | assumption | (constructor <;> omega))) rfl rfl rfl (by decide) rfl (fun w Lp hA => hA.ro haL)) (fun k97 _ => ?_)
                        obtain ⟨a97, m97, c97⟩ := k97
                        refine Ent.lenow m0 fun e97 l97 => ?_
                        subst e97
                        refine E.y rfl rfl (by decide) ((Y.mv rfl).yd) ?_
                        refine E.st rfl rfl (N.call (t_laws_toFactS (by first | omega | assumption | (constructor <;> omega))) rfl rfl rfl (by decide) rfl (fun w Lp hA => hA.ro haFacts)) (fun k99 _ => ?_)
                        obtain ⟨a99, m99, c99⟩ := k99
                        refine Ent.lenow m0 fun e99 l99 => ?_
                        subst e99
                        refine E.st rfl rfl (N.call t_impl_MissingFacts rfl rfl rfl (by decide) rfl (fun w Lp hA => ⟨hA.ow (mS (mS m0)), hA.ow (mS m0), hA.ow m0⟩)) (fun k100 _ => ?_)
                        obtain ⟨a100, m100, c100⟩ := k100
                        refine Ent.lenow m0 fun e100 l100 => ?_
                        subst e100
                        refine E.y rfl rfl (by decide) ((Y.as rfl).yd) ?_
                        refine E.nil (E.thn (E.seq (E.seq (E.region (l := [0, 1, 2, 3]) rfl (E.y rfl rfl (by decide) ((Y.mv rfl).yd) ?_)))))
                        refine E.y rfl rfl (by decide) ((Y.mv rfl).yd) ?_
                        refine E.st rfl rfl (N.call0 t_laws_eqFactS rfl rfl rfl (by decide) (fun w Lp hA => ⟨hA.ow m0, hA.ow (mS (mS (mS (mS (mS (mS (mS (mS (mS (mS (mS m0)))))))))))⟩)) (fun _ _ => (Ent.b (fun q103 => ?_) (fun q103 => ?_)))
                        · refine E.y rfl rfl (by decide) ((Y.not (b := true) rfl).yd) ?_
                          refine E.nil (E.thn (E.cf rfl (E.skipc (E.thn (E.seq (E.region (l := [0]) rfl (E.y rfl rfl (by decide) ((Y.as rfl).yd) ?_)))))))
                          refine E.nil (E.thn (E.seq (E.region (l := [0, 1, 2, 3]) rfl (E.y rfl rfl (by decide) ((Y.mv rfl).yd) ?_))))
                          refine E.y rfl rfl (by decide) ((Y.mv rfl).yd) ?_
                          refine E.st rfl rfl (N.call0 (t_laws_heldFactS (mkL_mk cm_Fact mm_Fact)) rfl rfl rfl (by decide) (fun w Lp hA => ⟨hA.ow (mS (mS (mS (mS m0)))), (by (try simp only [mkL_c cm_I, mkL_c cm_Is, mkL_c cm_Fact, mkL_c cm_Facts, mkL_c cm_Atom, mkL_c cm_Atoms, mkL_c cm_Access, mkL_c cm_Accesss, mkL_c cm_Step, mkL_c cm_Steps, mkL_c cm_Query, mkL_c cm_Querys, mkL_c cm_Binding, mkL_c cm_Bindings, mkL_c cm_Method, mkL_c cm_Methods, mkL_c cm_Rule, mkL_c cm_Rules, mkL_c cm_Line, mkL_c cm_Lines]); omega), (by (try simp only [mkL_c cm_I, mkL_c cm_Is, mkL_c cm_Fact, mkL_c cm_Facts, mkL_c cm_Atom, mkL_c cm_Atoms, mkL_c cm_Access, mkL_c cm_Accesss, mkL_c cm_Step, mkL_c cm_Steps, mkL_c cm_Query, mkL_c cm_Querys, mkL_c cm_Binding, mkL_c cm_Bindings, mkL_c cm_Method, mkL_c cm_Methods, mkL_c cm_Rule, mkL_c cm_Rules, mkL_c cm_Line, mkL_c cm_Lines]); omega)⟩)) (fun _ _ => ?_)
                          refine E.y rfl rfl (by decide) ((Y.as rfl).yd) ?_
                          refine E.nil (E.thn (E.seq (E.seq (E.region (l := [0, 1]) rfl (E.y rfl rfl (by decide) ((Y.mv rfl).yd) ?_)))))
                          refine E.y rfl rfl (by decide) ((Y.lss rfl rfl).yd) (Ent.d (fun q109 => ?_) (fun q109 => ?_))
                          · exact absurd q109 (by omega)
                          · refine E.nil (E.thn (E.cf rfl (E.skipc (E.thn (E.seq (E.seq (E.region (l := [0, 1, 2]) rfl (E.y rfl rfl (by decide) ((Y.mv rfl).yd) ?_))))))))
                            refine E.y rfl rfl (by decide) ((Y.mv rfl).yd) ?_
                            refine E.y rfl rfl (by decide) ((Y.neq rfl rfl).yd) (Ent.d (fun q112 => ?_) (fun q112 => ?_))
                            · exact absurd (by simp only [mkL_c cm_I, mkL_c cm_Is, mkL_c cm_Fact, mkL_c cm_Facts, mkL_c cm_Atom, mkL_c cm_Atoms, mkL_c cm_Access, mkL_c cm_Accesss, mkL_c cm_Step, mkL_c cm_Steps, mkL_c cm_Query, mkL_c cm_Querys, mkL_c cm_Binding, mkL_c cm_Bindings, mkL_c cm_Method, mkL_c cm_Methods, mkL_c cm_Rule, mkL_c cm_Rules, mkL_c cm_Line, mkL_c cm_Lines]) q112
                            · refine E.nil (E.thn (E.cf rfl (E.skipc (E.thn (E.seq (E.region (l := [0]) rfl (E.y rfl rfl (by decide) ((Y.as rfl).yd) ?_)))))))
                              exact E.nil (E.thn (E.ret (F.r1 (Back.refl _ _) rfl rfl () trivial rfl (J := _) (.refl _) (.inl rfl))))
                        · refine E.y rfl rfl (by decide) ((Y.not (b := false) rfl).yd) ?_
                          refine E.nil (E.thn (E.ct rfl (E.seq (E.region (l := [0]) rfl (E.y rfl rfl (by decide) ((Y.as rfl).yd) ?_)))))
                          exact E.nil (E.thn (E.ret (E.thr (F.r1 (Back.refl _ _) rfl rfl () trivial (congrArg Value.bool (by simp_all)) (J := _) (.refl _) (.inl rfl)))))
                  · refine E.y rfl rfl (by decide) ((Y.not (b := false) rfl).yd) ?_
                    refine E.y rfl rfl (by decide) ((Y.pkf rfl rfl).yd) ?_
                    refine E.nil (E.thn (E.ct rfl (E.seq (E.region (l := [0]) rfl (E.y rfl rfl (by decide) ((Y.as rfl).yd) ?_)))))
                    exact E.nil (E.thn (E.ret (E.thr (F.r1 (Back.refl _ _) rfl rfl () trivial (congrArg Value.bool (by simp_all)) (J := _) (.refl _) (.inl rfl)))))
              · refine E.y rfl rfl (by decide) ((Y.not (b := false) rfl).yd) ?_
                refine E.nil (E.thn (E.ct rfl (E.seq (E.region (l := [0]) rfl (E.y rfl rfl (by decide) ((Y.as rfl).yd) ?_)))))
                exact E.nil (E.thn (E.ret (E.thr (F.r1 (Back.refl _ _) rfl rfl () trivial (congrArg Value.bool (by simp_all)) (J := _) (.refl _) (.inl rfl)))))
            · refine E.y rfl rfl (by decide) ((Y.not (b := false) rfl).yd) ?_
              refine E.nil (E.thn (E.ct rfl (E.seq (E.region (l := [0]) rfl (E.y rfl rfl (by decide) ((Y.as rfl).yd) ?_)))))
              exact E.nil (E.thn (E.ret (E.thr (F.r1 (Back.refl _ _) rfl rfl () trivial (congrArg Value.bool (by simp_all)) (J := _) (.refl _) (.inl rfl)))))
          · refine E.y rfl rfl (by decide) ((Y.not (b := false) rfl).yd) ?_
            refine E.nil (E.thn (E.ct rfl (E.seq (E.region (l := [0]) rfl (E.y rfl rfl (by decide) ((Y.as rfl).yd) ?_)))))
            exact E.nil (E.thn (E.ret (E.thr (F.r1 (Back.refl _ _) rfl rfl () trivial (congrArg Value.bool (by simp_all)) (J := _) (.refl _) (.inl rfl)))))
        · refine E.y rfl rfl (by decide) ((Y.not (b := false) rfl).yd) ?_
          refine E.nil (E.thn (E.ct rfl (E.seq (E.region (l := [0]) rfl (E.y rfl rfl (by decide) ((Y.as rfl).yd) ?_)))))
          exact E.nil (E.thn (E.ret (E.thr (F.r1 (Back.refl _ _) rfl rfl () trivial (congrArg Value.bool (by simp_all)) (J := _) (.refl _) (.inl rfl)))))
theorem t_laws_FnExactSatisfiesRules {a_aS : Option Addr} {m_aS c_aS : Nat} {aS : List Int} {a_aL : Option Addr} {m_aL c_aL : Nat} {aL : List (Int × Int × List Int)} {a_aFacts : Option Addr} {m_aFacts c_aFacts : Nat} {aFacts : List (Int × List Int)} : Tr Try.prog 8 [.slice a_aS m_aS c_aS, .slice a_aL m_aL c_aL, .slice a_aFacts m_aFacts c_aFacts] (fun w L => Ro w L eIs [.slice a_aS m_aS c_aS] aS ∧ Ro w L eRules [.slice a_aL m_aL c_aL] aL ∧ Ro w L eFacts [.slice a_aFacts m_aFacts c_aFacts] aFacts) [] (κ := Unit) (fun k => True) (fun k => .bool (true)) (fun k => []) := by
  refine Tr.intro Try.func8 rfl (n := 61) rfl (by decide +kernel) (Nat.le_of_ble_eq_true rfl) (fr := [(0, .slice a_aS m_aS c_aS), (1, .slice a_aL m_aL c_aL), (2, .slice a_aFacts m_aFacts c_aFacts)]) rfl fun w L hR => ?_
  obtain ⟨haS, haL, haFacts⟩ := hR
  obtain ⟨rfl, laS⟩ := haS.slen
  obtain ⟨rfl, laL⟩ := haL.slen
  obtain ⟨rfl, laFacts⟩ := haFacts.slen
  refine E.seq (E.region (l := [0]) rfl (E.y rfl rfl (by decide) ((Y.as rfl).yd) ?_))
  refine E.nil (E.thn (E.seq (E.seq (E.region (l := [0, 1, 2]) rfl (E.y rfl rfl (by decide) ((Y.mv rfl).yd) ?_)))))
  refine E.y rfl rfl (by decide) ((Y.len us_Is rfl).yd) ?_
  refine E.y rfl rfl (by decide) ((Y.gtr rfl rfl).yd) (Ent.d (fun q15 => ?_) (fun q15 => ?_))
  · refine E.nil (E.thn (E.ct rfl (E.seq (E.region (l := [0]) rfl (E.y rfl rfl (by decide) ((Y.as rfl).yd) ?_)))))
    exact E.nil (E.thn (E.ret (E.thr (F.r1 (Back.refl _ _) rfl rfl () trivial rfl (J := _) (.refl _) (.inl rfl)))))
  · refine E.nil (E.thn (E.cf rfl (E.skipc (E.thn (E.seq (E.region (l := [0]) rfl (E.y rfl rfl (by decide) ((Y.as rfl).yd) ?_)))))))
    refine E.nil (E.thn (E.seq (E.region (l := [0, 1, 2, 3]) rfl (E.y rfl rfl (by decide) ((Y.mv rfl).yd) ?_))))
    refine E.y rfl rfl (by decide) ((Y.mv rfl).yd) ?_
    refine E.st rfl rfl (N.call0 t_laws_szRuleS rfl rfl rfl (by decide) (fun w Lp hA => ⟨hA.ro haL, (by first | assumption | omega), (by first | assumption | omega)⟩)) (fun _ _ => ?_)
    refine E.y rfl rfl (by decide) ((Y.as rfl).yd) ?_
    refine E.nil (E.thn (E.seq (E.seq (E.region (l := [0, 1]) rfl (E.y rfl rfl (by decide) ((Y.mv rfl).yd) ?_)))))
    refine E.y rfl rfl (by decide) ((Y.lss rfl rfl).yd) (Ent.d (fun q20 => ?_) (fun q20 => ?_))
    · have z20 := szR_bad q20 (by omega)
      refine E.nil (E.thn (E.ct rfl (E.seq (E.region (l := [0]) rfl (E.y rfl rfl (by decide) ((Y.as rfl).yd) ?_)))))
      exact E.nil (E.thn (E.ret (E.thr (F.r1 (Back.refl _ _) rfl rfl () trivial rfl (J := _) (.refl _) (.inl rfl)))))
    · obtain ⟨z20, y20⟩ := szR_ok q20 (by omega)
      refine E.nil (E.thn (E.cf rfl (E.skipc (E.thn (E.seq (E.region (l := [0, 1, 2, 3]) rfl (E.y rfl rfl (by decide) ((Y.mv rfl).yd) ?_)))))))
      refine E.y rfl rfl (by decide) ((Y.mv rfl).yd) ?_
      refine E.st rfl rfl (N.call0 t_laws_szFactS rfl rfl rfl (by decide) (fun w Lp hA => ⟨hA.ro haFacts, (by first | assumption | omega), (by first | assumption | omega)⟩)) (fun _ _ => ?_)
      refine E.y rfl rfl (by decide) ((Y.as rfl).yd) ?_
      refine E.nil (E.thn (E.seq (E.seq (E.region (l := [0, 1]) rfl (E.y rfl rfl (by decide) ((Y.mv rfl).yd) ?_)))))
      refine E.y rfl rfl (by decide) ((Y.lss rfl rfl).yd) (Ent.d (fun q25 => ?_) (fun q25 => ?_))
      · have z25 := szR_bad q25 (by omega)
        refine E.nil (E.thn (E.ct rfl (E.seq (E.region (l := [0]) rfl (E.y rfl rfl (by decide) ((Y.as rfl).yd) ?_)))))
        exact E.nil (E.thn (E.ret (E.thr (F.r1 (Back.refl _ _) rfl rfl () trivial rfl (J := _) (.refl _) (.inl rfl)))))
      · obtain ⟨z25, y25⟩ := szR_ok q25 (by omega)
        refine E.nil (E.thn (E.cf rfl (E.skipc (E.thn (E.seq (E.region (l := [0, 1, 2, 3, 4, 5, 6, 7]) rfl (E.y rfl rfl (by decide) ((Y.mv rfl).yd) ?_)))))))
        refine E.st rfl rfl (N.call (t_laws_toIntS (by first | omega | assumption | (constructor <;> omega))) rfl rfl rfl (by decide) rfl (fun w Lp hA => hA.ro haS)) (fun k27 _ => ?_)
        obtain ⟨a27, m27, c27⟩ := k27
        refine Ent.lenow m0 fun e27 l27 => ?_
        subst e27
        refine E.y rfl rfl (by decide) ((Y.mv rfl).yd) ?_
        refine E.st rfl rfl (N.call (t_laws_toRuleS (by first | omega | assumption | (constructor <;> omega))) rfl rfl rfl (by decide) rfl (fun w Lp hA => hA.ro haL)) (fun k29 _ => ?_)
        obtain ⟨a29, m29, c29⟩ := k29
        refine Ent.lenow m0 fun e29 l29 => ?_
        subst e29
        refine E.y rfl rfl (by decide) ((Y.mv rfl).yd) ?_
        refine E.st rfl rfl (N.call (t_laws_toFactS (by first | omega | assumption | (constructor <;> omega))) rfl rfl rfl (by decide) rfl (fun w Lp hA => hA.ro haFacts)) (fun k31 _ => ?_)
        obtain ⟨a31, m31, c31⟩ := k31
        refine Ent.lenow m0 fun e31 l31 => ?_
        subst e31
        refine E.st rfl rfl (N.call0 t_spec_SatisfiesRules rfl rfl rfl (by decide) (fun w Lp hA => ⟨hA.ow (mS (mS m0)), hA.ow (mS m0), hA.ow m0⟩)) (fun _ _ => ?_)
        refine E.y rfl rfl (by decide) ((Y.as rfl).yd) ?_
        refine E.nil (E.thn (E.seq (E.region (l := [0, 1, 2]) rfl (E.y rfl rfl (by decide) ((Y.mv rfl).yd) ?_))))
        refine E.st rfl rfl (N.call (t_laws_toIntS (by first | omega | assumption | (constructor <;> omega))) rfl rfl rfl (by decide) rfl (fun w Lp hA => hA.ro haS)) (fun k34 _ => ?_)
        obtain ⟨a34, m34, c34⟩ := k34
        refine Ent.lenow m0 fun e34 l34 => ?_
        subst e34
        refine E.y rfl rfl (by decide) ((Y.as rfl).yd) ?_
        refine E.nil (E.thn (E.seq (E.region (l := [0, 1, 2]) rfl (E.y rfl rfl (by decide) ((Y.mv rfl).yd) ?_))))
        refine E.st rfl rfl (N.call (t_laws_toRuleS (by first | omega | assumption | (constructor <;> omega))) rfl rfl rfl (by decide) rfl (fun w Lp hA => hA.ro haL)) (fun k36 _ => ?_)
        obtain ⟨a36, m36, c36⟩ := k36
        refine Ent.lenow m0 fun e36 l36 => ?_
        subst e36
        refine E.y rfl rfl (by decide) ((Y.as rfl).yd) ?_
        refine E.nil (E.thn (E.seq (E.region (l := [0, 1, 2]) rfl (E.y rfl rfl (by decide) ((Y.mv rfl).yd) ?_))))
        refine E.st rfl rfl (N.call (t_laws_toFactS (by first | omega | assumption | (constructor <;> omega))) rfl rfl rfl (by decide) rfl (fun w Lp hA => hA.ro haFacts)) (fun k38 _ => ?_)
        obtain ⟨a38, m38, c38⟩ := k38
        refine Ent.lenow m0 fun e38 l38 => ?_
        subst e38
        refine E.y rfl rfl (by decide) ((Y.as rfl).yd) ?_
        refine E.nil (E.thn (E.seq (E.region (l := [0, 1, 2, 3, 4]) rfl (E.y rfl rfl (by decide) ((Y.mv rfl).yd) ?_))))
        refine E.y rfl rfl (by decide) ((Y.mv rfl).yd) ?_
        refine E.y rfl rfl (by decide) ((Y.mv rfl).yd) ?_
        refine E.st rfl rfl (N.call0 t_impl_SatisfiesRules rfl rfl rfl (by decide) (fun w Lp hA => ⟨hA.ow (mS (mS m0)), hA.ow (mS m0), hA.ow m0⟩)) (fun _ _ => ?_)
        refine E.y rfl rfl (by decide) ((Y.as rfl).yd) ?_
        refine E.nil (E.thn (E.seq (E.seq (E.region (l := [0, 1, 2]) rfl (E.y rfl rfl (by decide) ((Y.mv rfl).yd) ?_)))))
        refine E.y rfl rfl (by decide) ((Y.mv rfl).yd) ?_
        refine E.y rfl rfl (by decide) ((Y.neqB (by kernel_rfl) rfl rfl).yd) (Ent.d (fun q45 => ?_) (fun q45 => ?_))
        · exact absurd rfl q45
        · refine E.nil (E.thn (E.cf rfl (E.skipc (E.thn (E.seq (E.seq (E.region (l := [0, 1, 2, 3, 4]) rfl (E.y rfl rfl (by decide) ((Y.mv rfl).yd) ?_))))))))
          refine E.y rfl rfl (by decide) ((Y.mv rfl).yd) ?_
          refine E.st rfl rfl (N.call (t_laws_toIntS (by first | omega | assumption | (constructor <;> omega))) rfl rfl rfl (by decide) rfl (fun w Lp hA => hA.ro haS)) (fun k48 _ => ?_)
          obtain ⟨a48, m48, c48⟩ := k48
          refine Ent.lenow m0 fun e48 l48 => ?_
          subst e48
          refine E.st rfl rfl (N.call0 t_laws_eqIntS rfl rfl rfl (by decide) (fun w Lp hA => ⟨hA.ow (mS (mS (mS m0))), hA.ow m0⟩)) (fun _ _ => (Ent.b (fun q49 => ?_) (fun q49 => ?_)))
          · refine E.y rfl rfl (by decide) ((Y.not (b := true) rfl).yd) ?_
            refine E.nil (E.thn (E.cf rfl (E.skipc (E.thn (E.seq (E.seq (E.region (l := [0, 1, 2, 3, 4]) rfl (E.y rfl rfl (by decide) ((Y.mv rfl).yd) ?_))))))))
            refine E.y rfl rfl (by decide) ((Y.mv rfl).yd) ?_
            refine E.st rfl rfl (N.call (t_laws_toRuleS (by first | omega | assumption | (constructor <;> omega))) rfl rfl rfl (by decide) rfl (fun w Lp hA => hA.ro haL)) (fun k53 _ => ?_)
            obtain ⟨a53, m53, c53⟩ := k53
            refine Ent.lenow m0 fun e53 l53 => ?_
            subst e53
            refine E.st rfl rfl (N.call0 t_laws_eqRuleS rfl rfl rfl (by decide) (fun w Lp hA => ⟨hA.ow (mS (mS (mS m0))), hA.ow m0⟩)) (fun _ _ => (Ent.b (fun q54 => ?_) (fun q54 => ?_)))
            · refine E.y rfl rfl (by decide) ((Y.not (b := true) rfl).yd) ?_
              refine E.nil (E.thn (E.cf rfl (E.skipc (E.thn (E.seq (E.seq (E.region (l := [0, 1, 2, 3, 4]) rfl (E.y rfl rfl (by decide) ((Y.mv rfl).yd) ?_))))))))
              refine E.y rfl rfl (by decide) ((Y.mv rfl).yd) ?_
              refine E.st rfl rfl (N.call (t_laws_toFactS (by first | omega | assumption | (constructor <;> omega))) rfl rfl rfl (by decide) rfl (fun w Lp hA => hA.ro haFacts)) (fun k58 _ => ?_)
              obtain ⟨a58, m58, c58⟩ := k58
              refine Ent.lenow m0 fun e58 l58 => ?_
              subst e58
              refine E.st rfl rfl (N.call0 t_laws_eqFactS rfl rfl rfl (by decide) (fun w Lp hA => ⟨hA.ow (mS (mS (mS m0))), hA.ow m0⟩)) (fun _ _ => (Ent.b (fun q59 => ?_) (fun q59 => ?_)))
              · refine E.y rfl rfl (by decide) ((Y.not (b := true) rfl).yd) ?_
                refine E.nil (E.thn (E.cf rfl (E.skipc (E.thn (E.seq (E.region (l := [0]) rfl (E.y rfl rfl (by decide) ((Y.as rfl).yd) ?_)))))))
                exact E.nil (E.thn (E.ret (F.r1 (Back.refl _ _) rfl rfl () trivial rfl (J := _) (.refl _) (.inl rfl))))
              · refine E.y rfl rfl (by decide) ((Y.not (b := false) rfl).yd) ?_
                refine E.nil (E.thn (E.ct rfl (E.seq (E.region (l := [0]) rfl (E.y rfl rfl (by decide) ((Y.as rfl).yd) ?_)))))
                exact E.nil (E.thn (E.ret (E.thr (F.r1 (Back.refl _ _) rfl rfl () trivial (congrArg Value.bool (by simp_all)) (J := _) (.refl _) (.inl rfl)))))
            · refine E.y rfl rfl (by decide) ((Y.not (b := false) rfl).yd) ?_
              refine E.nil (E.thn (E.ct rfl (E.seq (E.region (l := [0]) rfl (E.y rfl rfl (by decide) ((Y.as rfl).yd) ?_)))))
              exact E.nil (E.thn (E.ret (E.thr (F.r1 (Back.refl _ _) rfl rfl () trivial (congrArg Value.bool (by simp_all)) (J := _) (.refl _) (.inl rfl)))))
          · refine E.y rfl rfl (by decide) ((Y.not (b := false) rfl).yd) ?_
            refine E.nil (E.thn (E.ct rfl (E.seq (E.region (l := [0]) rfl (E.y rfl rfl (by decide) ((Y.as rfl).yd) ?_)))))
            exact E.nil (E.thn (E.ret (E.thr (F.r1 (Back.refl _ _) rfl rfl () trivial (congrArg Value.bool (by simp_all)) (J := _) (.refl _) (.inl rfl)))))
theorem t_impl_closed {a_l : Option Addr} {m_l c_l : Nat} {l : List (Int × Int × List Int)} {a_facts : Option Addr} {m_facts c_facts : Nat} {facts : List (Int × List Int)} (hok : ∃ s, okRules s l = true ∧ okFacts s facts = true) : Tr Try.prog 129 [.slice a_l m_l c_l, .slice a_facts m_facts c_facts] (fun w L => Ro w L eRules [.slice a_l m_l c_l] l ∧ Ro w L eFacts [.slice a_facts m_facts c_facts] facts) [] (κ := Option Addr × Nat × Nat) (fun k => True) (fun k => .slice k.1 k.2.1 k.2.2) (fun k => [ow eFacts [.slice k.1 k.2.1 k.2.2] (closeF l facts)]) := by
  refine Tr.intro Try.func129 rfl (n := 28) rfl (by decide +kernel) (Nat.le_of_ble_eq_true rfl) (fr := [(0, .slice a_l m_l c_l), (1, .slice a_facts m_facts c_facts)]) rfl fun w L hR => ?_
  obtain ⟨hl, hfacts⟩ := hR
  obtain ⟨rfl, ll⟩ := hl.slen
  obtain ⟨rfl, lfacts⟩ := hfacts.slen
  have hn := ok_len hok
  refine E.seq (E.region (l := [0]) rfl (E.y rfl rfl (by decide) ((Y.as rfl).yd) ?_))
  refine E.nil (E.thn (E.seq (E.region (l := [0, 1, 2]) rfl (E.y rfl rfl (by decide) ((Y.mv rfl).yd) ?_))))
  refine E.st rfl rfl (N.call (t_impl_copyFacts (by omega) (ok_el hok)) rfl rfl rfl (by decide) rfl (fun w Lp hA => hA.ro hfacts)) (fun k10 _ => ?_)
  obtain ⟨a10, m10, c10⟩ := k10
  refine Ent.lenow m0 fun e10 l10 => ?_
  subst e10
  refine E.y rfl rfl (by decide) ((Y.as rfl).yd) ?_
  refine E.nil (E.thn (E.block (Ent.cv (congrArg (ow eFacts [_]) (show facts = closeIt l facts 0 from by first | rfl | (simp; done) | grind [closeIt, List.drop_eq_getElem_cons, List.drop_eq_nil_of_le, List.take_succ_eq_append_getElem, List.take_of_length_le])) ?_)))
  refine E.loop (κ := Nat × Option Addr × Nat × Nat) (fun n => n.1 ≤ 6000 ∧ cInv l facts n.1) (fun n => [(0, .slice a_l l.length c_l), (5, .slice n.2.1 n.2.2.1 n.2.2.2)]) (fun n => [ow eFacts [.slice n.2.1 n.2.2.1 n.2.2.2] (closeIt l facts n.1)]) (fun n => 6000 - n.1) (0, a10, (facts).length, c10) ⟨Nat.zero_le _, cInv_zero hok⟩ ⟨rfl, rfl, trivial⟩ (.refl _) (fun n pn => ?_)
  obtain ⟨n, aA0_0, mA0_0, cA0_0⟩ := n
  try dsimp only at pn
  show Ent _ _ _ [(0, .slice a_l l.length c_l), (5, .slice aA0_0 mA0_0 cA0_0)] [ow eFacts [.slice aA0_0 mA0_0 cA0_0] (closeIt l facts n)] _
  obtain ⟨pk, pa⟩ := pn
  have pc0 := pa
  have pb := cInv_le pa
  refine Ent.lenow m0 fun eaA0_0 laA0_0 => ?_
  subst eaA0_0
  refine E.block (E.seq (E.region (l := [0, 1, 2, 3]) rfl (E.y rfl rfl (by decide) ((Y.mv rfl).yd) ?_)))
  refine E.y rfl rfl (by decide) ((Y.mv rfl).yd) ?_
  refine E.st rfl rfl (N.call (t_impl_missing (cInv_h pc0).1 (cInv_h pc0).2.1 (by omega) (by omega)) rfl rfl rfl (by decide) rfl (fun w Lp hA => ⟨hA.ro hl, hA.ow m0⟩)) (fun k13 _ => ?_)
  obtain ⟨a13, m13, c13⟩ := k13
  refine Ent.lenow m0 fun e13 l13 => ?_
  subst e13
  refine Ent.rebase (A := [_]) rfl fun wb1 Lb1 hB1 hA1 => ?_
  have hl := hA1.ro hl
  have rb1 : Ro wb1 Lb1 eFacts [.slice a13 (missF l (closeIt l facts n)).length c13] (missF l (closeIt l facts n)) := hA1.ow m0
  refine E.y rfl rfl (by decide) ((Y.as rfl).yd) ?_
  refine E.nil (E.thn (E.seq (E.seq (E.region (l := [0, 1, 2]) rfl (E.y rfl rfl (by decide) ((Y.mv rfl).yd) ?_)))))
  refine E.y rfl rfl (by decide) ((Y.len us_Facts rfl).yd) ?_
  refine E.y rfl rfl (by decide) ((Y.eql rfl rfl).yd) (Ent.d (fun q16 => ?_) (fun q16 => ?_))
  · refine E.nil (E.thn (E.ct rfl (E.seq (E.region (l := [0, 1]) rfl (E.y rfl rfl (by decide) ((Y.mv rfl).yd) ?_)))))
    refine E.y rfl rfl (by decide) ((Y.as rfl).yd) ?_
    refine E.nil (E.thn (E.ret (E.thr (E.blr (E.thr (E.blr (Ent.cv (congrArg (ow eFacts [_]) (show _ = closeF l facts by exact close_done (by omega) (List.length_eq_zero_iff.1 (by first | omega | exact Int.ofNat.inj q16)))) ?_)))))))
    exact F.r1 hB1 rfl rfl (_, _, _) trivial rfl (J := _) (.refl _) (.inl rfl)
  · refine E.nil (E.thn (E.cf rfl (E.skipc (E.thn (E.seq (E.region (l := [0, 1, 2]) rfl (E.y rfl rfl (by decide) ((Y.mv rfl).yd) ?_)))))))
    refine E.y rfl rfl (by decide) ((Y.len us_Facts rfl).yd) ?_
    refine E.y rfl rfl (by decide) ((Y.mv rfl).yd) ?_
    refine E.nil (E.thn (E.block (Ent.cv (congrArg (ow eFacts [_]) (show closeIt l facts n = ((missF l (closeIt l facts n)).take 0).foldl addF (closeIt l facts n) from by first | rfl | (simp; done) | grind [closeIt, List.drop_eq_getElem_cons, List.drop_eq_nil_of_le, List.take_succ_eq_append_getElem, List.take_of_length_le])) ?_)))
    refine E.loop (κ := Nat × Option Addr × Nat × Nat) (fun h => h.1 ≤ (missF l (closeIt l facts n)).length ∧ True) (fun h => [(0, .slice a_l l.length c_l), (5, .slice h.2.1 h.2.2.1 h.2.2.2), (18, .slice a13 (missF l (closeIt l facts n)).length c13), (19, .int .i64 (↑((missF l (closeIt l facts n)).length) : Int)), (20, .int .i64 (↑h.1 : Int))]) (fun h => [ow eFacts [.slice h.2.1 h.2.2.1 h.2.2.2] (((missF l (closeIt l facts n)).take h.1).foldl addF (closeIt l facts n))]) (fun h => (missF l (closeIt l facts n)).length - h.1) (0, aA0_0, (closeIt l facts n).length, cA0_0) ⟨Nat.zero_le _, by simp⟩ ⟨rfl, rfl, rfl, rfl, rfl, trivial⟩ (.refl _) (fun h ph => ?_)
    obtain ⟨h, aA1_0, mA1_0, cA1_0⟩ := h
    try dsimp only at ph
    show Ent _ _ _ [(0, .slice a_l l.length c_l), (5, .slice aA1_0 mA1_0 cA1_0), (18, .slice a13 (missF l (closeIt l facts n)).length c13), (19, .int .i64 (↑((missF l (closeIt l facts n)).length) : Int)), (20, .int .i64 (↑h : Int))] [ow eFacts [.slice aA1_0 mA1_0 cA1_0] (((missF l (closeIt l facts n)).take h).foldl addF (closeIt l facts n))] _
    obtain ⟨pk, pa⟩ := ph
    have jf := fold_len (m := (missF l (closeIt l facts n)).take h) (x := closeIt l facts n)
    have jt := List.length_take_le h (missF l (closeIt l facts n))
    refine Ent.lenow m0 fun eaA1_0 laA1_0 => ?_
    subst eaA1_0
    refine E.seq (E.region (l := [0]) rfl (E.y rfl rfl (by decide) ((Y.lss rfl rfl).yd) (Ent.d (fun q21 => ?_) (fun q21 => ?_))))
    · obtain ⟨eb22, eo22, ec22, ea22, er22, el22, eh22⟩ := rb1.elem h (by omega)
      obtain ⟨xa22_0, xc22_0, rfl, ei22_0, xh22_0⟩ := Ro.pFact er22
      have := xh22_0.slen.2
      refine E.nil (E.thn (E.seq (E.ct rfl (E.skipc (E.thn (E.seq (E.block (E.seq (E.region (l := [0, 1, 2, 3]) rfl (E.y rfl rfl (by decide) ((Y.ix us_Facts ty_Fact rfl ea22 rfl h rfl (by omega)).yd) ?_))))))))))
      refine E.y rfl rfl (by decide) (Y.ldS (cs := [_, _]) ty_Fact rfl (eh22 _) rfl) ?_
      refine E.st rfl rfl (N.alloc ty_Fact (by decide)) (fun b8 _ => ?_)
      refine E.st rfl rfl (N.sto (vs := [_, _]) (cs' := [_, _]) ty_Fact rfl rfl rfl rfl rfl (Nat.le_of_ble_eq_true rfl) rfl) (fun _ _ => ?_)
      refine E.nil (E.thn (E.region (l := [0, 1, 2, 3]) rfl (E.y rfl rfl (by decide) ((Y.mv rfl).yd) ?_)))
      refine E.y rfl rfl (by decide) (Y.ldS (cs := [_, _]) ty_Fact rfl (Has.pt m0) rfl) ?_
      refine Ent.p1 ?_
      refine E.st rfl rfl (N.call (pre := [_]) (t_impl_added (by omega) ((cInv_h pc0).2.2.1 _ (List.getElem_mem (by omega)))) rfl rfl rfl (by decide) rfl (fun w Lp hA => ⟨ei22_0, hA.ro xh22_0⟩)) (fun k26 _ => ?_)
      obtain ⟨a26, m26, c26⟩ := k26
      refine Ent.lenow m0 fun e26 l26 => ?_
      subst e26
      refine E.y rfl rfl (by decide) ((Y.as rfl).yd) ?_
      refine E.nil (E.bln (E.thn (E.region (l := [0, 1]) rfl (E.y rfl rfl (by decide) ((Y.add rfl rfl (by omega) (by omega)).yd) ?_))))
      refine E.y rfl rfl (by decide) ((Y.mv rfl).yd) ?_
      refine E.nil (E.thn (Ent.p1 ?_))
      refine Ent.drop ?_
      refine Ent.cv (congrArg (ow eFacts [_]) (show addF (((missF l (closeIt l facts n)).take h).foldl addF (closeIt l facts n)) (((missF l (closeIt l facts n))[h].1), ((missF l (closeIt l facts n))[h].2)) = ((missF l (closeIt l facts n)).take (h + 1)).foldl addF (closeIt l facts n) from by grind [closeIt, List.drop_eq_getElem_cons, List.drop_eq_nil_of_le, List.take_succ_eq_append_getElem, List.take_of_length_le])) ?_
      exact E.again (Back.refl _ _) (h + 1, a26, (addF (((missF l (closeIt l facts n)).take h).foldl addF (closeIt l facts n)) (((missF l (closeIt l facts n))[h].1), ((missF l (closeIt l facts n))[h].2))).length, c26) ⟨rfl, rfl, rfl, rfl, rfl, trivial⟩ (.refl _) ⟨(show h + 1 ≤ (missF l (closeIt l facts n)).length from by omega), (show True from by grind [List.drop_eq_getElem_cons, List.drop_eq_nil_of_le, List.take_succ_eq_append_getElem, List.take_of_length_le])⟩ (show (missF l (closeIt l facts n)).length - (h + 1) < (missF l (closeIt l facts n)).length - h from by omega)
    · have pc := cInv_step pc0 (fun e => by rw [e] at q16; exact q16 rfl)
      have pd := cInv_le pc
      refine E.nil (E.thn (E.seq (E.cf rfl (E.exit (E.the (E.the (E.blh (E.bln (E.thn (Ent.cv (congrArg (ow eFacts [_]) (show ((missF l (closeIt l facts n)).take h).foldl addF (closeIt l facts n) = closeIt l facts (n + 1) from by grind [closeIt, List.drop_eq_getElem_cons, List.drop_eq_nil_of_le, List.take_succ_eq_append_getElem, List.take_of_length_le])) ?_))))))))))
      exact E.again hB1 (n + 1, aA1_0, (((missF l (closeIt l facts n)).take h).foldl addF (closeIt l facts n)).length, cA1_0) ⟨rfl, rfl, trivial⟩ (.refl _) ⟨(show n + 1 ≤ 6000 from by omega), (show cInv l facts (n + 1) from by exact pc)⟩ (show 6000 - (n + 1) < 6000 - n from by omega)
theorem t_spec_l13Close {a_l : Option Addr} {m_l c_l : Nat} {l : List (Int × Int × List Int)} {a_facts : Option Addr} {m_facts c_facts : Nat} {facts : List (Int × List Int)} (hok : ∃ s, okRules s l = true ∧ okFacts s facts = true) : Tr Try.prog 128 [.slice a_l m_l c_l, .slice a_facts m_facts c_facts] (fun w L => Ro w L eRules [.slice a_l m_l c_l] l ∧ Ro w L eFacts [.slice a_facts m_facts c_facts] facts) [] (κ := Option Addr × Nat × Nat) (fun k => True) (fun k => .slice k.1 k.2.1 k.2.2) (fun k => [ow eFacts [.slice k.1 k.2.1 k.2.2] (closeF l facts)]) := by
  refine Tr.intro Try.func128 rfl (n := 29) rfl (by decide +kernel) (Nat.le_of_ble_eq_true rfl) (fr := [(0, .slice a_l m_l c_l), (1, .slice a_facts m_facts c_facts)]) rfl fun w L hR => ?_
  obtain ⟨hl, hfacts⟩ := hR
  obtain ⟨rfl, ll⟩ := hl.slen
  obtain ⟨rfl, lfacts⟩ := hfacts.slen
  have hn := ok_len hok
  refine E.seq (E.region (l := [0]) rfl (E.y rfl rfl (by decide) ((Y.as rfl).yd) ?_))
  refine E.nil (E.thn (E.seq (E.region (l := [0, 1, 2]) rfl (E.y rfl rfl (by decide) ((Y.mv rfl).yd) ?_))))
  refine E.st rfl rfl (N.call (t_spec_l2Copy (by omega) (ok_el hok)) rfl rfl rfl (by decide) rfl (fun w Lp hA => hA.ro hfacts)) (fun k9 _ => ?_)
  obtain ⟨a9, m9, c9⟩ := k9
  refine Ent.lenow m0 fun e9 l9 => ?_
  subst e9
  refine E.y rfl rfl (by decide) ((Y.as rfl).yd) ?_
  refine E.nil (E.thn (E.block (Ent.cv (congrArg (ow eFacts [_]) (show facts = closeIt l facts 0 from by first | rfl | (simp; done) | grind [closeIt, List.drop_eq_getElem_cons, List.drop_eq_nil_of_le, List.take_succ_eq_append_getElem, List.take_of_length_le])) ?_)))
  refine E.loop (κ := Nat × Option Addr × Nat × Nat) (fun n => n.1 ≤ 6000 ∧ cInv l facts n.1) (fun n => [(0, .slice a_l l.length c_l), (5, .slice n.2.1 n.2.2.1 n.2.2.2)]) (fun n => [ow eFacts [.slice n.2.1 n.2.2.1 n.2.2.2] (closeIt l facts n.1)]) (fun n => 6000 - n.1) (0, a9, (facts).length, c9) ⟨Nat.zero_le _, cInv_zero hok⟩ ⟨rfl, rfl, trivial⟩ (.refl _) (fun n pn => ?_)
  obtain ⟨n, aA0_0, mA0_0, cA0_0⟩ := n
  try dsimp only at pn
  show Ent _ _ _ [(0, .slice a_l l.length c_l), (5, .slice aA0_0 mA0_0 cA0_0)] [ow eFacts [.slice aA0_0 mA0_0 cA0_0] (closeIt l facts n)] _
  obtain ⟨pk, pa⟩ := pn
  have pc0 := pa
  have pb := cInv_le pa
  refine Ent.lenow m0 fun eaA0_0 laA0_0 => ?_
  subst eaA0_0
  refine E.block (E.seq (E.region (l := [0, 1, 2, 3]) rfl (E.y rfl rfl (by decide) ((Y.mv rfl).yd) ?_)))
  refine E.y rfl rfl (by decide) ((Y.mv rfl).yd) ?_
  refine E.st rfl rfl (N.call (t_spec_l13Missing (cInv_h pc0).1 (cInv_h pc0).2.1 (by omega) (by omega)) rfl rfl rfl (by decide) rfl (fun w Lp hA => ⟨hA.ro hl, hA.ow m0⟩)) (fun k12 _ => ?_)
  obtain ⟨a12, m12, c12⟩ := k12
  refine Ent.lenow m0 fun e12 l12 => ?_
  subst e12
  refine Ent.rebase (A := [_]) rfl fun wb2 Lb2 hB2 hA2 => ?_
  have hl := hA2.ro hl
  have rb2 : Ro wb2 Lb2 eFacts [.slice a12 (missF l (closeIt l facts n)).length c12] (missF l (closeIt l facts n)) := hA2.ow m0
  refine E.y rfl rfl (by decide) ((Y.as rfl).yd) ?_
  refine E.nil (E.thn (E.seq (E.seq (E.region (l := [0, 1, 2]) rfl (E.y rfl rfl (by decide) ((Y.mv rfl).yd) ?_)))))
  refine E.y rfl rfl (by decide) ((Y.len us_Facts rfl).yd) ?_
  refine E.y rfl rfl (by decide) ((Y.eql rfl rfl).yd) (Ent.d (fun q15 => ?_) (fun q15 => ?_))
  · refine E.nil (E.thn (E.ct rfl (E.seq (E.region (l := [0, 1]) rfl (E.y rfl rfl (by decide) ((Y.mv rfl).yd) ?_)))))
    refine E.y rfl rfl (by decide) ((Y.as rfl).yd) ?_
    refine E.nil (E.thn (E.ret (E.thr (E.blr (E.thr (E.blr (Ent.cv (congrArg (ow eFacts [_]) (show _ = closeF l facts by exact close_done (by omega) (List.length_eq_zero_iff.1 (by first | omega | exact Int.ofNat.inj q15)))) ?_)))))))
    exact F.r1 hB2 rfl rfl (_, _, _) trivial rfl (J := _) (.refl _) (.inl rfl)
  · refine E.nil (E.thn (E.cf rfl (E.skipc (E.thn (E.seq (E.region (l := [0]) rfl (E.y rfl rfl (by decide) ((Y.as rfl).yd) ?_)))))))
    refine E.nil (E.thn (E.block (Ent.cv (congrArg (ow eFacts [_]) (show closeIt l facts n = ((missF l (closeIt l facts n)).take 0).foldl addF (closeIt l facts n) from by first | rfl | (simp; done) | grind [closeIt, List.drop_eq_getElem_cons, List.drop_eq_nil_of_le, List.take_succ_eq_append_getElem, List.take_of_length_le])) ?_)))
    refine E.loop (κ := Nat × Option Addr × Nat × Nat) (fun h => h.1 ≤ (missF l (closeIt l facts n)).length ∧ True) (fun h => [(0, .slice a_l l.length c_l), (5, .slice h.2.1 h.2.2.1 h.2.2.2), (6, .slice a12 (missF l (closeIt l facts n)).length c12), (7, .int .i64 (↑h.1 : Int))]) (fun h => [ow eFacts [.slice h.2.1 h.2.2.1 h.2.2.2] (((missF l (closeIt l facts n)).take h.1).foldl addF (closeIt l facts n))]) (fun h => (missF l (closeIt l facts n)).length - h.1) (0, aA0_0, (closeIt l facts n).length, cA0_0) ⟨Nat.zero_le _, by simp⟩ ⟨rfl, rfl, rfl, rfl, trivial⟩ (.refl _) (fun h ph => ?_)
    obtain ⟨h, aA1_0, mA1_0, cA1_0⟩ := h
    try dsimp only at ph
    show Ent _ _ _ [(0, .slice a_l l.length c_l), (5, .slice aA1_0 mA1_0 cA1_0), (6, .slice a12 (missF l (closeIt l facts n)).length c12), (7, .int .i64 (↑h : Int))] [ow eFacts [.slice aA1_0 mA1_0 cA1_0] (((missF l (closeIt l facts n)).take h).foldl addF (closeIt l facts n))] _
    obtain ⟨pk, pa⟩ := ph
    have jf := fold_len (m := (missF l (closeIt l facts n)).take h) (x := closeIt l facts n)
    have jt := List.length_take_le h (missF l (closeIt l facts n))
    refine Ent.lenow m0 fun eaA1_0 laA1_0 => ?_
    subst eaA1_0
    refine E.seq (E.seq (E.region (l := [0, 1, 2, 3]) rfl (E.y rfl rfl (by decide) ((Y.mv rfl).yd) ?_)))
    refine E.y rfl rfl (by decide) ((Y.mv rfl).yd) ?_
    refine E.y rfl rfl (by decide) ((Y.len us_Facts rfl).yd) ?_
    refine E.y rfl rfl (by decide) ((Y.lss rfl rfl).yd) (Ent.d (fun q20 => ?_) (fun q20 => ?_))
    · refine E.nil (E.thn (E.ct rfl (E.skipc (E.thn (E.seq (E.block (E.region (l := [0, 1, 2, 3, 4, 5, 6]) rfl (E.y rfl rfl (by decide) ((Y.mv rfl).yd) ?_))))))))
      refine E.y rfl rfl (by decide) ((Y.mv rfl).yd) ?_
      refine E.y rfl rfl (by decide) ((Y.mv rfl).yd) ?_
      obtain ⟨eb26, eo26, ec26, ea26, er26, el26, eh26⟩ := rb2.elem h (by omega)
      obtain ⟨xa26_0, xc26_0, rfl, ei26_0, xh26_0⟩ := Ro.pFact er26
      have := xh26_0.slen.2
      refine E.y rfl rfl (by decide) ((Y.ix us_Facts ty_Fact rfl ea26 rfl h rfl (by omega)).yd) ?_
      refine E.y rfl rfl (by decide) (Y.ldS (cs := [_, _]) ty_Fact rfl (eh26 _) rfl) ?_
      refine E.st rfl rfl (N.call (t_spec_AddFact (by omega) (fold_elt (cInv_h pc0).2.2.1 (cInv_h pc0).2.2.2) ((cInv_h pc0).2.2.1 _ (List.getElem_mem (by omega)))) rfl rfl rfl (by decide) rfl (fun w Lp hA => ⟨hA.ow m0, ei26_0, hA.ro xh26_0⟩)) (fun k28 _ => ?_)
      obtain ⟨a28, m28, c28⟩ := k28
      refine Ent.lenow m0 fun e28 l28 => ?_
      subst e28
      refine E.y rfl rfl (by decide) ((Y.as rfl).yd) ?_
      refine E.nil (E.bln (E.thn (E.region (l := [0, 1, 2]) rfl (E.y rfl rfl (by decide) ((Y.mv rfl).yd) ?_))))
      refine E.y rfl rfl (by decide) ((Y.add rfl rfl (by omega) (by omega)).yd) ?_
      refine E.y rfl rfl (by decide) ((Y.as rfl).yd) ?_
      refine E.nil (E.thn (Ent.p1 ?_))
      refine Ent.drop ?_
      refine Ent.cv (congrArg (ow eFacts [_]) (show addF (((missF l (closeIt l facts n)).take h).foldl addF (closeIt l facts n)) (((missF l (closeIt l facts n))[h].1), ((missF l (closeIt l facts n))[h].2)) = ((missF l (closeIt l facts n)).take (h + 1)).foldl addF (closeIt l facts n) from by grind [closeIt, List.drop_eq_getElem_cons, List.drop_eq_nil_of_le, List.take_succ_eq_append_getElem, List.take_of_length_le])) ?_
      exact E.again (Back.refl _ _) (h + 1, a28, (addF (((missF l (closeIt l facts n)).take h).foldl addF (closeIt l facts n)) (((missF l (closeIt l facts n))[h].1), ((missF l (closeIt l facts n))[h].2))).length, c28) ⟨rfl, rfl, rfl, rfl, trivial⟩ (.refl _) ⟨(show h + 1 ≤ (missF l (closeIt l facts n)).length from by omega), (show True from by grind [List.drop_eq_getElem_cons, List.drop_eq_nil_of_le, List.take_succ_eq_append_getElem, List.take_of_length_le])⟩ (show (missF l (closeIt l facts n)).length - (h + 1) < (missF l (closeIt l facts n)).length - h from by omega)
    · have pc := cInv_step pc0 (fun e => by rw [e] at q15; exact q15 rfl)
      have pd := cInv_le pc
      refine E.nil (E.thn (E.cf rfl (E.exit (E.the (E.the (E.blh (E.bln (E.thn (Ent.cv (congrArg (ow eFacts [_]) (show ((missF l (closeIt l facts n)).take h).foldl addF (closeIt l facts n) = closeIt l facts (n + 1) from by grind [closeIt, List.drop_eq_getElem_cons, List.drop_eq_nil_of_le, List.take_succ_eq_append_getElem, List.take_of_length_le])) ?_)))))))))
      exact E.again hB2 (n + 1, aA1_0, (((missF l (closeIt l facts n)).take h).foldl addF (closeIt l facts n)).length, cA1_0) ⟨rfl, rfl, trivial⟩ (.refl _) ⟨(show n + 1 ≤ 6000 from by omega), (show cInv l facts (n + 1) from by exact pc)⟩ (show 6000 - (n + 1) < 6000 - n from by omega)
theorem t_impl_CloseFacts {a_s : Option Addr} {m_s c_s : Nat} {s : List Int} {a_l : Option Addr} {m_l c_l : Nat} {l : List (Int × Int × List Int)} {a_facts : Option Addr} {m_facts c_facts : Nat} {facts : List (Int × List Int)} : Tr Try.prog 68 [.slice a_s m_s c_s, .slice a_l m_l c_l, .slice a_facts m_facts c_facts] (fun w L => Ro w L eIs [.slice a_s m_s c_s] s ∧ Ro w L eRules [.slice a_l m_l c_l] l ∧ Ro w L eFacts [.slice a_facts m_facts c_facts] facts) [] (κ := Option Addr × Nat × Nat) (fun k => True) (fun k => .slice k.1 k.2.1 k.2.2) (fun k => [ow eFacts [.slice k.1 k.2.1 k.2.2] (closeR s l facts)]) := by
  refine Tr.intro Try.func68 rfl (n := 15) rfl (by decide +kernel) (Nat.le_of_ble_eq_true rfl) (fr := [(0, .slice a_s m_s c_s), (1, .slice a_l m_l c_l), (2, .slice a_facts m_facts c_facts)]) rfl fun w L hR => ?_
  obtain ⟨hs, hl, hfacts⟩ := hR
  obtain ⟨rfl, ls⟩ := hs.slen
  obtain ⟨rfl, ll⟩ := hl.slen
  obtain ⟨rfl, lfacts⟩ := hfacts.slen
  refine E.seq (E.region (l := [0]) rfl (E.y rfl rfl (by decide) ((Y.as rfl).yd) ?_))
  refine E.nil (E.thn (E.seq (E.seq (E.region (l := [0, 1, 2, 3, 4]) rfl (E.y rfl rfl (by decide) ((Y.mv rfl).yd) ?_)))))
  refine E.y rfl rfl (by decide) ((Y.mv rfl).yd) ?_
  refine E.y rfl rfl (by decide) ((Y.mv rfl).yd) ?_
  refine E.st rfl rfl (N.call0 t_impl_areRuled rfl rfl rfl (by decide) (fun w Lp hA => ⟨hA.ro hs, hA.ro hl, hA.ro hfacts⟩)) (fun _ _ => (Ent.b (fun q10 => ?_) (fun q10 => ?_)))
  · refine E.y rfl rfl (by decide) ((Y.not (b := true) rfl).yd) ?_
    refine E.nil (E.thn (E.cf rfl (E.skipc (E.thn (E.seq (E.region (l := [0, 1, 2, 3]) rfl (E.y rfl rfl (by decide) ((Y.mv rfl).yd) ?_)))))))
    refine E.y rfl rfl (by decide) ((Y.mv rfl).yd) ?_
    refine E.st rfl rfl (N.call (t_impl_closed ((ruled_ex (s := s) (l := l) (facts := facts) (by first | assumption | grind)))) rfl rfl rfl (by decide) rfl (fun w Lp hA => ⟨hA.ro hl, hA.ro hfacts⟩)) (fun k14 _ => ?_)
    obtain ⟨a14, m14, c14⟩ := k14
    refine Ent.lenow m0 fun e14 l14 => ?_
    subst e14
    refine E.y rfl rfl (by decide) ((Y.as rfl).yd) ?_
    refine E.nil (E.thn (E.ret (Ent.cv (congrArg (ow eFacts [_]) (show _ = closeR s l facts by grind [closeR, List.drop_eq_getElem_cons, List.drop_eq_nil_of_le, List.take_succ_eq_append_getElem, List.take_of_length_le])) ?_)))
    exact F.r1 (Back.refl _ _) rfl rfl (_, _, _) trivial rfl (J := _) (.refl _) (.inl rfl)
  · refine E.y rfl rfl (by decide) ((Y.not (b := false) rfl).yd) ?_
    refine E.nil (E.thn (E.ct rfl (E.seq (E.region (l := [0]) rfl (E.y rfl rfl (by decide) ((Y.as rfl).yd) ?_)))))
    refine E.nil (E.thn (E.ret (E.thr (Ent.mkow (A := []) (Own.nil (E := eFact) (e := tFact) (a := none)) rfl ?_))))
    refine Ent.cv (congrArg (ow eFacts [_]) (show _ = closeR s l facts by grind [closeR, List.drop_eq_getElem_cons, List.drop_eq_nil_of_le, List.take_succ_eq_append_getElem, List.take_of_length_le])) ?_
    exact F.r1 (Back.refl _ _) rfl rfl (none, 0, 0) trivial rfl (J := _) (.refl _) (.inl rfl)
theorem t_spec_CloseFacts {a_s : Option Addr} {m_s c_s : Nat} {s : List Int} {a_l : Option Addr} {m_l c_l : Nat} {l : List (Int × Int × List Int)} {a_facts : Option Addr} {m_facts c_facts : Nat} {facts : List (Int × List Int)} : Tr Try.prog 67 [.slice a_s m_s c_s, .slice a_l m_l c_l, .slice a_facts m_facts c_facts] (fun w L => Ro w L eIs [.slice a_s m_s c_s] s ∧ Ro w L eRules [.slice a_l m_l c_l] l ∧ Ro w L eFacts [.slice a_facts m_facts c_facts] facts) [] (κ := Option Addr × Nat × Nat) (fun k => True) (fun k => .slice k.1 k.2.1 k.2.2) (fun k => [ow eFacts [.slice k.1 k.2.1 k.2.2] (closeR s l facts)]) := by
  refine Tr.intro Try.func67 rfl (n := 21) rfl (by decide +kernel) (Nat.le_of_ble_eq_true rfl) (fr := [(0, .slice a_s m_s c_s), (1, .slice a_l m_l c_l), (2, .slice a_facts m_facts c_facts)]) rfl fun w L hR => ?_
  obtain ⟨hs, hl, hfacts⟩ := hR
  obtain ⟨rfl, ls⟩ := hs.slen
  obtain ⟨rfl, ll⟩ := hl.slen
  obtain ⟨rfl, lfacts⟩ := hfacts.slen
  refine E.seq (E.region (l := [0]) rfl (E.y rfl rfl (by decide) ((Y.as rfl).yd) ?_))
  refine E.nil (E.thn (E.seq (E.seq (E.region (l := [0, 1, 2, 3, 4, 5, 6, 7, 8, 9]) rfl (E.y rfl rfl (by decide) ((Y.mv rfl).yd) ?_)))))
  refine E.y rfl rfl (by decide) ((Y.mv rfl).yd) ?_
  refine E.st rfl rfl (N.call0 t_spec_AreRules rfl rfl rfl (by decide) (fun w Lp hA => ⟨hA.ro hs, hA.ro hl⟩)) (fun _ _ => (Ent.b (fun q9 => ?_) (fun q9 => ?_)))
  · refine E.y rfl rfl (by decide) ((Y.not (b := true) rfl).yd) ?_
    refine E.y rfl rfl (by decide) ((Y.mv rfl).yd) ?_
    refine E.y rfl rfl (by decide) ((Y.mv rfl).yd) ?_
    refine E.y rfl rfl (by decide) ((Y.mv rfl).yd) ?_
    refine E.st rfl rfl (N.call0 t_spec_AreFacts rfl rfl rfl (by decide) (fun w Lp hA => ⟨hA.ro hs, hA.ro hfacts⟩)) (fun _ _ => (Ent.b (fun q14 => ?_) (fun q14 => ?_)))
    · refine E.y rfl rfl (by decide) ((Y.not (b := true) rfl).yd) ?_
      refine E.y rfl rfl (by decide) ((Y.pkf rfl rfl).yd) ?_
      refine E.nil (E.thn (E.cf rfl (E.skipc (E.thn (E.seq (E.region (l := [0, 1, 2, 3]) rfl (E.y rfl rfl (by decide) ((Y.mv rfl).yd) ?_)))))))
      refine E.y rfl rfl (by decide) ((Y.mv rfl).yd) ?_
      refine E.st rfl rfl (N.call (t_spec_l13Close ((ruled_ex (s := s) (l := l) (facts := facts) (by first | assumption | grind)))) rfl rfl rfl (by decide) rfl (fun w Lp hA => ⟨hA.ro hl, hA.ro hfacts⟩)) (fun k20 _ => ?_)
      obtain ⟨a20, m20, c20⟩ := k20
      refine Ent.lenow m0 fun e20 l20 => ?_
      subst e20
      refine E.y rfl rfl (by decide) ((Y.as rfl).yd) ?_
      refine E.nil (E.thn (E.ret (Ent.cv (congrArg (ow eFacts [_]) (show _ = closeR s l facts by grind [closeR, List.drop_eq_getElem_cons, List.drop_eq_nil_of_le, List.take_succ_eq_append_getElem, List.take_of_length_le])) ?_)))
      exact F.r1 (Back.refl _ _) rfl rfl (_, _, _) trivial rfl (J := _) (.refl _) (.inl rfl)
    · refine E.y rfl rfl (by decide) ((Y.not (b := false) rfl).yd) ?_
      refine E.y rfl rfl (by decide) ((Y.pkf rfl rfl).yd) ?_
      refine E.nil (E.thn (E.ct rfl (E.seq (E.region (l := [0, 1]) rfl (E.st rfl rfl (N.bsl (pvs := []) (cs := []) us_Facts ty_Fact rfl (by decide) (by decide) (fillZ rfl rfl) rfl (by decide)) (fun b17 _ => ?_))))))
      refine Ent.drop ?_
      refine E.y rfl rfl (by decide) ((Y.as rfl).yd) ?_
      refine E.nil (E.thn (E.ret (E.thr (Ent.mkow (A := []) (Own.nil (E := eFact) (e := tFact) (a := (some ⟨b17, 0, none⟩))) rfl ?_))))
      refine Ent.cv (congrArg (ow eFacts [_]) (show _ = closeR s l facts by grind [closeR, List.drop_eq_getElem_cons, List.drop_eq_nil_of_le, List.take_succ_eq_append_getElem, List.take_of_length_le])) ?_
      exact F.r1 (Back.refl _ _) rfl rfl ((some ⟨b17, 0, none⟩), 0, 0) trivial rfl (J := _) (.refl _) (.inl rfl)
  · refine E.y rfl rfl (by decide) ((Y.not (b := false) rfl).yd) ?_
    refine E.y rfl rfl (by decide) ((Y.mv rfl).yd) ?_
    refine E.skip rfl rfl rfl ?_
    refine E.skip rfl rfl rfl ?_
    refine E.skip rfl rfl rfl ?_
    refine E.skip rfl rfl rfl ?_
    refine E.y rfl rfl (by decide) ((Y.pkt rfl rfl).yd) ?_
    refine E.nil (E.thn (E.ct rfl (E.seq (E.region (l := [0, 1]) rfl (E.st rfl rfl (N.bsl (pvs := []) (cs := []) us_Facts ty_Fact rfl (by decide) (by decide) (fillZ rfl rfl) rfl (by decide)) (fun b17 _ => ?_))))))
    refine Ent.drop ?_
    refine E.y rfl rfl (by decide) ((Y.as rfl).yd) ?_
    refine E.nil (E.thn (E.ret (E.thr (Ent.mkow (A := []) (Own.nil (E := eFact) (e := tFact) (a := (some ⟨b17, 0, none⟩))) rfl ?_))))
    refine Ent.cv (congrArg (ow eFacts [_]) (show _ = closeR s l facts by grind [closeR, List.drop_eq_getElem_cons, List.drop_eq_nil_of_le, List.take_succ_eq_append_getElem, List.take_of_length_le])) ?_
    exact F.r1 (Back.refl _ _) rfl rfl ((some ⟨b17, 0, none⟩), 0, 0) trivial rfl (J := _) (.refl _) (.inl rfl)
theorem t_laws_FnExactCloseFacts {a_aS : Option Addr} {m_aS c_aS : Nat} {aS : List Int} {a_aL : Option Addr} {m_aL c_aL : Nat} {aL : List (Int × Int × List Int)} {a_aFacts : Option Addr} {m_aFacts c_aFacts : Nat} {aFacts : List (Int × List Int)} : Tr Try.prog 11 [.slice a_aS m_aS c_aS, .slice a_aL m_aL c_aL, .slice a_aFacts m_aFacts c_aFacts] (fun w L => Ro w L eIs [.slice a_aS m_aS c_aS] aS ∧ Ro w L eRules [.slice a_aL m_aL c_aL] aL ∧ Ro w L eFacts [.slice a_aFacts m_aFacts c_aFacts] aFacts) [] (κ := Unit) (fun k => True) (fun k => .bool (true)) (fun k => []) := by
  refine Tr.intro Try.func11 rfl (n := 113) rfl (by decide +kernel) (Nat.le_of_ble_eq_true rfl) (fr := [(0, .slice a_aS m_aS c_aS), (1, .slice a_aL m_aL c_aL), (2, .slice a_aFacts m_aFacts c_aFacts)]) rfl fun w L hR => ?_
  obtain ⟨haS, haL, haFacts⟩ := hR
  obtain ⟨rfl, laS⟩ := haS.slen
  obtain ⟨rfl, laL⟩ := haL.slen
  obtain ⟨rfl, laFacts⟩ := haFacts.slen
  have b_aS := totS_I (l := aS)
  have b_aL := totS_lin (c := cE_Rule) (t := (fun x => x.2.2.length)) (n := 2) (fun x => by simp only [cE_Rule, totS_I]; omega) (l := aL)
  have c_aL : totL (fun x => x.2.2.length) aL = aL.length + totS (fun x => x.2.2.length) aL := rfl
  have b_aFacts := totS_lin (c := cE_Fact) (t := (fun x => x.2.length)) (n := 1) (fun x => by simp only [cE_Fact, totS_I]; omega) (l := aFacts)
  have c_aFacts : totL (fun x => x.2.length) aFacts = aFacts.length + totS (fun x => x.2.length) aFacts := rfl
  have r1 := closeR_tot (s := aS) (l := aL) (facts := aFacts)
  refine E.seq (E.region (l := [0]) rfl (E.y rfl rfl (by decide) ((Y.as rfl).yd) ?_))
  refine E.nil (E.thn (E.seq (E.seq (E.region (l := [0, 1, 2]) rfl (E.y rfl rfl (by decide) ((Y.mv rfl).yd) ?_)))))
  refine E.y rfl rfl (by decide) ((Y.len us_Is rfl).yd) ?_
  refine E.y rfl rfl (by decide) ((Y.gtr rfl rfl).yd) (Ent.d (fun q19 => ?_) (fun q19 => ?_))
  · refine E.nil (E.thn (E.ct rfl (E.seq (E.region (l := [0]) rfl (E.y rfl rfl (by decide) ((Y.as rfl).yd) ?_)))))
    exact E.nil (E.thn (E.ret (E.thr (F.r1 (Back.refl _ _) rfl rfl () trivial rfl (J := _) (.refl _) (.inl rfl)))))
  · refine E.nil (E.thn (E.cf rfl (E.skipc (E.thn (E.seq (E.region (l := [0]) rfl (E.y rfl rfl (by decide) ((Y.as rfl).yd) ?_)))))))
    refine E.nil (E.thn (E.seq (E.region (l := [0, 1, 2, 3]) rfl (E.y rfl rfl (by decide) ((Y.mv rfl).yd) ?_))))
    refine E.y rfl rfl (by decide) ((Y.mv rfl).yd) ?_
    refine E.st rfl rfl (N.call0 t_laws_szRuleS rfl rfl rfl (by decide) (fun w Lp hA => ⟨hA.ro haL, (by first | assumption | omega), (by first | assumption | omega)⟩)) (fun _ _ => ?_)
    refine E.y rfl rfl (by decide) ((Y.as rfl).yd) ?_
    refine E.nil (E.thn (E.seq (E.seq (E.region (l := [0, 1]) rfl (E.y rfl rfl (by decide) ((Y.mv rfl).yd) ?_)))))
    refine E.y rfl rfl (by decide) ((Y.lss rfl rfl).yd) (Ent.d (fun q24 => ?_) (fun q24 => ?_))
    · have z24 := szR_bad q24 (by omega)
      refine E.nil (E.thn (E.ct rfl (E.seq (E.region (l := [0]) rfl (E.y rfl rfl (by decide) ((Y.as rfl).yd) ?_)))))
      exact E.nil (E.thn (E.ret (E.thr (F.r1 (Back.refl _ _) rfl rfl () trivial rfl (J := _) (.refl _) (.inl rfl)))))
    · obtain ⟨z24, y24⟩ := szR_ok q24 (by omega)
      refine E.nil (E.thn (E.cf rfl (E.skipc (E.thn (E.seq (E.region (l := [0, 1, 2, 3]) rfl (E.y rfl rfl (by decide) ((Y.mv rfl).yd) ?_)))))))
      refine E.y rfl rfl (by decide) ((Y.mv rfl).yd) ?_
      refine E.st rfl rfl (N.call0 t_laws_szFactS rfl rfl rfl (by decide) (fun w Lp hA => ⟨hA.ro haFacts, (by first | assumption | omega), (by first | assumption | omega)⟩)) (fun _ _ => ?_)
      refine E.y rfl rfl (by decide) ((Y.as rfl).yd) ?_
      refine E.nil (E.thn (E.seq (E.seq (E.region (l := [0, 1]) rfl (E.y rfl rfl (by decide) ((Y.mv rfl).yd) ?_)))))
      refine E.y rfl rfl (by decide) ((Y.lss rfl rfl).yd) (Ent.d (fun q29 => ?_) (fun q29 => ?_))
      · have z29 := szR_bad q29 (by omega)
        refine E.nil (E.thn (E.ct rfl (E.seq (E.region (l := [0]) rfl (E.y rfl rfl (by decide) ((Y.as rfl).yd) ?_)))))
        exact E.nil (E.thn (E.ret (E.thr (F.r1 (Back.refl _ _) rfl rfl () trivial rfl (J := _) (.refl _) (.inl rfl)))))
      · obtain ⟨z29, y29⟩ := szR_ok q29 (by omega)
        refine E.nil (E.thn (E.cf rfl (E.skipc (E.thn (E.seq (E.region (l := [0, 1, 2, 3, 4, 5, 6, 7]) rfl (E.y rfl rfl (by decide) ((Y.mv rfl).yd) ?_)))))))
        refine E.st rfl rfl (N.call (t_laws_toIntS (by first | omega | assumption | (constructor <;> omega))) rfl rfl rfl (by decide) rfl (fun w Lp hA => hA.ro haS)) (fun k31 _ => ?_)
        obtain ⟨a31, m31, c31⟩ := k31
        refine Ent.lenow m0 fun e31 l31 => ?_
        subst e31
        refine E.y rfl rfl (by decide) ((Y.mv rfl).yd) ?_
        refine E.st rfl rfl (N.call (t_laws_toRuleS (by first | omega | assumption | (constructor <;> omega))) rfl rfl rfl (by decide) rfl (fun w Lp hA => hA.ro haL)) (fun k33 _ => ?_)
        obtain ⟨a33, m33, c33⟩ := k33
        refine Ent.lenow m0 fun e33 l33 => ?_
        subst e33
        refine E.y rfl rfl (by decide) ((Y.mv rfl).yd) ?_
        refine E.st rfl rfl (N.call (t_laws_toFactS (by first | omega | assumption | (constructor <;> omega))) rfl rfl rfl (by decide) rfl (fun w Lp hA => hA.ro haFacts)) (fun k35 _ => ?_)
        obtain ⟨a35, m35, c35⟩ := k35
        refine Ent.lenow m0 fun e35 l35 => ?_
        subst e35
        refine E.st rfl rfl (N.call t_spec_CloseFacts rfl rfl rfl (by decide) rfl (fun w Lp hA => ⟨hA.ow (mS (mS m0)), hA.ow (mS m0), hA.ow m0⟩)) (fun k36 _ => ?_)
        obtain ⟨a36, m36, c36⟩ := k36
        refine Ent.lenow m0 fun e36 l36 => ?_
        subst e36
        refine E.y rfl rfl (by decide) ((Y.as rfl).yd) ?_
        refine E.nil (E.thn (E.seq (E.region (l := [0, 1, 2]) rfl (E.y rfl rfl (by decide) ((Y.mv rfl).yd) ?_))))
        refine E.st rfl rfl (N.call (t_laws_toIntS (by first | omega | assumption | (constructor <;> omega))) rfl rfl rfl (by decide) rfl (fun w Lp hA => hA.ro haS)) (fun k38 _ => ?_)
        obtain ⟨a38, m38, c38⟩ := k38
        refine Ent.lenow m0 fun e38 l38 => ?_
        subst e38
        refine E.y rfl rfl (by decide) ((Y.as rfl).yd) ?_
        refine E.nil (E.thn (E.seq (E.region (l := [0, 1, 2]) rfl (E.y rfl rfl (by decide) ((Y.mv rfl).yd) ?_))))
        refine E.st rfl rfl (N.call (t_laws_toRuleS (by first | omega | assumption | (constructor <;> omega))) rfl rfl rfl (by decide) rfl (fun w Lp hA => hA.ro haL)) (fun k40 _ => ?_)
        obtain ⟨a40, m40, c40⟩ := k40
        refine Ent.lenow m0 fun e40 l40 => ?_
        subst e40
        refine E.y rfl rfl (by decide) ((Y.as rfl).yd) ?_
        refine E.nil (E.thn (E.seq (E.region (l := [0, 1, 2]) rfl (E.y rfl rfl (by decide) ((Y.mv rfl).yd) ?_))))
        refine E.st rfl rfl (N.call (t_laws_toFactS (by first | omega | assumption | (constructor <;> omega))) rfl rfl rfl (by decide) rfl (fun w Lp hA => hA.ro haFacts)) (fun k42 _ => ?_)
        obtain ⟨a42, m42, c42⟩ := k42
        refine Ent.lenow m0 fun e42 l42 => ?_
        subst e42
        refine E.y rfl rfl (by decide) ((Y.as rfl).yd) ?_
        refine E.nil (E.thn (E.seq (E.region (l := [0, 1, 2, 3, 4]) rfl (E.y rfl rfl (by decide) ((Y.mv rfl).yd) ?_))))
        refine E.y rfl rfl (by decide) ((Y.mv rfl).yd) ?_
        refine E.y rfl rfl (by decide) ((Y.mv rfl).yd) ?_
        refine E.st rfl rfl (N.call t_impl_CloseFacts rfl rfl rfl (by decide) rfl (fun w Lp hA => ⟨hA.ow (mS (mS m0)), hA.ow (mS m0), hA.ow m0⟩)) (fun k46 _ => ?_)
        obtain ⟨a46, m46, c46⟩ := k46
        refine Ent.lenow m0 fun e46 l46 => ?_
        subst e46
        refine E.y rfl rfl (by decide) ((Y.as rfl).yd) ?_
        refine E.nil (E.thn (E.seq (E.seq (E.region (l := [0, 1, 2, 3]) rfl (E.y rfl rfl (by decide) ((Y.mv rfl).yd) ?_)))))
        refine E.y rfl rfl (by decide) ((Y.mv rfl).yd) ?_
        refine E.st rfl rfl (N.call0 t_laws_eqFactS rfl rfl rfl (by decide) (fun w Lp hA => ⟨hA.ow m0, hA.ow (mS (mS (mS (mS m0))))⟩)) (fun _ _ => (Ent.b (fun q49 => ?_) (fun q49 => ?_)))
        · refine E.y rfl rfl (by decide) ((Y.not (b := true) rfl).yd) ?_
          refine E.nil (E.thn (E.cf rfl (E.skipc (E.thn (E.seq (E.seq (E.region (l := [0, 1, 2, 3, 4]) rfl (E.y rfl rfl (by decide) ((Y.mv rfl).yd) ?_))))))))
          refine E.y rfl rfl (by decide) ((Y.mv rfl).yd) ?_
          refine E.st rfl rfl (N.call (t_laws_toIntS (by first | omega | assumption | (constructor <;> omega))) rfl rfl rfl (by decide) rfl (fun w Lp hA => hA.ro haS)) (fun k53 _ => ?_)
          obtain ⟨a53, m53, c53⟩ := k53
          refine Ent.lenow m0 fun e53 l53 => ?_
          subst e53
          refine E.st rfl rfl (N.call0 t_laws_eqIntS rfl rfl rfl (by decide) (fun w Lp hA => ⟨hA.ow (mS (mS (mS (mS m0)))), hA.ow m0⟩)) (fun _ _ => (Ent.b (fun q54 => ?_) (fun q54 => ?_)))
          · refine E.y rfl rfl (by decide) ((Y.not (b := true) rfl).yd) ?_
            refine E.nil (E.thn (E.cf rfl (E.skipc (E.thn (E.seq (E.seq (E.region (l := [0, 1, 2, 3, 4]) rfl (E.y rfl rfl (by decide) ((Y.mv rfl).yd) ?_))))))))
            refine E.y rfl rfl (by decide) ((Y.mv rfl).yd) ?_
            refine E.st rfl rfl (N.call (t_laws_toRuleS (by first | omega | assumption | (constructor <;> omega))) rfl rfl rfl (by decide) rfl (fun w Lp hA => hA.ro haL)) (fun k58 _ => ?_)
            obtain ⟨a58, m58, c58⟩ := k58
            refine Ent.lenow m0 fun e58 l58 => ?_
            subst e58
            refine E.st rfl rfl (N.call0 t_laws_eqRuleS rfl rfl rfl (by decide) (fun w Lp hA => ⟨hA.ow (mS (mS (mS (mS m0)))), hA.ow m0⟩)) (fun _ _ => (Ent.b (fun q59 => ?_) (fun q59 => ?_)))
            · refine E.y rfl rfl (by decide) ((Y.not (b := true) rfl).yd) ?_
              refine E.nil (E.thn (E.cf rfl (E.skipc (E.thn (E.seq (E.seq (E.region (l := [0, 1, 2, 3, 4]) rfl (E.y rfl rfl (by decide) ((Y.mv rfl).yd) ?_))))))))
              refine E.y rfl rfl (by decide) ((Y.mv rfl).yd) ?_
              refine E.st rfl rfl (N.call (t_laws_toFactS (by first | omega | assumption | (constructor <;> omega))) rfl rfl rfl (by decide) rfl (fun w Lp hA => hA.ro haFacts)) (fun k63 _ => ?_)
              obtain ⟨a63, m63, c63⟩ := k63
              refine Ent.lenow m0 fun e63 l63 => ?_
              subst e63
              refine E.st rfl rfl (N.call0 t_laws_eqFactS rfl rfl rfl (by decide) (fun w Lp hA => ⟨hA.ow (mS (mS (mS (mS m0)))), hA.ow m0⟩)) (fun _ _ => (Ent.b (fun q64 => ?_) (fun q64 => ?_)))
              · refine E.y rfl rfl (by decide) ((Y.not (b := true) rfl).yd) ?_
                refine E.nil (E.thn (E.cf rfl (E.skipc (E.thn (E.seq (E.region (l := [0]) rfl (E.y rfl rfl (by decide) ((Y.as rfl).yd) ?_)))))))
                refine E.nil (E.thn (E.seq (E.region (l := [0, 1, 2, 3]) rfl (E.y rfl rfl (by decide) ((Y.mv rfl).yd) ?_))))
                refine E.y rfl rfl (by decide) ((Y.mv rfl).yd) ?_
                refine Ent.p6 ?_
                refine E.st rfl rfl (N.call (pre := [_]) t_laws_markIntS rfl rfl rfl (by decide) rfl (fun w Lp hA => ⟨(by first | assumption | omega), (by first | assumption | omega)⟩)) (fun _ _ => ?_)
                refine E.y rfl rfl (by decide) ((Y.as rfl).yd) ?_
                refine E.nil (E.thn (E.seq (E.region (l := [0, 1, 2, 3]) rfl (E.y rfl rfl (by decide) ((Y.mv rfl).yd) ?_))))
                refine E.y rfl rfl (by decide) ((Y.mv rfl).yd) ?_
                refine Ent.p6 ?_
                refine E.st rfl rfl (N.call (pre := [_]) t_laws_markRuleS rfl rfl rfl (by decide) rfl (fun w Lp hA => ⟨(by first | assumption | omega), (by first | assumption | omega)⟩)) (fun _ _ => ?_)
                refine E.y rfl rfl (by decide) ((Y.as rfl).yd) ?_
                refine E.nil (E.thn (E.seq (E.region (l := [0, 1, 2, 3]) rfl (E.y rfl rfl (by decide) ((Y.mv rfl).yd) ?_))))
                refine E.y rfl rfl (by decide) ((Y.mv rfl).yd) ?_
                refine Ent.p6 ?_
                refine E.st rfl rfl (N.call (pre := [_]) t_laws_markFactS rfl rfl rfl (by decide) rfl (fun w Lp hA => ⟨(by first | assumption | omega), (by first | assumption | omega)⟩)) (fun _ _ => ?_)
                refine E.y rfl rfl (by decide) ((Y.as rfl).yd) ?_
                refine E.nil (E.thn (E.seq (E.seq (E.region (l := [0, 1, 2, 3, 4, 5, 6, 7]) rfl (E.y rfl rfl (by decide) ((Y.mv rfl).yd) ?_)))))
                refine E.y rfl rfl (by decide) ((Y.lss rfl rfl).yd) (Ent.d (fun q76 => ?_) (fun q76 => ?_))
                · exact absurd q76 (by omega)
                · refine E.y rfl rfl (by decide) ((Y.mv rfl).yd) ?_
                  refine E.y rfl rfl (by decide) ((Y.mv rfl).yd) ?_
                  refine E.y rfl rfl (by decide) ((Y.mv rfl).yd) ?_
                  refine E.st rfl rfl (N.call0 t_laws_eqFactS rfl rfl rfl (by decide) (fun w Lp hA => ⟨hA.ow (mS (mS (mS (mS (mS (mS m0)))))), hA.ow (mS (mS (mS (mS (mS (mS (mS m0)))))))⟩)) (fun _ _ => (Ent.b (fun q80 => ?_) (fun q80 => ?_)))
                  · refine E.y rfl rfl (by decide) ((Y.not (b := true) rfl).yd) ?_
                    refine E.y rfl rfl (by decide) ((Y.pkf rfl rfl).yd) ?_
                    refine E.nil (E.thn (E.cf rfl (E.skipc (E.thn (E.seq (E.region (l := [0]) rfl (E.y rfl rfl (by decide) ((Y.as rfl).yd) ?_)))))))
                    refine E.nil (E.thn (E.seq (E.region (l := [0, 1, 2, 3]) rfl (E.y rfl rfl (by decide) ((Y.mv rfl).yd) ?_))))
                    refine E.y rfl rfl (by decide) ((Y.mv rfl).yd) ?_
                    refine Ent.p6 ?_
                    refine E.st rfl rfl (N.call (pre := [_]) t_laws_markFactS rfl rfl rfl (by decide) rfl (fun w Lp hA => ⟨(by first | assumption | omega), (by first | assumption | omega)⟩)) (fun _ _ => ?_)
                    refine E.y rfl rfl (by decide) ((Y.as rfl).yd) ?_
                    refine E.nil (E.thn (E.seq (E.region (l := [0]) rfl (E.y rfl rfl (by decide) ((Y.as rfl).yd) ?_))))
                    refine E.nil (E.thn (E.seq (E.region (l := [0, 1, 2, 3]) rfl (E.y rfl rfl (by decide) ((Y.mv rfl).yd) ?_))))
                    refine E.y rfl rfl (by decide) ((Y.mv rfl).yd) ?_
                    refine E.st rfl rfl (N.call0 (t_laws_heldFactS (mkL_mk cm_Fact mm_Fact)) rfl rfl rfl (by decide) (fun w Lp hA => ⟨hA.ow m0, (by (try simp only [mkL_c cm_I, mkL_c cm_Is, mkL_c cm_Fact, mkL_c cm_Facts, mkL_c cm_Atom, mkL_c cm_Atoms, mkL_c cm_Access, mkL_c cm_Accesss, mkL_c cm_Step, mkL_c cm_Steps, mkL_c cm_Query, mkL_c cm_Querys, mkL_c cm_Binding, mkL_c cm_Bindings, mkL_c cm_Method, mkL_c cm_Methods, mkL_c cm_Rule, mkL_c cm_Rules, mkL_c cm_Line, mkL_c cm_Lines]); omega), (by (try simp only [mkL_c cm_I, mkL_c cm_Is, mkL_c cm_Fact, mkL_c cm_Facts, mkL_c cm_Atom, mkL_c cm_Atoms, mkL_c cm_Access, mkL_c cm_Accesss, mkL_c cm_Step, mkL_c cm_Steps, mkL_c cm_Query, mkL_c cm_Querys, mkL_c cm_Binding, mkL_c cm_Bindings, mkL_c cm_Method, mkL_c cm_Methods, mkL_c cm_Rule, mkL_c cm_Rules, mkL_c cm_Line, mkL_c cm_Lines]); omega)⟩)) (fun _ _ => ?_)
                    refine E.y rfl rfl (by decide) ((Y.as rfl).yd) ?_
                    refine E.nil (E.thn (E.seq (E.seq (E.region (l := [0, 1]) rfl (E.y rfl rfl (by decide) ((Y.mv rfl).yd) ?_)))))
                    refine E.y rfl rfl (by decide) ((Y.lss rfl rfl).yd) (Ent.d (fun q90 => ?_) (fun q90 => ?_))
                    · exact absurd q90 (by omega)
                    · refine E.nil (E.thn (E.cf rfl (E.skipc (E.thn (E.seq (E.seq (E.region (l := [0, 1, 2]) rfl (E.y rfl rfl (by decide) ((Y.mv rfl).yd) ?_))))))))
                      refine E.y rfl rfl (by decide) ((Y.mv rfl).yd) ?_
                      refine E.y rfl rfl (by decide) ((Y.neq rfl rfl).yd) (Ent.d (fun q93 => ?_) (fun q93 => ?_))
                      · exact absurd (by simp only [mkL_c cm_I, mkL_c cm_Is, mkL_c cm_Fact, mkL_c cm_Facts, mkL_c cm_Atom, mkL_c cm_Atoms, mkL_c cm_Access, mkL_c cm_Accesss, mkL_c cm_Step, mkL_c cm_Steps, mkL_c cm_Query, mkL_c cm_Querys, mkL_c cm_Binding, mkL_c cm_Bindings, mkL_c cm_Method, mkL_c cm_Methods, mkL_c cm_Rule, mkL_c cm_Rules, mkL_c cm_Line, mkL_c cm_Lines]) q93
                      · refine E.nil (E.thn (E.cf rfl (E.skipc (E.thn (E.seq (E.region (l := [0, 1, 2, 3, 4, 5, 6, 7]) rfl (E.y rfl rfl (by decide) ((Y.mv rfl).yd) ?_)))))))
                        refine E.st rfl rfl (N.call (t_laws_toIntS (by first | omega | assumption | (constructor <;> omega))) rfl rfl rfl (by decide) rfl (fun w Lp hA => hA.ro haS)) (fun k95 _ => ?_)
                        obtain ⟨a95, m95, c95⟩ := k95
                        refine Ent.lenow m0 fun e95 l95 => ?_
                        subst e95
                        refine E.y rfl rfl (by decide) ((Y.mv rfl).yd) ?_
                        refine E.st rfl rfl (N.call (t_laws_toRuleS (by first | omega | assumption | (constructor <;> omega))) rfl rfl rfl (by decide) rfl (fun w Lp hA => hA.ro haL)) (fun k97 _ => ?_)
                        obtain ⟨a97, m97, c97⟩ := k97
                        refine Ent.lenow m0 fun e97 l97 => ?_
                        subst e97
                        refine E.y rfl rfl (by decide) ((Y.mv rfl).yd) ?_
                        refine E.st rfl rfl (N.call (t_laws_toFactS (by first | omega | assumption | (constructor <;> omega))) rfl rfl rfl (by decide) rfl (fun w Lp hA => hA.ro haFacts)) (fun k99 _ => ?_)
                        obtain ⟨a99, m99, c99⟩ := k99
                        refine Ent.lenow m0 fun e99 l99 => ?_
                        subst e99
                        refine E.st rfl rfl (N.call t_impl_CloseFacts rfl rfl rfl (by decide) rfl (fun w Lp hA => ⟨hA.ow (mS (mS m0)), hA.ow (mS m0), hA.ow m0⟩)) (fun k100 _ => ?_)
                        obtain ⟨a100, m100, c100⟩ := k100
                        refine Ent.lenow m0 fun e100 l100 => ?_
                        subst e100
                        refine E.y rfl rfl (by decide) ((Y.as rfl).yd) ?_
                        refine E.nil (E.thn (E.seq (E.seq (E.region (l := [0, 1, 2, 3]) rfl (E.y rfl rfl (by decide) ((Y.mv rfl).yd) ?_)))))
                        refine E.y rfl rfl (by decide) ((Y.mv rfl).yd) ?_
                        refine E.st rfl rfl (N.call0 t_laws_eqFactS rfl rfl rfl (by decide) (fun w Lp hA => ⟨hA.ow m0, hA.ow (mS (mS (mS (mS (mS (mS (mS (mS (mS (mS (mS m0)))))))))))⟩)) (fun _ _ => (Ent.b (fun q103 => ?_) (fun q103 => ?_)))
                        · refine E.y rfl rfl (by decide) ((Y.not (b := true) rfl).yd) ?_
                          refine E.nil (E.thn (E.cf rfl (E.skipc (E.thn (E.seq (E.region (l := [0]) rfl (E.y rfl rfl (by decide) ((Y.as rfl).yd) ?_)))))))
                          refine E.nil (E.thn (E.seq (E.region (l := [0, 1, 2, 3]) rfl (E.y rfl rfl (by decide) ((Y.mv rfl).yd) ?_))))
                          refine E.y rfl rfl (by decide) ((Y.mv rfl).yd) ?_
                          refine E.st rfl rfl (N.call0 (t_laws_heldFactS (mkL_mk cm_Fact mm_Fact)) rfl rfl rfl (by decide) (fun w Lp hA => ⟨hA.ow (mS (mS (mS (mS m0)))), (by (try simp only [mkL_c cm_I, mkL_c cm_Is, mkL_c cm_Fact, mkL_c cm_Facts, mkL_c cm_Atom, mkL_c cm_Atoms, mkL_c cm_Access, mkL_c cm_Accesss, mkL_c cm_Step, mkL_c cm_Steps, mkL_c cm_Query, mkL_c cm_Querys, mkL_c cm_Binding, mkL_c cm_Bindings, mkL_c cm_Method, mkL_c cm_Methods, mkL_c cm_Rule, mkL_c cm_Rules, mkL_c cm_Line, mkL_c cm_Lines]); omega), (by (try simp only [mkL_c cm_I, mkL_c cm_Is, mkL_c cm_Fact, mkL_c cm_Facts, mkL_c cm_Atom, mkL_c cm_Atoms, mkL_c cm_Access, mkL_c cm_Accesss, mkL_c cm_Step, mkL_c cm_Steps, mkL_c cm_Query, mkL_c cm_Querys, mkL_c cm_Binding, mkL_c cm_Bindings, mkL_c cm_Method, mkL_c cm_Methods, mkL_c cm_Rule, mkL_c cm_Rules, mkL_c cm_Line, mkL_c cm_Lines]); omega)⟩)) (fun _ _ => ?_)
                          refine E.y rfl rfl (by decide) ((Y.as rfl).yd) ?_
                          refine E.nil (E.thn (E.seq (E.seq (E.region (l := [0, 1]) rfl (E.y rfl rfl (by decide) ((Y.mv rfl).yd) ?_)))))
                          refine E.y rfl rfl (by decide) ((Y.lss rfl rfl).yd) (Ent.d (fun q109 => ?_) (fun q109 => ?_))
                          · exact absurd q109 (by omega)
                          · refine E.nil (E.thn (E.cf rfl (E.skipc (E.thn (E.seq (E.seq (E.region (l := [0, 1, 2]) rfl (E.y rfl rfl (by decide) ((Y.mv rfl).yd) ?_))))))))
                            refine E.y rfl rfl (by decide) ((Y.mv rfl).yd) ?_
                            refine E.y rfl rfl (by decide) ((Y.neq rfl rfl).yd) (Ent.d (fun q112 => ?_) (fun q112 => ?_))
                            · exact absurd (by simp only [mkL_c cm_I, mkL_c cm_Is, mkL_c cm_Fact, mkL_c cm_Facts, mkL_c cm_Atom, mkL_c cm_Atoms, mkL_c cm_Access, mkL_c cm_Accesss, mkL_c cm_Step, mkL_c cm_Steps, mkL_c cm_Query, mkL_c cm_Querys, mkL_c cm_Binding, mkL_c cm_Bindings, mkL_c cm_Method, mkL_c cm_Methods, mkL_c cm_Rule, mkL_c cm_Rules, mkL_c cm_Line, mkL_c cm_Lines]) q112
                            · refine E.nil (E.thn (E.cf rfl (E.skipc (E.thn (E.seq (E.region (l := [0]) rfl (E.y rfl rfl (by decide) ((Y.as rfl).yd) ?_)))))))
                              exact E.nil (E.thn (E.ret (F.r1 (Back.refl _ _) rfl rfl () trivial rfl (J := _) (.refl _) (.inl rfl))))
                        · refine E.y rfl rfl (by decide) ((Y.not (b := false) rfl).yd) ?_
                          refine E.nil (E.thn (E.ct rfl (E.seq (E.region (l := [0]) rfl (E.y rfl rfl (by decide) ((Y.as rfl).yd) ?_)))))
                          exact E.nil (E.thn (E.ret (E.thr (F.r1 (Back.refl _ _) rfl rfl () trivial (congrArg Value.bool (by simp_all)) (J := _) (.refl _) (.inl rfl)))))
                  · refine E.y rfl rfl (by decide) ((Y.not (b := false) rfl).yd) ?_
                    refine E.y rfl rfl (by decide) ((Y.pkf rfl rfl).yd) ?_
                    refine E.nil (E.thn (E.ct rfl (E.seq (E.region (l := [0]) rfl (E.y rfl rfl (by decide) ((Y.as rfl).yd) ?_)))))
                    exact E.nil (E.thn (E.ret (E.thr (F.r1 (Back.refl _ _) rfl rfl () trivial (congrArg Value.bool (by simp_all)) (J := _) (.refl _) (.inl rfl)))))
              · refine E.y rfl rfl (by decide) ((Y.not (b := false) rfl).yd) ?_
                refine E.nil (E.thn (E.ct rfl (E.seq (E.region (l := [0]) rfl (E.y rfl rfl (by decide) ((Y.as rfl).yd) ?_)))))
                exact E.nil (E.thn (E.ret (E.thr (F.r1 (Back.refl _ _) rfl rfl () trivial (congrArg Value.bool (by simp_all)) (J := _) (.refl _) (.inl rfl)))))
            · refine E.y rfl rfl (by decide) ((Y.not (b := false) rfl).yd) ?_
              refine E.nil (E.thn (E.ct rfl (E.seq (E.region (l := [0]) rfl (E.y rfl rfl (by decide) ((Y.as rfl).yd) ?_)))))
              exact E.nil (E.thn (E.ret (E.thr (F.r1 (Back.refl _ _) rfl rfl () trivial (congrArg Value.bool (by simp_all)) (J := _) (.refl _) (.inl rfl)))))
          · refine E.y rfl rfl (by decide) ((Y.not (b := false) rfl).yd) ?_
            refine E.nil (E.thn (E.ct rfl (E.seq (E.region (l := [0]) rfl (E.y rfl rfl (by decide) ((Y.as rfl).yd) ?_)))))
            exact E.nil (E.thn (E.ret (E.thr (F.r1 (Back.refl _ _) rfl rfl () trivial (congrArg Value.bool (by simp_all)) (J := _) (.refl _) (.inl rfl)))))
        · refine E.y rfl rfl (by decide) ((Y.not (b := false) rfl).yd) ?_
          refine E.nil (E.thn (E.ct rfl (E.seq (E.region (l := [0]) rfl (E.y rfl rfl (by decide) ((Y.as rfl).yd) ?_)))))
          exact E.nil (E.thn (E.ret (E.thr (F.r1 (Back.refl _ _) rfl rfl () trivial (congrArg Value.bool (by simp_all)) (J := _) (.refl _) (.inl rfl)))))
end Go.Proofs.Ytnagfcajnbkdoaa
