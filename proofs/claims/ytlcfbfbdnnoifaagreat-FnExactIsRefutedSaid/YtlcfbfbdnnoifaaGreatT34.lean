import Derived.Test.YtlcfbfbdnnoifaaGreatT33
namespace Go.Proofs.YtlcfbfbdnnoifaaGreat
open Go.RowKit
set_option linter.unusedVariables false
set_option linter.unusedSimpArgs false
set_option maxHeartbeats 2000000
attribute [local irreducible] Nop Yd Yp Ent Has Tr FnP FnP2 Src listsF opnF opn1 opnR chainB
theorem t_spec_l10HasTuple {a_l : Option Addr} {m_l c_l : Nat} {l : List (List Int)} {a_t : Option Addr} {m_t c_t : Nat} {t : List Int} : Tr Tryz.prog 82 [.slice a_l m_l c_l, .slice a_t m_t c_t] (fun w L => Ro w L eIss [.slice a_l m_l c_l] l ∧ Ro w L eIs [.slice a_t m_t c_t] t) [] (κ := Unit) (fun k => True) (fun k => .bool (hasT l t)) (fun k => []) := by
  refine Tr.intro Tryz.func82 rfl (n := 18) rfl (by decide +kernel) (Nat.le_of_ble_eq_true rfl) (fr := [(0, .slice a_l m_l c_l), (1, .slice a_t m_t c_t)]) rfl fun w L hR => ?_
  obtain ⟨hl, ht⟩ := hR
  obtain ⟨rfl, ll⟩ := hl.slen
  obtain ⟨rfl, lt⟩ := ht.slen
  refine E.seq (E.region (l := [0]) rfl (E.y rfl rfl (by decide) ((Y.as rfl).yd) ?_))
  refine E.nil (E.thn (E.seq (E.seq (E.region (l := [0]) rfl (E.y rfl rfl (by decide) ((Y.as rfl).yd) ?_)))))
  refine E.nil (E.thn (E.block (E.loop (κ := Nat) (fun g => g ≤ l.length ∧ hasT l t = hasT (l.drop g) t) (fun g => [(0, .slice a_l l.length c_l), (1, .slice a_t t.length c_t), (5, .int .i64 (↑g : Int))]) (fun g => []) (fun g => l.length - g) 0 ⟨Nat.zero_le _, by simp⟩ ⟨rfl, rfl, rfl, trivial⟩ (.refl _) (fun g pg => ?_))))
  obtain ⟨pk, pa⟩ := pg
  refine E.seq (E.seq (E.region (l := [0, 1, 2, 3]) rfl (E.y rfl rfl (by decide) ((Y.mv rfl).yd) ?_)))
  refine E.y rfl rfl (by decide) ((Y.mv rfl).yd) ?_
  refine E.y rfl rfl (by decide) ((Y.len us_Iss rfl).yd) ?_
  refine E.y rfl rfl (by decide) ((Y.lss rfl rfl).yd) (Ent.d (fun q9 => ?_) (fun q9 => ?_))
  · refine E.nil (E.thn (E.ct rfl (E.skipc (E.thn (E.seq (E.block (E.seq (E.region (l := [0, 1, 2, 3, 4, 5]) rfl (E.y rfl rfl (by decide) ((Y.mv rfl).yd) ?_)))))))))
    refine E.y rfl rfl (by decide) ((Y.mv rfl).yd) ?_
    obtain ⟨eb14, eo14, ec14, ea14, er14, el14, eh14⟩ := hl.elem g (by omega)
    obtain ⟨xa14, xc14, rfl⟩ := er14.sl
    have := er14.slen.2
    refine E.y rfl rfl (by decide) ((Y.ix us_Iss ty_Is rfl ea14 rfl g rfl (by omega)).yd) ?_
    refine E.y rfl rfl (by decide) (Y.ld1 ty_Is rfl (eh14 _) rfl) ?_
    refine E.y rfl rfl (by decide) ((Y.mv rfl).yd) ?_
    refine E.st rfl rfl (N.call0 t_spec_l2Ints rfl rfl rfl (by decide) (fun w Lp hA => ⟨hA.ro er14, hA.ro ht⟩)) (fun _ _ => (Ent.b (fun q17 => ?_) (fun q17 => ?_)))
    · refine E.nil (E.thn (E.ct rfl (E.seq (E.region (l := [0]) rfl (E.y rfl rfl (by decide) ((Y.as rfl).yd) ?_)))))
      exact E.nil (E.thn (E.ret (E.blr (E.thr (E.thr (E.blr (E.thr (F.r1 (Back.refl _ _) rfl rfl () trivial (congrArg Value.bool (by grind [hasT, List.drop_eq_getElem_cons, List.drop_eq_nil_of_le, List.take_succ_eq_append_getElem, List.take_of_length_le])) (J := _) (.refl _) (.inl rfl)))))))))
    · refine E.nil (E.thn (E.cf rfl (E.skipc (E.bln (E.thn (E.region (l := [0, 1, 2]) rfl (E.y rfl rfl (by decide) ((Y.mv rfl).yd) ?_)))))))
      refine E.y rfl rfl (by decide) ((Y.add rfl rfl (by omega) (by omega)).yd) ?_
      refine E.y rfl rfl (by decide) ((Y.as rfl).yd) ?_
      exact E.nil (E.thn (E.again (Back.refl _ _) (g + 1) ⟨rfl, rfl, rfl, trivial⟩ (.refl _) ⟨by omega, by grind [hasT, List.drop_eq_getElem_cons, List.drop_eq_nil_of_le, List.take_succ_eq_append_getElem, List.take_of_length_le]⟩ (by omega)))
  · refine E.nil (E.thn (E.cf rfl (E.exit (E.the (E.the (E.blh (E.thn (E.seq (E.region (l := [0]) rfl (E.y rfl rfl (by decide) ((Y.as rfl).yd) ?_))))))))))
    exact E.nil (E.thn (E.ret (F.r1 (Back.refl _ _) rfl rfl () trivial (congrArg Value.bool (by grind [hasT, List.drop_eq_getElem_cons, List.drop_eq_nil_of_le, List.take_succ_eq_append_getElem, List.take_of_length_le])) (J := _) (.refl _) (.inl rfl))))
theorem t_impl_IsRefuted {a_s : Option Addr} {m_s c_s : Nat} {s : List Int} {a_g_Query_Head : Option Addr} {m_g_Query_Head c_g_Query_Head : Nat} {g_Query_Head : List Int} {a_g_Query_Atoms : Option Addr} {m_g_Query_Atoms c_g_Query_Atoms : Nat} {g_Query_Atoms : List (Int × List Int)} {a_g_Not : Option Addr} {m_g_Not c_g_Not : Nat} {g_Not : List (Int × List Int)} {a_facts : Option Addr} {m_facts c_facts : Nat} {facts : List (Int × List Int)} {a_tuple : Option Addr} {m_tuple c_tuple : Nat} {tuple : List Int} (hz : totL (fun x => x.2.length) g_Query_Atoms ≤ 1048576) (hn : totL (fun x => x.2.length) g_Not ≤ 1048576) : Tr Tryz.prog 43 [.slice a_s m_s c_s, .agg #[.slice a_g_Query_Head m_g_Query_Head c_g_Query_Head, .slice a_g_Query_Atoms m_g_Query_Atoms c_g_Query_Atoms, .slice a_g_Not m_g_Not c_g_Not], .slice a_facts m_facts c_facts, .slice a_tuple m_tuple c_tuple] (fun w L => Ro w L eIs [.slice a_s m_s c_s] s ∧ Ro w L eIs [.slice a_g_Query_Head m_g_Query_Head c_g_Query_Head] g_Query_Head ∧ Ro w L eAtoms [.slice a_g_Query_Atoms m_g_Query_Atoms c_g_Query_Atoms] g_Query_Atoms ∧ Ro w L eAtoms [.slice a_g_Not m_g_Not c_g_Not] g_Not ∧ Ro w L eFacts [.slice a_facts m_facts c_facts] facts ∧ Ro w L eIs [.slice a_tuple m_tuple c_tuple] tuple) [] (κ := Unit) (fun k => True) (fun k => .bool (refR s ((g_Query_Head, g_Query_Atoms), g_Not) facts tuple)) (fun k => []) := by
  refine Tr.intro Tryz.func43 rfl (n := 30) rfl (by decide +kernel) (Nat.le_of_ble_eq_true rfl) (fr := [(0, .slice a_s m_s c_s), (1, .agg #[.slice a_g_Query_Head m_g_Query_Head c_g_Query_Head, .slice a_g_Query_Atoms m_g_Query_Atoms c_g_Query_Atoms, .slice a_g_Not m_g_Not c_g_Not]), (2, .slice a_facts m_facts c_facts), (3, .slice a_tuple m_tuple c_tuple)]) rfl fun w L hR => ?_
  obtain ⟨hs, hg_Query_Head, hg_Query_Atoms, hg_Not, hfacts, htuple⟩ := hR
  obtain ⟨rfl, ls⟩ := hs.slen
  obtain ⟨rfl, lg_Query_Head⟩ := hg_Query_Head.slen
  obtain ⟨rfl, lg_Query_Atoms⟩ := hg_Query_Atoms.slen
  obtain ⟨rfl, lg_Not⟩ := hg_Not.slen
  obtain ⟨rfl, lfacts⟩ := hfacts.slen
  obtain ⟨rfl, ltuple⟩ := htuple.slen
  refine E.seq (E.region (l := [0, 1]) rfl (E.st rfl rfl (N.box (cs := [_, _, _]) rfl (by decide) rfl) (fun b5 _ => ?_)))
  refine E.y rfl rfl (by decide) ((Y.as rfl).yd) ?_
  refine E.nil (E.thn (E.seq (E.region (l := [0, 1, 2, 3, 4, 5, 6, 7, 8, 9, 10, 11, 12, 13, 14, 15, 16, 17, 18, 19, 20, 21]) rfl (E.y rfl rfl (by decide) ((Y.mv rfl).yd) ?_))))
  refine E.y rfl rfl (by decide) (Y.ldS (cs := [_, _, _]) ty_Guarded rfl (Has.pt m0) rfl) ?_
  refine E.st rfl rfl (N.call0 (t_impl_IsGuarded (by first | omega | assumption | (constructor <;> omega)) (by first | omega | assumption | (constructor <;> omega))) rfl rfl rfl (by decide) (fun w Lp hA => ⟨hA.ro hs, hA.ro hg_Query_Head, hA.ro hg_Query_Atoms, hA.ro hg_Not⟩)) (fun _ _ => (Ent.b (fun q11 => ?_) (fun q11 => ?_)))
  · refine E.y rfl rfl (by decide) ((Y.mv rfl).yd) ?_
    refine E.y rfl rfl (by decide) ((Y.mv rfl).yd) ?_
    refine E.y rfl rfl (by decide) ((Y.fld fo_Guarded_0 ty_Query (by decide) rfl).yd) ?_
    refine E.y rfl rfl (by decide) (Y.ldS (cs := [_, _]) ty_Query rfl ((Has.pt m0).sub (cs' := [_, _]) 0 rfl) rfl) ?_
    refine E.y rfl rfl (by decide) ((Y.mv rfl).yd) ?_
    refine E.st rfl rfl (N.call (t_impl_AnswersOf (by first | omega | assumption | (constructor <;> omega))) rfl rfl rfl (by decide) rfl (fun w Lp hA => ⟨hA.ro hs, hA.ro hg_Query_Head, hA.ro hg_Query_Atoms, hA.ro hfacts⟩)) (fun k17 _ => ?_)
    obtain ⟨a17, m17, c17⟩ := k17
    refine Ent.lenow m0 fun e17 l17 => ?_
    subst e17
    refine E.y rfl rfl (by decide) ((Y.mv rfl).yd) ?_
    refine E.st rfl rfl (N.call0 t_impl_hasTuple rfl rfl rfl (by decide) (fun w Lp hA => ⟨hA.ow m0, hA.ro htuple⟩)) (fun _ _ => (Ent.b (fun q19 => ?_) (fun q19 => ?_)))
    · refine E.y rfl rfl (by decide) ((Y.pkt rfl rfl).yd) ?_
      refine E.y rfl rfl (by decide) ((Y.mv rfl).yd) ?_
      refine E.y rfl rfl (by decide) ((Y.mv rfl).yd) ?_
      refine E.y rfl rfl (by decide) (Y.ldS (cs := [_, _, _]) ty_Guarded rfl (Has.pt (mS m0)) rfl) ?_
      refine E.y rfl rfl (by decide) ((Y.mv rfl).yd) ?_
      refine E.st rfl rfl (N.call (t_impl_GuardedAnswers (by first | omega | assumption | (constructor <;> omega)) (by first | omega | assumption | (constructor <;> omega))) rfl rfl rfl (by decide) rfl (fun w Lp hA => ⟨hA.ro hs, hA.ro hg_Query_Head, hA.ro hg_Query_Atoms, hA.ro hg_Not, hA.ro hfacts⟩)) (fun k25 _ => ?_)
      obtain ⟨a25, m25, c25⟩ := k25
      refine Ent.lenow m0 fun e25 l25 => ?_
      subst e25
      refine E.y rfl rfl (by decide) ((Y.mv rfl).yd) ?_
      refine E.st rfl rfl (N.call0 t_impl_hasTuple rfl rfl rfl (by decide) (fun w Lp hA => ⟨hA.ow m0, hA.ro htuple⟩)) (fun _ _ => ?_)
      refine E.y rfl rfl (by decide) ((Y.not rfl).yd) ?_
      refine E.y rfl rfl (by decide) ((Y.pkt rfl rfl).yd) ?_
      refine E.y rfl rfl (by decide) ((Y.as rfl).yd) ?_
      exact E.nil (E.thn (E.ret (F.r1 (Back.refl _ _) rfl rfl () trivial (congrArg Value.bool (by grind [refR, List.drop_eq_getElem_cons, List.drop_eq_nil_of_le, List.take_succ_eq_append_getElem, List.take_of_length_le])) (J := _) (.refl _) (.inl rfl))))
    · refine E.y rfl rfl (by decide) ((Y.pkt rfl rfl).yd) ?_
      refine E.y rfl rfl (by decide) ((Y.mv rfl).yd) ?_
      refine E.skip rfl rfl rfl ?_
      refine E.skip rfl rfl rfl ?_
      refine E.skip rfl rfl rfl ?_
      refine E.skip rfl rfl rfl ?_
      refine E.skip rfl rfl rfl ?_
      refine E.skip rfl rfl rfl ?_
      refine E.skip rfl rfl rfl ?_
      refine E.y rfl rfl (by decide) ((Y.pkf rfl rfl).yd) ?_
      refine E.y rfl rfl (by decide) ((Y.as rfl).yd) ?_
      exact E.nil (E.thn (E.ret (F.r1 (Back.refl _ _) rfl rfl () trivial (congrArg Value.bool (by grind [refR, List.drop_eq_getElem_cons, List.drop_eq_nil_of_le, List.take_succ_eq_append_getElem, List.take_of_length_le])) (J := _) (.refl _) (.inl rfl))))
  · refine E.y rfl rfl (by decide) ((Y.mv rfl).yd) ?_
    refine E.skip rfl rfl rfl ?_
    refine E.skip rfl rfl rfl ?_
    refine E.skip rfl rfl rfl ?_
    refine E.skip rfl rfl rfl ?_
    refine E.skip rfl rfl rfl ?_
    refine E.skip rfl rfl rfl ?_
    refine E.skip rfl rfl rfl ?_
    refine E.y rfl rfl (by decide) ((Y.pkf rfl rfl).yd) ?_
    refine E.y rfl rfl (by decide) ((Y.mv rfl).yd) ?_
    refine E.skip rfl rfl rfl ?_
    refine E.skip rfl rfl rfl ?_
    refine E.skip rfl rfl rfl ?_
    refine E.skip rfl rfl rfl ?_
    refine E.skip rfl rfl rfl ?_
    refine E.skip rfl rfl rfl ?_
    refine E.skip rfl rfl rfl ?_
    refine E.y rfl rfl (by decide) ((Y.pkf rfl rfl).yd) ?_
    refine E.y rfl rfl (by decide) ((Y.as rfl).yd) ?_
    exact E.nil (E.thn (E.ret (F.r1 (Back.refl _ _) rfl rfl () trivial (congrArg Value.bool (by grind [refR, List.drop_eq_getElem_cons, List.drop_eq_nil_of_le, List.take_succ_eq_append_getElem, List.take_of_length_le])) (J := _) (.refl _) (.inl rfl))))
theorem t_spec_IsRefuted {a_s : Option Addr} {m_s c_s : Nat} {s : List Int} {a_g_Query_Head : Option Addr} {m_g_Query_Head c_g_Query_Head : Nat} {g_Query_Head : List Int} {a_g_Query_Atoms : Option Addr} {m_g_Query_Atoms c_g_Query_Atoms : Nat} {g_Query_Atoms : List (Int × List Int)} {a_g_Not : Option Addr} {m_g_Not c_g_Not : Nat} {g_Not : List (Int × List Int)} {a_facts : Option Addr} {m_facts c_facts : Nat} {facts : List (Int × List Int)} {a_tuple : Option Addr} {m_tuple c_tuple : Nat} {tuple : List Int} (hz : totL (fun x => x.2.length) g_Query_Atoms ≤ 1048576) (hn : totL (fun x => x.2.length) g_Not ≤ 1048576) : Tr Tryz.prog 41 [.slice a_s m_s c_s, .agg #[.slice a_g_Query_Head m_g_Query_Head c_g_Query_Head, .slice a_g_Query_Atoms m_g_Query_Atoms c_g_Query_Atoms, .slice a_g_Not m_g_Not c_g_Not], .slice a_facts m_facts c_facts, .slice a_tuple m_tuple c_tuple] (fun w L => Ro w L eIs [.slice a_s m_s c_s] s ∧ Ro w L eIs [.slice a_g_Query_Head m_g_Query_Head c_g_Query_Head] g_Query_Head ∧ Ro w L eAtoms [.slice a_g_Query_Atoms m_g_Query_Atoms c_g_Query_Atoms] g_Query_Atoms ∧ Ro w L eAtoms [.slice a_g_Not m_g_Not c_g_Not] g_Not ∧ Ro w L eFacts [.slice a_facts m_facts c_facts] facts ∧ Ro w L eIs [.slice a_tuple m_tuple c_tuple] tuple) [] (κ := Unit) (fun k => True) (fun k => .bool (refR s ((g_Query_Head, g_Query_Atoms), g_Not) facts tuple)) (fun k => []) := by
  refine Tr.intro Tryz.func41 rfl (n := 30) rfl (by decide +kernel) (Nat.le_of_ble_eq_true rfl) (fr := [(0, .slice a_s m_s c_s), (1, .agg #[.slice a_g_Query_Head m_g_Query_Head c_g_Query_Head, .slice a_g_Query_Atoms m_g_Query_Atoms c_g_Query_Atoms, .slice a_g_Not m_g_Not c_g_Not]), (2, .slice a_facts m_facts c_facts), (3, .slice a_tuple m_tuple c_tuple)]) rfl fun w L hR => ?_
  obtain ⟨hs, hg_Query_Head, hg_Query_Atoms, hg_Not, hfacts, htuple⟩ := hR
  obtain ⟨rfl, ls⟩ := hs.slen
  obtain ⟨rfl, lg_Query_Head⟩ := hg_Query_Head.slen
  obtain ⟨rfl, lg_Query_Atoms⟩ := hg_Query_Atoms.slen
  obtain ⟨rfl, lg_Not⟩ := hg_Not.slen
  obtain ⟨rfl, lfacts⟩ := hfacts.slen
  obtain ⟨rfl, ltuple⟩ := htuple.slen
  refine E.seq (E.region (l := [0, 1]) rfl (E.st rfl rfl (N.box (cs := [_, _, _]) rfl (by decide) rfl) (fun b5 _ => ?_)))
  refine E.y rfl rfl (by decide) ((Y.as rfl).yd) ?_
  refine E.nil (E.thn (E.seq (E.region (l := [0, 1, 2, 3, 4, 5, 6, 7, 8, 9, 10, 11, 12, 13, 14, 15, 16, 17, 18, 19, 20, 21]) rfl (E.y rfl rfl (by decide) ((Y.mv rfl).yd) ?_))))
  refine E.y rfl rfl (by decide) ((Y.fld fo_Guarded_0 ty_Query (by decide) rfl).yd) ?_
  refine E.y rfl rfl (by decide) (Y.ldS (cs := [_, _]) ty_Query rfl ((Has.pt m0).sub (cs' := [_, _]) 0 rfl) rfl) ?_
  refine E.y rfl rfl (by decide) ((Y.mv rfl).yd) ?_
  refine E.st rfl rfl (N.call (t_spec_AnswersOf (by first | omega | assumption | (constructor <;> omega))) rfl rfl rfl (by decide) rfl (fun w Lp hA => ⟨hA.ro hs, hA.ro hg_Query_Head, hA.ro hg_Query_Atoms, hA.ro hfacts⟩)) (fun k13 _ => ?_)
  obtain ⟨a13, m13, c13⟩ := k13
  refine Ent.lenow m0 fun e13 l13 => ?_
  subst e13
  refine E.y rfl rfl (by decide) ((Y.mv rfl).yd) ?_
  refine E.st rfl rfl (N.call0 t_spec_l10HasTuple rfl rfl rfl (by decide) (fun w Lp hA => ⟨hA.ow m0, hA.ro htuple⟩)) (fun _ _ => (Ent.b (fun q15 => ?_) (fun q15 => ?_)))
  · refine E.y rfl rfl (by decide) ((Y.mv rfl).yd) ?_
    refine E.y rfl rfl (by decide) ((Y.mv rfl).yd) ?_
    refine E.y rfl rfl (by decide) (Y.ldS (cs := [_, _, _]) ty_Guarded rfl (Has.pt (mS m0)) rfl) ?_
    refine E.st rfl rfl (N.call0 (t_spec_IsGuarded (by first | omega | assumption | (constructor <;> omega)) (by first | omega | assumption | (constructor <;> omega))) rfl rfl rfl (by decide) (fun w Lp hA => ⟨hA.ro hs, hA.ro hg_Query_Head, hA.ro hg_Query_Atoms, hA.ro hg_Not⟩)) (fun _ _ => (Ent.b (fun q19 => ?_) (fun q19 => ?_)))
    · refine E.y rfl rfl (by decide) ((Y.pkt rfl rfl).yd) ?_
      refine E.y rfl rfl (by decide) ((Y.mv rfl).yd) ?_
      refine E.y rfl rfl (by decide) ((Y.mv rfl).yd) ?_
      refine E.y rfl rfl (by decide) (Y.ldS (cs := [_, _, _]) ty_Guarded rfl (Has.pt (mS m0)) rfl) ?_
      refine E.y rfl rfl (by decide) ((Y.mv rfl).yd) ?_
      refine E.st rfl rfl (N.call (t_spec_GuardedAnswers (by first | omega | assumption | (constructor <;> omega)) (by first | omega | assumption | (constructor <;> omega))) rfl rfl rfl (by decide) rfl (fun w Lp hA => ⟨hA.ro hs, hA.ro hg_Query_Head, hA.ro hg_Query_Atoms, hA.ro hg_Not, hA.ro hfacts⟩)) (fun k25 _ => ?_)
      obtain ⟨a25, m25, c25⟩ := k25
      refine Ent.lenow m0 fun e25 l25 => ?_
      subst e25
      refine E.y rfl rfl (by decide) ((Y.mv rfl).yd) ?_
      refine E.st rfl rfl (N.call0 t_spec_l10HasTuple rfl rfl rfl (by decide) (fun w Lp hA => ⟨hA.ow m0, hA.ro htuple⟩)) (fun _ _ => ?_)
      refine E.y rfl rfl (by decide) ((Y.not rfl).yd) ?_
      refine E.y rfl rfl (by decide) ((Y.pkt rfl rfl).yd) ?_
      refine E.y rfl rfl (by decide) ((Y.as rfl).yd) ?_
      exact E.nil (E.thn (E.ret (F.r1 (Back.refl _ _) rfl rfl () trivial (congrArg Value.bool (by grind [refR, List.drop_eq_getElem_cons, List.drop_eq_nil_of_le, List.take_succ_eq_append_getElem, List.take_of_length_le])) (J := _) (.refl _) (.inl rfl))))
    · refine E.y rfl rfl (by decide) ((Y.pkt rfl rfl).yd) ?_
      refine E.y rfl rfl (by decide) ((Y.mv rfl).yd) ?_
      refine E.skip rfl rfl rfl ?_
      refine E.skip rfl rfl rfl ?_
      refine E.skip rfl rfl rfl ?_
      refine E.skip rfl rfl rfl ?_
      refine E.skip rfl rfl rfl ?_
      refine E.skip rfl rfl rfl ?_
      refine E.skip rfl rfl rfl ?_
      refine E.y rfl rfl (by decide) ((Y.pkf rfl rfl).yd) ?_
      refine E.y rfl rfl (by decide) ((Y.as rfl).yd) ?_
      exact E.nil (E.thn (E.ret (F.r1 (Back.refl _ _) rfl rfl () trivial (congrArg Value.bool (by grind [refR, List.drop_eq_getElem_cons, List.drop_eq_nil_of_le, List.take_succ_eq_append_getElem, List.take_of_length_le])) (J := _) (.refl _) (.inl rfl))))
  · refine E.y rfl rfl (by decide) ((Y.mv rfl).yd) ?_
    refine E.skip rfl rfl rfl ?_
    refine E.skip rfl rfl rfl ?_
    refine E.skip rfl rfl rfl ?_
    refine E.y rfl rfl (by decide) ((Y.pkf rfl rfl).yd) ?_
    refine E.y rfl rfl (by decide) ((Y.mv rfl).yd) ?_
    refine E.skip rfl rfl rfl ?_
    refine E.skip rfl rfl rfl ?_
    refine E.skip rfl rfl rfl ?_
    refine E.skip rfl rfl rfl ?_
    refine E.skip rfl rfl rfl ?_
    refine E.skip rfl rfl rfl ?_
    refine E.skip rfl rfl rfl ?_
    refine E.y rfl rfl (by decide) ((Y.pkf rfl rfl).yd) ?_
    refine E.y rfl rfl (by decide) ((Y.as rfl).yd) ?_
    exact E.nil (E.thn (E.ret (F.r1 (Back.refl _ _) rfl rfl () trivial (congrArg Value.bool (by grind [refR, List.drop_eq_getElem_cons, List.drop_eq_nil_of_le, List.take_succ_eq_append_getElem, List.take_of_length_le])) (J := _) (.refl _) (.inl rfl))))
theorem t_laws_FnExactIsRefuted {a_aS : Option Addr} {m_aS c_aS : Nat} {aS : List Int} {a_aG_Query_Head : Option Addr} {m_aG_Query_Head c_aG_Query_Head : Nat} {aG_Query_Head : List Int} {a_aG_Query_Atoms : Option Addr} {m_aG_Query_Atoms c_aG_Query_Atoms : Nat} {aG_Query_Atoms : List (Int × List Int)} {a_aG_Not : Option Addr} {m_aG_Not c_aG_Not : Nat} {aG_Not : List (Int × List Int)} {a_aFacts : Option Addr} {m_aFacts c_aFacts : Nat} {aFacts : List (Int × List Int)} {a_aTuple : Option Addr} {m_aTuple c_aTuple : Nat} {aTuple : List Int} : Tr Tryz.prog 8 [.slice a_aS m_aS c_aS, .agg #[.slice a_aG_Query_Head m_aG_Query_Head c_aG_Query_Head, .slice a_aG_Query_Atoms m_aG_Query_Atoms c_aG_Query_Atoms, .slice a_aG_Not m_aG_Not c_aG_Not], .slice a_aFacts m_aFacts c_aFacts, .slice a_aTuple m_aTuple c_aTuple] (fun w L => Ro w L eIs [.slice a_aS m_aS c_aS] aS ∧ Ro w L eIs [.slice a_aG_Query_Head m_aG_Query_Head c_aG_Query_Head] aG_Query_Head ∧ Ro w L eAtoms [.slice a_aG_Query_Atoms m_aG_Query_Atoms c_aG_Query_Atoms] aG_Query_Atoms ∧ Ro w L eAtoms [.slice a_aG_Not m_aG_Not c_aG_Not] aG_Not ∧ Ro w L eFacts [.slice a_aFacts m_aFacts c_aFacts] aFacts ∧ Ro w L eIs [.slice a_aTuple m_aTuple c_aTuple] aTuple) [] (κ := Unit) (fun k => True) (fun k => .bool (true)) (fun k => []) := by
  refine Tr.intro Tryz.func8 rfl (n := 77) rfl (by decide +kernel) (Nat.le_of_ble_eq_true rfl) (fr := [(0, .slice a_aS m_aS c_aS), (1, .agg #[.slice a_aG_Query_Head m_aG_Query_Head c_aG_Query_Head, .slice a_aG_Query_Atoms m_aG_Query_Atoms c_aG_Query_Atoms, .slice a_aG_Not m_aG_Not c_aG_Not]), (2, .slice a_aFacts m_aFacts c_aFacts), (3, .slice a_aTuple m_aTuple c_aTuple)]) rfl fun w L hR => ?_
  obtain ⟨haS, haG_Query_Head, haG_Query_Atoms, haG_Not, haFacts, haTuple⟩ := hR
  obtain ⟨rfl, laS⟩ := haS.slen
  obtain ⟨rfl, laG_Query_Head⟩ := haG_Query_Head.slen
  obtain ⟨rfl, laG_Query_Atoms⟩ := haG_Query_Atoms.slen
  obtain ⟨rfl, laG_Not⟩ := haG_Not.slen
  obtain ⟨rfl, laFacts⟩ := haFacts.slen
  obtain ⟨rfl, laTuple⟩ := haTuple.slen
  refine E.seq (E.region (l := [0, 1]) rfl (E.st rfl rfl (N.box (cs := [_, _, _]) rfl (by decide) rfl) (fun b5 _ => ?_)))
  refine E.y rfl rfl (by decide) ((Y.as rfl).yd) ?_
  refine E.nil (E.thn (E.seq (E.seq (E.region (l := [0, 1, 2]) rfl (E.y rfl rfl (by decide) ((Y.mv rfl).yd) ?_)))))
  refine E.y rfl rfl (by decide) ((Y.len us_Is rfl).yd) ?_
  refine E.y rfl rfl (by decide) ((Y.gtr rfl rfl).yd) (Ent.d (fun q18 => ?_) (fun q18 => ?_))
  · refine E.nil (E.thn (E.ct rfl (E.seq (E.region (l := [0]) rfl (E.y rfl rfl (by decide) ((Y.as rfl).yd) ?_)))))
    exact E.nil (E.thn (E.ret (E.thr (F.r1 (Back.refl _ _) rfl rfl () trivial rfl (J := _) (.refl _) (.inl rfl)))))
  · refine E.nil (E.thn (E.cf rfl (E.skipc (E.thn (E.seq (E.seq (E.region (l := [0, 1, 2]) rfl (E.y rfl rfl (by decide) ((Y.mv rfl).yd) ?_))))))))
    refine E.y rfl rfl (by decide) ((Y.len us_Is rfl).yd) ?_
    refine E.y rfl rfl (by decide) ((Y.gtr rfl rfl).yd) (Ent.d (fun q21 => ?_) (fun q21 => ?_))
    · refine E.nil (E.thn (E.ct rfl (E.seq (E.region (l := [0]) rfl (E.y rfl rfl (by decide) ((Y.as rfl).yd) ?_)))))
      exact E.nil (E.thn (E.ret (E.thr (F.r1 (Back.refl _ _) rfl rfl () trivial rfl (J := _) (.refl _) (.inl rfl)))))
    · refine E.nil (E.thn (E.cf rfl (E.skipc (E.thn (E.seq (E.region (l := [0]) rfl (E.y rfl rfl (by decide) ((Y.as rfl).yd) ?_)))))))
      refine E.nil (E.thn (E.seq (E.region (l := [0, 1, 2, 3]) rfl (E.y rfl rfl (by decide) (Y.ldS (cs := [_, _, _]) ty_lGuarded rfl (Has.pt m0) rfl) ?_))))
      refine E.y rfl rfl (by decide) ((Y.mv rfl).yd) ?_
      refine E.st rfl rfl (N.call0 t_laws_szGuarded rfl rfl rfl (by decide) (fun w Lp hA => ⟨hA.ro haG_Query_Head, hA.ro haG_Query_Atoms, hA.ro haG_Not, (by first | assumption | omega), (by first | assumption | omega)⟩)) (fun _ _ => ?_)
      refine E.y rfl rfl (by decide) ((Y.as rfl).yd) ?_
      refine E.nil (E.thn (E.seq (E.seq (E.region (l := [0, 1]) rfl (E.y rfl rfl (by decide) ((Y.mv rfl).yd) ?_)))))
      refine E.y rfl rfl (by decide) ((Y.lss rfl rfl).yd) (Ent.d (fun q26 => ?_) (fun q26 => ?_))
      · have z26 := szR_bad q26 (by omega)
        refine E.nil (E.thn (E.ct rfl (E.seq (E.region (l := [0]) rfl (E.y rfl rfl (by decide) ((Y.as rfl).yd) ?_)))))
        exact E.nil (E.thn (E.ret (E.thr (F.r1 (Back.refl _ _) rfl rfl () trivial rfl (J := _) (.refl _) (.inl rfl)))))
      · obtain ⟨z26, y26⟩ := szR_ok q26 (by omega)
        refine E.nil (E.thn (E.cf rfl (E.skipc (E.thn (E.seq (E.region (l := [0, 1, 2, 3]) rfl (E.y rfl rfl (by decide) ((Y.mv rfl).yd) ?_)))))))
        refine E.y rfl rfl (by decide) ((Y.mv rfl).yd) ?_
        refine E.st rfl rfl (N.call0 t_laws_szFactS rfl rfl rfl (by decide) (fun w Lp hA => ⟨hA.ro haFacts, (by first | assumption | omega), (by first | assumption | omega)⟩)) (fun _ _ => ?_)
        refine E.y rfl rfl (by decide) ((Y.as rfl).yd) ?_
        refine E.nil (E.thn (E.seq (E.seq (E.region (l := [0, 1]) rfl (E.y rfl rfl (by decide) ((Y.mv rfl).yd) ?_)))))
        refine E.y rfl rfl (by decide) ((Y.lss rfl rfl).yd) (Ent.d (fun q31 => ?_) (fun q31 => ?_))
        · have z31 := szR_bad q31 (by omega)
          refine E.nil (E.thn (E.ct rfl (E.seq (E.region (l := [0]) rfl (E.y rfl rfl (by decide) ((Y.as rfl).yd) ?_)))))
          exact E.nil (E.thn (E.ret (E.thr (F.r1 (Back.refl _ _) rfl rfl () trivial rfl (J := _) (.refl _) (.inl rfl)))))
        · obtain ⟨z31, y31⟩ := szR_ok q31 (by omega)
          refine E.nil (E.thn (E.cf rfl (E.skipc (E.thn (E.seq (D.region (fun j => true) mixed (D.yp 0 rfl rfl (by decide) (Y.mv rfl) (by kernel_rfl) ?_)))))))
          refine D.y 2 rfl rfl (by decide) (Y.ldS (cs := [_, _, _]) ty_lGuarded rfl (Has.pt m0) rfl) (by kernel_rfl) ?_
          refine D.yp 4 rfl rfl (by decide) (Y.mv rfl) (by kernel_rfl) ?_
          refine D.yp 6 rfl rfl (by decide) (Y.mv rfl) (by kernel_rfl) ?_
          refine D.st 1 rfl rfl (by kernel_rfl) (fun _ => rfl) (N.call (t_laws_toIntS (by first | omega | assumption | (constructor <;> omega))) rfl rfl rfl (by decide) rfl (fun w Lp hA => hA.ro haS)) (fun k33 _ => ?_)
          obtain ⟨a33, m33, c33⟩ := k33
          refine Ent.lenow m0 fun e33 l33 => ?_
          subst e33
          refine D.st 3 rfl rfl (by kernel_rfl) (fun _ => rfl) (N.call (t_laws_toGuarded (by first | omega | assumption | (constructor <;> omega)) (by first | omega | assumption | (constructor <;> omega)) (by first | omega | assumption | (constructor <;> omega))) rfl rfl rfl (by decide) rfl (fun w Lp hA => ⟨hA.ro haG_Query_Head, hA.ro haG_Query_Atoms, hA.ro haG_Not⟩)) (fun k35 _ => ?_)
          obtain ⟨⟨a35_0, m35_0, c35_0⟩, ⟨a35_1, m35_1, c35_1⟩, ⟨a35_2, m35_2, c35_2⟩⟩ := k35
          refine Ent.lenow m0 fun e35_0 l35_0 => ?_
          subst e35_0
          refine Ent.lenow (mS m0) fun e35_1 l35_1 => ?_
          subst e35_1
          refine Ent.lenow (mS (mS m0)) fun e35_2 l35_2 => ?_
          subst e35_2
          refine D.st 5 rfl rfl (by kernel_rfl) (fun _ => rfl) (N.call (t_laws_toFactS (by first | omega | assumption | (constructor <;> omega))) rfl rfl rfl (by decide) rfl (fun w Lp hA => hA.ro haFacts)) (fun k37 _ => ?_)
          obtain ⟨a37, m37, c37⟩ := k37
          refine Ent.lenow m0 fun e37 l37 => ?_
          subst e37
          refine D.st 7 rfl rfl (by kernel_rfl) (fun _ => rfl) (N.call (t_laws_toIntS (by first | omega | assumption | (constructor <;> omega))) rfl rfl rfl (by decide) rfl (fun w Lp hA => hA.ro haTuple)) (fun k39 _ => ?_)
          obtain ⟨a39, m39, c39⟩ := k39
          refine Ent.lenow m0 fun e39 l39 => ?_
          subst e39
          refine D.st 8 rfl rfl (by kernel_rfl) (fun _ => rfl) (N.call0 (t_spec_IsRefuted (by first | omega | assumption | (constructor <;> omega)) (by first | omega | assumption | (constructor <;> omega))) rfl rfl rfl (by decide) (fun w Lp hA => ⟨hA.ow (mS (mS (mS (mS (mS m0))))), hA.ow (mS (mS m0)), hA.ow (mS (mS (mS m0))), hA.ow (mS (mS (mS (mS m0)))), hA.ow (mS m0), hA.ow m0⟩)) (fun _ _ => ?_)
          refine D.yp 9 rfl rfl (by decide) (Y.as rfl) (by kernel_rfl) ?_
          refine D.done (by kernel_rfl) (E.thn (E.seq (E.region (l := [0, 1, 2]) rfl (E.y rfl rfl (by decide) ((Y.mv rfl).yd) ?_))))
          refine E.st rfl rfl (N.call (t_laws_toIntS (by first | omega | assumption | (constructor <;> omega))) rfl rfl rfl (by decide) rfl (fun w Lp hA => hA.ro haS)) (fun k42 _ => ?_)
          obtain ⟨a42, m42, c42⟩ := k42
          refine Ent.lenow m0 fun e42 l42 => ?_
          subst e42
          refine E.y rfl rfl (by decide) ((Y.as rfl).yd) ?_
          refine E.nil (E.thn (E.seq (E.region (l := [0, 1, 2, 3]) rfl (E.y rfl rfl (by decide) (Y.ldS (cs := [_, _, _]) ty_lGuarded rfl (Has.pt (mS (mS (mS (mS (mS (mS (mS m0)))))))) rfl) ?_))))
          refine E.st rfl rfl (N.call (t_laws_toGuarded (by first | omega | assumption | (constructor <;> omega)) (by first | omega | assumption | (constructor <;> omega)) (by first | omega | assumption | (constructor <;> omega))) rfl rfl rfl (by decide) rfl (fun w Lp hA => ⟨hA.ro haG_Query_Head, hA.ro haG_Query_Atoms, hA.ro haG_Not⟩)) (fun k44 _ => ?_)
          obtain ⟨⟨a44_0, m44_0, c44_0⟩, ⟨a44_1, m44_1, c44_1⟩, ⟨a44_2, m44_2, c44_2⟩⟩ := k44
          refine Ent.lenow m0 fun e44_0 l44_0 => ?_
          subst e44_0
          refine Ent.lenow (mS m0) fun e44_1 l44_1 => ?_
          subst e44_1
          refine Ent.lenow (mS (mS m0)) fun e44_2 l44_2 => ?_
          subst e44_2
          refine E.st rfl rfl (N.alloc ty_Guarded (by decide)) (fun b12 _ => ?_)
          refine E.st rfl rfl (N.sto (vs := [_, _, _]) (cs' := [_, _, _]) ty_Guarded rfl rfl rfl rfl rfl (Nat.le_of_ble_eq_true rfl) rfl) (fun _ _ => ?_)
          refine E.nil (E.thn (E.seq (E.region (l := [0, 1, 2]) rfl (E.y rfl rfl (by decide) ((Y.mv rfl).yd) ?_))))
          refine E.st rfl rfl (N.call (t_laws_toFactS (by first | omega | assumption | (constructor <;> omega))) rfl rfl rfl (by decide) rfl (fun w Lp hA => hA.ro haFacts)) (fun k46 _ => ?_)
          obtain ⟨a46, m46, c46⟩ := k46
          refine Ent.lenow m0 fun e46 l46 => ?_
          subst e46
          refine E.y rfl rfl (by decide) ((Y.as rfl).yd) ?_
          refine E.nil (E.thn (E.seq (E.region (l := [0, 1, 2]) rfl (E.y rfl rfl (by decide) ((Y.mv rfl).yd) ?_))))
          refine E.st rfl rfl (N.call (t_laws_toIntS (by first | omega | assumption | (constructor <;> omega))) rfl rfl rfl (by decide) rfl (fun w Lp hA => hA.ro haTuple)) (fun k48 _ => ?_)
          obtain ⟨a48, m48, c48⟩ := k48
          refine Ent.lenow m0 fun e48 l48 => ?_
          subst e48
          refine E.y rfl rfl (by decide) ((Y.as rfl).yd) ?_
          refine E.nil (E.thn (E.seq (E.region (l := [0, 1, 2, 3, 4, 5]) rfl (E.y rfl rfl (by decide) ((Y.mv rfl).yd) ?_))))
          refine E.y rfl rfl (by decide) (Y.ldS (cs := [_, _, _]) ty_Guarded rfl (Has.pt (mS (mS m0))) rfl) ?_
          refine E.y rfl rfl (by decide) ((Y.mv rfl).yd) ?_
          refine E.y rfl rfl (by decide) ((Y.mv rfl).yd) ?_
          refine E.st rfl rfl (N.call0 (t_impl_IsRefuted (by first | omega | assumption | (constructor <;> omega)) (by first | omega | assumption | (constructor <;> omega))) rfl rfl rfl (by decide) (fun w Lp hA => ⟨hA.ow (mS (mS (mS (mS (mS (mS m0)))))), hA.ow (mS (mS (mS m0))), hA.ow (mS (mS (mS (mS m0)))), hA.ow (mS (mS (mS (mS (mS m0))))), hA.ow (mS m0), hA.ow m0⟩)) (fun _ _ => ?_)
          refine E.y rfl rfl (by decide) ((Y.as rfl).yd) ?_
          refine E.nil (E.thn (E.seq (E.seq (E.region (l := [0, 1, 2]) rfl (E.y rfl rfl (by decide) ((Y.mv rfl).yd) ?_)))))
          refine E.y rfl rfl (by decide) ((Y.mv rfl).yd) ?_
          refine E.y rfl rfl (by decide) ((Y.neqB (by kernel_rfl) rfl rfl).yd) (Ent.d (fun q56 => ?_) (fun q56 => ?_))
          · exact absurd rfl q56
          · refine E.nil (E.thn (E.cf rfl (E.skipc (E.thn (E.seq (E.seq (E.region (l := [0, 1, 2, 3, 4]) rfl (E.y rfl rfl (by decide) ((Y.mv rfl).yd) ?_))))))))
            refine E.y rfl rfl (by decide) ((Y.mv rfl).yd) ?_
            refine E.st rfl rfl (N.call (t_laws_toIntS (by first | omega | assumption | (constructor <;> omega))) rfl rfl rfl (by decide) rfl (fun w Lp hA => hA.ro haS)) (fun k59 _ => ?_)
            obtain ⟨a59, m59, c59⟩ := k59
            refine Ent.lenow m0 fun e59 l59 => ?_
            subst e59
            refine E.st rfl rfl (N.call0 t_laws_eqIntS rfl rfl rfl (by decide) (fun w Lp hA => ⟨hA.ow (mS (mS (mS (mS (mS (mS (mS m0))))))), hA.ow m0⟩)) (fun _ _ => (Ent.b (fun q60 => ?_) (fun q60 => ?_)))
            · refine E.y rfl rfl (by decide) ((Y.not (b := true) rfl).yd) ?_
              refine E.nil (E.thn (E.cf rfl (E.skipc (E.thn (E.seq (E.seq (D.region (fun j => true) mixed (D.y 0 rfl rfl (by decide) (Y.ldS (cs := [_, _, _]) ty_Guarded rfl (Has.pt (mS (mS (mS m0)))) rfl) (by kernel_rfl) ?_))))))))
              refine D.y 1 rfl rfl (by decide) (Y.ldS (cs := [_, _, _]) ty_lGuarded rfl (Has.pt (mS (mS (mS (mS (mS (mS (mS (mS (mS (mS (mS (mS (mS (mS m0))))))))))))))) rfl) (by kernel_rfl) ?_
              refine D.st 2 rfl rfl (by kernel_rfl) (fun _ => rfl) (N.call (t_laws_toGuarded (by first | omega | assumption | (constructor <;> omega)) (by first | omega | assumption | (constructor <;> omega)) (by first | omega | assumption | (constructor <;> omega))) rfl rfl rfl (by decide) rfl (fun w Lp hA => ⟨hA.ro haG_Query_Head, hA.ro haG_Query_Atoms, hA.ro haG_Not⟩)) (fun k64 _ => ?_)
              obtain ⟨⟨a64_0, m64_0, c64_0⟩, ⟨a64_1, m64_1, c64_1⟩, ⟨a64_2, m64_2, c64_2⟩⟩ := k64
              refine Ent.lenow m0 fun e64_0 l64_0 => ?_
              subst e64_0
              refine Ent.lenow (mS m0) fun e64_1 l64_1 => ?_
              subst e64_1
              refine Ent.lenow (mS (mS m0)) fun e64_2 l64_2 => ?_
              subst e64_2
              refine D.st 3 rfl rfl (by kernel_rfl) (fun _ => rfl) (N.call0 t_laws_eqGuarded rfl rfl rfl (by decide) (fun w Lp hA => ⟨hA.ow (mS (mS (mS (mS (mS (mS (mS m0))))))), hA.ow (mS (mS (mS (mS (mS (mS (mS (mS m0)))))))), hA.ow (mS (mS (mS (mS (mS (mS (mS (mS (mS m0))))))))), hA.ow m0, hA.ow (mS m0), hA.ow (mS (mS m0))⟩)) (fun _ _ => (Ent.b (fun q65 => ?_) (fun q65 => ?_)))
              · refine D.yp 4 rfl rfl (by decide) (Y.not (b := true) rfl) (by kernel_rfl) ?_
                refine D.done (by kernel_rfl) (E.thn (E.cf rfl (E.skipc (E.thn (E.seq (E.seq (E.region (l := [0, 1, 2, 3, 4]) rfl (E.y rfl rfl (by decide) ((Y.mv rfl).yd) ?_))))))))
                refine E.y rfl rfl (by decide) ((Y.mv rfl).yd) ?_
                refine E.st rfl rfl (N.call (t_laws_toFactS (by first | omega | assumption | (constructor <;> omega))) rfl rfl rfl (by decide) rfl (fun w Lp hA => hA.ro haFacts)) (fun k69 _ => ?_)
                obtain ⟨a69, m69, c69⟩ := k69
                refine Ent.lenow m0 fun e69 l69 => ?_
                subst e69
                refine E.st rfl rfl (N.call0 t_laws_eqFactS rfl rfl rfl (by decide) (fun w Lp hA => ⟨hA.ow (mS (mS (mS (mS (mS (mS m0)))))), hA.ow m0⟩)) (fun _ _ => (Ent.b (fun q70 => ?_) (fun q70 => ?_)))
                · refine E.y rfl rfl (by decide) ((Y.not (b := true) rfl).yd) ?_
                  refine E.nil (E.thn (E.cf rfl (E.skipc (E.thn (E.seq (E.seq (E.region (l := [0, 1, 2, 3, 4]) rfl (E.y rfl rfl (by decide) ((Y.mv rfl).yd) ?_))))))))
                  refine E.y rfl rfl (by decide) ((Y.mv rfl).yd) ?_
                  refine E.st rfl rfl (N.call (t_laws_toIntS (by first | omega | assumption | (constructor <;> omega))) rfl rfl rfl (by decide) rfl (fun w Lp hA => hA.ro haTuple)) (fun k74 _ => ?_)
                  obtain ⟨a74, m74, c74⟩ := k74
                  refine Ent.lenow m0 fun e74 l74 => ?_
                  subst e74
                  refine E.st rfl rfl (N.call0 t_laws_eqIntS rfl rfl rfl (by decide) (fun w Lp hA => ⟨hA.ow (mS (mS (mS (mS (mS (mS m0)))))), hA.ow m0⟩)) (fun _ _ => (Ent.b (fun q75 => ?_) (fun q75 => ?_)))
                  · refine E.y rfl rfl (by decide) ((Y.not (b := true) rfl).yd) ?_
                    refine E.nil (E.thn (E.cf rfl (E.skipc (E.thn (E.seq (E.region (l := [0]) rfl (E.y rfl rfl (by decide) ((Y.as rfl).yd) ?_)))))))
                    exact E.nil (E.thn (E.ret (F.r1 (Back.refl _ _) rfl rfl () trivial rfl (J := _) (.refl _) (.inl rfl))))
                  · refine E.y rfl rfl (by decide) ((Y.not (b := false) rfl).yd) ?_
                    refine E.nil (E.thn (E.ct rfl (E.seq (E.region (l := [0]) rfl (E.y rfl rfl (by decide) ((Y.as rfl).yd) ?_)))))
                    exact E.nil (E.thn (E.ret (E.thr (F.r1 (Back.refl _ _) rfl rfl () trivial (congrArg Value.bool (by simp_all)) (J := _) (.refl _) (.inl rfl)))))
                · refine E.y rfl rfl (by decide) ((Y.not (b := false) rfl).yd) ?_
                  refine E.nil (E.thn (E.ct rfl (E.seq (E.region (l := [0]) rfl (E.y rfl rfl (by decide) ((Y.as rfl).yd) ?_)))))
                  exact E.nil (E.thn (E.ret (E.thr (F.r1 (Back.refl _ _) rfl rfl () trivial (congrArg Value.bool (by simp_all)) (J := _) (.refl _) (.inl rfl)))))
              · refine D.yp 4 rfl rfl (by decide) (Y.not (b := false) rfl) (by kernel_rfl) ?_
                refine D.done (by kernel_rfl) (E.thn (E.ct rfl (E.seq (E.region (l := [0]) rfl (E.y rfl rfl (by decide) ((Y.as rfl).yd) ?_)))))
                exact E.nil (E.thn (E.ret (E.thr (F.r1 (Back.refl _ _) rfl rfl () trivial (congrArg Value.bool (by simp_all)) (J := _) (.refl _) (.inl rfl)))))
            · refine E.y rfl rfl (by decide) ((Y.not (b := false) rfl).yd) ?_
              refine E.nil (E.thn (E.ct rfl (E.seq (E.region (l := [0]) rfl (E.y rfl rfl (by decide) ((Y.as rfl).yd) ?_)))))
              exact E.nil (E.thn (E.ret (E.thr (F.r1 (Back.refl _ _) rfl rfl () trivial (congrArg Value.bool (by simp_all)) (J := _) (.refl _) (.inl rfl)))))
end Go.Proofs.YtlcfbfbdnnoifaaGreat
