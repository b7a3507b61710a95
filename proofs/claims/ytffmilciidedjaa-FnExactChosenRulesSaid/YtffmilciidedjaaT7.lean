import Derived.Test.YtffmilciidedjaaT6
import Derived.Test.YtffmilciidedjaaDf
namespace Go.Proofs.Ytffmilciidedjaa
open Go.RowKit
set_option linter.unusedVariables false
set_option linter.unusedSimpArgs false
attribute [local irreducible] Nop Yd Yp Ent Has Tr FnP Src
theorem t_spec_ChosenRules {a_rules : Option Addr} {m_rules c_rules : Nat} {rules : List (Int × Int × List Int)} {mask : Int} (hz : totL (fun x => x.2.2.length) rules ≤ 1048576) : Tr Try.prog 22 [.slice a_rules m_rules c_rules, .int .i64 mask] (fun w L => Ro w L eRules [.slice a_rules m_rules c_rules] rules) [] (κ := Option Addr × Nat × Nat) (fun k => True) (fun k => .slice k.1 k.2.1 k.2.2) (fun k => [ow eRules [.slice k.1 k.2.1 k.2.2] (chosen rules mask)]) := by
  refine Tr.intro Try.func22 rfl (n := 49) rfl (by decide +kernel) (Nat.le_of_ble_eq_true rfl) (fr := [(0, .slice a_rules m_rules c_rules), (1, .int .i64 mask)]) rfl fun w L hR => ?_
  have hrules := hR
  obtain ⟨rfl, lrules⟩ := hrules.slen
  refine E.seq (E.region (l := [0]) rfl (E.y rfl rfl (by decide) ((Y.as rfl).yd) ?_))
  refine E.nil (E.thn (E.seq (E.region (l := [0, 1]) rfl (E.st rfl rfl (N.bsl (pvs := []) (cs := []) us_Rules ty_Rule rfl (by decide) (by decide) (fillZ rfl rfl) rfl (by decide)) (fun b7 _ => ?_)))))
  refine Ent.drop ?_
  refine E.y rfl rfl (by decide) ((Y.as rfl).yd) ?_
  refine E.nil (E.thn (E.seq (E.seq (E.region (l := [0]) rfl (E.y rfl rfl (by decide) ((Y.as rfl).yd) ?_)))))
  refine E.nil (E.thn (E.block (Ent.mkow (A := []) (Own.nil (E := eRule) (e := tRule) (a := (some ⟨b7, 0, none⟩))) rfl ?_)))
  refine E.loop (κ := Nat × Option Addr × Nat × Nat) (fun g => g.1 ≤ rules.length ∧ g.1 ≤ 20) (fun g => [(0, .slice a_rules rules.length c_rules), (1, .int .i64 mask), (5, .slice g.2.1 g.2.2.1 g.2.2.2), (6, .int .i64 (↑g.1 : Int))]) (fun g => [ow eRules [.slice g.2.1 g.2.2.1 g.2.2.2] (pick (bitOf mask) (rules.take g.1) 0)]) (fun g => rules.length - g.1) (0, (some ⟨b7, 0, none⟩), 0, 0) ⟨Nat.zero_le _, Nat.zero_le _⟩ ⟨rfl, rfl, rfl, rfl, trivial⟩ (.refl _) (fun g pg => ?_)
  refine Ent.lenow m0 fun em lm => ?_
  obtain ⟨pk, pk2⟩ := pg
  have pl := pick_le (p := bitOf mask) (l := rules.take g.1) (i := 0)
  rw [List.length_take] at pl
  refine E.seq (E.seq (E.region (l := [0, 1, 2, 3, 4, 5, 6, 7, 8, 9, 10, 11]) rfl (E.y rfl rfl (by decide) ((Y.mv rfl).yd) ?_)))
  refine E.y rfl rfl (by decide) ((Y.mv rfl).yd) ?_
  refine E.y rfl rfl (by decide) ((Y.len us_Rules rfl).yd) ?_
  refine E.y rfl rfl (by decide) ((Y.lss rfl rfl).yd) (Ent.d (fun q11 => ?_) (fun q11 => ?_))
  · refine E.y rfl rfl (by decide) ((Y.mv rfl).yd) ?_
    refine E.y rfl rfl (by decide) ((Y.mv rfl).yd) ?_
    refine E.y rfl rfl (by decide) ((Y.lss rfl rfl).yd) (Ent.d (fun q14 => ?_) (fun q14 => ?_))
    · refine E.y rfl rfl (by decide) ((Y.pkt rfl rfl).yd) ?_
      refine E.y rfl rfl (by decide) ((Y.mv rfl).yd) ?_
      refine E.y rfl rfl (by decide) ((Y.mv rfl).yd) ?_
      refine E.y rfl rfl (by decide) ((Y.gtr rfl rfl).yd) (Ent.d (fun q18 => ?_) (fun q18 => ?_))
      · refine E.y rfl rfl (by decide) ((Y.pkt rfl rfl).yd) ?_
        refine E.nil (E.thn (E.ct rfl (E.skipc (E.thn (E.seq (E.block (E.seq (E.region (l := [0, 1, 2, 3, 4]) rfl (E.y rfl rfl (by decide) ((Y.mv rfl).yd) ?_)))))))))
        refine E.y rfl rfl (by decide) ((Y.mv rfl).yd) ?_
        refine E.y rfl rfl (by decide) ((Y.shrN (b := g.1) rfl rfl (by omega)).yd) ?_
        refine E.y rfl rfl (by decide) ((Y.and rfl rfl).yd) ?_
        refine E.y rfl rfl (by decide) ((Y.eql rfl rfl).yd) (Ent.d (fun q26 => ?_) (fun q26 => ?_))
        · have y := tot_elem (t := (fun x => x.2.2.length)) (l := rules) (g := g.1) (by omega)
          refine E.nil (E.thn (E.ct rfl (D.region (fun j => !(Nat.beq j 20)) mixed (D.yp 0 rfl rfl (by decide) (Y.mv rfl) (by kernel_rfl) ?_))))
          refine D.yp 1 rfl rfl (by decide) (Y.mv rfl) (by kernel_rfl) ?_
          refine D.yp 2 rfl rfl (by decide) (Y.mv rfl) (by kernel_rfl) ?_
          obtain ⟨eb30, eo30, ec30, ea30, er30, el30, eh30⟩ := hrules.elem g.1 (by omega)
          obtain ⟨xa30_0, xc30_0, rfl, ei30_0, ei30_1, xh30_0⟩ := Ro.pRule er30
          have := xh30_0.slen.2
          refine D.yp 3 rfl rfl (by decide) (Y.ix us_Rules ty_Rule rfl ea30 rfl g.1 rfl (by omega)) (by kernel_rfl) ?_
          refine D.yp 4 rfl rfl (by decide) (Y.fld fo_Rule_0 ty_I (by decide) rfl) (by kernel_rfl) ?_
          refine D.y 5 rfl rfl (by decide) (Y.ld1 ty_I rfl ((eh30 _).sub (cs' := [_]) 0 rfl) rfl) (by kernel_rfl) ?_
          refine D.yp 6 rfl rfl (by decide) (Y.mv rfl) (by kernel_rfl) ?_
          refine D.yp 7 rfl rfl (by decide) (Y.mv rfl) (by kernel_rfl) ?_
          refine D.yp 8 rfl rfl (by decide) (Y.ix us_Rules ty_Rule rfl ea30 rfl g.1 rfl (by omega)) (by kernel_rfl) ?_
          refine D.yp 9 rfl rfl (by decide) (Y.fld fo_Rule_1 ty_I (by decide) rfl) (by kernel_rfl) ?_
          refine D.y 10 rfl rfl (by decide) (Y.ld1 ty_I rfl ((eh30 _).sub (cs' := [_]) 1 rfl) rfl) (by kernel_rfl) ?_
          refine D.yp 12 rfl rfl (by decide) (Y.mv rfl) (by kernel_rfl) ?_
          refine D.yp 13 rfl rfl (by decide) (Y.mv rfl) (by kernel_rfl) ?_
          refine D.yp 14 rfl rfl (by decide) (Y.ix us_Rules ty_Rule rfl ea30 rfl g.1 rfl (by omega)) (by kernel_rfl) ?_
          refine D.yp 15 rfl rfl (by decide) (Y.fld fo_Rule_2 ty_Is (by decide) rfl) (by kernel_rfl) ?_
          refine D.y 16 rfl rfl (by decide) (Y.ld1 ty_Is rfl ((eh30 _).sub (cs' := [_]) 2 rfl) rfl) (by kernel_rfl) ?_
          refine D.st 11 rfl rfl (by kernel_rfl) (fun _ => rfl) (N.bsl (pvs := []) (cs := []) us_Is ty_I rfl (by decide) (by decide) (fillZ rfl rfl) rfl (by decide)) (fun b38 _ => ?_)
          refine Ent.drop ?_
          refine D.st 17 rfl rfl (by kernel_rfl) (fun _ => rfl) (N.pushR0 (E := Enc.int) Plain.int us_Is ty_I rfl rfl rfl xh30_0 (by omega) (by omega) (by decide)) (fun p44 _ => ?_)
          refine D.yp 18 rfl rfl (by decide) (Y.bld (pvs := [_, _, _]) (cs := [_, _, _]) ty_Rule pl_Rule rfl rfl) (by kernel_rfl) ?_
          refine D.st 19 rfl rfl (by kernel_rfl) (fun _ => rfl) (N.bsl (pvs := [_]) (cs := [_, _, _]) us_Rules ty_Rule rfl (by decide) (by decide) (fillZ rfl rfl) rfl (by decide)) (fun b46 _ => ?_)
          refine Ent.p1 ?_
          refine Ent.p1 ?_
          refine Ent.p2 ?_
          refine D.st 20 rfl rfl (by kernel_rfl) (fun h => by cases h) (N.push (E := eRule) (ex := rules[g.1]) us_Rules ty_Rule rfl rfl rfl (Own.mkRule (x := rules[g.1]) ei30_0 ei30_1 Own.ow) rfl (by omega) (by omega) (by decide)) (fun p47 _ => ?_)
          refine D.yp 21 rfl rfl (by decide) (Y.as rfl) (by kernel_rfl) ?_
          refine D.done (by kernel_rfl) (E.bln (E.thn (E.region (l := [0, 1, 2]) rfl (E.y rfl rfl (by decide) ((Y.mv rfl).yd) ?_))))
          refine E.y rfl rfl (by decide) ((Y.add rfl rfl (by omega) (by omega)).yd) ?_
          refine E.y rfl rfl (by decide) ((Y.as rfl).yd) ?_
          refine E.nil (E.thn (Ent.cv (congrArg (ow eRules [_]) (show (pick (bitOf mask) (rules.take g.1) 0) ++ [rules[g.1]] = pick (bitOf mask) (rules.take (g.1 + 1)) 0 from pick_step (by omega) ((bitOf_nonneg (by omega)).trans (decide_eq_true q26)))) ?_))
          exact E.again (Back.refl _ _) (g.1 + 1, p47.1, (g.2.2.1 + 1), p47.2) ⟨rfl, rfl, rfl, rfl, trivial⟩ (.refl _) ⟨(show g.1 + 1 ≤ _ by omega), (show g.1 + 1 ≤ _ by omega)⟩ (show _ - (g.1 + 1) < _ by omega)
        · refine E.nil (E.thn (E.cf rfl (E.skipc (E.bln (E.thn (E.region (l := [0, 1, 2]) rfl (E.y rfl rfl (by decide) ((Y.mv rfl).yd) ?_)))))))
          refine E.y rfl rfl (by decide) ((Y.add rfl rfl (by omega) (by omega)).yd) ?_
          refine E.y rfl rfl (by decide) ((Y.as rfl).yd) ?_
          refine E.nil (E.thn (Ent.cv (congrArg (ow eRules [_]) (show pick (bitOf mask) (rules.take g.1) 0 = pick (bitOf mask) (rules.take (g.1 + 1)) 0 from pick_skip (by omega) ((bitOf_nonneg (by omega)).trans (decide_eq_false q26)))) ?_))
          exact E.again (Back.refl _ _) (g.1 + 1, g.2.1, g.2.2.1, g.2.2.2) ⟨rfl, rfl, rfl, rfl, trivial⟩ (.refl _) ⟨(show g.1 + 1 ≤ _ by omega), (show g.1 + 1 ≤ _ by omega)⟩ (show _ - (g.1 + 1) < _ by omega)
      · refine E.y rfl rfl (by decide) ((Y.pkt rfl rfl).yd) ?_
        refine E.nil (E.thn (E.cf rfl (E.exit (E.the (E.the (E.blh (E.thn (E.seq (E.region (l := [0, 1]) rfl (E.y rfl rfl (by decide) ((Y.mv rfl).yd) ?_))))))))))
        refine E.y rfl rfl (by decide) ((Y.as rfl).yd) ?_
        refine E.nil (E.thn (E.ret (Ent.cv (congrArg (ow eRules [_]) (show _ = chosen rules mask by exact chosen_none q18)) ?_)))
        exact F.r1 (Back.refl _ _) rfl rfl (_, _, _) trivial rfl (J := _) (.refl _) (.inl rfl)
    · refine E.y rfl rfl (by decide) ((Y.pkt rfl rfl).yd) ?_
      refine E.y rfl rfl (by decide) ((Y.mv rfl).yd) ?_
      refine E.skip rfl rfl rfl ?_
      refine E.skip rfl rfl rfl ?_
      refine E.y rfl rfl (by decide) ((Y.pkf rfl rfl).yd) ?_
      refine E.nil (E.thn (E.cf rfl (E.exit (E.the (E.the (E.blh (E.thn (E.seq (E.region (l := [0, 1]) rfl (E.y rfl rfl (by decide) ((Y.mv rfl).yd) ?_))))))))))
      refine E.y rfl rfl (by decide) ((Y.as rfl).yd) ?_
      refine E.nil (E.thn (E.ret (Ent.cv (congrArg (ow eRules [_]) (show _ = chosen rules mask by exact chosen_take (by omega) pk2 pk)) ?_)))
      exact F.r1 (Back.refl _ _) rfl rfl (_, _, _) trivial rfl (J := _) (.refl _) (.inl rfl)
  · refine E.y rfl rfl (by decide) ((Y.mv rfl).yd) ?_
    refine E.skip rfl rfl rfl ?_
    refine E.skip rfl rfl rfl ?_
    refine E.y rfl rfl (by decide) ((Y.pkf rfl rfl).yd) ?_
    refine E.y rfl rfl (by decide) ((Y.mv rfl).yd) ?_
    refine E.skip rfl rfl rfl ?_
    refine E.skip rfl rfl rfl ?_
    refine E.y rfl rfl (by decide) ((Y.pkf rfl rfl).yd) ?_
    refine E.nil (E.thn (E.cf rfl (E.exit (E.the (E.the (E.blh (E.thn (E.seq (E.region (l := [0, 1]) rfl (E.y rfl rfl (by decide) ((Y.mv rfl).yd) ?_))))))))))
    refine E.y rfl rfl (by decide) ((Y.as rfl).yd) ?_
    refine E.nil (E.thn (E.ret (Ent.cv (congrArg (ow eRules [_]) (show _ = chosen rules mask by exact chosen_take (by omega) pk2 pk)) ?_)))
    exact F.r1 (Back.refl _ _) rfl rfl (_, _, _) trivial rfl (J := _) (.refl _) (.inl rfl)
theorem t_impl_ChosenRules {a_rules : Option Addr} {m_rules c_rules : Nat} {rules : List (Int × Int × List Int)} {mask : Int} (hz : totL (fun x => x.2.2.length) rules ≤ 1048576) : Tr Try.prog 23 [.slice a_rules m_rules c_rules, .int .i64 mask] (fun w L => Ro w L eRules [.slice a_rules m_rules c_rules] rules) [] (κ := Option Addr × Nat × Nat) (fun k => True) (fun k => .slice k.1 k.2.1 k.2.2) (fun k => [ow eRules [.slice k.1 k.2.1 k.2.2] (chosen rules mask)]) := by
  refine Tr.intro Try.func23 rfl (n := 42) rfl (by decide +kernel) (Nat.le_of_ble_eq_true rfl) (fr := [(0, .slice a_rules m_rules c_rules), (1, .int .i64 mask)]) rfl fun w L hR => ?_
  have hrules := hR
  obtain ⟨rfl, lrules⟩ := hrules.slen
  refine E.seq (E.region (l := [0]) rfl (E.y rfl rfl (by decide) ((Y.as rfl).yd) ?_))
  refine E.nil (E.thn (E.seq (E.region (l := [0, 1]) rfl (E.st rfl rfl (N.bsl (pvs := []) (cs := []) us_Rules ty_Rule rfl (by decide) (by decide) (fillZ rfl rfl) rfl (by decide)) (fun b8 _ => ?_)))))
  refine Ent.drop ?_
  refine E.y rfl rfl (by decide) ((Y.as rfl).yd) ?_
  refine E.nil (E.thn (E.seq (E.seq (E.region (l := [0, 1, 2, 3, 4, 5, 6]) rfl (E.y rfl rfl (by decide) ((Y.mv rfl).yd) ?_)))))
  refine E.y rfl rfl (by decide) ((Y.mv rfl).yd) ?_
  refine E.y rfl rfl (by decide) ((Y.len us_Rules rfl).yd) ?_
  refine E.y rfl rfl (by decide) ((Y.mnN (a := 20) (b := rules.length) rfl rfl).yd) ?_
  have rs13 := hrules.upto (min 20 rules.length) (by omega)
  have rl13 := rs13.slen.1
  have rc13 := hrules.cap
  refine E.y rfl rfl (by decide) ((Y.slTo (h := min 20 rules.length) us_Rules ty_Rule rfl rfl (by omega)).yd) ?_
  refine E.y rfl rfl (by decide) ((Y.len us_Rules rfl).yd) ?_
  refine E.y rfl rfl (by decide) ((Y.mv rfl).yd) ?_
  refine E.nil (E.thn (E.block (Ent.mkow (A := []) (Own.nil (E := eRule) (e := tRule) (a := (some ⟨b8, 0, none⟩))) rfl ?_)))
  refine E.loop (κ := Nat × Option Addr × Nat × Nat) (fun g => g.1 ≤ min 20 rules.length) (fun g => [(1, .int .i64 mask), (5, .slice g.2.1 g.2.2.1 g.2.2.2), (13, .slice a_rules (min 20 rules.length) c_rules), (14, .int .i64 (↑(min 20 rules.length) : Int)), (15, .int .i64 (↑g.1 : Int))]) (fun g => [ow eRules [.slice g.2.1 g.2.2.1 g.2.2.2] (pick (bitOf mask) ((rules.take (min 20 rules.length)).take g.1) 0)]) (fun g => (rules.take (min 20 rules.length)).length - g.1) (0, (some ⟨b8, 0, none⟩), 0, 0) (Nat.zero_le _) ⟨rfl, rfl, rfl, rfl, rfl, trivial⟩ (.refl _) (fun g pg => ?_)
  refine Ent.lenow m0 fun em lm => ?_
  have pl := pick_le (p := bitOf mask) (l := (rules.take (min 20 rules.length)).take g.1) (i := 0)
  rw [List.length_take] at pl
  refine E.seq (E.region (l := [0]) rfl (E.y rfl rfl (by decide) ((Y.lss rfl rfl).yd) (Ent.d (fun q16 => ?_) (fun q16 => ?_))))
  · refine E.nil (E.thn (E.seq (E.ct rfl (E.skipc (E.thn (E.seq (E.block (E.seq (E.region (l := [0, 1, 2, 3, 4, 5]) rfl (E.y rfl rfl (by decide) ((Y.mv rfl).yd) ?_))))))))))
    obtain ⟨eb18, eo18, ec18, ea18, er18, el18, eh18⟩ := rs13.elem g.1 (by omega)
    obtain ⟨xa18_0, xc18_0, rfl, ei18_0, ei18_1, xh18_0⟩ := Ro.pRule er18
    have := xh18_0.slen.2
    refine E.y rfl rfl (by decide) ((Y.ix us_Rules ty_Rule rfl ea18 rfl g.1 rfl (by omega)).yd) ?_
    refine E.y rfl rfl (by decide) (Y.ldS (cs := [_, _, _]) ty_Rule rfl (eh18 _) rfl) ?_
    refine E.st rfl rfl (N.alloc ty_Rule (by decide)) (fun b7 _ => ?_)
    refine E.y rfl rfl (by decide) ((Y.as rfl).yd) ?_
    refine E.st rfl rfl (N.sto (vs := [_, _, _]) (cs' := [_, _, _]) ty_Rule rfl rfl rfl rfl rfl (Nat.le_of_ble_eq_true rfl) rfl) (fun _ _ => ?_)
    refine E.nil (E.thn (E.seq (E.region (l := [0, 1, 2, 3, 4, 5, 6, 7, 8]) rfl (E.y rfl rfl (by decide) ((Y.mv rfl).yd) ?_))))
    refine E.y rfl rfl (by decide) ((Y.geq rfl rfl).yd) (Ent.d (fun q21 => ?_) (fun q21 => ?_))
    · refine E.y rfl rfl (by decide) ((Y.mv rfl).yd) ?_
      refine E.y rfl rfl (by decide) ((Y.mv rfl).yd) ?_
      refine E.y rfl rfl (by decide) ((Y.mv rfl).yd) ?_
      refine E.y rfl rfl (by decide) ((Y.shrN (b := g.1) rfl rfl (by omega)).yd) ?_
      refine E.y rfl rfl (by decide) ((Y.and rfl rfl).yd) ?_
      refine E.y rfl rfl (by decide) ((Y.eql rfl rfl).yd) (Ent.d (fun q27 => ?_) (fun q27 => ?_))
      · have y : ((rules.take (min 20 rules.length))[g.1]).2.2.length ≤ 1048576 := by { rw [List.getElem_take]; have y := tot_elem (t := (fun x => x.2.2.length)) (l := rules) (g := g.1) (by omega); omega }
        refine E.y rfl rfl (by decide) ((Y.pkt rfl rfl).yd) ?_
        refine E.nil (E.thn (E.ct rfl (D.region (fun j => !(Nat.beq j 10)) mixed (D.yp 0 rfl rfl (by decide) (Y.mv rfl) (by kernel_rfl) ?_))))
        refine D.yp 1 rfl rfl (by decide) (Y.fld fo_Rule_0 ty_I (by decide) rfl) (by kernel_rfl) ?_
        refine D.y 2 rfl rfl (by decide) (Y.ld1 ty_I rfl ((Has.pt m0).sub (cs' := [_]) 0 rfl) rfl) (by kernel_rfl) ?_
        refine D.yp 3 rfl rfl (by decide) (Y.fld fo_Rule_1 ty_I (by decide) rfl) (by kernel_rfl) ?_
        refine D.y 4 rfl rfl (by decide) (Y.ld1 ty_I rfl ((Has.pt m0).sub (cs' := [_]) 1 rfl) rfl) (by kernel_rfl) ?_
        refine D.yp 5 rfl rfl (by decide) (Y.fld fo_Rule_2 ty_Is (by decide) rfl) (by kernel_rfl) ?_
        refine D.y 6 rfl rfl (by decide) (Y.ld1 ty_Is rfl ((Has.pt m0).sub (cs' := [_]) 2 rfl) rfl) (by kernel_rfl) ?_
        refine D.st 7 rfl rfl (by kernel_rfl) (fun _ => rfl) (N.call (t_Clone_Is (by first | omega | assumption)) rfl rfl rfl (by decide) rfl (fun w Lp hA => hA.ro xh18_0)) (fun k36 _ => ?_)
        obtain ⟨a36, m36, c36⟩ := k36
        refine Ent.lenow m0 fun e36 l36 => ?_
        subst e36
        refine D.yp 8 rfl rfl (by decide) (Y.bld (pvs := [_, _, _]) (cs := [_, _, _]) ty_Rule pl_Rule rfl rfl) (by kernel_rfl) ?_
        refine D.st 9 rfl rfl (by kernel_rfl) (fun _ => rfl) (N.bsl (pvs := [_]) (cs := [_, _, _]) us_Rules ty_Rule rfl (by decide) (by decide) (fillZ rfl rfl) rfl (by decide)) (fun b38 _ => ?_)
        refine Ent.p1 ?_
        refine Ent.p1 ?_
        refine Ent.p3 ?_
        refine D.st 10 rfl rfl (by kernel_rfl) (fun h => by cases h) (N.push (E := eRule) (ex := ((rules.take (min 20 rules.length))[g.1].1, (rules.take (min 20 rules.length))[g.1].2.1, ((rules.take (min 20 rules.length))[g.1].2.2))) us_Rules ty_Rule rfl rfl rfl (Own.mkRule (x := ((rules.take (min 20 rules.length))[g.1].1, (rules.take (min 20 rules.length))[g.1].2.1, ((rules.take (min 20 rules.length))[g.1].2.2))) ei18_0 ei18_1 Own.ow) rfl (by omega) (by omega) (by decide)) (fun p39 _ => ?_)
        refine D.yp 11 rfl rfl (by decide) (Y.as rfl) (by kernel_rfl) ?_
        refine D.done (by kernel_rfl) (E.bln (E.thn (E.region (l := [0, 1]) rfl (E.y rfl rfl (by decide) ((Y.add rfl rfl (by omega) (by omega)).yd) ?_))))
        refine E.y rfl rfl (by decide) ((Y.mv rfl).yd) ?_
        refine E.nil (E.thn (Ent.p1 ?_))
        refine Ent.drop ?_
        refine Ent.cv (congrArg (ow eRules [_]) (show (pick (bitOf mask) ((rules.take (min 20 rules.length)).take g.1) 0) ++ [((rules.take (min 20 rules.length))[g.1].1, (rules.take (min 20 rules.length))[g.1].2.1, ((rules.take (min 20 rules.length))[g.1].2.2))] = pick (bitOf mask) ((rules.take (min 20 rules.length)).take (g.1 + 1)) 0 from pick_step (by omega) ((bitOf_nonneg q21).trans (decide_eq_true q27)))) ?_
        exact E.again (Back.refl _ _) (g.1 + 1, p39.1, (g.2.2.1 + 1), p39.2) ⟨rfl, rfl, rfl, rfl, rfl, trivial⟩ (.refl _) (show g.1 + 1 ≤ _ by omega) (show _ - (g.1 + 1) < _ by omega)
      · refine E.y rfl rfl (by decide) ((Y.pkt rfl rfl).yd) ?_
        refine E.nil (E.thn (E.cf rfl (E.skipc (E.bln (E.thn (E.region (l := [0, 1]) rfl (E.y rfl rfl (by decide) ((Y.add rfl rfl (by omega) (by omega)).yd) ?_)))))))
        refine E.y rfl rfl (by decide) ((Y.mv rfl).yd) ?_
        refine E.nil (E.thn (Ent.drop ?_))
        refine Ent.cv (congrArg (ow eRules [_]) (show pick (bitOf mask) ((rules.take (min 20 rules.length)).take g.1) 0 = pick (bitOf mask) ((rules.take (min 20 rules.length)).take (g.1 + 1)) 0 from pick_skip (by omega) ((bitOf_nonneg q21).trans (decide_eq_false q27)))) ?_
        exact E.again (Back.refl _ _) (g.1 + 1, g.2.1, g.2.2.1, g.2.2.2) ⟨rfl, rfl, rfl, rfl, rfl, trivial⟩ (.refl _) (show g.1 + 1 ≤ _ by omega) (show _ - (g.1 + 1) < _ by omega)
    · refine E.y rfl rfl (by decide) ((Y.mv rfl).yd) ?_
      refine E.skip rfl rfl rfl ?_
      refine E.skip rfl rfl rfl ?_
      refine E.skip rfl rfl rfl ?_
      refine E.skip rfl rfl rfl ?_
      refine E.skip rfl rfl rfl ?_
      refine E.y rfl rfl (by decide) ((Y.pkf rfl rfl).yd) ?_
      refine E.nil (E.thn (E.cf rfl (E.skipc (E.bln (E.thn (E.region (l := [0, 1]) rfl (E.y rfl rfl (by decide) ((Y.add rfl rfl (by omega) (by omega)).yd) ?_)))))))
      refine E.y rfl rfl (by decide) ((Y.mv rfl).yd) ?_
      refine E.nil (E.thn (Ent.drop ?_))
      refine Ent.cv (congrArg (ow eRules [_]) (show pick (bitOf mask) ((rules.take (min 20 rules.length)).take g.1) 0 = pick (bitOf mask) ((rules.take (min 20 rules.length)).take (g.1 + 1)) 0 from pick_skip (by omega) (bitOf_neg (by omega)))) ?_
      exact E.again (Back.refl _ _) (g.1 + 1, g.2.1, g.2.2.1, g.2.2.2) ⟨rfl, rfl, rfl, rfl, rfl, trivial⟩ (.refl _) (show g.1 + 1 ≤ _ by omega) (show _ - (g.1 + 1) < _ by omega)
  · refine E.nil (E.thn (E.seq (E.cf rfl (E.exit (E.the (E.the (E.blh (E.thn (E.seq (E.region (l := [0, 1]) rfl (E.y rfl rfl (by decide) ((Y.mv rfl).yd) ?_)))))))))))
    refine E.y rfl rfl (by decide) ((Y.as rfl).yd) ?_
    refine E.nil (E.thn (E.ret (Ent.cv (congrArg (ow eRules [_]) (show _ = chosen rules mask by exact chosen_min (by omega))) ?_)))
    exact F.r1 (Back.refl _ _) rfl rfl (_, _, _) trivial rfl (J := _) (.refl _) (.inl rfl)
theorem t_laws_FnExactChosenRules {a_aRules : Option Addr} {m_aRules c_aRules : Nat} {aRules : List (Int × Int × List Int)} {aMask : Int} : Tr Try.prog 5 [.slice a_aRules m_aRules c_aRules, .int .i64 aMask] (fun w L => Ro w L eRules [.slice a_aRules m_aRules c_aRules] aRules) [] (κ := Unit) (fun k => True) (fun k => .bool (true)) (fun k => []) := by
  refine Tr.intro Try.func5 rfl (n := 74) rfl (by decide +kernel) (Nat.le_of_ble_eq_true rfl) (fr := [(0, .slice a_aRules m_aRules c_aRules), (1, .int .i64 aMask)]) rfl fun w L hR => ?_
  have haRules := hR
  obtain ⟨rfl, laRules⟩ := haRules.slen
  have b1 := totS_lin (c := cE_Rule) (t := (fun x => x.2.2.length)) (n := 2) (fun x => by simp only [cE_Rule, totS_I]; omega) (l := aRules)
  have b2 : totL (fun x => x.2.2.length) aRules = aRules.length + totS (fun x => x.2.2.length) aRules := rfl
  have b3 := chosen_tot (c := cE_Rule) (l := aRules) (mask := aMask)
  refine E.seq (E.region (l := [0]) rfl (E.y rfl rfl (by decide) ((Y.as rfl).yd) ?_))
  refine E.nil (E.thn (E.seq (E.region (l := [0]) rfl (E.y rfl rfl (by decide) ((Y.as rfl).yd) ?_))))
  refine E.nil (E.thn (E.seq (E.region (l := [0, 1, 2, 3]) rfl (E.y rfl rfl (by decide) ((Y.mv rfl).yd) ?_))))
  refine E.y rfl rfl (by decide) ((Y.mv rfl).yd) ?_
  refine E.st rfl rfl (N.call0 t_laws_szRuleS rfl rfl rfl (by decide) (fun w Lp hA => ⟨hA.ro haRules, (by first | assumption | omega), (by first | assumption | omega)⟩)) (fun _ _ => ?_)
  refine E.y rfl rfl (by decide) ((Y.as rfl).yd) ?_
  refine E.nil (E.thn (E.seq (E.seq (E.region (l := [0, 1]) rfl (E.y rfl rfl (by decide) ((Y.mv rfl).yd) ?_)))))
  refine E.y rfl rfl (by decide) ((Y.lss rfl rfl).yd) (Ent.d (fun q17 => ?_) (fun q17 => ?_))
  · have z17 := szR_bad q17 (by omega)
    refine E.nil (E.thn (E.ct rfl (E.seq (E.region (l := [0]) rfl (E.y rfl rfl (by decide) ((Y.as rfl).yd) ?_)))))
    exact E.nil (E.thn (E.ret (E.thr (F.r1 (Back.refl _ _) rfl rfl () trivial rfl (J := _) (.refl _) (.inl rfl)))))
  · obtain ⟨z17, y17⟩ := szR_ok q17 (by omega)
    refine E.nil (E.thn (E.cf rfl (E.skipc (E.thn (E.seq (E.region (l := [0, 1, 2, 3, 4]) rfl (E.y rfl rfl (by decide) ((Y.mv rfl).yd) ?_)))))))
    refine E.st rfl rfl (N.call (t_laws_toRuleS (by first | omega | assumption)) rfl rfl rfl (by decide) rfl (fun w Lp hA => hA.ro haRules)) (fun k19 _ => ?_)
    obtain ⟨a19, m19, c19⟩ := k19
    refine Ent.lenow m0 fun e19 l19 => ?_
    subst e19
    refine E.y rfl rfl (by decide) ((Y.mv rfl).yd) ?_
    refine E.st rfl rfl (N.call (t_spec_ChosenRules (by first | omega | assumption)) rfl rfl rfl (by decide) rfl (fun w Lp hA => hA.ow m0)) (fun k21 _ => ?_)
    obtain ⟨a21, m21, c21⟩ := k21
    refine Ent.lenow m0 fun e21 l21 => ?_
    subst e21
    refine E.y rfl rfl (by decide) ((Y.as rfl).yd) ?_
    refine E.nil (E.thn (E.seq (E.region (l := [0, 1, 2]) rfl (E.y rfl rfl (by decide) ((Y.mv rfl).yd) ?_))))
    refine E.st rfl rfl (N.call (t_laws_toRuleS (by first | omega | assumption)) rfl rfl rfl (by decide) rfl (fun w Lp hA => hA.ro haRules)) (fun k23 _ => ?_)
    obtain ⟨a23, m23, c23⟩ := k23
    refine Ent.lenow m0 fun e23 l23 => ?_
    subst e23
    refine E.y rfl rfl (by decide) ((Y.as rfl).yd) ?_
    refine E.nil (E.thn (E.seq (E.region (l := [0, 1, 2, 3]) rfl (E.y rfl rfl (by decide) ((Y.mv rfl).yd) ?_))))
    refine E.y rfl rfl (by decide) ((Y.mv rfl).yd) ?_
    refine E.st rfl rfl (N.call (t_impl_ChosenRules (by first | omega | assumption)) rfl rfl rfl (by decide) rfl (fun w Lp hA => hA.ow m0)) (fun k26 _ => ?_)
    obtain ⟨a26, m26, c26⟩ := k26
    refine Ent.lenow m0 fun e26 l26 => ?_
    subst e26
    refine E.y rfl rfl (by decide) ((Y.as rfl).yd) ?_
    refine E.nil (E.thn (E.seq (E.seq (E.region (l := [0, 1, 2, 3]) rfl (E.y rfl rfl (by decide) ((Y.mv rfl).yd) ?_)))))
    refine E.y rfl rfl (by decide) ((Y.mv rfl).yd) ?_
    refine E.st rfl rfl (N.call0 t_laws_eqRuleS rfl rfl rfl (by decide) (fun w Lp hA => ⟨hA.ow m0, hA.ow (mS (mS m0))⟩)) (fun _ _ => (Ent.b (fun q29 => ?_) (fun q29 => ?_)))
    · refine E.y rfl rfl (by decide) ((Y.not (b := true) rfl).yd) ?_
      refine E.nil (E.thn (E.cf rfl (E.skipc (E.thn (E.seq (E.seq (E.region (l := [0, 1, 2, 3, 4]) rfl (E.y rfl rfl (by decide) ((Y.mv rfl).yd) ?_))))))))
      refine E.y rfl rfl (by decide) ((Y.mv rfl).yd) ?_
      refine E.st rfl rfl (N.call (t_laws_toRuleS (by first | omega | assumption)) rfl rfl rfl (by decide) rfl (fun w Lp hA => hA.ro haRules)) (fun k33 _ => ?_)
      obtain ⟨a33, m33, c33⟩ := k33
      refine Ent.lenow m0 fun e33 l33 => ?_
      subst e33
      refine E.st rfl rfl (N.call0 t_laws_eqRuleS rfl rfl rfl (by decide) (fun w Lp hA => ⟨hA.ow (mS (mS m0)), hA.ow m0⟩)) (fun _ _ => (Ent.b (fun q34 => ?_) (fun q34 => ?_)))
      · refine E.y rfl rfl (by decide) ((Y.not (b := true) rfl).yd) ?_
        refine E.nil (E.thn (E.cf rfl (E.skipc (E.thn (E.seq (E.region (l := [0]) rfl (E.y rfl rfl (by decide) ((Y.as rfl).yd) ?_)))))))
        refine E.nil (E.thn (E.seq (E.region (l := [0, 1, 2, 3]) rfl (E.y rfl rfl (by decide) ((Y.mv rfl).yd) ?_))))
        refine E.y rfl rfl (by decide) ((Y.mv rfl).yd) ?_
        refine Ent.p2 ?_
        refine E.st rfl rfl (N.call (pre := [_]) t_laws_markRuleS rfl rfl rfl (by decide) rfl (fun w Lp hA => ⟨(by first | assumption | omega), (by first | assumption | omega)⟩)) (fun _ _ => ?_)
        refine E.y rfl rfl (by decide) ((Y.as rfl).yd) ?_
        refine E.nil (E.thn (E.seq (E.seq (E.region (l := [0, 1, 2, 3, 4, 5, 6, 7]) rfl (E.y rfl rfl (by decide) ((Y.mv rfl).yd) ?_)))))
        refine E.y rfl rfl (by decide) ((Y.lss rfl rfl).yd) (Ent.d (fun q40 => ?_) (fun q40 => ?_))
        · exact absurd q40 (by omega)
        · refine E.y rfl rfl (by decide) ((Y.mv rfl).yd) ?_
          refine E.y rfl rfl (by decide) ((Y.mv rfl).yd) ?_
          refine E.y rfl rfl (by decide) ((Y.mv rfl).yd) ?_
          refine E.st rfl rfl (N.call0 t_laws_eqRuleS rfl rfl rfl (by decide) (fun w Lp hA => ⟨hA.ow (mS (mS m0)), hA.ow (mS (mS (mS m0)))⟩)) (fun _ _ => (Ent.b (fun q44 => ?_) (fun q44 => ?_)))
          · refine E.y rfl rfl (by decide) ((Y.not (b := true) rfl).yd) ?_
            refine E.y rfl rfl (by decide) ((Y.pkf rfl rfl).yd) ?_
            refine E.nil (E.thn (E.cf rfl (E.skipc (E.thn (E.seq (E.region (l := [0]) rfl (E.y rfl rfl (by decide) ((Y.as rfl).yd) ?_)))))))
            refine E.nil (E.thn (E.seq (E.region (l := [0, 1, 2, 3]) rfl (E.y rfl rfl (by decide) ((Y.mv rfl).yd) ?_))))
            refine E.y rfl rfl (by decide) ((Y.mv rfl).yd) ?_
            refine Ent.p2 ?_
            refine E.st rfl rfl (N.call (pre := [_]) t_laws_markRuleS rfl rfl rfl (by decide) rfl (fun w Lp hA => ⟨(by first | assumption | omega), (by first | assumption | omega)⟩)) (fun _ _ => ?_)
            refine E.y rfl rfl (by decide) ((Y.as rfl).yd) ?_
            refine E.nil (E.thn (E.seq (E.region (l := [0]) rfl (E.y rfl rfl (by decide) ((Y.as rfl).yd) ?_))))
            refine E.nil (E.thn (E.seq (E.region (l := [0, 1, 2, 3]) rfl (E.y rfl rfl (by decide) ((Y.mv rfl).yd) ?_))))
            refine E.y rfl rfl (by decide) ((Y.mv rfl).yd) ?_
            refine E.st rfl rfl (N.call0 (t_laws_heldRuleS (mkL_mk cm_Rule mm_Rule)) rfl rfl rfl (by decide) (fun w Lp hA => ⟨hA.ow m0, (by (try simp only [mkL_c cm_I, mkL_c cm_Rule, mkL_c cm_Atom]); omega), (by (try simp only [mkL_c cm_I, mkL_c cm_Rule, mkL_c cm_Atom]); omega)⟩)) (fun _ _ => ?_)
            refine E.y rfl rfl (by decide) ((Y.as rfl).yd) ?_
            refine E.nil (E.thn (E.seq (E.seq (E.region (l := [0, 1]) rfl (E.y rfl rfl (by decide) ((Y.mv rfl).yd) ?_)))))
            refine E.y rfl rfl (by decide) ((Y.lss rfl rfl).yd) (Ent.d (fun q54 => ?_) (fun q54 => ?_))
            · exact absurd q54 (by omega)
            · refine E.nil (E.thn (E.cf rfl (E.skipc (E.thn (E.seq (E.seq (E.region (l := [0, 1, 2]) rfl (E.y rfl rfl (by decide) ((Y.mv rfl).yd) ?_))))))))
              refine E.y rfl rfl (by decide) ((Y.mv rfl).yd) ?_
              refine E.y rfl rfl (by decide) ((Y.neq rfl rfl).yd) (Ent.d (fun q57 => ?_) (fun q57 => ?_))
              · exact absurd (by simp only [mkL_c cm_I, mkL_c cm_Rule, mkL_c cm_Atom]) q57
              · refine E.nil (E.thn (E.cf rfl (E.skipc (E.thn (E.seq (E.region (l := [0, 1, 2, 3, 4]) rfl (E.y rfl rfl (by decide) ((Y.mv rfl).yd) ?_)))))))
                refine E.st rfl rfl (N.call (t_laws_toRuleS (by first | omega | assumption)) rfl rfl rfl (by decide) rfl (fun w Lp hA => hA.ro haRules)) (fun k59 _ => ?_)
                obtain ⟨a59, m59, c59⟩ := k59
                refine Ent.lenow m0 fun e59 l59 => ?_
                subst e59
                refine E.y rfl rfl (by decide) ((Y.mv rfl).yd) ?_
                refine E.st rfl rfl (N.call (t_impl_ChosenRules (by first | omega | assumption)) rfl rfl rfl (by decide) rfl (fun w Lp hA => hA.ow m0)) (fun k61 _ => ?_)
                obtain ⟨a61, m61, c61⟩ := k61
                refine Ent.lenow m0 fun e61 l61 => ?_
                subst e61
                refine E.y rfl rfl (by decide) ((Y.as rfl).yd) ?_
                refine E.nil (E.thn (E.seq (E.seq (E.region (l := [0, 1, 2, 3]) rfl (E.y rfl rfl (by decide) ((Y.mv rfl).yd) ?_)))))
                refine E.y rfl rfl (by decide) ((Y.mv rfl).yd) ?_
                refine E.st rfl rfl (N.call0 t_laws_eqRuleS rfl rfl rfl (by decide) (fun w Lp hA => ⟨hA.ow m0, hA.ow (mS (mS (mS (mS (mS m0)))))⟩)) (fun _ _ => (Ent.b (fun q64 => ?_) (fun q64 => ?_)))
                · refine E.y rfl rfl (by decide) ((Y.not (b := true) rfl).yd) ?_
                  refine E.nil (E.thn (E.cf rfl (E.skipc (E.thn (E.seq (E.region (l := [0]) rfl (E.y rfl rfl (by decide) ((Y.as rfl).yd) ?_)))))))
                  refine E.nil (E.thn (E.seq (E.region (l := [0, 1, 2, 3]) rfl (E.y rfl rfl (by decide) ((Y.mv rfl).yd) ?_))))
                  refine E.y rfl rfl (by decide) ((Y.mv rfl).yd) ?_
                  refine E.st rfl rfl (N.call0 (t_laws_heldRuleS (mkL_mk cm_Rule mm_Rule)) rfl rfl rfl (by decide) (fun w Lp hA => ⟨hA.ow (mS (mS m0)), (by (try simp only [mkL_c cm_I, mkL_c cm_Rule, mkL_c cm_Atom]); omega), (by (try simp only [mkL_c cm_I, mkL_c cm_Rule, mkL_c cm_Atom]); omega)⟩)) (fun _ _ => ?_)
                  refine E.y rfl rfl (by decide) ((Y.as rfl).yd) ?_
                  refine E.nil (E.thn (E.seq (E.seq (E.region (l := [0, 1]) rfl (E.y rfl rfl (by decide) ((Y.mv rfl).yd) ?_)))))
                  refine E.y rfl rfl (by decide) ((Y.lss rfl rfl).yd) (Ent.d (fun q70 => ?_) (fun q70 => ?_))
                  · exact absurd q70 (by omega)
                  · refine E.nil (E.thn (E.cf rfl (E.skipc (E.thn (E.seq (E.seq (E.region (l := [0, 1, 2]) rfl (E.y rfl rfl (by decide) ((Y.mv rfl).yd) ?_))))))))
                    refine E.y rfl rfl (by decide) ((Y.mv rfl).yd) ?_
                    refine E.y rfl rfl (by decide) ((Y.neq rfl rfl).yd) (Ent.d (fun q73 => ?_) (fun q73 => ?_))
                    · exact absurd (by simp only [mkL_c cm_I, mkL_c cm_Rule, mkL_c cm_Atom]) q73
                    · refine E.nil (E.thn (E.cf rfl (E.skipc (E.thn (E.seq (E.region (l := [0]) rfl (E.y rfl rfl (by decide) ((Y.as rfl).yd) ?_)))))))
                      exact E.nil (E.thn (E.ret (F.r1 (Back.refl _ _) rfl rfl () trivial rfl (J := _) (.refl _) (.inl rfl))))
                · refine E.y rfl rfl (by decide) ((Y.not (b := false) rfl).yd) ?_
                  refine E.nil (E.thn (E.ct rfl (E.seq (E.region (l := [0]) rfl (E.y rfl rfl (by decide) ((Y.as rfl).yd) ?_)))))
                  exact E.nil (E.thn (E.ret (E.thr (F.r1 (Back.refl _ _) rfl rfl () trivial (congrArg Value.bool (by simp_all)) (J := _) (.refl _) (.inl rfl)))))
          · refine E.y rfl rfl (by decide) ((Y.not (b := false) rfl).yd) ?_
            refine E.y rfl rfl (by decide) ((Y.pkf rfl rfl).yd) ?_
            refine E.nil (E.thn (E.ct rfl (E.seq (E.region (l := [0]) rfl (E.y rfl rfl (by decide) ((Y.as rfl).yd) ?_)))))
            exact E.nil (E.thn (E.ret (E.thr (F.r1 (Back.refl _ _) rfl rfl () trivial (congrArg Value.bool (by simp_all)) (J := _) (.refl _) (.inl rfl)))))
      · refine E.y rfl rfl (by decide) ((Y.not (b := false) rfl).yd) ?_
        refine E.nil (E.thn (E.ct rfl (E.seq (E.region (l := [0]) rfl (E.y rfl rfl (by decide) ((Y.as rfl).yd) ?_)))))
        exact E.nil (E.thn (E.ret (E.thr (F.r1 (Back.refl _ _) rfl rfl () trivial (congrArg Value.bool (by simp_all)) (J := _) (.refl _) (.inl rfl)))))
    · refine E.y rfl rfl (by decide) ((Y.not (b := false) rfl).yd) ?_
      refine E.nil (E.thn (E.ct rfl (E.seq (E.region (l := [0]) rfl (E.y rfl rfl (by decide) ((Y.as rfl).yd) ?_)))))
      exact E.nil (E.thn (E.ret (E.thr (F.r1 (Back.refl _ _) rfl rfl () trivial (congrArg Value.bool (by simp_all)) (J := _) (.refl _) (.inl rfl)))))
end Go.Proofs.Ytffmilciidedjaa
