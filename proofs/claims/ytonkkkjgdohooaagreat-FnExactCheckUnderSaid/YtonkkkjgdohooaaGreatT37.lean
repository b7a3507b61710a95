import Derived.Test.YtonkkkjgdohooaaGreatBs
import Derived.Test.YtonkkkjgdohooaaGreatT36
import Derived.Test.YtonkkkjgdohooaaGreatT35
import Derived.Test.YtonkkkjgdohooaaGreatT11
import Derived.Test.YtonkkkjgdohooaaGreatT9
import Derived.Test.YtonkkkjgdohooaaGreatDy
import Derived.Test.YtonkkkjgdohooaaGreatBn
namespace Go.Proofs.YtonkkkjgdohooaaGreat
open Go.RowKit
set_option linter.unusedVariables false
set_option linter.unusedSimpArgs false
set_option maxHeartbeats 2000000
attribute [local irreducible] Nop Yd Yp Ent Has Tr FnP FnP2 Src listsF opnF opn1 opnR chainB
theorem t_spec_l14Fine {a_s : Option Addr} {m_s c_s : Nat} {s : List Int} {a_l : Option Addr} {m_l c_l : Nat} {l : List (Int × List Int × Int × Int × Int)} {a_rules : Option Addr} {m_rules c_rules : Nat} {rules : List (Int × Int × List Int)} : Tr Tryz.prog 148 [.slice a_s m_s c_s, .slice a_l m_l c_l, .slice a_rules m_rules c_rules] (fun w L => Ro w L eIs [.slice a_s m_s c_s] s ∧ Ro w L eMethods [.slice a_l m_l c_l] l ∧ Ro w L eRules [.slice a_rules m_rules c_rules] rules) [] (κ := Unit) (fun k => True) (fun k => .bool (okMeths s l && okRules s rules)) (fun k => []) := by
  refine Tr.intro Tryz.func148 rfl (n := 15) rfl (by decide +kernel) bl (fr := [(0, .slice a_s m_s c_s), (1, .slice a_l m_l c_l), (2, .slice a_rules m_rules c_rules)]) rfl fun w L hR => ?_
  obtain ⟨hs, hl, hrules⟩ := hR
  obtain ⟨rfl, ls⟩ := hs.slen
  obtain ⟨rfl, ll⟩ := hl.slen
  obtain ⟨rfl, lrules⟩ := hrules.slen
  refine Ew Z1 (Eas rfl rfl (Ev Z9 (Emv rfl rfl (Emv rfl rfl (Est rfl (N.call0 t_spec_AreMethods rfl rfl rfl dc (fun w Lp hA => ⟨hA.ro hs, hA.ro hl⟩)) (fun _ _ => (Ent.b (fun q9 => ?_) (fun q9 => ?_))))))))
  · refine Emv rfl rfl (Emv rfl rfl (Emv rfl rfl (Est rfl (N.call0 t_spec_AreRules rfl rfl rfl dc (fun w Lp hA => ⟨hA.ro hs, hA.ro hrules⟩)) (fun _ _ => (Ey rfl ((Y.pkt rfl rfl).yd) (Eas rfl rfl ?_))))))
    exact Eu (E.ret (Fb rfl rfl (by grind [d1, d2, t1, t2])))
  · refine Emv rfl rfl (Es rfl (Es rfl (Es rfl (Ey rfl ((Y.pkf rfl rfl).yd) (Eas rfl rfl ?_)))))
    exact Eu (E.ret (Fb rfl rfl (by grind [d1, d2, t1, t2])))
theorem t_impl_areUnder {a_s : Option Addr} {m_s c_s : Nat} {s : List Int} {a_l : Option Addr} {m_l c_l : Nat} {l : List (Int × List Int × Int × Int × Int)} {a_rules : Option Addr} {m_rules c_rules : Nat} {rules : List (Int × Int × List Int)} : Tr Tryz.prog 157 [.slice a_s m_s c_s, .slice a_l m_l c_l, .slice a_rules m_rules c_rules] (fun w L => Ro w L eIs [.slice a_s m_s c_s] s ∧ Ro w L eMethods [.slice a_l m_l c_l] l ∧ Ro w L eRules [.slice a_rules m_rules c_rules] rules) [] (κ := Unit) (fun k => True) (fun k => .bool (okMeths s l && okRules s rules)) (fun k => []) := by
  refine Tr.intro Tryz.func157 rfl (n := 15) rfl (by decide +kernel) bl (fr := [(0, .slice a_s m_s c_s), (1, .slice a_l m_l c_l), (2, .slice a_rules m_rules c_rules)]) rfl fun w L hR => ?_
  obtain ⟨hs, hl, hrules⟩ := hR
  obtain ⟨rfl, ls⟩ := hs.slen
  obtain ⟨rfl, ll⟩ := hl.slen
  obtain ⟨rfl, lrules⟩ := hrules.slen
  refine Ew Z1 (Eas rfl rfl (Ev Z9 (Emv rfl rfl (Emv rfl rfl (Est rfl (N.call0 t_impl_AreMethods rfl rfl rfl dc (fun w Lp hA => ⟨hA.ro hs, hA.ro hl⟩)) (fun _ _ => (Ent.b (fun q9 => ?_) (fun q9 => ?_))))))))
  · refine Emv rfl rfl (Emv rfl rfl (Emv rfl rfl (Est rfl (N.call0 t_impl_AreRules rfl rfl rfl dc (fun w Lp hA => ⟨hA.ro hs, hA.ro hrules⟩)) (fun _ _ => (Ey rfl ((Y.pkt rfl rfl).yd) (Eas rfl rfl ?_))))))
    exact Eu (E.ret (Fb rfl rfl (by grind [d1, d2, t1, t2])))
  · refine Emv rfl rfl (Es rfl (Es rfl (Es rfl (Ey rfl ((Y.pkf rfl rfl).yd) (Eas rfl rfl ?_)))))
    exact Eu (E.ret (Fb rfl rfl (by grind [d1, d2, t1, t2])))
theorem t_impl_matches {a_l : Option Addr} {m_l c_l : Nat} {l : List (Int × List Int × Int × Int × Int)} {a_facts : Option Addr} {m_facts c_facts : Nat} {facts : List (Int × List Int)} {a_Method : Int} {a_a_Values : Option Addr} {m_a_Values c_a_Values : Nat} {a_Values : List Int} (hma : 0 ≤ a_Method ∧ a_Method.toNat < l.length) (hv : (atM l a_Method).2.1.length ≤ a_Values.length) (hif : ∀ f ∈ facts, f.1 = (atM l a_Method).1 → ∀ i ∈ (atM l a_Method).2.1, 0 ≤ i ∧ i < f.2.length) (hfl : facts.length ≤ 1048576) (hfe : ∀ f ∈ facts, f.2.length ≤ 1048576) : Tr Tryz.prog 180 [.slice a_l m_l c_l, .slice a_facts m_facts c_facts, .agg #[.int .i64 a_Method, .slice a_a_Values m_a_Values c_a_Values]] (fun w L => Ro w L eMethods [.slice a_l m_l c_l] l ∧ Ro w L eFacts [.slice a_facts m_facts c_facts] facts ∧ I64 a_Method ∧ Ro w L eIs [.slice a_a_Values m_a_Values c_a_Values] a_Values) [] (κ := Option Addr × Nat × Nat) (fun k => True) (fun k => .slice k.1 k.2.1 k.2.2) (fun k => [ow eFacts [.slice k.1 k.2.1 k.2.2] (facts.filter (fitsF (atM l a_Method) a_Values))]) := by
  refine Tr.intro Tryz.func180 rfl (n := 17) rfl (by decide +kernel) bl (fr := [(0, .slice a_l m_l c_l), (1, .slice a_facts m_facts c_facts), (2, .agg #[.int .i64 a_Method, .slice a_a_Values m_a_Values c_a_Values])]) rfl fun w L hR => ?_
  obtain ⟨hl, hfacts, i6a_Method, ha_Values⟩ := hR
  obtain ⟨rfl, ll⟩ := hl.slen
  obtain ⟨rfl, lfacts⟩ := hfacts.slen
  obtain ⟨rfl, la_Values⟩ := ha_Values.slen
  rw [atM_get hma.2] at hv hif
  refine Ew Z2 (Est rfl (N.box (cs := [_, _]) rfl dc rfl) (fun b5 _ => (Eas rfl rfl (Ev Z7 (Emv rfl rfl (Ey rfl ((Y.fld fo_Access_0 ty_I dc rfl).yd) (Ey rfl (Y.ld1 ty_I rfl ((Has.pt m0).sub (cs' := [_]) 0 rfl) rfl) ?_)))))))
  obtain ⟨eb11, eo11, ec11, ea11, er11, el11, eh11⟩ := hl.elem a_Method.toNat om
  obtain ⟨xa11_0, xc11_0, rfl, ei11_0, xh11_0, ei11_2, ei11_3, ei11_4⟩ := Ro.pMethod er11
  have := xh11_0.slen.2
  refine Ey rfl ((Y.ix us_Methods ty_Method rfl ea11 rfl a_Method.toNat om om).yd) (Ey rfl (Y.ldS (cs := [_, _, _, _, _]) ty_Method rfl (eh11 _) rfl) (Est rfl (N.alloc ty_Method dc) (fun b7 _ => (Est rfl (N.sto (vs := [_, _, _, _, _]) (cs' := [_, _, _, _, _]) ty_Method rfl rfl rfl rfl rfl bl rfl) (fun _ _ => (Ev Z5 (Emv rfl rfl (Est rfl (N.call (t_impl_copyFacts fo hfe) rfl rfl rfl dc rfl (fun w Lp hA => hA.ro hfacts)) (fun k14 _ => ?_)))))))))
  obtain ⟨a14, m14, c14⟩ := k14
  refine Ent.lenow m0 fun e14 l14 => ?_
  subst e14
  refine Ey rfl ((Y.fn (vs := [_, _]) rfl).yd) (Est rfl (N.call (pre := [_]) (t_DeleteFunc_Fact (del := (fun z => !fitsF l[a_Method.toNat] a_Values z)) (D_del := (fun z => (l[a_Method.toNat].2.1.length ≤ a_Values.length) ∧ (z.1 = l[a_Method.toNat].1 → ∀ i ∈ l[a_Method.toNat].2.1, 0 ≤ i ∧ i < z.2.length))) (by exact fun f hf => ⟨hv, hif f hf⟩)) rfl rfl rfl dc rfl (fun w Lp hA => FnP.ofFact (RR := fun w L => RoPt w L b7 [.int .i64 l[a_Method.toNat].1, .slice xa11_0 l[a_Method.toNat].2.1.length xc11_0, .int .i64 l[a_Method.toNat].2.2.1, .int .i64 l[a_Method.toNat].2.2.2.1, .int .i64 l[a_Method.toNat].2.2.2.2] ∧ I64 l[a_Method.toNat].1 ∧ Ro w L eIs [.slice xa11_0 l[a_Method.toNat].2.1.length xc11_0] l[a_Method.toNat].2.1 ∧ I64 l[a_Method.toNat].2.2.1 ∧ I64 l[a_Method.toNat].2.2.2.1 ∧ I64 l[a_Method.toNat].2.2.2.2 ∧ RoPt w L b5 [.int .i64 a_Method, .slice a_a_Values a_Values.length c_a_Values] ∧ I64 a_Method ∧ Ro w L eIs [.slice a_a_Values a_Values.length c_a_Values] a_Values) (D := (fun z => (l[a_Method.toNat].2.1.length ≤ a_Values.length) ∧ (z.1 = l[a_Method.toNat].1 → ∀ i ∈ l[a_Method.toNat].2.1, 0 ≤ i ∧ i < z.2.length))) (fun hd => t_impl_matches_1 hd.1 hd.2) (fun w' hk => ⟨(hA.pt m0).keep hk, ei11_0, (hA.ro xh11_0).keep hk, ei11_2, ei11_3, ei11_4, (hA.pt (mS m0)).keep hk, i6a_Method, (hA.ro ha_Values).keep hk⟩))) (fun k16 _ => ?_))
  obtain ⟨a16, m16, c16⟩ := k16
  refine Ent.lenow m0 fun e16 l16 => ?_
  subst e16
  refine Eas rfl rfl (Eu (E.ret (Ent.cv (congrArg (ow eFacts [_]) (show _ = facts.filter (fitsF (atM l a_Method) a_Values) by rw [atM_get hma.2]; exact filter_nn)) ?_)))
  exact Fg rfl rfl (_, _, _) rfl rfl
theorem t_spec_l14Rule {a_rules : Option Addr} {m_rules c_rules : Nat} {rules : List (Int × Int × List Int)} {a_facts : Option Addr} {m_facts c_facts : Nat} {facts : List (Int × List Int)} {f_Rel : Int} {a_f_Values : Option Addr} {m_f_Values c_f_Values : Nat} {f_Values : List Int} (hr : ∀ r ∈ rules, ∀ f ∈ facts, f.1 = r.1 → ∀ x ∈ r.2.2, 0 ≤ x ∧ x < f.2.length) (hrl : ∀ r ∈ rules, r.2.2.length ≤ 1048576) : Tr Tryz.prog 255 [.slice a_rules m_rules c_rules, .slice a_facts m_facts c_facts, .agg #[.int .i64 f_Rel, .slice a_f_Values m_f_Values c_f_Values]] (fun w L => Ro w L eRules [.slice a_rules m_rules c_rules] rules ∧ Ro w L eFacts [.slice a_facts m_facts c_facts] facts ∧ I64 f_Rel ∧ Ro w L eIs [.slice a_f_Values m_f_Values c_f_Values] f_Values) [] (κ := Unit) (fun k => True) (fun k => .int .i64 (ruleK rules facts (f_Rel, f_Values))) (fun k => []) := by
  refine Tr.intro Tryz.func255 rfl (n := 47) rfl (by decide +kernel) bl (fr := [(0, .slice a_rules m_rules c_rules), (1, .slice a_facts m_facts c_facts), (2, .agg #[.int .i64 f_Rel, .slice a_f_Values m_f_Values c_f_Values])]) rfl fun w L hR => ?_
  obtain ⟨hrules, hfacts, i6f_Rel, hf_Values⟩ := hR
  obtain ⟨rfl, lrules⟩ := hrules.slen
  obtain ⟨rfl, lfacts⟩ := hfacts.slen
  obtain ⟨rfl, lf_Values⟩ := hf_Values.slen
  refine Ew Z2 (Est rfl (N.box (cs := [_, _]) rfl dc rfl) (fun b5 _ => (Eas rfl rfl (Eu (Eq_ (Ew Z1 (Eas rfl rfl (Eu (E.block (E.loop (κ := Nat) (fun g => g ≤ rules.length ∧ ∀ x ∈ rules.take g, givR facts (f_Rel, f_Values) x = false) (fun g => [(0, .slice a_rules rules.length c_rules), (1, .slice a_facts facts.length c_facts), (5, .pointer (some ⟨b5, 0, none⟩)), (7, .int .i64 (g : Int))]) (fun g => [pt b5 132 [.int .i64 f_Rel, .slice a_f_Values f_Values.length c_f_Values]]) (fun g => rules.length - g) 0 ⟨Nat.zero_le _, by simp⟩ ⟨rfl, rfl, rfl, rfl, trivial⟩ (.refl _) (fun g pg => ?_)))))))))))
  obtain ⟨pk, pa⟩ := pg
  have po := pa
  refine Eq_ (Ew Z4 (Emv rfl rfl (Emv rfl rfl (Ey rfl ((Y.len us_Rules rfl).yd) (Ey rfl ((Y.lss rfl rfl).yd) (Ent.d (fun q12 => ?_) (fun q12 => ?_)))))))
  · refine Eu (E.ct rfl (E.skipc (Et (Eq_ (E.block (Ew Z1 (Eas rfl rfl (Eu (E.block (E.loop (κ := Nat) (fun h => h ≤ facts.length ∧ facts.any (givB rules[g] (f_Rel, f_Values)) = (facts.drop h).any (givB rules[g] (f_Rel, f_Values))) (fun h => [(0, .slice a_rules rules.length c_rules), (1, .slice a_facts facts.length c_facts), (5, .pointer (some ⟨b5, 0, none⟩)), (7, .int .i64 (g : Int)), (8, .int .i64 (h : Int))]) (fun h => [pt b5 132 [.int .i64 f_Rel, .slice a_f_Values f_Values.length c_f_Values]]) (fun h => facts.length - h) 0 ⟨Nat.zero_le _, by simp⟩ ⟨rfl, rfl, rfl, rfl, rfl, trivial⟩ (.refl _) (fun h ph => ?_)))))))))))
    obtain ⟨pk, pa⟩ := ph
    refine Eq_ (Ew Z4 (Emv rfl rfl (Emv rfl rfl (Ey rfl ((Y.len us_Facts rfl).yd) (Ey rfl ((Y.lss rfl rfl).yd) (Ent.d (fun q18 => ?_) (fun q18 => ?_)))))))
    · refine Eu (E.ct rfl (E.skipc (Et (Eq_ (E.block (Eq_ (D.region (fun j => true) mixed (Dyp 0 rfl (Y.mv rfl) (Dyp 1 rfl (Y.mv rfl) ?_)))))))))
      obtain ⟨eb23, eo23, ec23, ea23, er23, el23, eh23⟩ := hfacts.elem h om
      obtain ⟨xa23_0, xc23_0, rfl, ei23_0, xh23_0⟩ := Ro.pFact er23
      have := xh23_0.slen.2
      refine Dyp 2 rfl (Y.ix us_Facts ty_Fact rfl ea23 rfl h rfl om) (Dyp 3 rfl (Y.fld fo_Fact_0 ty_I dc rfl) (Dy 4 rfl (Y.ld1 ty_I rfl ((eh23 _).sub (cs' := [_]) 0 rfl) rfl) (Dyp 5 rfl (Y.mv rfl) (Dyp 6 rfl (Y.mv rfl) ?_))))
      obtain ⟨eb28, eo28, ec28, ea28, er28, el28, eh28⟩ := hrules.elem g om
      obtain ⟨xa28_0, xc28_0, rfl, ei28_0, ei28_1, xh28_0⟩ := Ro.pRule er28
      have := xh28_0.slen.2
      refine Dyp 7 rfl (Y.ix us_Rules ty_Rule rfl ea28 rfl g rfl om) (Dyp 8 rfl (Y.fld fo_Rule_0 ty_I dc rfl) (Dy 9 rfl (Y.ld1 ty_I rfl ((eh28 _).sub (cs' := [_]) 0 rfl) rfl) (Dyp 10 rfl (Y.eql rfl rfl) (Ent.d (fun q31 => ?_) (fun q31 => ?_)))))
      · refine Dyp 11 rfl (Y.mv rfl) (Dyp 12 rfl (Y.mv rfl) (Dyp 13 rfl (Y.mv rfl) (Dyp 14 rfl (Y.ix us_Rules ty_Rule rfl ea28 rfl g rfl om) (Dy 15 rfl (Y.ldS (cs := [_, _, _]) ty_Rule rfl (eh28 _) rfl) (Dyp 16 rfl (Y.mv rfl) (Dyp 17 rfl (Y.mv rfl) (Dyp 18 rfl (Y.ix us_Facts ty_Fact rfl ea23 rfl h rfl om) (Dy 19 rfl (Y.ldS (cs := [_, _]) ty_Fact rfl (eh23 _) rfl) (Dy 21 rfl (Y.ldS (cs := [_, _]) ty_Fact rfl (Has.pt m0) rfl) (D.st 20 rfl rfl kr (fun _ => rfl) (N.call (t_spec_l13Apply (hr _ (List.getElem_mem om) _ (List.getElem_mem om) om) (hrl _ (List.getElem_mem om))) rfl rfl rfl dc rfl (fun w Lp hA => ⟨ei28_0, ei28_1, hA.ro xh28_0, ei23_0, hA.ro xh23_0⟩)) (fun k41 _ => ?_)))))))))))
        obtain ⟨a41, m41, c41⟩ := k41
        refine Ent.lenow m0 fun e41 l41 => ?_
        subst e41
        refine D.st 22 rfl rfl kr (fun _ => rfl) (N.call0 t_spec_CompareFacts rfl rfl rfl dc (fun w Lp hA => ⟨ei28_1, hA.ow m0, i6f_Rel, hA.ro hf_Values⟩)) (fun _ _ => (Dyp 23 rfl (Y.eql rfl rfl) (Ent.d (fun q44 => ?_) (fun q44 => ?_))))
        · refine Dyp 24 rfl (Y.pkt rfl rfl) (D.done kr (Et (E.ct rfl (Ew Z2 (Emv rfl rfl (Eas rfl rfl ?_))))))
          exact Eu (E.ret (E.blr (E.thr (E.thr (E.blr (E.blr (E.thr (E.thr (E.blr (E.thr (Fg rfl rfl () (congrArg (Value.int .i64) (by first | exact ruleK_hit (h := h) po om om om (by first | assumption | grind) | exact ruleK_miss po om)) rfl)))))))))))
        · refine Dyp 24 rfl (Y.pkt rfl rfl) (D.done kr (Et (E.cf rfl (E.skipc (E.bln (Et (Ez Z3 (Emv rfl rfl (Ey rfl ((Y.add rfl rfl om om).yd) (Eas rfl rfl (Eu (Ent.drop ?_))))))))))))
          exact E.again br (h + 1) ⟨rfl, rfl, rfl, rfl, rfl, trivial⟩ (.refl _) ⟨by omega, by grind [givB, d1, d2, t1, t2]⟩ om
      · refine Dyp 11 rfl (Y.mv rfl) (Dsk 12 rfl (Dsk 13 rfl (Dsk 14 rfl (Dsk 15 rfl (Dsk 16 rfl (Dsk 17 rfl (Dsk 18 rfl (Dsk 19 rfl (Dsk 20 rfl (Dsk 21 rfl (Dsk 22 rfl (Dsk 23 rfl (Dyp 24 rfl (Y.pkf rfl rfl) (D.done kr (Et (E.cf rfl (E.skipc (E.bln (Et (Ez Z3 (Emv rfl rfl ?_)))))))))))))))))))))
        refine Ey rfl ((Y.add rfl rfl om om).yd) (Eas rfl rfl ?_)
        exact Eu (E.again br (h + 1) ⟨rfl, rfl, rfl, rfl, rfl, trivial⟩ (.refl _) ⟨by omega, by grind [givB, d1, d2, t1, t2]⟩ om)
    · refine Eu (E.cf rfl (E.exit (E.the (E.the (E.blh (E.bln (Et (Ez Z3 (Emv rfl rfl (Ey rfl ((Y.add rfl rfl om om).yd) (Eas rfl rfl ?_)))))))))))
      exact Eu (E.again br (g + 1) ⟨rfl, rfl, rfl, rfl, trivial⟩ (.refl _) ⟨by omega, by exact take_step om po (by grind [givR, givB])⟩ om)
  · refine Eu (E.cf rfl (E.exit (E.the (E.the (E.blh (Et (Ew Z1 (Eas rfl rfl ?_))))))))
    exact Eu (E.ret (Fg rfl rfl () (congrArg (Value.int .i64) (by first | exact ruleK_hit (h := h) po om om om (by first | assumption | grind) | exact ruleK_miss po om)) rfl))
end Go.Proofs.YtonkkkjgdohooaaGreat
