import Derived.Test.YtonkkkjgdohooaaGreatBs
import Derived.Test.YtonkkkjgdohooaaGreatT45
import Derived.Test.YtonkkkjgdohooaaGreatT22
import Derived.Test.YtonkkkjgdohooaaGreatT19
import Derived.Test.YtonkkkjgdohooaaGreatT34
import Derived.Test.YtonkkkjgdohooaaGreatT14
import Derived.Test.YtonkkkjgdohooaaGreatT1
import Derived.Test.YtonkkkjgdohooaaGreatBc
import Derived.Test.YtonkkkjgdohooaaGreatT5
import Derived.Test.YtonkkkjgdohooaaGreatBd
import Derived.Test.YtonkkkjgdohooaaGreatEo
import Derived.Test.YtonkkkjgdohooaaGreatBw
namespace Go.Proofs.YtonkkkjgdohooaaGreat
open Go.RowKit
set_option linter.unusedVariables false
set_option linter.unusedSimpArgs false
set_option maxHeartbeats 2000000
attribute [local irreducible] Nop Yd Yp Ent Has Tr FnP FnP2 Src listsF opnF opn1 opnR chainB uFin
theorem t_impl_areAscending {a_s : Option Addr} {m_s c_s : Nat} {s : List Int} {a_l : Option Addr} {m_l c_l : Nat} {l : List (Int × List Int)} : Tr Tryz.prog 159 [.slice a_s m_s c_s, .slice a_l m_l c_l] (fun w L => Ro w L eIs [.slice a_s m_s c_s] s ∧ Ro w L eFacts [.slice a_l m_l c_l] l) [] (κ := Unit) (fun k => True) (fun k => .bool (okFs s l 0)) (fun k => []) := by
  refine Tr.intro Tryz.func159 rfl (n := 33) rfl (by decide +kernel) bl (fr := [(0, .slice a_s m_s c_s), (1, .slice a_l m_l c_l)]) rfl fun w L hR => ?_
  obtain ⟨hs, hl⟩ := hR
  obtain ⟨rfl, ls⟩ := hs.slen
  obtain ⟨rfl, ll⟩ := hl.slen
  refine Ew Z1 (Eas rfl rfl (Eu (Eq_ (Ew Z3 (Emv rfl rfl (Ey rfl ((Y.len us_Facts rfl).yd) (Emv rfl rfl (Eu (E.block (E.loop (κ := Nat) (fun g => g ≤ l.length ∧ okFs s l 0 = okFs s l g) (fun g => [(0, .slice a_s s.length c_s), (1, .slice a_l l.length c_l), (7, .slice a_l l.length c_l), (8, .int .i64 (↑l.length : Int)), (9, .int .i64 (g : Int))]) (fun g => []) (fun g => l.length - g) 0 ⟨Nat.zero_le _, by simp⟩ ⟨rfl, rfl, rfl, rfl, rfl, trivial⟩ (.refl _) (fun g pg => ?_)))))))))))
  obtain ⟨pk, pa⟩ := pg
  refine Ew Z1 (Ey rfl ((Y.lss rfl rfl).yd) (Ent.d (fun q10 => ?_) (fun q10 => ?_)))
  · refine Eu (Eq_ (E.ct rfl (E.skipc (Et (Eq_ (E.block (Ew Z6 (Emv rfl rfl ?_))))))))
    obtain ⟨eb12, eo12, ec12, ea12, er12, el12, eh12⟩ := hl.elem g om
    obtain ⟨xa12_0, xc12_0, rfl, ei12_0, xh12_0⟩ := Ro.pFact er12
    have := xh12_0.slen.2
    refine Ey rfl ((Y.ix us_Facts ty_Fact rfl ea12 rfl g rfl om).yd) (Ey rfl (Y.ldS (cs := [_, _]) ty_Fact rfl (eh12 _) rfl) (Est rfl (N.alloc ty_Fact dc) (fun b6 _ => (Eas rfl rfl (Est rfl (N.sto (vs := [_, _]) (cs' := [_, _]) ty_Fact rfl rfl rfl rfl rfl bl rfl) (fun _ _ => (Eu (Eq_ (D.region (fun j => true) mixed (Dyp 0 rfl (Y.mv rfl) (Dy 1 rfl (Y.ldS (cs := [_, _]) ty_Fact rfl (Has.pt m0) rfl) (D.st 2 rfl rfl kr (fun _ => rfl) (N.call0 t_impl_IsFact rfl rfl rfl dc (fun w Lp hA => ⟨hA.ro hs, ei12_0, hA.ro xh12_0⟩)) (fun _ _ => (Ent.b (fun q16 => ?_) (fun q16 => ?_)))))))))))))))
    · refine Dyp 3 rfl (Y.not (b := true) rfl) (Dyp 4 rfl (Y.mv rfl) (Dyp 5 rfl (Y.mv rfl) (Dyp 6 rfl (Y.gtr rfl rfl) (Ent.d (fun q20 => ?_) (fun q20 => ?_)))))
      · refine Dyp 7 rfl (Y.mv rfl) (Dyp 8 rfl (Y.mv rfl) (Dyp 9 rfl (Y.mv rfl) (Dyp 10 rfl (Y.sub rfl rfl om om) ?_)))
        obtain ⟨eb25, eo25, ec25, ea25, er25, el25, eh25⟩ := hl.elem (g - 1) om
        obtain ⟨xa25_0, xc25_0, rfl, ei25_0, xh25_0⟩ := Ro.pFact er25
        have := xh25_0.slen.2
        refine Dyp 11 rfl (Y.ix us_Facts ty_Fact rfl ea25 rfl (g - 1) om om) (Dy 12 rfl (Y.ldS (cs := [_, _]) ty_Fact rfl (eh25 _) rfl) (Dy 13 rfl (Y.ldS (cs := [_, _]) ty_Fact rfl (Has.pt m0) rfl) (D.st 14 rfl rfl kr (fun _ => rfl) (N.call0 t_impl_CompareFacts rfl rfl rfl dc (fun w Lp hA => ⟨ei25_0, hA.ro xh25_0, ei12_0, hA.ro xh12_0⟩)) (fun _ _ => (Dyp 15 rfl (Y.geq rfl rfl) (Ent.d (fun q29 => ?_) (fun q29 => ?_)))))))
        · refine Dyp 16 rfl (Y.pkt rfl rfl) (Dyp 17 rfl (Y.pkf rfl rfl) (D.done kr (Et (E.ct rfl (Ew Z1 (Eas rfl rfl ?_))))))
          exact Eu (E.ret (E.blr (E.thr (E.thr (E.blr (E.thr (Fb rfl rfl (by grind [okFs, chain_step, chain_zero, chain_end, ltF, d1, d2, t1, t2]))))))))
        · refine Dyp 16 rfl (Y.pkt rfl rfl) (Dyp 17 rfl (Y.pkf rfl rfl) (D.done kr (Et (E.cf rfl (E.skipc (E.bln (Et (Ez Z2 (Ey rfl ((Y.add rfl rfl om om).yd) (Emv rfl rfl (Eu (Ent.drop ?_))))))))))))
          exact E.again br (g + 1) ⟨rfl, rfl, rfl, rfl, rfl, trivial⟩ (.refl _) ⟨by omega, by grind [okFs, chain_step, chain_zero, chain_end, ltF, Bool.and_assoc, d1, d2, t1, t2]⟩ om
      · refine Dyp 7 rfl (Y.mv rfl) (Dsk 8 rfl (Dsk 9 rfl (Dsk 10 rfl (Dsk 11 rfl (Dsk 12 rfl (Dsk 13 rfl (Dsk 14 rfl (Dsk 15 rfl (Dyp 16 rfl (Y.pkf rfl rfl) (Dyp 17 rfl (Y.pkf rfl rfl) (D.done kr (Et (E.cf rfl (E.skipc (E.bln (Et (Ez Z2 (Ey rfl ((Y.add rfl rfl om om).yd) (Emv rfl rfl (Eu (Ent.drop ?_)))))))))))))))))))))
        exact E.again br (g + 1) ⟨rfl, rfl, rfl, rfl, rfl, trivial⟩ (.refl _) ⟨by omega, by grind [okFs, chain_step, chain_zero, chain_end, ltF, Bool.and_assoc, d1, d2, t1, t2]⟩ om
    · refine Dyp 3 rfl (Y.not (b := false) rfl) (Dyp 4 rfl (Y.mv rfl) (Dsk 5 rfl (Dsk 6 rfl (D.sku 7 rfl rfl dc kr (Dsk 8 rfl (Dsk 9 rfl (Dsk 10 rfl (Dsk 11 rfl (Dsk 12 rfl (Dsk 13 rfl (Dsk 14 rfl (Dsk 15 rfl (Dsk 16 rfl (Dyp 17 rfl (Y.pkt rfl rfl) ?_))))))))))))))
      refine D.done kr (Et (E.ct rfl (Ew Z1 (Eas rfl rfl ?_))))
      exact Eu (E.ret (E.blr (E.thr (E.thr (E.blr (E.thr (Fb rfl rfl (by grind [okFs, chain_step, chain_zero, chain_end, ltF, d1, d2, t1, t2]))))))))
  · refine Eu (Eq_ (E.cf rfl (E.exit (E.the (E.the (E.blh (Et (Ew Z1 (Eas rfl rfl ?_)))))))))
    exact Eu (E.ret (Fb rfl rfl (by grind [okFs, chain_step, chain_zero, chain_end, ltF, d1, d2, t1, t2])))
theorem t_spec_l15Facts {a_s : Option Addr} {m_s c_s : Nat} {s : List Int} {a_l : Option Addr} {m_l c_l : Nat} {l : List (Int × List Int)} : Tr Tryz.prog 149 [.slice a_s m_s c_s, .slice a_l m_l c_l] (fun w L => Ro w L eIs [.slice a_s m_s c_s] s ∧ Ro w L eFacts [.slice a_l m_l c_l] l) [] (κ := Unit) (fun k => True) (fun k => .bool (okFs s l 0 && okSchema s)) (fun k => []) := by
  refine Tr.intro Tryz.func149 rfl (n := 38) rfl (by decide +kernel) bl (fr := [(0, .slice a_s m_s c_s), (1, .slice a_l m_l c_l)]) rfl fun w L hR => ?_
  obtain ⟨hs, hl⟩ := hR
  obtain ⟨rfl, ls⟩ := hs.slen
  obtain ⟨rfl, ll⟩ := hl.slen
  refine Ew Z1 (Eas rfl rfl (Eu (Eq_ (Ew Z1 (Eas rfl rfl (Eu (E.block (E.loop (κ := Nat) (fun g => g ≤ l.length ∧ okFs s l 0 = okFs s l g) (fun g => [(0, .slice a_s s.length c_s), (1, .slice a_l l.length c_l), (5, .int .i64 (g : Int))]) (fun g => []) (fun g => l.length - g) 0 ⟨Nat.zero_le _, by simp⟩ ⟨rfl, rfl, rfl, trivial⟩ (.refl _) (fun g pg => ?_)))))))))
  obtain ⟨pk, pa⟩ := pg
  refine Eq_ (Ew Z4 (Emv rfl rfl (Emv rfl rfl (Ey rfl ((Y.len us_Facts rfl).yd) (Ey rfl ((Y.lss rfl rfl).yd) (Ent.d (fun q9 => ?_) (fun q9 => ?_)))))))
  · refine Eu (E.ct rfl (E.skipc (Et (Eq_ (E.block (Eq_ (D.region (fun j => true) mixed (Dyp 0 rfl (Y.mv rfl) (Dyp 1 rfl (Y.mv rfl) (Dyp 2 rfl (Y.mv rfl) ?_))))))))))
    obtain ⟨eb15, eo15, ec15, ea15, er15, el15, eh15⟩ := hl.elem g om
    obtain ⟨xa15_0, xc15_0, rfl, ei15_0, xh15_0⟩ := Ro.pFact er15
    have := xh15_0.slen.2
    refine Dyp 3 rfl (Y.ix us_Facts ty_Fact rfl ea15 rfl g rfl om) (Dy 4 rfl (Y.ldS (cs := [_, _]) ty_Fact rfl (eh15 _) rfl) (D.st 5 rfl rfl kr (fun _ => rfl) (N.call0 t_spec_IsFact rfl rfl rfl dc (fun w Lp hA => ⟨hA.ro hs, ei15_0, hA.ro xh15_0⟩)) (fun _ _ => (Ent.b (fun q17 => ?_) (fun q17 => ?_)))))
    · refine Dyp 6 rfl (Y.not (b := true) rfl) (Dyp 7 rfl (Y.mv rfl) (Dyp 8 rfl (Y.mv rfl) (Dyp 9 rfl (Y.gtr rfl rfl) (Ent.d (fun q21 => ?_) (fun q21 => ?_)))))
      · refine Dyp 10 rfl (Y.mv rfl) (Dyp 11 rfl (Y.mv rfl) (Dyp 12 rfl (Y.mv rfl) (Dyp 13 rfl (Y.sub rfl rfl om om) ?_)))
        obtain ⟨eb26, eo26, ec26, ea26, er26, el26, eh26⟩ := hl.elem (g - 1) om
        obtain ⟨xa26_0, xc26_0, rfl, ei26_0, xh26_0⟩ := Ro.pFact er26
        have := xh26_0.slen.2
        refine Dyp 14 rfl (Y.ix us_Facts ty_Fact rfl ea26 rfl (g - 1) om om) (Dy 15 rfl (Y.ldS (cs := [_, _]) ty_Fact rfl (eh26 _) rfl) (Dyp 16 rfl (Y.mv rfl) (Dyp 17 rfl (Y.mv rfl) (Dyp 18 rfl (Y.ix us_Facts ty_Fact rfl ea15 rfl g rfl om) (Dy 19 rfl (Y.ldS (cs := [_, _]) ty_Fact rfl (eh15 _) rfl) (D.st 20 rfl rfl kr (fun _ => rfl) (N.call0 t_spec_CompareFacts rfl rfl rfl dc (fun w Lp hA => ⟨ei26_0, hA.ro xh26_0, ei15_0, hA.ro xh15_0⟩)) (fun _ _ => (Dyp 21 rfl (Y.geq rfl rfl) (Ent.d (fun q33 => ?_) (fun q33 => ?_))))))))))
        · refine Dyp 22 rfl (Y.pkt rfl rfl) (Dyp 23 rfl (Y.pkf rfl rfl) (D.done kr (Et (E.ct rfl (Ew Z1 (Eas rfl rfl ?_))))))
          exact Eu (E.ret (E.blr (E.thr (E.thr (E.blr (E.thr (Fb rfl rfl (by grind [okFs, chain_step, chain_zero, chain_end, ltF, d1, d2, t1, t2]))))))))
        · refine Dyp 22 rfl (Y.pkt rfl rfl) (Dyp 23 rfl (Y.pkf rfl rfl) (D.done kr (Et (E.cf rfl (E.skipc (E.bln (Et (Ez Z3 (Emv rfl rfl (Ey rfl ((Y.add rfl rfl om om).yd) (Eas rfl rfl ?_)))))))))))
          exact Eu (E.again br (g + 1) ⟨rfl, rfl, rfl, trivial⟩ (.refl _) ⟨by omega, by grind [okFs, chain_step, chain_zero, chain_end, ltF, Bool.and_assoc, d1, d2, t1, t2]⟩ om)
      · refine Dyp 10 rfl (Y.mv rfl) (Dsk 11 rfl (Dsk 12 rfl (Dsk 13 rfl (Dsk 14 rfl (Dsk 15 rfl (Dsk 16 rfl (Dsk 17 rfl (Dsk 18 rfl (Dsk 19 rfl (Dsk 20 rfl (Dsk 21 rfl (Dyp 22 rfl (Y.pkf rfl rfl) (Dyp 23 rfl (Y.pkf rfl rfl) (D.done kr (Et (E.cf rfl (E.skipc (E.bln (Et (Ez Z3 (Emv rfl rfl ?_)))))))))))))))))))))
        refine Ey rfl ((Y.add rfl rfl om om).yd) (Eas rfl rfl ?_)
        exact Eu (E.again br (g + 1) ⟨rfl, rfl, rfl, trivial⟩ (.refl _) ⟨by omega, by grind [okFs, chain_step, chain_zero, chain_end, ltF, Bool.and_assoc, d1, d2, t1, t2]⟩ om)
    · refine Dyp 6 rfl (Y.not (b := false) rfl) (Dyp 7 rfl (Y.mv rfl) (Dsk 8 rfl (Dsk 9 rfl (D.sku 10 rfl rfl dc kr (Dsk 11 rfl (Dsk 12 rfl (Dsk 13 rfl (Dsk 14 rfl (Dsk 15 rfl (Dsk 16 rfl (Dsk 17 rfl (Dsk 18 rfl (Dsk 19 rfl (Dsk 20 rfl ?_))))))))))))))
      refine Dsk 21 rfl (Dsk 22 rfl (Dyp 23 rfl (Y.pkt rfl rfl) (D.done kr (Et (E.ct rfl (Ew Z1 (Eas rfl rfl ?_)))))))
      exact Eu (E.ret (E.blr (E.thr (E.thr (E.blr (E.thr (Fb rfl rfl (by grind [okFs, chain_step, chain_zero, chain_end, ltF, d1, d2, t1, t2]))))))))
  · refine Eu (E.cf rfl (E.exit (E.the (E.the (E.blh (Et (Ew Z3 (Emv rfl rfl (Est rfl (N.call0 t_spec_IsSchema rfl rfl rfl dc (fun w Lp hA => hA.ro hs)) (fun _ _ => (Eas rfl rfl ?_)))))))))))
    exact Eu (E.ret (Fb rfl rfl (by grind [okFs, chain_step, chain_zero, chain_end, ltF, d1, d2, t1, t2])))
theorem t_impl_under_order {b_u : Nat} {a_u_l : Option Addr} {m_u_l c_u_l : Nat} {a_u_rules : Option Addr} {m_u_rules c_u_rules : Nat} {a_u_facts : Option Addr} {m_u_facts c_u_facts : Nat} {a_u_r_Facts : Option Addr} {m_u_r_Facts c_u_r_Facts : Nat} {a_u_r_Values : Option Addr} {m_u_r_Values c_u_r_Values : Nat} {a_u_r_Log : Option Addr} {m_u_r_Log c_u_r_Log : Nat} {u_r_Rounds : Int} {a_u_lines : Option Addr} {m_u_lines c_u_lines : Nat} {u_lines : List (Int × (Int × List Int) × Int × List Int)} (hlz : u_lines.length ≤ 1000000) : Tr Tryz.prog 164 [.pointer (some ⟨b_u, 0, none⟩)] (fun w L => True) [pt b_u 261 [.slice a_u_l m_u_l c_u_l, .slice a_u_rules m_u_rules c_u_rules, .slice a_u_facts m_u_facts c_u_facts, .slice a_u_r_Facts m_u_r_Facts c_u_r_Facts, .slice a_u_r_Values m_u_r_Values c_u_r_Values, .slice a_u_r_Log m_u_r_Log c_u_r_Log, .int .i64 u_r_Rounds, .slice a_u_lines m_u_lines c_u_lines], ow eLines [.slice a_u_lines m_u_lines c_u_lines] u_lines] (κ := Option Addr × Nat × Nat) (fun k => True) (fun k => .slice k.1 k.2.1 k.2.2) (fun k => [ow eFacts [.slice k.1 k.2.1 k.2.2] (u_lines.map (fun x => x.2.2)), pt b_u 261 [.slice a_u_l m_u_l c_u_l, .slice a_u_rules m_u_rules c_u_rules, .slice a_u_facts m_u_facts c_u_facts, .slice a_u_r_Facts m_u_r_Facts c_u_r_Facts, .slice a_u_r_Values m_u_r_Values c_u_r_Values, .slice a_u_r_Log m_u_r_Log c_u_r_Log, .int .i64 u_r_Rounds, .slice a_u_lines m_u_lines c_u_lines]]) := by
  refine Tr.intro Tryz.func164 rfl (n := 23) rfl (by decide +kernel) bl (fr := [(0, .pointer (some ⟨b_u, 0, none⟩))]) rfl fun w L hR => (Ent.lenow (mS m0) fun eu_lines lu_lines => ?_)
  subst eu_lines
  refine Ew Z1 (Eas rfl rfl (Ev Z2 (Est rfl (N.bsl (pvs := []) (cs := []) us_Facts ty_Fact rfl dc dc (fillZ rfl rfl) rfl dc) (fun b6 _ => (Ent.drop (Eas rfl rfl (Eu (Eq_ (Ew Z6 (Emv rfl rfl (Ey rfl ((Y.nil rfl).yd) (Ey rfl ((Y.fld fo_under_4 ty_Lines dc rfl).yd) (Ey rfl (Y.ld1 ty_Lines rfl ((Has.pt m0).sub (cs' := [_]) 7 rfl) rfl) (Ey rfl ((Y.len us_Lines rfl).yd) (Emv rfl rfl (Eu (E.block (Ent.mkow (A := []) (Own.nil (E := eFact) (e := tFact) (a := (some ⟨b6, 0, none⟩))) rfl (Ent.cv (congrArg (ow eFacts [_]) (show [] = (u_lines.take 0).map (fun x => x.2.2) from by rfl)) (Ent.p2 (Ent.od0 (E.loop (κ := Nat × Option Addr × Nat × Nat) (fun g => g.1 ≤ u_lines.length ∧ True) (fun g => [(3, .slice g.2.1 g.2.2.1 g.2.2.2), (10, .slice a_u_lines u_lines.length c_u_lines), (11, .int .i64 (↑u_lines.length : Int)), (12, .int .i64 (↑g.1 : Int))]) (fun g => [owd tLine eLine a_u_lines u_lines.length c_u_lines u_lines g.1, ow eFacts [.slice g.2.1 g.2.2.1 g.2.2.2] ((u_lines.take g.1).map (fun x => x.2.2)), pt b_u 261 [.slice a_u_l m_u_l c_u_l, .slice a_u_rules m_u_rules c_u_rules, .slice a_u_facts m_u_facts c_u_facts, .slice a_u_r_Facts m_u_r_Facts c_u_r_Facts, .slice a_u_r_Values m_u_r_Values c_u_r_Values, .slice a_u_r_Log m_u_r_Log c_u_r_Log, .int .i64 u_r_Rounds, .slice a_u_lines u_lines.length c_u_lines]]) (fun g => u_lines.length - g.1) (0, (some ⟨b6, 0, none⟩), 0, 0) ⟨Nat.zero_le _, by simp⟩ ⟨rfl, rfl, rfl, rfl, trivial⟩ (.refl _) (fun g pg => ?_)))))))))))))))))))))))
  obtain ⟨g, aA0_0, mA0_0, cA0_0⟩ := g
  try dsimp only at pg
  try dsimp only
  obtain ⟨pk, pa⟩ := pg
  have jt := List.length_take_le g u_lines
  refine Ent.lenow (mS m0) fun eaA0_0 laA0_0 => ?_
  subst eaA0_0
  refine Ew Z1 (Ey rfl ((Y.lss rfl rfl).yd) (Ent.d (fun q13 => ?_) (fun q13 => ?_)))
  · refine Ent.adrd m0 om fun ab14 ae14 => (Ent.odt (j := g) om fun ce14 => (Ent.p1 (Ent.oLine fun oa14_2 om14_2 oc14_2 oa14_4 om14_4 oc14_4 oe14 oi14_0 oi14_1 on14_2 oi14_3 on14_4 => ?_)))
    subst oe14
    subst on14_2
    subst on14_4
    refine Ent.lenow m0 fun _ ol14_2 => (Ent.lenow (mS m0) fun _ ol14_4 => (Eu (Eq_ (E.ct rfl (E.skipc (Et (Eq_ (E.block (Ew Z4 (Ey rfl ((Y.ix us_Lines ty_Line rfl ae14 rfl g rfl om).yd) (Ey rfl (Y.ldS (cs := [_, _, _, _, _]) ty_Line rfl (Has.owt ae14 (mS (mS m0))) rfl) (Est rfl (N.alloc ty_Line dc) (fun b5 _ => (Est rfl (N.sto (vs := [_, _, _, _, _]) (cs' := [_, _, _, _, _]) ty_Line rfl rfl rfl rfl rfl bl rfl) (fun _ _ => (Eu (Ez Z6 (Emv rfl rfl (Ey rfl ((Y.fld fo_Line_2 ty_Fact dc rfl).yd) (Ey rfl (Y.ldS (cs := [_, _]) ty_Fact rfl ((Has.pt m0).sub (cs' := [_, _]) 3 rfl) rfl) (Est rfl (N.bsl (pvs := [_]) (cs := [_, _]) us_Facts ty_Fact rfl dc dc (fillZ rfl rfl) rfl dc) (fun b19 _ => (Ent.p3 (Ent.p1 (Ent.p5 (Est rfl (N.push (E := eFact) (ex := u_lines[g].2.2) us_Facts ty_Fact rfl rfl rfl (Own.mkFact (x := u_lines[g].2.2) oi14_3 Own.ow) rfl bn bn dc) (fun p20 _ => (Eas rfl rfl ?_))))))))))))))))))))))))))))
    refine En (E.bln (Et (Ez Z2 (Ey rfl ((Y.add rfl rfl om om).yd) (Emv rfl rfl (Eu (Ent.p3 (Ent.otd (Ent.p2 (Ent.drop (Ent.p2 (Ent.drop (Ent.p1 (Ent.cv (congrArg (ow eFacts [_]) (show ((u_lines.take g).map (fun x => x.2.2)) ++ [u_lines[g].2.2] = (u_lines.take (g + 1)).map (fun x => x.2.2) from by rw [List.take_succ_eq_append_getElem om, List.map_append]; rfl)) (Ent.p2 (Ent.p1 (Ent.p2 ?_)))))))))))))))))
    exact E.again br (g + 1, p20.1, (((u_lines.take g).map (fun x => x.2.2)).length + 1), p20.2) ⟨rfl, rfl, rfl, rfl, trivial⟩ (.refl _) ⟨(show g + 1 ≤ u_lines.length from by omega), trivial⟩ (show u_lines.length - (g + 1) < u_lines.length - g from by omega)
  · refine Eu (Eq_ (E.cf rfl (E.exit (E.the (E.the (E.blh (Et (Ew Z2 (Emv rfl rfl (Eas rfl rfl (Eu (E.ret (Ent.p1 (Ent.cv (congrArg (ow eFacts [_]) (show _ = u_lines.map (fun x => x.2.2) by rw [List.take_of_length_le om])) (Ent.p2 (Ent.p1 ?_))))))))))))))))
    exact Fg rfl rfl (_, _, _) rfl rfl
set_option maxRecDepth 100000 in
theorem t_impl_CheckUnder {a_s : Option Addr} {m_s c_s : Nat} {s : List Int} {a_l : Option Addr} {m_l c_l : Nat} {l : List (Int × List Int × Int × Int × Int)} {a_rules : Option Addr} {m_rules c_rules : Nat} {rules : List (Int × Int × List Int)} {a_q_Head : Option Addr} {m_q_Head c_q_Head : Nat} {q_Head : List Int} {a_q_Atoms : Option Addr} {m_q_Atoms c_q_Atoms : Nat} {q_Atoms : List (Int × List Int)} {a_c_All : Option Addr} {m_c_All c_c_All : Nat} {c_All : List (Int × List Int)} {a_c_Some : Option Addr} {m_c_Some c_c_Some : Nat} {c_Some : List (Int × List Int)} {a_c_Tuple : Option Addr} {m_c_Tuple c_c_Tuple : Nat} {c_Tuple : List Int} (hz : totL (fun x => x.2.length) q_Atoms ≤ 1048576) : Tr Tryz.prog 70 [.slice a_s m_s c_s, .slice a_l m_l c_l, .slice a_rules m_rules c_rules, .agg #[.slice a_q_Head m_q_Head c_q_Head, .slice a_q_Atoms m_q_Atoms c_q_Atoms], .agg #[.slice a_c_All m_c_All c_c_All, .slice a_c_Some m_c_Some c_c_Some, .slice a_c_Tuple m_c_Tuple c_c_Tuple]] (fun w L => Ro w L eIs [.slice a_s m_s c_s] s ∧ Ro w L eMethods [.slice a_l m_l c_l] l ∧ Ro w L eRules [.slice a_rules m_rules c_rules] rules ∧ Ro w L eIs [.slice a_q_Head m_q_Head c_q_Head] q_Head ∧ Ro w L eAtoms [.slice a_q_Atoms m_q_Atoms c_q_Atoms] q_Atoms ∧ Ro w L eFacts [.slice a_c_All m_c_All c_c_All] c_All ∧ Ro w L eFacts [.slice a_c_Some m_c_Some c_c_Some] c_Some ∧ Ro w L eIs [.slice a_c_Tuple m_c_Tuple c_c_Tuple] c_Tuple) [] (κ := Unit) (fun k => True) (fun k => .bool (chkU s l rules (q_Head, q_Atoms) c_All c_Some c_Tuple)) (fun k => []) := by
  refine Tr.intro Tryz.func70 rfl (n := 89) rfl (by decide +kernel) bl (fr := [(0, .slice a_s m_s c_s), (1, .slice a_l m_l c_l), (2, .slice a_rules m_rules c_rules), (3, .agg #[.slice a_q_Head m_q_Head c_q_Head, .slice a_q_Atoms m_q_Atoms c_q_Atoms]), (4, .agg #[.slice a_c_All m_c_All c_c_All, .slice a_c_Some m_c_Some c_c_Some, .slice a_c_Tuple m_c_Tuple c_c_Tuple])]) rfl fun w L hR => ?_
  obtain ⟨hs, hl, hrules, hq_Head, hq_Atoms, hc_All, hc_Some, hc_Tuple⟩ := hR
  obtain ⟨rfl, ls⟩ := hs.slen
  obtain ⟨rfl, ll⟩ := hl.slen
  obtain ⟨rfl, lrules⟩ := hrules.slen
  obtain ⟨rfl, lq_Head⟩ := hq_Head.slen
  obtain ⟨rfl, lq_Atoms⟩ := hq_Atoms.slen
  obtain ⟨rfl, lc_All⟩ := hc_All.slen
  obtain ⟨rfl, lc_Some⟩ := hc_Some.slen
  obtain ⟨rfl, lc_Tuple⟩ := hc_Tuple.slen
  refine Ew Z3 (Est rfl (N.box (cs := [_, _]) rfl dc rfl) (fun b8 _ => (Est rfl (N.box (cs := [_, _, _]) rfl dc rfl) (fun b9 _ => (Eas rfl rfl (Eu (Eq_ (Ew Z41 (Emv rfl rfl (Emv rfl rfl (Emv rfl rfl (Est rfl (N.call0 t_impl_areUnder rfl rfl rfl dc (fun w Lp hA => ⟨hA.ro hs, hA.ro hl, hA.ro hrules⟩)) (fun _ _ => (Ent.b (fun q15 => ?_) (fun q15 => ?_)))))))))))))))
  · refine Ey rfl ((Y.not (b := true) rfl).yd) (Emv rfl rfl (Emv rfl rfl (Ey rfl (Y.ldS (cs := [_, _]) ty_Query rfl (Has.pt (mS m0)) rfl) (Est rfl (N.call0 (t_impl_IsQuery fo) rfl rfl rfl dc (fun w Lp hA => ⟨hA.ro hs, hA.ro hq_Head, hA.ro hq_Atoms⟩)) (fun _ _ => (Ent.b (fun q20 => ?_) (fun q20 => ?_)))))))
    · obtain ⟨hm0, hr0⟩ : okMeths s l = true ∧ okRules s rules = true := by simpa using q15
      have hr4 := (okRules_all hr0).2.1
      have jq := okQuery_h (s := s) (q := (q_Head, q_Atoms)) q20
      refine Ey rfl ((Y.not (b := true) rfl).yd) (Ey rfl ((Y.pkf rfl rfl).yd) (Emv rfl rfl (Emv rfl rfl (Ey rfl ((Y.fld fo_Certificate_0 ty_Facts dc rfl).yd) (Ey rfl (Y.ld1 ty_Facts rfl ((Has.pt m0).sub (cs' := [_]) 0 rfl) rfl) (Est rfl (N.call0 t_impl_areAscending rfl rfl rfl dc (fun w Lp hA => ⟨hA.ro hs, hA.ro hc_All⟩)) (fun _ _ => (Ent.b (fun q27 => ?_) (fun q27 => ?_)))))))))
      · have hA := q27
        refine Ey rfl ((Y.not (b := true) rfl).yd) (Ey rfl ((Y.pkf rfl rfl).yd) (Emv rfl rfl (Emv rfl rfl (Ey rfl ((Y.fld fo_Certificate_1 ty_Facts dc rfl).yd) (Ey rfl (Y.ld1 ty_Facts rfl ((Has.pt m0).sub (cs' := [_]) 1 rfl) rfl) (Est rfl (N.call0 t_impl_areAscending rfl rfl rfl dc (fun w Lp hA => ⟨hA.ro hs, hA.ro hc_Some⟩)) (fun _ _ => (Ent.b (fun q34 => ?_) (fun q34 => ?_)))))))))
        · have hB := q34
          have jA : (uFin l rules c_All (termsF (fun t => inR t 0 9) q_Atoms)).2.2.2.length ≤ 5324 := (uFin_invF (seeds := (termsF (fun t => inR t 0 9) q_Atoms)) hm0 hr0 (asc_fin hA)).n.len.1
          have jB : (uFin l rules c_Some (termsF (fun t => inR t 0 9) q_Atoms)).2.2.2.length ≤ 5324 := (uFin_invF (seeds := (termsF (fun t => inR t 0 9) q_Atoms)) hm0 hr0 (asc_fin hB)).n.len.1
          refine Ey rfl ((Y.not (b := true) rfl).yd) (Ey rfl ((Y.pkf rfl rfl).yd) (Emv rfl rfl (Emv rfl rfl (Ey rfl ((Y.fld fo_Certificate_0 ty_Facts dc rfl).yd) (Ey rfl (Y.ld1 ty_Facts rfl ((Has.pt m0).sub (cs' := [_]) 0 rfl) rfl) (Est rfl (N.call (t_impl_missing (ruled_h hr0 (asc_of hA).2).1 (ruled_h hr0 (asc_of hA).2).2.1 hr4 (Nat.le_trans (asc_fin hA).1 dc)) rfl rfl rfl dc rfl (fun w Lp hA => ⟨hA.ro hrules, hA.ro hc_All⟩)) (fun k41 _ => ?_)))))))
          obtain ⟨a41, m41, c41⟩ := k41
          refine Ent.lenow m0 fun e41 l41 => ?_
          subst e41
          refine Ey rfl ((Y.len us_Facts rfl).yd) (Ey rfl ((Y.gtr rfl rfl).yd) (Ent.d (fun q43 => ?_) (fun q43 => ?_)))
          · refine Ey rfl ((Y.pkf rfl rfl).yd) (Emv rfl rfl (Es rfl (Es rfl (Es rfl (Es rfl (Es rfl (Es rfl (Ey rfl ((Y.pkt rfl rfl).yd) (Eu (E.ct rfl (Ew Z1 (Eas rfl rfl ?_))))))))))))
            exact Eu (E.ret (E.thr (Fb rfl rfl (by exact (chk5 q43).symm))))
          · refine Ey rfl ((Y.pkf rfl rfl).yd) (Emv rfl rfl (Emv rfl rfl (Ey rfl ((Y.fld fo_Certificate_1 ty_Facts dc rfl).yd) (Ey rfl (Y.ld1 ty_Facts rfl ((Has.pt (mS m0)).sub (cs' := [_]) 1 rfl) rfl) (Est rfl (N.call (t_impl_missing (ruled_h hr0 (asc_of hB).2).1 (ruled_h hr0 (asc_of hB).2).2.1 hr4 (Nat.le_trans (asc_fin hB).1 dc)) rfl rfl rfl dc rfl (fun w Lp hA => ⟨hA.ro hrules, hA.ro hc_Some⟩)) (fun k49 _ => ?_))))))
            obtain ⟨a49, m49, c49⟩ := k49
            refine Ent.lenow m0 fun e49 l49 => ?_
            subst e49
            refine Ey rfl ((Y.len us_Facts rfl).yd) (Ey rfl ((Y.gtr rfl rfl).yd) (Ent.d (fun q51 => ?_) (fun q51 => ?_)))
            · refine Ey rfl ((Y.pkf rfl rfl).yd) (Eu (E.ct rfl (Ew Z1 (Eas rfl rfl ?_))))
              exact Eu (E.ret (E.thr (Fb rfl rfl (by exact (chk6 q51).symm))))
            · refine Ey rfl ((Y.pkf rfl rfl).yd) (Eu (E.cf rfl (E.skipc (Et (Ew Z3 (Ey rfl (Y.ldS (cs := [_, _]) ty_Query rfl (Has.pt (mS (mS (mS m0)))) rfl) (Est rfl (N.call (t_impl_ConstantsOf fo) rfl rfl rfl dc rfl (fun w Lp hA => ⟨hA.ro hq_Head, hA.ro hq_Atoms⟩)) (fun k54 _ => ?_))))))))
              obtain ⟨a54, m54, c54⟩ := k54
              refine Ent.lenow m0 fun e54 l54 => ?_
              subst e54
              refine Eas rfl rfl (Eu (Eq_ (D.Kregion [b9, b8] (fun j => true) mixed (D.Kyp 0 rfl rfl dc (Y.mv rfl) kr (D.Kyp 1 rfl rfl dc (Y.mv rfl) kr (D.Kyp 2 rfl rfl dc (Y.fld fo_Certificate_0 ty_Facts dc rfl) kr (D.Ky 3 rfl rfl dc (Y.ldK1 ty_Facts rfl ((HasK.pt (mS (mS (mS m0))) (by simp)).sub (cs' := [_]) 0 rfl) rfl) kr (D.Kyp 4 rfl rfl dc (Y.mv rfl) kr (D.Kyp 7 rfl rfl dc (Y.mv rfl) kr (D.Kyp 8 rfl rfl dc (Y.mv rfl) kr (D.Kyp 9 rfl rfl dc (Y.fld fo_Certificate_1 ty_Facts dc rfl) kr (D.Ky 10 rfl rfl dc (Y.ldK1 ty_Facts rfl ((HasK.pt (mS (mS (mS m0))) (by simp)).sub (cs' := [_]) 1 rfl) rfl) kr (D.Kyp 11 rfl rfl dc (Y.mv rfl) kr (D.Kst 5 rfl rfl kr (fun _ _ => SameI.out) (N.call (t_impl_reachUnder ⟨s, hm0, hr0, asc_fin hA⟩ (Nat.le_trans consts_few dc)) rfl rfl rfl dc rfl (fun w Lp hA => ⟨hA.ro hl, hA.ro hrules, hA.ro hc_All, hA.ow m0⟩)) (fun k60 _ => ?_)))))))))))))))
              obtain ⟨nb60, ⟨a60_0, m60_0, c60_0⟩, ⟨a60_1, m60_1, c60_1⟩, ⟨a60_2, m60_2, c60_2⟩, ⟨a60_3, m60_3, c60_3⟩⟩ := k60
              try dsimp only
              refine Ent.lenow (mS m0) fun e60_0 l60_0 => ?_
              subst e60_0
              refine Ent.lenow (mS (mS m0)) fun e60_1 l60_1 => ?_
              subst e60_1
              refine Ent.lenow (mS (mS (mS m0))) fun e60_2 l60_2 => ?_
              subst e60_2
              refine Ent.lenow (mS (mS (mS (mS m0)))) fun e60_3 l60_3 => ?_
              subst e60_3
              refine Ent.p4 (Ent.p1 (D.Kst 6 rfl rfl kr (fun _ _ => SameI.out) (N.call (pre := [_, _]) (t_impl_under_order fo) rfl rfl rfl dc rfl (fun w Lp hA => trivial)) (fun k61 _ => ?_)))
              obtain ⟨a61, m61, c61⟩ := k61
              refine Ent.lenow m0 fun e61 l61 => ?_
              subst e61
              refine D.Kst 12 rfl rfl kr (fun _ _ => SameI.out) (N.call (t_impl_reachUnder ⟨s, hm0, hr0, asc_fin hB⟩ (Nat.le_trans consts_few dc)) rfl rfl rfl dc rfl (fun w Lp hA => ⟨hA.ro hl, hA.ro hrules, hA.ro hc_Some, hA.ow (mS (mS (mS (mS (mS m0)))))⟩)) (fun k67 _ => ?_)
              obtain ⟨nb67, ⟨a67_0, m67_0, c67_0⟩, ⟨a67_1, m67_1, c67_1⟩, ⟨a67_2, m67_2, c67_2⟩, ⟨a67_3, m67_3, c67_3⟩⟩ := k67
              try dsimp only
              refine Ent.lenow (mS m0) fun e67_0 l67_0 => ?_
              subst e67_0
              refine Ent.lenow (mS (mS m0)) fun e67_1 l67_1 => ?_
              subst e67_1
              refine Ent.lenow (mS (mS (mS m0))) fun e67_2 l67_2 => ?_
              subst e67_2
              refine Ent.lenow (mS (mS (mS (mS m0)))) fun e67_3 l67_3 => ?_
              subst e67_3
              refine Ent.p4 (Ent.p1 (D.Kst 13 rfl rfl kr (fun _ _ => SameI.out) (N.call (pre := [_, _]) (t_impl_under_order fo) rfl rfl rfl dc rfl (fun w Lp hA => trivial)) (fun k68 _ => ?_)))
              obtain ⟨a68, m68, c68⟩ := k68
              refine Ent.lenow m0 fun e68 l68 => ?_
              subst e68
              refine D.Kst 14 rfl rfl kr (fun _ _ => SameI.out) (N.call0 t_impl_SameFacts rfl rfl rfl dc (fun w Lp hA => ⟨hA.ow (mS (mS (mS (mS (mS m0))))), hA.ow m0⟩)) (fun _ _ => (Ent.b (fun q69 => ?_) (fun q69 => ?_)))
              · refine D.Kyp 15 rfl rfl dc (Y.mv rfl) kr (D.Ky 16 rfl rfl dc (Y.ldKS (cs := [_, _]) ty_Query rfl (HasK.pt (mS (mS (mS (mS (mS (mS (mS (mS (mS (mS (mS (mS (mS (mS m0)))))))))))))) (by simp)) rfl) kr (D.Kyp 17 rfl rfl dc (Y.fld fo_Certificate_0 ty_Facts dc rfl) kr (D.Ky 18 rfl rfl dc (Y.ldK1 ty_Facts rfl ((HasK.pt (mS (mS (mS (mS (mS (mS (mS (mS (mS (mS (mS (mS (mS m0))))))))))))) (by simp)).sub (cs' := [_]) 0 rfl) rfl) kr (D.Kyp 20 rfl rfl dc (Y.fld fo_Certificate_2 ty_Is dc rfl) kr (D.Ky 21 rfl rfl dc (Y.ldK1 ty_Is rfl ((HasK.pt (mS (mS (mS (mS (mS (mS (mS (mS (mS (mS (mS (mS (mS m0))))))))))))) (by simp)).sub (cs' := [_]) 2 rfl) rfl) kr (D.Kst 19 rfl rfl kr (fun _ _ => SameI.out) (N.call (t_impl_answers jq.1 jq.2.2 (fun a _ => asc_few hA a) jq.2.1) rfl rfl rfl dc rfl (fun w Lp hA => ⟨hA.ro hq_Head, hA.ro hq_Atoms, hA.ro hc_All⟩)) (fun k74 _ => ?_)))))))
                obtain ⟨a74, m74, c74⟩ := k74
                refine Ent.lenow m0 fun e74 l74 => ?_
                subst e74
                refine D.Kst 22 rfl rfl kr (fun _ _ => SameI.out) (N.call0 t_impl_hasTuple rfl rfl rfl dc (fun w Lp hA => ⟨hA.ow m0, hA.ro hc_Tuple⟩)) (fun _ _ => (Ent.b (fun q77 => ?_) (fun q77 => ?_)))
                · refine D.Kyp 23 rfl rfl dc (Y.pkt rfl rfl) kr (D.Kyp 24 rfl rfl dc (Y.mv rfl) kr (D.Ky 25 rfl rfl dc (Y.ldKS (cs := [_, _]) ty_Query rfl (HasK.pt (mS (mS (mS (mS (mS (mS (mS (mS (mS (mS (mS (mS (mS (mS (mS m0))))))))))))))) (by simp)) rfl) kr (D.Kyp 26 rfl rfl dc (Y.fld fo_Certificate_1 ty_Facts dc rfl) kr (D.Ky 27 rfl rfl dc (Y.ldK1 ty_Facts rfl ((HasK.pt (mS (mS (mS (mS (mS (mS (mS (mS (mS (mS (mS (mS (mS (mS m0)))))))))))))) (by simp)).sub (cs' := [_]) 1 rfl) rfl) kr (D.Kyp 29 rfl rfl dc (Y.fld fo_Certificate_2 ty_Is dc rfl) kr (D.Ky 30 rfl rfl dc (Y.ldK1 ty_Is rfl ((HasK.pt (mS (mS (mS (mS (mS (mS (mS (mS (mS (mS (mS (mS (mS (mS m0)))))))))))))) (by simp)).sub (cs' := [_]) 2 rfl) rfl) kr (D.Kst 28 rfl rfl kr (fun _ _ => SameI.out) (N.call (t_impl_answers jq.1 jq.2.2 (fun a _ => asc_few hB a) jq.2.1) rfl rfl rfl dc rfl (fun w Lp hA => ⟨hA.ro hq_Head, hA.ro hq_Atoms, hA.ro hc_Some⟩)) (fun k83 _ => ?_))))))))
                  obtain ⟨a83, m83, c83⟩ := k83
                  refine Ent.lenow m0 fun e83 l83 => ?_
                  subst e83
                  refine D.Kst 31 rfl rfl kr (fun _ _ => SameI.out) (N.call0 t_impl_hasTuple rfl rfl rfl dc (fun w Lp hA => ⟨hA.ow m0, hA.ro hc_Tuple⟩)) (fun _ _ => (D.Kyp 32 rfl rfl dc (Y.not rfl) kr (D.Kyp 33 rfl rfl dc (Y.pkt rfl rfl) kr (D.Kyp 34 rfl rfl dc (Y.as rfl) kr ?_))))
                  exact D.Kdone kr (Et (E.ret (Fb rfl rfl (by exact chk9 (q := (q_Head, q_Atoms)) q15 q20 hA hB q43 q51 (of_decide_eq_true q69) q77))))
                · refine D.Kyp 23 rfl rfl dc (Y.pkt rfl rfl) kr (D.Kyp 24 rfl rfl dc (Y.mv rfl) kr (D.Kskip 25 rfl rfl kr rfl (D.Kskip 26 rfl rfl kr rfl (D.Kskip 27 rfl rfl kr rfl (D.Kskip 28 rfl rfl kr rfl (D.Kskip 29 rfl rfl kr rfl (D.Kskip 30 rfl rfl kr rfl (D.Kskip 31 rfl rfl kr rfl (D.Kskip 32 rfl rfl kr rfl (D.Kyp 33 rfl rfl dc (Y.pkf rfl rfl) kr (D.Kyp 34 rfl rfl dc (Y.as rfl) kr ?_)))))))))))
                  exact D.Kdone kr (Et (E.ret (Fb rfl rfl (by exact (chk8 (q := (q_Head, q_Atoms)) q77).symm))))
              · refine D.Kyp 15 rfl rfl dc (Y.mv rfl) kr (D.Kskip 16 rfl rfl kr rfl (D.Kskip 17 rfl rfl kr rfl (D.Kskip 18 rfl rfl kr rfl (D.Kskip 19 rfl rfl kr rfl (D.Kskip 20 rfl rfl kr rfl (D.Kskip 21 rfl rfl kr rfl (D.Kskip 22 rfl rfl kr rfl (D.Kyp 23 rfl rfl dc (Y.pkf rfl rfl) kr (D.Kyp 24 rfl rfl dc (Y.mv rfl) kr (D.Kskip 25 rfl rfl kr rfl (D.Kskip 26 rfl rfl kr rfl (D.Kskip 27 rfl rfl kr rfl (D.Kskip 28 rfl rfl kr rfl (D.Kskip 29 rfl rfl kr rfl ?_))))))))))))))
                refine D.Kskip 30 rfl rfl kr rfl (D.Kskip 31 rfl rfl kr rfl (D.Kskip 32 rfl rfl kr rfl (D.Kyp 33 rfl rfl dc (Y.pkf rfl rfl) kr (D.Kyp 34 rfl rfl dc (Y.as rfl) kr ?_))))
                exact D.Kdone kr (Et (E.ret (Fb rfl rfl (by exact (chk7 (q := (q_Head, q_Atoms)) (of_decide_eq_false q69)).symm))))
        · refine Ey rfl ((Y.not (b := false) rfl).yd) (Ey rfl ((Y.pkf rfl rfl).yd) (Emv rfl rfl (Es rfl (Es rfl (Es rfl (Es rfl (Es rfl (Es rfl (Ey rfl ((Y.pkt rfl rfl).yd) (Emv rfl rfl (Es rfl (Es rfl (Es rfl (Es rfl ?_))))))))))))))
          refine Es rfl (Es rfl (Ey rfl ((Y.pkt rfl rfl).yd) (Eu (E.ct rfl (Ew Z1 (Eas rfl rfl ?_))))))
          exact Eu (E.ret (E.thr (Fb rfl rfl (by exact (chk4 q34).symm))))
      · refine Ey rfl ((Y.not (b := false) rfl).yd) (Ey rfl ((Y.pkf rfl rfl).yd) (Emv rfl rfl (Es rfl (Es rfl (Es rfl (Es rfl (Es rfl (Ey rfl ((Y.pkt rfl rfl).yd) (Emv rfl rfl (Es rfl (Es rfl (Es rfl (Es rfl (Es rfl ?_))))))))))))))
        refine Es rfl (Ey rfl ((Y.pkt rfl rfl).yd) (Emv rfl rfl (Es rfl (Es rfl (Es rfl (Es rfl (Es rfl (Es rfl (Ey rfl ((Y.pkt rfl rfl).yd) (Eu (E.ct rfl (Ew Z1 (Eas rfl rfl ?_)))))))))))))
        exact Eu (E.ret (E.thr (Fb rfl rfl (by exact (chk3 q27).symm))))
    · refine Ey rfl ((Y.not (b := false) rfl).yd) (Ey rfl ((Y.pkf rfl rfl).yd) (Emv rfl rfl (Es rfl (Es rfl (Es rfl (Es rfl (Es rfl (Ey rfl ((Y.pkt rfl rfl).yd) (Emv rfl rfl (Es rfl (Es rfl (Es rfl (Es rfl (Es rfl ?_))))))))))))))
      refine Ey rfl ((Y.pkt rfl rfl).yd) (Emv rfl rfl (Es rfl (Es rfl (Es rfl (Es rfl (Es rfl (Es rfl (Ey rfl ((Y.pkt rfl rfl).yd) (Emv rfl rfl (Es rfl (Es rfl (Es rfl (Es rfl (Es rfl ?_))))))))))))))
      refine Es rfl (Ey rfl ((Y.pkt rfl rfl).yd) (Eu (E.ct rfl (Ew Z1 (Eas rfl rfl ?_)))))
      exact Eu (E.ret (E.thr (Fb rfl rfl (by exact (chk2 q20).symm))))
  · refine Ey rfl ((Y.not (b := false) rfl).yd) (Emv rfl rfl (Es rfl (Es rfl (Es rfl (Es rfl (Ey rfl ((Y.pkt rfl rfl).yd) (Emv rfl rfl (Es rfl (Es rfl (Es rfl (Es rfl (Es rfl (Ey rfl ((Y.pkt rfl rfl).yd) (Emv rfl rfl ?_))))))))))))))
    refine Es rfl (Es rfl (Es rfl (Es rfl (Es rfl (Ey rfl ((Y.pkt rfl rfl).yd) (Emv rfl rfl (Es rfl (Es rfl (Es rfl (Es rfl (Es rfl (Es rfl (Ey rfl ((Y.pkt rfl rfl).yd) (Emv rfl rfl ?_))))))))))))))
    refine Es rfl (Es rfl (Es rfl (Es rfl (Es rfl (Es rfl (Ey rfl ((Y.pkt rfl rfl).yd) (Eu (E.ct rfl (Ew Z1 (Eas rfl rfl ?_))))))))))
    exact Eu (E.ret (E.thr (Fb rfl rfl (by exact (chk1 (q := (q_Head, q_Atoms)) q15).symm))))
set_option maxRecDepth 100000 in
theorem t_spec_CheckUnder {a_s : Option Addr} {m_s c_s : Nat} {s : List Int} {a_l : Option Addr} {m_l c_l : Nat} {l : List (Int × List Int × Int × Int × Int)} {a_rules : Option Addr} {m_rules c_rules : Nat} {rules : List (Int × Int × List Int)} {a_q_Head : Option Addr} {m_q_Head c_q_Head : Nat} {q_Head : List Int} {a_q_Atoms : Option Addr} {m_q_Atoms c_q_Atoms : Nat} {q_Atoms : List (Int × List Int)} {a_c_All : Option Addr} {m_c_All c_c_All : Nat} {c_All : List (Int × List Int)} {a_c_Some : Option Addr} {m_c_Some c_c_Some : Nat} {c_Some : List (Int × List Int)} {a_c_Tuple : Option Addr} {m_c_Tuple c_c_Tuple : Nat} {c_Tuple : List Int} (hz : totL (fun x => x.2.length) q_Atoms ≤ 1048576) : Tr Tryz.prog 67 [.slice a_s m_s c_s, .slice a_l m_l c_l, .slice a_rules m_rules c_rules, .agg #[.slice a_q_Head m_q_Head c_q_Head, .slice a_q_Atoms m_q_Atoms c_q_Atoms], .agg #[.slice a_c_All m_c_All c_c_All, .slice a_c_Some m_c_Some c_c_Some, .slice a_c_Tuple m_c_Tuple c_c_Tuple]] (fun w L => Ro w L eIs [.slice a_s m_s c_s] s ∧ Ro w L eMethods [.slice a_l m_l c_l] l ∧ Ro w L eRules [.slice a_rules m_rules c_rules] rules ∧ Ro w L eIs [.slice a_q_Head m_q_Head c_q_Head] q_Head ∧ Ro w L eAtoms [.slice a_q_Atoms m_q_Atoms c_q_Atoms] q_Atoms ∧ Ro w L eFacts [.slice a_c_All m_c_All c_c_All] c_All ∧ Ro w L eFacts [.slice a_c_Some m_c_Some c_c_Some] c_Some ∧ Ro w L eIs [.slice a_c_Tuple m_c_Tuple c_c_Tuple] c_Tuple) [] (κ := Unit) (fun k => True) (fun k => .bool (chkU s l rules (q_Head, q_Atoms) c_All c_Some c_Tuple)) (fun k => []) := by
  refine Tr.intro Tryz.func67 rfl (n := 113) rfl (by decide +kernel) bl (fr := [(0, .slice a_s m_s c_s), (1, .slice a_l m_l c_l), (2, .slice a_rules m_rules c_rules), (3, .agg #[.slice a_q_Head m_q_Head c_q_Head, .slice a_q_Atoms m_q_Atoms c_q_Atoms]), (4, .agg #[.slice a_c_All m_c_All c_c_All, .slice a_c_Some m_c_Some c_c_Some, .slice a_c_Tuple m_c_Tuple c_c_Tuple])]) rfl fun w L hR => ?_
  obtain ⟨hs, hl, hrules, hq_Head, hq_Atoms, hc_All, hc_Some, hc_Tuple⟩ := hR
  obtain ⟨rfl, ls⟩ := hs.slen
  obtain ⟨rfl, ll⟩ := hl.slen
  obtain ⟨rfl, lrules⟩ := hrules.slen
  obtain ⟨rfl, lq_Head⟩ := hq_Head.slen
  obtain ⟨rfl, lq_Atoms⟩ := hq_Atoms.slen
  obtain ⟨rfl, lc_All⟩ := hc_All.slen
  obtain ⟨rfl, lc_Some⟩ := hc_Some.slen
  obtain ⟨rfl, lc_Tuple⟩ := hc_Tuple.slen
  refine Ew Z3 (Est rfl (N.box (cs := [_, _]) rfl dc rfl) (fun b8 _ => (Est rfl (N.box (cs := [_, _, _]) rfl dc rfl) (fun b9 _ => (Eas rfl rfl (Eu (Eq_ (Ew Z41 (Emv rfl rfl (Emv rfl rfl (Emv rfl rfl (Est rfl (N.call0 t_spec_l14Fine rfl rfl rfl dc (fun w Lp hA => ⟨hA.ro hs, hA.ro hl, hA.ro hrules⟩)) (fun _ _ => (Ent.b (fun q17 => ?_) (fun q17 => ?_)))))))))))))))
  · refine Ey rfl ((Y.not (b := true) rfl).yd) (Emv rfl rfl (Emv rfl rfl (Ey rfl (Y.ldS (cs := [_, _]) ty_Query rfl (Has.pt (mS m0)) rfl) (Est rfl (N.call0 (t_spec_IsQuery fo) rfl rfl rfl dc (fun w Lp hA => ⟨hA.ro hs, hA.ro hq_Head, hA.ro hq_Atoms⟩)) (fun _ _ => (Ent.b (fun q22 => ?_) (fun q22 => ?_)))))))
    · obtain ⟨hm0, hr0⟩ : okMeths s l = true ∧ okRules s rules = true := by simpa using q17
      have hr4 := (okRules_all hr0).2.1
      have jq := okQuery_h (s := s) (q := (q_Head, q_Atoms)) q22
      refine Ey rfl ((Y.not (b := true) rfl).yd) (Ey rfl ((Y.pkf rfl rfl).yd) (Emv rfl rfl (Emv rfl rfl (Ey rfl ((Y.fld fo_Certificate_0 ty_Facts dc rfl).yd) (Ey rfl (Y.ld1 ty_Facts rfl ((Has.pt m0).sub (cs' := [_]) 0 rfl) rfl) (Est rfl (N.call0 t_spec_l15Facts rfl rfl rfl dc (fun w Lp hA => ⟨hA.ro hs, hA.ro hc_All⟩)) (fun _ _ => (Ent.b (fun q29 => ?_) (fun q29 => ?_)))))))))
      · have hA := (Bool.and_eq_true_iff.1 q29).1
        refine Ey rfl ((Y.not (b := true) rfl).yd) (Ey rfl ((Y.pkf rfl rfl).yd) (Emv rfl rfl (Emv rfl rfl (Ey rfl ((Y.fld fo_Certificate_1 ty_Facts dc rfl).yd) (Ey rfl (Y.ld1 ty_Facts rfl ((Has.pt m0).sub (cs' := [_]) 1 rfl) rfl) (Est rfl (N.call0 t_spec_l15Facts rfl rfl rfl dc (fun w Lp hA => ⟨hA.ro hs, hA.ro hc_Some⟩)) (fun _ _ => (Ent.b (fun q36 => ?_) (fun q36 => ?_)))))))))
        · have hB := (Bool.and_eq_true_iff.1 q36).1
          have jA : (uFin l rules c_All (termsF (fun t => inR t 0 9) q_Atoms)).2.2.2.length ≤ 5324 := (uFin_invF (seeds := (termsF (fun t => inR t 0 9) q_Atoms)) hm0 hr0 (asc_fin hA)).n.len.1
          have jB : (uFin l rules c_Some (termsF (fun t => inR t 0 9) q_Atoms)).2.2.2.length ≤ 5324 := (uFin_invF (seeds := (termsF (fun t => inR t 0 9) q_Atoms)) hm0 hr0 (asc_fin hB)).n.len.1
          refine Ey rfl ((Y.not (b := true) rfl).yd) (Ey rfl ((Y.pkf rfl rfl).yd) (Emv rfl rfl (Emv rfl rfl (Ey rfl ((Y.fld fo_Certificate_0 ty_Facts dc rfl).yd) (Ey rfl (Y.ld1 ty_Facts rfl ((Has.pt m0).sub (cs' := [_]) 0 rfl) rfl) (Est rfl (N.call (t_spec_l13Missing (ruled_h hr0 (asc_of hA).2).1 (ruled_h hr0 (asc_of hA).2).2.1 hr4 (Nat.le_trans (asc_fin hA).1 dc)) rfl rfl rfl dc rfl (fun w Lp hA => ⟨hA.ro hrules, hA.ro hc_All⟩)) (fun k43 _ => ?_)))))))
          obtain ⟨a43, m43, c43⟩ := k43
          refine Ent.lenow m0 fun e43 l43 => ?_
          subst e43
          refine Ey rfl ((Y.len us_Facts rfl).yd) (Ey rfl ((Y.gtr rfl rfl).yd) (Ent.d (fun q45 => ?_) (fun q45 => ?_)))
          · refine Ey rfl ((Y.pkf rfl rfl).yd) (Emv rfl rfl (Es rfl (Es rfl (Es rfl (Es rfl (Es rfl (Es rfl (Ey rfl ((Y.pkt rfl rfl).yd) (Eu (E.ct rfl (Ew Z1 (Eas rfl rfl ?_))))))))))))
            exact Eu (E.ret (E.thr (Fb rfl rfl (by exact (chk5 q45).symm))))
          · refine Ey rfl ((Y.pkf rfl rfl).yd) (Emv rfl rfl (Emv rfl rfl (Ey rfl ((Y.fld fo_Certificate_1 ty_Facts dc rfl).yd) (Ey rfl (Y.ld1 ty_Facts rfl ((Has.pt (mS m0)).sub (cs' := [_]) 1 rfl) rfl) (Est rfl (N.call (t_spec_l13Missing (ruled_h hr0 (asc_of hB).2).1 (ruled_h hr0 (asc_of hB).2).2.1 hr4 (Nat.le_trans (asc_fin hB).1 dc)) rfl rfl rfl dc rfl (fun w Lp hA => ⟨hA.ro hrules, hA.ro hc_Some⟩)) (fun k51 _ => ?_))))))
            obtain ⟨a51, m51, c51⟩ := k51
            refine Ent.lenow m0 fun e51 l51 => ?_
            subst e51
            refine Ey rfl ((Y.len us_Facts rfl).yd) (Ey rfl ((Y.gtr rfl rfl).yd) (Ent.d (fun q53 => ?_) (fun q53 => ?_)))
            · refine Ey rfl ((Y.pkf rfl rfl).yd) (Eu (E.ct rfl (Ew Z1 (Eas rfl rfl ?_))))
              exact Eu (E.ret (E.thr (Fb rfl rfl (by exact (chk6 q53).symm))))
            · refine Ey rfl ((Y.pkf rfl rfl).yd) (Eu (E.cf rfl (E.skipc (Et (Eq_ (D.region (fun j => true) mixed (Dyp 0 rfl (Y.mv rfl) (Dyp 1 rfl (Y.mv rfl) (Dyp 2 rfl (Y.fld fo_Certificate_0 ty_Facts dc rfl) (Dy 3 rfl (Y.ld1 ty_Facts rfl ((Has.pt (mS (mS m0))).sub (cs' := [_]) 0 rfl) rfl) (Dy 4 rfl (Y.ldS (cs := [_, _]) ty_Query rfl (Has.pt (mS (mS (mS m0)))) rfl) (D.st 5 rfl rfl kr (fun _ => rfl) (N.call (t_spec_ConstantsOf fo) rfl rfl rfl dc rfl (fun w Lp hA => ⟨hA.ro hq_Head, hA.ro hq_Atoms⟩)) (fun k60 _ => ?_)))))))))))))
              obtain ⟨a60, m60, c60⟩ := k60
              refine Ent.lenow m0 fun e60 l60 => ?_
              subst e60
              refine D.st 6 rfl rfl kr (fun _ => rfl) (N.call (t_spec_l14Lines ⟨s, hm0, hr0, asc_fin hA⟩ (Nat.le_trans consts_few dc)) rfl rfl rfl dc rfl (fun w Lp hA => ⟨hA.ro hl, hA.ro hrules, hA.ro hc_All, hA.ow m0⟩)) (fun k61 _ => ?_)
              obtain ⟨a61, m61, c61⟩ := k61
              refine Ent.lenow m0 fun e61 l61 => ?_
              subst e61
              refine Ent.rebase (A := [_]) rfl fun wb1 Lb1 hB1 hA1 => ?_
              have hs := hA1.ro hs
              have hl := hA1.ro hl
              have hrules := hA1.ro hrules
              have hq_Head := hA1.ro hq_Head
              have hq_Atoms := hA1.ro hq_Atoms
              have hc_All := hA1.ro hc_All
              have hc_Some := hA1.ro hc_Some
              have hc_Tuple := hA1.ro hc_Tuple
              have rb1 : Ro wb1 Lb1 eLines [.slice a61 ((uFin l rules c_All (termsF (fun t => inR t 0 9) q_Atoms)).2.2.2).length c61] ((uFin l rules c_All (termsF (fun t => inR t 0 9) q_Atoms)).2.2.2) := hA1.ow m0
              refine Dyp 7 rfl (Y.as rfl) (D.done kr (Et (Eq_ (D.region (fun j => true) mixed (Dyp 0 rfl (Y.mv rfl) (Dyp 1 rfl (Y.mv rfl) (Dyp 2 rfl (Y.fld fo_Certificate_1 ty_Facts dc rfl) (Dy 3 rfl (Y.ld1 ty_Facts rfl ((Has.pt (mS (mS (mS m0)))).sub (cs' := [_]) 1 rfl) rfl) (Dy 4 rfl (Y.ldS (cs := [_, _]) ty_Query rfl (Has.pt (mS (mS (mS (mS m0))))) rfl) (D.st 5 rfl rfl kr (fun _ => rfl) (N.call (t_spec_ConstantsOf fo) rfl rfl rfl dc rfl (fun w Lp hA => ⟨hA.ro hq_Head, hA.ro hq_Atoms⟩)) (fun k67 _ => ?_)))))))))))
              obtain ⟨a67, m67, c67⟩ := k67
              refine Ent.lenow m0 fun e67 l67 => ?_
              subst e67
              refine D.st 6 rfl rfl kr (fun _ => rfl) (N.call (t_spec_l14Lines ⟨s, hm0, hr0, asc_fin hB⟩ (Nat.le_trans consts_few dc)) rfl rfl rfl dc rfl (fun w Lp hA => ⟨hA.ro hl, hA.ro hrules, hA.ro hc_Some, hA.ow m0⟩)) (fun k68 _ => ?_)
              obtain ⟨a68, m68, c68⟩ := k68
              refine Ent.lenow m0 fun e68 l68 => ?_
              subst e68
              refine Ent.rebase (A := [_]) rfl fun wb2 Lb2 hB2 hA2 => ?_
              have hs := hA2.ro hs
              have hl := hA2.ro hl
              have hrules := hA2.ro hrules
              have hq_Head := hA2.ro hq_Head
              have hq_Atoms := hA2.ro hq_Atoms
              have hc_All := hA2.ro hc_All
              have hc_Some := hA2.ro hc_Some
              have hc_Tuple := hA2.ro hc_Tuple
              have rb1 := hA2.ro rb1
              have rb2 : Ro wb2 Lb2 eLines [.slice a68 ((uFin l rules c_Some (termsF (fun t => inR t 0 9) q_Atoms)).2.2.2).length c68] ((uFin l rules c_Some (termsF (fun t => inR t 0 9) q_Atoms)).2.2.2) := hA2.ow m0
              refine Dyp 7 rfl (Y.as rfl) (D.done kr (Et (Eq_ (Ew Z5 (Emv rfl rfl (Ey rfl ((Y.len us_Lines rfl).yd) (Emv rfl rfl (Ey rfl ((Y.len us_Lines rfl).yd) (Ey rfl ((Y.neq rfl rfl).yd) (Ent.d (fun q73 => ?_) (fun q73 => ?_)))))))))))
              · dsimp only at q73
                refine Eu (E.ct rfl (Ew Z1 (Eas rfl rfl ?_)))
                exact Eu (E.ret (E.thr (F.r1 (hB1.comp hB2) rfl rfl () trivial (congrArg Value.bool (by exact (chk7 (q := (q_Head, q_Atoms)) (fl_len (X := (uFin l rules c_All (termsF (fun t => inR t 0 9) q_Atoms)).2.2.2) (Y := (uFin l rules c_Some (termsF (fun t => inR t 0 9) q_Atoms)).2.2.2) om)).symm)) (J := _) (.refl _) (.inl rfl))))
              · dsimp only at q73
                refine Eu (E.cf rfl (E.skipc (Et (Eq_ (Ew Z1 (Eas rfl rfl (Eu (E.block (E.loop (κ := Nat) (fun g => g ≤ (uFin l rules c_All (termsF (fun t => inR t 0 9) q_Atoms)).2.2.2.length ∧ (((uFin l rules c_All (termsF (fun t => inR t 0 9) q_Atoms)).2.2.2.take g).map fun x => x.2.2) = ((uFin l rules c_Some (termsF (fun t => inR t 0 9) q_Atoms)).2.2.2.take g).map fun x => x.2.2) (fun g => [(8, .pointer (some ⟨b8, 0, none⟩)), (9, .pointer (some ⟨b9, 0, none⟩)), (11, .slice a61 ((uFin l rules c_All (termsF (fun t => inR t 0 9) q_Atoms)).2.2.2).length c61), (12, .slice a68 ((uFin l rules c_Some (termsF (fun t => inR t 0 9) q_Atoms)).2.2.2).length c68), (13, .int .i64 (g : Int))]) (fun g => [ow eIs [.slice a67 (termsF (fun t => inR t 0 9) q_Atoms).length c67] (termsF (fun t => inR t 0 9) q_Atoms), ow eIs [.slice a60 (termsF (fun t => inR t 0 9) q_Atoms).length c60] (termsF (fun t => inR t 0 9) q_Atoms), ow eFacts [.slice a51 (missF rules c_Some).length c51] (missF rules c_Some), ow eFacts [.slice a43 (missF rules c_All).length c43] (missF rules c_All), pt b9 100 [.slice a_c_All c_All.length c_c_All, .slice a_c_Some c_Some.length c_c_Some, .slice a_c_Tuple c_Tuple.length c_c_Tuple], pt b8 55 [.slice a_q_Head q_Head.length c_q_Head, .slice a_q_Atoms q_Atoms.length c_q_Atoms]]) (fun g => (uFin l rules c_All (termsF (fun t => inR t 0 9) q_Atoms)).2.2.2.length - g) 0 ⟨Nat.zero_le _, by rw [List.take_zero, List.take_zero]⟩ ⟨rfl, rfl, rfl, rfl, rfl, trivial⟩ (.refl _) (fun g pg => ?_))))))))))
                obtain ⟨pk, pa⟩ := pg
                refine Eq_ (Ew Z4 (Emv rfl rfl (Emv rfl rfl (Ey rfl ((Y.len us_Lines rfl).yd) (Ey rfl ((Y.lss rfl rfl).yd) (Ent.d (fun q77 => ?_) (fun q77 => ?_)))))))
                · refine Eu (E.ct rfl (E.skipc (Et (Eq_ (E.block (Eq_ (D.region (fun j => true) mixed (Dyp 0 rfl (Y.mv rfl) (Dyp 1 rfl (Y.mv rfl) ?_)))))))))
                  obtain ⟨eb82, eo82, ec82, ea82, er82, el82, eh82⟩ := rb1.elem g om
                  obtain ⟨xa82_0, xc82_0, xa82_1, xc82_1, rfl, ei82_0, ei82_1, xh82_0, ei82_3, xh82_1⟩ := Ro.pLine er82
                  have := xh82_0.slen.2
                  have := xh82_1.slen.2
                  refine Dyp 2 rfl (Y.ix us_Lines ty_Line rfl ea82 rfl g rfl om) (Dyp 3 rfl (Y.fld fo_Line_2 ty_Fact dc rfl) (Dy 4 rfl (Y.ldS (cs := [_, _]) ty_Fact rfl ((eh82 _).sub (cs' := [_, _]) 3 rfl) rfl) (Dyp 5 rfl (Y.mv rfl) (Dyp 6 rfl (Y.mv rfl) ?_))))
                  obtain ⟨eb87, eo87, ec87, ea87, er87, el87, eh87⟩ := rb2.elem g om
                  obtain ⟨xa87_0, xc87_0, xa87_1, xc87_1, rfl, ei87_0, ei87_1, xh87_0, ei87_3, xh87_1⟩ := Ro.pLine er87
                  have := xh87_0.slen.2
                  have := xh87_1.slen.2
                  refine Dyp 7 rfl (Y.ix us_Lines ty_Line rfl ea87 rfl g rfl om) (Dyp 8 rfl (Y.fld fo_Line_2 ty_Fact dc rfl) (Dy 9 rfl (Y.ldS (cs := [_, _]) ty_Fact rfl ((eh87 _).sub (cs' := [_, _]) 3 rfl) rfl) (D.st 10 rfl rfl kr (fun _ => rfl) (N.call0 t_spec_CompareFacts rfl rfl rfl dc (fun w Lp hA => ⟨ei82_3, hA.ro xh82_1, ei87_3, hA.ro xh87_1⟩)) (fun _ _ => (Dyp 11 rfl (Y.neq rfl rfl) (Ent.d (fun q91 => ?_) (fun q91 => ?_)))))))
                  · refine D.done kr (Et (E.ct rfl (Ew Z1 (Eas rfl rfl ?_))))
                    exact Eu (E.ret (E.blr (E.thr (E.thr (E.blr (E.thr (F.r1 (hB1.comp hB2) rfl rfl () trivial (congrArg Value.bool (by exact (chk7 (q := (q_Head, q_Atoms)) (fl_get (X := (uFin l rules c_All (termsF (fun t => inR t 0 9) q_Atoms)).2.2.2) (Y := (uFin l rules c_Some (termsF (fun t => inR t 0 9) q_Atoms)).2.2.2) (g := g) om om (fun e => q91 (cmpF_zero.2 e)))).symm)) (J := _) (.refl _) (.inl rfl))))))))
                  · refine D.done kr (Et (E.cf rfl (E.skipc (E.bln (Et (Ez Z3 (Emv rfl rfl (Ey rfl ((Y.add rfl rfl om om).yd) (Eas rfl rfl (Eu (Ent.p5 (Ent.p5 (Ent.p5 (Ent.p5 (Ent.p5 (Ent.p5 ?_))))))))))))))))
                    exact E.again br (g + 1) ⟨rfl, rfl, rfl, rfl, rfl, trivial⟩ (.refl _) ⟨by omega, by exact fl_step om om (cmpF_zero.1 (Decidable.not_not.1 q91)) pa⟩ om
                · refine Eu (E.cf rfl (E.exit (E.the (E.the (E.blh (Et (Eq_ (D.region (fun j => true) mixed (Dy 0 rfl (Y.ldS (cs := [_, _]) ty_Query rfl (Has.pt (mS (mS (mS (mS (mS m0)))))) rfl) (Dy 1 rfl (Y.ldS (cs := [_, _]) ty_Query rfl (Has.pt (mS (mS (mS (mS (mS m0)))))) rfl) (Dyp 2 rfl (Y.fld fo_Certificate_0 ty_Facts dc rfl) (Dy 3 rfl (Y.ld1 ty_Facts rfl ((Has.pt (mS (mS (mS (mS m0))))).sub (cs' := [_]) 0 rfl) rfl) (Dyp 6 rfl (Y.fld fo_Certificate_2 ty_Is dc rfl) (Dy 7 rfl (Y.ld1 ty_Is rfl ((Has.pt (mS (mS (mS (mS m0))))).sub (cs' := [_]) 2 rfl) rfl) (D.st 4 rfl rfl kr (fun _ => rfl) (N.call (t_spec_BindingsOf jq.1 jq.2.2 (fun a _ => asc_few hA a)) rfl rfl rfl dc rfl (fun w Lp hA => ⟨hA.ro hq_Head, hA.ro hq_Atoms, hA.ro hc_All⟩)) (fun k96 _ => ?_))))))))))))))))
                  obtain ⟨a96, m96, c96⟩ := k96
                  refine Ent.lenow m0 fun e96 l96 => ?_
                  subst e96
                  refine D.st 5 rfl rfl kr (fun _ => rfl) (N.call (t_spec_l4Tuples (Nat.le_trans jq.2.1 dc) (bindsK_all (facts := c_All) (fun a _ => asc_few hA a) jq.1 jq.2.2).1) rfl rfl rfl dc rfl (fun w Lp hA => ⟨hA.ro hq_Head, hA.ro hq_Atoms, hA.ow m0⟩)) (fun k97 _ => ?_)
                  obtain ⟨a97, m97, c97⟩ := k97
                  refine Ent.lenow m0 fun e97 l97 => ?_
                  subst e97
                  refine D.st 8 rfl rfl kr (fun _ => rfl) (N.call0 t_spec_l10HasTuple rfl rfl rfl dc (fun w Lp hA => ⟨hA.ow m0, hA.ro hc_Tuple⟩)) (fun _ _ => (Ent.b (fun q100 => ?_) (fun q100 => ?_)))
                  · refine Dyp 9 rfl (Y.mv rfl) (Dy 10 rfl (Y.ldS (cs := [_, _]) ty_Query rfl (Has.pt (mS (mS (mS (mS (mS (mS (mS m0)))))))) rfl) (Dy 11 rfl (Y.ldS (cs := [_, _]) ty_Query rfl (Has.pt (mS (mS (mS (mS (mS (mS (mS m0)))))))) rfl) (Dyp 12 rfl (Y.fld fo_Certificate_1 ty_Facts dc rfl) (Dy 13 rfl (Y.ld1 ty_Facts rfl ((Has.pt (mS (mS (mS (mS (mS (mS m0))))))).sub (cs' := [_]) 1 rfl) rfl) (Dyp 16 rfl (Y.fld fo_Certificate_2 ty_Is dc rfl) (Dy 17 rfl (Y.ld1 ty_Is rfl ((Has.pt (mS (mS (mS (mS (mS (mS m0))))))).sub (cs' := [_]) 2 rfl) rfl) (D.st 14 rfl rfl kr (fun _ => rfl) (N.call (t_spec_BindingsOf jq.1 jq.2.2 (fun a _ => asc_few hB a)) rfl rfl rfl dc rfl (fun w Lp hA => ⟨hA.ro hq_Head, hA.ro hq_Atoms, hA.ro hc_Some⟩)) (fun k106 _ => ?_))))))))
                    obtain ⟨a106, m106, c106⟩ := k106
                    refine Ent.lenow m0 fun e106 l106 => ?_
                    subst e106
                    refine D.st 15 rfl rfl kr (fun _ => rfl) (N.call (t_spec_l4Tuples (Nat.le_trans jq.2.1 dc) (bindsK_all (facts := c_Some) (fun a _ => asc_few hB a) jq.1 jq.2.2).1) rfl rfl rfl dc rfl (fun w Lp hA => ⟨hA.ro hq_Head, hA.ro hq_Atoms, hA.ow m0⟩)) (fun k107 _ => ?_)
                    obtain ⟨a107, m107, c107⟩ := k107
                    refine Ent.lenow m0 fun e107 l107 => ?_
                    subst e107
                    refine D.st 18 rfl rfl kr (fun _ => rfl) (N.call0 t_spec_l10HasTuple rfl rfl rfl dc (fun w Lp hA => ⟨hA.ow m0, hA.ro hc_Tuple⟩)) (fun _ _ => (Dyp 19 rfl (Y.not rfl) (Dyp 20 rfl (Y.pkt rfl rfl) (Dyp 21 rfl (Y.as rfl) ?_))))
                    exact D.done kr (Et (E.ret (F.r1 (hB1.comp hB2) rfl rfl () trivial (congrArg Value.bool (by exact chk9 (q := (q_Head, q_Atoms)) q17 q22 hA hB q45 q53 (fl_end (X := (uFin l rules c_All (termsF (fun t => inR t 0 9) q_Atoms)).2.2.2) (Y := (uFin l rules c_Some (termsF (fun t => inR t 0 9) q_Atoms)).2.2.2) (g := g) om om pa) q100)) (J := _) (.refl _) (.inl rfl))))
                  · refine Dyp 9 rfl (Y.mv rfl) (Dsk 10 rfl (Dsk 11 rfl (Dsk 12 rfl (Dsk 13 rfl (Dsk 14 rfl (Dsk 15 rfl (Dsk 16 rfl (Dsk 17 rfl (Dsk 18 rfl (Dsk 19 rfl (Dyp 20 rfl (Y.pkf rfl rfl) (Dyp 21 rfl (Y.as rfl) ?_))))))))))))
                    exact D.done kr (Et (E.ret (F.r1 (hB1.comp hB2) rfl rfl () trivial (congrArg Value.bool (by exact (chk8 (q := (q_Head, q_Atoms)) q100).symm)) (J := _) (.refl _) (.inl rfl))))
        · refine Ey rfl ((Y.not (b := false) rfl).yd) (Ey rfl ((Y.pkf rfl rfl).yd) (Emv rfl rfl (Es rfl (Es rfl (Es rfl (Es rfl (Es rfl (Es rfl (Ey rfl ((Y.pkt rfl rfl).yd) (Emv rfl rfl (Es rfl (Es rfl (Es rfl (Es rfl ?_))))))))))))))
          refine Es rfl (Es rfl (Ey rfl ((Y.pkt rfl rfl).yd) (Eu (E.ct rfl (Ew Z1 (Eas rfl rfl ?_))))))
          exact Eu (E.ret (E.thr (Fb rfl rfl (by exact (chk4 (asc_no hm0 q36)).symm))))
      · refine Ey rfl ((Y.not (b := false) rfl).yd) (Ey rfl ((Y.pkf rfl rfl).yd) (Emv rfl rfl (Es rfl (Es rfl (Es rfl (Es rfl (Es rfl (Ey rfl ((Y.pkt rfl rfl).yd) (Emv rfl rfl (Es rfl (Es rfl (Es rfl (Es rfl (Es rfl ?_))))))))))))))
        refine Es rfl (Ey rfl ((Y.pkt rfl rfl).yd) (Emv rfl rfl (Es rfl (Es rfl (Es rfl (Es rfl (Es rfl (Es rfl (Ey rfl ((Y.pkt rfl rfl).yd) (Eu (E.ct rfl (Ew Z1 (Eas rfl rfl ?_)))))))))))))
        exact Eu (E.ret (E.thr (Fb rfl rfl (by exact (chk3 (asc_no hm0 q29)).symm))))
    · refine Ey rfl ((Y.not (b := false) rfl).yd) (Ey rfl ((Y.pkf rfl rfl).yd) (Emv rfl rfl (Es rfl (Es rfl (Es rfl (Es rfl (Es rfl (Ey rfl ((Y.pkt rfl rfl).yd) (Emv rfl rfl (Es rfl (Es rfl (Es rfl (Es rfl (Es rfl ?_))))))))))))))
      refine Ey rfl ((Y.pkt rfl rfl).yd) (Emv rfl rfl (Es rfl (Es rfl (Es rfl (Es rfl (Es rfl (Es rfl (Ey rfl ((Y.pkt rfl rfl).yd) (Emv rfl rfl (Es rfl (Es rfl (Es rfl (Es rfl (Es rfl ?_))))))))))))))
      refine Es rfl (Ey rfl ((Y.pkt rfl rfl).yd) (Eu (E.ct rfl (Ew Z1 (Eas rfl rfl ?_)))))
      exact Eu (E.ret (E.thr (Fb rfl rfl (by exact (chk2 q22).symm))))
  · refine Ey rfl ((Y.not (b := false) rfl).yd) (Emv rfl rfl (Es rfl (Es rfl (Es rfl (Es rfl (Ey rfl ((Y.pkt rfl rfl).yd) (Emv rfl rfl (Es rfl (Es rfl (Es rfl (Es rfl (Es rfl (Ey rfl ((Y.pkt rfl rfl).yd) (Emv rfl rfl ?_))))))))))))))
    refine Es rfl (Es rfl (Es rfl (Es rfl (Es rfl (Ey rfl ((Y.pkt rfl rfl).yd) (Emv rfl rfl (Es rfl (Es rfl (Es rfl (Es rfl (Es rfl (Es rfl (Ey rfl ((Y.pkt rfl rfl).yd) (Emv rfl rfl ?_))))))))))))))
    refine Es rfl (Es rfl (Es rfl (Es rfl (Es rfl (Es rfl (Ey rfl ((Y.pkt rfl rfl).yd) (Eu (E.ct rfl (Ew Z1 (Eas rfl rfl ?_))))))))))
    exact Eu (E.ret (E.thr (Fb rfl rfl (by exact (chk1 (q := (q_Head, q_Atoms)) q17).symm))))
end Go.Proofs.YtonkkkjgdohooaaGreat
