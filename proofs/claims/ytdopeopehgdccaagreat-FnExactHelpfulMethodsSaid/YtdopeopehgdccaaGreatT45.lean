import Derived.Test.YtdopeopehgdccaaGreatBs
import Derived.Test.YtdopeopehgdccaaGreatT42
import Derived.Test.YtdopeopehgdccaaGreatT43
namespace Go.Proofs.YtdopeopehgdccaaGreat
open Go.RowKit
set_option linter.all false
set_option maxHeartbeats 2000000
attribute [local irreducible] Nop Yd Yp Ent Has Tr FnP FnP2 Src j7 d7 J2 Y5 E0 C6
theorem W7 {a_l : Option Addr} {m_l c_l : Nat} {l : List (Int × List Int × Int × Int × Int)} {a_rules : Option Addr} {m_rules c_rules : Nat} {d8 : List (Int × Int × List Int)} {a_facts : Option Addr} {m_facts c_facts : Nat} {d6 : List (Int × List Int)} {a_seeds : Option Addr} {m_seeds c_seeds : Nat} {j8 : List Int} (hok : ∃ s, x8 s l = true ∧ x7 s d8 = true ∧ X2 s d6) (hz : j8.length ≤ 1048576) : Tr Tryz.prog 194 [.slice a_l m_l c_l, .slice a_rules m_rules c_rules, .slice a_facts m_facts c_facts, .slice a_seeds m_seeds c_seeds] (fun w L => Ro w L D3 [.slice a_l m_l c_l] l ∧ Ro w L G1 [.slice a_rules m_rules c_rules] d8 ∧ Ro w L j6 [.slice a_facts m_facts c_facts] d6 ∧ Ro w L eIs [.slice a_seeds m_seeds c_seeds] j8) [] (κ := Nat × (Option Addr × Nat × Nat) × (Option Addr × Nat × Nat) × (Option Addr × Nat × Nat) × (Option Addr × Nat × Nat)) (fun k => True) (fun k => .pointer (some ⟨k.1, 0, none⟩)) (fun k => [pt k.1 220 [.slice a_l m_l c_l, .slice a_rules m_rules c_rules, .slice a_facts m_facts c_facts, .slice k.2.1.1 k.2.1.2.1 k.2.1.2.2, .slice k.2.2.1.1 k.2.2.1.2.1 k.2.2.1.2.2, .slice k.2.2.2.1.1 k.2.2.2.1.2.1 k.2.2.2.1.2.2, .int .i64 0, .slice k.2.2.2.2.1 k.2.2.2.2.2.1 k.2.2.2.2.2.2], ow j6 [.slice k.2.1.1 k.2.1.2.1 k.2.1.2.2] ((C6 l d8 d6 j8).1), ow eIs [.slice k.2.2.1.1 k.2.2.1.2.1 k.2.2.1.2.2] ((C6 l d8 d6 j8).2.1), ow u6 [.slice k.2.2.2.1.1 k.2.2.2.1.2.1 k.2.2.2.1.2.2] ((C6 l d8 d6 j8).2.2.1), ow C8 [.slice k.2.2.2.2.1 k.2.2.2.2.2.1 k.2.2.2.2.2.2] ((C6 l d8 d6 j8).2.2.2)]) := by
 refine Tr.intro Tryz.func194 rfl (n := 20) rfl (by decide +kernel) bl (fr := [(0, .slice a_l m_l c_l), (1, .slice a_rules m_rules c_rules), (2, .slice a_facts m_facts c_facts), (3, .slice a_seeds m_seeds c_seeds)]) rfl fun w L hR => ?_
 obtain ⟨hl, hrules, hfacts, hseeds⟩ := hR
 obtain ⟨rfl, ll⟩ := hl.slen
 obtain ⟨rfl, lrules⟩ := hrules.slen
 obtain ⟨rfl, lfacts⟩ := hfacts.slen
 obtain ⟨rfl, lseeds⟩ := hseeds.slen
 obtain ⟨s0, hm0, hr0, hf0⟩ := hok
 refine Ew Z1 (Eas rfl rfl (Ev Z8 (Emv rfl rfl (Emv rfl rfl (Emv rfl rfl (Emv rfl rfl (Est rfl (N.call (a5N fo) rfl rfl rfl dc rfl (fun w Lp hA => hA.ro hseeds)) (fun k14 _ => ?_))))))))
 obtain ⟨⟨a14_0, m14_0, c14_0⟩, ⟨a14_1, m14_1, c14_1⟩, ⟨a14_2, m14_2, c14_2⟩⟩ := k14
 refine Ent.lenow m0 fun e14_0 l14_0 => ?_
 subst e14_0
 refine Ent.lenow (mS m0) fun e14_1 l14_1 => ?_
 subst e14_1
 refine Ent.lenow (mS (mS m0)) fun e14_2 l14_2 => ?_
 subst e14_2
 refine Ey rfl ((Y.bld (pvs := [_, _, _, _]) (cs := [_, _, _, _, _, _, _, _]) ty_under pl_under rfl rfl).yd) (Est rfl (N.box (cs := [_, _, _, _, _, _, _, _]) rfl dc rfl) (fun b16 _ => (Eas rfl rfl (Eu (Eq_ (E.block (Ent.p1 (Ent.cv (congrArg (ow j6 [_]) (show ([] : List (Int × List Int)) = (uIt l d8 d6 j8 0).1 from by rfl)) (Ent.p2 (Ent.cv (congrArg (ow eIs [_]) (show D4 (j8.filter (fun t => inR t 0 9)) = (uIt l d8 d6 j8 0).2.1 from by rfl)) (Ent.p3 (Ent.cv (congrArg (ow u6 [_]) (show ([] : List (Int × List Int)) = (uIt l d8 d6 j8 0).2.2.1 from by rfl)) (Ent.mkow (A := []) (Own.nil (E := V4) (e := tLine) (a := none)) rfl (Ent.cv (congrArg (ow C8 [_]) (show [] = (uIt l d8 d6 j8 0).2.2.2 from by rfl)) (E.loop (κ := Nat × Option Addr × Nat × Nat × Option Addr × Nat × Nat × Option Addr × Nat × Nat × Option Addr × Nat × Nat) (fun n => n.1 ≤ 6000 ∧ gI s0 l d8 d6 j8 n.1 ∧ (uIt l d8 d6 j8 n.1).2.2.1.length ≤ 5000 * n.1) (fun n => [(9, .pointer (some ⟨b16, 0, none⟩))]) (fun n => [ow C8 [.slice n.2.2.2.2.2.2.2.2.2.2.1 n.2.2.2.2.2.2.2.2.2.2.2.1 n.2.2.2.2.2.2.2.2.2.2.2.2] ((uIt l d8 d6 j8 n.1).2.2.2), ow u6 [.slice n.2.2.2.2.2.2.2.1 n.2.2.2.2.2.2.2.2.1 n.2.2.2.2.2.2.2.2.2.1] ((uIt l d8 d6 j8 n.1).2.2.1), ow eIs [.slice n.2.2.2.2.1 n.2.2.2.2.2.1 n.2.2.2.2.2.2.1] ((uIt l d8 d6 j8 n.1).2.1), ow j6 [.slice n.2.1 n.2.2.1 n.2.2.2.1] ((uIt l d8 d6 j8 n.1).1), pt b16 220 [.slice a_l l.length c_l, .slice a_rules d8.length c_rules, .slice a_facts d6.length c_facts, .slice n.2.1 n.2.2.1 n.2.2.2.1, .slice n.2.2.2.2.1 n.2.2.2.2.2.1 n.2.2.2.2.2.2.1, .slice n.2.2.2.2.2.2.2.1 n.2.2.2.2.2.2.2.2.1 n.2.2.2.2.2.2.2.2.2.1, .int .i64 0, .slice n.2.2.2.2.2.2.2.2.2.2.1 n.2.2.2.2.2.2.2.2.2.2.2.1 n.2.2.2.2.2.2.2.2.2.2.2.2]]) (fun n => 6000 - n.1) (0, a14_0, (([] : List (Int × List Int))).length, c14_0, a14_1, (D4 (j8.filter (fun t => inR t 0 9))).length, c14_1, a14_2, (([] : List (Int × List Int))).length, c14_2, none, 0, 0) ⟨Nat.zero_le _, b0Q, Nat.zero_le _⟩ ⟨rfl, trivial⟩ (.refl _) (fun n pn => ?_))))))))))))))))
 obtain ⟨n, aA0_0, mA0_0, cA0_0, aA0_1, mA0_1, cA0_1, aA0_2, mA0_2, cA0_2, aA0_3, mA0_3, cA0_3⟩ := n
 try dsimp only at pn
 try dsimp only
 obtain ⟨pk, pa⟩ := pn
 have pg0 := pa.1
 have pl0 := pa.2
 have pgl := b1n pg0
 have hu0 := pg0.1
 refine Ent.lenow (mS (mS (mS m0))) fun eaA0_0 laA0_0 => ?_
 subst eaA0_0
 refine Ent.lenow (mS (mS m0)) fun eaA0_1 laA0_1 => ?_
 subst eaA0_1
 refine Ent.lenow (mS m0) fun eaA0_2 laA0_2 => ?_
 subst eaA0_2
 refine Ent.lenow m0 fun eaA0_3 laA0_3 => ?_
 subst eaA0_3
 refine Eq_ (Ew Z2 (Emv rfl rfl (Ent.p1 (Ent.p2 (Ent.p3 (Ent.p4 (Est rfl (N.call (pre := [_, _, _, _, _]) (a5f ⟨s0, hm0, hr0, hf0, pg0.1⟩ (Nat.le_trans pl0 om) ⟨by omega, by omega⟩) rfl rfl rfl dc rfl (fun w Lp hA => ⟨hA.ro hl, hA.ro hrules, hA.ro hfacts⟩)) (fun k18 _ => ?_))))))))
 obtain ⟨⟨a18_0, m18_0, c18_0⟩, ⟨a18_1, m18_1, c18_1⟩, ⟨a18_2, m18_2, c18_2⟩, ⟨a18_3, m18_3, c18_3⟩⟩ := k18
 refine Ent.lenow m0 fun e18_0 l18_0 => ?_
 subst e18_0
 refine Ent.lenow (mS m0) fun e18_1 l18_1 => ?_
 subst e18_1
 refine Ent.lenow (mS (mS m0)) fun e18_2 l18_2 => ?_
 subst e18_2
 refine Ent.lenow (mS (mS (mS m0))) fun e18_3 l18_3 => ?_
 subst e18_3
 refine Ent.b (fun q18 => ?_) (fun q18 => ?_)
 ·have pg1 := a7D hm0 hr0 hf0 pg0 (by have zb : (decide (0 < (uO l (uIt l d8 d6 j8 n)).length) || decide ((uIt l d8 d6 j8 n).2.2.2.length < (uIt l d8 d6 j8 (n + 1)).2.2.2.length)) = true := q18; simpa using zb)
  have pg2 := a7C (n := n) hm0 hu0 pl0
  refine Eu (E.ct rfl (E.skipc (Et (E.block (E.skipc (E.bln (Et (Ent.cv (congrArg (ow j6 [_]) (show (C7 l d8 d6 (((uIt l d8 d6 j8 n).1), ((uIt l d8 d6 j8 n).2.1), ((uIt l d8 d6 j8 n).2.2.1), ((uIt l d8 d6 j8 n).2.2.2))).1 = (uIt l d8 d6 j8 (n + 1)).1 from by rfl)) (Ent.p1 (Ent.cv (congrArg (ow eIs [_]) (show (C7 l d8 d6 (((uIt l d8 d6 j8 n).1), ((uIt l d8 d6 j8 n).2.1), ((uIt l d8 d6 j8 n).2.2.1), ((uIt l d8 d6 j8 n).2.2.2))).2.1 = (uIt l d8 d6 j8 (n + 1)).2.1 from by rfl)) (Ent.p2 (Ent.cv (congrArg (ow u6 [_]) (show (C7 l d8 d6 (((uIt l d8 d6 j8 n).1), ((uIt l d8 d6 j8 n).2.1), ((uIt l d8 d6 j8 n).2.2.1), ((uIt l d8 d6 j8 n).2.2.2))).2.2.1 = (uIt l d8 d6 j8 (n + 1)).2.2.1 from by rfl)) (Ent.p3 (Ent.cv (congrArg (ow C8 [_]) (show (C7 l d8 d6 (((uIt l d8 d6 j8 n).1), ((uIt l d8 d6 j8 n).2.1), ((uIt l d8 d6 j8 n).2.2.1), ((uIt l d8 d6 j8 n).2.2.2))).2.2.2 = (uIt l d8 d6 j8 (n + 1)).2.2.2 from by rfl)) (Ent.p4 (Ent.p4 (Ent.p4 (Ent.p4 (Ent.p4 ?_)))))))))))))))))))
  exact E.again br (n + 1, a18_0, ((C7 l d8 d6 (((uIt l d8 d6 j8 n).1), ((uIt l d8 d6 j8 n).2.1), ((uIt l d8 d6 j8 n).2.2.1), ((uIt l d8 d6 j8 n).2.2.2))).1).length, c18_0, a18_1, ((C7 l d8 d6 (((uIt l d8 d6 j8 n).1), ((uIt l d8 d6 j8 n).2.1), ((uIt l d8 d6 j8 n).2.2.1), ((uIt l d8 d6 j8 n).2.2.2))).2.1).length, c18_1, a18_2, ((C7 l d8 d6 (((uIt l d8 d6 j8 n).1), ((uIt l d8 d6 j8 n).2.1), ((uIt l d8 d6 j8 n).2.2.1), ((uIt l d8 d6 j8 n).2.2.2))).2.2.1).length, c18_2, a18_3, ((C7 l d8 d6 (((uIt l d8 d6 j8 n).1), ((uIt l d8 d6 j8 n).2.1), ((uIt l d8 d6 j8 n).2.2.1), ((uIt l d8 d6 j8 n).2.2.2))).2.2.2).length, c18_3) ⟨rfl, trivial⟩ (.refl _) ⟨oz, (show gI s0 l d8 d6 j8 (n + 1) ∧ (uIt l d8 d6 j8 (n + 1)).2.2.1.length ≤ 5000 * (n + 1) from by exact ⟨pg1, pg2⟩)⟩ oz
 ·refine Eu (E.cf rfl (E.exit (E.the (E.the (E.blh (Et (Ew Z2 (Emv rfl rfl (Eas rfl rfl (Eu (E.ret (Ent.p3 (Ent.cv (congrArg (ow C8 [_]) (show (C7 l d8 d6 (((uIt l d8 d6 j8 n).1), ((uIt l d8 d6 j8 n).2.1), ((uIt l d8 d6 j8 n).2.2.1), ((uIt l d8 d6 j8 n).2.2.2))).2.2.2 = (C6 l d8 d6 j8).2.2.2 from by have zb : (decide (0 < (uO l (uIt l d8 d6 j8 n)).length) || decide ((uIt l d8 d6 j8 n).2.2.2.length < (uIt l d8 d6 j8 (n + 1)).2.2.2.length)) = false := q18; have zs := a3X hm0 hr0 hf0 pg0 (by simp at zb; omega); first | exact congrArg (fun z => z.1) zs | exact congrArg (fun z => z.2.1) zs | exact congrArg (fun z => z.2.2.1) zs | exact congrArg (fun z => z.2.2.2) zs)) (Ent.p3 (Ent.cv (congrArg (ow u6 [_]) (show (C7 l d8 d6 (((uIt l d8 d6 j8 n).1), ((uIt l d8 d6 j8 n).2.1), ((uIt l d8 d6 j8 n).2.2.1), ((uIt l d8 d6 j8 n).2.2.2))).2.2.1 = (C6 l d8 d6 j8).2.2.1 from by have zb : (decide (0 < (uO l (uIt l d8 d6 j8 n)).length) || decide ((uIt l d8 d6 j8 n).2.2.2.length < (uIt l d8 d6 j8 (n + 1)).2.2.2.length)) = false := q18; have zs := a3X hm0 hr0 hf0 pg0 (by simp at zb; omega); first | exact congrArg (fun z => z.1) zs | exact congrArg (fun z => z.2.1) zs | exact congrArg (fun z => z.2.2.1) zs | exact congrArg (fun z => z.2.2.2) zs)) (Ent.p3 (Ent.cv (congrArg (ow eIs [_]) (show (C7 l d8 d6 (((uIt l d8 d6 j8 n).1), ((uIt l d8 d6 j8 n).2.1), ((uIt l d8 d6 j8 n).2.2.1), ((uIt l d8 d6 j8 n).2.2.2))).2.1 = (C6 l d8 d6 j8).2.1 from by have zb : (decide (0 < (uO l (uIt l d8 d6 j8 n)).length) || decide ((uIt l d8 d6 j8 n).2.2.2.length < (uIt l d8 d6 j8 (n + 1)).2.2.2.length)) = false := q18; have zs := a3X hm0 hr0 hf0 pg0 (by simp at zb; omega); first | exact congrArg (fun z => z.1) zs | exact congrArg (fun z => z.2.1) zs | exact congrArg (fun z => z.2.2.1) zs | exact congrArg (fun z => z.2.2.2) zs)) (Ent.p3 (Ent.cv (congrArg (ow j6 [_]) (show (C7 l d8 d6 (((uIt l d8 d6 j8 n).1), ((uIt l d8 d6 j8 n).2.1), ((uIt l d8 d6 j8 n).2.2.1), ((uIt l d8 d6 j8 n).2.2.2))).1 = (C6 l d8 d6 j8).1 from by have zb : (decide (0 < (uO l (uIt l d8 d6 j8 n)).length) || decide ((uIt l d8 d6 j8 n).2.2.2.length < (uIt l d8 d6 j8 (n + 1)).2.2.2.length)) = false := q18; have zs := a3X hm0 hr0 hf0 pg0 (by simp at zb; omega); first | exact congrArg (fun z => z.1) zs | exact congrArg (fun z => z.2.1) zs | exact congrArg (fun z => z.2.2.1) zs | exact congrArg (fun z => z.2.2.2) zs)) (Ent.p3 (Ent.p3 (Ent.p3 (Ent.p3 (Ent.p4 ?_))))))))))))))))))))))))
  exact Fg rfl rfl (b16, (_, _, _), (_, _, _), (_, _, _), (_, _, _)) rfl rfl
end Go.Proofs.YtdopeopehgdccaaGreat
