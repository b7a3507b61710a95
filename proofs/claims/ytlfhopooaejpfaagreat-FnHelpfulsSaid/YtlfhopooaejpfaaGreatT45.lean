import Derived.Test.YtlfhopooaejpfaaGreatT42
import Derived.Test.YtlfhopooaejpfaaGreatT43
namespace Go.Proofs.YtlfhopooaejpfaaGreat
open Go.RowKit
set_option linter.all false
set_option maxHeartbeats 2000000
attribute [local irreducible] Nop Yd Yp Ent Has Tr FnP FnP2 Src o6 d7 O0 a0h H2 H6
theorem a1e {a_l : Option Addr} {m_l c_l : Nat} {l : List (Int × List Int × Int × Int × Int)} {a_rules : Option Addr} {m_rules c_rules : Nat} {d4 : List (Int × Int × List Int)} {a_facts : Option Addr} {m_facts c_facts : Nat} {c6 : List (Int × List Int)} {a_seeds : Option Addr} {m_seeds c_seeds : Nat} {m6 : List Int} (hok : ∃ s, C0 s l = true ∧ C4 s d4 = true ∧ a0B s c6) (hz : m6.length ≤ 1048576) : Tr Tryz.prog 91 [.slice a_l m_l c_l, .slice a_rules m_rules c_rules, .slice a_facts m_facts c_facts, .slice a_seeds m_seeds c_seeds] (fun w L => Ro w L I4 [.slice a_l m_l c_l] l ∧ Ro w L G9 [.slice a_rules m_rules c_rules] d4 ∧ Ro w L s6 [.slice a_facts m_facts c_facts] c6 ∧ Ro w L eIs [.slice a_seeds m_seeds c_seeds] m6) [] (κ := Nat × (Option Addr × Nat × Nat) × (Option Addr × Nat × Nat) × (Option Addr × Nat × Nat) × (Option Addr × Nat × Nat)) (fun k => True) (fun k => .pointer (some ⟨k.1, 0, none⟩)) (fun k => [pt k.1 128 [.slice a_l m_l c_l, .slice a_rules m_rules c_rules, .slice a_facts m_facts c_facts, .slice k.2.1.1 k.2.1.2.1 k.2.1.2.2, .slice k.2.2.1.1 k.2.2.1.2.1 k.2.2.1.2.2, .slice k.2.2.2.1.1 k.2.2.2.1.2.1 k.2.2.2.1.2.2, .int .i64 0, .slice k.2.2.2.2.1 k.2.2.2.2.2.1 k.2.2.2.2.2.2], ow s6 [.slice k.2.1.1 k.2.1.2.1 k.2.1.2.2] ((H6 l d4 c6 m6).1), ow eIs [.slice k.2.2.1.1 k.2.2.1.2.1 k.2.2.1.2.2] ((H6 l d4 c6 m6).2.1), ow C5 [.slice k.2.2.2.1.1 k.2.2.2.1.2.1 k.2.2.2.1.2.2] ((H6 l d4 c6 m6).2.2.1), ow I1 [.slice k.2.2.2.2.1 k.2.2.2.2.2.1 k.2.2.2.2.2.2] ((H6 l d4 c6 m6).2.2.2)]) := by
 refine Tr.intro Tryz.func91 rfl (n := 20) rfl (by decide +kernel) bl (fr := [(0, .slice a_l m_l c_l), (1, .slice a_rules m_rules c_rules), (2, .slice a_facts m_facts c_facts), (3, .slice a_seeds m_seeds c_seeds)]) rfl fun w L hR => ?_
 obtain ⟨hl, hrules, hfacts, hseeds⟩ := hR
 obtain ⟨rfl, ll⟩ := hl.slen
 obtain ⟨rfl, lrules⟩ := hrules.slen
 obtain ⟨rfl, lfacts⟩ := hfacts.slen
 obtain ⟨rfl, lseeds⟩ := hseeds.slen
 obtain ⟨s0, hm0, hr0, hf0⟩ := hok
 refine Ew Z1 (Ei rfl (Ev Z8 (Em rfl (Em rfl (Em rfl (Em rfl (Est rfl (N.call (a8p fo) rfl rfl rfl dc rfl (fun w Lp hA => hA.ro hseeds)) (fun k14 _ => ?_))))))))
 obtain ⟨⟨a14_0, m14_0, c14_0⟩, ⟨a14_1, m14_1, c14_1⟩, ⟨a14_2, m14_2, c14_2⟩⟩ := k14
 refine d6 m0 fun e14_0 l14_0 => ?_
 subst e14_0
 refine d6 (mS m0) fun e14_1 l14_1 => ?_
 subst e14_1
 refine d6 (mS (mS m0)) fun e14_2 l14_2 => ?_
 subst e14_2
 refine Ey rfl ((I3 (pvs := [_, _, _, _]) (cs := [_, _, _, _, _, _, _, _]) ty_under pl_under rfl rfl).yd) (Est rfl (N.box (cs := [_, _, _, _, _, _, _, _]) rfl dc rfl) (fun b16 _ => (Ei rfl (Eu (Eq_ (E.block (d8 (f6 (congrArg (ow s6 [_]) (show ([] : List (Int × List Int)) = (uIt l d4 c6 m6 0).1 from by rfl)) (j7 (f6 (congrArg (ow eIs [_]) (show I2 (m6.filter (fun t => inR t 0 9)) = (uIt l d4 c6 m6 0).2.1 from by rfl)) (o2 (f6 (congrArg (ow C5 [_]) (show ([] : List (Int × List Int)) = (uIt l d4 c6 m6 0).2.2.1 from by rfl)) (s7 (A := []) (Own.nil (E := a0O) (e := tLine) (a := none)) rfl (f6 (congrArg (ow I1 [_]) (show [] = (uIt l d4 c6 m6 0).2.2.2 from by rfl)) (E.loop (κ := Nat × Option Addr × Nat × Nat × Option Addr × Nat × Nat × Option Addr × Nat × Nat × Option Addr × Nat × Nat) (fun n => n.1 ≤ 6000 ∧ gI s0 l d4 c6 m6 n.1 ∧ (uIt l d4 c6 m6 n.1).2.2.1.length ≤ 5000 * n.1) (fun n => [(9, .pointer (some ⟨b16, 0, none⟩))]) (fun n => [ow I1 [.slice n.2.2.2.2.2.2.2.2.2.2.1 n.2.2.2.2.2.2.2.2.2.2.2.1 n.2.2.2.2.2.2.2.2.2.2.2.2] ((uIt l d4 c6 m6 n.1).2.2.2), ow C5 [.slice n.2.2.2.2.2.2.2.1 n.2.2.2.2.2.2.2.2.1 n.2.2.2.2.2.2.2.2.2.1] ((uIt l d4 c6 m6 n.1).2.2.1), ow eIs [.slice n.2.2.2.2.1 n.2.2.2.2.2.1 n.2.2.2.2.2.2.1] ((uIt l d4 c6 m6 n.1).2.1), ow s6 [.slice n.2.1 n.2.2.1 n.2.2.2.1] ((uIt l d4 c6 m6 n.1).1), pt b16 128 [.slice a_l l.length c_l, .slice a_rules d4.length c_rules, .slice a_facts c6.length c_facts, .slice n.2.1 n.2.2.1 n.2.2.2.1, .slice n.2.2.2.2.1 n.2.2.2.2.2.1 n.2.2.2.2.2.2.1, .slice n.2.2.2.2.2.2.2.1 n.2.2.2.2.2.2.2.2.1 n.2.2.2.2.2.2.2.2.2.1, .int .i64 0, .slice n.2.2.2.2.2.2.2.2.2.2.1 n.2.2.2.2.2.2.2.2.2.2.2.1 n.2.2.2.2.2.2.2.2.2.2.2.2]]) (fun n => 6000 - n.1) (0, a14_0, (([] : List (Int × List Int))).length, c14_0, a14_1, (I2 (m6.filter (fun t => inR t 0 9))).length, c14_1, a14_2, (([] : List (Int × List Int))).length, c14_2, none, 0, 0) ⟨Nat.zero_le _, b4M, Nat.zero_le _⟩ ⟨rfl, trivial⟩ (.refl _) (fun n pn => ?_))))))))))))))))
 obtain ⟨n, aA0_0, mA0_0, cA0_0, aA0_1, mA0_1, cA0_1, aA0_2, mA0_2, cA0_2, aA0_3, mA0_3, cA0_3⟩ := n
 try dsimp only at pn
 try dsimp only
 obtain ⟨pk, pa⟩ := pn
 have pg0 := pa.1
 have pl0 := pa.2
 have pgl := b5u pg0
 have hu0 := pg0.1
 refine d6 (mS (mS (mS m0))) fun eaA0_0 laA0_0 => ?_
 subst eaA0_0
 refine d6 (mS (mS m0)) fun eaA0_1 laA0_1 => ?_
 subst eaA0_1
 refine d6 (mS m0) fun eaA0_2 laA0_2 => ?_
 subst eaA0_2
 refine d6 m0 fun eaA0_3 laA0_3 => ?_
 subst eaA0_3
 refine Eq_ (Ew Z2 (Em rfl (d8 (j7 (o2 (n0 (Est rfl (N.call (pre := [_, _, _, _, _]) (a7C ⟨s0, hm0, hr0, hf0, pg0.1⟩ (Nat.le_trans pl0 om) ⟨by omega, by omega⟩) rfl rfl rfl dc rfl (fun w Lp hA => ⟨hA.ro hl, hA.ro hrules, hA.ro hfacts⟩)) (fun k18 _ => ?_))))))))
 obtain ⟨⟨a18_0, m18_0, c18_0⟩, ⟨a18_1, m18_1, c18_1⟩, ⟨a18_2, m18_2, c18_2⟩, ⟨a18_3, m18_3, c18_3⟩⟩ := k18
 refine d6 m0 fun e18_0 l18_0 => ?_
 subst e18_0
 refine d6 (mS m0) fun e18_1 l18_1 => ?_
 subst e18_1
 refine d6 (mS (mS m0)) fun e18_2 l18_2 => ?_
 subst e18_2
 refine d6 (mS (mS (mS m0))) fun e18_3 l18_3 => ?_
 subst e18_3
 refine Ent.b (fun q18 => ?_) (fun q18 => ?_)
 ·have pg1 := b0G hm0 hr0 hf0 pg0 (by have zb : (decide (0 < (uO l (uIt l d4 c6 m6 n)).length) || decide ((uIt l d4 c6 m6 n).2.2.2.length < (uIt l d4 c6 m6 (n + 1)).2.2.2.length)) = true := q18; simpa using zb)
  have pg2 := b0h (n := n) hm0 hu0 pl0
  refine Eu (o0 rfl (f9 (Et (E.block (f9 (s8 (Et (f6 (congrArg (ow s6 [_]) (show (H0 l d4 c6 (((uIt l d4 c6 m6 n).1), ((uIt l d4 c6 m6 n).2.1), ((uIt l d4 c6 m6 n).2.2.1), ((uIt l d4 c6 m6 n).2.2.2))).1 = (uIt l d4 c6 m6 (n + 1)).1 from by rfl)) (d8 (f6 (congrArg (ow eIs [_]) (show (H0 l d4 c6 (((uIt l d4 c6 m6 n).1), ((uIt l d4 c6 m6 n).2.1), ((uIt l d4 c6 m6 n).2.2.1), ((uIt l d4 c6 m6 n).2.2.2))).2.1 = (uIt l d4 c6 m6 (n + 1)).2.1 from by rfl)) (j7 (f6 (congrArg (ow C5 [_]) (show (H0 l d4 c6 (((uIt l d4 c6 m6 n).1), ((uIt l d4 c6 m6 n).2.1), ((uIt l d4 c6 m6 n).2.2.1), ((uIt l d4 c6 m6 n).2.2.2))).2.2.1 = (uIt l d4 c6 m6 (n + 1)).2.2.1 from by rfl)) (o2 (f6 (congrArg (ow I1 [_]) (show (H0 l d4 c6 (((uIt l d4 c6 m6 n).1), ((uIt l d4 c6 m6 n).2.1), ((uIt l d4 c6 m6 n).2.2.1), ((uIt l d4 c6 m6 n).2.2.2))).2.2.2 = (uIt l d4 c6 m6 (n + 1)).2.2.2 from by rfl)) (n0 (n0 (n0 (n0 (n0 ?_)))))))))))))))))))
  exact B0 br (n + 1, a18_0, ((H0 l d4 c6 (((uIt l d4 c6 m6 n).1), ((uIt l d4 c6 m6 n).2.1), ((uIt l d4 c6 m6 n).2.2.1), ((uIt l d4 c6 m6 n).2.2.2))).1).length, c18_0, a18_1, ((H0 l d4 c6 (((uIt l d4 c6 m6 n).1), ((uIt l d4 c6 m6 n).2.1), ((uIt l d4 c6 m6 n).2.2.1), ((uIt l d4 c6 m6 n).2.2.2))).2.1).length, c18_1, a18_2, ((H0 l d4 c6 (((uIt l d4 c6 m6 n).1), ((uIt l d4 c6 m6 n).2.1), ((uIt l d4 c6 m6 n).2.2.1), ((uIt l d4 c6 m6 n).2.2.2))).2.2.1).length, c18_2, a18_3, ((H0 l d4 c6 (((uIt l d4 c6 m6 n).1), ((uIt l d4 c6 m6 n).2.1), ((uIt l d4 c6 m6 n).2.2.1), ((uIt l d4 c6 m6 n).2.2.2))).2.2.2).length, c18_3) ⟨rfl, trivial⟩ (.refl _) ⟨oz, (show gI s0 l d4 c6 m6 (n + 1) ∧ (uIt l d4 c6 m6 (n + 1)).2.2.1.length ≤ 5000 * (n + 1) from by exact ⟨pg1, pg2⟩)⟩ oz
 ·refine Eu (n8 rfl (E.exit (l3 (l3 (y4 (Et (Ew Z2 (Em rfl (Ei rfl (Eu (E.ret (o2 (f6 (congrArg (ow I1 [_]) (show (H0 l d4 c6 (((uIt l d4 c6 m6 n).1), ((uIt l d4 c6 m6 n).2.1), ((uIt l d4 c6 m6 n).2.2.1), ((uIt l d4 c6 m6 n).2.2.2))).2.2.2 = (H6 l d4 c6 m6).2.2.2 from by have zb : (decide (0 < (uO l (uIt l d4 c6 m6 n)).length) || decide ((uIt l d4 c6 m6 n).2.2.2.length < (uIt l d4 c6 m6 (n + 1)).2.2.2.length)) = false := q18; have zs := a6a hm0 hr0 hf0 pg0 (by simp at zb; omega); first | exact congrArg (fun z => z.1) zs | exact congrArg (fun z => z.2.1) zs | exact congrArg (fun z => z.2.2.1) zs | exact congrArg (fun z => z.2.2.2) zs)) (o2 (f6 (congrArg (ow C5 [_]) (show (H0 l d4 c6 (((uIt l d4 c6 m6 n).1), ((uIt l d4 c6 m6 n).2.1), ((uIt l d4 c6 m6 n).2.2.1), ((uIt l d4 c6 m6 n).2.2.2))).2.2.1 = (H6 l d4 c6 m6).2.2.1 from by have zb : (decide (0 < (uO l (uIt l d4 c6 m6 n)).length) || decide ((uIt l d4 c6 m6 n).2.2.2.length < (uIt l d4 c6 m6 (n + 1)).2.2.2.length)) = false := q18; have zs := a6a hm0 hr0 hf0 pg0 (by simp at zb; omega); first | exact congrArg (fun z => z.1) zs | exact congrArg (fun z => z.2.1) zs | exact congrArg (fun z => z.2.2.1) zs | exact congrArg (fun z => z.2.2.2) zs)) (o2 (f6 (congrArg (ow eIs [_]) (show (H0 l d4 c6 (((uIt l d4 c6 m6 n).1), ((uIt l d4 c6 m6 n).2.1), ((uIt l d4 c6 m6 n).2.2.1), ((uIt l d4 c6 m6 n).2.2.2))).2.1 = (H6 l d4 c6 m6).2.1 from by have zb : (decide (0 < (uO l (uIt l d4 c6 m6 n)).length) || decide ((uIt l d4 c6 m6 n).2.2.2.length < (uIt l d4 c6 m6 (n + 1)).2.2.2.length)) = false := q18; have zs := a6a hm0 hr0 hf0 pg0 (by simp at zb; omega); first | exact congrArg (fun z => z.1) zs | exact congrArg (fun z => z.2.1) zs | exact congrArg (fun z => z.2.2.1) zs | exact congrArg (fun z => z.2.2.2) zs)) (o2 (f6 (congrArg (ow s6 [_]) (show (H0 l d4 c6 (((uIt l d4 c6 m6 n).1), ((uIt l d4 c6 m6 n).2.1), ((uIt l d4 c6 m6 n).2.2.1), ((uIt l d4 c6 m6 n).2.2.2))).1 = (H6 l d4 c6 m6).1 from by have zb : (decide (0 < (uO l (uIt l d4 c6 m6 n)).length) || decide ((uIt l d4 c6 m6 n).2.2.2.length < (uIt l d4 c6 m6 (n + 1)).2.2.2.length)) = false := q18; have zs := a6a hm0 hr0 hf0 pg0 (by simp at zb; omega); first | exact congrArg (fun z => z.1) zs | exact congrArg (fun z => z.2.1) zs | exact congrArg (fun z => z.2.2.1) zs | exact congrArg (fun z => z.2.2.2) zs)) (o2 (o2 (o2 (o2 (n0 ?_))))))))))))))))))))))))
  exact Fg rfl rfl (b16, (_, _, _), (_, _, _), (_, _, _), (_, _, _)) rfl rfl
end Go.Proofs.YtlfhopooaejpfaaGreat
