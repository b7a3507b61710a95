import Derived.Test.YthapcdhdfaibkaaGreatDoorT42
import Derived.Test.YthapcdhdfaibkaaGreatDoorT43
namespace Go.Proofs.YthapcdhdfaibkaaGreatDoor
open Go.RowKit
set_option linter.all false
set_option maxHeartbeats 2000000
attribute [local irreducible] Nop Yd Yp Ent Has Tr FnP FnP2 Src o2 c8 N0 a0b E6 B2
variable {d4 : List (Int × Int × List Int)} {l : List (Int × List Int × Int × Int × Int)} {a8 : List (Int × List Int)} {d6 s : List Int} {m_l c_l m_rules c_rules m_facts c_facts m_seeds c_seeds m_s c_s : Nat} {a_l a_rules a_facts a_seeds a_s : Option Addr}
theorem a3O (hok : ∃ s, B3 s l = true ∧ B7 s d4 = true ∧ a0t s a8) (hz : d6.length ≤ 1048576) : Tr Tryz.prog 157 [.slice a_l m_l c_l, .slice a_rules m_rules c_rules, .slice a_facts m_facts c_facts, .slice a_seeds m_seeds c_seeds] (fun w L => Ro w L F5 [.slice a_l m_l c_l] l ∧ Ro w L J9 [.slice a_rules m_rules c_rules] d4 ∧ Ro w L m8 [.slice a_facts m_facts c_facts] a8 ∧ Ro w L eIs [.slice a_seeds m_seeds c_seeds] d6) [] (κ := Nat × (Option Addr × Nat × Nat) × (Option Addr × Nat × Nat) × (Option Addr × Nat × Nat) × (Option Addr × Nat × Nat)) (fun k => True) (fun k => .pointer (some ⟨k.1, 0, none⟩)) (fun k => [pt k.1 177 [.slice a_l m_l c_l, .slice a_rules m_rules c_rules, .slice a_facts m_facts c_facts, .slice k.2.1.1 k.2.1.2.1 k.2.1.2.2, .slice k.2.2.1.1 k.2.2.1.2.1 k.2.2.1.2.2, .slice k.2.2.2.1.1 k.2.2.2.1.2.1 k.2.2.2.1.2.2, .int .i64 0, .slice k.2.2.2.2.1 k.2.2.2.2.2.1 k.2.2.2.2.2.2], ow m8 [.slice k.2.1.1 k.2.1.2.1 k.2.1.2.2] ((B2 l d4 a8 d6).1), ow eIs [.slice k.2.2.1.1 k.2.2.1.2.1 k.2.2.1.2.2] ((B2 l d4 a8 d6).2.1), ow w5 [.slice k.2.2.2.1.1 k.2.2.2.1.2.1 k.2.2.2.1.2.2] ((B2 l d4 a8 d6).2.2.1), ow B6 [.slice k.2.2.2.2.1 k.2.2.2.2.2.1 k.2.2.2.2.2.2] ((B2 l d4 a8 d6).2.2.2)]) := by
 refine Tr.intro Tryz.func157 rfl (n := 20) rfl (by decide +kernel) bl (fr := [(0, .slice a_l m_l c_l), (1, .slice a_rules m_rules c_rules), (2, .slice a_facts m_facts c_facts), (3, .slice a_seeds m_seeds c_seeds)]) rfl fun w L hR => ?_
 obtain ⟨hl, hrules, hfacts, hseeds⟩ := hR
 obtain ⟨rfl, ll⟩ := hl.slen
 obtain ⟨rfl, lrules⟩ := hrules.slen
 obtain ⟨rfl, lfacts⟩ := hfacts.slen
 obtain ⟨rfl, lseeds⟩ := hseeds.slen
 obtain ⟨s0, hm0, hr0, hf0⟩ := hok
 refine Ew Z1 (Ei rfl (Ev Z8 (Em rfl (Em rfl (Em rfl (Em rfl (Est rfl (N.call (a7s fo) rfl rfl rfl dc rfl (fun w Lp hA => hA.ro hseeds)) (fun k14 _ => ?_))))))))
 obtain ⟨⟨a14_0, m14_0, c14_0⟩, ⟨a14_1, m14_1, c14_1⟩, ⟨a14_2, m14_2, c14_2⟩⟩ := k14
 refine d7 m0 fun e14_0 l14_0 => ?_
 subst e14_0
 refine d7 (mS m0) fun e14_1 l14_1 => ?_
 subst e14_1
 refine d7 (mS (mS m0)) fun e14_2 l14_2 => ?_
 subst e14_2
 refine Ey rfl ((I2 (pvs := [_, _, _, _]) (cs := [_, _, _, _, _, _, _, _]) ty_under pl_under rfl rfl).yd) (Est rfl (N.box (cs := [_, _, _, _, _, _, _, _]) rfl dc rfl) (fun b16 _ => (Ei rfl (Eu (Eq_ (E.block (d9 (j4 (congrArg (ow m8 [_]) (show ([] : List (Int × List Int)) = (uIt l d4 a8 d6 0).1 from by rfl)) (j8 (j4 (congrArg (ow eIs [_]) (show H6 (d6.filter (fun t => inR t 0 9)) = (uIt l d4 a8 d6 0).2.1 from by rfl)) (o4 (j4 (congrArg (ow w5 [_]) (show ([] : List (Int × List Int)) = (uIt l d4 a8 d6 0).2.2.1 from by rfl)) (u9 (A := []) (Own.nil (E := S8) (e := tLine) (a := none)) rfl (j4 (congrArg (ow B6 [_]) (show [] = (uIt l d4 a8 d6 0).2.2.2 from by rfl)) (E.loop (κ := Nat × Option Addr × Nat × Nat × Option Addr × Nat × Nat × Option Addr × Nat × Nat × Option Addr × Nat × Nat) (fun n => n.1 ≤ 6000 ∧ gI s0 l d4 a8 d6 n.1 ∧ (uIt l d4 a8 d6 n.1).2.2.1.length ≤ 5000 * n.1) (fun n => [(9, .pointer (some ⟨b16, 0, none⟩))]) (fun n => [ow B6 [.slice n.2.2.2.2.2.2.2.2.2.2.1 n.2.2.2.2.2.2.2.2.2.2.2.1 n.2.2.2.2.2.2.2.2.2.2.2.2] ((uIt l d4 a8 d6 n.1).2.2.2), ow w5 [.slice n.2.2.2.2.2.2.2.1 n.2.2.2.2.2.2.2.2.1 n.2.2.2.2.2.2.2.2.2.1] ((uIt l d4 a8 d6 n.1).2.2.1), ow eIs [.slice n.2.2.2.2.1 n.2.2.2.2.2.1 n.2.2.2.2.2.2.1] ((uIt l d4 a8 d6 n.1).2.1), ow m8 [.slice n.2.1 n.2.2.1 n.2.2.2.1] ((uIt l d4 a8 d6 n.1).1), pt b16 177 [.slice a_l l.length c_l, .slice a_rules d4.length c_rules, .slice a_facts a8.length c_facts, .slice n.2.1 n.2.2.1 n.2.2.2.1, .slice n.2.2.2.2.1 n.2.2.2.2.2.1 n.2.2.2.2.2.2.1, .slice n.2.2.2.2.2.2.2.1 n.2.2.2.2.2.2.2.2.1 n.2.2.2.2.2.2.2.2.2.1, .int .i64 0, .slice n.2.2.2.2.2.2.2.2.2.2.1 n.2.2.2.2.2.2.2.2.2.2.2.1 n.2.2.2.2.2.2.2.2.2.2.2.2]]) (fun n => 6000 - n.1) (0, a14_0, (([] : List (Int × List Int))).length, c14_0, a14_1, (H6 (d6.filter (fun t => inR t 0 9))).length, c14_1, a14_2, (([] : List (Int × List Int))).length, c14_2, none, 0, 0) ⟨Nat.zero_le _, b2o, Nat.zero_le _⟩ ⟨rfl, trivial⟩ (.refl _) (fun n pn => ?_))))))))))))))))
 obtain ⟨n, aA0_0, mA0_0, cA0_0, aA0_1, mA0_1, cA0_1, aA0_2, mA0_2, cA0_2, aA0_3, mA0_3, cA0_3⟩ := n
 try dsimp only at pn
 try dsimp only
 obtain ⟨pk, pa⟩ := pn
 have pg0 := pa.1
 have pl0 := pa.2
 have pgl := b3A pg0
 have hu0 := pg0.1
 refine d7 (mS (mS (mS m0))) fun eaA0_0 laA0_0 => ?_
 subst eaA0_0
 refine d7 (mS (mS m0)) fun eaA0_1 laA0_1 => ?_
 subst eaA0_1
 refine d7 (mS m0) fun eaA0_2 laA0_2 => ?_
 subst eaA0_2
 refine d7 m0 fun eaA0_3 laA0_3 => ?_
 subst eaA0_3
 refine Eq_ (Ew Z2 (Em rfl (d9 (j8 (o4 (j9 (Est rfl (N.call (pre := [_, _, _, _, _]) (a6P ⟨s0, hm0, hr0, hf0, pg0.1⟩ (Nat.le_trans pl0 om) ⟨by omega, by omega⟩) rfl rfl rfl dc rfl (fun w Lp hA => ⟨hA.ro hl, hA.ro hrules, hA.ro hfacts⟩)) (fun k18 _ => ?_))))))))
 obtain ⟨⟨a18_0, m18_0, c18_0⟩, ⟨a18_1, m18_1, c18_1⟩, ⟨a18_2, m18_2, c18_2⟩, ⟨a18_3, m18_3, c18_3⟩⟩ := k18
 refine d7 m0 fun e18_0 l18_0 => ?_
 subst e18_0
 refine d7 (mS m0) fun e18_1 l18_1 => ?_
 subst e18_1
 refine d7 (mS (mS m0)) fun e18_2 l18_2 => ?_
 subst e18_2
 refine d7 (mS (mS (mS m0))) fun e18_3 l18_3 => ?_
 subst e18_3
 refine Ent.b (fun q18 => ?_) (fun q18 => ?_)
 ·have pg1 := a9v hm0 hr0 hf0 pg0 (by have zb : (decide (0 < (uO l (uIt l d4 a8 d6 n)).length) || decide ((uIt l d4 a8 d6 n).2.2.2.length < (uIt l d4 a8 d6 (n + 1)).2.2.2.length)) = true := q18; simpa using zb)
  have pg2 := a9z (n := n) hm0 hu0 pl0
  refine Eu (n8 rfl (i7 (Et (E.block (i7 (s9 (Et (j4 (congrArg (ow m8 [_]) (show (E8 l d4 a8 (((uIt l d4 a8 d6 n).1), ((uIt l d4 a8 d6 n).2.1), ((uIt l d4 a8 d6 n).2.2.1), ((uIt l d4 a8 d6 n).2.2.2))).1 = (uIt l d4 a8 d6 (n + 1)).1 from by rfl)) (d9 (j4 (congrArg (ow eIs [_]) (show (E8 l d4 a8 (((uIt l d4 a8 d6 n).1), ((uIt l d4 a8 d6 n).2.1), ((uIt l d4 a8 d6 n).2.2.1), ((uIt l d4 a8 d6 n).2.2.2))).2.1 = (uIt l d4 a8 d6 (n + 1)).2.1 from by rfl)) (j8 (j4 (congrArg (ow w5 [_]) (show (E8 l d4 a8 (((uIt l d4 a8 d6 n).1), ((uIt l d4 a8 d6 n).2.1), ((uIt l d4 a8 d6 n).2.2.1), ((uIt l d4 a8 d6 n).2.2.2))).2.2.1 = (uIt l d4 a8 d6 (n + 1)).2.2.1 from by rfl)) (o4 (j4 (congrArg (ow B6 [_]) (show (E8 l d4 a8 (((uIt l d4 a8 d6 n).1), ((uIt l d4 a8 d6 n).2.1), ((uIt l d4 a8 d6 n).2.2.1), ((uIt l d4 a8 d6 n).2.2.2))).2.2.2 = (uIt l d4 a8 d6 (n + 1)).2.2.2 from by rfl)) (j9 (j9 (j9 (j9 (j9 ?_)))))))))))))))))))
  exact x6 br (n + 1, a18_0, ((E8 l d4 a8 (((uIt l d4 a8 d6 n).1), ((uIt l d4 a8 d6 n).2.1), ((uIt l d4 a8 d6 n).2.2.1), ((uIt l d4 a8 d6 n).2.2.2))).1).length, c18_0, a18_1, ((E8 l d4 a8 (((uIt l d4 a8 d6 n).1), ((uIt l d4 a8 d6 n).2.1), ((uIt l d4 a8 d6 n).2.2.1), ((uIt l d4 a8 d6 n).2.2.2))).2.1).length, c18_1, a18_2, ((E8 l d4 a8 (((uIt l d4 a8 d6 n).1), ((uIt l d4 a8 d6 n).2.1), ((uIt l d4 a8 d6 n).2.2.1), ((uIt l d4 a8 d6 n).2.2.2))).2.2.1).length, c18_2, a18_3, ((E8 l d4 a8 (((uIt l d4 a8 d6 n).1), ((uIt l d4 a8 d6 n).2.1), ((uIt l d4 a8 d6 n).2.2.1), ((uIt l d4 a8 d6 n).2.2.2))).2.2.2).length, c18_3) ⟨rfl, trivial⟩ (.refl _) ⟨oz, (show gI s0 l d4 a8 d6 (n + 1) ∧ (uIt l d4 a8 d6 (n + 1)).2.2.1.length ≤ 5000 * (n + 1) from by exact ⟨pg1, pg2⟩)⟩ oz
 ·refine Eu (o0 rfl (E.exit (q1 (q1 (y4 (Et (Ew Z2 (Em rfl (Ei rfl (Eu (E.ret (o4 (j4 (congrArg (ow B6 [_]) (show (E8 l d4 a8 (((uIt l d4 a8 d6 n).1), ((uIt l d4 a8 d6 n).2.1), ((uIt l d4 a8 d6 n).2.2.1), ((uIt l d4 a8 d6 n).2.2.2))).2.2.2 = (B2 l d4 a8 d6).2.2.2 from by have zb : (decide (0 < (uO l (uIt l d4 a8 d6 n)).length) || decide ((uIt l d4 a8 d6 n).2.2.2.length < (uIt l d4 a8 d6 (n + 1)).2.2.2.length)) = false := q18; have zs := a5g hm0 hr0 hf0 pg0 (by simp at zb; omega); first | exact congrArg (fun z => z.1) zs | exact congrArg (fun z => z.2.1) zs | exact congrArg (fun z => z.2.2.1) zs | exact congrArg (fun z => z.2.2.2) zs)) (o4 (j4 (congrArg (ow w5 [_]) (show (E8 l d4 a8 (((uIt l d4 a8 d6 n).1), ((uIt l d4 a8 d6 n).2.1), ((uIt l d4 a8 d6 n).2.2.1), ((uIt l d4 a8 d6 n).2.2.2))).2.2.1 = (B2 l d4 a8 d6).2.2.1 from by have zb : (decide (0 < (uO l (uIt l d4 a8 d6 n)).length) || decide ((uIt l d4 a8 d6 n).2.2.2.length < (uIt l d4 a8 d6 (n + 1)).2.2.2.length)) = false := q18; have zs := a5g hm0 hr0 hf0 pg0 (by simp at zb; omega); first | exact congrArg (fun z => z.1) zs | exact congrArg (fun z => z.2.1) zs | exact congrArg (fun z => z.2.2.1) zs | exact congrArg (fun z => z.2.2.2) zs)) (o4 (j4 (congrArg (ow eIs [_]) (show (E8 l d4 a8 (((uIt l d4 a8 d6 n).1), ((uIt l d4 a8 d6 n).2.1), ((uIt l d4 a8 d6 n).2.2.1), ((uIt l d4 a8 d6 n).2.2.2))).2.1 = (B2 l d4 a8 d6).2.1 from by have zb : (decide (0 < (uO l (uIt l d4 a8 d6 n)).length) || decide ((uIt l d4 a8 d6 n).2.2.2.length < (uIt l d4 a8 d6 (n + 1)).2.2.2.length)) = false := q18; have zs := a5g hm0 hr0 hf0 pg0 (by simp at zb; omega); first | exact congrArg (fun z => z.1) zs | exact congrArg (fun z => z.2.1) zs | exact congrArg (fun z => z.2.2.1) zs | exact congrArg (fun z => z.2.2.2) zs)) (o4 (j4 (congrArg (ow m8 [_]) (show (E8 l d4 a8 (((uIt l d4 a8 d6 n).1), ((uIt l d4 a8 d6 n).2.1), ((uIt l d4 a8 d6 n).2.2.1), ((uIt l d4 a8 d6 n).2.2.2))).1 = (B2 l d4 a8 d6).1 from by have zb : (decide (0 < (uO l (uIt l d4 a8 d6 n)).length) || decide ((uIt l d4 a8 d6 n).2.2.2.length < (uIt l d4 a8 d6 (n + 1)).2.2.2.length)) = false := q18; have zs := a5g hm0 hr0 hf0 pg0 (by simp at zb; omega); first | exact congrArg (fun z => z.1) zs | exact congrArg (fun z => z.2.1) zs | exact congrArg (fun z => z.2.2.1) zs | exact congrArg (fun z => z.2.2.2) zs)) (o4 (o4 (o4 (o4 (j9 ?_))))))))))))))))))))))))
  exact Fg rfl rfl (b16, (_, _, _), (_, _, _), (_, _, _), (_, _, _)) rfl rfl
theorem a7w (hz : d6.length ≤ 1048576) : Tr Tryz.prog 52 [.slice a_s m_s c_s, .slice a_l m_l c_l, .slice a_rules m_rules c_rules, .slice a_facts m_facts c_facts, .slice a_seeds m_seeds c_seeds] (fun w L => Ro w L eIs [.slice a_s m_s c_s] s ∧ Ro w L F5 [.slice a_l m_l c_l] l ∧ Ro w L J9 [.slice a_rules m_rules c_rules] d4 ∧ Ro w L m8 [.slice a_facts m_facts c_facts] a8 ∧ Ro w L eIs [.slice a_seeds m_seeds c_seeds] d6) [] (κ := Option Addr × Nat × Nat) (fun k => True) (fun k => .slice k.1 k.2.1 k.2.2) (fun k => [ow m8 [.slice k.1 k.2.1 k.2.2] (D9 s l d4 a8 d6)]) := by
 refine Tr.intro Tryz.func52 rfl (n := 32) rfl (by decide +kernel) bl (fr := [(0, .slice a_s m_s c_s), (1, .slice a_l m_l c_l), (2, .slice a_rules m_rules c_rules), (3, .slice a_facts m_facts c_facts), (4, .slice a_seeds m_seeds c_seeds)]) rfl fun w L hR => ?_
 obtain ⟨hs, hl, hrules, hfacts, hseeds⟩ := hR
 obtain ⟨rfl, ls⟩ := hs.slen
 obtain ⟨rfl, ll⟩ := hl.slen
 obtain ⟨rfl, lrules⟩ := hrules.slen
 obtain ⟨rfl, lfacts⟩ := hfacts.slen
 obtain ⟨rfl, lseeds⟩ := hseeds.slen
 refine Ew Z1 (Ei rfl (Eu (Eq_ (Ew Z11 (Em rfl (Em rfl (Em rfl (Est rfl (l0 a2Z rfl rfl rfl dc (fun w Lp hA => ⟨hA.ro hs, hA.ro hl, hA.ro hrules⟩)) (fun _ _ => (Ent.b (fun q14 => ?_) (fun q14 => ?_)))))))))))
 ·refine Ey rfl ((Y.not (b := true) rfl).yd) (Em rfl (Em rfl (Em rfl (Est rfl (l0 a2U rfl rfl rfl dc (fun w Lp hA => ⟨hA.ro hs, hA.ro hfacts⟩)) (fun _ _ => (Ent.b (fun q19 => ?_) (fun q19 => ?_)))))))
  ·have hO : E7 s l d4 a8 = true := by rw [E7, q14, q19]; rfl
   obtain ⟨hm0, hr0, hf0⟩ := a0f hO
   have hu := a1S (d6 := d6) hO
   have hul := hu.n.len
   have hul2 : (B2 l d4 a8 d6).2.2.2.length ≤ 5324 := hul.1
   have hul1 : (B2 l d4 a8 d6).1.length ≤ 5324 := hul.2
   refine Ey rfl ((Y.not (b := true) rfl).yd) (Ey rfl ((t7 rfl rfl).yd) (Eu (o0 rfl (i7 (Et (Ew Z11 (Em rfl (Em rfl (Em rfl (Em rfl (Est rfl (N.call (a3O ⟨s, hm0, hr0, hf0⟩ om) rfl rfl rfl dc rfl (fun w Lp hA => ⟨hA.ro hl, hA.ro hrules, hA.ro hfacts, hA.ro hseeds⟩)) (fun k26 _ => ?_))))))))))))
   obtain ⟨nb26, ⟨a26_0, m26_0, c26_0⟩, ⟨a26_1, m26_1, c26_1⟩, ⟨a26_2, m26_2, c26_2⟩, ⟨a26_3, m26_3, c26_3⟩⟩ := k26
   refine d7 (mS m0) fun e26_0 l26_0 => ?_
   subst e26_0
   refine d7 (mS (mS m0)) fun e26_1 l26_1 => ?_
   subst e26_1
   refine d7 (mS (mS (mS m0))) fun e26_2 l26_2 => ?_
   subst e26_2
   refine d7 (mS (mS (mS (mS m0)))) fun e26_3 l26_3 => ?_
   subst e26_3
   refine Ey rfl ((Y.nil rfl).yd) (Ey rfl ((f5 fo_under_3 ty_Reached dc rfl).yd) (Ey rfl ((f5 fo_Reached_0 ty_Facts dc rfl).yd) (Ey rfl (g9 ty_Facts rfl (((Has.pt m0).sub (cs' := [_, _, _, _]) 3 rfl).sub (cs' := [_]) 0 rfl) rfl) (Est rfl (N.call (a4g om (fun f hf => Nat.le_trans (H3 (hu.n.okF f hf)) dc)) rfl rfl rfl dc rfl (fun w Lp hA => hA.ow (mS m0))) (fun k31 _ => ?_)))))
   obtain ⟨a31, m31, c31⟩ := k31
   refine d7 m0 fun e31 l31 => ?_
   subst e31
   refine Ei rfl (Eu (E.ret (j4 (congrArg (ow m8 [_]) (show _ = D9 s l d4 a8 d6 by rw [D9, if_pos hO])) ?_)))
   exact Fg rfl rfl (_, _, _) rfl rfl
  ·refine Ey rfl ((Y.not (b := false) rfl).yd) (Ey rfl ((t7 rfl rfl).yd) (Eu (n8 rfl (Ew Z1 (Ei rfl (Eu (E.ret (n0 (u9 (A := []) (Own.nil (E := C9) (e := tFact) (a := none)) rfl (j4 (congrArg (ow m8 [_]) (show _ = D9 s l d4 a8 d6 by simp [D9, E7, q14, q19])) ?_))))))))))
   exact Fg rfl rfl (none, 0, 0) rfl rfl
 ·refine Ey rfl ((Y.not (b := false) rfl).yd) (Em rfl (Es rfl (Es rfl (Es rfl (Es rfl (Ey rfl ((t8 rfl rfl).yd) (Eu (n8 rfl (Ew Z1 (Ei rfl (Eu (E.ret (n0 (u9 (A := []) (Own.nil (E := C9) (e := tFact) (a := none)) rfl (j4 (congrArg (ow m8 [_]) (show _ = D9 s l d4 a8 d6 by simp [D9, E7, q14])) ?_)))))))))))))))
  exact Fg rfl rfl (none, 0, 0) rfl rfl
theorem a3M (hz : d6.length ≤ 1048576) : Tr Tryz.prog 53 [.slice a_s m_s c_s, .slice a_l m_l c_l, .slice a_rules m_rules c_rules, .slice a_facts m_facts c_facts, .slice a_seeds m_seeds c_seeds] (fun w L => Ro w L eIs [.slice a_s m_s c_s] s ∧ Ro w L F5 [.slice a_l m_l c_l] l ∧ Ro w L J9 [.slice a_rules m_rules c_rules] d4 ∧ Ro w L m8 [.slice a_facts m_facts c_facts] a8 ∧ Ro w L eIs [.slice a_seeds m_seeds c_seeds] d6) [] (κ := Option Addr × Nat × Nat) (fun k => True) (fun k => .slice k.1 k.2.1 k.2.2) (fun k => [ow m8 [.slice k.1 k.2.1 k.2.2] (D9 s l d4 a8 d6)]) := by
 refine Tr.intro Tryz.func53 rfl (n := 46) rfl (by decide +kernel) bl (fr := [(0, .slice a_s m_s c_s), (1, .slice a_l m_l c_l), (2, .slice a_rules m_rules c_rules), (3, .slice a_facts m_facts c_facts), (4, .slice a_seeds m_seeds c_seeds)]) rfl fun w L hR => ?_
 obtain ⟨hs, hl, hrules, hfacts, hseeds⟩ := hR
 obtain ⟨rfl, ls⟩ := hs.slen
 obtain ⟨rfl, ll⟩ := hl.slen
 obtain ⟨rfl, lrules⟩ := hrules.slen
 obtain ⟨rfl, lfacts⟩ := hfacts.slen
 obtain ⟨rfl, lseeds⟩ := hseeds.slen
 refine Ew Z1 (Ei rfl (Ev Z2 (Est rfl (Nb [] [] us_Facts ty_Fact rfl rfl) (fun b14 _ => (Ent.drop (Ei rfl (Eu (Eq_ (Ew Z11 (Em rfl (Em rfl (Em rfl (Est rfl (l0 a3h rfl rfl rfl dc (fun w Lp hA => ⟨hA.ro hs, hA.ro hl, hA.ro hrules⟩)) (fun _ _ => (Ent.b (fun q18 => ?_) (fun q18 => ?_))))))))))))))))
 ·refine Ey rfl ((Y.not (b := true) rfl).yd) (Em rfl (Em rfl (Em rfl (Est rfl (l0 S2 rfl rfl rfl dc (fun w Lp hA => ⟨hA.ro hs, hA.ro hfacts⟩)) (fun _ _ => (Ent.b (fun q23 => ?_) (fun q23 => ?_)))))))
  ·have hO : E7 s l d4 a8 = true := by rw [E7, q18, q23]; rfl
   obtain ⟨hm0, hr0, hf0⟩ := a0f hO
   have hu := a1S (d6 := d6) hO
   have hul := hu.n.len
   have hul2 : (B2 l d4 a8 d6).2.2.2.length ≤ 5324 := hul.1
   have hul1 : (B2 l d4 a8 d6).1.length ≤ 5324 := hul.2
   refine Ey rfl ((Y.not (b := true) rfl).yd) (Ey rfl ((t7 rfl rfl).yd) (Eu (o0 rfl (i7 (Et (Ew Z6 (Em rfl (Em rfl (Em rfl (Em rfl (Est rfl (N.call (a4P ⟨s, hm0, hr0, hf0⟩ om) rfl rfl rfl dc rfl (fun w Lp hA => ⟨hA.ro hl, hA.ro hrules, hA.ro hfacts, hA.ro hseeds⟩)) (fun k31 _ => ?_))))))))))))
   obtain ⟨a31, m31, c31⟩ := k31
   refine d7 m0 fun e31 l31 => ?_
   subst e31
   refine P3 (A := [_]) rfl fun wb1 Lb1 hB1 hA1 => ?_
   have hs := hA1.ro hs
   have hl := hA1.ro hl
   have hrules := hA1.ro hrules
   have hfacts := hA1.ro hfacts
   have hseeds := hA1.ro hseeds
   have rb1 : Ro wb1 Lb1 B6 [.slice a31 ((B2 l d4 a8 d6).2.2.2).length c31] ((B2 l d4 a8 d6).2.2.2) := hA1.ow m0
   refine Ei rfl (Eu (Eq_ (Ew Z1 (Ei rfl (Eu (E.block (u9 (A := []) (Own.nil (E := C9) (e := tFact) (a := (some ⟨b14, 0, none⟩))) rfl (j4 (congrArg (ow m8 [_]) (show [] = (((B2 l d4 a8 d6).2.2.2.take 0).map fun x => x.2.2).foldl w4 [] from by rfl)) (E.loop (κ := Nat × Option Addr × Nat × Nat) (fun g => g.1 ≤ (B2 l d4 a8 d6).2.2.2.length ∧ True) (fun g => [(11, .slice g.2.1 g.2.2.1 g.2.2.2), (12, .slice a31 ((B2 l d4 a8 d6).2.2.2).length c31), (13, .int .i64 (↑g.1 : Int))]) (fun g => [ow m8 [.slice g.2.1 g.2.2.1 g.2.2.2] ((((B2 l d4 a8 d6).2.2.2.take g.1).map fun x => x.2.2).foldl w4 [])]) (fun g => (B2 l d4 a8 d6).2.2.2.length - g.1) (0, (some ⟨b14, 0, none⟩), 0, 0) ⟨Nat.zero_le _, by simp⟩ ⟨rfl, rfl, rfl, trivial⟩ (.refl _) (fun g pg => ?_))))))))))
   obtain ⟨g, aA0_0, mA0_0, cA0_0⟩ := g
   try dsimp only at pg
   try dsimp only
   obtain ⟨pk, pa⟩ := pg
   have jf := a2C (m := ((B2 l d4 a8 d6).2.2.2.take g).map fun x => x.2.2) (x := [])
   have jt := List.length_take_le g (B2 l d4 a8 d6).2.2.2
   have jm : (((B2 l d4 a8 d6).2.2.2.take g).map fun x => x.2.2).length = ((B2 l d4 a8 d6).2.2.2.take g).length := List.length_map ..
   have j0 : ([] : List (Int × List Int)).length = 0 := rfl
   refine d7 m0 fun eaA0_0 laA0_0 => ?_
   subst eaA0_0
   refine Eq_ (Ew Z4 (Em rfl (Em rfl (Ey rfl ((Y.len us_Lines rfl).yd) (Ey rfl ((Y.lss rfl rfl).yd) (o3 (fun q35 => ?_) (fun q35 => ?_)))))))
   ·refine Eu (n8 rfl (i7 (Et (Eq_ (E.block (Ez Z8 (Em rfl (Em rfl (Em rfl ?_)))))))))
    obtain ⟨eb41, eo41, ec41, ea41, er41, el41, eh41⟩ := rb1.elem g om
    obtain ⟨xa41_0, xc41_0, xa41_1, xc41_1, rfl, ei41_0, ei41_1, xh41_0, ei41_3, xh41_1⟩ := a1b er41
    have := xh41_0.slen.2
    have := xh41_1.slen.2
    refine Ey rfl ((v8 us_Lines ty_Line rfl ea41 rfl g rfl om).yd) (Ey rfl ((f5 fo_Line_2 ty_Fact dc rfl).yd) (Ey rfl (o6 (cs := [_, _]) ty_Fact rfl ((eh41 _).sub (cs' := [_, _]) 3 rfl) rfl) (Est rfl (N.call (T9 om (b5z hu) (Nat.le_trans (H3 (hu.n.ok ((B2 l d4 a8 d6).2.2.2[g]) (List.getElem_mem (show g < (B2 l d4 a8 d6).2.2.2.length by omega)))) dc)) rfl rfl rfl dc rfl (fun w Lp hA => ⟨hA.ow m0, ei41_3, hA.ro xh41_1⟩)) (fun k44 _ => ?_))))
    obtain ⟨a44, m44, c44⟩ := k44
    refine d7 m0 fun e44 l44 => ?_
    subst e44
    refine Ei rfl (En (s9 (Et (Ez Z3 (Em rfl (Ey rfl ((Y.add rfl rfl om om).yd) (Ei rfl (Eu (d9 (Ent.drop (j4 (congrArg (ow m8 [_]) (show w4 ((((B2 l d4 a8 d6).2.2.2.take g).map fun x => x.2.2).foldl w4 []) ((((B2 l d4 a8 d6).2.2.2)[g].2.2.1), (((B2 l d4 a8 d6).2.2.2)[g].2.2.2)) = (((B2 l d4 a8 d6).2.2.2.take (g + 1)).map fun x => x.2.2).foldl w4 [] from by exact b3P om)) ?_)))))))))))
    exact Ea (g + 1, a44, (w4 ((((B2 l d4 a8 d6).2.2.2.take g).map fun x => x.2.2).foldl w4 []) ((((B2 l d4 a8 d6).2.2.2)[g].2.2.1), (((B2 l d4 a8 d6).2.2.2)[g].2.2.2))).length, c44) ⟨oz, trivial⟩
   ·refine Eu (o0 rfl (E.exit (q1 (q1 (y4 (Et (Ew Z2 (Em rfl (Ei rfl (Eu (E.ret (j4 (congrArg (ow m8 [_]) (show _ = D9 s l d4 a8 d6 by rw [D9, if_pos hO]; exact b3k hu om)) ?_))))))))))))
    exact F.r1 hB1 rfl rfl (_, _, _) trivial rfl (J := _) (.refl _) (.inl rfl)
  ·refine Ey rfl ((Y.not (b := false) rfl).yd) (Ey rfl ((t7 rfl rfl).yd) (Eu (n8 rfl (Ew Z2 (Em rfl (Ei rfl (Eu (E.ret (n0 (u9 (A := []) (Own.nil (E := C9) (e := tFact) (a := (some ⟨b14, 0, none⟩))) rfl (j4 (congrArg (ow m8 [_]) (show _ = D9 s l d4 a8 d6 by simp [D9, E7, q18, q23])) ?_)))))))))))
   exact Fg rfl rfl ((some ⟨b14, 0, none⟩), 0, 0) rfl rfl
 ·refine Ey rfl ((Y.not (b := false) rfl).yd) (Em rfl (Es rfl (Es rfl (Es rfl (Es rfl (Ey rfl ((t8 rfl rfl).yd) (Eu (n8 rfl (Ew Z2 (Em rfl (Ei rfl (Eu (E.ret (n0 (u9 (A := []) (Own.nil (E := C9) (e := tFact) (a := (some ⟨b14, 0, none⟩))) rfl (j4 (congrArg (ow m8 [_]) (show _ = D9 s l d4 a8 d6 by simp [D9, E7, q18])) ?_))))))))))))))))
  exact Fg rfl rfl ((some ⟨b14, 0, none⟩), 0, 0) rfl rfl
end Go.Proofs.YthapcdhdfaibkaaGreatDoor
