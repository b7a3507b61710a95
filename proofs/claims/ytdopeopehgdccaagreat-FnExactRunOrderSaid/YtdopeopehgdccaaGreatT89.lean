import Derived.Test.YtdopeopehgdccaaGreatBs
import Derived.Test.YtdopeopehgdccaaGreatT87
import Derived.Test.YtdopeopehgdccaaGreatT88
import Derived.Test.YtdopeopehgdccaaGreatT19
import Derived.Test.YtdopeopehgdccaaGreatDw
import Derived.Test.YtdopeopehgdccaaGreatBm
import Derived.Test.YtdopeopehgdccaaGreatT16
import Derived.Test.YtdopeopehgdccaaGreatT74
import Derived.Test.YtdopeopehgdccaaGreatGb
import Derived.Test.YtdopeopehgdccaaGreatBo
namespace Go.Proofs.YtdopeopehgdccaaGreat
open Go.RowKit
set_option linter.all false
set_option maxHeartbeats 2000000
attribute [local irreducible] Nop Yd Yp Ent Has Tr FnP FnP2 Src M5 V6 Y1 a0b D2
variable {I9 v : Int} {a : List (Int × Int)} {R9 a_Got : List (Int × List Int)} {a_Answers : List (List Int)} {m_a c_a m_a_Answers c_a_Answers X7 X8 m_a_Got c_a_Got : Nat} {a_a a_a_Answers X9 a_a_Got : Option Addr}
theorem a6S {a0N : Int} {g9 : Int} : Tr Tryz.prog 92 [.agg #[.int .i64 a0N, .int .i64 g9]] (fun w L => I64 a0N ∧ I64 g9) [] (κ := Unit) (fun k => True) (fun k => .agg #[.int .i64 a0N, .int .i64 g9]) (fun k => []) := by
 refine Tr.intro Tryz.func92 rfl (n := 11) rfl (by decide +kernel) bl (fr := [(0, .agg #[.int .i64 a0N, .int .i64 g9])]) rfl fun w L hR => ?_
 obtain ⟨b0A, D5⟩ := hR
 refine Ew Z2 (Est rfl (N.box (cs := [_, _]) rfl dc rfl) (fun b1 _ => (Est rfl (N.alloc ty_Step dc) (fun b2 _ => (Ev Z1 (Est rfl (N.alloc ty_Step dc) (fun b3 _ => (Ev Z4 (Ey rfl ((Y.fld fo_lStep_0 f8 dc rfl).yd) (Ey rfl (Y.ld1 f8 rfl ((Has.pt (mS (mS m0))).sub (cs' := [_]) 0 rfl) rfl) (Ey rfl ((Y.fld fo_Step_0 f8 dc rfl).yd) (Est rfl (N.sto (vs := [_]) (cs' := [_, _]) f8 rfl rfl rfl rfl rfl bl rfl) (fun _ _ => (Ev Z4 (Ey rfl ((Y.fld fo_lStep_1 f8 dc rfl).yd) (Ey rfl (Y.ld1 f8 rfl ((Has.pt (mS (mS m0))).sub (cs' := [_]) 1 rfl) rfl) (Ey rfl ((Y.fld fo_Step_1 f8 dc rfl).yd) (Est rfl (N.sto (vs := [_]) (cs' := [_, _]) f8 rfl rfl rfl rfl rfl bl rfl) (fun _ _ => (Ev Z2 (Ey rfl (Y.ldS (cs := [_, _]) ty_Step rfl (Has.pt m0) rfl) (Ent.p1 (Est rfl (N.sto (vs := [_, _]) (cs' := [_, _]) ty_Step rfl rfl rfl rfl rfl bl rfl) (fun _ _ => ?_))))))))))))))))))))))))
 exact Eu (E.ret (F.c1 br rfl rfl m0 ty_Step rfl () trivial rfl (J := _) (.refl _) (.inl rfl)))
theorem a5f {left : Int} : Tr Tryz.prog 29 [.slice a_a m_a c_a, .int .i64 left] (fun w L => Ro w L K4 [.slice a_a m_a c_a] a ∧ 0 ≤ left ∧ left ≤ 1048576) [] (κ := Unit) (fun k => True) (fun k => .int .i64 (szR (E0 (fun x => 0) a) left)) (fun k => []) := by
 refine Tr.intro Tryz.func29 rfl (n := 12) rfl (by decide +kernel) bl (fr := [(0, .slice a_a m_a c_a), (1, .int .i64 left)]) rfl fun w L hR => ?_
 obtain ⟨ha, as0, as1⟩ := hR
 obtain ⟨rfl, la⟩ := ha.slen
 refine Ew Z1 (Eas rfl rfl (Ev Z5 (Emv rfl rfl (Emv rfl rfl (Ey rfl ((Y.len us_lSteps rfl).yd) (Ey rfl ((Y.sub rfl rfl om om).yd) (Eas rfl rfl (Eu (Eq_ (Ew Z2 (Emv rfl rfl (Ey rfl ((Y.lss rfl rfl).yd) (Ent.d (fun q10 => ?_) (fun q10 => ?_))))))))))))))
 ·refine Eu (E.ct rfl (Ew Z1 (Eas rfl rfl ?_)))
  exact Eu (E.ret (E.thr (Fg rfl rfl () (congrArg (Value.int .i64) (by have e0 : ∀ b : List (Int × Int), j8 (fun x => 0) b = 0 := fun b => by { induction b with | nil => rfl | cons x b ih => simp only [j8, List.map_cons, List.sum_cons] at ih ⊢; omega }; have e : E0 (fun x => 0) a = a.length := by { have := e0 a; simp only [E0]; omega }; rw [e]; simp only [szR]; split <;> omega)) rfl)))
 ·refine Eu (E.cf rfl (E.skipc (Et (Ew Z2 (Emv rfl rfl (Eas rfl rfl ?_))))))
  exact Eu (E.ret (Fg rfl rfl () (congrArg (Value.int .i64) (by have e0 : ∀ b : List (Int × Int), j8 (fun x => 0) b = 0 := fun b => by { induction b with | nil => rfl | cons x b ih => simp only [j8, List.map_cons, List.sum_cons] at ih ⊢; omega }; have e : E0 (fun x => 0) a = a.length := by { have := e0 a; simp only [E0]; omega }; rw [e]; simp only [szR]; split <;> omega)) rfl))
theorem F7 (hz : E0 (fun x => 0) a ≤ 1048576) : Tr Tryz.prog 32 [.slice a_a m_a c_a] (fun w L => Ro w L K4 [.slice a_a m_a c_a] a) [] (κ := Option Addr × Nat × Nat) (fun k => True) (fun k => .slice k.1 k.2.1 k.2.2) (fun k => [ow K4 [.slice k.1 k.2.1 k.2.2] a]) := by
 refine Tr.intro Tryz.func32 rfl (n := 23) rfl (by decide +kernel) bl (fr := [(0, .slice a_a m_a c_a)]) rfl fun w L hR => ?_
 have ha := hR
 obtain ⟨rfl, la⟩ := ha.slen
 have hlen : a.length ≤ E0 (fun x => 0) a := by unfold E0; omega
 refine Ew Z1 (Eas rfl rfl (Ev Z4 (Emv rfl rfl (Ey rfl ((Y.len us_lSteps rfl).yd) (Est rfl (N.make (m := a.length) us_Steps ty_Step rfl rfl rfl mx om dc) (fun b7 _ => (Ent.mkow (A := [_]) (Own.made (E := a1z) (e := tStep) (zx := (0, 0)) (Own.mkStep (x := (0, 0)) ⟨by decide, by decide⟩ ⟨by decide, by decide⟩) mx) rfl (Eas rfl rfl (Eu (Eq_ (Ew Z1 (Eas rfl rfl (Eu (E.block (E.loop (κ := Nat) (fun g => g ≤ a.length) (fun g => [(0, .slice a_a a.length c_a), (3, .slice (some ⟨b7, 0, none⟩) a.length a.length), (4, .int .i64 (g : Int))]) (fun g => [ow K4 [.slice (some ⟨b7, 0, none⟩) a.length a.length] (a.take g ++ List.replicate (a.length - g) (0, 0))]) (fun g => a.length - g) 0 (Nat.zero_le _) ⟨rfl, rfl, rfl, trivial⟩ (by simp) (fun g pg => (Eq_ (Ew Z4 (Emv rfl rfl (Emv rfl rfl (Ey rfl ((Y.len us_lSteps rfl).yd) (Ey rfl ((Y.lss rfl rfl).yd) (Ent.d (fun q11 => ?_) (fun q11 => ?_))))))))))))))))))))))))
 ·refine Eu (E.ct rfl (E.skipc (Et (Eq_ (E.block (Ez Z9 (Emv rfl rfl (Emv rfl rfl (Emv rfl rfl (Emv rfl rfl ?_))))))))))
  obtain ⟨eb18, eo18, ec18, ea18, er18, el18, eh18⟩ := ha.elem g om
  obtain ⟨rfl, ei18_0, ei18_1⟩ := Ro.pStep er18
  refine Ey rfl ((Y.ix us_lSteps ty_lStep rfl ea18 rfl g rfl om).yd) (Ey rfl (Y.ldS (cs := [_, _]) ty_lStep rfl (eh18 _) rfl) (Est rfl (N.call0 a6S rfl rfl rfl dc (fun w Lp hA => ⟨ei18_0, ei18_1⟩)) (fun _ _ => (Ey rfl ((Y.ix us_Steps ty_Step rfl rfl rfl g rfl om).yd) (Est rfl (N.set (E := a1z) (j := g) (ex := a[g]) (ce := [_, _]) ty_Step rfl rfl rfl rfl (Own.mkStep (x := a[g]) ei18_0 ei18_1) rfl (Nat.zero_add _) rfl (by simp; omega)) (fun _ _ => (En (E.bln (Et (Ez Z3 (Emv rfl rfl (Ey rfl ((Y.add rfl rfl om om).yd) (Eas rfl rfl ?_)))))))))))))
  exact Eu (E.again br (g + 1) rs (by rw [a1m om rfl]) om om)
 ·refine Eu (E.cf rfl (E.exit (E.the (E.the (E.blh (Et (Ew Z2 (Emv rfl rfl (Eas rfl rfl (Eu (E.ret (Ent.cv (congrArg (ow K4 [_]) (show _ = a by exact a0L om)) ?_))))))))))))
  exact Fg rfl rfl (_, _, _) rfl rfl
theorem a1i {a_b_Answers : Option Addr} {m_b_Answers c_b_Answers : Nat} {b_Answers : List (List Int)} {a5X : Option Addr} {a5Y a5Z : Nat} {b0I : List (Int × List Int)} {a_b_Got : Option Addr} {m_b_Got c_b_Got : Nat} {b_Got : List (Int × List Int)} {a0M : Int} : Tr Tryz.prog 34 [.agg #[.slice a_a_Answers m_a_Answers c_a_Answers, .slice X9 X7 X8, .slice a_a_Got m_a_Got c_a_Got, .int .i64 I9], .agg #[.slice a_b_Answers m_b_Answers c_b_Answers, .slice a5X a5Y a5Z, .slice a_b_Got m_b_Got c_b_Got, .int .i64 a0M]] (fun w L => Ro w L D0 [.slice a_a_Answers m_a_Answers c_a_Answers] a_Answers ∧ Ro w L t7 [.slice X9 X7 X8] R9 ∧ Ro w L j9 [.slice a_a_Got m_a_Got c_a_Got] a_Got ∧ I64 I9 ∧ Ro w L D0 [.slice a_b_Answers m_b_Answers c_b_Answers] b_Answers ∧ Ro w L t7 [.slice a5X a5Y a5Z] b0I ∧ Ro w L j9 [.slice a_b_Got m_b_Got c_b_Got] b_Got ∧ I64 a0M) [] (κ := Unit) (fun k => True) (fun k => .bool (decide ((a_Answers, R9, a_Got, I9) = (b_Answers, b0I, b_Got, a0M)))) (fun k => []) := by
 refine Tr.intro Tryz.func34 rfl (n := 28) rfl (by decide +kernel) bl (fr := [(0, .agg #[.slice a_a_Answers m_a_Answers c_a_Answers, .slice X9 X7 X8, .slice a_a_Got m_a_Got c_a_Got, .int .i64 I9]), (1, .agg #[.slice a_b_Answers m_b_Answers c_b_Answers, .slice a5X a5Y a5Z, .slice a_b_Got m_b_Got c_b_Got, .int .i64 a0M])]) rfl fun w L hR => ?_
 obtain ⟨ha_Answers, a3j, ha_Got, a1t, hb_Answers, a9L, hb_Got, b0y⟩ := hR
 obtain ⟨rfl, la_Answers⟩ := ha_Answers.slen
 obtain ⟨rfl, a9M⟩ := a3j.slen
 obtain ⟨rfl, la_Got⟩ := ha_Got.slen
 obtain ⟨rfl, lb_Answers⟩ := hb_Answers.slen
 obtain ⟨rfl, b3e⟩ := a9L.slen
 obtain ⟨rfl, lb_Got⟩ := hb_Got.slen
 refine Ew Z3 (Est rfl (N.box (cs := [_, _, _, _]) rfl dc rfl) (fun b2 _ => (Est rfl (N.box (cs := [_, _, _, _]) rfl dc rfl) (fun b3 _ => (Eas rfl rfl (Eu (Eq_ (Ew Z6 (Ey rfl ((Y.fld fo_Run_0 ty_Iss dc rfl).yd) (Ey rfl (Y.ld1 ty_Iss rfl ((Has.pt (mS m0)).sub (cs' := [_]) 0 rfl) rfl) (Ey rfl ((Y.fld fo_Run_0 ty_Iss dc rfl).yd) (Ey rfl (Y.ld1 ty_Iss rfl ((Has.pt m0).sub (cs' := [_]) 0 rfl) rfl) (Est rfl (N.call0 a5w rfl rfl rfl dc (fun w Lp hA => ⟨hA.ro ha_Answers, hA.ro hb_Answers⟩)) (fun _ _ => (Ent.b (fun q9 => ?_) (fun q9 => ?_))))))))))))))))
 ·refine Ey rfl ((Y.not (b := true) rfl).yd) (Eu (E.cf rfl (E.skipc (Et (Eq_ (Ew Z6 (Ey rfl ((Y.fld fo_Run_1 ty_Accesss dc rfl).yd) (Ey rfl (Y.ld1 ty_Accesss rfl ((Has.pt (mS m0)).sub (cs' := [_]) 1 rfl) rfl) (Ey rfl ((Y.fld fo_Run_1 ty_Accesss dc rfl).yd) (Ey rfl (Y.ld1 ty_Accesss rfl ((Has.pt m0).sub (cs' := [_]) 1 rfl) rfl) (Est rfl (N.call0 a3W rfl rfl rfl dc (fun w Lp hA => ⟨hA.ro a3j, hA.ro a9L⟩)) (fun _ _ => (Ent.b (fun q15 => ?_) (fun q15 => ?_))))))))))))))
  ·refine Ey rfl ((Y.not (b := true) rfl).yd) (Eu (E.cf rfl (E.skipc (Et (Eq_ (Ew Z6 (Ey rfl ((Y.fld fo_Run_2 ty_Facts dc rfl).yd) (Ey rfl (Y.ld1 ty_Facts rfl ((Has.pt (mS m0)).sub (cs' := [_]) 2 rfl) rfl) (Ey rfl ((Y.fld fo_Run_2 ty_Facts dc rfl).yd) (Ey rfl (Y.ld1 ty_Facts rfl ((Has.pt m0).sub (cs' := [_]) 2 rfl) rfl) (Est rfl (N.call0 a1R rfl rfl rfl dc (fun w Lp hA => ⟨hA.ro ha_Got, hA.ro hb_Got⟩)) (fun _ _ => (Ent.b (fun q21 => ?_) (fun q21 => ?_))))))))))))))
   ·refine Ey rfl ((Y.not (b := true) rfl).yd) (Eu (E.cf rfl (E.skipc (Et (Eq_ (Ew Z5 (Ey rfl ((Y.fld fo_Run_3 f8 dc rfl).yd) (Ey rfl (Y.ld1 f8 rfl ((Has.pt (mS m0)).sub (cs' := [_]) 3 rfl) rfl) (Ey rfl ((Y.fld fo_Run_3 f8 dc rfl).yd) (Ey rfl (Y.ld1 f8 rfl ((Has.pt m0).sub (cs' := [_]) 3 rfl) rfl) (Ey rfl ((Y.neq rfl rfl).yd) (Ent.d (fun q27 => ?_) (fun q27 => ?_)))))))))))))
    ·refine Eu (E.ct rfl (Ew Z1 (Eas rfl rfl ?_)))
     exact Eu (E.ret (E.thr (Fb rfl rfl (by simp_all))))
    ·refine Eu (E.cf rfl (E.skipc (Et (Ew Z1 (Eas rfl rfl ?_)))))
     exact Eu (E.ret (Fb rfl rfl (by simp_all)))
   ·refine Ey rfl ((Y.not (b := false) rfl).yd) (Eu (E.ct rfl (Ew Z1 (Eas rfl rfl ?_))))
    exact Eu (E.ret (E.thr (Fb rfl rfl (by simp_all))))
  ·refine Ey rfl ((Y.not (b := false) rfl).yd) (Eu (E.ct rfl (Ew Z1 (Eas rfl rfl ?_))))
   exact Eu (E.ret (E.thr (Fb rfl rfl (by simp_all))))
 ·refine Ey rfl ((Y.not (b := false) rfl).yd) (Eu (E.ct rfl (Ew Z1 (Eas rfl rfl ?_))))
  exact Eu (E.ret (E.thr (Fb rfl rfl (by simp_all))))
theorem a5O : Tr Tryz.prog 39 [.agg #[.slice a_a_Answers m_a_Answers c_a_Answers, .slice X9 X7 X8, .slice a_a_Got m_a_Got c_a_Got, .int .i64 I9], .int .i64 v] (fun w L => I64 I9 ∧ 0 ≤ v ∧ v + ((j8 C1 a_Answers + j8 o9 R9 + j8 s7 a_Got : Nat) : Int) ≤ 4611686018427387904) [ow D0 [.slice a_a_Answers m_a_Answers c_a_Answers] a_Answers, ow t7 [.slice X9 X7 X8] R9, ow j9 [.slice a_a_Got m_a_Got c_a_Got] a_Got] (κ := Unit) (fun k => True) (fun k => .int .i64 (v + ((j8 C1 a_Answers + j8 o9 R9 + j8 s7 a_Got : Nat) : Int))) (fun k => [ow D0 [.slice a_a_Answers m_a_Answers c_a_Answers] (mkL C1 W9 a_Answers v), ow t7 [.slice X9 X7 X8] (mkL o9 E5 R9 (v + ((j8 C1 a_Answers : Nat) : Int))), ow j9 [.slice a_a_Got m_a_Got c_a_Got] (mkL s7 G0 a_Got (v + ((j8 C1 a_Answers : Nat) : Int) + ((j8 o9 R9 : Nat) : Int)))]) := by
 refine Tr.intro Tryz.func39 rfl (n := 18) rfl (by decide +kernel) bl (fr := [(0, .agg #[.slice a_a_Answers m_a_Answers c_a_Answers, .slice X9 X7 X8, .slice a_a_Got m_a_Got c_a_Got, .int .i64 I9]), (1, .int .i64 v)]) rfl fun w L hR => ?_
 obtain ⟨a1t, as0, as1⟩ := hR
 refine Ent.lenow m0 fun ea_Answers la_Answers => ?_
 subst ea_Answers
 refine Ent.lenow (mS m0) fun b1M a9M => ?_
 subst b1M
 refine Ent.lenow (mS (mS m0)) fun ea_Got la_Got => ?_
 subst ea_Got
 refine Ew Z2 (Est rfl (N.box (cs := [_, _, _, _]) rfl dc rfl) (fun b2 _ => (Eas rfl rfl (Ev Z5 (Ey rfl ((Y.fld fo_Run_0 ty_Iss dc rfl).yd) (Ey rfl (Y.ld1 ty_Iss rfl ((Has.pt m0).sub (cs' := [_]) 0 rfl) rfl) (Emv rfl rfl (Ent.p1 (Est rfl (N.call (pre := [_]) a4b rfl rfl rfl dc rfl (fun w Lp hA => ⟨(by first | assumption | omega), (by first | assumption | omega)⟩)) (fun _ _ => (Eas rfl rfl (Ev Z5 (Ey rfl ((Y.fld fo_Run_1 ty_Accesss dc rfl).yd) (Ey rfl (Y.ld1 ty_Accesss rfl ((Has.pt (mS m0)).sub (cs' := [_]) 1 rfl) rfl) (Emv rfl rfl (Ent.p2 (Est rfl (N.call (pre := [_]) a2T rfl rfl rfl dc rfl (fun w Lp hA => ⟨(by first | assumption | omega), (by first | assumption | omega)⟩)) (fun _ _ => (Eas rfl rfl (Ev Z5 (Ey rfl ((Y.fld fo_Run_2 ty_Facts dc rfl).yd) (Ey rfl (Y.ld1 ty_Facts rfl ((Has.pt (mS (mS m0))).sub (cs' := [_]) 2 rfl) rfl) (Emv rfl rfl (Ent.p3 (Est rfl (N.call (pre := [_]) a1k rfl rfl rfl dc rfl (fun w Lp hA => ⟨(by first | assumption | omega), (by first | assumption | omega)⟩)) (fun _ _ => (Eas rfl rfl (Ev Z2 (Emv rfl rfl (Eas rfl rfl (Eu (E.ret (Ent.cv (congrArg (ow j9 [_]) (show mkL s7 G0 a_Got ((v + (j8 C1 a_Answers : Nat)) + (j8 o9 R9 : Nat)) = mkL s7 G0 a_Got (v + ((j8 C1 a_Answers : Nat) : Int) + ((j8 o9 R9 : Nat) : Int)) from by first | rfl | omega | (congr 1; omega))) (Ent.p1 (Ent.cv (congrArg (ow t7 [_]) (show mkL o9 E5 R9 (v + (j8 C1 a_Answers : Nat)) = mkL o9 E5 R9 (v + ((j8 C1 a_Answers : Nat) : Int)) from by first | rfl | omega | (congr 1; omega))) (Ent.p1 (Ent.p1 (Ent.p2 ?_))))))))))))))))))))))))))))))))))))))
 exact Fg rfl rfl () (by rw [show (v + ((j8 C1 a_Answers + j8 o9 R9 + j8 s7 a_Got : Nat) : Int)) = (((v + (j8 C1 a_Answers : Nat)) + (j8 o9 R9 : Nat)) + (j8 s7 a_Got : Nat)) from (by first | rfl | omega | (congr 1; omega))]; try rfl) rfl
theorem a1U (hz0 : mkL C1 W9 a_Answers v = a_Answers) (hz1 : mkL o9 E5 R9 (v + ((j8 C1 a_Answers : Nat) : Int)) = R9) (hz2 : mkL s7 G0 a_Got (v + ((j8 C1 a_Answers : Nat) : Int) + ((j8 o9 R9 : Nat) : Int)) = a_Got) : Tr Tryz.prog 40 [.agg #[.slice a_a_Answers m_a_Answers c_a_Answers, .slice X9 X7 X8, .slice a_a_Got m_a_Got c_a_Got, .int .i64 I9], .int .i64 v] (fun w L => Ro w L D0 [.slice a_a_Answers m_a_Answers c_a_Answers] a_Answers ∧ Ro w L t7 [.slice X9 X7 X8] R9 ∧ Ro w L j9 [.slice a_a_Got m_a_Got c_a_Got] a_Got ∧ I64 I9 ∧ 0 ≤ v ∧ v + ((j8 C1 a_Answers + j8 o9 R9 + j8 s7 a_Got : Nat) : Int) ≤ 4611686018427387904) [] (κ := Unit) (fun k => True) (fun k => .int .i64 (v + ((j8 C1 a_Answers + j8 o9 R9 + j8 s7 a_Got : Nat) : Int))) (fun k => []) := by
 refine Tr.intro Tryz.func40 rfl (n := 24) rfl (by decide +kernel) bl (fr := [(0, .agg #[.slice a_a_Answers m_a_Answers c_a_Answers, .slice X9 X7 X8, .slice a_a_Got m_a_Got c_a_Got, .int .i64 I9]), (1, .int .i64 v)]) rfl fun w L hR => ?_
 obtain ⟨ha_Answers, a3j, ha_Got, a1t, as0, as1⟩ := hR
 obtain ⟨rfl, la_Answers⟩ := ha_Answers.slen
 obtain ⟨rfl, a9M⟩ := a3j.slen
 obtain ⟨rfl, la_Got⟩ := ha_Got.slen
 refine Ew Z2 (Est rfl (N.box (cs := [_, _, _, _]) rfl dc rfl) (fun b2 _ => (Eas rfl rfl (Ev Z5 (Ey rfl ((Y.fld fo_Run_0 ty_Iss dc rfl).yd) (Ey rfl (Y.ld1 ty_Iss rfl ((Has.pt m0).sub (cs' := [_]) 0 rfl) rfl) (Emv rfl rfl (Est rfl (N.call0 (a3Y fc) rfl rfl rfl dc (fun w Lp hA => ⟨hA.ro ha_Answers, (by first | assumption | omega), (by first | assumption | omega)⟩)) (fun _ _ => (Eas rfl rfl (Eu (Eq_ (Ew Z2 (Emv rfl rfl (Ey rfl ((Y.lss rfl rfl).yd) (Ent.d (fun q10 => ?_) (fun q10 => ?_)))))))))))))))))
 ·exact absurd q10 om
 ·refine Eu (E.cf rfl (E.skipc (Et (Ew Z5 (Ey rfl ((Y.fld fo_Run_1 ty_Accesss dc rfl).yd) (Ey rfl (Y.ld1 ty_Accesss rfl ((Has.pt m0).sub (cs' := [_]) 1 rfl) rfl) (Emv rfl rfl (Est rfl (N.call0 (a2W fc) rfl rfl rfl dc (fun w Lp hA => ⟨hA.ro a3j, (by first | assumption | omega), (by first | assumption | omega)⟩)) (fun _ _ => (Eas rfl rfl (Eu (Eq_ (Ew Z2 (Emv rfl rfl (Ey rfl ((Y.lss rfl rfl).yd) (Ent.d (fun q16 => ?_) (fun q16 => ?_)))))))))))))))))
  ·exact absurd q16 om
  ·refine Eu (E.cf rfl (E.skipc (Et (Ew Z5 (Ey rfl ((Y.fld fo_Run_2 ty_Facts dc rfl).yd) (Ey rfl (Y.ld1 ty_Facts rfl ((Has.pt m0).sub (cs' := [_]) 2 rfl) rfl) (Emv rfl rfl (Est rfl (N.call0 (a3Z fc) rfl rfl rfl dc (fun w Lp hA => ⟨hA.ro ha_Got, (by first | assumption | omega), (by first | assumption | omega)⟩)) (fun _ _ => (Eas rfl rfl (Eu (Eq_ (Ew Z2 (Emv rfl rfl (Ey rfl ((Y.lss rfl rfl).yd) (Ent.d (fun q22 => ?_) (fun q22 => ?_)))))))))))))))))
   ·exact absurd q22 om
   ·refine Eu (E.cf rfl (E.skipc (Et (Ew Z2 (Emv rfl rfl (Eas rfl rfl ?_))))))
    exact Eu (E.ret (Fg rfl rfl () (congrArg (Value.int .i64) (by first | rfl | omega)) rfl))
theorem a1G {a_aS : Option Addr} {m_aS c_aS : Nat} {aS : List Int} {a_aL : Option Addr} {m_aL c_aL : Nat} {aL : List (Int × List Int × Int × Int × Int)} {a0Z : Option Addr} {a3k a1a : Nat} {u0 : List Int} {a0O : Option Addr} {a2A a0P : Nat} {r9 : List (Int × List Int)} {a_aSteps : Option Addr} {m_aSteps c_aSteps : Nat} {aSteps : List (Int × Int)} {a_aFacts : Option Addr} {m_aFacts c_aFacts : Nat} {aFacts : List (Int × List Int)} {aChoice : Int} : Tr Tryz.prog 4 [.slice a_aS m_aS c_aS, .slice a_aL m_aL c_aL, .agg #[.slice a0Z a3k a1a, .slice a0O a2A a0P], .slice a_aSteps m_aSteps c_aSteps, .slice a_aFacts m_aFacts c_aFacts, .int .i64 aChoice] (fun w L => Ro w L eIs [.slice a_aS m_aS c_aS] aS ∧ Ro w L z8 [.slice a_aL m_aL c_aL] aL ∧ Ro w L eIs [.slice a0Z a3k a1a] u0 ∧ Ro w L C3 [.slice a0O a2A a0P] r9 ∧ Ro w L K4 [.slice a_aSteps m_aSteps c_aSteps] aSteps ∧ Ro w L j9 [.slice a_aFacts m_aFacts c_aFacts] aFacts) [] (κ := Unit) (fun k => True) (fun k => .bool (true)) (fun k => []) := by
 refine Tr.intro Tryz.func4 rfl (n := 164) rfl (by decide +kernel) bl (fr := [(0, .slice a_aS m_aS c_aS), (1, .slice a_aL m_aL c_aL), (2, .agg #[.slice a0Z a3k a1a, .slice a0O a2A a0P]), (3, .slice a_aSteps m_aSteps c_aSteps), (4, .slice a_aFacts m_aFacts c_aFacts), (5, .int .i64 aChoice)]) rfl fun w L hR => ?_
 obtain ⟨haS, haL, R2, O0, haSteps, haFacts⟩ := hR
 obtain ⟨rfl, laS⟩ := haS.slen
 obtain ⟨rfl, laL⟩ := haL.slen
 obtain ⟨rfl, b2Q⟩ := R2.slen
 obtain ⟨rfl, b2s⟩ := O0.slen
 obtain ⟨rfl, laSteps⟩ := haSteps.slen
 obtain ⟨rfl, laFacts⟩ := haFacts.slen
 have jb_aS := a0i (l := aS)
 have jb_aL := a1l (c := B1) (t := (fun x => x.2.1.length)) (n := 4) (fun x => by simp only [B1, a0i]; omega) (l := aL)
 have jc_aL : E0 (fun x => x.2.1.length) aL = aL.length + j8 (fun x => x.2.1.length) aL := rfl
 have b2i := a0i (l := u0)
 have b1R := a1l (c := B3) (t := (fun x => x.2.length)) (n := 1) (fun x => by simp only [B3, a0i]; omega) (l := r9)
 have b1S : E0 (fun x => x.2.length) r9 = r9.length + j8 (fun x => x.2.length) r9 := rfl
 have jb_aSteps := a1l (c := E9) (t := (fun x => 0)) (n := 2) (fun x => by simp only [E9, a0i]; omega) (l := aSteps)
 have jc_aSteps : E0 (fun x => 0) aSteps = aSteps.length + j8 (fun x => 0) aSteps := rfl
 have jb_aFacts := a1l (c := s7) (t := (fun x => x.2.length)) (n := 1) (fun x => by simp only [s7, a0i]; omega) (l := aFacts)
 have jc_aFacts : E0 (fun x => x.2.length) aFacts = aFacts.length + j8 (fun x => x.2.length) aFacts := rfl
 obtain ⟨r1, r2, r3⟩ := b1c (s := aS) (l := aL) (q := (u0, r9)) (d7 := aSteps) (d8 := aFacts) (c := aChoice)
 have r4 := b0b (s := aS) (l := aL) (q := (u0, r9)) (d7 := aSteps) (d8 := aFacts) (c := aChoice)
 refine Ew Z2 (Est rfl (N.box (cs := [_, _]) rfl dc rfl) (fun b8 _ => (Eas rfl rfl (Eu (Eq_ (Ew Z3 (Emv rfl rfl (Ey rfl ((Y.len us_Is rfl).yd) (Ey rfl ((Y.gtr rfl rfl).yd) (Ent.d (fun q27 => ?_) (fun q27 => ?_)))))))))))
 ·refine Eu (E.ct rfl (Ew Z1 (Eas rfl rfl ?_)))
  exact Eu (E.ret (E.thr (Fg rfl rfl () rfl rfl)))
 ·refine Eu (E.cf rfl (E.skipc (Et (Ew Z1 (Eas rfl rfl (Ev Z4 (Emv rfl rfl (Emv rfl rfl (Est rfl (N.call0 a4v rfl rfl rfl dc (fun w Lp hA => ⟨hA.ro haL, (by first | assumption | omega), (by first | assumption | omega)⟩)) (fun _ _ => (Eas rfl rfl (Eu (Eq_ (Ew Z2 (Emv rfl rfl (Ey rfl ((Y.lss rfl rfl).yd) (Ent.d (fun q32 => ?_) (fun q32 => ?_))))))))))))))))))
  ·have z32 := U1 q32 om
   refine Eu (E.ct rfl (Ew Z1 (Eas rfl rfl ?_)))
   exact Eu (E.ret (E.thr (Fg rfl rfl () rfl rfl)))
  ·obtain ⟨z32, y32⟩ := X4 q32 om
   refine Eu (E.cf rfl (E.skipc (Et (Ew Z4 (Ey rfl (Y.ldS (cs := [_, _]) ty_lQuery rfl (Has.pt m0) rfl) (Emv rfl rfl (Est rfl (N.call0 a5G rfl rfl rfl dc (fun w Lp hA => ⟨hA.ro R2, hA.ro O0, (by first | assumption | omega), (by first | assumption | omega)⟩)) (fun _ _ => (Eas rfl rfl (Eu (Eq_ (Ew Z2 (Emv rfl rfl (Ey rfl ((Y.lss rfl rfl).yd) (Ent.d (fun q37 => ?_) (fun q37 => ?_))))))))))))))))
   ·have z37 := U1 q37 om
    refine Eu (E.ct rfl (Ew Z1 (Eas rfl rfl ?_)))
    exact Eu (E.ret (E.thr (Fg rfl rfl () rfl rfl)))
   ·obtain ⟨z37, y37⟩ := X4 q37 om
    refine Eu (E.cf rfl (E.skipc (Et (Ew Z4 (Emv rfl rfl (Emv rfl rfl (Est rfl (N.call0 a5f rfl rfl rfl dc (fun w Lp hA => ⟨hA.ro haSteps, (by first | assumption | omega), (by first | assumption | omega)⟩)) (fun _ _ => (Eas rfl rfl (Eu (Eq_ (Ew Z2 (Emv rfl rfl (Ey rfl ((Y.lss rfl rfl).yd) (Ent.d (fun q42 => ?_) (fun q42 => ?_))))))))))))))))
    ·have z42 := U1 q42 om
     refine Eu (E.ct rfl (Ew Z1 (Eas rfl rfl ?_)))
     exact Eu (E.ret (E.thr (Fg rfl rfl () rfl rfl)))
    ·obtain ⟨z42, y42⟩ := X4 q42 om
     refine Eu (E.cf rfl (E.skipc (Et (Ew Z4 (Emv rfl rfl (Emv rfl rfl (Est rfl (N.call0 a5F rfl rfl rfl dc (fun w Lp hA => ⟨hA.ro haFacts, (by first | assumption | omega), (by first | assumption | omega)⟩)) (fun _ _ => (Eas rfl rfl (Eu (Eq_ (Ew Z2 (Emv rfl rfl (Ey rfl ((Y.lss rfl rfl).yd) (Ent.d (fun q47 => ?_) (fun q47 => ?_))))))))))))))))
     ·have z47 := U1 q47 om
      refine Eu (E.ct rfl (Ew Z1 (Eas rfl rfl ?_)))
      exact Eu (E.ret (E.thr (Fg rfl rfl () rfl rfl)))
     ·obtain ⟨z47, y47⟩ := X4 q47 om
      refine Eu (E.cf rfl (E.skipc (Et (Eq_ (E.mid (κ := Nat × Option Addr × Nat × Option Addr × Nat × Option Addr × Nat) (fun _ => True) (fun kM => [(0, .slice a_aS aS.length c_aS), (1, .slice a_aL aL.length c_aL), (3, .slice a_aSteps aSteps.length c_aSteps), (4, .slice a_aFacts aFacts.length c_aFacts), (5, .int .i64 aChoice), (8, .pointer (some ⟨b8, 0, none⟩)), (14, .pointer (some ⟨kM.1, 0, none⟩))]) (fun kM => [pt kM.1 57 [.slice kM.2.1 ((x6 aS aL (u0, r9) aSteps aFacts aChoice).1).length kM.2.2.1, .slice kM.2.2.2.1 ((x6 aS aL (u0, r9) aSteps aFacts aChoice).2.1).length kM.2.2.2.2.1, .slice kM.2.2.2.2.2.1 ((x6 aS aL (u0, r9) aSteps aFacts aChoice).2.2.1).length kM.2.2.2.2.2.2, .int .i64 ((x6 aS aL (u0, r9) aSteps aFacts aChoice).2.2.2)], ow D0 [.slice kM.2.1 ((x6 aS aL (u0, r9) aSteps aFacts aChoice).1).length kM.2.2.1] ((x6 aS aL (u0, r9) aSteps aFacts aChoice).1), ow t7 [.slice kM.2.2.2.1 ((x6 aS aL (u0, r9) aSteps aFacts aChoice).2.1).length kM.2.2.2.2.1] ((x6 aS aL (u0, r9) aSteps aFacts aChoice).2.1), ow j9 [.slice kM.2.2.2.2.2.1 ((x6 aS aL (u0, r9) aSteps aFacts aChoice).2.2.1).length kM.2.2.2.2.2.2] ((x6 aS aL (u0, r9) aSteps aFacts aChoice).2.2.1), pt b8 51 [.slice a0Z u0.length a1a, .slice a0O r9.length a0P]]) ?_ (fun kM _ => ?_))))))
      ·refine D.region (fun j => !(Nat.beq j 13)) mixed (Dyp 0 rfl (Y.mv rfl) (Dyp 2 rfl (Y.mv rfl) (Dy 4 rfl (Y.ldS (cs := [_, _]) ty_lQuery rfl (Has.pt m0) rfl) (Dyp 6 rfl (Y.mv rfl) (Dyp 8 rfl (Y.mv rfl) (Dyp 10 rfl (Y.mv rfl) (D.ch2 (i := 1) (j := 12) kr ?_ ?_)))))))
       ·refine D.pk 1 rfl rfl (fun _ => rfl) (N.call (I4 fc) rfl rfl rfl dc rfl (fun w Lp hA => hA.ro haS)) (fun k49 _ => ?_)
        obtain ⟨a49, m49, c49⟩ := k49
        refine Ent.lenow m0 fun e49 l49 => ?_
        subst e49
        refine D.ch2 (i := 3) (j := 12) kr ?_ ?_
        ·refine D.pk 3 rfl rfl (fun _ => rfl) (N.call (I2 fc) rfl rfl rfl dc rfl (fun w Lp hA => hA.ro haL)) (fun k51 _ => ?_)
         obtain ⟨a51, m51, c51⟩ := k51
         refine Ent.lenow m0 fun e51 l51 => ?_
         subst e51
         refine D.ch2 (i := 5) (j := 12) kr ?_ ?_
         ·refine D.pk 5 rfl rfl (fun _ => rfl) (N.call (H3 fc fc) rfl rfl rfl dc rfl (fun w Lp hA => ⟨hA.ro R2, hA.ro O0⟩)) (fun k53 _ => ?_)
          obtain ⟨⟨a53_0, m53_0, c53_0⟩, ⟨a53_1, m53_1, c53_1⟩⟩ := k53
          refine Ent.lenow m0 fun e53_0 l53_0 => ?_
          subst e53_0
          refine Ent.lenow (mS m0) fun e53_1 l53_1 => ?_
          subst e53_1
          refine D.ch2 (i := 7) (j := 12) kr ?_ ?_
          ·refine D.pk 7 rfl rfl (fun _ => rfl) (N.call (F7 fc) rfl rfl rfl dc rfl (fun w Lp hA => hA.ro haSteps)) (fun k55 _ => ?_)
           obtain ⟨a55, m55, c55⟩ := k55
           refine Ent.lenow m0 fun e55 l55 => ?_
           subst e55
           refine D.ch2 (i := 9) (j := 12) kr ?_ ?_
           ·refine D.pk 9 rfl rfl (fun _ => rfl) (N.call (E1 fc) rfl rfl rfl dc rfl (fun w Lp hA => hA.ro haFacts)) (fun k57 _ => ?_)
            obtain ⟨a57, m57, c57⟩ := k57
            refine Ent.lenow m0 fun e57 l57 => ?_
            subst e57
            refine D.ch2 (i := 11) (j := 12) kr ?_ ?_
            ·refine D.pk 11 rfl rfl (fun _ => rfl) (N.call (L9 fc) rfl rfl rfl dc rfl (fun w Lp hA => ⟨hA.ow (mS (mS (mS (mS (mS m0))))), hA.ow (mS (mS (mS (mS m0)))), hA.ow (mS (mS m0)), hA.ow (mS (mS (mS m0))), hA.ow (mS m0), hA.ow m0⟩)) (fun k59 _ => ?_)
             obtain ⟨⟨a59_0, m59_0, c59_0⟩, ⟨a59_1, m59_1, c59_1⟩, ⟨a59_2, m59_2, c59_2⟩⟩ := k59
             refine Ent.lenow m0 fun e59_0 l59_0 => ?_
             subst e59_0
             refine Ent.lenow (mS m0) fun e59_1 l59_1 => ?_
             subst e59_1
             refine Ent.lenow (mS (mS m0)) fun e59_2 l59_2 => ?_
             subst e59_2
             refine D.st 12 rfl rfl kr (fun _ => rfl) (N.alloc ty_Run dc) (fun b14 _ => (D.st 13 rfl rfl kr (fun h => by cases h) (N.sto (vs := [_, _, _, _]) (cs' := [_, _, _, _]) ty_Run rfl rfl rfl rfl rfl bl rfl) (fun _ _ => (D.done kr (Ent.p4 (Ent.drop (Ent.p4 (Ent.drop (Ent.p4 (Ent.drop (Ent.p4 (Ent.drop (Ent.p4 (Ent.drop (Ent.p4 (Ent.drop (Ent.p4 (Ent.p4 (Ent.p4 (Ent.p4 (Ent.p4 ?_)))))))))))))))))))))
             exact E.mdn (b14, a59_0, c59_0, a59_1, c59_1, a59_2, c59_2) trivial ⟨rfl, rfl, rfl, rfl, rfl, rfl, rfl, trivial⟩ (.refl _)
            ·refine D.pk 12 rfl rfl (fun _ => rfl) (N.alloc ty_Run dc) (fun b14 _ => (D.st 11 rfl rfl kr (fun _ => rfl) (N.call (L9 fc) rfl rfl rfl dc rfl (fun w Lp hA => ⟨hA.ow (mS (mS (mS (mS (mS (mS m0)))))), hA.ow (mS (mS (mS (mS (mS m0))))), hA.ow (mS (mS (mS m0))), hA.ow (mS (mS (mS (mS m0)))), hA.ow (mS (mS m0)), hA.ow (mS m0)⟩)) (fun k59 _ => ?_)))
             obtain ⟨⟨a59_0, m59_0, c59_0⟩, ⟨a59_1, m59_1, c59_1⟩, ⟨a59_2, m59_2, c59_2⟩⟩ := k59
             refine Ent.lenow m0 fun e59_0 l59_0 => ?_
             subst e59_0
             refine Ent.lenow (mS m0) fun e59_1 l59_1 => ?_
             subst e59_1
             refine Ent.lenow (mS (mS m0)) fun e59_2 l59_2 => ?_
             subst e59_2
             refine Ent.p3 (D.st 13 rfl rfl kr (fun h => by cases h) (N.sto (vs := [_, _, _, _]) (cs' := [_, _, _, _]) ty_Run rfl rfl rfl rfl rfl bl rfl) (fun _ _ => (D.done kr (Ent.p4 (Ent.drop (Ent.p4 (Ent.drop (Ent.p4 (Ent.drop (Ent.p4 (Ent.drop (Ent.p4 (Ent.drop (Ent.p4 (Ent.drop (Ent.p4 (Ent.p4 (Ent.p4 (Ent.p4 (Ent.p4 ?_))))))))))))))))))))
             exact E.mdn (b14, a59_0, c59_0, a59_1, c59_1, a59_2, c59_2) trivial ⟨rfl, rfl, rfl, rfl, rfl, rfl, rfl, trivial⟩ (.refl _)
           ·refine D.pk 12 rfl rfl (fun _ => rfl) (N.alloc ty_Run dc) (fun b14 _ => (D.st 9 rfl rfl kr (fun _ => rfl) (N.call (E1 fc) rfl rfl rfl dc rfl (fun w Lp hA => hA.ro haFacts)) (fun k57 _ => ?_)))
            obtain ⟨a57, m57, c57⟩ := k57
            refine Ent.lenow m0 fun e57 l57 => ?_
            subst e57
            refine D.st 11 rfl rfl kr (fun _ => rfl) (N.call (L9 fc) rfl rfl rfl dc rfl (fun w Lp hA => ⟨hA.ow (mS (mS (mS (mS (mS (mS m0)))))), hA.ow (mS (mS (mS (mS (mS m0))))), hA.ow (mS (mS (mS m0))), hA.ow (mS (mS (mS (mS m0)))), hA.ow (mS (mS m0)), hA.ow m0⟩)) (fun k59 _ => ?_)
            obtain ⟨⟨a59_0, m59_0, c59_0⟩, ⟨a59_1, m59_1, c59_1⟩, ⟨a59_2, m59_2, c59_2⟩⟩ := k59
            refine Ent.lenow m0 fun e59_0 l59_0 => ?_
            subst e59_0
            refine Ent.lenow (mS m0) fun e59_1 l59_1 => ?_
            subst e59_1
            refine Ent.lenow (mS (mS m0)) fun e59_2 l59_2 => ?_
            subst e59_2
            refine Ent.p4 (D.st 13 rfl rfl kr (fun h => by cases h) (N.sto (vs := [_, _, _, _]) (cs' := [_, _, _, _]) ty_Run rfl rfl rfl rfl rfl bl rfl) (fun _ _ => (D.done kr (Ent.p4 (Ent.drop (Ent.p4 (Ent.drop (Ent.p4 (Ent.drop (Ent.p4 (Ent.drop (Ent.p4 (Ent.drop (Ent.p4 (Ent.drop (Ent.p4 (Ent.p4 (Ent.p4 (Ent.p4 (Ent.p4 ?_))))))))))))))))))))
            exact E.mdn (b14, a59_0, c59_0, a59_1, c59_1, a59_2, c59_2) trivial ⟨rfl, rfl, rfl, rfl, rfl, rfl, rfl, trivial⟩ (.refl _)
          ·refine D.pk 12 rfl rfl (fun _ => rfl) (N.alloc ty_Run dc) (fun b14 _ => (D.st 7 rfl rfl kr (fun _ => rfl) (N.call (F7 fc) rfl rfl rfl dc rfl (fun w Lp hA => hA.ro haSteps)) (fun k55 _ => ?_)))
           obtain ⟨a55, m55, c55⟩ := k55
           refine Ent.lenow m0 fun e55 l55 => ?_
           subst e55
           refine D.st 9 rfl rfl kr (fun _ => rfl) (N.call (E1 fc) rfl rfl rfl dc rfl (fun w Lp hA => hA.ro haFacts)) (fun k57 _ => ?_)
           obtain ⟨a57, m57, c57⟩ := k57
           refine Ent.lenow m0 fun e57 l57 => ?_
           subst e57
           refine D.st 11 rfl rfl kr (fun _ => rfl) (N.call (L9 fc) rfl rfl rfl dc rfl (fun w Lp hA => ⟨hA.ow (mS (mS (mS (mS (mS (mS m0)))))), hA.ow (mS (mS (mS (mS (mS m0))))), hA.ow (mS (mS (mS m0))), hA.ow (mS (mS (mS (mS m0)))), hA.ow (mS m0), hA.ow m0⟩)) (fun k59 _ => ?_)
           obtain ⟨⟨a59_0, m59_0, c59_0⟩, ⟨a59_1, m59_1, c59_1⟩, ⟨a59_2, m59_2, c59_2⟩⟩ := k59
           refine Ent.lenow m0 fun e59_0 l59_0 => ?_
           subst e59_0
           refine Ent.lenow (mS m0) fun e59_1 l59_1 => ?_
           subst e59_1
           refine Ent.lenow (mS (mS m0)) fun e59_2 l59_2 => ?_
           subst e59_2
           refine Ent.p5 (D.st 13 rfl rfl kr (fun h => by cases h) (N.sto (vs := [_, _, _, _]) (cs' := [_, _, _, _]) ty_Run rfl rfl rfl rfl rfl bl rfl) (fun _ _ => (D.done kr (Ent.p4 (Ent.drop (Ent.p4 (Ent.drop (Ent.p4 (Ent.drop (Ent.p4 (Ent.drop (Ent.p4 (Ent.drop (Ent.p4 (Ent.drop (Ent.p4 (Ent.p4 (Ent.p4 (Ent.p4 (Ent.p4 ?_))))))))))))))))))))
           exact E.mdn (b14, a59_0, c59_0, a59_1, c59_1, a59_2, c59_2) trivial ⟨rfl, rfl, rfl, rfl, rfl, rfl, rfl, trivial⟩ (.refl _)
         ·refine D.pk 12 rfl rfl (fun _ => rfl) (N.alloc ty_Run dc) (fun b14 _ => (D.st 5 rfl rfl kr (fun _ => rfl) (N.call (H3 fc fc) rfl rfl rfl dc rfl (fun w Lp hA => ⟨hA.ro R2, hA.ro O0⟩)) (fun k53 _ => ?_)))
          obtain ⟨⟨a53_0, m53_0, c53_0⟩, ⟨a53_1, m53_1, c53_1⟩⟩ := k53
          refine Ent.lenow m0 fun e53_0 l53_0 => ?_
          subst e53_0
          refine Ent.lenow (mS m0) fun e53_1 l53_1 => ?_
          subst e53_1
          refine D.st 7 rfl rfl kr (fun _ => rfl) (N.call (F7 fc) rfl rfl rfl dc rfl (fun w Lp hA => hA.ro haSteps)) (fun k55 _ => ?_)
          obtain ⟨a55, m55, c55⟩ := k55
          refine Ent.lenow m0 fun e55 l55 => ?_
          subst e55
          refine D.st 9 rfl rfl kr (fun _ => rfl) (N.call (E1 fc) rfl rfl rfl dc rfl (fun w Lp hA => hA.ro haFacts)) (fun k57 _ => ?_)
          obtain ⟨a57, m57, c57⟩ := k57
          refine Ent.lenow m0 fun e57 l57 => ?_
          subst e57
          refine D.st 11 rfl rfl kr (fun _ => rfl) (N.call (L9 fc) rfl rfl rfl dc rfl (fun w Lp hA => ⟨hA.ow (mS (mS (mS (mS (mS (mS m0)))))), hA.ow (mS (mS (mS (mS (mS m0))))), hA.ow (mS (mS m0)), hA.ow (mS (mS (mS m0))), hA.ow (mS m0), hA.ow m0⟩)) (fun k59 _ => ?_)
          obtain ⟨⟨a59_0, m59_0, c59_0⟩, ⟨a59_1, m59_1, c59_1⟩, ⟨a59_2, m59_2, c59_2⟩⟩ := k59
          refine Ent.lenow m0 fun e59_0 l59_0 => ?_
          subst e59_0
          refine Ent.lenow (mS m0) fun e59_1 l59_1 => ?_
          subst e59_1
          refine Ent.lenow (mS (mS m0)) fun e59_2 l59_2 => ?_
          subst e59_2
          refine Ent.p7 (D.st 13 rfl rfl kr (fun h => by cases h) (N.sto (vs := [_, _, _, _]) (cs' := [_, _, _, _]) ty_Run rfl rfl rfl rfl rfl bl rfl) (fun _ _ => (D.done kr (Ent.p4 (Ent.drop (Ent.p4 (Ent.drop (Ent.p4 (Ent.drop (Ent.p4 (Ent.drop (Ent.p4 (Ent.drop (Ent.p4 (Ent.drop (Ent.p4 (Ent.p4 (Ent.p4 (Ent.p4 (Ent.p4 ?_))))))))))))))))))))
          exact E.mdn (b14, a59_0, c59_0, a59_1, c59_1, a59_2, c59_2) trivial ⟨rfl, rfl, rfl, rfl, rfl, rfl, rfl, trivial⟩ (.refl _)
        ·refine D.pk 12 rfl rfl (fun _ => rfl) (N.alloc ty_Run dc) (fun b14 _ => (D.st 3 rfl rfl kr (fun _ => rfl) (N.call (I2 fc) rfl rfl rfl dc rfl (fun w Lp hA => hA.ro haL)) (fun k51 _ => ?_)))
         obtain ⟨a51, m51, c51⟩ := k51
         refine Ent.lenow m0 fun e51 l51 => ?_
         subst e51
         refine D.st 5 rfl rfl kr (fun _ => rfl) (N.call (H3 fc fc) rfl rfl rfl dc rfl (fun w Lp hA => ⟨hA.ro R2, hA.ro O0⟩)) (fun k53 _ => ?_)
         obtain ⟨⟨a53_0, m53_0, c53_0⟩, ⟨a53_1, m53_1, c53_1⟩⟩ := k53
         refine Ent.lenow m0 fun e53_0 l53_0 => ?_
         subst e53_0
         refine Ent.lenow (mS m0) fun e53_1 l53_1 => ?_
         subst e53_1
         refine D.st 7 rfl rfl kr (fun _ => rfl) (N.call (F7 fc) rfl rfl rfl dc rfl (fun w Lp hA => hA.ro haSteps)) (fun k55 _ => ?_)
         obtain ⟨a55, m55, c55⟩ := k55
         refine Ent.lenow m0 fun e55 l55 => ?_
         subst e55
         refine D.st 9 rfl rfl kr (fun _ => rfl) (N.call (E1 fc) rfl rfl rfl dc rfl (fun w Lp hA => hA.ro haFacts)) (fun k57 _ => ?_)
         obtain ⟨a57, m57, c57⟩ := k57
         refine Ent.lenow m0 fun e57 l57 => ?_
         subst e57
         refine D.st 11 rfl rfl kr (fun _ => rfl) (N.call (L9 fc) rfl rfl rfl dc rfl (fun w Lp hA => ⟨hA.ow (mS (mS (mS (mS (mS (mS m0)))))), hA.ow (mS (mS (mS (mS m0)))), hA.ow (mS (mS m0)), hA.ow (mS (mS (mS m0))), hA.ow (mS m0), hA.ow m0⟩)) (fun k59 _ => ?_)
         obtain ⟨⟨a59_0, m59_0, c59_0⟩, ⟨a59_1, m59_1, c59_1⟩, ⟨a59_2, m59_2, c59_2⟩⟩ := k59
         refine Ent.lenow m0 fun e59_0 l59_0 => ?_
         subst e59_0
         refine Ent.lenow (mS m0) fun e59_1 l59_1 => ?_
         subst e59_1
         refine Ent.lenow (mS (mS m0)) fun e59_2 l59_2 => ?_
         subst e59_2
         refine Ent.p8 (D.st 13 rfl rfl kr (fun h => by cases h) (N.sto (vs := [_, _, _, _]) (cs' := [_, _, _, _]) ty_Run rfl rfl rfl rfl rfl bl rfl) (fun _ _ => (D.done kr (Ent.p4 (Ent.drop (Ent.p4 (Ent.drop (Ent.p4 (Ent.drop (Ent.p4 (Ent.drop (Ent.p4 (Ent.drop (Ent.p4 (Ent.drop (Ent.p4 (Ent.p4 (Ent.p4 (Ent.p4 (Ent.p4 ?_))))))))))))))))))))
         exact E.mdn (b14, a59_0, c59_0, a59_1, c59_1, a59_2, c59_2) trivial ⟨rfl, rfl, rfl, rfl, rfl, rfl, rfl, trivial⟩ (.refl _)
       ·refine D.pk 12 rfl rfl (fun _ => rfl) (N.alloc ty_Run dc) (fun b14 _ => (D.st 1 rfl rfl kr (fun _ => rfl) (N.call (I4 fc) rfl rfl rfl dc rfl (fun w Lp hA => hA.ro haS)) (fun k49 _ => ?_)))
        obtain ⟨a49, m49, c49⟩ := k49
        refine Ent.lenow m0 fun e49 l49 => ?_
        subst e49
        refine D.st 3 rfl rfl kr (fun _ => rfl) (N.call (I2 fc) rfl rfl rfl dc rfl (fun w Lp hA => hA.ro haL)) (fun k51 _ => ?_)
        obtain ⟨a51, m51, c51⟩ := k51
        refine Ent.lenow m0 fun e51 l51 => ?_
        subst e51
        refine D.st 5 rfl rfl kr (fun _ => rfl) (N.call (H3 fc fc) rfl rfl rfl dc rfl (fun w Lp hA => ⟨hA.ro R2, hA.ro O0⟩)) (fun k53 _ => ?_)
        obtain ⟨⟨a53_0, m53_0, c53_0⟩, ⟨a53_1, m53_1, c53_1⟩⟩ := k53
        refine Ent.lenow m0 fun e53_0 l53_0 => ?_
        subst e53_0
        refine Ent.lenow (mS m0) fun e53_1 l53_1 => ?_
        subst e53_1
        refine D.st 7 rfl rfl kr (fun _ => rfl) (N.call (F7 fc) rfl rfl rfl dc rfl (fun w Lp hA => hA.ro haSteps)) (fun k55 _ => ?_)
        obtain ⟨a55, m55, c55⟩ := k55
        refine Ent.lenow m0 fun e55 l55 => ?_
        subst e55
        refine D.st 9 rfl rfl kr (fun _ => rfl) (N.call (E1 fc) rfl rfl rfl dc rfl (fun w Lp hA => hA.ro haFacts)) (fun k57 _ => ?_)
        obtain ⟨a57, m57, c57⟩ := k57
        refine Ent.lenow m0 fun e57 l57 => ?_
        subst e57
        refine D.st 11 rfl rfl kr (fun _ => rfl) (N.call (L9 fc) rfl rfl rfl dc rfl (fun w Lp hA => ⟨hA.ow (mS (mS (mS (mS (mS m0))))), hA.ow (mS (mS (mS (mS m0)))), hA.ow (mS (mS m0)), hA.ow (mS (mS (mS m0))), hA.ow (mS m0), hA.ow m0⟩)) (fun k59 _ => ?_)
        obtain ⟨⟨a59_0, m59_0, c59_0⟩, ⟨a59_1, m59_1, c59_1⟩, ⟨a59_2, m59_2, c59_2⟩⟩ := k59
        refine Ent.lenow m0 fun e59_0 l59_0 => ?_
        subst e59_0
        refine Ent.lenow (mS m0) fun e59_1 l59_1 => ?_
        subst e59_1
        refine Ent.lenow (mS (mS m0)) fun e59_2 l59_2 => ?_
        subst e59_2
        refine Ent.p9 (D.st 13 rfl rfl kr (fun h => by cases h) (N.sto (vs := [_, _, _, _]) (cs' := [_, _, _, _]) ty_Run rfl rfl rfl rfl rfl bl rfl) (fun _ _ => (D.done kr (Ent.p4 (Ent.drop (Ent.p4 (Ent.drop (Ent.p4 (Ent.drop (Ent.p4 (Ent.drop (Ent.p4 (Ent.drop (Ent.p4 (Ent.drop (Ent.p4 (Ent.p4 (Ent.p4 (Ent.p4 (Ent.p4 ?_))))))))))))))))))))
        exact E.mdn (b14, a59_0, c59_0, a59_1, c59_1, a59_2, c59_2) trivial ⟨rfl, rfl, rfl, rfl, rfl, rfl, rfl, trivial⟩ (.refl _)
      ·obtain ⟨b14, a59_0, c59_0, a59_1, c59_1, a59_2, c59_2⟩ := kM
       try dsimp only
       refine Et (Ew Z3 (Emv rfl rfl (Est rfl (N.call (I4 fc) rfl rfl rfl dc rfl (fun w Lp hA => hA.ro haS)) (fun k61 _ => ?_))))
       obtain ⟨a61, m61, c61⟩ := k61
       refine Ent.lenow m0 fun e61 l61 => ?_
       subst e61
       refine Eas rfl rfl (Ev Z3 (Emv rfl rfl (Est rfl (N.call (I2 fc) rfl rfl rfl dc rfl (fun w Lp hA => hA.ro haL)) (fun k63 _ => ?_))))
       obtain ⟨a63, m63, c63⟩ := k63
       refine Ent.lenow m0 fun e63 l63 => ?_
       subst e63
       refine Eas rfl rfl (Ev Z4 (Ey rfl (Y.ldS (cs := [_, _]) ty_lQuery rfl (Has.pt (mS (mS (mS (mS (mS (mS m0))))))) rfl) (Est rfl (N.call (H3 fc fc) rfl rfl rfl dc rfl (fun w Lp hA => ⟨hA.ro R2, hA.ro O0⟩)) (fun k65 _ => ?_))))
       obtain ⟨⟨a65_0, m65_0, c65_0⟩, ⟨a65_1, m65_1, c65_1⟩⟩ := k65
       refine Ent.lenow m0 fun e65_0 l65_0 => ?_
       subst e65_0
       refine Ent.lenow (mS m0) fun e65_1 l65_1 => ?_
       subst e65_1
       refine Est rfl (N.alloc ty_Query dc) (fun b17 _ => (Est rfl (N.sto (vs := [_, _]) (cs' := [_, _]) ty_Query rfl rfl rfl rfl rfl bl rfl) (fun _ _ => (Ev Z3 (Emv rfl rfl (Est rfl (N.call (F7 fc) rfl rfl rfl dc rfl (fun w Lp hA => hA.ro haSteps)) (fun k67 _ => ?_)))))))
       obtain ⟨a67, m67, c67⟩ := k67
       refine Ent.lenow m0 fun e67 l67 => ?_
       subst e67
       refine Eas rfl rfl (Ev Z3 (Emv rfl rfl (Est rfl (N.call (E1 fc) rfl rfl rfl dc rfl (fun w Lp hA => hA.ro haFacts)) (fun k69 _ => ?_))))
       obtain ⟨a69, m69, c69⟩ := k69
       refine Ent.lenow m0 fun e69 l69 => ?_
       subst e69
       refine Eas rfl rfl (Ev Z9 (Emv rfl rfl (Emv rfl rfl (Ey rfl (Y.ldS (cs := [_, _]) ty_Query rfl (Has.pt (mS (mS m0))) rfl) (Emv rfl rfl (Emv rfl rfl (Emv rfl rfl (Est rfl (N.call (J3 fc) rfl rfl rfl dc rfl (fun w Lp hA => ⟨hA.ow (mS (mS (mS (mS (mS (mS m0)))))), hA.ow (mS (mS (mS (mS (mS m0))))), hA.ow (mS (mS (mS m0))), hA.ow (mS (mS (mS (mS m0)))), hA.ow (mS m0), hA.ow m0⟩)) (fun k76 _ => ?_)))))))))
       obtain ⟨⟨a76_0, m76_0, c76_0⟩, ⟨a76_1, m76_1, c76_1⟩, ⟨a76_2, m76_2, c76_2⟩⟩ := k76
       refine Ent.lenow m0 fun e76_0 l76_0 => ?_
       subst e76_0
       refine Ent.lenow (mS m0) fun e76_1 l76_1 => ?_
       subst e76_1
       refine Ent.lenow (mS (mS m0)) fun e76_2 l76_2 => ?_
       subst e76_2
       refine Est rfl (N.alloc ty_Run dc) (fun b20 _ => (Est rfl (N.sto (vs := [_, _, _, _]) (cs' := [_, _, _, _]) ty_Run rfl rfl rfl rfl rfl bl rfl) (fun _ _ => (Eu (Eq_ (Ew Z4 (Ey rfl (Y.ldS (cs := [_, _, _, _]) ty_Run rfl (Has.pt m0) rfl) (Ey rfl (Y.ldS (cs := [_, _, _, _]) ty_Run rfl (Has.pt (mS (mS (mS (mS (mS (mS (mS (mS (mS (mS (mS m0)))))))))))) rfl) (Est rfl (N.call0 a1i rfl rfl rfl dc (fun w Lp hA => ⟨hA.ow (mS m0), hA.ow (mS (mS m0)), hA.ow (mS (mS (mS m0))), i6, hA.ow (mS (mS (mS (mS (mS (mS (mS (mS (mS (mS (mS (mS m0)))))))))))), hA.ow (mS (mS (mS (mS (mS (mS (mS (mS (mS (mS (mS (mS (mS m0))))))))))))), hA.ow (mS (mS (mS (mS (mS (mS (mS (mS (mS (mS (mS (mS (mS (mS m0)))))))))))))), i6⟩)) (fun _ _ => (Ent.b (fun q79 => ?_) (fun q79 => ?_))))))))))))
       ·refine Ey rfl ((Y.not (b := true) rfl).yd) (Eu (E.cf rfl (E.skipc (Et (Eq_ (Ew Z5 (Emv rfl rfl (Emv rfl rfl (Est rfl (N.call (I4 fc) rfl rfl rfl dc rfl (fun w Lp hA => hA.ro haS)) (fun k83 _ => ?_))))))))))
        obtain ⟨a83, m83, c83⟩ := k83
        refine Ent.lenow m0 fun e83 l83 => ?_
        subst e83
        refine Est rfl (N.call0 Q3 rfl rfl rfl dc (fun w Lp hA => ⟨hA.ow (mS (mS (mS (mS (mS (mS (mS (mS (mS (mS (mS m0))))))))))), hA.ow m0⟩)) (fun _ _ => (Ent.b (fun q84 => ?_) (fun q84 => ?_)))
        ·refine Ey rfl ((Y.not (b := true) rfl).yd) (Eu (E.cf rfl (E.skipc (Et (Eq_ (Ew Z5 (Emv rfl rfl (Emv rfl rfl (Est rfl (N.call (I2 fc) rfl rfl rfl dc rfl (fun w Lp hA => hA.ro haL)) (fun k88 _ => ?_))))))))))
         obtain ⟨a88, m88, c88⟩ := k88
         refine Ent.lenow m0 fun e88 l88 => ?_
         subst e88
         refine Est rfl (N.call0 a4a rfl rfl rfl dc (fun w Lp hA => ⟨hA.ow (mS (mS (mS (mS (mS (mS (mS (mS (mS (mS (mS m0))))))))))), hA.ow m0⟩)) (fun _ _ => (Ent.b (fun q89 => ?_) (fun q89 => ?_)))
         ·refine Ey rfl ((Y.not (b := true) rfl).yd) (Eu (E.cf rfl (E.skipc (Et (Eq_ (Eq_ (D.region (fun j => true) mixed (Dy 0 rfl (Y.ldS (cs := [_, _]) ty_Query rfl (Has.pt (mS (mS (mS (mS (mS (mS (mS (mS m0))))))))) rfl) (Dy 1 rfl (Y.ldS (cs := [_, _]) ty_lQuery rfl (Has.pt (mS (mS (mS (mS (mS (mS (mS (mS (mS (mS (mS (mS (mS (mS (mS (mS (mS m0)))))))))))))))))) rfl) (D.st 2 rfl rfl kr (fun _ => rfl) (N.call (H3 fc fc) rfl rfl rfl dc rfl (fun w Lp hA => ⟨hA.ro R2, hA.ro O0⟩)) (fun k93 _ => ?_)))))))))))
          obtain ⟨⟨a93_0, m93_0, c93_0⟩, ⟨a93_1, m93_1, c93_1⟩⟩ := k93
          refine Ent.lenow m0 fun e93_0 l93_0 => ?_
          subst e93_0
          refine Ent.lenow (mS m0) fun e93_1 l93_1 => ?_
          subst e93_1
          refine D.st 3 rfl rfl kr (fun _ => rfl) (N.call0 a5M rfl rfl rfl dc (fun w Lp hA => ⟨hA.ow (mS (mS (mS (mS (mS (mS (mS (mS (mS (mS (mS m0))))))))))), hA.ow (mS (mS (mS (mS (mS (mS (mS (mS (mS (mS (mS (mS m0)))))))))))), hA.ow m0, hA.ow (mS m0)⟩)) (fun _ _ => (Ent.b (fun q94 => ?_) (fun q94 => ?_)))
          ·refine Dyp 4 rfl (Y.not (b := true) rfl) (D.done kr (Et (E.cf rfl (E.skipc (Et (Eq_ (Ew Z5 (Emv rfl rfl (Emv rfl rfl (Est rfl (N.call (F7 fc) rfl rfl rfl dc rfl (fun w Lp hA => hA.ro haSteps)) (fun k98 _ => ?_)))))))))))
           obtain ⟨a98, m98, c98⟩ := k98
           refine Ent.lenow m0 fun e98 l98 => ?_
           subst e98
           refine Est rfl (N.call0 a5h rfl rfl rfl dc (fun w Lp hA => ⟨hA.ow (mS (mS (mS (mS (mS (mS (mS (mS (mS (mS m0)))))))))), hA.ow m0⟩)) (fun _ _ => (Ent.b (fun q99 => ?_) (fun q99 => ?_)))
           ·refine Ey rfl ((Y.not (b := true) rfl).yd) (Eu (E.cf rfl (E.skipc (Et (Eq_ (Ew Z5 (Emv rfl rfl (Emv rfl rfl (Est rfl (N.call (E1 fc) rfl rfl rfl dc rfl (fun w Lp hA => hA.ro haFacts)) (fun k103 _ => ?_))))))))))
            obtain ⟨a103, m103, c103⟩ := k103
            refine Ent.lenow m0 fun e103 l103 => ?_
            subst e103
            refine Est rfl (N.call0 a1R rfl rfl rfl dc (fun w Lp hA => ⟨hA.ow (mS (mS (mS (mS (mS (mS (mS (mS (mS (mS m0)))))))))), hA.ow m0⟩)) (fun _ _ => (Ent.b (fun q104 => ?_) (fun q104 => ?_)))
            ·refine Ey rfl ((Y.not (b := true) rfl).yd) (Eu (E.cf rfl (E.skipc (Et (Ew Z1 (Eas rfl rfl (Ev Z4 (Emv rfl rfl (Emv rfl rfl (Ent.p16 (Est rfl (N.call (pre := [_]) M0 rfl rfl rfl dc rfl (fun w Lp hA => ⟨(by first | assumption | omega), (by first | assumption | omega)⟩)) (fun _ _ => (Eas rfl rfl (Ev Z4 (Emv rfl rfl (Emv rfl rfl (Ent.p16 (Est rfl (N.call (pre := [_]) a2Z rfl rfl rfl dc rfl (fun w Lp hA => ⟨(by first | assumption | omega), (by first | assumption | omega)⟩)) (fun _ _ => (Eas rfl rfl (Ev Z4 (Ey rfl (Y.ldS (cs := [_, _]) ty_Query rfl (Has.pt (mS (mS (mS (mS (mS (mS (mS (mS (mS (mS (mS (mS (mS (mS m0))))))))))))))) rfl) (Emv rfl rfl (Ent.p16 (Ent.p16 (Est rfl (N.call (pre := [_, _]) a4s rfl rfl rfl dc rfl (fun w Lp hA => ⟨(by first | assumption | omega), (by first | assumption | omega)⟩)) (fun _ _ => (Eas rfl rfl (Ev Z4 (Emv rfl rfl (Emv rfl rfl (Ent.p15 (Est rfl (N.call (pre := [_]) a3M rfl rfl rfl dc rfl (fun w Lp hA => ⟨(by first | assumption | omega), (by first | assumption | omega)⟩)) (fun _ _ => (Eas rfl rfl (Ev Z4 (Emv rfl rfl (Emv rfl rfl (Ent.p15 (Est rfl (N.call (pre := [_]) a1k rfl rfl rfl dc rfl (fun w Lp hA => ⟨(by first | assumption | omega), (by first | assumption | omega)⟩)) (fun _ _ => (Eas rfl rfl (Eu (Eq_ (Ew Z8 (Emv rfl rfl (Ey rfl ((Y.lss rfl rfl).yd) (Ent.d (fun q122 => ?_) (fun q122 => ?_)))))))))))))))))))))))))))))))))))))))))))))))))
             ·exact absurd q122 om
             ·refine Emv rfl rfl (Ey rfl (Y.ldS (cs := [_, _, _, _]) ty_Run rfl (Has.pt (mS (mS (mS (mS (mS (mS (mS (mS (mS (mS (mS (mS m0))))))))))))) rfl) (Ey rfl (Y.ldS (cs := [_, _, _, _]) ty_Run rfl (Has.pt (mS (mS (mS (mS (mS (mS (mS (mS (mS (mS (mS (mS (mS (mS (mS (mS (mS m0)))))))))))))))))) rfl) (Est rfl (N.call0 a1i rfl rfl rfl dc (fun w Lp hA => ⟨hA.ow (mS (mS (mS (mS (mS (mS (mS (mS (mS (mS (mS (mS (mS m0))))))))))))), hA.ow (mS (mS (mS (mS (mS (mS (mS (mS (mS (mS (mS (mS (mS (mS m0)))))))))))))), hA.ow (mS (mS (mS (mS (mS (mS (mS (mS (mS (mS (mS (mS (mS (mS (mS m0))))))))))))))), i6, hA.ow (mS (mS (mS (mS (mS (mS (mS (mS (mS (mS (mS (mS (mS (mS (mS (mS (mS (mS m0)))))))))))))))))), hA.ow (mS (mS (mS (mS (mS (mS (mS (mS (mS (mS (mS (mS (mS (mS (mS (mS (mS (mS (mS m0))))))))))))))))))), hA.ow (mS (mS (mS (mS (mS (mS (mS (mS (mS (mS (mS (mS (mS (mS (mS (mS (mS (mS (mS (mS m0)))))))))))))))))))), i6⟩)) (fun _ _ => (Ent.b (fun q126 => ?_) (fun q126 => ?_))))))
              ·refine Ey rfl ((Y.not (b := true) rfl).yd) (Ey rfl ((Y.pkf rfl rfl).yd) (Eu (E.cf rfl (E.skipc (Et (Ew Z1 (Eas rfl rfl (Ev Z4 (Ey rfl (Y.ldS (cs := [_, _, _, _]) ty_Run rfl (Has.pt (mS (mS (mS (mS (mS (mS (mS (mS (mS (mS (mS (mS m0))))))))))))) rfl) (Emv rfl rfl (Ent.p15 (Ent.p15 (Ent.p15 (Est rfl (N.call (pre := [_, _, _]) a5O rfl rfl rfl dc rfl (fun w Lp hA => ⟨i6, (by first | assumption | omega), (by first | assumption | omega)⟩)) (fun _ _ => (Eas rfl rfl (Ev Z1 (Eas rfl rfl (Ev Z4 (Ey rfl (Y.ldS (cs := [_, _, _, _]) ty_Run rfl (Has.pt (mS (mS (mS (mS (mS (mS (mS (mS (mS (mS (mS (mS (mS (mS (mS m0)))))))))))))))) rfl) (Emv rfl rfl (Est rfl (N.call0 (a1U (by first | exact R3 V3 a6Y | (simp only [j6 P3, j6 V3, j6 K8, j6 Q9, j6 P8, j6 Q4, j6 G5, j6 J9, j6 S4, j6 Q7, j6 O5, j6 N4, j6 I5, j6 I3, j6 K9, j6 K0, j6 S3, j6 Q5, j6 S2, j6 R0]; exact R3 V3 a6Y)) (by first | exact R3 G5 a1A | (simp only [j6 P3, j6 V3, j6 K8, j6 Q9, j6 P8, j6 Q4, j6 G5, j6 J9, j6 S4, j6 Q7, j6 O5, j6 N4, j6 I5, j6 I3, j6 K9, j6 K0, j6 S3, j6 Q5, j6 S2, j6 R0]; exact R3 G5 a1A)) (by first | exact R3 K8 a3n | (simp only [j6 P3, j6 V3, j6 K8, j6 Q9, j6 P8, j6 Q4, j6 G5, j6 J9, j6 S4, j6 Q7, j6 O5, j6 N4, j6 I5, j6 I3, j6 K9, j6 K0, j6 S3, j6 Q5, j6 S2, j6 R0]; exact R3 K8 a3n))) rfl rfl rfl dc (fun w Lp hA => ⟨hA.ow m0, hA.ow (mS m0), hA.ow (mS (mS m0)), i6, (by (try simp only [j6 P3, j6 V3, j6 K8, j6 Q9, j6 P8, j6 Q4, j6 G5, j6 J9, j6 S4, j6 Q7, j6 O5, j6 N4, j6 I5, j6 I3, j6 K9, j6 K0, j6 S3, j6 Q5, j6 S2, j6 R0]); omega), (by (try simp only [j6 P3, j6 V3, j6 K8, j6 Q9, j6 P8, j6 Q4, j6 G5, j6 J9, j6 S4, j6 Q7, j6 O5, j6 N4, j6 I5, j6 I3, j6 K9, j6 K0, j6 S3, j6 Q5, j6 S2, j6 R0]); omega)⟩)) (fun _ _ => (Eas rfl rfl (Eu (Eq_ (Ew Z2 (Emv rfl rfl (Ey rfl ((Y.lss rfl rfl).yd) (Ent.d (fun q136 => ?_) (fun q136 => ?_)))))))))))))))))))))))))))))))
               ·exact absurd q136 om
               ·refine Eu (E.cf rfl (E.skipc (Et (Eq_ (Ew Z3 (Emv rfl rfl (Emv rfl rfl (Ey rfl ((Y.neq rfl rfl).yd) (Ent.d (fun q139 => ?_) (fun q139 => ?_))))))))))
                ·exact absurd (by simp only [j6 P3, j6 V3, j6 K8, j6 Q9, j6 P8, j6 Q4, j6 G5, j6 J9, j6 S4, j6 Q7, j6 O5, j6 N4, j6 I5, j6 I3, j6 K9, j6 K0, j6 S3, j6 Q5, j6 S2, j6 R0]) q139
                ·refine Eu (E.cf rfl (E.skipc (Et (Eq_ (E.mid (κ := Nat × Option Addr × Nat × Option Addr × Nat × Option Addr × Nat) (fun _ => True) (fun kM => [(14, .pointer (some ⟨b14, 0, none⟩)), (20, .pointer (some ⟨b20, 0, none⟩)), (22, .int .i64 (1 + ((j8 C1 ((x6 aS aL (u0, r9) aSteps aFacts aChoice).1) + j8 o9 ((x6 aS aL (u0, r9) aSteps aFacts aChoice).2.1) + j8 s7 ((x6 aS aL (u0, r9) aSteps aFacts aChoice).2.2.1) : Nat) : Int))), (24, .pointer (some ⟨kM.1, 0, none⟩))]) (fun kM => [pt kM.1 57 [.slice kM.2.1 ((x6 aS aL (u0, r9) aSteps aFacts aChoice).1).length kM.2.2.1, .slice kM.2.2.2.1 ((x6 aS aL (u0, r9) aSteps aFacts aChoice).2.1).length kM.2.2.2.2.1, .slice kM.2.2.2.2.2.1 ((x6 aS aL (u0, r9) aSteps aFacts aChoice).2.2.1).length kM.2.2.2.2.2.2, .int .i64 ((x6 aS aL (u0, r9) aSteps aFacts aChoice).2.2.2)], ow D0 [.slice kM.2.1 ((x6 aS aL (u0, r9) aSteps aFacts aChoice).1).length kM.2.2.1] ((x6 aS aL (u0, r9) aSteps aFacts aChoice).1), ow t7 [.slice kM.2.2.2.1 ((x6 aS aL (u0, r9) aSteps aFacts aChoice).2.1).length kM.2.2.2.2.1] ((x6 aS aL (u0, r9) aSteps aFacts aChoice).2.1), ow j9 [.slice kM.2.2.2.2.2.1 ((x6 aS aL (u0, r9) aSteps aFacts aChoice).2.2.1).length kM.2.2.2.2.2.2] ((x6 aS aL (u0, r9) aSteps aFacts aChoice).2.2.1), ow D0 [.slice a76_0 ((x6 aS aL (u0, r9) aSteps aFacts aChoice).1).length c76_0] (mkL C1 W9 ((x6 aS aL (u0, r9) aSteps aFacts aChoice).1) 1), ow t7 [.slice a76_1 ((x6 aS aL (u0, r9) aSteps aFacts aChoice).2.1).length c76_1] (mkL o9 E5 ((x6 aS aL (u0, r9) aSteps aFacts aChoice).2.1) (1 + ((j8 C1 ((x6 aS aL (u0, r9) aSteps aFacts aChoice).1) : Nat) : Int))), ow j9 [.slice a76_2 ((x6 aS aL (u0, r9) aSteps aFacts aChoice).2.2.1).length c76_2] (mkL s7 G0 ((x6 aS aL (u0, r9) aSteps aFacts aChoice).2.2.1) (1 + ((j8 C1 ((x6 aS aL (u0, r9) aSteps aFacts aChoice).1) : Nat) : Int) + ((j8 o9 ((x6 aS aL (u0, r9) aSteps aFacts aChoice).2.1) : Nat) : Int))), ow j9 [.slice a69 (aFacts).length c69] (mkL s7 G0 aFacts ((((1 + (j8 v7 aS : Nat)) + (j8 B1 aL : Nat)) + ((j8 v7 u0 + j8 B3 r9 : Nat) : Int)) + (j8 E9 aSteps : Nat))), ow K4 [.slice a67 (aSteps).length c67] (mkL E9 X6 aSteps (((1 + (j8 v7 aS : Nat)) + (j8 B1 aL : Nat)) + ((j8 v7 u0 + j8 B3 r9 : Nat) : Int))), ow eIs [.slice a65_0 (u0).length c65_0] (mkL v7 J7 u0 ((1 + (j8 v7 aS : Nat)) + (j8 B1 aL : Nat))), ow C3 [.slice a65_1 (r9).length c65_1] (mkL B3 N3 r9 (((1 + (j8 v7 aS : Nat)) + (j8 B1 aL : Nat)) + ((j8 v7 u0 : Nat) : Int))), ow z8 [.slice a63 (aL).length c63] (mkL B1 S1 aL (1 + (j8 v7 aS : Nat))), ow eIs [.slice a61 (aS).length c61] (mkL v7 J7 aS 1), ow j9 [.slice a103 (aFacts).length c103] aFacts, ow K4 [.slice a98 (aSteps).length c98] aSteps, ow eIs [.slice a93_0 (u0).length c93_0] u0, ow C3 [.slice a93_1 (r9).length c93_1] r9, ow z8 [.slice a88 (aL).length c88] aL, ow eIs [.slice a83 (aS).length c83] aS, pt b20 57 [.slice a76_0 ((x6 aS aL (u0, r9) aSteps aFacts aChoice).1).length c76_0, .slice a76_1 ((x6 aS aL (u0, r9) aSteps aFacts aChoice).2.1).length c76_1, .slice a76_2 ((x6 aS aL (u0, r9) aSteps aFacts aChoice).2.2.1).length c76_2, .int .i64 ((x6 aS aL (u0, r9) aSteps aFacts aChoice).2.2.2)], pt b17 61 [.slice a65_0 (u0).length c65_0, .slice a65_1 (r9).length c65_1], pt b14 57 [.slice a59_0 ((x6 aS aL (u0, r9) aSteps aFacts aChoice).1).length c59_0, .slice a59_1 ((x6 aS aL (u0, r9) aSteps aFacts aChoice).2.1).length c59_1, .slice a59_2 ((x6 aS aL (u0, r9) aSteps aFacts aChoice).2.2.1).length c59_2, .int .i64 ((x6 aS aL (u0, r9) aSteps aFacts aChoice).2.2.2)], ow D0 [.slice a59_0 ((x6 aS aL (u0, r9) aSteps aFacts aChoice).1).length c59_0] ((x6 aS aL (u0, r9) aSteps aFacts aChoice).1), ow t7 [.slice a59_1 ((x6 aS aL (u0, r9) aSteps aFacts aChoice).2.1).length c59_1] ((x6 aS aL (u0, r9) aSteps aFacts aChoice).2.1), ow j9 [.slice a59_2 ((x6 aS aL (u0, r9) aSteps aFacts aChoice).2.2.1).length c59_2] ((x6 aS aL (u0, r9) aSteps aFacts aChoice).2.2.1), pt b8 51 [.slice a0Z u0.length a1a, .slice a0O r9.length a0P]]) ?_ (fun kM _ => ?_))))))
                 ·refine D.region (fun j => !(Nat.beq j 13)) mixed (Dyp 0 rfl (Y.mv rfl) (Dyp 2 rfl (Y.mv rfl) (Dy 4 rfl (Y.ldS (cs := [_, _]) ty_lQuery rfl (Has.pt (mS (mS (mS (mS (mS (mS (mS (mS (mS (mS (mS (mS (mS (mS (mS (mS (mS (mS (mS (mS (mS m0)))))))))))))))))))))) rfl) (Dyp 6 rfl (Y.mv rfl) (Dyp 8 rfl (Y.mv rfl) (Dyp 10 rfl (Y.mv rfl) (D.ch2 (i := 1) (j := 12) kr ?_ ?_)))))))
                  ·refine D.pk 1 rfl rfl (fun _ => rfl) (N.call (I4 fc) rfl rfl rfl dc rfl (fun w Lp hA => hA.ro haS)) (fun k141 _ => ?_)
                   obtain ⟨a141, m141, c141⟩ := k141
                   refine Ent.lenow m0 fun e141 l141 => ?_
                   subst e141
                   refine D.ch2 (i := 3) (j := 12) kr ?_ ?_
                   ·refine D.pk 3 rfl rfl (fun _ => rfl) (N.call (I2 fc) rfl rfl rfl dc rfl (fun w Lp hA => hA.ro haL)) (fun k143 _ => ?_)
                    obtain ⟨a143, m143, c143⟩ := k143
                    refine Ent.lenow m0 fun e143 l143 => ?_
                    subst e143
                    refine D.ch2 (i := 5) (j := 12) kr ?_ ?_
                    ·refine D.pk 5 rfl rfl (fun _ => rfl) (N.call (H3 fc fc) rfl rfl rfl dc rfl (fun w Lp hA => ⟨hA.ro R2, hA.ro O0⟩)) (fun k145 _ => ?_)
                     obtain ⟨⟨a145_0, m145_0, c145_0⟩, ⟨a145_1, m145_1, c145_1⟩⟩ := k145
                     refine Ent.lenow m0 fun e145_0 l145_0 => ?_
                     subst e145_0
                     refine Ent.lenow (mS m0) fun e145_1 l145_1 => ?_
                     subst e145_1
                     refine D.ch2 (i := 7) (j := 12) kr ?_ ?_
                     ·refine D.pk 7 rfl rfl (fun _ => rfl) (N.call (F7 fc) rfl rfl rfl dc rfl (fun w Lp hA => hA.ro haSteps)) (fun k147 _ => ?_)
                      obtain ⟨a147, m147, c147⟩ := k147
                      refine Ent.lenow m0 fun e147 l147 => ?_
                      subst e147
                      refine D.ch2 (i := 9) (j := 12) kr ?_ ?_
                      ·refine D.pk 9 rfl rfl (fun _ => rfl) (N.call (E1 fc) rfl rfl rfl dc rfl (fun w Lp hA => hA.ro haFacts)) (fun k149 _ => ?_)
                       obtain ⟨a149, m149, c149⟩ := k149
                       refine Ent.lenow m0 fun e149 l149 => ?_
                       subst e149
                       refine D.ch2 (i := 11) (j := 12) kr ?_ ?_
                       ·refine D.pk 11 rfl rfl (fun _ => rfl) (N.call (J3 fc) rfl rfl rfl dc rfl (fun w Lp hA => ⟨hA.ow (mS (mS (mS (mS (mS m0))))), hA.ow (mS (mS (mS (mS m0)))), hA.ow (mS (mS m0)), hA.ow (mS (mS (mS m0))), hA.ow (mS m0), hA.ow m0⟩)) (fun k151 _ => ?_)
                        obtain ⟨⟨a151_0, m151_0, c151_0⟩, ⟨a151_1, m151_1, c151_1⟩, ⟨a151_2, m151_2, c151_2⟩⟩ := k151
                        refine Ent.lenow m0 fun e151_0 l151_0 => ?_
                        subst e151_0
                        refine Ent.lenow (mS m0) fun e151_1 l151_1 => ?_
                        subst e151_1
                        refine Ent.lenow (mS (mS m0)) fun e151_2 l151_2 => ?_
                        subst e151_2
                        refine D.st 12 rfl rfl kr (fun _ => rfl) (N.alloc ty_Run dc) (fun b24 _ => (D.st 13 rfl rfl kr (fun h => by cases h) (N.sto (vs := [_, _, _, _]) (cs' := [_, _, _, _]) ty_Run rfl rfl rfl rfl rfl bl rfl) (fun _ _ => (D.done kr (Ent.p4 (Ent.drop (Ent.p4 (Ent.drop (Ent.p4 (Ent.drop (Ent.p4 (Ent.drop (Ent.p4 (Ent.drop (Ent.p4 (Ent.drop (Ent.p25 (Ent.p25 (Ent.p25 (Ent.p25 (Ent.p25 (Ent.p25 (Ent.p25 (Ent.p25 (Ent.p25 (Ent.p25 (Ent.p25 (Ent.p25 (Ent.p25 (Ent.p25 (Ent.p25 (Ent.p25 (Ent.p25 (Ent.p25 (Ent.p25 (Ent.p25 (Ent.p25 (Ent.p25 (Ent.p25 (Ent.p25 (Ent.p25 (Ent.p25 ?_))))))))))))))))))))))))))))))))))))))))))
                        exact E.mdn (b24, a151_0, c151_0, a151_1, c151_1, a151_2, c151_2) trivial ⟨rfl, rfl, rfl, rfl, trivial⟩ (.refl _)
                       ·refine D.pk 12 rfl rfl (fun _ => rfl) (N.alloc ty_Run dc) (fun b24 _ => (D.st 11 rfl rfl kr (fun _ => rfl) (N.call (J3 fc) rfl rfl rfl dc rfl (fun w Lp hA => ⟨hA.ow (mS (mS (mS (mS (mS (mS m0)))))), hA.ow (mS (mS (mS (mS (mS m0))))), hA.ow (mS (mS (mS m0))), hA.ow (mS (mS (mS (mS m0)))), hA.ow (mS (mS m0)), hA.ow (mS m0)⟩)) (fun k151 _ => ?_)))
                        obtain ⟨⟨a151_0, m151_0, c151_0⟩, ⟨a151_1, m151_1, c151_1⟩, ⟨a151_2, m151_2, c151_2⟩⟩ := k151
                        refine Ent.lenow m0 fun e151_0 l151_0 => ?_
                        subst e151_0
                        refine Ent.lenow (mS m0) fun e151_1 l151_1 => ?_
                        subst e151_1
                        refine Ent.lenow (mS (mS m0)) fun e151_2 l151_2 => ?_
                        subst e151_2
                        refine Ent.p3 (D.st 13 rfl rfl kr (fun h => by cases h) (N.sto (vs := [_, _, _, _]) (cs' := [_, _, _, _]) ty_Run rfl rfl rfl rfl rfl bl rfl) (fun _ _ => (D.done kr (Ent.p4 (Ent.drop (Ent.p4 (Ent.drop (Ent.p4 (Ent.drop (Ent.p4 (Ent.drop (Ent.p4 (Ent.drop (Ent.p4 (Ent.drop (Ent.p25 (Ent.p25 (Ent.p25 (Ent.p25 (Ent.p25 (Ent.p25 (Ent.p25 (Ent.p25 (Ent.p25 (Ent.p25 (Ent.p25 (Ent.p25 (Ent.p25 (Ent.p25 (Ent.p25 (Ent.p25 (Ent.p25 (Ent.p25 (Ent.p25 (Ent.p25 (Ent.p25 (Ent.p25 (Ent.p25 (Ent.p25 (Ent.p25 (Ent.p25 ?_)))))))))))))))))))))))))))))))))))))))))
                        exact E.mdn (b24, a151_0, c151_0, a151_1, c151_1, a151_2, c151_2) trivial ⟨rfl, rfl, rfl, rfl, trivial⟩ (.refl _)
                      ·refine D.pk 12 rfl rfl (fun _ => rfl) (N.alloc ty_Run dc) (fun b24 _ => (D.st 9 rfl rfl kr (fun _ => rfl) (N.call (E1 fc) rfl rfl rfl dc rfl (fun w Lp hA => hA.ro haFacts)) (fun k149 _ => ?_)))
                       obtain ⟨a149, m149, c149⟩ := k149
                       refine Ent.lenow m0 fun e149 l149 => ?_
                       subst e149
                       refine D.st 11 rfl rfl kr (fun _ => rfl) (N.call (J3 fc) rfl rfl rfl dc rfl (fun w Lp hA => ⟨hA.ow (mS (mS (mS (mS (mS (mS m0)))))), hA.ow (mS (mS (mS (mS (mS m0))))), hA.ow (mS (mS (mS m0))), hA.ow (mS (mS (mS (mS m0)))), hA.ow (mS (mS m0)), hA.ow m0⟩)) (fun k151 _ => ?_)
                       obtain ⟨⟨a151_0, m151_0, c151_0⟩, ⟨a151_1, m151_1, c151_1⟩, ⟨a151_2, m151_2, c151_2⟩⟩ := k151
                       refine Ent.lenow m0 fun e151_0 l151_0 => ?_
                       subst e151_0
                       refine Ent.lenow (mS m0) fun e151_1 l151_1 => ?_
                       subst e151_1
                       refine Ent.lenow (mS (mS m0)) fun e151_2 l151_2 => ?_
                       subst e151_2
                       refine Ent.p4 (D.st 13 rfl rfl kr (fun h => by cases h) (N.sto (vs := [_, _, _, _]) (cs' := [_, _, _, _]) ty_Run rfl rfl rfl rfl rfl bl rfl) (fun _ _ => (D.done kr (Ent.p4 (Ent.drop (Ent.p4 (Ent.drop (Ent.p4 (Ent.drop (Ent.p4 (Ent.drop (Ent.p4 (Ent.drop (Ent.p4 (Ent.drop (Ent.p25 (Ent.p25 (Ent.p25 (Ent.p25 (Ent.p25 (Ent.p25 (Ent.p25 (Ent.p25 (Ent.p25 (Ent.p25 (Ent.p25 (Ent.p25 (Ent.p25 (Ent.p25 (Ent.p25 (Ent.p25 (Ent.p25 (Ent.p25 (Ent.p25 (Ent.p25 (Ent.p25 (Ent.p25 (Ent.p25 (Ent.p25 (Ent.p25 (Ent.p25 ?_)))))))))))))))))))))))))))))))))))))))))
                       exact E.mdn (b24, a151_0, c151_0, a151_1, c151_1, a151_2, c151_2) trivial ⟨rfl, rfl, rfl, rfl, trivial⟩ (.refl _)
                     ·refine D.pk 12 rfl rfl (fun _ => rfl) (N.alloc ty_Run dc) (fun b24 _ => (D.st 7 rfl rfl kr (fun _ => rfl) (N.call (F7 fc) rfl rfl rfl dc rfl (fun w Lp hA => hA.ro haSteps)) (fun k147 _ => ?_)))
                      obtain ⟨a147, m147, c147⟩ := k147
                      refine Ent.lenow m0 fun e147 l147 => ?_
                      subst e147
                      refine D.st 9 rfl rfl kr (fun _ => rfl) (N.call (E1 fc) rfl rfl rfl dc rfl (fun w Lp hA => hA.ro haFacts)) (fun k149 _ => ?_)
                      obtain ⟨a149, m149, c149⟩ := k149
                      refine Ent.lenow m0 fun e149 l149 => ?_
                      subst e149
                      refine D.st 11 rfl rfl kr (fun _ => rfl) (N.call (J3 fc) rfl rfl rfl dc rfl (fun w Lp hA => ⟨hA.ow (mS (mS (mS (mS (mS (mS m0)))))), hA.ow (mS (mS (mS (mS (mS m0))))), hA.ow (mS (mS (mS m0))), hA.ow (mS (mS (mS (mS m0)))), hA.ow (mS m0), hA.ow m0⟩)) (fun k151 _ => ?_)
                      obtain ⟨⟨a151_0, m151_0, c151_0⟩, ⟨a151_1, m151_1, c151_1⟩, ⟨a151_2, m151_2, c151_2⟩⟩ := k151
                      refine Ent.lenow m0 fun e151_0 l151_0 => ?_
                      subst e151_0
                      refine Ent.lenow (mS m0) fun e151_1 l151_1 => ?_
                      subst e151_1
                      refine Ent.lenow (mS (mS m0)) fun e151_2 l151_2 => ?_
                      subst e151_2
                      refine Ent.p5 (D.st 13 rfl rfl kr (fun h => by cases h) (N.sto (vs := [_, _, _, _]) (cs' := [_, _, _, _]) ty_Run rfl rfl rfl rfl rfl bl rfl) (fun _ _ => (D.done kr (Ent.p4 (Ent.drop (Ent.p4 (Ent.drop (Ent.p4 (Ent.drop (Ent.p4 (Ent.drop (Ent.p4 (Ent.drop (Ent.p4 (Ent.drop (Ent.p25 (Ent.p25 (Ent.p25 (Ent.p25 (Ent.p25 (Ent.p25 (Ent.p25 (Ent.p25 (Ent.p25 (Ent.p25 (Ent.p25 (Ent.p25 (Ent.p25 (Ent.p25 (Ent.p25 (Ent.p25 (Ent.p25 (Ent.p25 (Ent.p25 (Ent.p25 (Ent.p25 (Ent.p25 (Ent.p25 (Ent.p25 (Ent.p25 (Ent.p25 ?_)))))))))))))))))))))))))))))))))))))))))
                      exact E.mdn (b24, a151_0, c151_0, a151_1, c151_1, a151_2, c151_2) trivial ⟨rfl, rfl, rfl, rfl, trivial⟩ (.refl _)
                    ·refine D.pk 12 rfl rfl (fun _ => rfl) (N.alloc ty_Run dc) (fun b24 _ => (D.st 5 rfl rfl kr (fun _ => rfl) (N.call (H3 fc fc) rfl rfl rfl dc rfl (fun w Lp hA => ⟨hA.ro R2, hA.ro O0⟩)) (fun k145 _ => ?_)))
                     obtain ⟨⟨a145_0, m145_0, c145_0⟩, ⟨a145_1, m145_1, c145_1⟩⟩ := k145
                     refine Ent.lenow m0 fun e145_0 l145_0 => ?_
                     subst e145_0
                     refine Ent.lenow (mS m0) fun e145_1 l145_1 => ?_
                     subst e145_1
                     refine D.st 7 rfl rfl kr (fun _ => rfl) (N.call (F7 fc) rfl rfl rfl dc rfl (fun w Lp hA => hA.ro haSteps)) (fun k147 _ => ?_)
                     obtain ⟨a147, m147, c147⟩ := k147
                     refine Ent.lenow m0 fun e147 l147 => ?_
                     subst e147
                     refine D.st 9 rfl rfl kr (fun _ => rfl) (N.call (E1 fc) rfl rfl rfl dc rfl (fun w Lp hA => hA.ro haFacts)) (fun k149 _ => ?_)
                     obtain ⟨a149, m149, c149⟩ := k149
                     refine Ent.lenow m0 fun e149 l149 => ?_
                     subst e149
                     refine D.st 11 rfl rfl kr (fun _ => rfl) (N.call (J3 fc) rfl rfl rfl dc rfl (fun w Lp hA => ⟨hA.ow (mS (mS (mS (mS (mS (mS m0)))))), hA.ow (mS (mS (mS (mS (mS m0))))), hA.ow (mS (mS m0)), hA.ow (mS (mS (mS m0))), hA.ow (mS m0), hA.ow m0⟩)) (fun k151 _ => ?_)
                     obtain ⟨⟨a151_0, m151_0, c151_0⟩, ⟨a151_1, m151_1, c151_1⟩, ⟨a151_2, m151_2, c151_2⟩⟩ := k151
                     refine Ent.lenow m0 fun e151_0 l151_0 => ?_
                     subst e151_0
                     refine Ent.lenow (mS m0) fun e151_1 l151_1 => ?_
                     subst e151_1
                     refine Ent.lenow (mS (mS m0)) fun e151_2 l151_2 => ?_
                     subst e151_2
                     refine Ent.p7 (D.st 13 rfl rfl kr (fun h => by cases h) (N.sto (vs := [_, _, _, _]) (cs' := [_, _, _, _]) ty_Run rfl rfl rfl rfl rfl bl rfl) (fun _ _ => (D.done kr (Ent.p4 (Ent.drop (Ent.p4 (Ent.drop (Ent.p4 (Ent.drop (Ent.p4 (Ent.drop (Ent.p4 (Ent.drop (Ent.p4 (Ent.drop (Ent.p25 (Ent.p25 (Ent.p25 (Ent.p25 (Ent.p25 (Ent.p25 (Ent.p25 (Ent.p25 (Ent.p25 (Ent.p25 (Ent.p25 (Ent.p25 (Ent.p25 (Ent.p25 (Ent.p25 (Ent.p25 (Ent.p25 (Ent.p25 (Ent.p25 (Ent.p25 (Ent.p25 (Ent.p25 (Ent.p25 (Ent.p25 (Ent.p25 (Ent.p25 ?_)))))))))))))))))))))))))))))))))))))))))
                     exact E.mdn (b24, a151_0, c151_0, a151_1, c151_1, a151_2, c151_2) trivial ⟨rfl, rfl, rfl, rfl, trivial⟩ (.refl _)
                   ·refine D.pk 12 rfl rfl (fun _ => rfl) (N.alloc ty_Run dc) (fun b24 _ => (D.st 3 rfl rfl kr (fun _ => rfl) (N.call (I2 fc) rfl rfl rfl dc rfl (fun w Lp hA => hA.ro haL)) (fun k143 _ => ?_)))
                    obtain ⟨a143, m143, c143⟩ := k143
                    refine Ent.lenow m0 fun e143 l143 => ?_
                    subst e143
                    refine D.st 5 rfl rfl kr (fun _ => rfl) (N.call (H3 fc fc) rfl rfl rfl dc rfl (fun w Lp hA => ⟨hA.ro R2, hA.ro O0⟩)) (fun k145 _ => ?_)
                    obtain ⟨⟨a145_0, m145_0, c145_0⟩, ⟨a145_1, m145_1, c145_1⟩⟩ := k145
                    refine Ent.lenow m0 fun e145_0 l145_0 => ?_
                    subst e145_0
                    refine Ent.lenow (mS m0) fun e145_1 l145_1 => ?_
                    subst e145_1
                    refine D.st 7 rfl rfl kr (fun _ => rfl) (N.call (F7 fc) rfl rfl rfl dc rfl (fun w Lp hA => hA.ro haSteps)) (fun k147 _ => ?_)
                    obtain ⟨a147, m147, c147⟩ := k147
                    refine Ent.lenow m0 fun e147 l147 => ?_
                    subst e147
                    refine D.st 9 rfl rfl kr (fun _ => rfl) (N.call (E1 fc) rfl rfl rfl dc rfl (fun w Lp hA => hA.ro haFacts)) (fun k149 _ => ?_)
                    obtain ⟨a149, m149, c149⟩ := k149
                    refine Ent.lenow m0 fun e149 l149 => ?_
                    subst e149
                    refine D.st 11 rfl rfl kr (fun _ => rfl) (N.call (J3 fc) rfl rfl rfl dc rfl (fun w Lp hA => ⟨hA.ow (mS (mS (mS (mS (mS (mS m0)))))), hA.ow (mS (mS (mS (mS m0)))), hA.ow (mS (mS m0)), hA.ow (mS (mS (mS m0))), hA.ow (mS m0), hA.ow m0⟩)) (fun k151 _ => ?_)
                    obtain ⟨⟨a151_0, m151_0, c151_0⟩, ⟨a151_1, m151_1, c151_1⟩, ⟨a151_2, m151_2, c151_2⟩⟩ := k151
                    refine Ent.lenow m0 fun e151_0 l151_0 => ?_
                    subst e151_0
                    refine Ent.lenow (mS m0) fun e151_1 l151_1 => ?_
                    subst e151_1
                    refine Ent.lenow (mS (mS m0)) fun e151_2 l151_2 => ?_
                    subst e151_2
                    refine Ent.p8 (D.st 13 rfl rfl kr (fun h => by cases h) (N.sto (vs := [_, _, _, _]) (cs' := [_, _, _, _]) ty_Run rfl rfl rfl rfl rfl bl rfl) (fun _ _ => (D.done kr (Ent.p4 (Ent.drop (Ent.p4 (Ent.drop (Ent.p4 (Ent.drop (Ent.p4 (Ent.drop (Ent.p4 (Ent.drop (Ent.p4 (Ent.drop (Ent.p25 (Ent.p25 (Ent.p25 (Ent.p25 (Ent.p25 (Ent.p25 (Ent.p25 (Ent.p25 (Ent.p25 (Ent.p25 (Ent.p25 (Ent.p25 (Ent.p25 (Ent.p25 (Ent.p25 (Ent.p25 (Ent.p25 (Ent.p25 (Ent.p25 (Ent.p25 (Ent.p25 (Ent.p25 (Ent.p25 (Ent.p25 (Ent.p25 (Ent.p25 ?_)))))))))))))))))))))))))))))))))))))))))
                    exact E.mdn (b24, a151_0, c151_0, a151_1, c151_1, a151_2, c151_2) trivial ⟨rfl, rfl, rfl, rfl, trivial⟩ (.refl _)
                  ·refine D.pk 12 rfl rfl (fun _ => rfl) (N.alloc ty_Run dc) (fun b24 _ => (D.st 1 rfl rfl kr (fun _ => rfl) (N.call (I4 fc) rfl rfl rfl dc rfl (fun w Lp hA => hA.ro haS)) (fun k141 _ => ?_)))
                   obtain ⟨a141, m141, c141⟩ := k141
                   refine Ent.lenow m0 fun e141 l141 => ?_
                   subst e141
                   refine D.st 3 rfl rfl kr (fun _ => rfl) (N.call (I2 fc) rfl rfl rfl dc rfl (fun w Lp hA => hA.ro haL)) (fun k143 _ => ?_)
                   obtain ⟨a143, m143, c143⟩ := k143
                   refine Ent.lenow m0 fun e143 l143 => ?_
                   subst e143
                   refine D.st 5 rfl rfl kr (fun _ => rfl) (N.call (H3 fc fc) rfl rfl rfl dc rfl (fun w Lp hA => ⟨hA.ro R2, hA.ro O0⟩)) (fun k145 _ => ?_)
                   obtain ⟨⟨a145_0, m145_0, c145_0⟩, ⟨a145_1, m145_1, c145_1⟩⟩ := k145
                   refine Ent.lenow m0 fun e145_0 l145_0 => ?_
                   subst e145_0
                   refine Ent.lenow (mS m0) fun e145_1 l145_1 => ?_
                   subst e145_1
                   refine D.st 7 rfl rfl kr (fun _ => rfl) (N.call (F7 fc) rfl rfl rfl dc rfl (fun w Lp hA => hA.ro haSteps)) (fun k147 _ => ?_)
                   obtain ⟨a147, m147, c147⟩ := k147
                   refine Ent.lenow m0 fun e147 l147 => ?_
                   subst e147
                   refine D.st 9 rfl rfl kr (fun _ => rfl) (N.call (E1 fc) rfl rfl rfl dc rfl (fun w Lp hA => hA.ro haFacts)) (fun k149 _ => ?_)
                   obtain ⟨a149, m149, c149⟩ := k149
                   refine Ent.lenow m0 fun e149 l149 => ?_
                   subst e149
                   refine D.st 11 rfl rfl kr (fun _ => rfl) (N.call (J3 fc) rfl rfl rfl dc rfl (fun w Lp hA => ⟨hA.ow (mS (mS (mS (mS (mS m0))))), hA.ow (mS (mS (mS (mS m0)))), hA.ow (mS (mS m0)), hA.ow (mS (mS (mS m0))), hA.ow (mS m0), hA.ow m0⟩)) (fun k151 _ => ?_)
                   obtain ⟨⟨a151_0, m151_0, c151_0⟩, ⟨a151_1, m151_1, c151_1⟩, ⟨a151_2, m151_2, c151_2⟩⟩ := k151
                   refine Ent.lenow m0 fun e151_0 l151_0 => ?_
                   subst e151_0
                   refine Ent.lenow (mS m0) fun e151_1 l151_1 => ?_
                   subst e151_1
                   refine Ent.lenow (mS (mS m0)) fun e151_2 l151_2 => ?_
                   subst e151_2
                   refine Ent.p9 (D.st 13 rfl rfl kr (fun h => by cases h) (N.sto (vs := [_, _, _, _]) (cs' := [_, _, _, _]) ty_Run rfl rfl rfl rfl rfl bl rfl) (fun _ _ => (D.done kr (Ent.p4 (Ent.drop (Ent.p4 (Ent.drop (Ent.p4 (Ent.drop (Ent.p4 (Ent.drop (Ent.p4 (Ent.drop (Ent.p4 (Ent.drop (Ent.p25 (Ent.p25 (Ent.p25 (Ent.p25 (Ent.p25 (Ent.p25 (Ent.p25 (Ent.p25 (Ent.p25 (Ent.p25 (Ent.p25 (Ent.p25 (Ent.p25 (Ent.p25 (Ent.p25 (Ent.p25 (Ent.p25 (Ent.p25 (Ent.p25 (Ent.p25 (Ent.p25 (Ent.p25 (Ent.p25 (Ent.p25 (Ent.p25 (Ent.p25 ?_)))))))))))))))))))))))))))))))))))))))))
                   exact E.mdn (b24, a151_0, c151_0, a151_1, c151_1, a151_2, c151_2) trivial ⟨rfl, rfl, rfl, rfl, trivial⟩ (.refl _)
                 ·obtain ⟨b24, a151_0, c151_0, a151_1, c151_1, a151_2, c151_2⟩ := kM
                  try dsimp only
                  refine Et (Eq_ (Ew Z4 (Ey rfl (Y.ldS (cs := [_, _, _, _]) ty_Run rfl (Has.pt m0) rfl) (Ey rfl (Y.ldS (cs := [_, _, _, _]) ty_Run rfl (Has.pt (mS (mS (mS (mS (mS (mS (mS (mS (mS (mS (mS (mS (mS (mS (mS (mS (mS (mS (mS (mS (mS m0)))))))))))))))))))))) rfl) (Est rfl (N.call0 a1i rfl rfl rfl dc (fun w Lp hA => ⟨hA.ow (mS m0), hA.ow (mS (mS m0)), hA.ow (mS (mS (mS m0))), i6, hA.ow (mS (mS (mS (mS (mS (mS (mS (mS (mS (mS (mS (mS (mS (mS (mS (mS (mS (mS (mS (mS (mS (mS m0)))))))))))))))))))))), hA.ow (mS (mS (mS (mS (mS (mS (mS (mS (mS (mS (mS (mS (mS (mS (mS (mS (mS (mS (mS (mS (mS (mS (mS m0))))))))))))))))))))))), hA.ow (mS (mS (mS (mS (mS (mS (mS (mS (mS (mS (mS (mS (mS (mS (mS (mS (mS (mS (mS (mS (mS (mS (mS (mS m0)))))))))))))))))))))))), i6⟩)) (fun _ _ => (Ent.b (fun q154 => ?_) (fun q154 => ?_))))))))
                  ·refine Ey rfl ((Y.not (b := true) rfl).yd) (Eu (E.cf rfl (E.skipc (Et (Ew Z1 (Eas rfl rfl (Ev Z4 (Ey rfl (Y.ldS (cs := [_, _, _, _]) ty_Run rfl (Has.pt (mS (mS (mS (mS (mS (mS (mS (mS (mS (mS (mS (mS (mS (mS (mS (mS (mS (mS (mS m0)))))))))))))))))))) rfl) (Emv rfl rfl (Est rfl (N.call0 (a1U (by first | exact R3 V3 a6Y | (simp only [j6 P3, j6 V3, j6 K8, j6 Q9, j6 P8, j6 Q4, j6 G5, j6 J9, j6 S4, j6 Q7, j6 O5, j6 N4, j6 I5, j6 I3, j6 K9, j6 K0, j6 S3, j6 Q5, j6 S2, j6 R0]; exact R3 V3 a6Y)) (by first | exact R3 G5 a1A | (simp only [j6 P3, j6 V3, j6 K8, j6 Q9, j6 P8, j6 Q4, j6 G5, j6 J9, j6 S4, j6 Q7, j6 O5, j6 N4, j6 I5, j6 I3, j6 K9, j6 K0, j6 S3, j6 Q5, j6 S2, j6 R0]; exact R3 G5 a1A)) (by first | exact R3 K8 a3n | (simp only [j6 P3, j6 V3, j6 K8, j6 Q9, j6 P8, j6 Q4, j6 G5, j6 J9, j6 S4, j6 Q7, j6 O5, j6 N4, j6 I5, j6 I3, j6 K9, j6 K0, j6 S3, j6 Q5, j6 S2, j6 R0]; exact R3 K8 a3n))) rfl rfl rfl dc (fun w Lp hA => ⟨hA.ow (mS (mS (mS (mS m0)))), hA.ow (mS (mS (mS (mS (mS m0))))), hA.ow (mS (mS (mS (mS (mS (mS m0)))))), i6, (by (try simp only [j6 P3, j6 V3, j6 K8, j6 Q9, j6 P8, j6 Q4, j6 G5, j6 J9, j6 S4, j6 Q7, j6 O5, j6 N4, j6 I5, j6 I3, j6 K9, j6 K0, j6 S3, j6 Q5, j6 S2, j6 R0]); omega), (by (try simp only [j6 P3, j6 V3, j6 K8, j6 Q9, j6 P8, j6 Q4, j6 G5, j6 J9, j6 S4, j6 Q7, j6 O5, j6 N4, j6 I5, j6 I3, j6 K9, j6 K0, j6 S3, j6 Q5, j6 S2, j6 R0]); omega)⟩)) (fun _ _ => (Eas rfl rfl (Eu (Eq_ (Ew Z2 (Emv rfl rfl (Ey rfl ((Y.lss rfl rfl).yd) (Ent.d (fun q160 => ?_) (fun q160 => ?_)))))))))))))))))))
                   ·exact absurd q160 om
                   ·refine Eu (E.cf rfl (E.skipc (Et (Eq_ (Ew Z3 (Emv rfl rfl (Emv rfl rfl (Ey rfl ((Y.neq rfl rfl).yd) (Ent.d (fun q163 => ?_) (fun q163 => ?_))))))))))
                    ·exact absurd (by simp only [j6 P3, j6 V3, j6 K8, j6 Q9, j6 P8, j6 Q4, j6 G5, j6 J9, j6 S4, j6 Q7, j6 O5, j6 N4, j6 I5, j6 I3, j6 K9, j6 K0, j6 S3, j6 Q5, j6 S2, j6 R0]) q163
                    ·refine Eu (E.cf rfl (E.skipc (Et (Ew Z1 (Eas rfl rfl ?_)))))
                     exact Eu (E.ret (Fg rfl rfl () rfl rfl))
                  ·refine Ey rfl ((Y.not (b := false) rfl).yd) (Eu (E.ct rfl (Ew Z1 (Eas rfl rfl ?_))))
                   exact Eu (E.ret (E.thr (Fb rfl rfl (by simp_all))))
              ·refine Ey rfl ((Y.not (b := false) rfl).yd) (Ey rfl ((Y.pkf rfl rfl).yd) (Eu (E.ct rfl (Ew Z1 (Eas rfl rfl ?_)))))
               exact Eu (E.ret (E.thr (Fb rfl rfl (by simp_all))))
            ·refine Ey rfl ((Y.not (b := false) rfl).yd) (Eu (E.ct rfl (Ew Z1 (Eas rfl rfl ?_))))
             exact Eu (E.ret (E.thr (Fb rfl rfl (by simp_all))))
           ·refine Ey rfl ((Y.not (b := false) rfl).yd) (Eu (E.ct rfl (Ew Z1 (Eas rfl rfl ?_))))
            exact Eu (E.ret (E.thr (Fb rfl rfl (by simp_all))))
          ·refine Dyp 4 rfl (Y.not (b := false) rfl) (D.done kr (Et (E.ct rfl (Ew Z1 (Eas rfl rfl ?_)))))
           exact Eu (E.ret (E.thr (Fb rfl rfl (by simp_all))))
         ·refine Ey rfl ((Y.not (b := false) rfl).yd) (Eu (E.ct rfl (Ew Z1 (Eas rfl rfl ?_))))
          exact Eu (E.ret (E.thr (Fb rfl rfl (by simp_all))))
        ·refine Ey rfl ((Y.not (b := false) rfl).yd) (Eu (E.ct rfl (Ew Z1 (Eas rfl rfl ?_))))
         exact Eu (E.ret (E.thr (Fb rfl rfl (by simp_all))))
       ·refine Ey rfl ((Y.not (b := false) rfl).yd) (Eu (E.ct rfl (Ew Z1 (Eas rfl rfl ?_))))
        exact Eu (E.ret (E.thr (Fb rfl rfl (by simp_all))))
end Go.Proofs.YtdopeopehgdccaaGreat
