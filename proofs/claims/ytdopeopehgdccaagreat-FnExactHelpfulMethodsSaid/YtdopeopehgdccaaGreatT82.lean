import Derived.Test.YtdopeopehgdccaaGreatBs
import Derived.Test.YtdopeopehgdccaaGreatT65
import Derived.Test.YtdopeopehgdccaaGreatT4
import Derived.Test.YtdopeopehgdccaaGreatT5
import Derived.Test.YtdopeopehgdccaaGreatBc
import Derived.Test.YtdopeopehgdccaaGreatEw
namespace Go.Proofs.YtdopeopehgdccaaGreat
open Go.RowKit
set_option linter.all false
set_option maxHeartbeats 2000000
attribute [local irreducible] Nop Yd Yp Ent Has Tr FnP FnP2 Src j7 d7 J2 Y5 E0 C6 w6 o7 fzF fzV fzX fzB f0 t7 G5 K2 B4 a0o H9
variable {n : Int} {d8 : List (Int × Int × List Int)} {l : List (Int × List Int × Int × Int × Int)} {d4 : List (Int × List Int)} {s i7 : List Int} {m_l c_l m_s c_s m_rules c_rules s9 o0 s7 l0 : Nat} {a_l a_s a_rules o2 l3 : Option Addr}
theorem a7V {a_a : Option Addr} {m_a c_a : Nat} {a : List Int} {a_b : Option Addr} {m_b c_b : Nat} {b : List Int} : Tr Tryz.prog 103 [.slice a_a m_a c_a, .slice a_b m_b c_b] (fun w L => Ro w L eIs [.slice a_a m_a c_a] a ∧ Ro w L eIs [.slice a_b m_b c_b] b) [] (κ := Unit) (fun k => True) (fun k => .bool (Y1 a b)) (fun k => []) := by
 refine Tr.intro Tryz.func103 rfl (n := 18) rfl (by decide +kernel) bl (fr := [(0, .slice a_a m_a c_a), (1, .slice a_b m_b c_b)]) rfl fun w L hR => ?_
 obtain ⟨ha, hb⟩ := hR
 obtain ⟨rfl, la⟩ := ha.slen
 obtain ⟨rfl, lb⟩ := hb.slen
 refine Ew Z1 (Eas rfl rfl (Eu (Eq_ (Ew Z5 (Emv rfl rfl (Ey rfl ((Y.len us_Is rfl).yd) (Emv rfl rfl (Ey rfl ((Y.len us_Is rfl).yd) (Ey rfl ((Y.neq rfl rfl).yd) (Ent.d (fun q9 => ?_) (fun q9 => ?_)))))))))))
 ·refine Eu (E.ct rfl (Ew Z6 (Emv rfl rfl (Ey rfl ((Y.len us_Is rfl).yd) (Emv rfl rfl (Ey rfl ((Y.len us_Is rfl).yd) (Ey rfl ((Y.lss rfl rfl).yd) (Eas rfl rfl ?_))))))))
  exact Eu (E.ret (E.thr (Fb rfl rfl (by grind [Y1, d1, d2, t1, t2]))))
 ·refine Eu (E.cf rfl (E.skipc (Et (Ew Z4 (Emv rfl rfl (Emv rfl rfl (Est rfl (N.call0 a9j rfl rfl rfl dc (fun w Lp hA => ⟨hA.ro ha, hA.ro hb⟩)) (fun _ _ => (Eas rfl rfl ?_)))))))))
  exact Eu (E.ret (Fb rfl rfl (by grind [Y1, d1, d2, t1, t2])))
theorem a9m {mask : Int} (hn : 0 ≤ n ∧ n ≤ 5) (hm : 0 ≤ mask) : Tr Tryz.prog 102 [.int .i64 mask, .int .i64 n] (fun w L => True) [] (κ := Option Addr × Nat × Nat) (fun k => True) (fun k => .slice k.1 k.2.1 k.2.2) (fun k => [ow eIs [.slice k.1 k.2.1 k.2.2] (w9 mask.toNat n.toNat)]) := by
 refine Tr.intro Tryz.func102 rfl (n := 23) rfl (by decide +kernel) bl (fr := [(0, .int .i64 mask), (1, .int .i64 n)]) rfl fun w L hR => ?_
 obtain ⟨mk, rfl⟩ : ∃ x : Nat, mask = (x : Int) := ⟨mask.toNat, by omega⟩
 dsimp only [Int.toNat_natCast]
 obtain ⟨x, rfl⟩ : ∃ x : Nat, n = (x : Int) := ⟨n.toNat, by omega⟩
 dsimp only [Int.toNat_natCast]
 refine Ew Z1 (Eas rfl rfl (Ev Z2 (Est rfl (N.bsl (pvs := []) (cs := []) us_Is f6 rfl dc dc (o9 rfl rfl) rfl dc) (fun b7 _ => (Ent.drop (Eas rfl rfl (Eu (Eq_ (Ew Z1 (Eas rfl rfl (Eu (E.block (Ent.mkow (A := []) (Own.nil (E := Enc.int) (e := tI) (a := (some ⟨b7, 0, none⟩))) rfl (Ent.cv (congrArg (ow eIs [_]) (show [] = w9 mk 0 from by rfl)) (E.loop (κ := Nat × Option Addr × Nat × Nat) (fun g => g.1 ≤ x ∧ True) (fun g => [(0, .int .i64 (mk : Int)), (1, .int .i64 (x : Int)), (5, .slice g.2.1 g.2.2.1 g.2.2.2), (6, .int .i64 (↑g.1 : Int))]) (fun g => [ow eIs [.slice g.2.1 g.2.2.1 g.2.2.2] (w9 mk g.1)]) (fun g => x - g.1) (0, (some ⟨b7, 0, none⟩), 0, 0) ⟨Nat.zero_le _, by simp⟩ ⟨rfl, rfl, rfl, rfl, trivial⟩ (.refl _) (fun g pg => ?_))))))))))))))))
 obtain ⟨g, aA0_0, mA0_0, cA0_0⟩ := g
 try dsimp only at pg
 try dsimp only
 obtain ⟨pk, pa⟩ := pg
 have js := a2o (m := mk) (n := g)
 refine Ent.lenow m0 fun eaA0_0 laA0_0 => ?_
 subst eaA0_0
 refine Eq_ (Ew Z3 (Emv rfl rfl (Emv rfl rfl (Ey rfl ((Y.lss rfl rfl).yd) (Ent.d (fun q10 => ?_) (fun q10 => ?_))))))
 ·refine Eu (E.ct rfl (E.skipc (Et (Eq_ (E.block (Ew Z5 (Emv rfl rfl (Emv rfl rfl (Ey rfl ((Y.shrN (b := g) rfl rfl om).yd) (Ey rfl ((Y.and rfl rfl).yd) (Ey rfl ((Y.eql rfl rfl).yd) (Ent.d (fun q17 => ?_) (fun q17 => ?_)))))))))))))
  ·refine Eu (E.ct rfl (Ez Z5 (Emv rfl rfl (Emv rfl rfl (Est rfl (N.bsl (pvs := [_]) (cs := [_]) us_Is f6 rfl dc dc (o9 rfl rfl) rfl dc) (fun b20 _ => (Ent.p1 (Est rfl (N.push (E := Enc.int) (ex := (g : Int)) us_Is f6 rfl rfl rfl (Own.int i6) rfl bn bn dc) (fun p21 _ => (Eas rfl rfl (En (E.bln (Et (Ez Z3 (Emv rfl rfl (Ey rfl ((Y.add rfl rfl om om).yd) (Eas rfl rfl (Eu (Ent.cv (congrArg (ow eIs [_]) (show (w9 mk g) ++ [(g : Int)] = w9 mk (g + 1) from by first | exact a6W q17 | exact a7q q17)) ?_)))))))))))))))))))
   exact Ea (g + 1, p21.1, ((w9 mk g).length + 1), p21.2) ⟨oz, trivial⟩
  ·refine Eu (E.cf rfl (E.skipc (E.bln (Et (Ez Z3 (Emv rfl rfl (Ey rfl ((Y.add rfl rfl om om).yd) (Eas rfl rfl (Eu (Ent.cv (congrArg (ow eIs [_]) (show w9 mk g = w9 mk (g + 1) from by first | exact a6W q17 | exact a7q q17)) ?_))))))))))
   exact Ea (g + 1, aA0_0, (w9 mk g).length, cA0_0) ⟨oz, trivial⟩
 ·refine Eu (E.cf rfl (E.exit (E.the (E.the (E.blh (Et (Ew Z2 (Emv rfl rfl (Eas rfl rfl (Eu (E.ret (Ent.cv (congrArg (ow eIs [_]) (show _ = w9 mk x by rw [show g = x from by omega])) ?_))))))))))))
  exact Fg rfl rfl (_, _, _) rfl rfl
theorem a7e {is_g : FuncId} {is_c : List Value} {D_is : (List Int) → Prop} {is : (List Int) → Bool} (hn : 0 ≤ n ∧ n ≤ 5) (hD_is : ∀ x : List Int, (∀ i ∈ x, 0 ≤ i ∧ i < n) → x.length ≤ 5 → D_is x) : Tr Tryz.prog 107 [.int .i64 n, .func (.func is_g) #[] is_c.toArray] (fun w L => FnP Tryz.prog w L is_g is_c eIs a6c D_is is) [] (κ := Option Addr × Nat × Nat) (fun k => True) (fun k => .tuple #[.slice k.1 k.2.1 k.2.2, .bool ((hmI is n.toNat (2 ^ n.toNat)).2)]) (fun k => [ow eIs [.slice k.1 k.2.1 k.2.2] ((hmI is n.toNat (2 ^ n.toNat)).1)]) := by
 refine Tr.intro Tryz.func107 rfl (n := 62) rfl (by decide +kernel) bl (fr := [(0, .int .i64 n), (1, .func (.func is_g) #[] is_c.toArray)]) rfl fun w L hR => ?_
 have his := hR
 obtain ⟨x, rfl⟩ : ∃ x : Nat, n = (x : Int) := ⟨n.toNat, by omega⟩
 dsimp only [Int.toNat_natCast]
 refine Ew Z2 (Eas rfl rfl (Eas rfl rfl (Ev Z1 (Eas rfl rfl (Eu (Eq_ (Ew Z3 (Emv rfl rfl (Ey rfl ((Y.shl1 rfl rfl om).yd) (Emv rfl rfl (Eu (E.block (Ent.mkow (A := []) (Own.nil (E := Enc.int) (e := tI) (a := none)) rfl (Ent.cv (congrArg (ow eIs [_]) (show [] = (hmI is x 0).1 from by rfl)) (E.loop (κ := Nat × Option Addr × Nat × Nat) (fun g => g.1 ≤ (2 ^ x : Nat) ∧ (g.2.1.isNone = !(hmI is x g.1).2)) (fun g => [(0, .int .i64 (x : Int)), (1, .func (.func is_g) #[] is_c.toArray), (6, .slice g.2.1 g.2.2.1 g.2.2.2), (11, .int .i64 (↑(2 ^ x : Nat) : Int)), (12, .int .i64 (↑g.1 : Int))]) (fun g => [ow eIs [.slice g.2.1 g.2.2.1 g.2.2.2] ((hmI is x g.1).1)]) (fun g => (2 ^ x : Nat) - g.1) (0, none, 0, 0) ⟨Nat.zero_le _, rfl⟩ ⟨rfl, rfl, rfl, rfl, rfl, trivial⟩ (.refl _) (fun g pg => ?_))))))))))))))))
 obtain ⟨g, aA0_0, mA0_0, cA0_0⟩ := g
 try dsimp only at pg
 try dsimp only
 obtain ⟨pk, pa⟩ := pg
 have j2 : 2 ^ x ≤ 32 := Nat.le_trans (Nat.pow_le_pow_right dc (show x ≤ 5 by omega)) dc
 have jm := (a5m (F := is) (n := x) (m := g)).2
 refine Ent.lenow m0 fun eaA0_0 laA0_0 => ?_
 subst eaA0_0
 refine Ew Z1 (Ey rfl ((Y.lss rfl rfl).yd) (Ent.d (fun q13 => ?_) (fun q13 => ?_)))
 ·refine Eu (Eq_ (E.ct rfl (E.skipc (Et (Eq_ (E.block (Ew Z2 (Emv rfl rfl (Eas rfl rfl (Ev Z2 (Est rfl (N.bsl (pvs := []) (cs := []) us_Is f6 rfl dc dc (o9 rfl rfl) rfl dc) (fun b15 _ => (Ent.drop (Eas rfl rfl (Eu (Eq_ (Ew Z2 (Emv rfl rfl (Emv rfl rfl (Eu (E.block (Ent.mkow (A := []) (Own.nil (E := Enc.int) (e := tI) (a := (some ⟨b15, 0, none⟩))) rfl (Ent.cv (congrArg (ow eIs [_]) (show [] = w9 g 0 from by rfl)) (E.loop (κ := Nat × Option Addr × Nat × Nat) (fun i => i.1 ≤ x ∧ (i.2.1.isNone = false)) (fun i => [(0, .int .i64 (x : Int)), (1, .func (.func is_g) #[] is_c.toArray), (6, .slice aA0_0 ((hmI is x g).1).length cA0_0), (7, .int .i64 (g : Int)), (8, .slice i.2.1 i.2.2.1 i.2.2.2), (11, .int .i64 (↑(2 ^ x : Nat) : Int)), (12, .int .i64 (g : Int)), (16, .int .i64 (x : Int)), (17, .int .i64 (↑i.1 : Int))]) (fun i => [ow eIs [.slice i.2.1 i.2.2.1 i.2.2.2] (w9 g i.1), ow eIs [.slice aA0_0 ((hmI is x g).1).length cA0_0] ((hmI is x g).1)]) (fun i => x - i.1) (0, (some ⟨b15, 0, none⟩), 0, 0) ⟨Nat.zero_le _, rfl⟩ ⟨rfl, rfl, rfl, rfl, rfl, rfl, rfl, rfl, rfl, trivial⟩ (.refl _) (fun i pi => ?_)))))))))))))))))))))))))
  obtain ⟨i, aA1_0, mA1_0, cA1_0⟩ := i
  try dsimp only at pi
  try dsimp only
  obtain ⟨pk1, pb⟩ := pi
  have js := a2o (m := g) (n := i)
  have hix : i = x ∨ i < x := by omega
  refine Ent.lenow m0 fun eaA1_0 laA1_0 => ?_
  subst eaA1_0
  refine Ew Z1 (Ey rfl ((Y.lss rfl rfl).yd) (Ent.d (fun q18 => ?_) (fun q18 => ?_)))
  ·refine Eu (Eq_ (E.ct rfl (E.skipc (Et (Eq_ (E.block (Ew Z2 (Emv rfl rfl (Eas rfl rfl (Ev Z5 (Emv rfl rfl (Emv rfl rfl (Ey rfl ((Y.shrN (b := i) rfl rfl om).yd) (Ey rfl ((Y.and rfl rfl).yd) (Ey rfl ((Y.eql rfl rfl).yd) (Ent.d (fun q24 => ?_) (fun q24 => ?_)))))))))))))))))
   ·refine Eu (E.ct rfl (Ez Z5 (Emv rfl rfl (Emv rfl rfl (Est rfl (N.bsl (pvs := [_]) (cs := [_]) us_Is f6 rfl dc dc (o9 rfl rfl) rfl dc) (fun b27 _ => (Ent.p1 (Est rfl (N.push (E := Enc.int) (ex := (i : Int)) us_Is f6 rfl rfl rfl (Own.int i6) rfl bn bn dc) (fun p28 _ => (Ent.adr m0 om fun sb hsb => (Eas rfl rfl (En (E.bln (Et (Ez Z2 (Ey rfl ((Y.add rfl rfl om om).yd) (Emv rfl rfl (Eu (Ent.cv (congrArg (ow eIs [_]) (show (w9 g i) ++ [(i : Int)] = w9 g (i + 1) from by first | exact a6W q24 | exact a7q q24)) (Ent.p1 (Ent.p1 ?_)))))))))))))))))))))
    exact Ea (i + 1, p28.1, ((w9 g i).length + 1), p28.2) ⟨oz, (show (p28.1.isNone = false) from by first | (rw [hsb]; rfl) | exact pb)⟩
   ·refine Eu (E.cf rfl (E.skipc (E.bln (Et (Ez Z2 (Ey rfl ((Y.add rfl rfl om om).yd) (Emv rfl rfl (Eu (Ent.cv (congrArg (ow eIs [_]) (show w9 g i = w9 g (i + 1) from by first | exact a6W q24 | exact a7q q24)) (Ent.p1 (Ent.p1 ?_)))))))))))
    exact Ea (i + 1, aA1_0, (w9 g i).length, cA1_0) ⟨oz, (show (aA1_0.isNone = false) from by first | (rw [hsb]; rfl) | exact pb)⟩
  ·refine Eu (Eq_ (E.cf rfl (E.exit (E.the (E.the (E.blh (Et (Ew Z27 (Emv rfl rfl ?_)))))))))
   have ei : i = x := by omega
   have el : (w9 g i).length = (w9 g x).length := by rw [ei]
   refine Ent.cv (congrArg (ow eIs [_]) (show w9 g i = w9 g x from by rw [show i = x from by omega])) (Ey rfl ((Y.eqlN us_Is rfl rfl).yd) (Ent.b (fun q31 => ?_) (fun q31 => ?_)))
   ·have pf : (hmI is x g).2 = false := by rw [q31] at pa; cases hq : (hmI is x g).2 <;> simp_all
    refine Emv rfl rfl (Es rfl (Es rfl (Es rfl (Es rfl (Es rfl (Ey rfl ((Y.pkt rfl rfl).yd) (Emv rfl rfl (Es rfl (Es rfl (Es rfl (Es rfl (Es rfl (E.sku rfl rfl dc (Es rfl (Es rfl (Es rfl (Es rfl (Es rfl (Ey rfl ((Y.pkt rfl rfl).yd) (Emv rfl rfl (Emv rfl rfl (Emv rfl rfl (Est rfl (N.fn (cs := [_]) his rfl rfl rfl dc (fun w Lp hA => (hA.ow m0)) (hD_is _ (fun i hi => a1s hi) (Nat.le_trans a2o om))) (fun _ _ => (Ent.b (fun q55 => ?_) (fun q55 => ?_))))))))))))))))))))))))))
    ·refine Ey rfl ((Y.pkt rfl rfl).yd) (Eu (E.ct rfl (Ez Z2 (Emv rfl rfl (Eas rfl rfl (En (E.bln (Et (Ez Z2 (Ey rfl ((Y.add rfl rfl om om).yd) (Emv rfl rfl (Eu (Ent.p1 (Ent.drop (Ent.cv (congrArg (ow eIs [_]) (show w9 g x = (hmI is x (g + 1)).1 from by first | (rw [M7 pf q55]; done) | (rw [F2 (W9 om) q55]; done) | (rw [F2 (S8 om q49) q55]; done) | (rw [M9 q55]; done) | (rw [F1 pt (T0 om om)]; done) | (rw [F1 pt (S9 om q49)]; done))) ?_)))))))))))))))
     exact Ea (g + 1, aA1_0, (w9 g i).length, cA1_0) ⟨oz, (show (aA1_0.isNone = !(hmI is x (g + 1)).2) from by first | (rw [M7 pf q55]; exact pb) | (rw [F2 (W9 om) q55]; exact pb) | (rw [F2 (S8 om q49) q55]; exact pb) | (rw [M9 q55]; exact pa) | (rw [F1 pt (T0 om om)]; exact pa) | (rw [F1 pt (S9 om q49)]; exact pa))⟩
    ·refine Ey rfl ((Y.pkt rfl rfl).yd) (Eu (E.cf rfl (E.skipc (E.bln (Et (Ez Z2 (Ey rfl ((Y.add rfl rfl om om).yd) (Emv rfl rfl (Eu (Ent.drop (Ent.cv (congrArg (ow eIs [_]) (show (hmI is x g).1 = (hmI is x (g + 1)).1 from by first | (rw [M7 pf q55]; done) | (rw [F2 (W9 om) q55]; done) | (rw [F2 (S8 om q49) q55]; done) | (rw [M9 q55]; done) | (rw [F1 pt (T0 om om)]; done) | (rw [F1 pt (S9 om q49)]; done))) ?_)))))))))))
     exact Ea (g + 1, aA0_0, ((hmI is x g).1).length, cA0_0) ⟨oz, (show (aA0_0.isNone = !(hmI is x (g + 1)).2) from by first | (rw [M7 pf q55]; exact pb) | (rw [F2 (W9 om) q55]; exact pb) | (rw [F2 (S8 om q49) q55]; exact pb) | (rw [M9 q55]; exact pa) | (rw [F1 pt (T0 om om)]; exact pa) | (rw [F1 pt (S9 om q49)]; exact pa))⟩
   ·have pt : (hmI is x g).2 = true := by rw [q31] at pa; cases hq : (hmI is x g).2 <;> simp_all
    refine Emv rfl rfl (Emv rfl rfl (Ey rfl ((Y.len us_Is rfl).yd) (Emv rfl rfl (Ey rfl ((Y.len us_Is rfl).yd) (Ey rfl ((Y.lss rfl rfl).yd) (Ent.d (fun q37 => ?_) (fun q37 => ?_)))))))
    ·refine Ey rfl ((Y.pkf rfl rfl).yd) (Emv rfl rfl (Es rfl (Es rfl (Es rfl (Es rfl (Es rfl (E.sku rfl rfl dc (Es rfl (Es rfl (Es rfl (Es rfl (Es rfl (Ey rfl ((Y.pkt rfl rfl).yd) (Emv rfl rfl (Emv rfl rfl (Emv rfl rfl (Est rfl (N.fn (cs := [_]) his rfl rfl rfl dc (fun w Lp hA => (hA.ow m0)) (hD_is _ (fun i hi => a1s hi) (Nat.le_trans a2o om))) (fun _ _ => (Ent.b (fun q55 => ?_) (fun q55 => ?_))))))))))))))))))))
     ·refine Ey rfl ((Y.pkt rfl rfl).yd) (Eu (E.ct rfl (Ez Z2 (Emv rfl rfl (Eas rfl rfl (En (E.bln (Et (Ez Z2 (Ey rfl ((Y.add rfl rfl om om).yd) (Emv rfl rfl (Eu (Ent.p1 (Ent.drop (Ent.cv (congrArg (ow eIs [_]) (show w9 g x = (hmI is x (g + 1)).1 from by first | (rw [M7 pf q55]; done) | (rw [F2 (W9 om) q55]; done) | (rw [F2 (S8 om q49) q55]; done) | (rw [M9 q55]; done) | (rw [F1 pt (T0 om om)]; done) | (rw [F1 pt (S9 om q49)]; done))) ?_)))))))))))))))
      exact Ea (g + 1, aA1_0, (w9 g i).length, cA1_0) ⟨oz, (show (aA1_0.isNone = !(hmI is x (g + 1)).2) from by first | (rw [M7 pf q55]; exact pb) | (rw [F2 (W9 om) q55]; exact pb) | (rw [F2 (S8 om q49) q55]; exact pb) | (rw [M9 q55]; exact pa) | (rw [F1 pt (T0 om om)]; exact pa) | (rw [F1 pt (S9 om q49)]; exact pa))⟩
     ·refine Ey rfl ((Y.pkt rfl rfl).yd) (Eu (E.cf rfl (E.skipc (E.bln (Et (Ez Z2 (Ey rfl ((Y.add rfl rfl om om).yd) (Emv rfl rfl (Eu (Ent.drop (Ent.cv (congrArg (ow eIs [_]) (show (hmI is x g).1 = (hmI is x (g + 1)).1 from by first | (rw [M7 pf q55]; done) | (rw [F2 (W9 om) q55]; done) | (rw [F2 (S8 om q49) q55]; done) | (rw [M9 q55]; done) | (rw [F1 pt (T0 om om)]; done) | (rw [F1 pt (S9 om q49)]; done))) ?_)))))))))))
      exact Ea (g + 1, aA0_0, ((hmI is x g).1).length, cA0_0) ⟨oz, (show (aA0_0.isNone = !(hmI is x (g + 1)).2) from by first | (rw [M7 pf q55]; exact pb) | (rw [F2 (W9 om) q55]; exact pb) | (rw [F2 (S8 om q49) q55]; exact pb) | (rw [M9 q55]; exact pa) | (rw [F1 pt (T0 om om)]; exact pa) | (rw [F1 pt (S9 om q49)]; exact pa))⟩
    ·refine Ey rfl ((Y.pkf rfl rfl).yd) (Emv rfl rfl (Emv rfl rfl (Ey rfl ((Y.len us_Is rfl).yd) (Emv rfl rfl (Ey rfl ((Y.len us_Is rfl).yd) (Ey rfl ((Y.eql rfl rfl).yd) (Ent.d (fun q44 => ?_) (fun q44 => ?_))))))))
     ·refine Emv rfl rfl (Emv rfl rfl (Emv rfl rfl (Est rfl (N.call0 a0u rfl rfl rfl dc (fun w Lp hA => ⟨hA.ow m0, hA.ow (mS m0)⟩)) (fun _ _ => (Ey rfl ((Y.lss rfl rfl).yd) (Ent.d (fun q49 => ?_) (fun q49 => ?_)))))))
      ·refine Ey rfl ((Y.pkt rfl rfl).yd) (Ey rfl ((Y.pkf rfl rfl).yd) (Emv rfl rfl (Emv rfl rfl (Emv rfl rfl (Est rfl (N.fn (cs := [_]) his rfl rfl rfl dc (fun w Lp hA => (hA.ow m0)) (hD_is _ (fun i hi => a1s hi) (Nat.le_trans a2o om))) (fun _ _ => (Ent.b (fun q55 => ?_) (fun q55 => ?_))))))))
       ·refine Ey rfl ((Y.pkt rfl rfl).yd) (Eu (E.ct rfl (Ez Z2 (Emv rfl rfl (Eas rfl rfl (En (E.bln (Et (Ez Z2 (Ey rfl ((Y.add rfl rfl om om).yd) (Emv rfl rfl (Eu (Ent.p1 (Ent.drop (Ent.cv (congrArg (ow eIs [_]) (show w9 g x = (hmI is x (g + 1)).1 from by first | (rw [M7 pf q55]; done) | (rw [F2 (W9 om) q55]; done) | (rw [F2 (S8 om q49) q55]; done) | (rw [M9 q55]; done) | (rw [F1 pt (T0 om om)]; done) | (rw [F1 pt (S9 om q49)]; done))) ?_)))))))))))))))
        exact Ea (g + 1, aA1_0, (w9 g i).length, cA1_0) ⟨oz, (show (aA1_0.isNone = !(hmI is x (g + 1)).2) from by first | (rw [M7 pf q55]; exact pb) | (rw [F2 (W9 om) q55]; exact pb) | (rw [F2 (S8 om q49) q55]; exact pb) | (rw [M9 q55]; exact pa) | (rw [F1 pt (T0 om om)]; exact pa) | (rw [F1 pt (S9 om q49)]; exact pa))⟩
       ·refine Ey rfl ((Y.pkt rfl rfl).yd) (Eu (E.cf rfl (E.skipc (E.bln (Et (Ez Z2 (Ey rfl ((Y.add rfl rfl om om).yd) (Emv rfl rfl (Eu (Ent.drop (Ent.cv (congrArg (ow eIs [_]) (show (hmI is x g).1 = (hmI is x (g + 1)).1 from by first | (rw [M7 pf q55]; done) | (rw [F2 (W9 om) q55]; done) | (rw [F2 (S8 om q49) q55]; done) | (rw [M9 q55]; done) | (rw [F1 pt (T0 om om)]; done) | (rw [F1 pt (S9 om q49)]; done))) ?_)))))))))))
        exact Ea (g + 1, aA0_0, ((hmI is x g).1).length, cA0_0) ⟨oz, (show (aA0_0.isNone = !(hmI is x (g + 1)).2) from by first | (rw [M7 pf q55]; exact pb) | (rw [F2 (W9 om) q55]; exact pb) | (rw [F2 (S8 om q49) q55]; exact pb) | (rw [M9 q55]; exact pa) | (rw [F1 pt (T0 om om)]; exact pa) | (rw [F1 pt (S9 om q49)]; exact pa))⟩
      ·refine Ey rfl ((Y.pkt rfl rfl).yd) (Ey rfl ((Y.pkf rfl rfl).yd) (Emv rfl rfl (Es rfl (Es rfl (Es rfl (Ey rfl ((Y.pkf rfl rfl).yd) (Eu (E.cf rfl (E.skipc (E.bln (Et (Ez Z2 (Ey rfl ((Y.add rfl rfl om om).yd) (Emv rfl rfl (Eu (Ent.drop (Ent.cv (congrArg (ow eIs [_]) (show (hmI is x g).1 = (hmI is x (g + 1)).1 from by first | (rw [M7 pf q55]; done) | (rw [F2 (W9 om) q55]; done) | (rw [F2 (S8 om q49) q55]; done) | (rw [M9 q55]; done) | (rw [F1 pt (T0 om om)]; done) | (rw [F1 pt (S9 om q49)]; done))) ?_)))))))))))))))))
       exact Ea (g + 1, aA0_0, ((hmI is x g).1).length, cA0_0) ⟨oz, (show (aA0_0.isNone = !(hmI is x (g + 1)).2) from by first | (rw [M7 pf q55]; exact pb) | (rw [F2 (W9 om) q55]; exact pb) | (rw [F2 (S8 om q49) q55]; exact pb) | (rw [M9 q55]; exact pa) | (rw [F1 pt (T0 om om)]; exact pa) | (rw [F1 pt (S9 om q49)]; exact pa))⟩
     ·refine Emv rfl rfl (Es rfl (Es rfl (Es rfl (Es rfl (Ey rfl ((Y.pkf rfl rfl).yd) (Ey rfl ((Y.pkf rfl rfl).yd) (Emv rfl rfl (Es rfl (Es rfl (Es rfl (Ey rfl ((Y.pkf rfl rfl).yd) (Eu (E.cf rfl (E.skipc (E.bln (Et (Ez Z2 (Ey rfl ((Y.add rfl rfl om om).yd) (Emv rfl rfl (Eu (Ent.drop (Ent.cv (congrArg (ow eIs [_]) (show (hmI is x g).1 = (hmI is x (g + 1)).1 from by first | (rw [M7 pf q55]; done) | (rw [F2 (W9 om) q55]; done) | (rw [F2 (S8 om q49) q55]; done) | (rw [M9 q55]; done) | (rw [F1 pt (T0 om om)]; done) | (rw [F1 pt (S9 om q49)]; done))) ?_))))))))))))))))))))))
      exact Ea (g + 1, aA0_0, ((hmI is x g).1).length, cA0_0) ⟨oz, (show (aA0_0.isNone = !(hmI is x (g + 1)).2) from by first | (rw [M7 pf q55]; exact pb) | (rw [F2 (W9 om) q55]; exact pb) | (rw [F2 (S8 om q49) q55]; exact pb) | (rw [M9 q55]; exact pa) | (rw [F1 pt (T0 om om)]; exact pa) | (rw [F1 pt (S9 om q49)]; exact pa))⟩
 ·refine Eu (Eq_ (E.cf rfl (E.exit (E.the (E.the (E.blh (Et (Ew Z5 (Emv rfl rfl (Emv rfl rfl (Ey rfl ((Y.neqN us_Is rfl rfl).yd) (Eas rfl rfl (Eas rfl rfl (Eu (E.ret (Ent.cv (congrArg (ow eIs [_]) (show _ = (hmI is x (2 ^ x)).1 by first | (rw [show 2 ^ x = g from by omega]; done) | (rw [show 2 ^ x = g from by omega, pa, Bool.not_not]))) ?_))))))))))))))))
  exact F.r2 br rfl rfl rfl (_, _, _) trivial (by rw [show ((hmI is x (2 ^ x)).2) = (!aA0_0.isNone) from (by first | (rw [show 2 ^ x = g from by omega]; done) | (rw [show 2 ^ x = g from by omega, pa, Bool.not_not]))]; try rfl) (J := _) (.refl _) (.inl rfl)
theorem a3p {a_set : Option Addr} {m_set c_set : Nat} {set : List Int} {b_l : Nat} {b_s : Nat} {b_rules : Nat} {b_q : Nat} (hin : ∀ i ∈ set, 0 ≤ i ∧ i.toNat < l.length) (hsl : set.length ≤ 5) (hz : F0 (fun x => x.2.length) d4 ≤ 1048576) : Tr Tryz.prog 108 [.slice a_set m_set c_set, .pointer (some ⟨b_l, 0, none⟩), .pointer (some ⟨b_s, 0, none⟩), .pointer (some ⟨b_rules, 0, none⟩), .pointer (some ⟨b_q, 0, none⟩)] (fun w L => (Ro w L eIs [.slice a_set m_set c_set] set) ∧ RoPt w L b_l [.slice a_l m_l c_l] ∧ Ro w L D3 [.slice a_l m_l c_l] l ∧ RoPt w L b_s [.slice a_s m_s c_s] ∧ Ro w L eIs [.slice a_s m_s c_s] s ∧ RoPt w L b_rules [.slice a_rules m_rules c_rules] ∧ Ro w L G1 [.slice a_rules m_rules c_rules] d8 ∧ RoPt w L b_q [.slice o2 s9 o0, .slice l3 s7 l0] ∧ Ro w L eIs [.slice o2 s9 o0] i7 ∧ Ro w L C2 [.slice l3 s7 l0] d4) [] (κ := Unit) (fun k => True) (fun k => .bool ((H9 s l d8 (i7, d4)) set)) (fun k => []) := by
 refine Tr.intro Tryz.func108 rfl (n := 30) rfl (by decide +kernel) bl (fr := [(0, .slice a_set m_set c_set), (1, .pointer (some ⟨b_l, 0, none⟩)), (2, .pointer (some ⟨b_s, 0, none⟩)), (3, .pointer (some ⟨b_rules, 0, none⟩)), (4, .pointer (some ⟨b_q, 0, none⟩))]) rfl fun w L hR => ?_
 obtain ⟨hset, hb_l, hl, hb_s, hs, hb_rules, hrules, hb_q, o6, n8⟩ := hR
 obtain ⟨rfl, lset⟩ := hset.slen
 obtain ⟨rfl, ll⟩ := hl.slen
 obtain ⟨rfl, ls⟩ := hs.slen
 obtain ⟨rfl, lrules⟩ := hrules.slen
 obtain ⟨rfl, L5⟩ := o6.slen
 obtain ⟨rfl, I7⟩ := n8.slen
 obtain ⟨lB, hlB, hB_l⟩ := Ro.bMethodB hl
 have jlB := hB_l.len
 refine Ew Z1 (Eas rfl rfl (Ev Z2 (Est rfl (N.bsl (pvs := []) (cs := []) us_Methods ty_Method rfl dc dc (o9 rfl rfl) rfl dc) (fun b10 _ => (Ent.drop (Eas rfl rfl (Eu (Eq_ (Ew Z3 (Emv rfl rfl (Ey rfl ((Y.len us_Is rfl).yd) (Emv rfl rfl (Eu (E.block (Ent.mkow (A := []) (Own.nil (E := P8) (e := a4s) (a := (some ⟨b10, 0, none⟩))) rfl (Ent.cv (congrArg (ow L9 [_]) (show [] = selM dMB lB (set.take 0) from by rfl)) (E.loop (κ := Nat × Option Addr × Nat × Nat) (fun g => g.1 ≤ set.length ∧ True) (fun g => [(1, .pointer (some ⟨b_l, 0, none⟩)), (2, .pointer (some ⟨b_s, 0, none⟩)), (3, .pointer (some ⟨b_rules, 0, none⟩)), (4, .pointer (some ⟨b_q, 0, none⟩)), (7, .slice g.2.1 g.2.2.1 g.2.2.2), (11, .slice a_set set.length c_set), (12, .int .i64 (↑set.length : Int)), (13, .int .i64 (↑g.1 : Int))]) (fun g => [ow L9 [.slice g.2.1 g.2.2.1 g.2.2.2] (selM dMB lB (set.take g.1))]) (fun g => set.length - g.1) (0, (some ⟨b10, 0, none⟩), 0, 0) ⟨Nat.zero_le _, by simp⟩ ⟨rfl, rfl, rfl, rfl, rfl, rfl, rfl, rfl, trivial⟩ (.refl _) (fun g pg => ?_))))))))))))))))))
 obtain ⟨g, aA0_0, mA0_0, cA0_0⟩ := g
 try dsimp only at pg
 try dsimp only
 obtain ⟨pk, pa⟩ := pg
 have jm : (selM dMB lB (set.take g)).length = (set.take g).length := List.length_map ..
 have jt0 := List.length_take_le g set
 refine Ent.lenow m0 fun eaA0_0 laA0_0 => ?_
 subst eaA0_0
 refine Ew Z1 (Ey rfl ((Y.lss rfl rfl).yd) (Ent.d (fun q14 => ?_) (fun q14 => ?_)))
 ·have jt := List.length_take_le g set
  obtain ⟨eb15, eo15, ea15, ei15, eh15⟩ := hset.elemI g om
  refine Eu (Eq_ (E.ct rfl (E.skipc (Et (Eq_ (E.block (Ew Z3 (Ey rfl ((Y.ix us_Is f6 rfl ea15 rfl g rfl om).yd) (Ey rfl (Y.ld1 f6 rfl (eh15 _) rfl) (Eas rfl rfl (Eu (Ez Z8 (Emv rfl rfl (Ey rfl (Y.ld1 ty_Methods rfl (hb_l.has) rfl) (Emv rfl rfl ?_)))))))))))))))
  have jx := hin _ (List.getElem_mem (show g < set.length by omega))
  obtain ⟨eb20, eo20, ec20, ea20, er20, el20, eh20⟩ := hlB.elem set[g].toNat om
  obtain ⟨rfl, ei20_0, ei20_2, ei20_3, ei20_4⟩ := Ro.pMethodB er20
  refine Ey rfl ((Y.ix us_Methods ty_Method rfl ea20 rfl set[g].toNat om om).yd) (Ey rfl (Y.ldS (cs := [_, _, _, _, _]) ty_Method rfl (eh20 _) rfl) (Est rfl (N.bsl (pvs := [_]) (cs := [_, _, _, _, _]) us_Methods ty_Method rfl dc dc (o9 rfl rfl) rfl dc) (fun b22 _ => (Ent.p1 (Est rfl (N.push (E := P8) (ex := lB[set[g].toNat]) us_Methods ty_Method rfl rfl rfl (Own.mkMethodB (x := lB[set[g].toNat]) ei20_0 ei20_2 ei20_3 ei20_4) rfl bn bn dc) (fun p23 _ => (Eas rfl rfl (En (E.bln (Et (Ez Z2 (Ey rfl ((Y.add rfl rfl om om).yd) (Emv rfl rfl (Eu (Ent.cv (congrArg (ow L9 [_]) (show (selM dMB lB (set.take g)) ++ [lB[set[g].toNat]] = selM dMB lB (set.take (g + 1)) from by exact a6u om om)) ?_)))))))))))))))
  exact Ea (g + 1, p23.1, ((selM dMB lB (set.take g)).length + 1), p23.2) ⟨oz, trivial⟩
 ·refine Eu (Eq_ (E.cf rfl (E.exit (E.the (E.the (E.blh (Et (Ew Z6 (Ey rfl (Y.ld1 ty_Is rfl (hb_s.has) rfl) (Emv rfl rfl (Ey rfl (Y.ld1 ty_Rules rfl (hb_rules.has) rfl) (Ey rfl (Y.ldS (cs := [_, _]) ty_Query rfl (hb_q.has) rfl) (Ent.cv (congrArg (ow L9 [_]) (show selM dMB lB (set.take g) = selM dMB lB set from by rw [List.take_of_length_le om])) ?_)))))))))))))
  have hbs := hB_l.selM (d := dMB) (d' := dM) (is := set) (fun i hi => by have := hin i hi; omega)
  refine Est rfl (N.call0 (a3G fc) rfl rfl rfl dc (fun w Lp hA => ⟨hA.ro hs, hA.bMethodB m0 hbs, hA.ro hrules, hA.ro o6, hA.ro n8⟩)) (fun _ _ => (Eas rfl rfl ?_))
  exact Eu (E.ret (Fb rfl rfl (by exact a2C)))
theorem a1r (hz : F0 (fun x => x.2.length) d4 ≤ 1048576) : Tr Tryz.prog 44 [.slice a_s m_s c_s, .slice a_l m_l c_l, .slice a_rules m_rules c_rules, .agg #[.slice o2 s9 o0, .slice l3 s7 l0]] (fun w L => Ro w L eIs [.slice a_s m_s c_s] s ∧ Ro w L D3 [.slice a_l m_l c_l] l ∧ Ro w L G1 [.slice a_rules m_rules c_rules] d8 ∧ Ro w L eIs [.slice o2 s9 o0] i7 ∧ Ro w L C2 [.slice l3 s7 l0] d4) [] (κ := Option Addr × Nat × Nat) (fun k => True) (fun k => .tuple #[.slice k.1 k.2.1 k.2.2, .bool (a3I s l d8 (i7, d4))]) (fun k => [ow eIs [.slice k.1 k.2.1 k.2.2] (a1l s l d8 (i7, d4))]) := by
 refine Tr.intro Tryz.func44 rfl (n := 21) rfl (by decide +kernel) bl (fr := [(0, .slice a_s m_s c_s), (1, .slice a_l m_l c_l), (2, .slice a_rules m_rules c_rules), (3, .agg #[.slice o2 s9 o0, .slice l3 s7 l0])]) rfl fun w L hR => ?_
 obtain ⟨hs, hl, hrules, o6, n8⟩ := hR
 obtain ⟨rfl, ls⟩ := hs.slen
 obtain ⟨rfl, ll⟩ := hl.slen
 obtain ⟨rfl, lrules⟩ := hrules.slen
 obtain ⟨rfl, L5⟩ := o6.slen
 obtain ⟨rfl, I7⟩ := n8.slen
 refine Ew Z6 (Est rfl (N.box (cs := [_]) rfl dc rfl) (fun b4 _ => (Est rfl (N.box (cs := [_]) rfl dc rfl) (fun b5 _ => (Est rfl (N.box (cs := [_]) rfl dc rfl) (fun b6 _ => (Est rfl (N.box (cs := [_, _]) rfl dc rfl) (fun b7 _ => (Eas rfl rfl (Eas rfl rfl (Eu (Eq_ (Ew Z5 (Ey rfl (Y.ld1 ty_Is rfl (Has.pt (mS (mS (mS m0)))) rfl) (Ey rfl (Y.ld1 ty_Methods rfl (Has.pt (mS (mS m0))) rfl) (Ey rfl (Y.ld1 ty_Rules rfl (Has.pt (mS m0)) rfl) (Est rfl (N.call0 a3E rfl rfl rfl dc (fun w Lp hA => ⟨hA.ro hs, hA.ro hl, hA.ro hrules⟩)) (fun _ _ => (Ent.b (fun q13 => ?_) (fun q13 => ?_))))))))))))))))))))
 ·have j5 := b3I q13
  refine Ey rfl ((Y.not (b := true) rfl).yd) (Eu (E.cf rfl (E.skipc (Et (Ew Z8 (Ey rfl (Y.ld1 ty_Methods rfl (Has.pt (mS (mS m0))) rfl) (Ey rfl ((Y.len us_Methods rfl).yd) (Ey rfl ((Y.fn (vs := [_, _, _, _]) rfl).yd) (Est rfl (N.call (a7e (is := (fun set => (H9 s l d8 (i7, d4)) set)) (D_is := (fun set => (∀ i ∈ set, 0 ≤ i ∧ i.toNat < l.length) ∧ (set.length ≤ 5) ∧ (F0 (fun x => x.2.length) d4 ≤ 1048576))) fc (by intro x hx h5; exact ⟨fun i hi => by have := hx i hi; omega, h5, hz⟩)) rfl rfl rfl dc rfl (fun w Lp hA => FnP.ofIs (D := (fun set => (∀ i ∈ set, 0 ≤ i ∧ i.toNat < l.length) ∧ (set.length ≤ 5) ∧ (F0 (fun x => x.2.length) d4 ≤ 1048576))) (fun hd => a3p hd.1 hd.2.1 hd.2.2) (fun w' hk => ⟨(hA.pt (mS (mS m0))).keep hk, (hA.ro hl).keep hk, (hA.pt (mS (mS (mS m0)))).keep hk, (hA.ro hs).keep hk, (hA.pt (mS m0)).keep hk, (hA.ro hrules).keep hk, (hA.pt m0).keep hk, (hA.ro o6).keep hk, (hA.ro n8).keep hk⟩))) (fun k18 _ => ?_))))))))))
  obtain ⟨a18, m18, c18⟩ := k18
  refine Ent.lenow m0 fun e18 l18 => ?_
  subst e18
  refine Ey rfl ((Y.ext rfl rfl).yd) (Ey rfl ((Y.ext rfl rfl).yd) (Eas rfl rfl (Eas rfl rfl (Eu (E.ret (Ent.cv (congrArg (ow eIs [_]) (show _ = a1l s l d8 (i7, d4) by first | exact (W5 (q := (i7, d4)) q13).1 | exact (W5 (q := (i7, d4)) q13).2 | exact (W5 (q := (i7, d4)) q13).1.symm | exact (W5 (q := (i7, d4)) q13).2.symm)) ?_))))))
  exact F.r2 br rfl rfl rfl (_, _, _) trivial (by rw [show (a3I s l d8 (i7, d4)) = ((hmI (fun set => (H9 s l d8 (i7, d4)) set) l.length (2 ^ l.length)).2) from (by first | exact (W5 (q := (i7, d4)) q13).1 | exact (W5 (q := (i7, d4)) q13).2 | exact (W5 (q := (i7, d4)) q13).1.symm | exact (W5 (q := (i7, d4)) q13).2.symm)]; try rfl) (J := _) (.refl _) (.inl rfl)
 ·refine Ey rfl ((Y.not (b := false) rfl).yd) (Eu (E.ct rfl (Ew Z2 (Eas rfl rfl (Eas rfl rfl (Eu (E.ret (E.thr (Ent.mkow (A := []) (Own.nil (E := Enc.int) (e := tI) (a := none)) rfl (Ent.cv (congrArg (ow eIs [_]) (show _ = a1l s l d8 (i7, d4) by first | exact (W8 (q := (i7, d4)) q13).1 | exact (W8 (q := (i7, d4)) q13).2 | exact (W8 (q := (i7, d4)) q13).1.symm | exact (W8 (q := (i7, d4)) q13).2.symm)) ?_))))))))))
  exact F.r2 br rfl rfl rfl (none, 0, 0) trivial (by rw [show (a3I s l d8 (i7, d4)) = (false) from (by first | exact (W8 (q := (i7, d4)) q13).1 | exact (W8 (q := (i7, d4)) q13).2 | exact (W8 (q := (i7, d4)) q13).1.symm | exact (W8 (q := (i7, d4)) q13).2.symm)]; try rfl) (J := _) (.refl _) (.inl rfl)
theorem a3V (hz : F0 (fun x => x.2.length) d4 ≤ 1048576) : Tr Tryz.prog 42 [.slice a_s m_s c_s, .slice a_l m_l c_l, .slice a_rules m_rules c_rules, .agg #[.slice o2 s9 o0, .slice l3 s7 l0]] (fun w L => Ro w L eIs [.slice a_s m_s c_s] s ∧ Ro w L D3 [.slice a_l m_l c_l] l ∧ Ro w L G1 [.slice a_rules m_rules c_rules] d8 ∧ Ro w L eIs [.slice o2 s9 o0] i7 ∧ Ro w L C2 [.slice l3 s7 l0] d4) [] (κ := Option Addr × Nat × Nat) (fun k => True) (fun k => .tuple #[.slice k.1 k.2.1 k.2.2, .bool (a3I s l d8 (i7, d4))]) (fun k => [ow eIs [.slice k.1 k.2.1 k.2.2] (a1l s l d8 (i7, d4))]) := by
 refine Tr.intro Tryz.func42 rfl (n := 66) rfl (by decide +kernel) bl (fr := [(0, .slice a_s m_s c_s), (1, .slice a_l m_l c_l), (2, .slice a_rules m_rules c_rules), (3, .agg #[.slice o2 s9 o0, .slice l3 s7 l0])]) rfl fun w L hR => ?_
 obtain ⟨hs, hl, hrules, o6, n8⟩ := hR
 obtain ⟨rfl, ls⟩ := hs.slen
 obtain ⟨rfl, ll⟩ := hl.slen
 obtain ⟨rfl, lrules⟩ := hrules.slen
 obtain ⟨rfl, L5⟩ := o6.slen
 obtain ⟨rfl, I7⟩ := n8.slen
 obtain ⟨lB, hlB, hb_l⟩ := Ro.bMethodB hl
 have jlB := hb_l.len
 refine Ew Z3 (Est rfl (N.box (cs := [_, _]) rfl dc rfl) (fun b7 _ => (Eas rfl rfl (Eas rfl rfl (Ev Z2 (Est rfl (N.bsl (pvs := []) (cs := []) us_Is f6 rfl dc dc (o9 rfl rfl) rfl dc) (fun b16 _ => (Ent.drop (Eas rfl rfl (Ev Z1 (Eas rfl rfl (Eu (Eq_ (Ew Z5 (Emv rfl rfl (Emv rfl rfl (Emv rfl rfl (Est rfl (N.call0 a3O rfl rfl rfl dc (fun w Lp hA => ⟨hA.ro hs, Ro.uMethodB (hA.ro hlB) (hA.bor hb_l), hA.ro hrules⟩)) (fun _ _ => (Ent.b (fun q20 => ?_) (fun q20 => ?_)))))))))))))))))))))
 ·have j5 := b3I q20
  have j2 : 2 ^ l.length ≤ 32 := Nat.le_trans (Nat.pow_le_pow_right dc j5) dc
  refine Ey rfl ((Y.not (b := true) rfl).yd) (Eu (E.cf rfl (E.skipc (Et (Eq_ (Ew Z1 (Eas rfl rfl (Eu (E.block (Ent.mkow (A := []) (Own.nil (E := Enc.int) (e := tI) (a := (some ⟨b16, 0, none⟩))) rfl (Ent.cv (congrArg (ow eIs [_]) (show [] = (hmI (H9 s l d8 (i7, d4)) l.length 0).1 from by rfl)) (E.loop (κ := Nat × Option Addr × Nat × Nat) (fun g => g.1 ≤ (2 ^ l.length : Nat) ∧ True) (fun g => [(0, .slice a_s s.length c_s), (1, .slice a_l l.length c_l), (2, .slice a_rules d8.length c_rules), (7, .pointer (some ⟨b7, 0, none⟩)), (10, .slice g.2.1 g.2.2.1 g.2.2.2), (11, .bool ((hmI (H9 s l d8 (i7, d4)) l.length g.1).2)), (12, .int .i64 (↑g.1 : Int))]) (fun g => [ow eIs [.slice g.2.1 g.2.2.1 g.2.2.2] ((hmI (H9 s l d8 (i7, d4)) l.length g.1).1), pt b7 61 [.slice o2 i7.length o0, .slice l3 d4.length l0]]) (fun g => (2 ^ l.length : Nat) - g.1) (0, (some ⟨b16, 0, none⟩), 0, 0) ⟨Nat.zero_le _, trivial⟩ ⟨rfl, rfl, rfl, rfl, rfl, frB (by rfl), rfl, trivial⟩ (.refl _) (fun g pg => ?_)))))))))))))
  obtain ⟨g, aA0_0, mA0_0, cA0_0⟩ := g
  try dsimp only at pg
  try dsimp only
  obtain ⟨pk, pa⟩ := pg
  have js := a2o (m := g) (n := l.length)
  have jm := (a5m (F := (H9 s l d8 (i7, d4))) (n := l.length) (m := g)).2
  refine Ent.lenow m0 fun eaA0_0 laA0_0 => ?_
  subst eaA0_0
  refine Eq_ (Ew Z5 (Emv rfl rfl (Emv rfl rfl (Ey rfl ((Y.len us_Methods rfl).yd) (Ey rfl ((Y.shl1 rfl rfl om).yd) (Ey rfl ((Y.lss rfl rfl).yd) (Ent.d (fun q27 => ?_) (fun q27 => ?_))))))))
  ·refine Eu (E.ct rfl (E.skipc (Et (Eq_ (E.block (Ew Z5 (Emv rfl rfl (Emv rfl rfl (Ey rfl ((Y.len us_Methods rfl).yd) (Est rfl (N.call (a9m fc fc) rfl rfl rfl dc rfl (fun w Lp hA => trivial)) (fun k33 _ => ?_)))))))))))
   obtain ⟨a33, m33, c33⟩ := k33
   refine Ent.lenow m0 fun e33 l33 => ?_
   subst e33
   refine Eas rfl rfl (Eu (Eq_ (Ew Z7 (Emv rfl rfl (Ent.b (fun q34 => ?_) (fun q34 => ?_))))))
   ·refine Emv rfl rfl (Emv rfl rfl (Emv rfl rfl (Est rfl (N.call0 a7V rfl rfl rfl dc (fun w Lp hA => ⟨hA.ow m0, hA.ow (mS m0)⟩)) (fun _ _ => (Ent.b (fun q38 => ?_) (fun q38 => ?_))))))
    ·dsimp only [Int.toNat_natCast] at q38
     refine Ey rfl ((Y.not (b := true) rfl).yd) (Ey rfl ((Y.pkt rfl rfl).yd) (Eu (E.cf rfl (E.skipc (Et (Ew Z2 (Est rfl (N.bsl (pvs := []) (cs := []) us_Methods ty_Method rfl dc dc (o9 rfl rfl) rfl dc) (fun b41 _ => (Ent.drop (Eas rfl rfl (Eu (Eq_ (Ew Z1 (Eas rfl rfl (Eu (E.block (Ent.mkow (A := []) (Own.nil (E := P8) (e := a4s) (a := (some ⟨b41, 0, none⟩))) rfl (Ent.cv (congrArg (ow L9 [_]) (show [] = selM dMB lB ((w9 g l.length).take 0) from by rfl)) (E.loop (κ := Nat × Option Addr × Nat × Nat) (fun j => j.1 ≤ (w9 g l.length).length ∧ True) (fun j => [(0, .slice a_s s.length c_s), (1, .slice a_l l.length c_l), (2, .slice a_rules d8.length c_rules), (7, .pointer (some ⟨b7, 0, none⟩)), (10, .slice aA0_0 ((hmI (H9 s l d8 (i7, d4)) l.length g).1).length cA0_0), (11, .bool ((hmI (H9 s l d8 (i7, d4)) l.length g).2)), (12, .int .i64 (g : Int)), (13, .slice a33 (w9 g l.length).length c33), (14, .slice j.2.1 j.2.2.1 j.2.2.2), (15, .int .i64 (↑j.1 : Int))]) (fun j => [ow L9 [.slice j.2.1 j.2.2.1 j.2.2.2] (selM dMB lB ((w9 g l.length).take j.1)), ow eIs [.slice a33 (w9 g l.length).length c33] (w9 g l.length), ow eIs [.slice aA0_0 ((hmI (H9 s l d8 (i7, d4)) l.length g).1).length cA0_0] ((hmI (H9 s l d8 (i7, d4)) l.length g).1), pt b7 61 [.slice o2 i7.length o0, .slice l3 d4.length l0]]) (fun j => (w9 g l.length).length - j.1) (0, (some ⟨b41, 0, none⟩), 0, 0) ⟨Nat.zero_le _, by simp⟩ ⟨rfl, rfl, rfl, rfl, rfl, rfl, rfl, rfl, rfl, rfl, trivial⟩ (.refl _) (fun j pj => ?_))))))))))))))))))))
     obtain ⟨j, aA1_0, mA1_0, cA1_0⟩ := j
     try dsimp only at pj
     try dsimp only
     obtain ⟨pk, pa⟩ := pj
     have jm2 : (selM dMB lB ((w9 g l.length).take j)).length = ((w9 g l.length).take j).length := List.length_map ..
     have jt0 := List.length_take_le j (w9 g l.length)
     refine Ent.lenow m0 fun eaA1_0 laA1_0 => ?_
     subst eaA1_0
     refine Eq_ (Ew Z4 (Emv rfl rfl (Emv rfl rfl (Ey rfl ((Y.len us_Is rfl).yd) (Ey rfl ((Y.lss rfl rfl).yd) (Ent.d (fun q45 => ?_) (fun q45 => ?_)))))))
     ·refine Eu (E.ct rfl (E.skipc (Et (Eq_ (E.block (Ez Z11 (Emv rfl rfl (Emv rfl rfl (Emv rfl rfl (Emv rfl rfl (Ent.adr (mS m0) om fun ab52 ae52 => (Ent.owI j (mS m0) om fun ei52 => (Ey rfl ((Y.ix us_Is f6 rfl ae52 rfl j rfl om).yd) (Ey rfl (Y.ld1 f6 rfl (Has.owI2 ae52 (mS m0) om) rfl) ?_))))))))))))))
      have jx := a1s (m := g) (n := l.length) (List.getElem_mem (show j < (w9 g l.length).length by omega))
      obtain ⟨eb54, eo54, ec54, ea54, er54, el54, eh54⟩ := hlB.elem (((w9 g l.length)[j]).toNat) om
      obtain ⟨rfl, ei54_0, ei54_2, ei54_3, ei54_4⟩ := Ro.pMethodB er54
      refine Ey rfl ((Y.ix us_Methods ty_Method rfl ea54 rfl (((w9 g l.length)[j]).toNat) om om).yd) (Ey rfl (Y.ldS (cs := [_, _, _, _, _]) ty_Method rfl (eh54 _) rfl) (Est rfl (N.bsl (pvs := [_]) (cs := [_, _, _, _, _]) us_Methods ty_Method rfl dc dc (o9 rfl rfl) rfl dc) (fun b56 _ => (Ent.p1 (Est rfl (N.push (E := P8) (ex := lB[((w9 g l.length)[j]).toNat]) us_Methods ty_Method rfl rfl rfl (Own.mkMethodB (x := lB[((w9 g l.length)[j]).toNat]) ei54_0 ei54_2 ei54_3 ei54_4) rfl bn bn dc) (fun p57 _ => (Eas rfl rfl (En (E.bln (Et (Ez Z3 (Emv rfl rfl (Ey rfl ((Y.add rfl rfl om om).yd) (Eas rfl rfl (Eu (Ent.cv (congrArg (ow L9 [_]) (show (selM dMB lB ((w9 g l.length).take j)) ++ [lB[((w9 g l.length)[j]).toNat]] = selM dMB lB ((w9 g l.length).take (j + 1)) from by exact a6u om om)) (Ent.p3 (Ent.p3 (Ent.p3 (Ent.p3 ?_))))))))))))))))))))
      exact Ea (j + 1, p57.1, ((selM dMB lB ((w9 g l.length).take j)).length + 1), p57.2) ⟨oz, trivial⟩
     ·refine Eu (E.cf rfl (E.exit (E.the (E.the (E.blh (Et (Ew Z5 (Emv rfl rfl (Emv rfl rfl (Emv rfl rfl (Ey rfl (Y.ldS (cs := [_, _]) ty_Query rfl (Has.pt (mS (mS (mS m0)))) rfl) (Ent.cv (congrArg (ow L9 [_]) (show selM dMB lB ((w9 g l.length).take j) = selM dMB lB (w9 g l.length) from by rw [List.take_of_length_le om])) ?_))))))))))))
      have hin : ∀ i ∈ (w9 g l.length), 0 ≤ i ∧ i.toNat < l.length := fun i hi => by have := a1s hi; omega
      have hbs := hb_l.selM (d := dMB) (d' := dM) (is := (w9 g l.length)) (fun i hi => by have := hin i hi; omega)
      refine Est rfl (N.call0 (a1b fc) rfl rfl rfl dc (fun w Lp hA => ⟨hA.ro hs, hA.bMethodB m0 hbs, hA.ro hrules, hA.ro o6, hA.ro n8⟩)) (fun _ _ => (Ent.b (fun q62 => ?_) (fun q62 => ?_)))
      ·rw [a2C] at q62
       refine Eu (E.ct rfl (Ew Z2 (Emv rfl rfl (Eas rfl rfl (Eu (Ez Z1 (Eas rfl rfl (En (E.bln (Et (Ez Z3 (Emv rfl rfl (Ey rfl ((Y.add rfl rfl om om).yd) (Eas rfl rfl (Eu (Ent.drop (Ent.p1 (Ent.drop (Ent.cv (congrArg (ow eIs [_]) (show w9 g l.length = (hmI (H9 s l d8 (i7, d4)) l.length (g + 1)).1 from by first | (rw [M7 q34 q62]; done) | (rw [F1 q34 q38]; done) | (rw [M9 q62]; done) | (rw [F2 q38 q62]; done))) (Ent.p1 (Ent.p1 ?_)))))))))))))))))))))
       exact E.again br (g + 1, a33, (w9 g l.length).length, c33) ⟨rfl, rfl, rfl, rfl, rfl, frB (by first | (rw [M7 q34 q62]; done) | (rw [F1 q34 q38]; done) | (rw [M9 q62]; done) | (rw [F2 q38 q62]; done)), rfl, trivial⟩ (.refl _) ⟨oz, trivial⟩ oz
      ·rw [a2C] at q62
       refine Eu (E.cf rfl (E.skipc (E.bln (Et (Ez Z3 (Emv rfl rfl (Ey rfl ((Y.add rfl rfl om om).yd) (Eas rfl rfl (Eu (Ent.drop (Ent.drop (Ent.cv (congrArg (ow eIs [_]) (show (hmI (H9 s l d8 (i7, d4)) l.length g).1 = (hmI (H9 s l d8 (i7, d4)) l.length (g + 1)).1 from by first | (rw [M7 q34 q62]; done) | (rw [F1 q34 q38]; done) | (rw [M9 q62]; done) | (rw [F2 q38 q62]; done))) (Ent.p1 (Ent.p1 ?_))))))))))))))
       exact E.again br (g + 1, aA0_0, ((hmI (H9 s l d8 (i7, d4)) l.length g).1).length, cA0_0) ⟨rfl, rfl, rfl, rfl, rfl, frB (by first | (rw [M7 q34 q62]; done) | (rw [F1 q34 q38]; done) | (rw [M9 q62]; done) | (rw [F2 q38 q62]; done)), rfl, trivial⟩ (.refl _) ⟨oz, trivial⟩ oz
    ·dsimp only [Int.toNat_natCast] at q38
     refine Ey rfl ((Y.not (b := false) rfl).yd) (Ey rfl ((Y.pkt rfl rfl).yd) (Eu (E.ct rfl (E.exit (E.the (E.blh (Et (Ez Z3 (Emv rfl rfl (Ey rfl ((Y.add rfl rfl om om).yd) (Eas rfl rfl (Eu (Ent.drop (Ent.cv (congrArg (ow eIs [_]) (show (hmI (H9 s l d8 (i7, d4)) l.length g).1 = (hmI (H9 s l d8 (i7, d4)) l.length (g + 1)).1 from by first | (rw [M7 q34 q62]; done) | (rw [F1 q34 q38]; done) | (rw [M9 q62]; done) | (rw [F2 q38 q62]; done))) (Ent.p1 (Ent.p1 ?_))))))))))))))))
     exact E.again br (g + 1, aA0_0, ((hmI (H9 s l d8 (i7, d4)) l.length g).1).length, cA0_0) ⟨rfl, rfl, rfl, rfl, rfl, frB (by first | (rw [M7 q34 q62]; done) | (rw [F1 q34 q38]; done) | (rw [M9 q62]; done) | (rw [F2 q38 q62]; done)), rfl, trivial⟩ (.refl _) ⟨oz, trivial⟩ oz
   ·refine Emv rfl rfl (Es rfl (Es rfl (Es rfl (Es rfl (Ey rfl ((Y.pkf rfl rfl).yd) (Eu (E.cf rfl (E.skipc (Et (Ew Z2 (Est rfl (N.bsl (pvs := []) (cs := []) us_Methods ty_Method rfl dc dc (o9 rfl rfl) rfl dc) (fun b41 _ => (Ent.drop (Eas rfl rfl (Eu (Eq_ (Ew Z1 (Eas rfl rfl (Eu (E.block (Ent.mkow (A := []) (Own.nil (E := P8) (e := a4s) (a := (some ⟨b41, 0, none⟩))) rfl (Ent.cv (congrArg (ow L9 [_]) (show [] = selM dMB lB ((w9 g l.length).take 0) from by rfl)) (E.loop (κ := Nat × Option Addr × Nat × Nat) (fun j => j.1 ≤ (w9 g l.length).length ∧ True) (fun j => [(0, .slice a_s s.length c_s), (1, .slice a_l l.length c_l), (2, .slice a_rules d8.length c_rules), (7, .pointer (some ⟨b7, 0, none⟩)), (10, .slice aA0_0 ((hmI (H9 s l d8 (i7, d4)) l.length g).1).length cA0_0), (11, .bool ((hmI (H9 s l d8 (i7, d4)) l.length g).2)), (12, .int .i64 (g : Int)), (13, .slice a33 (w9 g l.length).length c33), (14, .slice j.2.1 j.2.2.1 j.2.2.2), (15, .int .i64 (↑j.1 : Int))]) (fun j => [ow L9 [.slice j.2.1 j.2.2.1 j.2.2.2] (selM dMB lB ((w9 g l.length).take j.1)), ow eIs [.slice a33 (w9 g l.length).length c33] (w9 g l.length), ow eIs [.slice aA0_0 ((hmI (H9 s l d8 (i7, d4)) l.length g).1).length cA0_0] ((hmI (H9 s l d8 (i7, d4)) l.length g).1), pt b7 61 [.slice o2 i7.length o0, .slice l3 d4.length l0]]) (fun j => (w9 g l.length).length - j.1) (0, (some ⟨b41, 0, none⟩), 0, 0) ⟨Nat.zero_le _, by simp⟩ ⟨rfl, rfl, rfl, rfl, rfl, rfl, rfl, rfl, rfl, rfl, trivial⟩ (.refl _) (fun j pj => ?_))))))))))))))))))))))))
    obtain ⟨j, aA1_0, mA1_0, cA1_0⟩ := j
    try dsimp only at pj
    try dsimp only
    obtain ⟨pk, pa⟩ := pj
    have jm2 : (selM dMB lB ((w9 g l.length).take j)).length = ((w9 g l.length).take j).length := List.length_map ..
    have jt0 := List.length_take_le j (w9 g l.length)
    refine Ent.lenow m0 fun eaA1_0 laA1_0 => ?_
    subst eaA1_0
    refine Eq_ (Ew Z4 (Emv rfl rfl (Emv rfl rfl (Ey rfl ((Y.len us_Is rfl).yd) (Ey rfl ((Y.lss rfl rfl).yd) (Ent.d (fun q45 => ?_) (fun q45 => ?_)))))))
    ·refine Eu (E.ct rfl (E.skipc (Et (Eq_ (E.block (Ez Z11 (Emv rfl rfl (Emv rfl rfl (Emv rfl rfl (Emv rfl rfl (Ent.adr (mS m0) om fun ab52 ae52 => (Ent.owI j (mS m0) om fun ei52 => (Ey rfl ((Y.ix us_Is f6 rfl ae52 rfl j rfl om).yd) (Ey rfl (Y.ld1 f6 rfl (Has.owI2 ae52 (mS m0) om) rfl) ?_))))))))))))))
     have jx := a1s (m := g) (n := l.length) (List.getElem_mem (show j < (w9 g l.length).length by omega))
     obtain ⟨eb54, eo54, ec54, ea54, er54, el54, eh54⟩ := hlB.elem (((w9 g l.length)[j]).toNat) om
     obtain ⟨rfl, ei54_0, ei54_2, ei54_3, ei54_4⟩ := Ro.pMethodB er54
     refine Ey rfl ((Y.ix us_Methods ty_Method rfl ea54 rfl (((w9 g l.length)[j]).toNat) om om).yd) (Ey rfl (Y.ldS (cs := [_, _, _, _, _]) ty_Method rfl (eh54 _) rfl) (Est rfl (N.bsl (pvs := [_]) (cs := [_, _, _, _, _]) us_Methods ty_Method rfl dc dc (o9 rfl rfl) rfl dc) (fun b56 _ => (Ent.p1 (Est rfl (N.push (E := P8) (ex := lB[((w9 g l.length)[j]).toNat]) us_Methods ty_Method rfl rfl rfl (Own.mkMethodB (x := lB[((w9 g l.length)[j]).toNat]) ei54_0 ei54_2 ei54_3 ei54_4) rfl bn bn dc) (fun p57 _ => (Eas rfl rfl (En (E.bln (Et (Ez Z3 (Emv rfl rfl (Ey rfl ((Y.add rfl rfl om om).yd) (Eas rfl rfl (Eu (Ent.cv (congrArg (ow L9 [_]) (show (selM dMB lB ((w9 g l.length).take j)) ++ [lB[((w9 g l.length)[j]).toNat]] = selM dMB lB ((w9 g l.length).take (j + 1)) from by exact a6u om om)) (Ent.p3 (Ent.p3 (Ent.p3 (Ent.p3 ?_))))))))))))))))))))
     exact Ea (j + 1, p57.1, ((selM dMB lB ((w9 g l.length).take j)).length + 1), p57.2) ⟨oz, trivial⟩
    ·refine Eu (E.cf rfl (E.exit (E.the (E.the (E.blh (Et (Ew Z5 (Emv rfl rfl (Emv rfl rfl (Emv rfl rfl (Ey rfl (Y.ldS (cs := [_, _]) ty_Query rfl (Has.pt (mS (mS (mS m0)))) rfl) (Ent.cv (congrArg (ow L9 [_]) (show selM dMB lB ((w9 g l.length).take j) = selM dMB lB (w9 g l.length) from by rw [List.take_of_length_le om])) ?_))))))))))))
     have hin : ∀ i ∈ (w9 g l.length), 0 ≤ i ∧ i.toNat < l.length := fun i hi => by have := a1s hi; omega
     have hbs := hb_l.selM (d := dMB) (d' := dM) (is := (w9 g l.length)) (fun i hi => by have := hin i hi; omega)
     refine Est rfl (N.call0 (a1b fc) rfl rfl rfl dc (fun w Lp hA => ⟨hA.ro hs, hA.bMethodB m0 hbs, hA.ro hrules, hA.ro o6, hA.ro n8⟩)) (fun _ _ => (Ent.b (fun q62 => ?_) (fun q62 => ?_)))
     ·rw [a2C] at q62
      refine Eu (E.ct rfl (Ew Z2 (Emv rfl rfl (Eas rfl rfl (Eu (Ez Z1 (Eas rfl rfl (En (E.bln (Et (Ez Z3 (Emv rfl rfl (Ey rfl ((Y.add rfl rfl om om).yd) (Eas rfl rfl (Eu (Ent.drop (Ent.p1 (Ent.drop (Ent.cv (congrArg (ow eIs [_]) (show w9 g l.length = (hmI (H9 s l d8 (i7, d4)) l.length (g + 1)).1 from by first | (rw [M7 q34 q62]; done) | (rw [F1 q34 q38]; done) | (rw [M9 q62]; done) | (rw [F2 q38 q62]; done))) (Ent.p1 (Ent.p1 ?_)))))))))))))))))))))
      exact E.again br (g + 1, a33, (w9 g l.length).length, c33) ⟨rfl, rfl, rfl, rfl, rfl, frB (by first | (rw [M7 q34 q62]; done) | (rw [F1 q34 q38]; done) | (rw [M9 q62]; done) | (rw [F2 q38 q62]; done)), rfl, trivial⟩ (.refl _) ⟨oz, trivial⟩ oz
     ·rw [a2C] at q62
      refine Eu (E.cf rfl (E.skipc (E.bln (Et (Ez Z3 (Emv rfl rfl (Ey rfl ((Y.add rfl rfl om om).yd) (Eas rfl rfl (Eu (Ent.drop (Ent.drop (Ent.cv (congrArg (ow eIs [_]) (show (hmI (H9 s l d8 (i7, d4)) l.length g).1 = (hmI (H9 s l d8 (i7, d4)) l.length (g + 1)).1 from by first | (rw [M7 q34 q62]; done) | (rw [F1 q34 q38]; done) | (rw [M9 q62]; done) | (rw [F2 q38 q62]; done))) (Ent.p1 (Ent.p1 ?_))))))))))))))
      exact E.again br (g + 1, aA0_0, ((hmI (H9 s l d8 (i7, d4)) l.length g).1).length, cA0_0) ⟨rfl, rfl, rfl, rfl, rfl, frB (by first | (rw [M7 q34 q62]; done) | (rw [F1 q34 q38]; done) | (rw [M9 q62]; done) | (rw [F2 q38 q62]; done)), rfl, trivial⟩ (.refl _) ⟨oz, trivial⟩ oz
  ·refine Eu (E.cf rfl (E.exit (E.the (E.the (E.blh (Et (Ew Z4 (Emv rfl rfl (Emv rfl rfl (Eas rfl rfl (Eas rfl rfl (Eu (E.ret (Ent.cv (congrArg (ow eIs [_]) (show _ = a1l s l d8 (i7, d4) by (rw [show g = 2 ^ l.length from by omega]; first | exact (W5 (q := (i7, d4)) q20).1 | exact (W5 (q := (i7, d4)) q20).2 | exact (W5 (q := (i7, d4)) q20).1.symm | exact (W5 (q := (i7, d4)) q20).2.symm))) ?_))))))))))))))
   exact F.r2 br rfl rfl rfl (_, _, _) trivial (by rw [show (a3I s l d8 (i7, d4)) = ((hmI (H9 s l d8 (i7, d4)) l.length g).2) from (by (rw [show g = 2 ^ l.length from by omega]; first | exact (W5 (q := (i7, d4)) q20).1 | exact (W5 (q := (i7, d4)) q20).2 | exact (W5 (q := (i7, d4)) q20).1.symm | exact (W5 (q := (i7, d4)) q20).2.symm))]; try rfl) (J := _) (.refl _) (.inl rfl)
 ·refine Ey rfl ((Y.not (b := false) rfl).yd) (Eu (E.ct rfl (Ew Z3 (Emv rfl rfl (Eas rfl rfl (Eas rfl rfl (Eu (E.ret (E.thr (Ent.mkow (A := []) (Own.nil (E := Enc.int) (e := tI) (a := (some ⟨b16, 0, none⟩))) rfl (Ent.cv (congrArg (ow eIs [_]) (show _ = a1l s l d8 (i7, d4) by first | exact (W8 (q := (i7, d4)) q20).1 | exact (W8 (q := (i7, d4)) q20).2 | exact (W8 (q := (i7, d4)) q20).1.symm | exact (W8 (q := (i7, d4)) q20).2.symm)) ?_)))))))))))
  exact F.r2 br rfl rfl rfl ((some ⟨b16, 0, none⟩), 0, 0) trivial (by rw [show (a3I s l d8 (i7, d4)) = (false) from (by first | exact (W8 (q := (i7, d4)) q20).1 | exact (W8 (q := (i7, d4)) q20).2 | exact (W8 (q := (i7, d4)) q20).1.symm | exact (W8 (q := (i7, d4)) q20).2.symm)]; try rfl) (J := _) (.refl _) (.inl rfl)
end Go.Proofs.YtdopeopehgdccaaGreat
