import Derived.Test.YtlfhopooaejpfaaGreatT65
import Derived.Test.YtlfhopooaejpfaaGreatHs
namespace Go.Proofs.YtlfhopooaejpfaaGreat
open Go.RowKit
set_option linter.all false
set_option maxHeartbeats 2000000
attribute [local irreducible] Nop Yd Yp Ent Has Tr FnP FnP2 Src o6 d7 O0 a0h H2 H6 D0 x5 fzF fzV fzX fzB f0 z8 L9 Q5 C1 X9 O9
variable {n : Int} {d4 : List (Int × Int × List Int)} {l : List (Int × List Int × Int × Int × Int)} {a6 : List (Int × List Int)} {s i9 : List Int} {m_l c_l m_s c_s m_rules c_rules y9 u9 w9 t7 : Nat} {a_l a_s a_rules v6 t8 : Option Addr}
theorem a5W {a_a : Option Addr} {m_a c_a : Nat} {a : List Int} {a_b : Option Addr} {m_b c_b : Nat} {b : List Int} : Tr Tryz.prog 84 [.slice a_a m_a c_a, .slice a_b m_b c_b] (fun w L => Ro w L eIs [.slice a_a m_a c_a] a ∧ Ro w L eIs [.slice a_b m_b c_b] b) [] (κ := Unit) (fun k => True) (fun k => .bool (Y7 a b)) (fun k => []) := by
 refine Tr.intro Tryz.func84 rfl (n := 18) rfl (by decide +kernel) bl (fr := [(0, .slice a_a m_a c_a), (1, .slice a_b m_b c_b)]) rfl fun w L hR => ?_
 obtain ⟨ha, hb⟩ := hR
 obtain ⟨rfl, la⟩ := ha.slen
 obtain ⟨rfl, lb⟩ := hb.slen
 refine Ew Z1 (Ei rfl (Eu (Eq_ (Ew Z5 (Em rfl (Ey rfl ((Y.len us_Is rfl).yd) (Em rfl (Ey rfl ((Y.len us_Is rfl).yd) (Ey rfl ((Y.neq rfl rfl).yd) (n9 (fun q9 => ?_) (fun q9 => ?_)))))))))))
 ·refine Eu (o0 rfl (Ew Z6 (Em rfl (Ey rfl ((Y.len us_Is rfl).yd) (Em rfl (Ey rfl ((Y.len us_Is rfl).yd) (Ey rfl ((Y.lss rfl rfl).yd) (Ei rfl ?_))))))))
  exact Eu (E.ret (s9 (Fb rfl rfl (by grind [Y7, d1, d2, t1, t2]))))
 ·refine Eu (n8 rfl (f9 (Et (Ew Z4 (Em rfl (Em rfl (Est rfl (o4 b1P rfl rfl rfl dc (fun w Lp hA => ⟨hA.ro ha, hA.ro hb⟩)) (fun _ _ => (Ei rfl ?_)))))))))
  exact Eu (E.ret (Fb rfl rfl (by grind [Y7, d1, d2, t1, t2])))
theorem a6S {mask : Int} (hn : 0 ≤ n ∧ n ≤ 5) (hm : 0 ≤ mask) : Tr Tryz.prog 83 [.int .i64 mask, .int .i64 n] (fun w L => True) [] (κ := Option Addr × Nat × Nat) (fun k => True) (fun k => .slice k.1 k.2.1 k.2.2) (fun k => [ow eIs [.slice k.1 k.2.1 k.2.2] (B5 mask.toNat n.toNat)]) := by
 refine Tr.intro Tryz.func83 rfl (n := 23) rfl (by decide +kernel) bl (fr := [(0, .int .i64 mask), (1, .int .i64 n)]) rfl fun w L hR => ?_
 obtain ⟨mk, rfl⟩ : ∃ x : Nat, mask = (x : Int) := ⟨mask.toNat, by omega⟩
 dsimp only [Int.toNat_natCast]
 obtain ⟨x, rfl⟩ : ∃ x : Nat, n = (x : Int) := ⟨n.toNat, by omega⟩
 dsimp only [Int.toNat_natCast]
 refine Ew Z1 (Ei rfl (Ev Z2 (Est rfl (Nb [] [] us_Is f5 rfl rfl) (fun b7 _ => (Ent.drop (Ei rfl (Eu (Eq_ (Ew Z1 (Ei rfl (Eu (E.block (s7 (A := []) (Own.nil (E := Enc.int) (e := tI) (a := (some ⟨b7, 0, none⟩))) rfl (f6 (congrArg (ow eIs [_]) (show [] = B5 mk 0 from by rfl)) (E.loop (κ := Nat × Option Addr × Nat × Nat) (fun g => g.1 ≤ x ∧ True) (fun g => [(0, .int .i64 (mk : Int)), (1, .int .i64 (x : Int)), (5, .slice g.2.1 g.2.2.1 g.2.2.2), (6, .int .i64 (↑g.1 : Int))]) (fun g => [ow eIs [.slice g.2.1 g.2.2.1 g.2.2.2] (B5 mk g.1)]) (fun g => x - g.1) (0, (some ⟨b7, 0, none⟩), 0, 0) ⟨Nat.zero_le _, by simp⟩ ⟨rfl, rfl, rfl, rfl, trivial⟩ (.refl _) (fun g pg => ?_))))))))))))))))
 obtain ⟨g, aA0_0, mA0_0, cA0_0⟩ := g
 try dsimp only at pg
 try dsimp only
 obtain ⟨pk, pa⟩ := pg
 have js := a2o (m := mk) (n := g)
 refine d6 m0 fun eaA0_0 laA0_0 => ?_
 subst eaA0_0
 refine Eq_ (Ew Z3 (Em rfl (Em rfl (Ey rfl ((Y.lss rfl rfl).yd) (n9 (fun q10 => ?_) (fun q10 => ?_))))))
 ·refine Eu (o0 rfl (f9 (Et (Eq_ (E.block (Ew Z5 (Em rfl (Em rfl (Ey rfl ((a9X (b := g) rfl rfl om).yd) (Ey rfl ((Y.and rfl rfl).yd) (Ey rfl ((Y.eql rfl rfl).yd) (n9 (fun q17 => ?_) (fun q17 => ?_)))))))))))))
  ·refine Eu (o0 rfl (Ez Z5 (Em rfl (Em rfl (Est rfl (Nb [_] [_] us_Is f5 rfl rfl) (fun b20 _ => (d8 (Est rfl (B2 (E := Enc.int) (ex := (g : Int)) us_Is f5 rfl rfl rfl (Own.int i6) rfl bn bn dc) (fun p21 _ => (Ei rfl (En (s8 (Et (Ez Z3 (Em rfl (Ey rfl ((Y.add rfl rfl om om).yd) (Ei rfl (Eu (f6 (congrArg (ow eIs [_]) (show (B5 mk g) ++ [(g : Int)] = B5 mk (g + 1) from by first | exact a9w q17 | exact a9B q17)) ?_)))))))))))))))))))
   exact Ea (g + 1, p21.1, ((B5 mk g).length + 1), p21.2) ⟨oz, trivial⟩
  ·refine Eu (n8 rfl (f9 (s8 (Et (Ez Z3 (Em rfl (Ey rfl ((Y.add rfl rfl om om).yd) (Ei rfl (Eu (f6 (congrArg (ow eIs [_]) (show B5 mk g = B5 mk (g + 1) from by first | exact a9w q17 | exact a9B q17)) ?_))))))))))
   exact Ea (g + 1, aA0_0, (B5 mk g).length, cA0_0) ⟨oz, trivial⟩
 ·refine Eu (n8 rfl (E.exit (l3 (l3 (y4 (Et (Ew Z2 (Em rfl (Ei rfl (Eu (E.ret (f6 (congrArg (ow eIs [_]) (show _ = B5 mk x by rw [show g = x from by omega])) ?_))))))))))))
  exact Fg rfl rfl (_, _, _) rfl rfl
theorem a5d {is_g : FuncId} {is_c : List Value} {D_is : (List Int) → Prop} {is : (List Int) → Bool} (hn : 0 ≤ n ∧ n ≤ 5) (hD_is : ∀ x : List Int, (∀ i ∈ x, 0 ≤ i ∧ i < n) → x.length ≤ 5 → D_is x) : Tr Tryz.prog 80 [.int .i64 n, .func (.func is_g) #[] is_c.toArray] (fun w L => FnP Tryz.prog w L is_g is_c eIs a8D D_is is) [] (κ := Option Addr × Nat × Nat) (fun k => True) (fun k => .tuple #[.slice k.1 k.2.1 k.2.2, .bool ((hmI is n.toNat (2 ^ n.toNat)).2)]) (fun k => [ow eIs [.slice k.1 k.2.1 k.2.2] ((hmI is n.toNat (2 ^ n.toNat)).1)]) := by
 refine Tr.intro Tryz.func80 rfl (n := 62) rfl (by decide +kernel) bl (fr := [(0, .int .i64 n), (1, .func (.func is_g) #[] is_c.toArray)]) rfl fun w L hR => ?_
 have his := hR
 obtain ⟨x, rfl⟩ : ∃ x : Nat, n = (x : Int) := ⟨n.toNat, by omega⟩
 dsimp only [Int.toNat_natCast]
 refine Ew Z2 (Ei rfl (Ei rfl (Ev Z1 (Ei rfl (Eu (Eq_ (Ew Z3 (Em rfl (Ey rfl ((a9Y rfl rfl om).yd) (Em rfl (Eu (E.block (s7 (A := []) (Own.nil (E := Enc.int) (e := tI) (a := none)) rfl (f6 (congrArg (ow eIs [_]) (show [] = (hmI is x 0).1 from by rfl)) (E.loop (κ := Nat × Option Addr × Nat × Nat) (fun g => g.1 ≤ (2 ^ x : Nat) ∧ (g.2.1.isNone = !(hmI is x g.1).2)) (fun g => [(0, .int .i64 (x : Int)), (1, .func (.func is_g) #[] is_c.toArray), (6, .slice g.2.1 g.2.2.1 g.2.2.2), (11, .int .i64 (↑(2 ^ x : Nat) : Int)), (12, .int .i64 (↑g.1 : Int))]) (fun g => [ow eIs [.slice g.2.1 g.2.2.1 g.2.2.2] ((hmI is x g.1).1)]) (fun g => (2 ^ x : Nat) - g.1) (0, none, 0, 0) ⟨Nat.zero_le _, rfl⟩ ⟨rfl, rfl, rfl, rfl, rfl, trivial⟩ (.refl _) (fun g pg => ?_))))))))))))))))
 obtain ⟨g, aA0_0, mA0_0, cA0_0⟩ := g
 try dsimp only at pg
 try dsimp only
 obtain ⟨pk, pa⟩ := pg
 have j2 : 2 ^ x ≤ 32 := Nat.le_trans (Nat.pow_le_pow_right dc (show x ≤ 5 by omega)) dc
 have jm := (a5Q (F := is) (n := x) (m := g)).2
 refine d6 m0 fun eaA0_0 laA0_0 => ?_
 subst eaA0_0
 refine Ew Z1 (Ey rfl ((Y.lss rfl rfl).yd) (n9 (fun q13 => ?_) (fun q13 => ?_)))
 ·refine Eu (Eq_ (o0 rfl (f9 (Et (Eq_ (E.block (Ew Z2 (Em rfl (Ei rfl (Ev Z2 (Est rfl (Nb [] [] us_Is f5 rfl rfl) (fun b15 _ => (Ent.drop (Ei rfl (Eu (Eq_ (Ew Z2 (Em rfl (Em rfl (Eu (E.block (s7 (A := []) (Own.nil (E := Enc.int) (e := tI) (a := (some ⟨b15, 0, none⟩))) rfl (f6 (congrArg (ow eIs [_]) (show [] = B5 g 0 from by rfl)) (E.loop (κ := Nat × Option Addr × Nat × Nat) (fun i => i.1 ≤ x ∧ (i.2.1.isNone = false)) (fun i => [(0, .int .i64 (x : Int)), (1, .func (.func is_g) #[] is_c.toArray), (6, .slice aA0_0 ((hmI is x g).1).length cA0_0), (7, .int .i64 (g : Int)), (8, .slice i.2.1 i.2.2.1 i.2.2.2), (11, .int .i64 (↑(2 ^ x : Nat) : Int)), (12, .int .i64 (g : Int)), (16, .int .i64 (x : Int)), (17, .int .i64 (↑i.1 : Int))]) (fun i => [ow eIs [.slice i.2.1 i.2.2.1 i.2.2.2] (B5 g i.1), ow eIs [.slice aA0_0 ((hmI is x g).1).length cA0_0] ((hmI is x g).1)]) (fun i => x - i.1) (0, (some ⟨b15, 0, none⟩), 0, 0) ⟨Nat.zero_le _, rfl⟩ ⟨rfl, rfl, rfl, rfl, rfl, rfl, rfl, rfl, rfl, trivial⟩ (.refl _) (fun i pi => ?_)))))))))))))))))))))))))
  obtain ⟨i, aA1_0, mA1_0, cA1_0⟩ := i
  try dsimp only at pi
  try dsimp only
  obtain ⟨pk1, pb⟩ := pi
  have js := a2o (m := g) (n := i)
  have hix : i = x ∨ i < x := by omega
  refine d6 m0 fun eaA1_0 laA1_0 => ?_
  subst eaA1_0
  refine Ew Z1 (Ey rfl ((Y.lss rfl rfl).yd) (n9 (fun q18 => ?_) (fun q18 => ?_)))
  ·refine Eu (Eq_ (o0 rfl (f9 (Et (Eq_ (E.block (Ew Z2 (Em rfl (Ei rfl (Ev Z5 (Em rfl (Em rfl (Ey rfl ((a9X (b := i) rfl rfl om).yd) (Ey rfl ((Y.and rfl rfl).yd) (Ey rfl ((Y.eql rfl rfl).yd) (n9 (fun q24 => ?_) (fun q24 => ?_)))))))))))))))))
   ·refine Eu (o0 rfl (Ez Z5 (Em rfl (Em rfl (Est rfl (Nb [_] [_] us_Is f5 rfl rfl) (fun b27 _ => (d8 (Est rfl (B2 (E := Enc.int) (ex := (i : Int)) us_Is f5 rfl rfl rfl (Own.int i6) rfl bn bn dc) (fun p28 _ => (a1N m0 om fun sb hsb => (Ei rfl (En (s8 (Et (Ez Z2 (Ey rfl ((Y.add rfl rfl om om).yd) (Em rfl (Eu (f6 (congrArg (ow eIs [_]) (show (B5 g i) ++ [(i : Int)] = B5 g (i + 1) from by first | exact a9w q24 | exact a9B q24)) (d8 (d8 ?_)))))))))))))))))))))
    exact Ea (i + 1, p28.1, ((B5 g i).length + 1), p28.2) ⟨oz, (show (p28.1.isNone = false) from by first | (rw [hsb]; rfl) | exact pb)⟩
   ·refine Eu (n8 rfl (f9 (s8 (Et (Ez Z2 (Ey rfl ((Y.add rfl rfl om om).yd) (Em rfl (Eu (f6 (congrArg (ow eIs [_]) (show B5 g i = B5 g (i + 1) from by first | exact a9w q24 | exact a9B q24)) (d8 (d8 ?_)))))))))))
    exact Ea (i + 1, aA1_0, (B5 g i).length, cA1_0) ⟨oz, (show (aA1_0.isNone = false) from by first | (rw [hsb]; rfl) | exact pb)⟩
  ·refine Eu (Eq_ (n8 rfl (E.exit (l3 (l3 (y4 (Et (Ew Z27 (Em rfl ?_)))))))))
   have ei : i = x := by omega
   have el : (B5 g i).length = (B5 g x).length := by rw [ei]
   refine f6 (congrArg (ow eIs [_]) (show B5 g i = B5 g x from by rw [show i = x from by omega])) (Ey rfl ((b6U us_Is rfl rfl).yd) (Ent.b (fun q31 => ?_) (fun q31 => ?_)))
   ·have pf : (hmI is x g).2 = false := by rw [q31] at pa; cases hq : (hmI is x g).2 <;> simp_all
    refine Em rfl (Es rfl (Es rfl (Es rfl (Es rfl (Es rfl (Ey rfl ((x6 rfl rfl).yd) (Em rfl (Es rfl (Es rfl (Es rfl (Es rfl (Es rfl (b8D rfl rfl dc (Es rfl ?_))))))))))))))
    refine Es rfl (Es rfl (Es rfl (Es rfl (Ey rfl ((x6 rfl rfl).yd) (Em rfl (Em rfl (Em rfl (Est rfl (N.fn (cs := [_]) his rfl rfl rfl dc (fun w Lp hA => (hA.ow m0)) (hD_is _ (fun i hi => a2t hi) (Nat.le_trans a2o om))) (fun _ _ => (Ent.b (fun q55 => ?_) (fun q55 => ?_)))))))))))
    ·refine Ey rfl ((x6 rfl rfl).yd) (Eu (o0 rfl (Ez Z2 (Em rfl (Ei rfl (En (s8 (Et (Ez Z2 (Ey rfl ((Y.add rfl rfl om om).yd) (Em rfl (Eu (d8 (Ent.drop (f6 (congrArg (ow eIs [_]) (show B5 g x = (hmI is x (g + 1)).1 from by first | (rw [N9 pf q55]; done) | (rw [I8 (a1h om) q55]; done) | (rw [I8 (a0n om q49) q55]; done) | (rw [N8 q55]; done) | (rw [I9 pt (a0o om om)]; done) | (rw [I9 pt (a0p om q49)]; done))) ?_)))))))))))))))
     exact Ea (g + 1, aA1_0, (B5 g i).length, cA1_0) ⟨oz, (show (aA1_0.isNone = !(hmI is x (g + 1)).2) from by first | (rw [N9 pf q55]; exact pb) | (rw [I8 (a1h om) q55]; exact pb) | (rw [I8 (a0n om q49) q55]; exact pb) | (rw [N8 q55]; exact pa) | (rw [I9 pt (a0o om om)]; exact pa) | (rw [I9 pt (a0p om q49)]; exact pa))⟩
    ·refine Ey rfl ((x6 rfl rfl).yd) (Eu (n8 rfl (f9 (s8 (Et (Ez Z2 (Ey rfl ((Y.add rfl rfl om om).yd) (Em rfl (Eu (Ent.drop (f6 (congrArg (ow eIs [_]) (show (hmI is x g).1 = (hmI is x (g + 1)).1 from by first | (rw [N9 pf q55]; done) | (rw [I8 (a1h om) q55]; done) | (rw [I8 (a0n om q49) q55]; done) | (rw [N8 q55]; done) | (rw [I9 pt (a0o om om)]; done) | (rw [I9 pt (a0p om q49)]; done))) ?_)))))))))))
     exact Ea (g + 1, aA0_0, ((hmI is x g).1).length, cA0_0) ⟨oz, (show (aA0_0.isNone = !(hmI is x (g + 1)).2) from by first | (rw [N9 pf q55]; exact pb) | (rw [I8 (a1h om) q55]; exact pb) | (rw [I8 (a0n om q49) q55]; exact pb) | (rw [N8 q55]; exact pa) | (rw [I9 pt (a0o om om)]; exact pa) | (rw [I9 pt (a0p om q49)]; exact pa))⟩
   ·have pt : (hmI is x g).2 = true := by rw [q31] at pa; cases hq : (hmI is x g).2 <;> simp_all
    refine Em rfl (Em rfl (Ey rfl ((Y.len us_Is rfl).yd) (Em rfl (Ey rfl ((Y.len us_Is rfl).yd) (Ey rfl ((Y.lss rfl rfl).yd) (n9 (fun q37 => ?_) (fun q37 => ?_)))))))
    ·refine Ey rfl ((z7 rfl rfl).yd) (Em rfl (Es rfl (Es rfl (Es rfl (Es rfl (Es rfl (b8D rfl rfl dc (Es rfl (Es rfl (Es rfl (Es rfl (Es rfl (Ey rfl ((x6 rfl rfl).yd) (Em rfl ?_))))))))))))))
     refine Em rfl (Em rfl (Est rfl (N.fn (cs := [_]) his rfl rfl rfl dc (fun w Lp hA => (hA.ow m0)) (hD_is _ (fun i hi => a2t hi) (Nat.le_trans a2o om))) (fun _ _ => (Ent.b (fun q55 => ?_) (fun q55 => ?_)))))
     ·refine Ey rfl ((x6 rfl rfl).yd) (Eu (o0 rfl (Ez Z2 (Em rfl (Ei rfl (En (s8 (Et (Ez Z2 (Ey rfl ((Y.add rfl rfl om om).yd) (Em rfl (Eu (d8 (Ent.drop (f6 (congrArg (ow eIs [_]) (show B5 g x = (hmI is x (g + 1)).1 from by first | (rw [N9 pf q55]; done) | (rw [I8 (a1h om) q55]; done) | (rw [I8 (a0n om q49) q55]; done) | (rw [N8 q55]; done) | (rw [I9 pt (a0o om om)]; done) | (rw [I9 pt (a0p om q49)]; done))) ?_)))))))))))))))
      exact Ea (g + 1, aA1_0, (B5 g i).length, cA1_0) ⟨oz, (show (aA1_0.isNone = !(hmI is x (g + 1)).2) from by first | (rw [N9 pf q55]; exact pb) | (rw [I8 (a1h om) q55]; exact pb) | (rw [I8 (a0n om q49) q55]; exact pb) | (rw [N8 q55]; exact pa) | (rw [I9 pt (a0o om om)]; exact pa) | (rw [I9 pt (a0p om q49)]; exact pa))⟩
     ·refine Ey rfl ((x6 rfl rfl).yd) (Eu (n8 rfl (f9 (s8 (Et (Ez Z2 (Ey rfl ((Y.add rfl rfl om om).yd) (Em rfl (Eu (Ent.drop (f6 (congrArg (ow eIs [_]) (show (hmI is x g).1 = (hmI is x (g + 1)).1 from by first | (rw [N9 pf q55]; done) | (rw [I8 (a1h om) q55]; done) | (rw [I8 (a0n om q49) q55]; done) | (rw [N8 q55]; done) | (rw [I9 pt (a0o om om)]; done) | (rw [I9 pt (a0p om q49)]; done))) ?_)))))))))))
      exact Ea (g + 1, aA0_0, ((hmI is x g).1).length, cA0_0) ⟨oz, (show (aA0_0.isNone = !(hmI is x (g + 1)).2) from by first | (rw [N9 pf q55]; exact pb) | (rw [I8 (a1h om) q55]; exact pb) | (rw [I8 (a0n om q49) q55]; exact pb) | (rw [N8 q55]; exact pa) | (rw [I9 pt (a0o om om)]; exact pa) | (rw [I9 pt (a0p om q49)]; exact pa))⟩
    ·refine Ey rfl ((z7 rfl rfl).yd) (Em rfl (Em rfl (Ey rfl ((Y.len us_Is rfl).yd) (Em rfl (Ey rfl ((Y.len us_Is rfl).yd) (Ey rfl ((Y.eql rfl rfl).yd) (n9 (fun q44 => ?_) (fun q44 => ?_))))))))
     ·refine Em rfl (Em rfl (Em rfl (Est rfl (o4 a2e rfl rfl rfl dc (fun w Lp hA => ⟨hA.ow m0, hA.ow (mS m0)⟩)) (fun _ _ => (Ey rfl ((Y.lss rfl rfl).yd) (n9 (fun q49 => ?_) (fun q49 => ?_)))))))
      ·refine Ey rfl ((x6 rfl rfl).yd) (Ey rfl ((z7 rfl rfl).yd) (Em rfl (Em rfl (Em rfl (Est rfl (N.fn (cs := [_]) his rfl rfl rfl dc (fun w Lp hA => (hA.ow m0)) (hD_is _ (fun i hi => a2t hi) (Nat.le_trans a2o om))) (fun _ _ => (Ent.b (fun q55 => ?_) (fun q55 => ?_))))))))
       ·refine Ey rfl ((x6 rfl rfl).yd) (Eu (o0 rfl (Ez Z2 (Em rfl (Ei rfl (En (s8 (Et (Ez Z2 (Ey rfl ((Y.add rfl rfl om om).yd) (Em rfl (Eu (d8 (Ent.drop (f6 (congrArg (ow eIs [_]) (show B5 g x = (hmI is x (g + 1)).1 from by first | (rw [N9 pf q55]; done) | (rw [I8 (a1h om) q55]; done) | (rw [I8 (a0n om q49) q55]; done) | (rw [N8 q55]; done) | (rw [I9 pt (a0o om om)]; done) | (rw [I9 pt (a0p om q49)]; done))) ?_)))))))))))))))
        exact Ea (g + 1, aA1_0, (B5 g i).length, cA1_0) ⟨oz, (show (aA1_0.isNone = !(hmI is x (g + 1)).2) from by first | (rw [N9 pf q55]; exact pb) | (rw [I8 (a1h om) q55]; exact pb) | (rw [I8 (a0n om q49) q55]; exact pb) | (rw [N8 q55]; exact pa) | (rw [I9 pt (a0o om om)]; exact pa) | (rw [I9 pt (a0p om q49)]; exact pa))⟩
       ·refine Ey rfl ((x6 rfl rfl).yd) (Eu (n8 rfl (f9 (s8 (Et (Ez Z2 (Ey rfl ((Y.add rfl rfl om om).yd) (Em rfl (Eu (Ent.drop (f6 (congrArg (ow eIs [_]) (show (hmI is x g).1 = (hmI is x (g + 1)).1 from by first | (rw [N9 pf q55]; done) | (rw [I8 (a1h om) q55]; done) | (rw [I8 (a0n om q49) q55]; done) | (rw [N8 q55]; done) | (rw [I9 pt (a0o om om)]; done) | (rw [I9 pt (a0p om q49)]; done))) ?_)))))))))))
        exact Ea (g + 1, aA0_0, ((hmI is x g).1).length, cA0_0) ⟨oz, (show (aA0_0.isNone = !(hmI is x (g + 1)).2) from by first | (rw [N9 pf q55]; exact pb) | (rw [I8 (a1h om) q55]; exact pb) | (rw [I8 (a0n om q49) q55]; exact pb) | (rw [N8 q55]; exact pa) | (rw [I9 pt (a0o om om)]; exact pa) | (rw [I9 pt (a0p om q49)]; exact pa))⟩
      ·refine Ey rfl ((x6 rfl rfl).yd) (Ey rfl ((z7 rfl rfl).yd) (Em rfl (Es rfl (Es rfl (Es rfl (Ey rfl ((z7 rfl rfl).yd) (Eu (n8 rfl (f9 (s8 (Et (Ez Z2 (Ey rfl ((Y.add rfl rfl om om).yd) (Em rfl (Eu (Ent.drop (f6 (congrArg (ow eIs [_]) (show (hmI is x g).1 = (hmI is x (g + 1)).1 from by first | (rw [N9 pf q55]; done) | (rw [I8 (a1h om) q55]; done) | (rw [I8 (a0n om q49) q55]; done) | (rw [N8 q55]; done) | (rw [I9 pt (a0o om om)]; done) | (rw [I9 pt (a0p om q49)]; done))) ?_)))))))))))))))))
       exact Ea (g + 1, aA0_0, ((hmI is x g).1).length, cA0_0) ⟨oz, (show (aA0_0.isNone = !(hmI is x (g + 1)).2) from by first | (rw [N9 pf q55]; exact pb) | (rw [I8 (a1h om) q55]; exact pb) | (rw [I8 (a0n om q49) q55]; exact pb) | (rw [N8 q55]; exact pa) | (rw [I9 pt (a0o om om)]; exact pa) | (rw [I9 pt (a0p om q49)]; exact pa))⟩
     ·refine Em rfl (Es rfl (Es rfl (Es rfl (Es rfl (Ey rfl ((z7 rfl rfl).yd) (Ey rfl ((z7 rfl rfl).yd) (Em rfl (Es rfl (Es rfl (Es rfl (Ey rfl ((z7 rfl rfl).yd) (Eu (n8 rfl (f9 (s8 (Et (Ez Z2 (Ey rfl ((Y.add rfl rfl om om).yd) (Em rfl (Eu (Ent.drop ?_)))))))))))))))))))))
      refine f6 (congrArg (ow eIs [_]) (show (hmI is x g).1 = (hmI is x (g + 1)).1 from by first | (rw [N9 pf q55]; done) | (rw [I8 (a1h om) q55]; done) | (rw [I8 (a0n om q49) q55]; done) | (rw [N8 q55]; done) | (rw [I9 pt (a0o om om)]; done) | (rw [I9 pt (a0p om q49)]; done))) ?_
      exact Ea (g + 1, aA0_0, ((hmI is x g).1).length, cA0_0) ⟨oz, (show (aA0_0.isNone = !(hmI is x (g + 1)).2) from by first | (rw [N9 pf q55]; exact pb) | (rw [I8 (a1h om) q55]; exact pb) | (rw [I8 (a0n om q49) q55]; exact pb) | (rw [N8 q55]; exact pa) | (rw [I9 pt (a0o om om)]; exact pa) | (rw [I9 pt (a0p om q49)]; exact pa))⟩
 ·refine Eu (Eq_ (n8 rfl (E.exit (l3 (l3 (y4 (Et (Ew Z5 (Em rfl (Em rfl (Ey rfl ((c0G us_Is rfl rfl).yd) (Ei rfl (Ei rfl (Eu (E.ret (f6 (congrArg (ow eIs [_]) (show _ = (hmI is x (2 ^ x)).1 by first | (rw [show 2 ^ x = g from by omega]; done) | (rw [show 2 ^ x = g from by omega, pa, Bool.not_not]))) ?_))))))))))))))))
  exact a6N br rfl rfl rfl (_, _, _) trivial (by rw [show ((hmI is x (2 ^ x)).2) = (!aA0_0.isNone) from (by first | (rw [show 2 ^ x = g from by omega]; done) | (rw [show 2 ^ x = g from by omega, pa, Bool.not_not]))]; try rfl) (J := _) (.refl _) (.inl rfl)
theorem a4X {a_set : Option Addr} {m_set c_set : Nat} {set : List Int} {b_l : Nat} {b_s : Nat} {b_rules : Nat} {b_q : Nat} (hin : ∀ i ∈ set, 0 ≤ i ∧ i.toNat < l.length) (hsl : set.length ≤ 5) (hz : K2 (fun x => x.2.length) a6 ≤ 1048576) : Tr Tryz.prog 102 [.slice a_set m_set c_set, .pointer (some ⟨b_l, 0, none⟩), .pointer (some ⟨b_s, 0, none⟩), .pointer (some ⟨b_rules, 0, none⟩), .pointer (some ⟨b_q, 0, none⟩)] (fun w L => (Ro w L eIs [.slice a_set m_set c_set] set) ∧ RoPt w L b_l [.slice a_l m_l c_l] ∧ Ro w L I4 [.slice a_l m_l c_l] l ∧ RoPt w L b_s [.slice a_s m_s c_s] ∧ Ro w L eIs [.slice a_s m_s c_s] s ∧ RoPt w L b_rules [.slice a_rules m_rules c_rules] ∧ Ro w L G9 [.slice a_rules m_rules c_rules] d4 ∧ RoPt w L b_q [.slice v6 y9 u9, .slice t8 w9 t7] ∧ Ro w L eIs [.slice v6 y9 u9] i9 ∧ Ro w L H9 [.slice t8 w9 t7] a6) [] (κ := Unit) (fun k => True) (fun k => .bool ((O9 s l d4 (i9, a6)) set)) (fun k => []) := by
 refine Tr.intro Tryz.func102 rfl (n := 30) rfl (by decide +kernel) bl (fr := [(0, .slice a_set m_set c_set), (1, .pointer (some ⟨b_l, 0, none⟩)), (2, .pointer (some ⟨b_s, 0, none⟩)), (3, .pointer (some ⟨b_rules, 0, none⟩)), (4, .pointer (some ⟨b_q, 0, none⟩))]) rfl fun w L hR => ?_
 obtain ⟨hset, hb_l, hl, hb_s, hs, hb_rules, hrules, hb_q, w7, u6⟩ := hR
 obtain ⟨rfl, lset⟩ := hset.slen
 obtain ⟨rfl, ll⟩ := hl.slen
 obtain ⟨rfl, ls⟩ := hs.slen
 obtain ⟨rfl, lrules⟩ := hrules.slen
 obtain ⟨rfl, P6⟩ := w7.slen
 obtain ⟨rfl, M4⟩ := u6.slen
 obtain ⟨lB, hlB, hB_l⟩ := Ro.bMethodB hl
 have jlB := hB_l.len
 refine Ew Z1 (Ei rfl (Ev Z2 (Est rfl (Nb [] [] us_Methods ty_Method rfl rfl) (fun b10 _ => (Ent.drop (Ei rfl (Eu (Eq_ (Ew Z3 (Em rfl (Ey rfl ((Y.len us_Is rfl).yd) (Em rfl (Eu (E.block (s7 (A := []) (Own.nil (E := Y5) (e := a6v) (a := (some ⟨b10, 0, none⟩))) rfl (f6 (congrArg (ow S8 [_]) (show [] = selM dMB lB (set.take 0) from by rfl)) (E.loop (κ := Nat × Option Addr × Nat × Nat) (fun g => g.1 ≤ set.length ∧ True) (fun g => [(1, .pointer (some ⟨b_l, 0, none⟩)), (2, .pointer (some ⟨b_s, 0, none⟩)), (3, .pointer (some ⟨b_rules, 0, none⟩)), (4, .pointer (some ⟨b_q, 0, none⟩)), (7, .slice g.2.1 g.2.2.1 g.2.2.2), (11, .slice a_set set.length c_set), (12, .int .i64 (↑set.length : Int)), (13, .int .i64 (↑g.1 : Int))]) (fun g => [ow S8 [.slice g.2.1 g.2.2.1 g.2.2.2] (selM dMB lB (set.take g.1))]) (fun g => set.length - g.1) (0, (some ⟨b10, 0, none⟩), 0, 0) ⟨Nat.zero_le _, by simp⟩ ⟨rfl, rfl, rfl, rfl, rfl, rfl, rfl, rfl, trivial⟩ (.refl _) (fun g pg => ?_))))))))))))))))))
 obtain ⟨g, aA0_0, mA0_0, cA0_0⟩ := g
 try dsimp only at pg
 try dsimp only
 obtain ⟨pk, pa⟩ := pg
 have jm : (selM dMB lB (set.take g)).length = (set.take g).length := List.length_map ..
 have jt0 := List.length_take_le g set
 refine d6 m0 fun eaA0_0 laA0_0 => ?_
 subst eaA0_0
 refine Ew Z1 (Ey rfl ((Y.lss rfl rfl).yd) (n9 (fun q14 => ?_) (fun q14 => ?_)))
 ·have jt := List.length_take_le g set
  obtain ⟨eb15, eo15, ea15, ei15, eh15⟩ := hset.elemI g om
  refine Eu (Eq_ (o0 rfl (f9 (Et (Eq_ (E.block (Ew Z3 (Ey rfl ((w3 us_Is f5 rfl ea15 rfl g rfl om).yd) (Ey rfl (g9 f5 rfl (eh15 _) rfl) (Ei rfl (Eu (Ez Z8 (Em rfl (Ey rfl (g9 ty_Methods rfl (hb_l.has) rfl) (Em rfl ?_)))))))))))))))
  have jx := hin _ (List.getElem_mem (show g < set.length by omega))
  obtain ⟨eb20, eo20, ec20, ea20, er20, el20, eh20⟩ := hlB.elem set[g].toNat om
  obtain ⟨rfl, ei20_0, ei20_2, ei20_3, ei20_4⟩ := a5N er20
  refine Ey rfl ((w3 us_Methods ty_Method rfl ea20 rfl set[g].toNat om om).yd) (Ey rfl (r9 (cs := [_, _, _, _, _]) ty_Method rfl (eh20 _) rfl) (Est rfl (Nb [_] [_, _, _, _, _] us_Methods ty_Method rfl rfl) (fun b22 _ => (d8 (Est rfl (B2 (E := Y5) (ex := lB[set[g].toNat]) us_Methods ty_Method rfl rfl rfl (a4f (x := lB[set[g].toNat]) ei20_0 ei20_2 ei20_3 ei20_4) rfl bn bn dc) (fun p23 _ => (Ei rfl (En (s8 (Et (Ez Z2 (Ey rfl ((Y.add rfl rfl om om).yd) (Em rfl (Eu (f6 (congrArg (ow S8 [_]) (show (selM dMB lB (set.take g)) ++ [lB[set[g].toNat]] = selM dMB lB (set.take (g + 1)) from by exact a6r om om)) ?_)))))))))))))))
  exact Ea (g + 1, p23.1, ((selM dMB lB (set.take g)).length + 1), p23.2) ⟨oz, trivial⟩
 ·refine Eu (Eq_ (n8 rfl (E.exit (l3 (l3 (y4 (Et (Ew Z6 (Ey rfl (g9 ty_Is rfl (hb_s.has) rfl) (Em rfl (Ey rfl (g9 ty_Rules rfl (hb_rules.has) rfl) (Ey rfl (r9 (cs := [_, _]) ty_Query rfl (hb_q.has) rfl) (f6 (congrArg (ow S8 [_]) (show selM dMB lB (set.take g) = selM dMB lB set from by rw [List.take_of_length_le om])) ?_)))))))))))))
  have hbs := hB_l.selM (d := dMB) (d' := dM) (is := set) (fun i hi => by have := hin i hi; omega)
  refine Est rfl (o4 (a0Y fc) rfl rfl rfl dc (fun w Lp hA => ⟨hA.ro hs, hA.bMethodB m0 hbs, hA.ro hrules, hA.ro w7, hA.ro u6⟩)) (fun _ _ => (Ei rfl ?_))
  exact Eu (E.ret (Fb rfl rfl (by exact a3X)))
theorem a2T (hz : K2 (fun x => x.2.length) a6 ≤ 1048576) : Tr Tryz.prog 35 [.slice a_s m_s c_s, .slice a_l m_l c_l, .slice a_rules m_rules c_rules, .agg #[.slice v6 y9 u9, .slice t8 w9 t7]] (fun w L => Ro w L eIs [.slice a_s m_s c_s] s ∧ Ro w L I4 [.slice a_l m_l c_l] l ∧ Ro w L G9 [.slice a_rules m_rules c_rules] d4 ∧ Ro w L eIs [.slice v6 y9 u9] i9 ∧ Ro w L H9 [.slice t8 w9 t7] a6) [] (κ := Option Addr × Nat × Nat) (fun k => True) (fun k => .tuple #[.slice k.1 k.2.1 k.2.2, .bool (a5E s l d4 (i9, a6))]) (fun k => [ow eIs [.slice k.1 k.2.1 k.2.2] (a5I s l d4 (i9, a6))]) := by
 refine Tr.intro Tryz.func35 rfl (n := 21) rfl (by decide +kernel) bl (fr := [(0, .slice a_s m_s c_s), (1, .slice a_l m_l c_l), (2, .slice a_rules m_rules c_rules), (3, .agg #[.slice v6 y9 u9, .slice t8 w9 t7])]) rfl fun w L hR => ?_
 obtain ⟨hs, hl, hrules, w7, u6⟩ := hR
 obtain ⟨rfl, ls⟩ := hs.slen
 obtain ⟨rfl, ll⟩ := hl.slen
 obtain ⟨rfl, lrules⟩ := hrules.slen
 obtain ⟨rfl, P6⟩ := w7.slen
 obtain ⟨rfl, M4⟩ := u6.slen
 refine Ew Z6 (Est rfl (N.box (cs := [_]) rfl dc rfl) (fun b4 _ => (Est rfl (N.box (cs := [_]) rfl dc rfl) (fun b5 _ => (Est rfl (N.box (cs := [_]) rfl dc rfl) (fun b6 _ => (Est rfl (N.box (cs := [_, _]) rfl dc rfl) (fun b7 _ => (Ei rfl (Ei rfl (Eu (Eq_ (Ew Z5 (Ey rfl (g9 ty_Is rfl (Has.pt (mS (mS (mS m0)))) rfl) (Ey rfl (g9 ty_Methods rfl (Has.pt (mS (mS m0))) rfl) (Ey rfl (g9 ty_Rules rfl (Has.pt (mS m0)) rfl) (Est rfl (o4 a3q rfl rfl rfl dc (fun w Lp hA => ⟨hA.ro hs, hA.ro hl, hA.ro hrules⟩)) (fun _ _ => (Ent.b (fun q13 => ?_) (fun q13 => ?_))))))))))))))))))))
 ·have j5 := c0s q13
  refine Ey rfl ((Y.not (b := true) rfl).yd) (Eu (n8 rfl (f9 (Et (Ew Z8 (Ey rfl (g9 ty_Methods rfl (Has.pt (mS (mS m0))) rfl) (Ey rfl ((Y.len us_Methods rfl).yd) (Ey rfl ((Y.fn (vs := [_, _, _, _]) rfl).yd) (Est rfl (N.call (a5d (is := (fun set => (O9 s l d4 (i9, a6)) set)) (D_is := (fun set => (∀ i ∈ set, 0 ≤ i ∧ i.toNat < l.length) ∧ (set.length ≤ 5) ∧ (K2 (fun x => x.2.length) a6 ≤ 1048576))) fc (by intro x hx h5; exact ⟨fun i hi => by have := hx i hi; omega, h5, hz⟩)) rfl rfl rfl dc rfl (fun w Lp hA => b3M (D := (fun set => (∀ i ∈ set, 0 ≤ i ∧ i.toNat < l.length) ∧ (set.length ≤ 5) ∧ (K2 (fun x => x.2.length) a6 ≤ 1048576))) (fun hd => a4X hd.1 hd.2.1 hd.2.2) (fun w' hk => ⟨(hA.pt (mS (mS m0))).keep hk, (hA.ro hl).keep hk, (hA.pt (mS (mS (mS m0)))).keep hk, (hA.ro hs).keep hk, (hA.pt (mS m0)).keep hk, (hA.ro hrules).keep hk, (hA.pt m0).keep hk, (hA.ro w7).keep hk, (hA.ro u6).keep hk⟩))) (fun k18 _ => ?_))))))))))
  obtain ⟨a18, m18, c18⟩ := k18
  refine d6 m0 fun e18 l18 => ?_
  subst e18
  refine Ey rfl ((Y.ext rfl rfl).yd) (Ey rfl ((Y.ext rfl rfl).yd) (Ei rfl (Ei rfl (Eu (E.ret (f6 (congrArg (ow eIs [_]) (show _ = a5I s l d4 (i9, a6) by first | exact (a1g (q := (i9, a6)) q13).1 | exact (a1g (q := (i9, a6)) q13).2 | exact (a1g (q := (i9, a6)) q13).1.symm | exact (a1g (q := (i9, a6)) q13).2.symm)) ?_))))))
  exact a6N br rfl rfl rfl (_, _, _) trivial (by rw [show (a5E s l d4 (i9, a6)) = ((hmI (fun set => (O9 s l d4 (i9, a6)) set) l.length (2 ^ l.length)).2) from (by first | exact (a1g (q := (i9, a6)) q13).1 | exact (a1g (q := (i9, a6)) q13).2 | exact (a1g (q := (i9, a6)) q13).1.symm | exact (a1g (q := (i9, a6)) q13).2.symm)]; try rfl) (J := _) (.refl _) (.inl rfl)
 ·refine Ey rfl ((Y.not (b := false) rfl).yd) (Eu (o0 rfl (Ew Z2 (Ei rfl (Ei rfl (Eu (E.ret (s9 (s7 (A := []) (Own.nil (E := Enc.int) (e := tI) (a := none)) rfl (f6 (congrArg (ow eIs [_]) (show _ = a5I s l d4 (i9, a6) by first | exact (a1f (q := (i9, a6)) q13).1 | exact (a1f (q := (i9, a6)) q13).2 | exact (a1f (q := (i9, a6)) q13).1.symm | exact (a1f (q := (i9, a6)) q13).2.symm)) ?_))))))))))
  exact a6N br rfl rfl rfl (none, 0, 0) trivial (by rw [show (a5E s l d4 (i9, a6)) = (false) from (by first | exact (a1f (q := (i9, a6)) q13).1 | exact (a1f (q := (i9, a6)) q13).2 | exact (a1f (q := (i9, a6)) q13).1.symm | exact (a1f (q := (i9, a6)) q13).2.symm)]; try rfl) (J := _) (.refl _) (.inl rfl)
theorem a2U (hz : K2 (fun x => x.2.length) a6 ≤ 1048576) : Tr Tryz.prog 36 [.slice a_s m_s c_s, .slice a_l m_l c_l, .slice a_rules m_rules c_rules, .agg #[.slice v6 y9 u9, .slice t8 w9 t7]] (fun w L => Ro w L eIs [.slice a_s m_s c_s] s ∧ Ro w L I4 [.slice a_l m_l c_l] l ∧ Ro w L G9 [.slice a_rules m_rules c_rules] d4 ∧ Ro w L eIs [.slice v6 y9 u9] i9 ∧ Ro w L H9 [.slice t8 w9 t7] a6) [] (κ := Option Addr × Nat × Nat) (fun k => True) (fun k => .tuple #[.slice k.1 k.2.1 k.2.2, .bool (a5E s l d4 (i9, a6))]) (fun k => [ow eIs [.slice k.1 k.2.1 k.2.2] (a5I s l d4 (i9, a6))]) := by
 refine Tr.intro Tryz.func36 rfl (n := 66) rfl (by decide +kernel) bl (fr := [(0, .slice a_s m_s c_s), (1, .slice a_l m_l c_l), (2, .slice a_rules m_rules c_rules), (3, .agg #[.slice v6 y9 u9, .slice t8 w9 t7])]) rfl fun w L hR => ?_
 obtain ⟨hs, hl, hrules, w7, u6⟩ := hR
 obtain ⟨rfl, ls⟩ := hs.slen
 obtain ⟨rfl, ll⟩ := hl.slen
 obtain ⟨rfl, lrules⟩ := hrules.slen
 obtain ⟨rfl, P6⟩ := w7.slen
 obtain ⟨rfl, M4⟩ := u6.slen
 obtain ⟨lB, hlB, hb_l⟩ := Ro.bMethodB hl
 have jlB := hb_l.len
 refine Ew Z3 (Est rfl (N.box (cs := [_, _]) rfl dc rfl) (fun b7 _ => (Ei rfl (Ei rfl (Ev Z2 (Est rfl (Nb [] [] us_Is f5 rfl rfl) (fun b16 _ => (Ent.drop (Ei rfl (Ev Z1 (Ei rfl (Eu (Eq_ (Ew Z5 (Em rfl (Em rfl (Em rfl (Est rfl (o4 a3H rfl rfl rfl dc (fun w Lp hA => ⟨hA.ro hs, b4b (hA.ro hlB) (hA.bor hb_l), hA.ro hrules⟩)) (fun _ _ => (Ent.b (fun q20 => ?_) (fun q20 => ?_)))))))))))))))))))))
 ·have j5 := c0s q20
  have j2 : 2 ^ l.length ≤ 32 := Nat.le_trans (Nat.pow_le_pow_right dc j5) dc
  refine Ey rfl ((Y.not (b := true) rfl).yd) (Eu (n8 rfl (f9 (Et (Eq_ (Ew Z1 (Ei rfl (Eu (E.block (s7 (A := []) (Own.nil (E := Enc.int) (e := tI) (a := (some ⟨b16, 0, none⟩))) rfl (f6 (congrArg (ow eIs [_]) (show [] = (hmI (O9 s l d4 (i9, a6)) l.length 0).1 from by rfl)) (E.loop (κ := Nat × Option Addr × Nat × Nat) (fun g => g.1 ≤ (2 ^ l.length : Nat) ∧ True) (fun g => [(0, .slice a_s s.length c_s), (1, .slice a_l l.length c_l), (2, .slice a_rules d4.length c_rules), (7, .pointer (some ⟨b7, 0, none⟩)), (10, .slice g.2.1 g.2.2.1 g.2.2.2), (11, .bool ((hmI (O9 s l d4 (i9, a6)) l.length g.1).2)), (12, .int .i64 (↑g.1 : Int))]) (fun g => [ow eIs [.slice g.2.1 g.2.2.1 g.2.2.2] ((hmI (O9 s l d4 (i9, a6)) l.length g.1).1), pt b7 28 [.slice v6 i9.length u9, .slice t8 a6.length t7]]) (fun g => (2 ^ l.length : Nat) - g.1) (0, (some ⟨b16, 0, none⟩), 0, 0) ⟨Nat.zero_le _, trivial⟩ ⟨rfl, rfl, rfl, rfl, rfl, frB (by rfl), rfl, trivial⟩ (.refl _) (fun g pg => ?_)))))))))))))
  obtain ⟨g, aA0_0, mA0_0, cA0_0⟩ := g
  try dsimp only at pg
  try dsimp only
  obtain ⟨pk, pa⟩ := pg
  have js := a2o (m := g) (n := l.length)
  have jm := (a5Q (F := (O9 s l d4 (i9, a6))) (n := l.length) (m := g)).2
  refine d6 m0 fun eaA0_0 laA0_0 => ?_
  subst eaA0_0
  refine Eq_ (Ew Z5 (Em rfl (Em rfl (Ey rfl ((Y.len us_Methods rfl).yd) (Ey rfl ((a9Y rfl rfl om).yd) (Ey rfl ((Y.lss rfl rfl).yd) (n9 (fun q27 => ?_) (fun q27 => ?_))))))))
  ·refine Eu (o0 rfl (f9 (Et (Eq_ (E.block (Ew Z5 (Em rfl (Em rfl (Ey rfl ((Y.len us_Methods rfl).yd) (Est rfl (N.call (a6S fc fc) rfl rfl rfl dc rfl tv) (fun k33 _ => ?_)))))))))))
   obtain ⟨a33, m33, c33⟩ := k33
   refine d6 m0 fun e33 l33 => ?_
   subst e33
   refine Ei rfl (Eu (Eq_ (Ew Z7 (Em rfl (Ent.b (fun q34 => ?_) (fun q34 => ?_))))))
   ·refine Em rfl (Em rfl (Em rfl (Est rfl (o4 a5W rfl rfl rfl dc (fun w Lp hA => ⟨hA.ow m0, hA.ow (mS m0)⟩)) (fun _ _ => (Ent.b (fun q38 => ?_) (fun q38 => ?_))))))
    ·dsimp only [Int.toNat_natCast] at q38
     refine Ey rfl ((Y.not (b := true) rfl).yd) (Ey rfl ((x6 rfl rfl).yd) (Eu (n8 rfl (f9 (Et (Ew Z2 (Est rfl (Nb [] [] us_Methods ty_Method rfl rfl) (fun b41 _ => (Ent.drop (Ei rfl (Eu (Eq_ (Ew Z1 (Ei rfl (Eu (E.block (s7 (A := []) (Own.nil (E := Y5) (e := a6v) (a := (some ⟨b41, 0, none⟩))) rfl (f6 (congrArg (ow S8 [_]) (show [] = selM dMB lB ((B5 g l.length).take 0) from by rfl)) (E.loop (κ := Nat × Option Addr × Nat × Nat) (fun j => j.1 ≤ (B5 g l.length).length ∧ True) (fun j => [(0, .slice a_s s.length c_s), (1, .slice a_l l.length c_l), (2, .slice a_rules d4.length c_rules), (7, .pointer (some ⟨b7, 0, none⟩)), (10, .slice aA0_0 ((hmI (O9 s l d4 (i9, a6)) l.length g).1).length cA0_0), (11, .bool ((hmI (O9 s l d4 (i9, a6)) l.length g).2)), (12, .int .i64 (g : Int)), (13, .slice a33 (B5 g l.length).length c33), (14, .slice j.2.1 j.2.2.1 j.2.2.2), (15, .int .i64 (↑j.1 : Int))]) (fun j => [ow S8 [.slice j.2.1 j.2.2.1 j.2.2.2] (selM dMB lB ((B5 g l.length).take j.1)), ow eIs [.slice a33 (B5 g l.length).length c33] (B5 g l.length), ow eIs [.slice aA0_0 ((hmI (O9 s l d4 (i9, a6)) l.length g).1).length cA0_0] ((hmI (O9 s l d4 (i9, a6)) l.length g).1), pt b7 28 [.slice v6 i9.length u9, .slice t8 a6.length t7]]) (fun j => (B5 g l.length).length - j.1) (0, (some ⟨b41, 0, none⟩), 0, 0) ⟨Nat.zero_le _, by simp⟩ ⟨rfl, rfl, rfl, rfl, rfl, rfl, rfl, rfl, rfl, rfl, trivial⟩ (.refl _) (fun j pj => ?_))))))))))))))))))))
     obtain ⟨j, aA1_0, mA1_0, cA1_0⟩ := j
     try dsimp only at pj
     try dsimp only
     obtain ⟨pk, pa⟩ := pj
     have jm2 : (selM dMB lB ((B5 g l.length).take j)).length = ((B5 g l.length).take j).length := List.length_map ..
     have jt0 := List.length_take_le j (B5 g l.length)
     refine d6 m0 fun eaA1_0 laA1_0 => ?_
     subst eaA1_0
     refine Eq_ (Ew Z4 (Em rfl (Em rfl (Ey rfl ((Y.len us_Is rfl).yd) (Ey rfl ((Y.lss rfl rfl).yd) (n9 (fun q45 => ?_) (fun q45 => ?_)))))))
     ·refine Eu (o0 rfl (f9 (Et (Eq_ (E.block (Ez Z11 (Em rfl (Em rfl (Em rfl (Em rfl (a1N (mS m0) om fun ab52 ae52 => (a8i j (mS m0) om fun ei52 => (Ey rfl ((w3 us_Is f5 rfl ae52 rfl j rfl om).yd) (Ey rfl (g9 f5 rfl (a6M ae52 (mS m0) om) rfl) ?_))))))))))))))
      have jx := a2t (m := g) (n := l.length) (List.getElem_mem (show j < (B5 g l.length).length by omega))
      obtain ⟨eb54, eo54, ec54, ea54, er54, el54, eh54⟩ := hlB.elem (((B5 g l.length)[j]).toNat) om
      obtain ⟨rfl, ei54_0, ei54_2, ei54_3, ei54_4⟩ := a5N er54
      refine Ey rfl ((w3 us_Methods ty_Method rfl ea54 rfl (((B5 g l.length)[j]).toNat) om om).yd) (Ey rfl (r9 (cs := [_, _, _, _, _]) ty_Method rfl (eh54 _) rfl) (Est rfl (Nb [_] [_, _, _, _, _] us_Methods ty_Method rfl rfl) (fun b56 _ => (d8 (Est rfl (B2 (E := Y5) (ex := lB[((B5 g l.length)[j]).toNat]) us_Methods ty_Method rfl rfl rfl (a4f (x := lB[((B5 g l.length)[j]).toNat]) ei54_0 ei54_2 ei54_3 ei54_4) rfl bn bn dc) (fun p57 _ => (Ei rfl (En (s8 (Et (Ez Z3 (Em rfl (Ey rfl ((Y.add rfl rfl om om).yd) (Ei rfl (Eu (f6 (congrArg (ow S8 [_]) (show (selM dMB lB ((B5 g l.length).take j)) ++ [lB[((B5 g l.length)[j]).toNat]] = selM dMB lB ((B5 g l.length).take (j + 1)) from by exact a6r om om)) (o2 (o2 (o2 (o2 ?_))))))))))))))))))))
      exact Ea (j + 1, p57.1, ((selM dMB lB ((B5 g l.length).take j)).length + 1), p57.2) ⟨oz, trivial⟩
     ·refine Eu (n8 rfl (E.exit (l3 (l3 (y4 (Et (Ew Z5 (Em rfl (Em rfl (Em rfl (Ey rfl (r9 (cs := [_, _]) ty_Query rfl (Has.pt (mS (mS (mS m0)))) rfl) (f6 (congrArg (ow S8 [_]) (show selM dMB lB ((B5 g l.length).take j) = selM dMB lB (B5 g l.length) from by rw [List.take_of_length_le om])) ?_))))))))))))
      have hin : ∀ i ∈ (B5 g l.length), 0 ≤ i ∧ i.toNat < l.length := fun i hi => by have := a2t hi; omega
      have hbs := hb_l.selM (d := dMB) (d' := dM) (is := (B5 g l.length)) (fun i hi => by have := hin i hi; omega)
      refine Est rfl (o4 (V2 fc) rfl rfl rfl dc (fun w Lp hA => ⟨hA.ro hs, hA.bMethodB m0 hbs, hA.ro hrules, hA.ro w7, hA.ro u6⟩)) (fun _ _ => (Ent.b (fun q62 => ?_) (fun q62 => ?_)))
      ·rw [a3X] at q62
       refine Eu (o0 rfl (Ew Z2 (Em rfl (Ei rfl (Eu (Ez Z1 (Ei rfl (En (s8 (Et (Ez Z3 (Em rfl (Ey rfl ((Y.add rfl rfl om om).yd) (Ei rfl (Eu (Ent.drop (d8 (Ent.drop (f6 (congrArg (ow eIs [_]) (show B5 g l.length = (hmI (O9 s l d4 (i9, a6)) l.length (g + 1)).1 from by first | (rw [N9 q34 q62]; done) | (rw [I9 q34 q38]; done) | (rw [N8 q62]; done) | (rw [I8 q38 q62]; done))) (d8 (d8 ?_)))))))))))))))))))))
       exact B0 br (g + 1, a33, (B5 g l.length).length, c33) ⟨rfl, rfl, rfl, rfl, rfl, frB (by first | (rw [N9 q34 q62]; done) | (rw [I9 q34 q38]; done) | (rw [N8 q62]; done) | (rw [I8 q38 q62]; done)), rfl, trivial⟩ (.refl _) ⟨oz, trivial⟩ oz
      ·rw [a3X] at q62
       refine Eu (n8 rfl (f9 (s8 (Et (Ez Z3 (Em rfl (Ey rfl ((Y.add rfl rfl om om).yd) (Ei rfl (Eu (Ent.drop (Ent.drop (f6 (congrArg (ow eIs [_]) (show (hmI (O9 s l d4 (i9, a6)) l.length g).1 = (hmI (O9 s l d4 (i9, a6)) l.length (g + 1)).1 from by first | (rw [N9 q34 q62]; done) | (rw [I9 q34 q38]; done) | (rw [N8 q62]; done) | (rw [I8 q38 q62]; done))) (d8 (d8 ?_))))))))))))))
       exact B0 br (g + 1, aA0_0, ((hmI (O9 s l d4 (i9, a6)) l.length g).1).length, cA0_0) ⟨rfl, rfl, rfl, rfl, rfl, frB (by first | (rw [N9 q34 q62]; done) | (rw [I9 q34 q38]; done) | (rw [N8 q62]; done) | (rw [I8 q38 q62]; done)), rfl, trivial⟩ (.refl _) ⟨oz, trivial⟩ oz
    ·dsimp only [Int.toNat_natCast] at q38
     refine Ey rfl ((Y.not (b := false) rfl).yd) (Ey rfl ((x6 rfl rfl).yd) (Eu (o0 rfl (E.exit (l3 (y4 (Et (Ez Z3 (Em rfl (Ey rfl ((Y.add rfl rfl om om).yd) (Ei rfl (Eu (Ent.drop (f6 (congrArg (ow eIs [_]) (show (hmI (O9 s l d4 (i9, a6)) l.length g).1 = (hmI (O9 s l d4 (i9, a6)) l.length (g + 1)).1 from by first | (rw [N9 q34 q62]; done) | (rw [I9 q34 q38]; done) | (rw [N8 q62]; done) | (rw [I8 q38 q62]; done))) (d8 (d8 ?_))))))))))))))))
     exact B0 br (g + 1, aA0_0, ((hmI (O9 s l d4 (i9, a6)) l.length g).1).length, cA0_0) ⟨rfl, rfl, rfl, rfl, rfl, frB (by first | (rw [N9 q34 q62]; done) | (rw [I9 q34 q38]; done) | (rw [N8 q62]; done) | (rw [I8 q38 q62]; done)), rfl, trivial⟩ (.refl _) ⟨oz, trivial⟩ oz
   ·refine Em rfl (Es rfl (Es rfl (Es rfl (Es rfl (Ey rfl ((z7 rfl rfl).yd) (Eu (n8 rfl (f9 (Et (Ew Z2 (Est rfl (Nb [] [] us_Methods ty_Method rfl rfl) (fun b41 _ => (Ent.drop (Ei rfl (Eu (Eq_ (Ew Z1 (Ei rfl (Eu (E.block (s7 (A := []) (Own.nil (E := Y5) (e := a6v) (a := (some ⟨b41, 0, none⟩))) rfl (f6 (congrArg (ow S8 [_]) (show [] = selM dMB lB ((B5 g l.length).take 0) from by rfl)) (E.loop (κ := Nat × Option Addr × Nat × Nat) (fun j => j.1 ≤ (B5 g l.length).length ∧ True) (fun j => [(0, .slice a_s s.length c_s), (1, .slice a_l l.length c_l), (2, .slice a_rules d4.length c_rules), (7, .pointer (some ⟨b7, 0, none⟩)), (10, .slice aA0_0 ((hmI (O9 s l d4 (i9, a6)) l.length g).1).length cA0_0), (11, .bool ((hmI (O9 s l d4 (i9, a6)) l.length g).2)), (12, .int .i64 (g : Int)), (13, .slice a33 (B5 g l.length).length c33), (14, .slice j.2.1 j.2.2.1 j.2.2.2), (15, .int .i64 (↑j.1 : Int))]) (fun j => [ow S8 [.slice j.2.1 j.2.2.1 j.2.2.2] (selM dMB lB ((B5 g l.length).take j.1)), ow eIs [.slice a33 (B5 g l.length).length c33] (B5 g l.length), ow eIs [.slice aA0_0 ((hmI (O9 s l d4 (i9, a6)) l.length g).1).length cA0_0] ((hmI (O9 s l d4 (i9, a6)) l.length g).1), pt b7 28 [.slice v6 i9.length u9, .slice t8 a6.length t7]]) (fun j => (B5 g l.length).length - j.1) (0, (some ⟨b41, 0, none⟩), 0, 0) ⟨Nat.zero_le _, by simp⟩ ⟨rfl, rfl, rfl, rfl, rfl, rfl, rfl, rfl, rfl, rfl, trivial⟩ (.refl _) (fun j pj => ?_))))))))))))))))))))))))
    obtain ⟨j, aA1_0, mA1_0, cA1_0⟩ := j
    try dsimp only at pj
    try dsimp only
    obtain ⟨pk, pa⟩ := pj
    have jm2 : (selM dMB lB ((B5 g l.length).take j)).length = ((B5 g l.length).take j).length := List.length_map ..
    have jt0 := List.length_take_le j (B5 g l.length)
    refine d6 m0 fun eaA1_0 laA1_0 => ?_
    subst eaA1_0
    refine Eq_ (Ew Z4 (Em rfl (Em rfl (Ey rfl ((Y.len us_Is rfl).yd) (Ey rfl ((Y.lss rfl rfl).yd) (n9 (fun q45 => ?_) (fun q45 => ?_)))))))
    ·refine Eu (o0 rfl (f9 (Et (Eq_ (E.block (Ez Z11 (Em rfl (Em rfl (Em rfl (Em rfl (a1N (mS m0) om fun ab52 ae52 => (a8i j (mS m0) om fun ei52 => (Ey rfl ((w3 us_Is f5 rfl ae52 rfl j rfl om).yd) (Ey rfl (g9 f5 rfl (a6M ae52 (mS m0) om) rfl) ?_))))))))))))))
     have jx := a2t (m := g) (n := l.length) (List.getElem_mem (show j < (B5 g l.length).length by omega))
     obtain ⟨eb54, eo54, ec54, ea54, er54, el54, eh54⟩ := hlB.elem (((B5 g l.length)[j]).toNat) om
     obtain ⟨rfl, ei54_0, ei54_2, ei54_3, ei54_4⟩ := a5N er54
     refine Ey rfl ((w3 us_Methods ty_Method rfl ea54 rfl (((B5 g l.length)[j]).toNat) om om).yd) (Ey rfl (r9 (cs := [_, _, _, _, _]) ty_Method rfl (eh54 _) rfl) (Est rfl (Nb [_] [_, _, _, _, _] us_Methods ty_Method rfl rfl) (fun b56 _ => (d8 (Est rfl (B2 (E := Y5) (ex := lB[((B5 g l.length)[j]).toNat]) us_Methods ty_Method rfl rfl rfl (a4f (x := lB[((B5 g l.length)[j]).toNat]) ei54_0 ei54_2 ei54_3 ei54_4) rfl bn bn dc) (fun p57 _ => (Ei rfl (En (s8 (Et (Ez Z3 (Em rfl (Ey rfl ((Y.add rfl rfl om om).yd) (Ei rfl (Eu (f6 (congrArg (ow S8 [_]) (show (selM dMB lB ((B5 g l.length).take j)) ++ [lB[((B5 g l.length)[j]).toNat]] = selM dMB lB ((B5 g l.length).take (j + 1)) from by exact a6r om om)) (o2 (o2 (o2 (o2 ?_))))))))))))))))))))
     exact Ea (j + 1, p57.1, ((selM dMB lB ((B5 g l.length).take j)).length + 1), p57.2) ⟨oz, trivial⟩
    ·refine Eu (n8 rfl (E.exit (l3 (l3 (y4 (Et (Ew Z5 (Em rfl (Em rfl (Em rfl (Ey rfl (r9 (cs := [_, _]) ty_Query rfl (Has.pt (mS (mS (mS m0)))) rfl) (f6 (congrArg (ow S8 [_]) (show selM dMB lB ((B5 g l.length).take j) = selM dMB lB (B5 g l.length) from by rw [List.take_of_length_le om])) ?_))))))))))))
     have hin : ∀ i ∈ (B5 g l.length), 0 ≤ i ∧ i.toNat < l.length := fun i hi => by have := a2t hi; omega
     have hbs := hb_l.selM (d := dMB) (d' := dM) (is := (B5 g l.length)) (fun i hi => by have := hin i hi; omega)
     refine Est rfl (o4 (V2 fc) rfl rfl rfl dc (fun w Lp hA => ⟨hA.ro hs, hA.bMethodB m0 hbs, hA.ro hrules, hA.ro w7, hA.ro u6⟩)) (fun _ _ => (Ent.b (fun q62 => ?_) (fun q62 => ?_)))
     ·rw [a3X] at q62
      refine Eu (o0 rfl (Ew Z2 (Em rfl (Ei rfl (Eu (Ez Z1 (Ei rfl (En (s8 (Et (Ez Z3 (Em rfl (Ey rfl ((Y.add rfl rfl om om).yd) (Ei rfl (Eu (Ent.drop (d8 (Ent.drop (f6 (congrArg (ow eIs [_]) (show B5 g l.length = (hmI (O9 s l d4 (i9, a6)) l.length (g + 1)).1 from by first | (rw [N9 q34 q62]; done) | (rw [I9 q34 q38]; done) | (rw [N8 q62]; done) | (rw [I8 q38 q62]; done))) (d8 (d8 ?_)))))))))))))))))))))
      exact B0 br (g + 1, a33, (B5 g l.length).length, c33) ⟨rfl, rfl, rfl, rfl, rfl, frB (by first | (rw [N9 q34 q62]; done) | (rw [I9 q34 q38]; done) | (rw [N8 q62]; done) | (rw [I8 q38 q62]; done)), rfl, trivial⟩ (.refl _) ⟨oz, trivial⟩ oz
     ·rw [a3X] at q62
      refine Eu (n8 rfl (f9 (s8 (Et (Ez Z3 (Em rfl (Ey rfl ((Y.add rfl rfl om om).yd) (Ei rfl (Eu (Ent.drop (Ent.drop (f6 (congrArg (ow eIs [_]) (show (hmI (O9 s l d4 (i9, a6)) l.length g).1 = (hmI (O9 s l d4 (i9, a6)) l.length (g + 1)).1 from by first | (rw [N9 q34 q62]; done) | (rw [I9 q34 q38]; done) | (rw [N8 q62]; done) | (rw [I8 q38 q62]; done))) (d8 (d8 ?_))))))))))))))
      exact B0 br (g + 1, aA0_0, ((hmI (O9 s l d4 (i9, a6)) l.length g).1).length, cA0_0) ⟨rfl, rfl, rfl, rfl, rfl, frB (by first | (rw [N9 q34 q62]; done) | (rw [I9 q34 q38]; done) | (rw [N8 q62]; done) | (rw [I8 q38 q62]; done)), rfl, trivial⟩ (.refl _) ⟨oz, trivial⟩ oz
  ·refine Eu (n8 rfl (E.exit (l3 (l3 (y4 (Et (Ew Z4 (Em rfl (Em rfl (Ei rfl (Ei rfl (Eu (E.ret (f6 (congrArg (ow eIs [_]) (show _ = a5I s l d4 (i9, a6) by (rw [show g = 2 ^ l.length from by omega]; first | exact (a1g (q := (i9, a6)) q20).1 | exact (a1g (q := (i9, a6)) q20).2 | exact (a1g (q := (i9, a6)) q20).1.symm | exact (a1g (q := (i9, a6)) q20).2.symm))) ?_))))))))))))))
   exact a6N br rfl rfl rfl (_, _, _) trivial (by rw [show (a5E s l d4 (i9, a6)) = ((hmI (O9 s l d4 (i9, a6)) l.length g).2) from (by (rw [show g = 2 ^ l.length from by omega]; first | exact (a1g (q := (i9, a6)) q20).1 | exact (a1g (q := (i9, a6)) q20).2 | exact (a1g (q := (i9, a6)) q20).1.symm | exact (a1g (q := (i9, a6)) q20).2.symm))]; try rfl) (J := _) (.refl _) (.inl rfl)
 ·refine Ey rfl ((Y.not (b := false) rfl).yd) (Eu (o0 rfl (Ew Z3 (Em rfl (Ei rfl (Ei rfl (Eu (E.ret (s9 (s7 (A := []) (Own.nil (E := Enc.int) (e := tI) (a := (some ⟨b16, 0, none⟩))) rfl (f6 (congrArg (ow eIs [_]) (show _ = a5I s l d4 (i9, a6) by first | exact (a1f (q := (i9, a6)) q20).1 | exact (a1f (q := (i9, a6)) q20).2 | exact (a1f (q := (i9, a6)) q20).1.symm | exact (a1f (q := (i9, a6)) q20).2.symm)) ?_)))))))))))
  exact a6N br rfl rfl rfl ((some ⟨b16, 0, none⟩), 0, 0) trivial (by rw [show (a5E s l d4 (i9, a6)) = (false) from (by first | exact (a1f (q := (i9, a6)) q20).1 | exact (a1f (q := (i9, a6)) q20).2 | exact (a1f (q := (i9, a6)) q20).1.symm | exact (a1f (q := (i9, a6)) q20).2.symm)]; try rfl) (J := _) (.refl _) (.inl rfl)
end Go.Proofs.YtlfhopooaejpfaaGreat
