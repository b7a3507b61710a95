import Derived.Test.YtdopeopehgdccaaGreatT3
import Derived.Test.YtdopeopehgdccaaGreatT5
namespace Go.Proofs.YtdopeopehgdccaaGreat
open Go.RowKit
set_option linter.all false
set_option maxHeartbeats 2000000
attribute [local irreducible] Nop Yd Yp Ent Has Tr FnP FnP2 Src
variable {x l0 U9 o4 a0f : Int} {a : List (Int × List Int)} {s1 s2 r6 f8 : List Int} {m_a c_a m_b c_b m_s1 c_s1 m_s2 c_s2 y4 w8 u5 s5 : Nat} {a_a a_b a_s1 a_s2 w9 s4 : Option Addr}
theorem b0z {left : Int} : Tr Tryz.prog 10 [.slice a_a m_a c_a, .int .i64 left] (fun w L => Ro w L s8 [.slice a_a m_a c_a] a ∧ 0 ≤ left ∧ left ≤ 1048576) [] (κ := Unit) (fun k => True) (fun k => .int .i64 (szR (I9 (fun x => x.2.length) a) left)) (fun k => []) := by
 refine n9 Tryz.func10 rfl (n := 27) rfl (by decide +kernel) bl (fr := [(0, .slice a_a m_a c_a), (1, .int .i64 left)]) rfl fun w L hR => ?_
 obtain ⟨ha, as0, as1⟩ := hR
 obtain ⟨rfl, la⟩ := ha.slen
 refine Ew Z1 (Ei rfl (Ev Z5 (Em rfl (Em rfl (Ey rfl ((Y.len us_lFacts rfl).yd) (Ey rfl ((Y.sub rfl rfl om om).yd) (Ei rfl (Eu (Eq_ (Ew Z2 (Em rfl (Ey rfl ((Y.lss rfl rfl).yd) (o6 (fun q11 => ?_) (fun q11 => ?_))))))))))))))
 ·refine Eu (o2 rfl (Ew Z1 (Ei rfl ?_)))
  exact Eu (E.ret (l4 (Fg rfl rfl () (congrArg (Value.int .i64) (by exact b0h q11)) rfl)))
 ·refine Eu (o3 rfl (j5 (Et (Eq_ (Ew Z1 (Ei rfl (Eu (E.block (E.loop (κ := Nat) (fun g => g ≤ a.length ∧ (a.length : Int) + (r9 (fun x => x.2.length) (a.take g) : Nat) ≤ left) (fun g => [(0, .slice a_a a.length c_a), (1, .int .i64 (left - ((a.length : Int) + (r9 (fun x => x.2.length) (a.take g) : Nat)))), (5, .int .i64 (g : Int))]) (fun g => []) (fun g => a.length - g) 0 ⟨by omega, by simp [r9]; omega⟩ ⟨rfl, frI (by simp [r9]), rfl, trivial⟩ (.refl _) (fun g pg => ?_))))))))))
  obtain ⟨pk, pa⟩ := pg
  refine Eq_ (Ew Z4 (Em rfl (Em rfl (Ey rfl ((Y.len us_lFacts rfl).yd) (Ey rfl ((Y.lss rfl rfl).yd) (o6 (fun q15 => ?_) (fun q15 => ?_)))))))
  ·refine Eu (o2 rfl (j5 (Et (Eq_ (E.block (Ew Z7 (Em rfl (Em rfl ?_))))))))
   obtain ⟨eb20, eo20, ec20, ea20, er20, el20, eh20⟩ := ha.elem g om
   obtain ⟨xa20_0, xc20_0, rfl, ei20_0, xh20_0⟩ := P2 er20
   have := xh20_0.slen.2
   refine Ey rfl ((r7 us_lFacts ty_lFact rfl ea20 rfl g rfl om).yd) (Ey rfl (o9 (cs := [_, _]) ty_lFact rfl (eh20 _) rfl) (Em rfl (Est rfl (n0 b1S rfl rfl rfl dc (fun w Lp hA => ⟨ei20_0, hA.ro xh20_0, (by first | assumption | omega), (by first | assumption | omega)⟩)) (fun _ _ => (Ei rfl (Ev Z2 (Em rfl (Ey rfl ((Y.lss rfl rfl).yd) (o6 (fun q25 => ?_) (fun q25 => ?_))))))))))
   ·have z25 := a0X q25 om
    refine Eu (o2 rfl (Ew Z1 (Ei rfl ?_)))
    exact Eu (E.ret (w5 (l4 (l4 (w5 (l4 (Fg rfl rfl () (congrArg (Value.int .i64) (by exact b0B (t := (fun x => x.2.length)) (n := a[g].2.length) (show g < a.length by omega) rfl om)) rfl)))))))
   ·obtain ⟨z25, y25⟩ := a1I q25 om
    refine Eu (o3 rfl (j5 (t7 (Et (Ez Z3 (Em rfl (Ey rfl ((Y.add rfl rfl om om).yd) (Ei rfl ?_))))))))
    exact Eu (v8 br (g + 1) ⟨rfl, frI (by rw [z25]; have y := P7 (t := (fun x => x.2.length)) (show g < a.length by omega); omega), rfl, trivial⟩ (.refl _) ⟨by omega, by have y := P7 (t := (fun x => x.2.length)) (show g < a.length by omega); omega⟩ om)
  ·refine Eu (o3 rfl (E.exit (o8 (o8 (x9 (Et (Ew Z2 (Em rfl (Ei rfl ?_)))))))))
   exact Eu (E.ret (Fg rfl rfl () (congrArg (Value.int .i64) (by exact b0s (t := (fun x => x.2.length)) (show a.length ≤ g by omega) pa)) rfl))
theorem a2A (hz : I9 (fun x => x.2.length) a ≤ 1048576) : Tr Tryz.prog 15 [.slice a_a m_a c_a] (fun w L => Ro w L s8 [.slice a_a m_a c_a] a) [] (κ := Option Addr × Nat × Nat) (fun k => True) (fun k => .slice k.1 k.2.1 k.2.2) (fun k => [ow s8 [.slice k.1 k.2.1 k.2.2] a]) := by
 refine n9 Tryz.func15 rfl (n := 23) rfl (by decide +kernel) bl (fr := [(0, .slice a_a m_a c_a)]) rfl fun w L hR => ?_
 have ha := hR
 obtain ⟨rfl, la⟩ := ha.slen
 have hlen : a.length ≤ I9 (fun x => x.2.length) a := by unfold I9; omega
 refine Ew Z1 (Ei rfl (Ev Z4 (Em rfl (Ey rfl ((Y.len us_lFacts rfl).yd) (Est rfl (a7K (m := a.length) us_Facts ty_Fact rfl rfl rfl mx om dc) (fun b7 _ => (s3 (A := [_]) (a4O (E := H7) (e := tFact) (zx := (0, [])) (N0 (x := (0, [])) ⟨by decide, by decide⟩ Own.nil) mx) rfl (Ei rfl (Eu (Eq_ (Ew Z1 (Ei rfl (Eu (E.block (E.loop (κ := Nat) (fun g => g ≤ a.length) (fun g => [(0, .slice a_a a.length c_a), (3, .slice (some ⟨b7, 0, none⟩) a.length a.length), (4, .int .i64 (g : Int))]) (fun g => [ow s8 [.slice (some ⟨b7, 0, none⟩) a.length a.length] (a.take g ++ List.replicate (a.length - g) (0, []))]) (fun g => a.length - g) 0 (Nat.zero_le _) ⟨rfl, rfl, rfl, trivial⟩ (by simp) (fun g pg => (Eq_ (Ew Z4 (Em rfl (Em rfl (Ey rfl ((Y.len us_lFacts rfl).yd) (Ey rfl ((Y.lss rfl rfl).yd) (o6 (fun q11 => ?_) (fun q11 => ?_))))))))))))))))))))))))
 ·refine Eu (o2 rfl (j5 (Et (Eq_ (E.block (Ez Z9 (Em rfl (Em rfl (Em rfl (Em rfl ?_))))))))))
  obtain ⟨eb18, eo18, ec18, ea18, er18, el18, eh18⟩ := ha.elem g om
  obtain ⟨xa18_0, xc18_0, rfl, ei18_0, xh18_0⟩ := P2 er18
  have := xh18_0.slen.2
  refine Ey rfl ((r7 us_lFacts ty_lFact rfl ea18 rfl g rfl om).yd) (Ey rfl (o9 (cs := [_, _]) ty_lFact rfl (eh18 _) rfl) (Est rfl (N.call (b1E (by have y := a8Q (t := (fun x => x.2.length)) (l := a) (g := g) om; omega)) rfl rfl rfl dc rfl (fun w Lp hA => ⟨ei18_0, hA.ro xh18_0⟩)) (fun k20 _ => ?_)))
  obtain ⟨a20, m20, c20⟩ := k20
  refine i9 m0 fun e20 l20 => ?_
  subst e20
  refine Ey rfl ((r7 us_Facts ty_Fact rfl rfl rfl g rfl om).yd) (i7 (Est rfl (N.set (E := H7) (j := g) (ex := a[g]) (ce := [_, _]) ty_Fact rfl rfl rfl rfl (N0 (x := a[g]) ei18_0 Own.ow) rfl (Nat.zero_add _) rfl (by simp; omega)) (fun _ _ => (En (t7 (Et (Ez Z3 (Em rfl (Ey rfl ((Y.add rfl rfl om om).yd) (Ei rfl ?_))))))))))
  exact Eu (v8 br (g + 1) rs (by rw [a6g om rfl]) om om)
 ·refine Eu (o3 rfl (E.exit (o8 (o8 (x9 (Et (Ew Z2 (Em rfl (Ei rfl (Eu (E.ret (j6 (congrArg (ow s8 [_]) (show _ = a by exact a4L om)) ?_))))))))))))
  exact Fg rfl rfl (_, _, _) rfl rfl
theorem b0o {b : List (Int × List Int)} : Tr Tryz.prog 21 [.slice a_a m_a c_a, .slice a_b m_b c_b] (fun w L => Ro w L s8 [.slice a_a m_a c_a] a ∧ Ro w L s8 [.slice a_b m_b c_b] b) [] (κ := Unit) (fun k => True) (fun k => .bool (decide (a = b))) (fun k => []) := by
 refine n9 Tryz.func21 rfl (n := 27) rfl (by decide +kernel) bl (fr := [(0, .slice a_a m_a c_a), (1, .slice a_b m_b c_b)]) rfl fun w L hR => ?_
 obtain ⟨ha, hb⟩ := hR
 obtain ⟨rfl, la⟩ := ha.slen
 obtain ⟨rfl, lb⟩ := hb.slen
 refine Ew Z1 (Ei rfl (Eu (Eq_ (Ew Z5 (Em rfl (Ey rfl ((Y.len us_Facts rfl).yd) (Em rfl (Ey rfl ((Y.len us_Facts rfl).yd) (Ey rfl ((Y.neq rfl rfl).yd) (o6 (fun q10 => ?_) (fun q10 => ?_)))))))))))
 ·refine Eu (o2 rfl (Ew Z1 (Ei rfl ?_)))
  exact Eu (E.ret (l4 (Fb rfl rfl (by exact a3l q10))))
 ·refine Eu (o3 rfl (j5 (Et (Eq_ (Ew Z1 (Ei rfl (Eu (E.block (E.loop (κ := Nat) (fun g => g ≤ a.length ∧ a.take g = b.take g) (fun g => [(0, .slice a_a a.length c_a), (1, .slice a_b b.length c_b), (5, .int .i64 (g : Int))]) (fun g => []) (fun g => a.length - g) 0 ⟨by omega, by simp⟩ ⟨rfl, rfl, rfl, trivial⟩ (.refl _) (fun g pg => ?_))))))))))
  obtain ⟨pk, pa⟩ := pg
  refine Eq_ (Ew Z4 (Em rfl (Em rfl (Ey rfl ((Y.len us_Facts rfl).yd) (Ey rfl ((Y.lss rfl rfl).yd) (o6 (fun q14 => ?_) (fun q14 => ?_)))))))
  ·refine Eu (o2 rfl (j5 (Et (Eq_ (E.block (Eq_ (D.region (fun j => true) mixed (Dyp 0 rfl (l3 rfl) (Dyp 1 rfl (l3 rfl) ?_)))))))))
   obtain ⟨eb19, eo19, ec19, ea19, er19, el19, eh19⟩ := ha.elem g om
   obtain ⟨xa19_0, xc19_0, rfl, ei19_0, xh19_0⟩ := P2 er19
   have := xh19_0.slen.2
   refine Dyp 2 rfl (r7 us_Facts ty_Fact rfl ea19 rfl g rfl om) (Dy 3 rfl (o9 (cs := [_, _]) ty_Fact rfl (eh19 _) rfl) (Dyp 4 rfl (l3 rfl) (Dyp 5 rfl (l3 rfl) ?_)))
   obtain ⟨eb23, eo23, ec23, ea23, er23, el23, eh23⟩ := hb.elem g om
   obtain ⟨xa23_0, xc23_0, rfl, ei23_0, xh23_0⟩ := P2 er23
   have := xh23_0.slen.2
   refine Dyp 6 rfl (r7 us_Facts ty_Fact rfl ea23 rfl g rfl om) (Dy 7 rfl (o9 (cs := [_, _]) ty_Fact rfl (eh23 _) rfl) (t8 8 rfl rfl kr (fun _ => rfl) (n0 b1H rfl rfl rfl dc (fun w Lp hA => ⟨ei19_0, hA.ro xh19_0, ei23_0, hA.ro xh23_0⟩)) (fun _ _ => (Ent.b (fun q25 => ?_) (fun q25 => ?_)))))
   ·refine Dyp 9 rfl (Y.not (b := true) rfl) (r8 kr (Et (o3 rfl (j5 (t7 (Et (Ez Z3 (Em rfl (Ey rfl ((Y.add rfl rfl om om).yd) (Ei rfl ?_))))))))))
    exact Eu (v8 br (g + 1) rs (.refl _) ⟨by omega, a1E om om pa (of_decide_eq_true q25)⟩ om)
   ·refine Dyp 9 rfl (Y.not (b := false) rfl) (r8 kr (Et (o2 rfl (Ew Z1 (Ei rfl ?_)))))
    exact Eu (E.ret (w5 (l4 (l4 (w5 (l4 (Fb rfl rfl (by exact a3j (show g < a.length by omega) (show g < b.length by omega) (of_decide_eq_false q25)))))))))
  ·refine Eu (o3 rfl (E.exit (o8 (o8 (x9 (Et (Ew Z1 (Ei rfl ?_))))))))
   exact Eu (E.ret (Fb rfl rfl (by exact a2C (show a.length ≤ g by omega) (show b.length ≤ g by omega) pa)))
theorem a4V : Tr Tryz.prog 289 [.int .i64 x] (fun w L => True) [] (κ := Unit) (fun k => True) (fun k => .bool (false)) (fun k => []) := by
 refine n9 Tryz.func289 rfl (n := 6) rfl (by decide +kernel) bl (fr := [(0, .int .i64 x)]) rfl fun w L hR => (Ew Z1 (Ei rfl (Ev Z4 (Em rfl (Em rfl (Ey rfl ((Y.neq rfl rfl).yd) (Ei rfl ?_)))))))
 exact Eu (E.ret (Fb rfl rfl (by simp)))
theorem a4r {y : Int} : Tr Tryz.prog 232 [.int .i64 x, .int .i64 y] (fun w L => True) [] (κ := Unit) (fun k => True) (fun k => .int .i64 (S1 x y)) (fun k => []) := by
 refine n9 Tryz.func232 rfl (n := 20) rfl (by decide +kernel) bl (fr := [(0, .int .i64 x), (1, .int .i64 y)]) rfl fun w L hR => (Ew Z1 (Ei rfl (Ev Z3 (Em rfl (Est rfl (n0 a4V rfl rfl rfl dc tv) (fun _ _ => (Ei rfl (Ev Z3 (Em rfl (Est rfl (n0 a4V rfl rfl rfl dc tv) (fun _ _ => (Ei rfl (Eu (Eq_ (Ew Z1 (Em rfl (Eu (o3 rfl (j5 (Et (Eq_ (Ew Z1 (Em rfl (Eu (o3 rfl (j5 (Et (Eq_ (Ew Z3 (Em rfl (Em rfl (Ey rfl ((Y.lss rfl rfl).yd) (o6 (fun q16 => ?_) (fun q16 => ?_))))))))))))))))))))))))))))))))))
 ·refine Eu (o2 rfl (Ew Z1 (Ei rfl ?_)))
  exact Eu (E.ret (l4 (Fg rfl rfl () (congrArg (Value.int .i64) (by grind [S1, d1, d2, t1, t2])) rfl)))
 ·refine Eu (o3 rfl (j5 (Et (Eq_ (Ew Z3 (Em rfl (Em rfl (Ey rfl ((Y.gtr rfl rfl).yd) (o6 (fun q19 => ?_) (fun q19 => ?_))))))))))
  ·refine Eu (o2 rfl (Ew Z1 (Ei rfl ?_)))
   exact Eu (E.ret (l4 (Fg rfl rfl () (congrArg (Value.int .i64) (by grind [S1, d1, d2, t1, t2])) rfl)))
  ·refine Eu (o3 rfl (j5 (Et (Ew Z1 (Ei rfl ?_)))))
   exact Eu (E.ret (Fg rfl rfl () (congrArg (Value.int .i64) (by grind [S1, d1, d2, t1, t2])) rfl))
theorem b3g {a_vals : Option Addr} {m_vals c_vals : Nat} {a2W : List Int} : Tr Tryz.prog 231 [.slice a_vals m_vals c_vals] (fun w L => Ro w L eIs [.slice a_vals m_vals c_vals] a2W) [] (κ := Unit) (fun k => True) (fun k => .int .i64 (orI a2W)) (fun k => []) := by
 refine n9 Tryz.func231 rfl (n := 18) rfl (by decide +kernel) bl (fr := [(0, .slice a_vals m_vals c_vals)]) rfl fun w L hR => ?_
 have hvals := hR
 obtain ⟨rfl, lvals⟩ := hvals.slen
 refine Ew Z1 (Ei rfl (Ev Z1 (Ei rfl (Eu (Eq_ (Ew Z3 (Em rfl (Ey rfl ((Y.len us_Is rfl).yd) (Em rfl (Eu (E.block (E.loop (κ := Nat) (fun g => g ≤ a2W.length ∧ orI a2W = orI (a2W.drop g)) (fun g => [(3, .int .i64 0), (6, .slice a_vals a2W.length c_vals), (7, .int .i64 (↑a2W.length : Int)), (8, .int .i64 (g : Int))]) (fun g => []) (fun g => a2W.length - g) 0 ⟨Nat.zero_le _, by simp⟩ ⟨rfl, rfl, rfl, rfl, trivial⟩ (.refl _) (fun g pg => ?_)))))))))))))
 obtain ⟨pk, pa⟩ := pg
 refine Ew Z1 (Ey rfl ((Y.lss rfl rfl).yd) (o6 (fun q9 => ?_) (fun q9 => ?_)))
 ·obtain ⟨eb10, eo10, ea10, ei10, eh10⟩ := hvals.elemI g om
  refine Eu (Eq_ (o2 rfl (j5 (Et (Eq_ (E.block (Ew Z3 (Ey rfl ((r7 us_Is i8 rfl ea10 rfl g rfl om).yd) (Ey rfl (g9 i8 rfl (eh10 _) rfl) (Ei rfl (Ev Z3 (Em rfl (Em rfl (Ey rfl ((Y.neq rfl rfl).yd) (o6 (fun q14 => ?_) (fun q14 => ?_))))))))))))))))
  ·refine Eu (o2 rfl (Ew Z2 (Em rfl (Ei rfl ?_))))
   exact Eu (E.ret (w5 (l4 (l4 (w5 (l4 (Fg rfl rfl () (congrArg (Value.int .i64) (by grind [orI, d1, d2, t1, t2])) rfl)))))))
  ·refine Eu (o3 rfl (j5 (t7 (Et (Ez Z2 (Ey rfl ((Y.add rfl rfl om om).yd) (Em rfl ?_)))))))
   exact Eu (v8 br (g + 1) rs (.refl _) ⟨by omega, by grind [orI, d1, d2, t1, t2]⟩ om)
 ·refine Eu (Eq_ (o3 rfl (E.exit (o8 (o8 (x9 (Et (Ew Z2 (Em rfl (Ei rfl ?_))))))))))
  exact Eu (E.ret (Fg rfl rfl () (congrArg (Value.int .i64) (by grind [orI, d1, d2, t1, t2])) rfl))
theorem a2u : Tr Tryz.prog 191 [.slice a_s1 m_s1 c_s1, .slice a_s2 m_s2 c_s2] (fun w L => Ro w L eIs [.slice a_s1 m_s1 c_s1] s1 ∧ Ro w L eIs [.slice a_s2 m_s2 c_s2] s2) [] (κ := Unit) (fun k => True) (fun k => .int .i64 (I2 s1 s2)) (fun k => []) := by
 refine n9 Tryz.func191 rfl (n := 36) rfl (by decide +kernel) bl (fr := [(0, .slice a_s1 m_s1 c_s1), (1, .slice a_s2 m_s2 c_s2)]) rfl fun w L hR => ?_
 obtain ⟨hs1, hs2⟩ := hR
 obtain ⟨rfl, ls1⟩ := hs1.slen
 obtain ⟨rfl, ls2⟩ := hs2.slen
 refine Ew Z1 (Ei rfl (Eu (Eq_ (Ew Z3 (Em rfl (Ey rfl ((Y.len us_Is rfl).yd) (Em rfl (Eu (E.block (E.loop (κ := Nat) (fun g => g ≤ s1.length ∧ I2 s1 s2 = I2 (s1.drop g) (s2.drop g)) (fun g => [(0, .slice a_s1 s1.length c_s1), (1, .slice a_s2 s2.length c_s2), (9, .slice a_s1 s1.length c_s1), (10, .int .i64 (↑s1.length : Int)), (11, .int .i64 (g : Int))]) (fun g => []) (fun g => s1.length - g) 0 ⟨Nat.zero_le _, by simp⟩ ⟨rfl, rfl, rfl, rfl, rfl, trivial⟩ (.refl _) (fun g pg => ?_)))))))))))
 obtain ⟨pk, pa⟩ := pg
 refine Ew Z1 (Ey rfl ((Y.lss rfl rfl).yd) (o6 (fun q12 => ?_) (fun q12 => ?_)))
 ·refine Eu (Eq_ (o2 rfl (j5 (Et (Eq_ (E.block (Ew Z5 (Em rfl ?_))))))))
  obtain ⟨eb14, eo14, ea14, ei14, eh14⟩ := hs1.elemI g om
  refine Ey rfl ((r7 us_Is i8 rfl ea14 rfl g rfl om).yd) (Ey rfl (g9 i8 rfl (eh14 _) rfl) (Ei rfl (Ei rfl (Eu (Eq_ (Ew Z4 (Em rfl (Em rfl (Ey rfl ((Y.len us_Is rfl).yd) (Ey rfl ((Y.geq rfl rfl).yd) (o6 (fun q19 => ?_) (fun q19 => ?_))))))))))))
  ·refine Eu (o2 rfl (Ew Z1 (Ei rfl ?_)))
   exact Eu (E.ret (l4 (w5 (l4 (l4 (w5 (l4 (Fg rfl rfl () (congrArg (Value.int .i64) (by grind [I2, d1, d2, t1, t2])) rfl))))))))
  ·refine Eu (o3 rfl (j5 (Et (Ew Z5 (Em rfl (Em rfl ?_))))))
   obtain ⟨eb22, eo22, ea22, ei22, eh22⟩ := hs2.elemI g om
   refine Ey rfl ((r7 us_Is i8 rfl ea22 rfl g rfl om).yd) (Ey rfl (g9 i8 rfl (eh22 _) rfl) (Ei rfl (Ev Z4 (Em rfl (Em rfl (Est rfl (n0 a4r rfl rfl rfl dc tv) (fun _ _ => (Ei rfl (Ev Z2 (Em rfl (Ey rfl ((Y.neq rfl rfl).yd) (o6 (fun q28 => ?_) (fun q28 => ?_)))))))))))))
   ·refine Eu (o2 rfl (Ew Z2 (Em rfl (Ei rfl ?_))))
    exact Eu (E.ret (w5 (l4 (l4 (w5 (l4 (Fg rfl rfl () (congrArg (Value.int .i64) (by grind [I2, d1, d2, t1, t2])) rfl)))))))
   ·refine Eu (o3 rfl (j5 (t7 (Et (Ez Z2 (Ey rfl ((Y.add rfl rfl om om).yd) (Em rfl ?_)))))))
    exact Eu (v8 br (g + 1) rs (.refl _) ⟨by omega, by grind [I2, d1, d2, t1, t2]⟩ om)
 ·refine Eu (Eq_ (o3 rfl (E.exit (o8 (o8 (x9 (Et (Eq_ (Ew Z5 (Em rfl (Ey rfl ((Y.len us_Is rfl).yd) (Em rfl (Ey rfl ((Y.len us_Is rfl).yd) (Ey rfl ((Y.lss rfl rfl).yd) (o6 (fun q35 => ?_) (fun q35 => ?_))))))))))))))))
  ·refine Eu (o2 rfl (Ew Z1 (Ei rfl ?_)))
   exact Eu (E.ret (l4 (Fg rfl rfl () (congrArg (Value.int .i64) (by grind [I2, d1, d2, t1, t2])) rfl)))
  ·refine Eu (o3 rfl (j5 (Et (Ew Z1 (Ei rfl ?_)))))
   exact Eu (E.ret (Fg rfl rfl () (congrArg (Value.int .i64) (by grind [I2, d1, d2, t1, t2])) rfl))
theorem a2j : Tr Tryz.prog 156 [.agg #[.int .i64 l0, .slice w9 y4 w8], .agg #[.int .i64 U9, .slice s4 u5 s5]] (fun w L => I64 l0 ∧ Ro w L eIs [.slice w9 y4 w8] r6 ∧ I64 U9 ∧ Ro w L eIs [.slice s4 u5 s5] f8) [] (κ := Unit) (fun k => True) (fun k => .int .i64 (R4 (l0, r6) (U9, f8))) (fun k => []) := by
 refine n9 Tryz.func156 rfl (n := 17) rfl (by decide +kernel) bl (fr := [(0, .agg #[.int .i64 l0, .slice w9 y4 w8]), (1, .agg #[.int .i64 U9, .slice s4 u5 s5])]) rfl fun w L hR => ?_
 obtain ⟨G5, B6, a7X, w4⟩ := hR
 obtain ⟨rfl, R9⟩ := B6.slen
 obtain ⟨rfl, O3⟩ := w4.slen
 refine Ew Z3 (Est rfl (N.box (cs := [_, _]) rfl dc rfl) (fun b2 _ => (Est rfl (N.box (cs := [_, _]) rfl dc rfl) (fun b3 _ => (Ei rfl (Eu (Eq_ (D.region (fun j => true) mixed (Dyp 0 rfl (j7 fo_Fact_0 i8 dc rfl) (Dy 1 rfl (g9 i8 rfl (Hz (mS m0) 0 rfl) rfl) (Dyp 2 rfl (j7 fo_Fact_0 i8 dc rfl) (Dy 3 rfl (g9 i8 rfl (Hz m0 0 rfl) rfl) (Dyp 5 rfl (j7 fo_Fact_1 ty_Is dc rfl) (Dy 6 rfl (g9 ty_Is rfl (Hz (mS m0) 1 rfl) rfl) (Dyp 7 rfl (j7 fo_Fact_1 ty_Is dc rfl) (Dy 8 rfl (g9 ty_Is rfl (Hz m0 1 rfl) rfl) ?_))))))))))))))))
 have j1 := @b3b l0 U9
 refine t8 4 rfl rfl kr (fun _ => rfl) (n0 a4r rfl rfl rfl dc tv) (fun _ _ => ?_)
 have j2 := @b2f r6 f8
 refine t8 9 rfl rfl kr (fun _ => rfl) (n0 a2u rfl rfl rfl dc (fun w Lp hA => ⟨hA.ro B6, hA.ro w4⟩)) (fun _ _ => (t8 10 rfl rfl kr (fun _ => rfl) (Nb [_, _] [_, _] us_Is i8 rfl rfl) (fun b15 _ => (s3 (A := [_]) (Own.ints (e := tI) (xs := [S1 l0 U9, I2 r6 f8]) rfl (by simp [maxLen]) (by simp only [List.forall_mem_cons]; exact ⟨i6, i6, List.forall_mem_nil _⟩)) rfl (t8 11 rfl rfl kr (fun _ => rfl) (n0 b3g rfl rfl rfl dc (fun w Lp hA => hA.ow m0)) (fun _ _ => (Dyp 12 rfl (F7 rfl) ?_)))))))
 exact r8 kr (Et (E.ret (Fg rfl rfl () (congrArg (Value.int .i64) (by grind [R4, orI, d1, d2, t1, t2])) rfl)))
theorem a1k : Tr Tryz.prog 140 [.agg #[.int .i64 l0, .slice w9 y4 w8], .agg #[.int .i64 U9, .slice s4 u5 s5]] (fun w L => I64 l0 ∧ Ro w L eIs [.slice w9 y4 w8] r6 ∧ I64 U9 ∧ Ro w L eIs [.slice s4 u5 s5] f8) [] (κ := Unit) (fun k => True) (fun k => .int .i64 (R4 (l0, r6) (U9, f8))) (fun k => []) := by
 refine n9 Tryz.func140 rfl (n := 66) rfl (by decide +kernel) bl (fr := [(0, .agg #[.int .i64 l0, .slice w9 y4 w8]), (1, .agg #[.int .i64 U9, .slice s4 u5 s5])]) rfl fun w L hR => ?_
 obtain ⟨G5, B6, a7X, w4⟩ := hR
 obtain ⟨rfl, R9⟩ := B6.slen
 obtain ⟨rfl, O3⟩ := w4.slen
 refine Ew Z3 (Est rfl (N.box (cs := [_, _]) rfl dc rfl) (fun b2 _ => (Est rfl (N.box (cs := [_, _]) rfl dc rfl) (fun b3 _ => (Ei rfl (Eu (Eq_ (Ew Z5 (Ey rfl ((j7 fo_Fact_0 i8 dc rfl).yd) (Ey rfl (g9 i8 rfl (Hz (mS m0) 0 rfl) rfl) (Ey rfl ((j7 fo_Fact_0 i8 dc rfl).yd) (Ey rfl (g9 i8 rfl (Hz m0 0 rfl) rfl) (Ey rfl ((Y.neq rfl rfl).yd) (o6 (fun q10 => ?_) (fun q10 => ?_)))))))))))))))
 ·refine Eu (o2 rfl (Eq_ (Ew Z5 (Ey rfl ((j7 fo_Fact_0 i8 dc rfl).yd) (Ey rfl (g9 i8 rfl (Hz (mS m0) 0 rfl) rfl) (Ey rfl ((j7 fo_Fact_0 i8 dc rfl).yd) (Ey rfl (g9 i8 rfl (Hz m0 0 rfl) rfl) (Ey rfl ((Y.lss rfl rfl).yd) (o6 (fun q15 => ?_) (fun q15 => ?_))))))))))
  ·refine Eu (o2 rfl (Ew Z1 (Ei rfl ?_)))
   exact Eu (E.ret (l4 (l4 (Fg rfl rfl () (congrArg (Value.int .i64) (by grind [R4, S1, I2, d1, d2, t1, t2])) rfl))))
  ·refine Eu (o3 rfl (j5 (Et (Ew Z1 (Ei rfl ?_)))))
   exact Eu (E.ret (l4 (Fg rfl rfl () (congrArg (Value.int .i64) (by grind [R4, S1, I2, d1, d2, t1, t2])) rfl)))
 ·refine Eu (o3 rfl (j5 (Et (Eq_ (Ew Z1 (Ei rfl (Eu (E.block (E.loop (κ := Nat) (fun g => g ≤ r6.length ∧ g ≤ f8.length ∧ I2 r6 f8 = I2 (r6.drop g) (f8.drop g)) (fun g => [(2, .pointer (some ⟨b2, 0, none⟩)), (3, .pointer (some ⟨b3, 0, none⟩)), (5, .int .i64 (g : Int))]) (fun g => [pt b3 115 [.int .i64 U9, .slice s4 f8.length s5], pt b2 115 [.int .i64 l0, .slice w9 r6.length w8]]) (fun g => r6.length - g) 0 ⟨Nat.zero_le _, by simp⟩ ⟨rfl, rfl, rfl, trivial⟩ (.refl _) (fun g pg => ?_))))))))))
  obtain ⟨pk, pa⟩ := pg
  refine Eq_ (Ew Z12 (Em rfl (Ey rfl ((j7 fo_Fact_1 ty_Is dc rfl).yd) (Ey rfl (g9 ty_Is rfl (Hz (mS m0) 1 rfl) rfl) (Ey rfl ((Y.len us_Is rfl).yd) (Ey rfl ((Y.lss rfl rfl).yd) (o6 (fun q20 => ?_) (fun q20 => ?_))))))))
  ·refine Em rfl (Em rfl (Ey rfl ((j7 fo_Fact_1 ty_Is dc rfl).yd) (Ey rfl (g9 ty_Is rfl (Hz m0 1 rfl) rfl) (Ey rfl ((Y.len us_Is rfl).yd) (Ey rfl ((Y.lss rfl rfl).yd) (o6 (fun q26 => ?_) (fun q26 => ?_)))))))
   ·refine Ey rfl ((u7 rfl rfl).yd) (Eu (o2 rfl (j5 (Et (Eq_ (E.block (Eq_ (Eq_ (D.region (fun j => true) mixed (Dyp 0 rfl (j7 fo_Fact_1 ty_Is dc rfl) (Dy 1 rfl (g9 ty_Is rfl (Hz (mS m0) 1 rfl) rfl) (Dyp 2 rfl (l3 rfl) ?_))))))))))))
    obtain ⟨eb33, eo33, ea33, ei33, eh33⟩ := B6.elemI g om
    refine Dyp 3 rfl (r7 us_Is i8 rfl ea33 rfl g rfl om) (Dy 4 rfl (g9 i8 rfl (eh33 _) rfl) (Dyp 5 rfl (j7 fo_Fact_1 ty_Is dc rfl) (Dy 6 rfl (g9 ty_Is rfl (Hz m0 1 rfl) rfl) (Dyp 7 rfl (l3 rfl) ?_))))
    obtain ⟨eb38, eo38, ea38, ei38, eh38⟩ := w4.elemI g om
    refine Dyp 8 rfl (r7 us_Is i8 rfl ea38 rfl g rfl om) (Dy 9 rfl (g9 i8 rfl (eh38 _) rfl) (Dyp 10 rfl (Y.lss rfl rfl) (o6 (fun q40 => ?_) (fun q40 => ?_))))
    ·refine r8 kr (Et (o2 rfl (Ew Z1 (Ei rfl ?_))))
     exact Eu (E.ret (l4 (w5 (l4 (l4 (w5 (l4 (Fg rfl rfl () (congrArg (Value.int .i64) (by grind [R4, S1, I2, d1, d2, t1, t2])) rfl))))))))
    ·refine r8 kr (Et (o3 rfl (j5 (Et (Eq_ (D.region (fun j => true) mixed (Dyp 0 rfl (j7 fo_Fact_1 ty_Is dc rfl) (Dy 1 rfl (g9 ty_Is rfl (Hz (mS m0) 1 rfl) rfl) (Dyp 2 rfl (l3 rfl) (Dyp 3 rfl (r7 us_Is i8 rfl ea33 rfl g rfl om) (Dy 4 rfl (g9 i8 rfl (eh33 _) rfl) (Dyp 5 rfl (j7 fo_Fact_1 ty_Is dc rfl) (Dy 6 rfl (g9 ty_Is rfl (Hz m0 1 rfl) rfl) (Dyp 7 rfl (l3 rfl) (Dyp 8 rfl (r7 us_Is i8 rfl ea38 rfl g rfl om) (Dy 9 rfl (g9 i8 rfl (eh38 _) rfl) (Dyp 10 rfl (Y.gtr rfl rfl) (o6 (fun q51 => ?_) (fun q51 => ?_)))))))))))))))))))
     ·refine r8 kr (Et (o2 rfl (Ew Z1 (Ei rfl ?_))))
      exact Eu (E.ret (w5 (l4 (l4 (w5 (l4 (Fg rfl rfl () (congrArg (Value.int .i64) (by grind [R4, S1, I2, d1, d2, t1, t2])) rfl)))))))
     ·refine r8 kr (Et (o3 rfl (j5 (t7 (Et (Ez Z3 (Em rfl (Ey rfl ((Y.add rfl rfl om om).yd) (Ei rfl (Eu (i7 (i7 ?_))))))))))))
      exact v8 br (g + 1) rs (.refl _) ⟨by omega, by grind [I2, S1, d1, d2, t1, t2]⟩ om
   ·refine Ey rfl ((u7 rfl rfl).yd) (Eu (o3 rfl (E.exit (o8 (o8 (x9 (Et (Eq_ (Ew Z7 (Ey rfl ((j7 fo_Fact_1 ty_Is dc rfl).yd) (Ey rfl (g9 ty_Is rfl (Hz (mS m0) 1 rfl) rfl) (Ey rfl ((Y.len us_Is rfl).yd) (Ey rfl ((j7 fo_Fact_1 ty_Is dc rfl).yd) (Ey rfl (g9 ty_Is rfl (Hz m0 1 rfl) rfl) (Ey rfl ((Y.len us_Is rfl).yd) (Ey rfl ((Y.lss rfl rfl).yd) (o6 (fun q58 => ?_) (fun q58 => ?_))))))))))))))))))
    ·refine Eu (o2 rfl (Ew Z1 (Ei rfl ?_)))
     exact Eu (E.ret (l4 (Fg rfl rfl () (congrArg (Value.int .i64) (by grind [R4, S1, I2, d1, d2, t1, t2])) rfl)))
    ·refine Eu (o3 rfl (j5 (Et (Eq_ (Ew Z7 (Ey rfl ((j7 fo_Fact_1 ty_Is dc rfl).yd) (Ey rfl (g9 ty_Is rfl (Hz (mS m0) 1 rfl) rfl) (Ey rfl ((Y.len us_Is rfl).yd) (Ey rfl ((j7 fo_Fact_1 ty_Is dc rfl).yd) (Ey rfl (g9 ty_Is rfl (Hz m0 1 rfl) rfl) (Ey rfl ((Y.len us_Is rfl).yd) (Ey rfl ((Y.gtr rfl rfl).yd) (o6 (fun q65 => ?_) (fun q65 => ?_))))))))))))))
     ·refine Eu (o2 rfl (Ew Z1 (Ei rfl ?_)))
      exact Eu (E.ret (l4 (Fg rfl rfl () (congrArg (Value.int .i64) (by grind [R4, S1, I2, d1, d2, t1, t2])) rfl)))
     ·refine Eu (o3 rfl (j5 (Et (Ew Z1 (Ei rfl ?_)))))
      exact Eu (E.ret (Fg rfl rfl () (congrArg (Value.int .i64) (by grind [R4, S1, I2, d1, d2, t1, t2])) rfl))
  ·refine Em rfl (Es rfl (Es rfl (Es rfl (Es rfl (Es rfl (Ey rfl ((u0 rfl rfl).yd) (Eu (o3 rfl (E.exit (o8 (o8 (x9 (Et (Eq_ (Ew Z7 (Ey rfl ((j7 fo_Fact_1 ty_Is dc rfl).yd) (Ey rfl (g9 ty_Is rfl (Hz (mS m0) 1 rfl) rfl) (Ey rfl ((Y.len us_Is rfl).yd) (Ey rfl ((j7 fo_Fact_1 ty_Is dc rfl).yd) (Ey rfl (g9 ty_Is rfl (Hz m0 1 rfl) rfl) (Ey rfl ((Y.len us_Is rfl).yd) (Ey rfl ((Y.lss rfl rfl).yd) (o6 (fun q58 => ?_) (fun q58 => ?_))))))))))))))))))))))))
   ·refine Eu (o2 rfl (Ew Z1 (Ei rfl ?_)))
    exact Eu (E.ret (l4 (Fg rfl rfl () (congrArg (Value.int .i64) (by grind [R4, S1, I2, d1, d2, t1, t2])) rfl)))
   ·refine Eu (o3 rfl (j5 (Et (Eq_ (Ew Z7 (Ey rfl ((j7 fo_Fact_1 ty_Is dc rfl).yd) (Ey rfl (g9 ty_Is rfl (Hz (mS m0) 1 rfl) rfl) (Ey rfl ((Y.len us_Is rfl).yd) (Ey rfl ((j7 fo_Fact_1 ty_Is dc rfl).yd) (Ey rfl (g9 ty_Is rfl (Hz m0 1 rfl) rfl) (Ey rfl ((Y.len us_Is rfl).yd) (Ey rfl ((Y.gtr rfl rfl).yd) (o6 (fun q65 => ?_) (fun q65 => ?_))))))))))))))
    ·refine Eu (o2 rfl (Ew Z1 (Ei rfl ?_)))
     exact Eu (E.ret (l4 (Fg rfl rfl () (congrArg (Value.int .i64) (by grind [R4, S1, I2, d1, d2, t1, t2])) rfl)))
    ·refine Eu (o3 rfl (j5 (Et (Ew Z1 (Ei rfl ?_)))))
     exact Eu (E.ret (Fg rfl rfl () (congrArg (Value.int .i64) (by grind [R4, S1, I2, d1, d2, t1, t2])) rfl))
theorem a2O : Tr Tryz.prog 268 [.slice a_s1 m_s1 c_s1, .slice a_s2 m_s2 c_s2] (fun w L => Ro w L eIs [.slice a_s1 m_s1 c_s1] s1 ∧ Ro w L eIs [.slice a_s2 m_s2 c_s2] s2) [] (κ := Unit) (fun k => True) (fun k => .bool (decide (s1 = s2))) (fun k => []) := by
 refine n9 Tryz.func268 rfl (n := 26) rfl (by decide +kernel) bl (fr := [(0, .slice a_s1 m_s1 c_s1), (1, .slice a_s2 m_s2 c_s2)]) rfl fun w L hR => ?_
 obtain ⟨hs1, hs2⟩ := hR
 obtain ⟨rfl, ls1⟩ := hs1.slen
 obtain ⟨rfl, ls2⟩ := hs2.slen
 refine Ew Z1 (Ei rfl (Eu (Eq_ (Ew Z5 (Em rfl (Ey rfl ((Y.len us_Is rfl).yd) (Em rfl (Ey rfl ((Y.len us_Is rfl).yd) (Ey rfl ((Y.neq rfl rfl).yd) (o6 (fun q10 => ?_) (fun q10 => ?_)))))))))))
 ·refine Eu (o2 rfl (Ew Z1 (Ei rfl ?_)))
  exact Eu (E.ret (l4 (Fb rfl rfl (by grind [d1, d2, t1, t2]))))
 ·refine Eu (o3 rfl (j5 (Et (Eq_ (Ew Z3 (Em rfl (Ey rfl ((Y.len us_Is rfl).yd) (Em rfl (Eu (E.block (E.loop (κ := Nat) (fun g => g ≤ s1.length ∧ s1.length = s2.length ∧ (s1 = s2 ↔ s1.drop g = s2.drop g)) (fun g => [(0, .slice a_s1 s1.length c_s1), (1, .slice a_s2 s2.length c_s2), (12, .int .i64 (↑s1.length : Int)), (13, .int .i64 (g : Int))]) (fun g => []) (fun g => s1.length - g) 0 ⟨Nat.zero_le _, by exact ⟨by omega, by simp⟩⟩ ⟨rfl, rfl, rfl, rfl, trivial⟩ (.refl _) (fun g pg => ?_))))))))))))
  obtain ⟨pk, pa⟩ := pg
  refine Ew Z1 (Ey rfl ((Y.lss rfl rfl).yd) (o6 (fun q14 => ?_) (fun q14 => ?_)))
  ·refine Eu (Eq_ (o2 rfl (j5 (Et (Eq_ (E.block (Ew Z2 (Em rfl (Ei rfl (Eu (Eq_ (D.region (fun j => true) mixed (Dyp 0 rfl (l3 rfl) (Dyp 1 rfl (l3 rfl) ?_))))))))))))))
   obtain ⟨eb18, eo18, ea18, ei18, eh18⟩ := hs1.elemI g om
   refine Dyp 2 rfl (r7 us_Is i8 rfl ea18 rfl g rfl om) (Dy 3 rfl (g9 i8 rfl (eh18 _) rfl) (Dyp 4 rfl (l3 rfl) (Dyp 5 rfl (l3 rfl) ?_)))
   obtain ⟨eb22, eo22, ea22, ei22, eh22⟩ := hs2.elemI g om
   refine Dyp 6 rfl (r7 us_Is i8 rfl ea22 rfl g rfl om) (Dy 7 rfl (g9 i8 rfl (eh22 _) rfl) (Dyp 8 rfl (Y.neq rfl rfl) (o6 (fun q24 => ?_) (fun q24 => ?_))))
   ·refine r8 kr (Et (o2 rfl (Ew Z1 (Ei rfl ?_))))
    exact Eu (E.ret (w5 (l4 (l4 (w5 (l4 (Fb rfl rfl (by grind [d1, d2, t1, t2]))))))))
   ·refine r8 kr (Et (o3 rfl (j5 (t7 (Et (Ez Z2 (Ey rfl ((Y.add rfl rfl om om).yd) (Em rfl ?_))))))))
    exact Eu (v8 br (g + 1) rs (.refl _) ⟨by omega, by grind [d1, d2, t1, t2]⟩ om)
  ·refine Eu (Eq_ (o3 rfl (E.exit (o8 (o8 (x9 (Et (Ew Z1 (Ei rfl ?_)))))))))
   exact Eu (E.ret (Fb rfl rfl (by grind [d1, d2, t1, t2])))
theorem a6N {a : List Int} {b : List Int} : Tr Tryz.prog 145 [.slice a_a m_a c_a, .slice a_b m_b c_b] (fun w L => Ro w L eIs [.slice a_a m_a c_a] a ∧ Ro w L eIs [.slice a_b m_b c_b] b) [] (κ := Unit) (fun k => True) (fun k => .bool (decide (a = b))) (fun k => []) := by
 refine n9 Tryz.func145 rfl (n := 26) rfl (by decide +kernel) bl (fr := [(0, .slice a_a m_a c_a), (1, .slice a_b m_b c_b)]) rfl fun w L hR => ?_
 obtain ⟨ha, hb⟩ := hR
 obtain ⟨rfl, la⟩ := ha.slen
 obtain ⟨rfl, lb⟩ := hb.slen
 refine Ew Z1 (Ei rfl (Eu (Eq_ (Ew Z5 (Em rfl (Ey rfl ((Y.len us_Is rfl).yd) (Em rfl (Ey rfl ((Y.len us_Is rfl).yd) (Ey rfl ((Y.neq rfl rfl).yd) (o6 (fun q10 => ?_) (fun q10 => ?_)))))))))))
 ·refine Eu (o2 rfl (Ew Z1 (Ei rfl ?_)))
  exact Eu (E.ret (l4 (Fb rfl rfl (by grind [d1, d2, t1, t2]))))
 ·refine Eu (o3 rfl (j5 (Et (Eq_ (Ew Z1 (Ei rfl (Eu (E.block (E.loop (κ := Nat) (fun g => g ≤ a.length ∧ a.length = b.length ∧ (a = b ↔ a.drop g = b.drop g)) (fun g => [(0, .slice a_a a.length c_a), (1, .slice a_b b.length c_b), (5, .int .i64 (g : Int))]) (fun g => []) (fun g => a.length - g) 0 ⟨Nat.zero_le _, by exact ⟨by omega, by simp⟩⟩ ⟨rfl, rfl, rfl, trivial⟩ (.refl _) (fun g pg => ?_))))))))))
  obtain ⟨pk, pa⟩ := pg
  refine Eq_ (Ew Z4 (Em rfl (Em rfl (Ey rfl ((Y.len us_Is rfl).yd) (Ey rfl ((Y.lss rfl rfl).yd) (o6 (fun q14 => ?_) (fun q14 => ?_)))))))
  ·refine Eu (o2 rfl (j5 (Et (Eq_ (E.block (Eq_ (D.region (fun j => true) mixed (Dyp 0 rfl (l3 rfl) (Dyp 1 rfl (l3 rfl) ?_)))))))))
   obtain ⟨eb19, eo19, ea19, ei19, eh19⟩ := ha.elemI g om
   refine Dyp 2 rfl (r7 us_Is i8 rfl ea19 rfl g rfl om) (Dy 3 rfl (g9 i8 rfl (eh19 _) rfl) (Dyp 4 rfl (l3 rfl) (Dyp 5 rfl (l3 rfl) ?_)))
   obtain ⟨eb23, eo23, ea23, ei23, eh23⟩ := hb.elemI g om
   refine Dyp 6 rfl (r7 us_Is i8 rfl ea23 rfl g rfl om) (Dy 7 rfl (g9 i8 rfl (eh23 _) rfl) (Dyp 8 rfl (Y.neq rfl rfl) (o6 (fun q25 => ?_) (fun q25 => ?_))))
   ·refine r8 kr (Et (o2 rfl (Ew Z1 (Ei rfl ?_))))
    exact Eu (E.ret (w5 (l4 (l4 (w5 (l4 (Fb rfl rfl (by grind [d1, d2, t1, t2]))))))))
   ·refine r8 kr (Et (o3 rfl (j5 (t7 (Et (Ez Z3 (Em rfl (Ey rfl ((Y.add rfl rfl om om).yd) (Ei rfl ?_)))))))))
    exact Eu (v8 br (g + 1) rs (.refl _) ⟨by omega, by grind [d1, d2, t1, t2]⟩ om)
  ·refine Eu (o3 rfl (E.exit (o8 (o8 (x9 (Et (Ew Z1 (Ei rfl ?_))))))))
   exact Eu (E.ret (Fb rfl rfl (by grind [d1, d2, t1, t2])))
theorem a8j : Tr Tryz.prog 212 [.agg #[.int .i64 o4, .slice w9 y4 w8], .agg #[.int .i64 a0f, .slice s4 u5 s5]] (fun w L => (I64 o4 ∧ Ro w L eIs [.slice w9 y4 w8] r6 ∧ I64 a0f ∧ Ro w L eIs [.slice s4 u5 s5] f8) ∧ True) [] (κ := Unit) (fun k => True) (fun k => .bool (decide ((o4, r6) = (a0f, f8)))) (fun k => []) := by
 refine n9 Tryz.func212 rfl (n := 17) rfl (by decide +kernel) bl (fr := [(0, .agg #[.int .i64 o4, .slice w9 y4 w8]), (1, .agg #[.int .i64 a0f, .slice s4 u5 s5])]) rfl fun w L hR => ?_
 obtain ⟨⟨O0, B6, b0c, w4⟩, _⟩ := hR
 obtain ⟨rfl, R9⟩ := B6.slen
 obtain ⟨rfl, O3⟩ := w4.slen
 refine Ew Z3 (Est rfl (N.box (cs := [_, _]) rfl dc rfl) (fun b2 _ => (Est rfl (N.box (cs := [_, _]) rfl dc rfl) (fun b3 _ => (Ei rfl (Ev Z13 (Ey rfl ((j7 fo_Access_0 i8 dc rfl).yd) (Ey rfl (g9 i8 rfl (Hz (mS m0) 0 rfl) rfl) (Ey rfl ((j7 fo_Access_0 i8 dc rfl).yd) (Ey rfl (g9 i8 rfl (Hz m0 0 rfl) rfl) (Ey rfl ((Y.eql rfl rfl).yd) (o6 (fun q9 => ?_) (fun q9 => ?_)))))))))))))
 ·refine Em rfl (Ey rfl ((j7 fo_Access_1 ty_Is dc rfl).yd) (Ey rfl (g9 ty_Is rfl (Hz (mS m0) 1 rfl) rfl) (Ey rfl ((j7 fo_Access_1 ty_Is dc rfl).yd) (Ey rfl (g9 ty_Is rfl (Hz m0 1 rfl) rfl) (Est rfl (n0 a2O rfl rfl rfl dc (fun w Lp hA => ⟨hA.ro B6, hA.ro w4⟩)) (fun _ _ => (Ey rfl ((u7 rfl rfl).yd) (Ei rfl ?_))))))))
  exact Eu (E.ret (Fb rfl rfl (by grind [d1, d2, t1, t2])))
 ·refine Em rfl (Es rfl (Es rfl (Es rfl (Es rfl (Es rfl (Ey rfl ((u0 rfl rfl).yd) (Ei rfl ?_)))))))
  exact Eu (E.ret (Fb rfl rfl (by grind [d1, d2, t1, t2])))
theorem b1D : Tr Tryz.prog 173 [.agg #[.int .i64 o4, .slice w9 y4 w8], .agg #[.int .i64 a0f, .slice s4 u5 s5]] (fun w L => I64 o4 ∧ Ro w L eIs [.slice w9 y4 w8] r6 ∧ I64 a0f ∧ Ro w L eIs [.slice s4 u5 s5] f8) [] (κ := Unit) (fun k => True) (fun k => .bool (decide ((o4, r6) = (a0f, f8)))) (fun k => []) := by
 refine n9 Tryz.func173 rfl (n := 17) rfl (by decide +kernel) bl (fr := [(0, .agg #[.int .i64 o4, .slice w9 y4 w8]), (1, .agg #[.int .i64 a0f, .slice s4 u5 s5])]) rfl fun w L hR => ?_
 obtain ⟨O0, B6, b0c, w4⟩ := hR
 obtain ⟨rfl, R9⟩ := B6.slen
 obtain ⟨rfl, O3⟩ := w4.slen
 refine Ew Z3 (Est rfl (N.box (cs := [_, _]) rfl dc rfl) (fun b2 _ => (Est rfl (N.box (cs := [_, _]) rfl dc rfl) (fun b3 _ => (Ei rfl (Ev Z13 (Ey rfl ((j7 fo_Access_0 i8 dc rfl).yd) (Ey rfl (g9 i8 rfl (Hz (mS m0) 0 rfl) rfl) (Ey rfl ((j7 fo_Access_0 i8 dc rfl).yd) (Ey rfl (g9 i8 rfl (Hz m0 0 rfl) rfl) (Ey rfl ((Y.eql rfl rfl).yd) (o6 (fun q9 => ?_) (fun q9 => ?_)))))))))))))
 ·refine Em rfl (Ey rfl ((j7 fo_Access_1 ty_Is dc rfl).yd) (Ey rfl (g9 ty_Is rfl (Hz (mS m0) 1 rfl) rfl) (Ey rfl ((j7 fo_Access_1 ty_Is dc rfl).yd) (Ey rfl (g9 ty_Is rfl (Hz m0 1 rfl) rfl) (Est rfl (n0 a6N rfl rfl rfl dc (fun w Lp hA => ⟨hA.ro B6, hA.ro w4⟩)) (fun _ _ => (Ey rfl ((u7 rfl rfl).yd) (Ei rfl ?_))))))))
  exact Eu (E.ret (Fb rfl rfl (by grind [d1, d2, t1, t2])))
 ·refine Em rfl (Es rfl (Es rfl (Es rfl (Es rfl (Es rfl (Ey rfl ((u0 rfl rfl).yd) (Ei rfl ?_)))))))
  exact Eu (E.ret (Fb rfl rfl (by grind [d1, d2, t1, t2])))
end Go.Proofs.YtdopeopehgdccaaGreat
