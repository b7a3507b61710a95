import Derived.Test.YtdopeopehgdccaaGreatT3
import Derived.Test.YtdopeopehgdccaaGreatT5
namespace Go.Proofs.YtdopeopehgdccaaGreat
open Go.RowKit
set_option linter.all false
set_option maxHeartbeats 2000000
attribute [local irreducible] Nop Yd Yp Ent Has Tr FnP FnP2 Src
variable {x l3 U5 r7 a2q : Int} {a : List (Int × List Int)} {s1 s2 s6 j5 : List Int} {m_a c_a m_b c_b m_s1 c_s1 m_s2 c_s2 y8 x9 x6 u8 : Nat} {a_a a_b a_s1 a_s2 y4 u9 : Option Addr}
theorem b0T {left : Int} : Tr Tryz.prog 10 [.slice a_a m_a c_a, .int .i64 left] (fun w L => Ro w L s9 [.slice a_a m_a c_a] a ∧ 0 ≤ left ∧ left ≤ 1048576) [] (κ := Unit) (fun k => True) (fun k => .int .i64 (szR (B9 (fun x => x.2.length) a) left)) (fun k => []) := by
 refine l0 Tryz.func10 rfl (n := 27) rfl (by decide +kernel) bl (fr := [(0, .slice a_a m_a c_a), (1, .int .i64 left)]) rfl fun w L hR => ?_
 obtain ⟨ha, as0, as1⟩ := hR
 obtain ⟨rfl, la⟩ := ha.slen
 refine Ew Z1 (Ei rfl (Ev Z5 (Em rfl (Em rfl (Ey rfl ((Y.len us_lFacts rfl).yd) (Ey rfl ((Y.sub rfl rfl om om).yd) (Ei rfl (Eu (Eq_ (Ew Z2 (Em rfl (Ey rfl ((Y.lss rfl rfl).yd) (o7 (fun q11 => ?_) (fun q11 => ?_))))))))))))))
 ·refine Eu (o5 rfl (Ew Z1 (Ei rfl ?_)))
  exact Eu (E.ret (l4 (Fg rfl rfl () (congrArg (Value.int .i64) (by exact a7Z q11)) rfl)))
 ·refine Eu (o4 rfl (i7 (Et (Eq_ (Ew Z1 (Ei rfl (Eu (E.block (E.loop (κ := Nat) (fun g => g ≤ a.length ∧ (a.length : Int) + (u5 (fun x => x.2.length) (a.take g) : Nat) ≤ left) (fun g => [(0, .slice a_a a.length c_a), (1, .int .i64 (left - ((a.length : Int) + (u5 (fun x => x.2.length) (a.take g) : Nat)))), (5, .int .i64 (g : Int))]) (fun g => []) (fun g => a.length - g) 0 ⟨by omega, by simp [u5]; omega⟩ ⟨rfl, frI (by simp [u5]), rfl, trivial⟩ (.refl _) (fun g pg => ?_))))))))))
  obtain ⟨pk, pa⟩ := pg
  refine Eq_ (Ew Z4 (Em rfl (Em rfl (Ey rfl ((Y.len us_lFacts rfl).yd) (Ey rfl ((Y.lss rfl rfl).yd) (o7 (fun q15 => ?_) (fun q15 => ?_)))))))
  ·refine Eu (o5 rfl (i7 (Et (Eq_ (E.block (Ew Z7 (Em rfl (Em rfl ?_))))))))
   obtain ⟨eb20, eo20, ec20, ea20, er20, el20, eh20⟩ := ha.elem g om
   obtain ⟨xa20_0, xc20_0, rfl, ei20_0, xh20_0⟩ := O2 er20
   have := xh20_0.slen.2
   refine Ey rfl ((s4 us_lFacts ty_lFact rfl ea20 rfl g rfl om).yd) (Ey rfl (r9 (cs := [_, _]) ty_lFact rfl (eh20 _) rfl) (Em rfl (Est rfl (n0 b2F rfl rfl rfl dc (fun w Lp hA => ⟨ei20_0, hA.ro xh20_0, (by first | assumption | omega), (by first | assumption | omega)⟩)) (fun _ _ => (Ei rfl (Ev Z2 (Em rfl (Ey rfl ((Y.lss rfl rfl).yd) (o7 (fun q25 => ?_) (fun q25 => ?_))))))))))
   ·have z25 := a0Q q25 om
    refine Eu (o5 rfl (Ew Z1 (Ei rfl ?_)))
    exact Eu (E.ret (w8 (l4 (l4 (w8 (l4 (Fg rfl rfl () (congrArg (Value.int .i64) (by exact a8f (t := (fun x => x.2.length)) (n := a[g].2.length) (show g < a.length by omega) rfl om)) rfl)))))))
   ·obtain ⟨z25, y25⟩ := a1Q q25 om
    refine Eu (o4 rfl (i7 (t8 (Et (Ez Z3 (Em rfl (Ey rfl ((Y.add rfl rfl om om).yd) (Ei rfl ?_))))))))
    exact Eu (w4 br (g + 1) ⟨rfl, frI (by rw [z25]; have y := N5 (t := (fun x => x.2.length)) (show g < a.length by omega); omega), rfl, trivial⟩ (.refl _) ⟨by omega, by have y := N5 (t := (fun x => x.2.length)) (show g < a.length by omega); omega⟩ om)
  ·refine Eu (o4 rfl (E.exit (o3 (o3 (w3 (Et (Ew Z2 (Em rfl (Ei rfl ?_)))))))))
   exact Eu (E.ret (Fg rfl rfl () (congrArg (Value.int .i64) (by exact a7W (t := (fun x => x.2.length)) (show a.length ≤ g by omega) pa)) rfl))
theorem a2B (hz : B9 (fun x => x.2.length) a ≤ 1048576) : Tr Tryz.prog 15 [.slice a_a m_a c_a] (fun w L => Ro w L s9 [.slice a_a m_a c_a] a) [] (κ := Option Addr × Nat × Nat) (fun k => True) (fun k => .slice k.1 k.2.1 k.2.2) (fun k => [ow s9 [.slice k.1 k.2.1 k.2.2] a]) := by
 refine l0 Tryz.func15 rfl (n := 23) rfl (by decide +kernel) bl (fr := [(0, .slice a_a m_a c_a)]) rfl fun w L hR => ?_
 have ha := hR
 obtain ⟨rfl, la⟩ := ha.slen
 have hlen : a.length ≤ B9 (fun x => x.2.length) a := by unfold B9; omega
 refine Ew Z1 (Ei rfl (Ev Z4 (Em rfl (Ey rfl ((Y.len us_lFacts rfl).yd) (Est rfl (a5U (m := a.length) us_Facts ty_Fact rfl rfl rfl mx om dc) (fun b7 _ => (s7 (A := [_]) (a3Z (E := F8) (e := tFact) (zx := (0, [])) (J9 (x := (0, [])) ⟨by decide, by decide⟩ Own.nil) mx) rfl (Ei rfl (Eu (Eq_ (Ew Z1 (Ei rfl (Eu (E.block (E.loop (κ := Nat) (fun g => g ≤ a.length) (fun g => [(0, .slice a_a a.length c_a), (3, .slice (some ⟨b7, 0, none⟩) a.length a.length), (4, .int .i64 (g : Int))]) (fun g => [ow s9 [.slice (some ⟨b7, 0, none⟩) a.length a.length] (a.take g ++ List.replicate (a.length - g) (0, []))]) (fun g => a.length - g) 0 (Nat.zero_le _) ⟨rfl, rfl, rfl, trivial⟩ (by simp) (fun g pg => (Eq_ (Ew Z4 (Em rfl (Em rfl (Ey rfl ((Y.len us_lFacts rfl).yd) (Ey rfl ((Y.lss rfl rfl).yd) (o7 (fun q11 => ?_) (fun q11 => ?_))))))))))))))))))))))))
 ·refine Eu (o5 rfl (i7 (Et (Eq_ (E.block (Ez Z9 (Em rfl (Em rfl (Em rfl (Em rfl ?_))))))))))
  obtain ⟨eb18, eo18, ec18, ea18, er18, el18, eh18⟩ := ha.elem g om
  obtain ⟨xa18_0, xc18_0, rfl, ei18_0, xh18_0⟩ := O2 er18
  have := xh18_0.slen.2
  refine Ey rfl ((s4 us_lFacts ty_lFact rfl ea18 rfl g rfl om).yd) (Ey rfl (r9 (cs := [_, _]) ty_lFact rfl (eh18 _) rfl) (Est rfl (N.call (b2u (by have y := a3G (t := (fun x => x.2.length)) (l := a) (g := g) om; omega)) rfl rfl rfl dc rfl (fun w Lp hA => ⟨ei18_0, hA.ro xh18_0⟩)) (fun k20 _ => ?_)))
  obtain ⟨a20, m20, c20⟩ := k20
  refine f5 m0 fun e20 l20 => ?_
  subst e20
  refine Ey rfl ((s4 us_Facts ty_Fact rfl rfl rfl g rfl om).yd) (f8 (Est rfl (N.set (E := F8) (j := g) (ex := a[g]) (ce := [_, _]) ty_Fact rfl rfl rfl rfl (J9 (x := a[g]) ei18_0 Own.ow) rfl (Nat.zero_add _) rfl (by simp; omega)) (fun _ _ => (En (t8 (Et (Ez Z3 (Em rfl (Ey rfl ((Y.add rfl rfl om om).yd) (Ei rfl ?_))))))))))
  exact Eu (w4 br (g + 1) rs (by rw [a4M om rfl]) om om)
 ·refine Eu (o4 rfl (E.exit (o3 (o3 (w3 (Et (Ew Z2 (Em rfl (Ei rfl (Eu (E.ret (i9 (congrArg (ow s9 [_]) (show _ = a by exact a3j om)) ?_))))))))))))
  exact Fg rfl rfl (_, _, _) rfl rfl
theorem b1e {b : List (Int × List Int)} : Tr Tryz.prog 21 [.slice a_a m_a c_a, .slice a_b m_b c_b] (fun w L => Ro w L s9 [.slice a_a m_a c_a] a ∧ Ro w L s9 [.slice a_b m_b c_b] b) [] (κ := Unit) (fun k => True) (fun k => .bool (decide (a = b))) (fun k => []) := by
 refine l0 Tryz.func21 rfl (n := 27) rfl (by decide +kernel) bl (fr := [(0, .slice a_a m_a c_a), (1, .slice a_b m_b c_b)]) rfl fun w L hR => ?_
 obtain ⟨ha, hb⟩ := hR
 obtain ⟨rfl, la⟩ := ha.slen
 obtain ⟨rfl, lb⟩ := hb.slen
 refine Ew Z1 (Ei rfl (Eu (Eq_ (Ew Z5 (Em rfl (Ey rfl ((Y.len us_Facts rfl).yd) (Em rfl (Ey rfl ((Y.len us_Facts rfl).yd) (Ey rfl ((Y.neq rfl rfl).yd) (o7 (fun q10 => ?_) (fun q10 => ?_)))))))))))
 ·refine Eu (o5 rfl (Ew Z1 (Ei rfl ?_)))
  exact Eu (E.ret (l4 (Fb rfl rfl (by exact a3d q10))))
 ·refine Eu (o4 rfl (i7 (Et (Eq_ (Ew Z1 (Ei rfl (Eu (E.block (E.loop (κ := Nat) (fun g => g ≤ a.length ∧ a.take g = b.take g) (fun g => [(0, .slice a_a a.length c_a), (1, .slice a_b b.length c_b), (5, .int .i64 (g : Int))]) (fun g => []) (fun g => a.length - g) 0 ⟨by omega, by simp⟩ ⟨rfl, rfl, rfl, trivial⟩ (.refl _) (fun g pg => ?_))))))))))
  obtain ⟨pk, pa⟩ := pg
  refine Eq_ (Ew Z4 (Em rfl (Em rfl (Ey rfl ((Y.len us_Facts rfl).yd) (Ey rfl ((Y.lss rfl rfl).yd) (o7 (fun q14 => ?_) (fun q14 => ?_)))))))
  ·refine Eu (o5 rfl (i7 (Et (Eq_ (E.block (Eq_ (D.region (fun j => true) mixed (Dyp 0 rfl (o0 rfl) (Dyp 1 rfl (o0 rfl) ?_)))))))))
   obtain ⟨eb19, eo19, ec19, ea19, er19, el19, eh19⟩ := ha.elem g om
   obtain ⟨xa19_0, xc19_0, rfl, ei19_0, xh19_0⟩ := O2 er19
   have := xh19_0.slen.2
   refine Dyp 2 rfl (s4 us_Facts ty_Fact rfl ea19 rfl g rfl om) (Dy 3 rfl (r9 (cs := [_, _]) ty_Fact rfl (eh19 _) rfl) (Dyp 4 rfl (o0 rfl) (Dyp 5 rfl (o0 rfl) ?_)))
   obtain ⟨eb23, eo23, ec23, ea23, er23, el23, eh23⟩ := hb.elem g om
   obtain ⟨xa23_0, xc23_0, rfl, ei23_0, xh23_0⟩ := O2 er23
   have := xh23_0.slen.2
   refine Dyp 6 rfl (s4 us_Facts ty_Fact rfl ea23 rfl g rfl om) (Dy 7 rfl (r9 (cs := [_, _]) ty_Fact rfl (eh23 _) rfl) (t6 8 rfl rfl kr (fun _ => rfl) (n0 b2B rfl rfl rfl dc (fun w Lp hA => ⟨ei19_0, hA.ro xh19_0, ei23_0, hA.ro xh23_0⟩)) (fun _ _ => (Ent.b (fun q25 => ?_) (fun q25 => ?_)))))
   ·refine Dyp 9 rfl (Y.not (b := true) rfl) (s3 kr (Et (o4 rfl (i7 (t8 (Et (Ez Z3 (Em rfl (Ey rfl ((Y.add rfl rfl om om).yd) (Ei rfl ?_))))))))))
    exact Eu (w4 br (g + 1) rs (.refl _) ⟨by omega, a1q om om pa (of_decide_eq_true q25)⟩ om)
   ·refine Dyp 9 rfl (Y.not (b := false) rfl) (s3 kr (Et (o5 rfl (Ew Z1 (Ei rfl ?_)))))
    exact Eu (E.ret (w8 (l4 (l4 (w8 (l4 (Fb rfl rfl (by exact a2U (show g < a.length by omega) (show g < b.length by omega) (of_decide_eq_false q25)))))))))
  ·refine Eu (o4 rfl (E.exit (o3 (o3 (w3 (Et (Ew Z1 (Ei rfl ?_))))))))
   exact Eu (E.ret (Fb rfl rfl (by exact a2v (show a.length ≤ g by omega) (show b.length ≤ g by omega) pa)))
theorem a5e : Tr Tryz.prog 289 [.int .i64 x] (fun w L => True) [] (κ := Unit) (fun k => True) (fun k => .bool (false)) (fun k => []) := by
 refine l0 Tryz.func289 rfl (n := 6) rfl (by decide +kernel) bl (fr := [(0, .int .i64 x)]) rfl fun w L hR => (Ew Z1 (Ei rfl (Ev Z4 (Em rfl (Em rfl (Ey rfl ((Y.neq rfl rfl).yd) (Ei rfl ?_)))))))
 exact Eu (E.ret (Fb rfl rfl (by simp)))
theorem a4y {y : Int} : Tr Tryz.prog 232 [.int .i64 x, .int .i64 y] (fun w L => True) [] (κ := Unit) (fun k => True) (fun k => .int .i64 (Q8 x y)) (fun k => []) := by
 refine l0 Tryz.func232 rfl (n := 20) rfl (by decide +kernel) bl (fr := [(0, .int .i64 x), (1, .int .i64 y)]) rfl fun w L hR => (Ew Z1 (Ei rfl (Ev Z3 (Em rfl (Est rfl (n0 a5e rfl rfl rfl dc tv) (fun _ _ => (Ei rfl (Ev Z3 (Em rfl (Est rfl (n0 a5e rfl rfl rfl dc tv) (fun _ _ => (Ei rfl (Eu (Eq_ (Ew Z1 (Em rfl (Eu (o4 rfl (i7 (Et (Eq_ (Ew Z1 (Em rfl (Eu (o4 rfl (i7 (Et (Eq_ (Ew Z3 (Em rfl (Em rfl (Ey rfl ((Y.lss rfl rfl).yd) (o7 (fun q16 => ?_) (fun q16 => ?_))))))))))))))))))))))))))))))))))
 ·refine Eu (o5 rfl (Ew Z1 (Ei rfl ?_)))
  exact Eu (E.ret (l4 (Fg rfl rfl () (congrArg (Value.int .i64) (by grind [Q8, d1, d2, t1, t2])) rfl)))
 ·refine Eu (o4 rfl (i7 (Et (Eq_ (Ew Z3 (Em rfl (Em rfl (Ey rfl ((Y.gtr rfl rfl).yd) (o7 (fun q19 => ?_) (fun q19 => ?_))))))))))
  ·refine Eu (o5 rfl (Ew Z1 (Ei rfl ?_)))
   exact Eu (E.ret (l4 (Fg rfl rfl () (congrArg (Value.int .i64) (by grind [Q8, d1, d2, t1, t2])) rfl)))
  ·refine Eu (o4 rfl (i7 (Et (Ew Z1 (Ei rfl ?_)))))
   exact Eu (E.ret (Fg rfl rfl () (congrArg (Value.int .i64) (by grind [Q8, d1, d2, t1, t2])) rfl))
theorem b3o {a_vals : Option Addr} {m_vals c_vals : Nat} {a3k : List Int} : Tr Tryz.prog 231 [.slice a_vals m_vals c_vals] (fun w L => Ro w L eIs [.slice a_vals m_vals c_vals] a3k) [] (κ := Unit) (fun k => True) (fun k => .int .i64 (orI a3k)) (fun k => []) := by
 refine l0 Tryz.func231 rfl (n := 18) rfl (by decide +kernel) bl (fr := [(0, .slice a_vals m_vals c_vals)]) rfl fun w L hR => ?_
 have hvals := hR
 obtain ⟨rfl, lvals⟩ := hvals.slen
 refine Ew Z1 (Ei rfl (Ev Z1 (Ei rfl (Eu (Eq_ (Ew Z3 (Em rfl (Ey rfl ((Y.len us_Is rfl).yd) (Em rfl (Eu (E.block (E.loop (κ := Nat) (fun g => g ≤ a3k.length ∧ orI a3k = orI (a3k.drop g)) (fun g => [(3, .int .i64 0), (6, .slice a_vals a3k.length c_vals), (7, .int .i64 (↑a3k.length : Int)), (8, .int .i64 (g : Int))]) (fun g => []) (fun g => a3k.length - g) 0 ⟨Nat.zero_le _, by simp⟩ ⟨rfl, rfl, rfl, rfl, trivial⟩ (.refl _) (fun g pg => ?_)))))))))))))
 obtain ⟨pk, pa⟩ := pg
 refine Ew Z1 (Ey rfl ((Y.lss rfl rfl).yd) (o7 (fun q9 => ?_) (fun q9 => ?_)))
 ·obtain ⟨eb10, eo10, ea10, ei10, eh10⟩ := hvals.elemI g om
  refine Eu (Eq_ (o5 rfl (i7 (Et (Eq_ (E.block (Ew Z3 (Ey rfl ((s4 us_Is i8 rfl ea10 rfl g rfl om).yd) (Ey rfl (g9 i8 rfl (eh10 _) rfl) (Ei rfl (Ev Z3 (Em rfl (Em rfl (Ey rfl ((Y.neq rfl rfl).yd) (o7 (fun q14 => ?_) (fun q14 => ?_))))))))))))))))
  ·refine Eu (o5 rfl (Ew Z2 (Em rfl (Ei rfl ?_))))
   exact Eu (E.ret (w8 (l4 (l4 (w8 (l4 (Fg rfl rfl () (congrArg (Value.int .i64) (by grind [orI, d1, d2, t1, t2])) rfl)))))))
  ·refine Eu (o4 rfl (i7 (t8 (Et (Ez Z2 (Ey rfl ((Y.add rfl rfl om om).yd) (Em rfl ?_)))))))
   exact Eu (w4 br (g + 1) rs (.refl _) ⟨by omega, by grind [orI, d1, d2, t1, t2]⟩ om)
 ·refine Eu (Eq_ (o4 rfl (E.exit (o3 (o3 (w3 (Et (Ew Z2 (Em rfl (Ei rfl ?_))))))))))
  exact Eu (E.ret (Fg rfl rfl () (congrArg (Value.int .i64) (by grind [orI, d1, d2, t1, t2])) rfl))
theorem a2h : Tr Tryz.prog 191 [.slice a_s1 m_s1 c_s1, .slice a_s2 m_s2 c_s2] (fun w L => Ro w L eIs [.slice a_s1 m_s1 c_s1] s1 ∧ Ro w L eIs [.slice a_s2 m_s2 c_s2] s2) [] (κ := Unit) (fun k => True) (fun k => .int .i64 (I1 s1 s2)) (fun k => []) := by
 refine l0 Tryz.func191 rfl (n := 36) rfl (by decide +kernel) bl (fr := [(0, .slice a_s1 m_s1 c_s1), (1, .slice a_s2 m_s2 c_s2)]) rfl fun w L hR => ?_
 obtain ⟨hs1, hs2⟩ := hR
 obtain ⟨rfl, ls1⟩ := hs1.slen
 obtain ⟨rfl, ls2⟩ := hs2.slen
 refine Ew Z1 (Ei rfl (Eu (Eq_ (Ew Z3 (Em rfl (Ey rfl ((Y.len us_Is rfl).yd) (Em rfl (Eu (E.block (E.loop (κ := Nat) (fun g => g ≤ s1.length ∧ I1 s1 s2 = I1 (s1.drop g) (s2.drop g)) (fun g => [(0, .slice a_s1 s1.length c_s1), (1, .slice a_s2 s2.length c_s2), (9, .slice a_s1 s1.length c_s1), (10, .int .i64 (↑s1.length : Int)), (11, .int .i64 (g : Int))]) (fun g => []) (fun g => s1.length - g) 0 ⟨Nat.zero_le _, by simp⟩ ⟨rfl, rfl, rfl, rfl, rfl, trivial⟩ (.refl _) (fun g pg => ?_)))))))))))
 obtain ⟨pk, pa⟩ := pg
 refine Ew Z1 (Ey rfl ((Y.lss rfl rfl).yd) (o7 (fun q12 => ?_) (fun q12 => ?_)))
 ·refine Eu (Eq_ (o5 rfl (i7 (Et (Eq_ (E.block (Ew Z5 (Em rfl ?_))))))))
  obtain ⟨eb14, eo14, ea14, ei14, eh14⟩ := hs1.elemI g om
  refine Ey rfl ((s4 us_Is i8 rfl ea14 rfl g rfl om).yd) (Ey rfl (g9 i8 rfl (eh14 _) rfl) (Ei rfl (Ei rfl (Eu (Eq_ (Ew Z4 (Em rfl (Em rfl (Ey rfl ((Y.len us_Is rfl).yd) (Ey rfl ((Y.geq rfl rfl).yd) (o7 (fun q19 => ?_) (fun q19 => ?_))))))))))))
  ·refine Eu (o5 rfl (Ew Z1 (Ei rfl ?_)))
   exact Eu (E.ret (l4 (w8 (l4 (l4 (w8 (l4 (Fg rfl rfl () (congrArg (Value.int .i64) (by grind [I1, d1, d2, t1, t2])) rfl))))))))
  ·refine Eu (o4 rfl (i7 (Et (Ew Z5 (Em rfl (Em rfl ?_))))))
   obtain ⟨eb22, eo22, ea22, ei22, eh22⟩ := hs2.elemI g om
   refine Ey rfl ((s4 us_Is i8 rfl ea22 rfl g rfl om).yd) (Ey rfl (g9 i8 rfl (eh22 _) rfl) (Ei rfl (Ev Z4 (Em rfl (Em rfl (Est rfl (n0 a4y rfl rfl rfl dc tv) (fun _ _ => (Ei rfl (Ev Z2 (Em rfl (Ey rfl ((Y.neq rfl rfl).yd) (o7 (fun q28 => ?_) (fun q28 => ?_)))))))))))))
   ·refine Eu (o5 rfl (Ew Z2 (Em rfl (Ei rfl ?_))))
    exact Eu (E.ret (w8 (l4 (l4 (w8 (l4 (Fg rfl rfl () (congrArg (Value.int .i64) (by grind [I1, d1, d2, t1, t2])) rfl)))))))
   ·refine Eu (o4 rfl (i7 (t8 (Et (Ez Z2 (Ey rfl ((Y.add rfl rfl om om).yd) (Em rfl ?_)))))))
    exact Eu (w4 br (g + 1) rs (.refl _) ⟨by omega, by grind [I1, d1, d2, t1, t2]⟩ om)
 ·refine Eu (Eq_ (o4 rfl (E.exit (o3 (o3 (w3 (Et (Eq_ (Ew Z5 (Em rfl (Ey rfl ((Y.len us_Is rfl).yd) (Em rfl (Ey rfl ((Y.len us_Is rfl).yd) (Ey rfl ((Y.lss rfl rfl).yd) (o7 (fun q35 => ?_) (fun q35 => ?_))))))))))))))))
  ·refine Eu (o5 rfl (Ew Z1 (Ei rfl ?_)))
   exact Eu (E.ret (l4 (Fg rfl rfl () (congrArg (Value.int .i64) (by grind [I1, d1, d2, t1, t2])) rfl)))
  ·refine Eu (o4 rfl (i7 (Et (Ew Z1 (Ei rfl ?_)))))
   exact Eu (E.ret (Fg rfl rfl () (congrArg (Value.int .i64) (by grind [I1, d1, d2, t1, t2])) rfl))
theorem a1W : Tr Tryz.prog 156 [.agg #[.int .i64 l3, .slice y4 y8 x9], .agg #[.int .i64 U5, .slice u9 x6 u8]] (fun w L => I64 l3 ∧ Ro w L eIs [.slice y4 y8 x9] s6 ∧ I64 U5 ∧ Ro w L eIs [.slice u9 x6 u8] j5) [] (κ := Unit) (fun k => True) (fun k => .int .i64 (P7 (l3, s6) (U5, j5))) (fun k => []) := by
 refine l0 Tryz.func156 rfl (n := 17) rfl (by decide +kernel) bl (fr := [(0, .agg #[.int .i64 l3, .slice y4 y8 x9]), (1, .agg #[.int .i64 U5, .slice u9 x6 u8])]) rfl fun w L hR => ?_
 obtain ⟨I0, C5, a8m, y5⟩ := hR
 obtain ⟨rfl, R9⟩ := C5.slen
 obtain ⟨rfl, O5⟩ := y5.slen
 refine Ew Z3 (Est rfl (N.box (cs := [_, _]) rfl dc rfl) (fun b2 _ => (Est rfl (N.box (cs := [_, _]) rfl dc rfl) (fun b3 _ => (Ei rfl (Eu (Eq_ (D.region (fun j => true) mixed (Dyp 0 rfl (j6 fo_Fact_0 i8 dc rfl) (Dy 1 rfl (g9 i8 rfl (Hz (mS m0) 0 rfl) rfl) (Dyp 2 rfl (j6 fo_Fact_0 i8 dc rfl) (Dy 3 rfl (g9 i8 rfl (Hz m0 0 rfl) rfl) (Dyp 5 rfl (j6 fo_Fact_1 ty_Is dc rfl) (Dy 6 rfl (g9 ty_Is rfl (Hz (mS m0) 1 rfl) rfl) (Dyp 7 rfl (j6 fo_Fact_1 ty_Is dc rfl) (Dy 8 rfl (g9 ty_Is rfl (Hz m0 1 rfl) rfl) ?_))))))))))))))))
 have j1 := @b3x l3 U5
 refine t6 4 rfl rfl kr (fun _ => rfl) (n0 a4y rfl rfl rfl dc tv) (fun _ _ => ?_)
 have j2 := @b3n s6 j5
 refine t6 9 rfl rfl kr (fun _ => rfl) (n0 a2h rfl rfl rfl dc (fun w Lp hA => ⟨hA.ro C5, hA.ro y5⟩)) (fun _ _ => (t6 10 rfl rfl kr (fun _ => rfl) (Nb [_, _] [_, _] us_Is i8 rfl rfl) (fun b15 _ => (s7 (A := [_]) (Own.ints (e := tI) (xs := [Q8 l3 U5, I1 s6 j5]) rfl (by simp [maxLen]) (by simp only [List.forall_mem_cons]; exact ⟨i6, i6, List.forall_mem_nil _⟩)) rfl (t6 11 rfl rfl kr (fun _ => rfl) (n0 b3o rfl rfl rfl dc (fun w Lp hA => hA.ow m0)) (fun _ _ => (Dyp 12 rfl (F0 rfl) ?_)))))))
 exact s3 kr (Et (E.ret (Fg rfl rfl () (congrArg (Value.int .i64) (by grind [P7, orI, d1, d2, t1, t2])) rfl)))
theorem a0J : Tr Tryz.prog 140 [.agg #[.int .i64 l3, .slice y4 y8 x9], .agg #[.int .i64 U5, .slice u9 x6 u8]] (fun w L => I64 l3 ∧ Ro w L eIs [.slice y4 y8 x9] s6 ∧ I64 U5 ∧ Ro w L eIs [.slice u9 x6 u8] j5) [] (κ := Unit) (fun k => True) (fun k => .int .i64 (P7 (l3, s6) (U5, j5))) (fun k => []) := by
 refine l0 Tryz.func140 rfl (n := 66) rfl (by decide +kernel) bl (fr := [(0, .agg #[.int .i64 l3, .slice y4 y8 x9]), (1, .agg #[.int .i64 U5, .slice u9 x6 u8])]) rfl fun w L hR => ?_
 obtain ⟨I0, C5, a8m, y5⟩ := hR
 obtain ⟨rfl, R9⟩ := C5.slen
 obtain ⟨rfl, O5⟩ := y5.slen
 refine Ew Z3 (Est rfl (N.box (cs := [_, _]) rfl dc rfl) (fun b2 _ => (Est rfl (N.box (cs := [_, _]) rfl dc rfl) (fun b3 _ => (Ei rfl (Eu (Eq_ (Ew Z5 (Ey rfl ((j6 fo_Fact_0 i8 dc rfl).yd) (Ey rfl (g9 i8 rfl (Hz (mS m0) 0 rfl) rfl) (Ey rfl ((j6 fo_Fact_0 i8 dc rfl).yd) (Ey rfl (g9 i8 rfl (Hz m0 0 rfl) rfl) (Ey rfl ((Y.neq rfl rfl).yd) (o7 (fun q10 => ?_) (fun q10 => ?_)))))))))))))))
 ·refine Eu (o5 rfl (Eq_ (Ew Z5 (Ey rfl ((j6 fo_Fact_0 i8 dc rfl).yd) (Ey rfl (g9 i8 rfl (Hz (mS m0) 0 rfl) rfl) (Ey rfl ((j6 fo_Fact_0 i8 dc rfl).yd) (Ey rfl (g9 i8 rfl (Hz m0 0 rfl) rfl) (Ey rfl ((Y.lss rfl rfl).yd) (o7 (fun q15 => ?_) (fun q15 => ?_))))))))))
  ·refine Eu (o5 rfl (Ew Z1 (Ei rfl ?_)))
   exact Eu (E.ret (l4 (l4 (Fg rfl rfl () (congrArg (Value.int .i64) (by grind [P7, Q8, I1, d1, d2, t1, t2])) rfl))))
  ·refine Eu (o4 rfl (i7 (Et (Ew Z1 (Ei rfl ?_)))))
   exact Eu (E.ret (l4 (Fg rfl rfl () (congrArg (Value.int .i64) (by grind [P7, Q8, I1, d1, d2, t1, t2])) rfl)))
 ·refine Eu (o4 rfl (i7 (Et (Eq_ (Ew Z1 (Ei rfl (Eu (E.block (E.loop (κ := Nat) (fun g => g ≤ s6.length ∧ g ≤ j5.length ∧ I1 s6 j5 = I1 (s6.drop g) (j5.drop g)) (fun g => [(2, .pointer (some ⟨b2, 0, none⟩)), (3, .pointer (some ⟨b3, 0, none⟩)), (5, .int .i64 (g : Int))]) (fun g => [pt b3 115 [.int .i64 U5, .slice u9 j5.length u8], pt b2 115 [.int .i64 l3, .slice y4 s6.length x9]]) (fun g => s6.length - g) 0 ⟨Nat.zero_le _, by simp⟩ ⟨rfl, rfl, rfl, trivial⟩ (.refl _) (fun g pg => ?_))))))))))
  obtain ⟨pk, pa⟩ := pg
  refine Eq_ (Ew Z12 (Em rfl (Ey rfl ((j6 fo_Fact_1 ty_Is dc rfl).yd) (Ey rfl (g9 ty_Is rfl (Hz (mS m0) 1 rfl) rfl) (Ey rfl ((Y.len us_Is rfl).yd) (Ey rfl ((Y.lss rfl rfl).yd) (o7 (fun q20 => ?_) (fun q20 => ?_))))))))
  ·refine Em rfl (Em rfl (Ey rfl ((j6 fo_Fact_1 ty_Is dc rfl).yd) (Ey rfl (g9 ty_Is rfl (Hz m0 1 rfl) rfl) (Ey rfl ((Y.len us_Is rfl).yd) (Ey rfl ((Y.lss rfl rfl).yd) (o7 (fun q26 => ?_) (fun q26 => ?_)))))))
   ·refine Ey rfl ((w5 rfl rfl).yd) (Eu (o5 rfl (i7 (Et (Eq_ (E.block (Eq_ (Eq_ (D.region (fun j => true) mixed (Dyp 0 rfl (j6 fo_Fact_1 ty_Is dc rfl) (Dy 1 rfl (g9 ty_Is rfl (Hz (mS m0) 1 rfl) rfl) (Dyp 2 rfl (o0 rfl) ?_))))))))))))
    obtain ⟨eb33, eo33, ea33, ei33, eh33⟩ := C5.elemI g om
    refine Dyp 3 rfl (s4 us_Is i8 rfl ea33 rfl g rfl om) (Dy 4 rfl (g9 i8 rfl (eh33 _) rfl) (Dyp 5 rfl (j6 fo_Fact_1 ty_Is dc rfl) (Dy 6 rfl (g9 ty_Is rfl (Hz m0 1 rfl) rfl) (Dyp 7 rfl (o0 rfl) ?_))))
    obtain ⟨eb38, eo38, ea38, ei38, eh38⟩ := y5.elemI g om
    refine Dyp 8 rfl (s4 us_Is i8 rfl ea38 rfl g rfl om) (Dy 9 rfl (g9 i8 rfl (eh38 _) rfl) (Dyp 10 rfl (Y.lss rfl rfl) (o7 (fun q40 => ?_) (fun q40 => ?_))))
    ·refine s3 kr (Et (o5 rfl (Ew Z1 (Ei rfl ?_))))
     exact Eu (E.ret (l4 (w8 (l4 (l4 (w8 (l4 (Fg rfl rfl () (congrArg (Value.int .i64) (by grind [P7, Q8, I1, d1, d2, t1, t2])) rfl))))))))
    ·refine s3 kr (Et (o4 rfl (i7 (Et (Eq_ (D.region (fun j => true) mixed (Dyp 0 rfl (j6 fo_Fact_1 ty_Is dc rfl) (Dy 1 rfl (g9 ty_Is rfl (Hz (mS m0) 1 rfl) rfl) (Dyp 2 rfl (o0 rfl) (Dyp 3 rfl (s4 us_Is i8 rfl ea33 rfl g rfl om) (Dy 4 rfl (g9 i8 rfl (eh33 _) rfl) (Dyp 5 rfl (j6 fo_Fact_1 ty_Is dc rfl) (Dy 6 rfl (g9 ty_Is rfl (Hz m0 1 rfl) rfl) (Dyp 7 rfl (o0 rfl) (Dyp 8 rfl (s4 us_Is i8 rfl ea38 rfl g rfl om) (Dy 9 rfl (g9 i8 rfl (eh38 _) rfl) (Dyp 10 rfl (Y.gtr rfl rfl) (o7 (fun q51 => ?_) (fun q51 => ?_)))))))))))))))))))
     ·refine s3 kr (Et (o5 rfl (Ew Z1 (Ei rfl ?_))))
      exact Eu (E.ret (w8 (l4 (l4 (w8 (l4 (Fg rfl rfl () (congrArg (Value.int .i64) (by grind [P7, Q8, I1, d1, d2, t1, t2])) rfl)))))))
     ·refine s3 kr (Et (o4 rfl (i7 (t8 (Et (Ez Z3 (Em rfl (Ey rfl ((Y.add rfl rfl om om).yd) (Ei rfl (Eu (f8 (f8 ?_))))))))))))
      exact w4 br (g + 1) rs (.refl _) ⟨by omega, by grind [I1, Q8, d1, d2, t1, t2]⟩ om
   ·refine Ey rfl ((w5 rfl rfl).yd) (Eu (o4 rfl (E.exit (o3 (o3 (w3 (Et (Eq_ (Ew Z7 (Ey rfl ((j6 fo_Fact_1 ty_Is dc rfl).yd) (Ey rfl (g9 ty_Is rfl (Hz (mS m0) 1 rfl) rfl) (Ey rfl ((Y.len us_Is rfl).yd) (Ey rfl ((j6 fo_Fact_1 ty_Is dc rfl).yd) (Ey rfl (g9 ty_Is rfl (Hz m0 1 rfl) rfl) (Ey rfl ((Y.len us_Is rfl).yd) (Ey rfl ((Y.lss rfl rfl).yd) (o7 (fun q58 => ?_) (fun q58 => ?_))))))))))))))))))
    ·refine Eu (o5 rfl (Ew Z1 (Ei rfl ?_)))
     exact Eu (E.ret (l4 (Fg rfl rfl () (congrArg (Value.int .i64) (by grind [P7, Q8, I1, d1, d2, t1, t2])) rfl)))
    ·refine Eu (o4 rfl (i7 (Et (Eq_ (Ew Z7 (Ey rfl ((j6 fo_Fact_1 ty_Is dc rfl).yd) (Ey rfl (g9 ty_Is rfl (Hz (mS m0) 1 rfl) rfl) (Ey rfl ((Y.len us_Is rfl).yd) (Ey rfl ((j6 fo_Fact_1 ty_Is dc rfl).yd) (Ey rfl (g9 ty_Is rfl (Hz m0 1 rfl) rfl) (Ey rfl ((Y.len us_Is rfl).yd) (Ey rfl ((Y.gtr rfl rfl).yd) (o7 (fun q65 => ?_) (fun q65 => ?_))))))))))))))
     ·refine Eu (o5 rfl (Ew Z1 (Ei rfl ?_)))
      exact Eu (E.ret (l4 (Fg rfl rfl () (congrArg (Value.int .i64) (by grind [P7, Q8, I1, d1, d2, t1, t2])) rfl)))
     ·refine Eu (o4 rfl (i7 (Et (Ew Z1 (Ei rfl ?_)))))
      exact Eu (E.ret (Fg rfl rfl () (congrArg (Value.int .i64) (by grind [P7, Q8, I1, d1, d2, t1, t2])) rfl))
  ·refine Em rfl (Es rfl (Es rfl (Es rfl (Es rfl (Es rfl (Ey rfl ((v8 rfl rfl).yd) (Eu (o4 rfl (E.exit (o3 (o3 (w3 (Et (Eq_ (Ew Z7 (Ey rfl ((j6 fo_Fact_1 ty_Is dc rfl).yd) (Ey rfl (g9 ty_Is rfl (Hz (mS m0) 1 rfl) rfl) (Ey rfl ((Y.len us_Is rfl).yd) (Ey rfl ((j6 fo_Fact_1 ty_Is dc rfl).yd) (Ey rfl (g9 ty_Is rfl (Hz m0 1 rfl) rfl) (Ey rfl ((Y.len us_Is rfl).yd) (Ey rfl ((Y.lss rfl rfl).yd) (o7 (fun q58 => ?_) (fun q58 => ?_))))))))))))))))))))))))
   ·refine Eu (o5 rfl (Ew Z1 (Ei rfl ?_)))
    exact Eu (E.ret (l4 (Fg rfl rfl () (congrArg (Value.int .i64) (by grind [P7, Q8, I1, d1, d2, t1, t2])) rfl)))
   ·refine Eu (o4 rfl (i7 (Et (Eq_ (Ew Z7 (Ey rfl ((j6 fo_Fact_1 ty_Is dc rfl).yd) (Ey rfl (g9 ty_Is rfl (Hz (mS m0) 1 rfl) rfl) (Ey rfl ((Y.len us_Is rfl).yd) (Ey rfl ((j6 fo_Fact_1 ty_Is dc rfl).yd) (Ey rfl (g9 ty_Is rfl (Hz m0 1 rfl) rfl) (Ey rfl ((Y.len us_Is rfl).yd) (Ey rfl ((Y.gtr rfl rfl).yd) (o7 (fun q65 => ?_) (fun q65 => ?_))))))))))))))
    ·refine Eu (o5 rfl (Ew Z1 (Ei rfl ?_)))
     exact Eu (E.ret (l4 (Fg rfl rfl () (congrArg (Value.int .i64) (by grind [P7, Q8, I1, d1, d2, t1, t2])) rfl)))
    ·refine Eu (o4 rfl (i7 (Et (Ew Z1 (Ei rfl ?_)))))
     exact Eu (E.ret (Fg rfl rfl () (congrArg (Value.int .i64) (by grind [P7, Q8, I1, d1, d2, t1, t2])) rfl))
theorem a1f : Tr Tryz.prog 268 [.slice a_s1 m_s1 c_s1, .slice a_s2 m_s2 c_s2] (fun w L => Ro w L eIs [.slice a_s1 m_s1 c_s1] s1 ∧ Ro w L eIs [.slice a_s2 m_s2 c_s2] s2) [] (κ := Unit) (fun k => True) (fun k => .bool (decide (s1 = s2))) (fun k => []) := by
 refine l0 Tryz.func268 rfl (n := 26) rfl (by decide +kernel) bl (fr := [(0, .slice a_s1 m_s1 c_s1), (1, .slice a_s2 m_s2 c_s2)]) rfl fun w L hR => ?_
 obtain ⟨hs1, hs2⟩ := hR
 obtain ⟨rfl, ls1⟩ := hs1.slen
 obtain ⟨rfl, ls2⟩ := hs2.slen
 refine Ew Z1 (Ei rfl (Eu (Eq_ (Ew Z5 (Em rfl (Ey rfl ((Y.len us_Is rfl).yd) (Em rfl (Ey rfl ((Y.len us_Is rfl).yd) (Ey rfl ((Y.neq rfl rfl).yd) (o7 (fun q10 => ?_) (fun q10 => ?_)))))))))))
 ·refine Eu (o5 rfl (Ew Z1 (Ei rfl ?_)))
  exact Eu (E.ret (l4 (Fb rfl rfl (by grind [d1, d2, t1, t2]))))
 ·refine Eu (o4 rfl (i7 (Et (Eq_ (Ew Z3 (Em rfl (Ey rfl ((Y.len us_Is rfl).yd) (Em rfl (Eu (E.block (E.loop (κ := Nat) (fun g => g ≤ s1.length ∧ s1.length = s2.length ∧ (s1 = s2 ↔ s1.drop g = s2.drop g)) (fun g => [(0, .slice a_s1 s1.length c_s1), (1, .slice a_s2 s2.length c_s2), (12, .int .i64 (↑s1.length : Int)), (13, .int .i64 (g : Int))]) (fun g => []) (fun g => s1.length - g) 0 ⟨Nat.zero_le _, by exact ⟨by omega, by simp⟩⟩ ⟨rfl, rfl, rfl, rfl, trivial⟩ (.refl _) (fun g pg => ?_))))))))))))
  obtain ⟨pk, pa⟩ := pg
  refine Ew Z1 (Ey rfl ((Y.lss rfl rfl).yd) (o7 (fun q14 => ?_) (fun q14 => ?_)))
  ·refine Eu (Eq_ (o5 rfl (i7 (Et (Eq_ (E.block (Ew Z2 (Em rfl (Ei rfl (Eu (Eq_ (D.region (fun j => true) mixed (Dyp 0 rfl (o0 rfl) (Dyp 1 rfl (o0 rfl) ?_))))))))))))))
   obtain ⟨eb18, eo18, ea18, ei18, eh18⟩ := hs1.elemI g om
   refine Dyp 2 rfl (s4 us_Is i8 rfl ea18 rfl g rfl om) (Dy 3 rfl (g9 i8 rfl (eh18 _) rfl) (Dyp 4 rfl (o0 rfl) (Dyp 5 rfl (o0 rfl) ?_)))
   obtain ⟨eb22, eo22, ea22, ei22, eh22⟩ := hs2.elemI g om
   refine Dyp 6 rfl (s4 us_Is i8 rfl ea22 rfl g rfl om) (Dy 7 rfl (g9 i8 rfl (eh22 _) rfl) (Dyp 8 rfl (Y.neq rfl rfl) (o7 (fun q24 => ?_) (fun q24 => ?_))))
   ·refine s3 kr (Et (o5 rfl (Ew Z1 (Ei rfl ?_))))
    exact Eu (E.ret (w8 (l4 (l4 (w8 (l4 (Fb rfl rfl (by grind [d1, d2, t1, t2]))))))))
   ·refine s3 kr (Et (o4 rfl (i7 (t8 (Et (Ez Z2 (Ey rfl ((Y.add rfl rfl om om).yd) (Em rfl ?_))))))))
    exact Eu (w4 br (g + 1) rs (.refl _) ⟨by omega, by grind [d1, d2, t1, t2]⟩ om)
  ·refine Eu (Eq_ (o4 rfl (E.exit (o3 (o3 (w3 (Et (Ew Z1 (Ei rfl ?_)))))))))
   exact Eu (E.ret (Fb rfl rfl (by grind [d1, d2, t1, t2])))
theorem a4u {a : List Int} {b : List Int} : Tr Tryz.prog 145 [.slice a_a m_a c_a, .slice a_b m_b c_b] (fun w L => Ro w L eIs [.slice a_a m_a c_a] a ∧ Ro w L eIs [.slice a_b m_b c_b] b) [] (κ := Unit) (fun k => True) (fun k => .bool (decide (a = b))) (fun k => []) := by
 refine l0 Tryz.func145 rfl (n := 26) rfl (by decide +kernel) bl (fr := [(0, .slice a_a m_a c_a), (1, .slice a_b m_b c_b)]) rfl fun w L hR => ?_
 obtain ⟨ha, hb⟩ := hR
 obtain ⟨rfl, la⟩ := ha.slen
 obtain ⟨rfl, lb⟩ := hb.slen
 refine Ew Z1 (Ei rfl (Eu (Eq_ (Ew Z5 (Em rfl (Ey rfl ((Y.len us_Is rfl).yd) (Em rfl (Ey rfl ((Y.len us_Is rfl).yd) (Ey rfl ((Y.neq rfl rfl).yd) (o7 (fun q10 => ?_) (fun q10 => ?_)))))))))))
 ·refine Eu (o5 rfl (Ew Z1 (Ei rfl ?_)))
  exact Eu (E.ret (l4 (Fb rfl rfl (by grind [d1, d2, t1, t2]))))
 ·refine Eu (o4 rfl (i7 (Et (Eq_ (Ew Z1 (Ei rfl (Eu (E.block (E.loop (κ := Nat) (fun g => g ≤ a.length ∧ a.length = b.length ∧ (a = b ↔ a.drop g = b.drop g)) (fun g => [(0, .slice a_a a.length c_a), (1, .slice a_b b.length c_b), (5, .int .i64 (g : Int))]) (fun g => []) (fun g => a.length - g) 0 ⟨Nat.zero_le _, by exact ⟨by omega, by simp⟩⟩ ⟨rfl, rfl, rfl, trivial⟩ (.refl _) (fun g pg => ?_))))))))))
  obtain ⟨pk, pa⟩ := pg
  refine Eq_ (Ew Z4 (Em rfl (Em rfl (Ey rfl ((Y.len us_Is rfl).yd) (Ey rfl ((Y.lss rfl rfl).yd) (o7 (fun q14 => ?_) (fun q14 => ?_)))))))
  ·refine Eu (o5 rfl (i7 (Et (Eq_ (E.block (Eq_ (D.region (fun j => true) mixed (Dyp 0 rfl (o0 rfl) (Dyp 1 rfl (o0 rfl) ?_)))))))))
   obtain ⟨eb19, eo19, ea19, ei19, eh19⟩ := ha.elemI g om
   refine Dyp 2 rfl (s4 us_Is i8 rfl ea19 rfl g rfl om) (Dy 3 rfl (g9 i8 rfl (eh19 _) rfl) (Dyp 4 rfl (o0 rfl) (Dyp 5 rfl (o0 rfl) ?_)))
   obtain ⟨eb23, eo23, ea23, ei23, eh23⟩ := hb.elemI g om
   refine Dyp 6 rfl (s4 us_Is i8 rfl ea23 rfl g rfl om) (Dy 7 rfl (g9 i8 rfl (eh23 _) rfl) (Dyp 8 rfl (Y.neq rfl rfl) (o7 (fun q25 => ?_) (fun q25 => ?_))))
   ·refine s3 kr (Et (o5 rfl (Ew Z1 (Ei rfl ?_))))
    exact Eu (E.ret (w8 (l4 (l4 (w8 (l4 (Fb rfl rfl (by grind [d1, d2, t1, t2]))))))))
   ·refine s3 kr (Et (o4 rfl (i7 (t8 (Et (Ez Z3 (Em rfl (Ey rfl ((Y.add rfl rfl om om).yd) (Ei rfl ?_)))))))))
    exact Eu (w4 br (g + 1) rs (.refl _) ⟨by omega, by grind [d1, d2, t1, t2]⟩ om)
  ·refine Eu (o4 rfl (E.exit (o3 (o3 (w3 (Et (Ew Z1 (Ei rfl ?_))))))))
   exact Eu (E.ret (Fb rfl rfl (by grind [d1, d2, t1, t2])))
theorem a8x : Tr Tryz.prog 212 [.agg #[.int .i64 r7, .slice y4 y8 x9], .agg #[.int .i64 a2q, .slice u9 x6 u8]] (fun w L => (I64 r7 ∧ Ro w L eIs [.slice y4 y8 x9] s6 ∧ I64 a2q ∧ Ro w L eIs [.slice u9 x6 u8] j5) ∧ True) [] (κ := Unit) (fun k => True) (fun k => .bool (decide ((r7, s6) = (a2q, j5)))) (fun k => []) := by
 refine l0 Tryz.func212 rfl (n := 17) rfl (by decide +kernel) bl (fr := [(0, .agg #[.int .i64 r7, .slice y4 y8 x9]), (1, .agg #[.int .i64 a2q, .slice u9 x6 u8])]) rfl fun w L hR => ?_
 obtain ⟨⟨N8, C5, b5U, y5⟩, _⟩ := hR
 obtain ⟨rfl, R9⟩ := C5.slen
 obtain ⟨rfl, O5⟩ := y5.slen
 refine Ew Z3 (Est rfl (N.box (cs := [_, _]) rfl dc rfl) (fun b2 _ => (Est rfl (N.box (cs := [_, _]) rfl dc rfl) (fun b3 _ => (Ei rfl (Ev Z13 (Ey rfl ((j6 fo_Access_0 i8 dc rfl).yd) (Ey rfl (g9 i8 rfl (Hz (mS m0) 0 rfl) rfl) (Ey rfl ((j6 fo_Access_0 i8 dc rfl).yd) (Ey rfl (g9 i8 rfl (Hz m0 0 rfl) rfl) (Ey rfl ((Y.eql rfl rfl).yd) (o7 (fun q9 => ?_) (fun q9 => ?_)))))))))))))
 ·refine Em rfl (Ey rfl ((j6 fo_Access_1 ty_Is dc rfl).yd) (Ey rfl (g9 ty_Is rfl (Hz (mS m0) 1 rfl) rfl) (Ey rfl ((j6 fo_Access_1 ty_Is dc rfl).yd) (Ey rfl (g9 ty_Is rfl (Hz m0 1 rfl) rfl) (Est rfl (n0 a1f rfl rfl rfl dc (fun w Lp hA => ⟨hA.ro C5, hA.ro y5⟩)) (fun _ _ => (Ey rfl ((w5 rfl rfl).yd) (Ei rfl ?_))))))))
  exact Eu (E.ret (Fb rfl rfl (by grind [d1, d2, t1, t2])))
 ·refine Em rfl (Es rfl (Es rfl (Es rfl (Es rfl (Es rfl (Ey rfl ((v8 rfl rfl).yd) (Ei rfl ?_)))))))
  exact Eu (E.ret (Fb rfl rfl (by grind [d1, d2, t1, t2])))
theorem b2C : Tr Tryz.prog 173 [.agg #[.int .i64 r7, .slice y4 y8 x9], .agg #[.int .i64 a2q, .slice u9 x6 u8]] (fun w L => I64 r7 ∧ Ro w L eIs [.slice y4 y8 x9] s6 ∧ I64 a2q ∧ Ro w L eIs [.slice u9 x6 u8] j5) [] (κ := Unit) (fun k => True) (fun k => .bool (decide ((r7, s6) = (a2q, j5)))) (fun k => []) := by
 refine l0 Tryz.func173 rfl (n := 17) rfl (by decide +kernel) bl (fr := [(0, .agg #[.int .i64 r7, .slice y4 y8 x9]), (1, .agg #[.int .i64 a2q, .slice u9 x6 u8])]) rfl fun w L hR => ?_
 obtain ⟨N8, C5, b5U, y5⟩ := hR
 obtain ⟨rfl, R9⟩ := C5.slen
 obtain ⟨rfl, O5⟩ := y5.slen
 refine Ew Z3 (Est rfl (N.box (cs := [_, _]) rfl dc rfl) (fun b2 _ => (Est rfl (N.box (cs := [_, _]) rfl dc rfl) (fun b3 _ => (Ei rfl (Ev Z13 (Ey rfl ((j6 fo_Access_0 i8 dc rfl).yd) (Ey rfl (g9 i8 rfl (Hz (mS m0) 0 rfl) rfl) (Ey rfl ((j6 fo_Access_0 i8 dc rfl).yd) (Ey rfl (g9 i8 rfl (Hz m0 0 rfl) rfl) (Ey rfl ((Y.eql rfl rfl).yd) (o7 (fun q9 => ?_) (fun q9 => ?_)))))))))))))
 ·refine Em rfl (Ey rfl ((j6 fo_Access_1 ty_Is dc rfl).yd) (Ey rfl (g9 ty_Is rfl (Hz (mS m0) 1 rfl) rfl) (Ey rfl ((j6 fo_Access_1 ty_Is dc rfl).yd) (Ey rfl (g9 ty_Is rfl (Hz m0 1 rfl) rfl) (Est rfl (n0 a4u rfl rfl rfl dc (fun w Lp hA => ⟨hA.ro C5, hA.ro y5⟩)) (fun _ _ => (Ey rfl ((w5 rfl rfl).yd) (Ei rfl ?_))))))))
  exact Eu (E.ret (Fb rfl rfl (by grind [d1, d2, t1, t2])))
 ·refine Em rfl (Es rfl (Es rfl (Es rfl (Es rfl (Es rfl (Ey rfl ((v8 rfl rfl).yd) (Ei rfl ?_)))))))
  exact Eu (E.ret (Fb rfl rfl (by grind [d1, d2, t1, t2])))
end Go.Proofs.YtdopeopehgdccaaGreat
