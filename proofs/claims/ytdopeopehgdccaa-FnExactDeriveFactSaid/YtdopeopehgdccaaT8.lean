import Derived.Test.YtdopeopehgdccaaBs
import Derived.Test.YtdopeopehgdccaaT1
import Derived.Test.YtdopeopehgdccaaBc
import Derived.Test.YtdopeopehgdccaaT5
import Derived.Test.YtdopeopehgdccaaBd
namespace Go.Proofs.Ytdopeopehgdccaa
open Go.RowKit
set_option linter.all false
set_option maxHeartbeats 2000000
attribute [local irreducible] Nop Yd Yp Ent Has Tr FnP FnP2 Src
variable {x l4 v4 : Int} {a : List (Int × List Int)} {i7 o9 : List Int} {m_a c_a j3 i9 r5 n9 : Nat} {a_a i8 n8 : Option Addr}
theorem U4 {left : Int} : Tr Try.prog 5 [.slice a_a m_a c_a, .int .i64 left] (fun w L => Ro w L j4 [.slice a_a m_a c_a] a ∧ 0 ≤ left ∧ left ≤ 1048576) [] (κ := Unit) (fun k => True) (fun k => .int .i64 (szR (x4 (fun x => x.2.length) a) left)) (fun k => []) := by
 refine Tr.intro Try.func5 rfl (n := 27) rfl (by decide +kernel) bl (fr := [(0, .slice a_a m_a c_a), (1, .int .i64 left)]) rfl fun w L hR => ?_
 obtain ⟨ha, as0, as1⟩ := hR
 obtain ⟨rfl, la⟩ := ha.slen
 refine Ew Z1 (Eas rfl rfl (Ev Z5 (Emv rfl rfl (Emv rfl rfl (Ey rfl ((Y.len us_lFacts rfl).yd) (Ey rfl ((Y.sub rfl rfl om om).yd) (Eas rfl rfl (Eu (Eq_ (Ew Z2 (Emv rfl rfl (Ey rfl ((Y.lss rfl rfl).yd) (Ent.d (fun q11 => ?_) (fun q11 => ?_))))))))))))))
 ·refine Eu (E.ct rfl (Ew Z1 (Eas rfl rfl ?_)))
  exact Eu (E.ret (E.thr (Fg rfl rfl () (congrArg (Value.int .i64) (by exact a0G q11)) rfl)))
 ·refine Eu (E.cf rfl (E.skipc (Et (Eq_ (Ew Z1 (Eas rfl rfl (Eu (E.block (E.loop (κ := Nat) (fun g => g ≤ a.length ∧ (a.length : Int) + (c7 (fun x => x.2.length) (a.take g) : Nat) ≤ left) (fun g => [(0, .slice a_a a.length c_a), (1, .int .i64 (left - ((a.length : Int) + (c7 (fun x => x.2.length) (a.take g) : Nat)))), (5, .int .i64 (g : Int))]) (fun g => []) (fun g => a.length - g) 0 ⟨by omega, by simp [c7]; omega⟩ ⟨rfl, frI (by simp [c7]), rfl, trivial⟩ (.refl _) (fun g pg => ?_))))))))))
  obtain ⟨pk, pa⟩ := pg
  refine Eq_ (Ew Z4 (Emv rfl rfl (Emv rfl rfl (Ey rfl ((Y.len us_lFacts rfl).yd) (Ey rfl ((Y.lss rfl rfl).yd) (Ent.d (fun q15 => ?_) (fun q15 => ?_)))))))
  ·refine Eu (E.ct rfl (E.skipc (Et (Eq_ (E.block (Ew Z7 (Emv rfl rfl (Emv rfl rfl ?_))))))))
   obtain ⟨eb20, eo20, ec20, ea20, er20, el20, eh20⟩ := ha.elem g om
   obtain ⟨xa20_0, xc20_0, rfl, ei20_0, xh20_0⟩ := Ro.pFact er20
   have := xh20_0.slen.2
   refine Ey rfl ((Y.ix us_lFacts ty_lFact rfl ea20 rfl g rfl om).yd) (Ey rfl (Y.ldS (cs := [_, _]) ty_lFact rfl (eh20 _) rfl) (Emv rfl rfl (Est rfl (N.call0 L5 rfl rfl rfl dc (fun w Lp hA => ⟨ei20_0, hA.ro xh20_0, (by first | assumption | omega), (by first | assumption | omega)⟩)) (fun _ _ => (Eas rfl rfl (Ev Z2 (Emv rfl rfl (Ey rfl ((Y.lss rfl rfl).yd) (Ent.d (fun q25 => ?_) (fun q25 => ?_))))))))))
   ·have z25 := E4 q25 om
    refine Eu (E.ct rfl (Ew Z1 (Eas rfl rfl ?_)))
    exact Eu (E.ret (E.blr (E.thr (E.thr (E.blr (E.thr (Fg rfl rfl () (congrArg (Value.int .i64) (by exact a0A (t := (fun x => x.2.length)) (n := a[g].2.length) (show g < a.length by omega) rfl om)) rfl)))))))
   ·obtain ⟨z25, y25⟩ := G9 q25 om
    refine Eu (E.cf rfl (E.skipc (E.bln (Et (Ez Z3 (Emv rfl rfl (Ey rfl ((Y.add rfl rfl om om).yd) (Eas rfl rfl ?_))))))))
    exact Eu (E.again br (g + 1) ⟨rfl, frI (by rw [z25]; have y := s8 (t := (fun x => x.2.length)) (show g < a.length by omega); omega), rfl, trivial⟩ (.refl _) ⟨by omega, by have y := s8 (t := (fun x => x.2.length)) (show g < a.length by omega); omega⟩ om)
  ·refine Eu (E.cf rfl (E.exit (E.the (E.the (E.blh (Et (Ew Z2 (Emv rfl rfl (Eas rfl rfl ?_)))))))))
   exact Eu (E.ret (Fg rfl rfl () (congrArg (Value.int .i64) (by exact a0F (t := (fun x => x.2.length)) (show a.length ≤ g by omega) pa)) rfl))
theorem z9 (hz : x4 (fun x => x.2.length) a ≤ 1048576) : Tr Try.prog 10 [.slice a_a m_a c_a] (fun w L => Ro w L j4 [.slice a_a m_a c_a] a) [] (κ := Option Addr × Nat × Nat) (fun k => True) (fun k => .slice k.1 k.2.1 k.2.2) (fun k => [ow j4 [.slice k.1 k.2.1 k.2.2] a]) := by
 refine Tr.intro Try.func10 rfl (n := 23) rfl (by decide +kernel) bl (fr := [(0, .slice a_a m_a c_a)]) rfl fun w L hR => ?_
 have ha := hR
 obtain ⟨rfl, la⟩ := ha.slen
 have hlen : a.length ≤ x4 (fun x => x.2.length) a := by unfold x4; omega
 refine Ew Z1 (Eas rfl rfl (Ev Z4 (Emv rfl rfl (Ey rfl ((Y.len us_lFacts rfl).yd) (Est rfl (N.make (m := a.length) us_Facts ty_Fact rfl rfl rfl mx om dc) (fun b7 _ => (Ent.mkow (A := [_]) (Own.made (E := y3) (e := tFact) (zx := (0, [])) (Own.mkFact (x := (0, [])) ⟨by decide, by decide⟩ Own.nil) mx) rfl (Eas rfl rfl (Eu (Eq_ (Ew Z1 (Eas rfl rfl (Eu (E.block (E.loop (κ := Nat) (fun g => g ≤ a.length) (fun g => [(0, .slice a_a a.length c_a), (3, .slice (some ⟨b7, 0, none⟩) a.length a.length), (4, .int .i64 (g : Int))]) (fun g => [ow j4 [.slice (some ⟨b7, 0, none⟩) a.length a.length] (a.take g ++ List.replicate (a.length - g) (0, []))]) (fun g => a.length - g) 0 (Nat.zero_le _) ⟨rfl, rfl, rfl, trivial⟩ (by simp) (fun g pg => (Eq_ (Ew Z4 (Emv rfl rfl (Emv rfl rfl (Ey rfl ((Y.len us_lFacts rfl).yd) (Ey rfl ((Y.lss rfl rfl).yd) (Ent.d (fun q11 => ?_) (fun q11 => ?_))))))))))))))))))))))))
 ·refine Eu (E.ct rfl (E.skipc (Et (Eq_ (E.block (Ez Z9 (Emv rfl rfl (Emv rfl rfl (Emv rfl rfl (Emv rfl rfl ?_))))))))))
  obtain ⟨eb18, eo18, ec18, ea18, er18, el18, eh18⟩ := ha.elem g om
  obtain ⟨xa18_0, xc18_0, rfl, ei18_0, xh18_0⟩ := Ro.pFact er18
  have := xh18_0.slen.2
  refine Ey rfl ((Y.ix us_lFacts ty_lFact rfl ea18 rfl g rfl om).yd) (Ey rfl (Y.ldS (cs := [_, _]) ty_lFact rfl (eh18 _) rfl) (Est rfl (N.call (w6 (by have y := a0v (t := (fun x => x.2.length)) (l := a) (g := g) om; omega)) rfl rfl rfl dc rfl (fun w Lp hA => ⟨ei18_0, hA.ro xh18_0⟩)) (fun k20 _ => ?_)))
  obtain ⟨a20, m20, c20⟩ := k20
  refine Ent.lenow m0 fun e20 l20 => ?_
  subst e20
  refine Ey rfl ((Y.ix us_Facts ty_Fact rfl rfl rfl g rfl om).yd) (Ent.p1 (Est rfl (N.set (E := y3) (j := g) (ex := a[g]) (ce := [_, _]) ty_Fact rfl rfl rfl rfl (Own.mkFact (x := a[g]) ei18_0 Own.ow) rfl (Nat.zero_add _) rfl (by simp; omega)) (fun _ _ => (En (E.bln (Et (Ez Z3 (Emv rfl rfl (Ey rfl ((Y.add rfl rfl om om).yd) (Eas rfl rfl ?_))))))))))
  exact Eu (E.again br (g + 1) rs (by rw [P9 om rfl]) om om)
 ·refine Eu (E.cf rfl (E.exit (E.the (E.the (E.blh (Et (Ew Z2 (Emv rfl rfl (Eas rfl rfl (Eu (E.ret (Ent.cv (congrArg (ow j4 [_]) (show _ = a by exact M4 om)) ?_))))))))))))
  exact Fg rfl rfl (_, _, _) rfl rfl
theorem S9 {a_b : Option Addr} {m_b c_b : Nat} {b : List (Int × List Int)} : Tr Try.prog 15 [.slice a_a m_a c_a, .slice a_b m_b c_b] (fun w L => Ro w L j4 [.slice a_a m_a c_a] a ∧ Ro w L j4 [.slice a_b m_b c_b] b) [] (κ := Unit) (fun k => True) (fun k => .bool (decide (a = b))) (fun k => []) := by
 refine Tr.intro Try.func15 rfl (n := 27) rfl (by decide +kernel) bl (fr := [(0, .slice a_a m_a c_a), (1, .slice a_b m_b c_b)]) rfl fun w L hR => ?_
 obtain ⟨ha, hb⟩ := hR
 obtain ⟨rfl, la⟩ := ha.slen
 obtain ⟨rfl, lb⟩ := hb.slen
 refine Ew Z1 (Eas rfl rfl (Eu (Eq_ (Ew Z5 (Emv rfl rfl (Ey rfl ((Y.len us_Facts rfl).yd) (Emv rfl rfl (Ey rfl ((Y.len us_Facts rfl).yd) (Ey rfl ((Y.neq rfl rfl).yd) (Ent.d (fun q10 => ?_) (fun q10 => ?_)))))))))))
 ·refine Eu (E.ct rfl (Ew Z1 (Eas rfl rfl ?_)))
  exact Eu (E.ret (E.thr (Fb rfl rfl (by exact N4 q10))))
 ·refine Eu (E.cf rfl (E.skipc (Et (Eq_ (Ew Z1 (Eas rfl rfl (Eu (E.block (E.loop (κ := Nat) (fun g => g ≤ a.length ∧ a.take g = b.take g) (fun g => [(0, .slice a_a a.length c_a), (1, .slice a_b b.length c_b), (5, .int .i64 (g : Int))]) (fun g => []) (fun g => a.length - g) 0 ⟨by omega, by simp⟩ ⟨rfl, rfl, rfl, trivial⟩ (.refl _) (fun g pg => ?_))))))))))
  obtain ⟨pk, pa⟩ := pg
  refine Eq_ (Ew Z4 (Emv rfl rfl (Emv rfl rfl (Ey rfl ((Y.len us_Facts rfl).yd) (Ey rfl ((Y.lss rfl rfl).yd) (Ent.d (fun q14 => ?_) (fun q14 => ?_)))))))
  ·refine Eu (E.ct rfl (E.skipc (Et (Eq_ (E.block (Eq_ (D.region (fun j => true) n0 (Dyp 0 rfl (Y.mv rfl) (Dyp 1 rfl (Y.mv rfl) ?_)))))))))
   obtain ⟨eb19, eo19, ec19, ea19, er19, el19, eh19⟩ := ha.elem g om
   obtain ⟨xa19_0, xc19_0, rfl, ei19_0, xh19_0⟩ := Ro.pFact er19
   have := xh19_0.slen.2
   refine Dyp 2 rfl (Y.ix us_Facts ty_Fact rfl ea19 rfl g rfl om) (Dy 3 rfl (Y.ldS (cs := [_, _]) ty_Fact rfl (eh19 _) rfl) (Dyp 4 rfl (Y.mv rfl) (Dyp 5 rfl (Y.mv rfl) ?_)))
   obtain ⟨eb23, eo23, ec23, ea23, er23, el23, eh23⟩ := hb.elem g om
   obtain ⟨xa23_0, xc23_0, rfl, ei23_0, xh23_0⟩ := Ro.pFact er23
   have := xh23_0.slen.2
   refine Dyp 6 rfl (Y.ix us_Facts ty_Fact rfl ea23 rfl g rfl om) (Dy 7 rfl (Y.ldS (cs := [_, _]) ty_Fact rfl (eh23 _) rfl) (D.st 8 rfl rfl kr (fun _ => rfl) (N.call0 K9 rfl rfl rfl dc (fun w Lp hA => ⟨ei19_0, hA.ro xh19_0, ei23_0, hA.ro xh23_0⟩)) (fun _ _ => (Ent.b (fun q25 => ?_) (fun q25 => ?_)))))
   ·refine Dyp 9 rfl (Y.not (b := true) rfl) (D.done kr (Et (E.cf rfl (E.skipc (E.bln (Et (Ez Z3 (Emv rfl rfl (Ey rfl ((Y.add rfl rfl om om).yd) (Eas rfl rfl ?_))))))))))
    exact Eu (E.again br (g + 1) rs (.refl _) ⟨by omega, H4 om om pa (of_decide_eq_true q25)⟩ om)
   ·refine Dyp 9 rfl (Y.not (b := false) rfl) (D.done kr (Et (E.ct rfl (Ew Z1 (Eas rfl rfl ?_)))))
    exact Eu (E.ret (E.blr (E.thr (E.thr (E.blr (E.thr (Fb rfl rfl (by exact M7 (show g < a.length by omega) (show g < b.length by omega) (of_decide_eq_false q25)))))))))
  ·refine Eu (E.cf rfl (E.exit (E.the (E.the (E.blh (Et (Ew Z1 (Eas rfl rfl ?_))))))))
   exact Eu (E.ret (Fb rfl rfl (by exact K7 (show a.length ≤ g by omega) (show b.length ≤ g by omega) pa)))
theorem I3 : Tr Try.prog 62 [.int .i64 x] (fun w L => True) [] (κ := Unit) (fun k => True) (fun k => .bool (false)) (fun k => []) := by
 refine Tr.intro Try.func62 rfl (n := 6) rfl (by decide +kernel) bl (fr := [(0, .int .i64 x)]) rfl fun w L hR => (Ew Z1 (Eas rfl rfl (Ev Z4 (Emv rfl rfl (Emv rfl rfl (Ey rfl ((Y.neq rfl rfl).yd) (Eas rfl rfl ?_)))))))
 exact Eu (E.ret (Fb rfl rfl (by simp)))
theorem F5 {y : Int} : Tr Try.prog 52 [.int .i64 x, .int .i64 y] (fun w L => True) [] (κ := Unit) (fun k => True) (fun k => .int .i64 (s6 x y)) (fun k => []) := by
 refine Tr.intro Try.func52 rfl (n := 20) rfl (by decide +kernel) bl (fr := [(0, .int .i64 x), (1, .int .i64 y)]) rfl fun w L hR => (Ew Z1 (Eas rfl rfl (Ev Z3 (Emv rfl rfl (Est rfl (N.call0 I3 rfl rfl rfl dc (fun w Lp hA => trivial)) (fun _ _ => (Eas rfl rfl (Ev Z3 (Emv rfl rfl (Est rfl (N.call0 I3 rfl rfl rfl dc (fun w Lp hA => trivial)) (fun _ _ => (Eas rfl rfl (Eu (Eq_ (Ew Z1 (Emv rfl rfl (Eu (E.cf rfl (E.skipc (Et (Eq_ (Ew Z1 (Emv rfl rfl (Eu (E.cf rfl (E.skipc (Et (Eq_ (Ew Z3 (Emv rfl rfl (Emv rfl rfl (Ey rfl ((Y.lss rfl rfl).yd) (Ent.d (fun q16 => ?_) (fun q16 => ?_))))))))))))))))))))))))))))))))))
 ·refine Eu (E.ct rfl (Ew Z1 (Eas rfl rfl ?_)))
  exact Eu (E.ret (E.thr (Fg rfl rfl () (congrArg (Value.int .i64) (by grind [s6, d1, d2, t1, t2])) rfl)))
 ·refine Eu (E.cf rfl (E.skipc (Et (Eq_ (Ew Z3 (Emv rfl rfl (Emv rfl rfl (Ey rfl ((Y.gtr rfl rfl).yd) (Ent.d (fun q19 => ?_) (fun q19 => ?_))))))))))
  ·refine Eu (E.ct rfl (Ew Z1 (Eas rfl rfl ?_)))
   exact Eu (E.ret (E.thr (Fg rfl rfl () (congrArg (Value.int .i64) (by grind [s6, d1, d2, t1, t2])) rfl)))
  ·refine Eu (E.cf rfl (E.skipc (Et (Ew Z1 (Eas rfl rfl ?_)))))
   exact Eu (E.ret (Fg rfl rfl () (congrArg (Value.int .i64) (by grind [s6, d1, d2, t1, t2])) rfl))
theorem a0k {a_vals : Option Addr} {m_vals c_vals : Nat} {f7 : List Int} : Tr Try.prog 51 [.slice a_vals m_vals c_vals] (fun w L => Ro w L eIs [.slice a_vals m_vals c_vals] f7) [] (κ := Unit) (fun k => True) (fun k => .int .i64 (orI f7)) (fun k => []) := by
 refine Tr.intro Try.func51 rfl (n := 18) rfl (by decide +kernel) bl (fr := [(0, .slice a_vals m_vals c_vals)]) rfl fun w L hR => ?_
 have hvals := hR
 obtain ⟨rfl, lvals⟩ := hvals.slen
 refine Ew Z1 (Eas rfl rfl (Ev Z1 (Eas rfl rfl (Eu (Eq_ (Ew Z3 (Emv rfl rfl (Ey rfl ((Y.len us_Is rfl).yd) (Emv rfl rfl (Eu (E.block (E.loop (κ := Nat) (fun g => g ≤ f7.length ∧ orI f7 = orI (f7.drop g)) (fun g => [(3, .int .i64 0), (6, .slice a_vals f7.length c_vals), (7, .int .i64 (↑f7.length : Int)), (8, .int .i64 (g : Int))]) (fun g => []) (fun g => f7.length - g) 0 ⟨Nat.zero_le _, by simp⟩ ⟨rfl, rfl, rfl, rfl, trivial⟩ (.refl _) (fun g pg => ?_)))))))))))))
 obtain ⟨pk, pa⟩ := pg
 refine Ew Z1 (Ey rfl ((Y.lss rfl rfl).yd) (Ent.d (fun q9 => ?_) (fun q9 => ?_)))
 ·obtain ⟨eb10, eo10, ea10, ei10, eh10⟩ := hvals.elemI g om
  refine Eu (Eq_ (E.ct rfl (E.skipc (Et (Eq_ (E.block (Ew Z3 (Ey rfl ((Y.ix us_Is c6 rfl ea10 rfl g rfl om).yd) (Ey rfl (Y.ld1 c6 rfl (eh10 _) rfl) (Eas rfl rfl (Ev Z3 (Emv rfl rfl (Emv rfl rfl (Ey rfl ((Y.neq rfl rfl).yd) (Ent.d (fun q14 => ?_) (fun q14 => ?_))))))))))))))))
  ·refine Eu (E.ct rfl (Ew Z2 (Emv rfl rfl (Eas rfl rfl ?_))))
   exact Eu (E.ret (E.blr (E.thr (E.thr (E.blr (E.thr (Fg rfl rfl () (congrArg (Value.int .i64) (by grind [orI, d1, d2, t1, t2])) rfl)))))))
  ·refine Eu (E.cf rfl (E.skipc (E.bln (Et (Ez Z2 (Ey rfl ((Y.add rfl rfl om om).yd) (Emv rfl rfl ?_)))))))
   exact Eu (E.again br (g + 1) rs (.refl _) ⟨by omega, by grind [orI, d1, d2, t1, t2]⟩ om)
 ·refine Eu (Eq_ (E.cf rfl (E.exit (E.the (E.the (E.blh (Et (Ew Z2 (Emv rfl rfl (Eas rfl rfl ?_))))))))))
  exact Eu (E.ret (Fg rfl rfl () (congrArg (Value.int .i64) (by grind [orI, d1, d2, t1, t2])) rfl))
theorem G6 {a_s1 : Option Addr} {m_s1 c_s1 : Nat} {s1 : List Int} {a_s2 : Option Addr} {m_s2 c_s2 : Nat} {s2 : List Int} : Tr Try.prog 53 [.slice a_s1 m_s1 c_s1, .slice a_s2 m_s2 c_s2] (fun w L => Ro w L eIs [.slice a_s1 m_s1 c_s1] s1 ∧ Ro w L eIs [.slice a_s2 m_s2 c_s2] s2) [] (κ := Unit) (fun k => True) (fun k => .int .i64 (l0 s1 s2)) (fun k => []) := by
 refine Tr.intro Try.func53 rfl (n := 36) rfl (by decide +kernel) bl (fr := [(0, .slice a_s1 m_s1 c_s1), (1, .slice a_s2 m_s2 c_s2)]) rfl fun w L hR => ?_
 obtain ⟨hs1, hs2⟩ := hR
 obtain ⟨rfl, ls1⟩ := hs1.slen
 obtain ⟨rfl, ls2⟩ := hs2.slen
 refine Ew Z1 (Eas rfl rfl (Eu (Eq_ (Ew Z3 (Emv rfl rfl (Ey rfl ((Y.len us_Is rfl).yd) (Emv rfl rfl (Eu (E.block (E.loop (κ := Nat) (fun g => g ≤ s1.length ∧ l0 s1 s2 = l0 (s1.drop g) (s2.drop g)) (fun g => [(0, .slice a_s1 s1.length c_s1), (1, .slice a_s2 s2.length c_s2), (9, .slice a_s1 s1.length c_s1), (10, .int .i64 (↑s1.length : Int)), (11, .int .i64 (g : Int))]) (fun g => []) (fun g => s1.length - g) 0 ⟨Nat.zero_le _, by simp⟩ ⟨rfl, rfl, rfl, rfl, rfl, trivial⟩ (.refl _) (fun g pg => ?_)))))))))))
 obtain ⟨pk, pa⟩ := pg
 refine Ew Z1 (Ey rfl ((Y.lss rfl rfl).yd) (Ent.d (fun q12 => ?_) (fun q12 => ?_)))
 ·refine Eu (Eq_ (E.ct rfl (E.skipc (Et (Eq_ (E.block (Ew Z5 (Emv rfl rfl ?_))))))))
  obtain ⟨eb14, eo14, ea14, ei14, eh14⟩ := hs1.elemI g om
  refine Ey rfl ((Y.ix us_Is c6 rfl ea14 rfl g rfl om).yd) (Ey rfl (Y.ld1 c6 rfl (eh14 _) rfl) (Eas rfl rfl (Eas rfl rfl (Eu (Eq_ (Ew Z4 (Emv rfl rfl (Emv rfl rfl (Ey rfl ((Y.len us_Is rfl).yd) (Ey rfl ((Y.geq rfl rfl).yd) (Ent.d (fun q19 => ?_) (fun q19 => ?_))))))))))))
  ·refine Eu (E.ct rfl (Ew Z1 (Eas rfl rfl ?_)))
   exact Eu (E.ret (E.thr (E.blr (E.thr (E.thr (E.blr (E.thr (Fg rfl rfl () (congrArg (Value.int .i64) (by grind [l0, d1, d2, t1, t2])) rfl))))))))
  ·refine Eu (E.cf rfl (E.skipc (Et (Ew Z5 (Emv rfl rfl (Emv rfl rfl ?_))))))
   obtain ⟨eb22, eo22, ea22, ei22, eh22⟩ := hs2.elemI g om
   refine Ey rfl ((Y.ix us_Is c6 rfl ea22 rfl g rfl om).yd) (Ey rfl (Y.ld1 c6 rfl (eh22 _) rfl) (Eas rfl rfl (Ev Z4 (Emv rfl rfl (Emv rfl rfl (Est rfl (N.call0 F5 rfl rfl rfl dc (fun w Lp hA => trivial)) (fun _ _ => (Eas rfl rfl (Ev Z2 (Emv rfl rfl (Ey rfl ((Y.neq rfl rfl).yd) (Ent.d (fun q28 => ?_) (fun q28 => ?_)))))))))))))
   ·refine Eu (E.ct rfl (Ew Z2 (Emv rfl rfl (Eas rfl rfl ?_))))
    exact Eu (E.ret (E.blr (E.thr (E.thr (E.blr (E.thr (Fg rfl rfl () (congrArg (Value.int .i64) (by grind [l0, d1, d2, t1, t2])) rfl)))))))
   ·refine Eu (E.cf rfl (E.skipc (E.bln (Et (Ez Z2 (Ey rfl ((Y.add rfl rfl om om).yd) (Emv rfl rfl ?_)))))))
    exact Eu (E.again br (g + 1) rs (.refl _) ⟨by omega, by grind [l0, d1, d2, t1, t2]⟩ om)
 ·refine Eu (Eq_ (E.cf rfl (E.exit (E.the (E.the (E.blh (Et (Eq_ (Ew Z5 (Emv rfl rfl (Ey rfl ((Y.len us_Is rfl).yd) (Emv rfl rfl (Ey rfl ((Y.len us_Is rfl).yd) (Ey rfl ((Y.lss rfl rfl).yd) (Ent.d (fun q35 => ?_) (fun q35 => ?_))))))))))))))))
  ·refine Eu (E.ct rfl (Ew Z1 (Eas rfl rfl ?_)))
   exact Eu (E.ret (E.thr (Fg rfl rfl () (congrArg (Value.int .i64) (by grind [l0, d1, d2, t1, t2])) rfl)))
  ·refine Eu (E.cf rfl (E.skipc (Et (Ew Z1 (Eas rfl rfl ?_)))))
   exact Eu (E.ret (Fg rfl rfl () (congrArg (Value.int .i64) (by grind [l0, d1, d2, t1, t2])) rfl))
theorem x5 : Tr Try.prog 40 [.agg #[.int .i64 l4, .slice i8 j3 i9], .agg #[.int .i64 v4, .slice n8 r5 n9]] (fun w L => I64 l4 ∧ Ro w L eIs [.slice i8 j3 i9] i7 ∧ I64 v4 ∧ Ro w L eIs [.slice n8 r5 n9] o9) [] (κ := Unit) (fun k => True) (fun k => .int .i64 (r6 (l4, i7) (v4, o9))) (fun k => []) := by
 refine Tr.intro Try.func40 rfl (n := 17) rfl (by decide +kernel) bl (fr := [(0, .agg #[.int .i64 l4, .slice i8 j3 i9]), (1, .agg #[.int .i64 v4, .slice n8 r5 n9])]) rfl fun w L hR => ?_
 obtain ⟨K1, l8, a0H, v8⟩ := hR
 obtain ⟨rfl, F2⟩ := l8.slen
 obtain ⟨rfl, X0⟩ := v8.slen
 refine Ew Z3 (Est rfl (N.box (cs := [_, _]) rfl dc rfl) (fun b2 _ => (Est rfl (N.box (cs := [_, _]) rfl dc rfl) (fun b3 _ => (Eas rfl rfl (Eu (Eq_ (D.region (fun j => true) n0 (Dyp 0 rfl (Y.fld fo_Fact_0 c6 dc rfl) (Dy 1 rfl (Y.ld1 c6 rfl ((Has.pt (mS m0)).sub (cs' := [_]) 0 rfl) rfl) (Dyp 2 rfl (Y.fld fo_Fact_0 c6 dc rfl) (Dy 3 rfl (Y.ld1 c6 rfl ((Has.pt m0).sub (cs' := [_]) 0 rfl) rfl) (Dyp 5 rfl (Y.fld fo_Fact_1 ty_Is dc rfl) (Dy 6 rfl (Y.ld1 ty_Is rfl ((Has.pt (mS m0)).sub (cs' := [_]) 1 rfl) rfl) (Dyp 7 rfl (Y.fld fo_Fact_1 ty_Is dc rfl) (Dy 8 rfl (Y.ld1 ty_Is rfl ((Has.pt m0).sub (cs' := [_]) 1 rfl) rfl) ?_))))))))))))))))
 have j1 := @a0q l4 v4
 refine D.st 4 rfl rfl kr (fun _ => rfl) (N.call0 F5 rfl rfl rfl dc (fun w Lp hA => trivial)) (fun _ _ => ?_)
 have j2 := @a0m i7 o9
 refine D.st 9 rfl rfl kr (fun _ => rfl) (N.call0 G6 rfl rfl rfl dc (fun w Lp hA => ⟨hA.ro l8, hA.ro v8⟩)) (fun _ _ => (D.st 10 rfl rfl kr (fun _ => rfl) (N.bsl (pvs := [_, _]) (cs := [_, _]) us_Is c6 rfl dc dc (l6 rfl rfl) rfl dc) (fun b15 _ => (Ent.mkow (A := [_]) (Own.ints (e := tI) (xs := [s6 l4 v4, l0 i7 o9]) rfl (by simp [maxLen]) (by simp only [List.forall_mem_cons]; exact ⟨i6, i6, List.forall_mem_nil _⟩)) rfl (D.st 11 rfl rfl kr (fun _ => rfl) (N.call0 a0k rfl rfl rfl dc (fun w Lp hA => hA.ow m0)) (fun _ _ => (Dyp 12 rfl (Y.as rfl) ?_)))))))
 exact D.done kr (Et (E.ret (Fg rfl rfl () (congrArg (Value.int .i64) (by grind [r6, orI, d1, d2, t1, t2])) rfl)))
theorem x8 : Tr Try.prog 34 [.agg #[.int .i64 l4, .slice i8 j3 i9], .agg #[.int .i64 v4, .slice n8 r5 n9]] (fun w L => I64 l4 ∧ Ro w L eIs [.slice i8 j3 i9] i7 ∧ I64 v4 ∧ Ro w L eIs [.slice n8 r5 n9] o9) [] (κ := Unit) (fun k => True) (fun k => .int .i64 (r6 (l4, i7) (v4, o9))) (fun k => []) := by
 refine Tr.intro Try.func34 rfl (n := 66) rfl (by decide +kernel) bl (fr := [(0, .agg #[.int .i64 l4, .slice i8 j3 i9]), (1, .agg #[.int .i64 v4, .slice n8 r5 n9])]) rfl fun w L hR => ?_
 obtain ⟨K1, l8, a0H, v8⟩ := hR
 obtain ⟨rfl, F2⟩ := l8.slen
 obtain ⟨rfl, X0⟩ := v8.slen
 refine Ew Z3 (Est rfl (N.box (cs := [_, _]) rfl dc rfl) (fun b2 _ => (Est rfl (N.box (cs := [_, _]) rfl dc rfl) (fun b3 _ => (Eas rfl rfl (Eu (Eq_ (Ew Z5 (Ey rfl ((Y.fld fo_Fact_0 c6 dc rfl).yd) (Ey rfl (Y.ld1 c6 rfl ((Has.pt (mS m0)).sub (cs' := [_]) 0 rfl) rfl) (Ey rfl ((Y.fld fo_Fact_0 c6 dc rfl).yd) (Ey rfl (Y.ld1 c6 rfl ((Has.pt m0).sub (cs' := [_]) 0 rfl) rfl) (Ey rfl ((Y.neq rfl rfl).yd) (Ent.d (fun q10 => ?_) (fun q10 => ?_)))))))))))))))
 ·refine Eu (E.ct rfl (Eq_ (Ew Z5 (Ey rfl ((Y.fld fo_Fact_0 c6 dc rfl).yd) (Ey rfl (Y.ld1 c6 rfl ((Has.pt (mS m0)).sub (cs' := [_]) 0 rfl) rfl) (Ey rfl ((Y.fld fo_Fact_0 c6 dc rfl).yd) (Ey rfl (Y.ld1 c6 rfl ((Has.pt m0).sub (cs' := [_]) 0 rfl) rfl) (Ey rfl ((Y.lss rfl rfl).yd) (Ent.d (fun q15 => ?_) (fun q15 => ?_))))))))))
  ·refine Eu (E.ct rfl (Ew Z1 (Eas rfl rfl ?_)))
   exact Eu (E.ret (E.thr (E.thr (Fg rfl rfl () (congrArg (Value.int .i64) (by grind [r6, s6, l0, d1, d2, t1, t2])) rfl))))
  ·refine Eu (E.cf rfl (E.skipc (Et (Ew Z1 (Eas rfl rfl ?_)))))
   exact Eu (E.ret (E.thr (Fg rfl rfl () (congrArg (Value.int .i64) (by grind [r6, s6, l0, d1, d2, t1, t2])) rfl)))
 ·refine Eu (E.cf rfl (E.skipc (Et (Eq_ (Ew Z1 (Eas rfl rfl (Eu (E.block (E.loop (κ := Nat) (fun g => g ≤ i7.length ∧ g ≤ o9.length ∧ l0 i7 o9 = l0 (i7.drop g) (o9.drop g)) (fun g => [(2, .pointer (some ⟨b2, 0, none⟩)), (3, .pointer (some ⟨b3, 0, none⟩)), (5, .int .i64 (g : Int))]) (fun g => [pt b3 37 [.int .i64 v4, .slice n8 o9.length n9], pt b2 37 [.int .i64 l4, .slice i8 i7.length i9]]) (fun g => i7.length - g) 0 ⟨Nat.zero_le _, by simp⟩ ⟨rfl, rfl, rfl, trivial⟩ (.refl _) (fun g pg => ?_))))))))))
  obtain ⟨pk, pa⟩ := pg
  refine Eq_ (Ew Z12 (Emv rfl rfl (Ey rfl ((Y.fld fo_Fact_1 ty_Is dc rfl).yd) (Ey rfl (Y.ld1 ty_Is rfl ((Has.pt (mS m0)).sub (cs' := [_]) 1 rfl) rfl) (Ey rfl ((Y.len us_Is rfl).yd) (Ey rfl ((Y.lss rfl rfl).yd) (Ent.d (fun q20 => ?_) (fun q20 => ?_))))))))
  ·refine Emv rfl rfl (Emv rfl rfl (Ey rfl ((Y.fld fo_Fact_1 ty_Is dc rfl).yd) (Ey rfl (Y.ld1 ty_Is rfl ((Has.pt m0).sub (cs' := [_]) 1 rfl) rfl) (Ey rfl ((Y.len us_Is rfl).yd) (Ey rfl ((Y.lss rfl rfl).yd) (Ent.d (fun q26 => ?_) (fun q26 => ?_)))))))
   ·refine Ey rfl ((Y.pkt rfl rfl).yd) (Eu (E.ct rfl (E.skipc (Et (Eq_ (E.block (Eq_ (Eq_ (D.region (fun j => true) n0 (Dyp 0 rfl (Y.fld fo_Fact_1 ty_Is dc rfl) (Dy 1 rfl (Y.ld1 ty_Is rfl ((Has.pt (mS m0)).sub (cs' := [_]) 1 rfl) rfl) (Dyp 2 rfl (Y.mv rfl) ?_))))))))))))
    obtain ⟨eb33, eo33, ea33, ei33, eh33⟩ := l8.elemI g om
    refine Dyp 3 rfl (Y.ix us_Is c6 rfl ea33 rfl g rfl om) (Dy 4 rfl (Y.ld1 c6 rfl (eh33 _) rfl) (Dyp 5 rfl (Y.fld fo_Fact_1 ty_Is dc rfl) (Dy 6 rfl (Y.ld1 ty_Is rfl ((Has.pt m0).sub (cs' := [_]) 1 rfl) rfl) (Dyp 7 rfl (Y.mv rfl) ?_))))
    obtain ⟨eb38, eo38, ea38, ei38, eh38⟩ := v8.elemI g om
    refine Dyp 8 rfl (Y.ix us_Is c6 rfl ea38 rfl g rfl om) (Dy 9 rfl (Y.ld1 c6 rfl (eh38 _) rfl) (Dyp 10 rfl (Y.lss rfl rfl) (Ent.d (fun q40 => ?_) (fun q40 => ?_))))
    ·refine D.done kr (Et (E.ct rfl (Ew Z1 (Eas rfl rfl ?_))))
     exact Eu (E.ret (E.thr (E.blr (E.thr (E.thr (E.blr (E.thr (Fg rfl rfl () (congrArg (Value.int .i64) (by grind [r6, s6, l0, d1, d2, t1, t2])) rfl))))))))
    ·refine D.done kr (Et (E.cf rfl (E.skipc (Et (Eq_ (D.region (fun j => true) n0 (Dyp 0 rfl (Y.fld fo_Fact_1 ty_Is dc rfl) (Dy 1 rfl (Y.ld1 ty_Is rfl ((Has.pt (mS m0)).sub (cs' := [_]) 1 rfl) rfl) (Dyp 2 rfl (Y.mv rfl) (Dyp 3 rfl (Y.ix us_Is c6 rfl ea33 rfl g rfl om) (Dy 4 rfl (Y.ld1 c6 rfl (eh33 _) rfl) (Dyp 5 rfl (Y.fld fo_Fact_1 ty_Is dc rfl) (Dy 6 rfl (Y.ld1 ty_Is rfl ((Has.pt m0).sub (cs' := [_]) 1 rfl) rfl) (Dyp 7 rfl (Y.mv rfl) (Dyp 8 rfl (Y.ix us_Is c6 rfl ea38 rfl g rfl om) (Dy 9 rfl (Y.ld1 c6 rfl (eh38 _) rfl) (Dyp 10 rfl (Y.gtr rfl rfl) (Ent.d (fun q51 => ?_) (fun q51 => ?_)))))))))))))))))))
     ·refine D.done kr (Et (E.ct rfl (Ew Z1 (Eas rfl rfl ?_))))
      exact Eu (E.ret (E.blr (E.thr (E.thr (E.blr (E.thr (Fg rfl rfl () (congrArg (Value.int .i64) (by grind [r6, s6, l0, d1, d2, t1, t2])) rfl)))))))
     ·refine D.done kr (Et (E.cf rfl (E.skipc (E.bln (Et (Ez Z3 (Emv rfl rfl (Ey rfl ((Y.add rfl rfl om om).yd) (Eas rfl rfl (Eu (Ent.p1 (Ent.p1 ?_))))))))))))
      exact E.again br (g + 1) rs (.refl _) ⟨by omega, by grind [l0, s6, d1, d2, t1, t2]⟩ om
   ·refine Ey rfl ((Y.pkt rfl rfl).yd) (Eu (E.cf rfl (E.exit (E.the (E.the (E.blh (Et (Eq_ (Ew Z7 (Ey rfl ((Y.fld fo_Fact_1 ty_Is dc rfl).yd) (Ey rfl (Y.ld1 ty_Is rfl ((Has.pt (mS m0)).sub (cs' := [_]) 1 rfl) rfl) (Ey rfl ((Y.len us_Is rfl).yd) (Ey rfl ((Y.fld fo_Fact_1 ty_Is dc rfl).yd) (Ey rfl (Y.ld1 ty_Is rfl ((Has.pt m0).sub (cs' := [_]) 1 rfl) rfl) (Ey rfl ((Y.len us_Is rfl).yd) (Ey rfl ((Y.lss rfl rfl).yd) (Ent.d (fun q58 => ?_) (fun q58 => ?_))))))))))))))))))
    ·refine Eu (E.ct rfl (Ew Z1 (Eas rfl rfl ?_)))
     exact Eu (E.ret (E.thr (Fg rfl rfl () (congrArg (Value.int .i64) (by grind [r6, s6, l0, d1, d2, t1, t2])) rfl)))
    ·refine Eu (E.cf rfl (E.skipc (Et (Eq_ (Ew Z7 (Ey rfl ((Y.fld fo_Fact_1 ty_Is dc rfl).yd) (Ey rfl (Y.ld1 ty_Is rfl ((Has.pt (mS m0)).sub (cs' := [_]) 1 rfl) rfl) (Ey rfl ((Y.len us_Is rfl).yd) (Ey rfl ((Y.fld fo_Fact_1 ty_Is dc rfl).yd) (Ey rfl (Y.ld1 ty_Is rfl ((Has.pt m0).sub (cs' := [_]) 1 rfl) rfl) (Ey rfl ((Y.len us_Is rfl).yd) (Ey rfl ((Y.gtr rfl rfl).yd) (Ent.d (fun q65 => ?_) (fun q65 => ?_))))))))))))))
     ·refine Eu (E.ct rfl (Ew Z1 (Eas rfl rfl ?_)))
      exact Eu (E.ret (E.thr (Fg rfl rfl () (congrArg (Value.int .i64) (by grind [r6, s6, l0, d1, d2, t1, t2])) rfl)))
     ·refine Eu (E.cf rfl (E.skipc (Et (Ew Z1 (Eas rfl rfl ?_)))))
      exact Eu (E.ret (Fg rfl rfl () (congrArg (Value.int .i64) (by grind [r6, s6, l0, d1, d2, t1, t2])) rfl))
  ·refine Emv rfl rfl (Es rfl (Es rfl (Es rfl (Es rfl (Es rfl (Ey rfl ((Y.pkf rfl rfl).yd) (Eu (E.cf rfl (E.exit (E.the (E.the (E.blh (Et (Eq_ (Ew Z7 (Ey rfl ((Y.fld fo_Fact_1 ty_Is dc rfl).yd) (Ey rfl (Y.ld1 ty_Is rfl ((Has.pt (mS m0)).sub (cs' := [_]) 1 rfl) rfl) (Ey rfl ((Y.len us_Is rfl).yd) (Ey rfl ((Y.fld fo_Fact_1 ty_Is dc rfl).yd) (Ey rfl (Y.ld1 ty_Is rfl ((Has.pt m0).sub (cs' := [_]) 1 rfl) rfl) (Ey rfl ((Y.len us_Is rfl).yd) (Ey rfl ((Y.lss rfl rfl).yd) (Ent.d (fun q58 => ?_) (fun q58 => ?_))))))))))))))))))))))))
   ·refine Eu (E.ct rfl (Ew Z1 (Eas rfl rfl ?_)))
    exact Eu (E.ret (E.thr (Fg rfl rfl () (congrArg (Value.int .i64) (by grind [r6, s6, l0, d1, d2, t1, t2])) rfl)))
   ·refine Eu (E.cf rfl (E.skipc (Et (Eq_ (Ew Z7 (Ey rfl ((Y.fld fo_Fact_1 ty_Is dc rfl).yd) (Ey rfl (Y.ld1 ty_Is rfl ((Has.pt (mS m0)).sub (cs' := [_]) 1 rfl) rfl) (Ey rfl ((Y.len us_Is rfl).yd) (Ey rfl ((Y.fld fo_Fact_1 ty_Is dc rfl).yd) (Ey rfl (Y.ld1 ty_Is rfl ((Has.pt m0).sub (cs' := [_]) 1 rfl) rfl) (Ey rfl ((Y.len us_Is rfl).yd) (Ey rfl ((Y.gtr rfl rfl).yd) (Ent.d (fun q65 => ?_) (fun q65 => ?_))))))))))))))
    ·refine Eu (E.ct rfl (Ew Z1 (Eas rfl rfl ?_)))
     exact Eu (E.ret (E.thr (Fg rfl rfl () (congrArg (Value.int .i64) (by grind [r6, s6, l0, d1, d2, t1, t2])) rfl)))
    ·refine Eu (E.cf rfl (E.skipc (Et (Ew Z1 (Eas rfl rfl ?_)))))
     exact Eu (E.ret (Fg rfl rfl () (congrArg (Value.int .i64) (by grind [r6, s6, l0, d1, d2, t1, t2])) rfl))
end Go.Proofs.Ytdopeopehgdccaa
