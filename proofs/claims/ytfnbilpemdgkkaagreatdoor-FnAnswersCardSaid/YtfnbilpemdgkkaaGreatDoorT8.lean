import Derived.Test.YtfnbilpemdgkkaaGreatDoorT5
namespace Go.Proofs.YtfnbilpemdgkkaaGreatDoor
open Go.RowKit
set_option linter.all false
set_option maxHeartbeats 2000000
attribute [local irreducible] Nop Yd Yp Ent Has Tr FnP FnP2 Src
variable {x f7 V3 : Int} {s1 s2 K6 d4 : List Int} {m_s1 c_s1 m_s2 c_s2 R5 P0 r7 n0 : Nat} {a_s1 a_s2 P1 n8 : Option Addr}
theorem a0o : Tr Tryz.prog 196 [.int .i64 x] (fun w L => True) [] (κ := Unit) (fun k => True) (fun k => .bool (false)) (fun k => []) := by
 refine Tr.intro Tryz.func196 rfl (n := 6) rfl (by decide +kernel) bl (fr := [(0, .int .i64 x)]) rfl fun w L hR => (Ew Z1 (Ei rfl (Ev Z4 (Em rfl (Em rfl (Ey rfl ((Y.neq rfl rfl).yd) (Ei rfl ?_)))))))
 exact Eu (E.ret (Fb rfl rfl (by simp)))
theorem X5 {y : Int} : Tr Tryz.prog 167 [.int .i64 x, .int .i64 y] (fun w L => True) [] (κ := Unit) (fun k => True) (fun k => .int .i64 (G2 x y)) (fun k => []) := by
 refine Tr.intro Tryz.func167 rfl (n := 20) rfl (by decide +kernel) bl (fr := [(0, .int .i64 x), (1, .int .i64 y)]) rfl fun w L hR => (Ew Z1 (Ei rfl (Ev Z3 (Em rfl (Est rfl (i8 a0o rfl rfl rfl dc tv) (fun _ _ => (Ei rfl (Ev Z3 (Em rfl (Est rfl (i8 a0o rfl rfl rfl dc tv) (fun _ _ => (Ei rfl (Eu (Eq_ (Ew Z1 (Em rfl (Eu (j8 rfl (f5 (Et (Eq_ (Ew Z1 (Em rfl (Eu (j8 rfl (f5 (Et (Eq_ (Ew Z3 (Em rfl (Em rfl (Ey rfl ((Y.lss rfl rfl).yd) (j4 (fun q16 => ?_) (fun q16 => ?_))))))))))))))))))))))))))))))))))
 ·refine Eu (j9 rfl (Ew Z1 (Ei rfl ?_)))
  exact Eu (E.ret (j5 (Fg rfl rfl () (congrArg (Value.int .i64) (by grind [G2, d1, d2, t1, t2])) rfl)))
 ·refine Eu (j8 rfl (f5 (Et (Eq_ (Ew Z3 (Em rfl (Em rfl (Ey rfl ((Y.gtr rfl rfl).yd) (j4 (fun q19 => ?_) (fun q19 => ?_))))))))))
  ·refine Eu (j9 rfl (Ew Z1 (Ei rfl ?_)))
   exact Eu (E.ret (j5 (Fg rfl rfl () (congrArg (Value.int .i64) (by grind [G2, d1, d2, t1, t2])) rfl)))
  ·refine Eu (j8 rfl (f5 (Et (Ew Z1 (Ei rfl ?_)))))
   exact Eu (E.ret (Fg rfl rfl () (congrArg (Value.int .i64) (by grind [G2, d1, d2, t1, t2])) rfl))
theorem a5q {a_vals : Option Addr} {m_vals c_vals : Nat} {S4 : List Int} : Tr Tryz.prog 166 [.slice a_vals m_vals c_vals] (fun w L => Ro w L eIs [.slice a_vals m_vals c_vals] S4) [] (κ := Unit) (fun k => True) (fun k => .int .i64 (orI S4)) (fun k => []) := by
 refine Tr.intro Tryz.func166 rfl (n := 18) rfl (by decide +kernel) bl (fr := [(0, .slice a_vals m_vals c_vals)]) rfl fun w L hR => ?_
 have hvals := hR
 obtain ⟨rfl, lvals⟩ := hvals.slen
 refine Ew Z1 (Ei rfl (Ev Z1 (Ei rfl (Eu (Eq_ (Ew Z3 (Em rfl (Ey rfl ((Y.len us_Is rfl).yd) (Em rfl (Eu (E.block (E.loop (κ := Nat) (fun g => g ≤ S4.length ∧ orI S4 = orI (S4.drop g)) (fun g => [(3, .int .i64 0), (6, .slice a_vals S4.length c_vals), (7, .int .i64 (↑S4.length : Int)), (8, .int .i64 (g : Int))]) (fun g => []) (fun g => S4.length - g) 0 ⟨Nat.zero_le _, by simp⟩ ⟨rfl, rfl, rfl, rfl, trivial⟩ (.refl _) (fun g pg => ?_)))))))))))))
 obtain ⟨pk, pa⟩ := pg
 refine Ew Z1 (Ey rfl ((Y.lss rfl rfl).yd) (j4 (fun q9 => ?_) (fun q9 => ?_)))
 ·obtain ⟨eb10, eo10, ea10, ei10, eh10⟩ := hvals.elemI g om
  refine Eu (Eq_ (j9 rfl (f5 (Et (Eq_ (E.block (Ew Z3 (Ey rfl ((o6 us_Is d9 rfl ea10 rfl g rfl om).yd) (Ey rfl (f6 d9 rfl (eh10 _) rfl) (Ei rfl (Ev Z3 (Em rfl (Em rfl (Ey rfl ((Y.neq rfl rfl).yd) (j4 (fun q14 => ?_) (fun q14 => ?_))))))))))))))))
  ·refine Eu (j9 rfl (Ew Z2 (Em rfl (Ei rfl ?_))))
   exact Eu (E.ret (w9 (j5 (j5 (w9 (j5 (Fg rfl rfl () (congrArg (Value.int .i64) (by grind [orI, d1, d2, t1, t2])) rfl)))))))
  ·refine Eu (j8 rfl (f5 (n9 (Et (Ez Z2 (Ey rfl ((Y.add rfl rfl om om).yd) (Em rfl ?_)))))))
   exact Eu (t8 br (g + 1) rs (.refl _) ⟨by omega, by grind [orI, d1, d2, t1, t2]⟩ om)
 ·refine Eu (Eq_ (j8 rfl (E.exit (l2 (l2 (w8 (Et (Ew Z2 (Em rfl (Ei rfl ?_))))))))))
  exact Eu (E.ret (Fg rfl rfl () (congrArg (Value.int .i64) (by grind [orI, d1, d2, t1, t2])) rfl))
theorem Q8 : Tr Tryz.prog 140 [.slice a_s1 m_s1 c_s1, .slice a_s2 m_s2 c_s2] (fun w L => Ro w L eIs [.slice a_s1 m_s1 c_s1] s1 ∧ Ro w L eIs [.slice a_s2 m_s2 c_s2] s2) [] (κ := Unit) (fun k => True) (fun k => .int .i64 (C3 s1 s2)) (fun k => []) := by
 refine Tr.intro Tryz.func140 rfl (n := 36) rfl (by decide +kernel) bl (fr := [(0, .slice a_s1 m_s1 c_s1), (1, .slice a_s2 m_s2 c_s2)]) rfl fun w L hR => ?_
 obtain ⟨hs1, hs2⟩ := hR
 obtain ⟨rfl, ls1⟩ := hs1.slen
 obtain ⟨rfl, ls2⟩ := hs2.slen
 refine Ew Z1 (Ei rfl (Eu (Eq_ (Ew Z3 (Em rfl (Ey rfl ((Y.len us_Is rfl).yd) (Em rfl (Eu (E.block (E.loop (κ := Nat) (fun g => g ≤ s1.length ∧ C3 s1 s2 = C3 (s1.drop g) (s2.drop g)) (fun g => [(0, .slice a_s1 s1.length c_s1), (1, .slice a_s2 s2.length c_s2), (9, .slice a_s1 s1.length c_s1), (10, .int .i64 (↑s1.length : Int)), (11, .int .i64 (g : Int))]) (fun g => []) (fun g => s1.length - g) 0 ⟨Nat.zero_le _, by simp⟩ ⟨rfl, rfl, rfl, rfl, rfl, trivial⟩ (.refl _) (fun g pg => ?_)))))))))))
 obtain ⟨pk, pa⟩ := pg
 refine Ew Z1 (Ey rfl ((Y.lss rfl rfl).yd) (j4 (fun q12 => ?_) (fun q12 => ?_)))
 ·refine Eu (Eq_ (j9 rfl (f5 (Et (Eq_ (E.block (Ew Z5 (Em rfl ?_))))))))
  obtain ⟨eb14, eo14, ea14, ei14, eh14⟩ := hs1.elemI g om
  refine Ey rfl ((o6 us_Is d9 rfl ea14 rfl g rfl om).yd) (Ey rfl (f6 d9 rfl (eh14 _) rfl) (Ei rfl (Ei rfl (Eu (Eq_ (Ew Z4 (Em rfl (Em rfl (Ey rfl ((Y.len us_Is rfl).yd) (Ey rfl ((Y.geq rfl rfl).yd) (j4 (fun q19 => ?_) (fun q19 => ?_))))))))))))
  ·refine Eu (j9 rfl (Ew Z1 (Ei rfl ?_)))
   exact Eu (E.ret (j5 (w9 (j5 (j5 (w9 (j5 (Fg rfl rfl () (congrArg (Value.int .i64) (by grind [C3, d1, d2, t1, t2])) rfl))))))))
  ·refine Eu (j8 rfl (f5 (Et (Ew Z5 (Em rfl (Em rfl ?_))))))
   obtain ⟨eb22, eo22, ea22, ei22, eh22⟩ := hs2.elemI g om
   refine Ey rfl ((o6 us_Is d9 rfl ea22 rfl g rfl om).yd) (Ey rfl (f6 d9 rfl (eh22 _) rfl) (Ei rfl (Ev Z4 (Em rfl (Em rfl (Est rfl (i8 X5 rfl rfl rfl dc tv) (fun _ _ => (Ei rfl (Ev Z2 (Em rfl (Ey rfl ((Y.neq rfl rfl).yd) (j4 (fun q28 => ?_) (fun q28 => ?_)))))))))))))
   ·refine Eu (j9 rfl (Ew Z2 (Em rfl (Ei rfl ?_))))
    exact Eu (E.ret (w9 (j5 (j5 (w9 (j5 (Fg rfl rfl () (congrArg (Value.int .i64) (by grind [C3, d1, d2, t1, t2])) rfl)))))))
   ·refine Eu (j8 rfl (f5 (n9 (Et (Ez Z2 (Ey rfl ((Y.add rfl rfl om om).yd) (Em rfl ?_)))))))
    exact Eu (t8 br (g + 1) rs (.refl _) ⟨by omega, by grind [C3, d1, d2, t1, t2]⟩ om)
 ·refine Eu (Eq_ (j8 rfl (E.exit (l2 (l2 (w8 (Et (Eq_ (Ew Z5 (Em rfl (Ey rfl ((Y.len us_Is rfl).yd) (Em rfl (Ey rfl ((Y.len us_Is rfl).yd) (Ey rfl ((Y.lss rfl rfl).yd) (j4 (fun q35 => ?_) (fun q35 => ?_))))))))))))))))
  ·refine Eu (j9 rfl (Ew Z1 (Ei rfl ?_)))
   exact Eu (E.ret (j5 (Fg rfl rfl () (congrArg (Value.int .i64) (by grind [C3, d1, d2, t1, t2])) rfl)))
  ·refine Eu (j8 rfl (f5 (Et (Ew Z1 (Ei rfl ?_)))))
   exact Eu (E.ret (Fg rfl rfl () (congrArg (Value.int .i64) (by grind [C3, d1, d2, t1, t2])) rfl))
theorem a1e : Tr Tryz.prog 124 [.agg #[.int .i64 f7, .slice P1 R5 P0], .agg #[.int .i64 V3, .slice n8 r7 n0]] (fun w L => I64 f7 ∧ Ro w L eIs [.slice P1 R5 P0] K6 ∧ I64 V3 ∧ Ro w L eIs [.slice n8 r7 n0] d4) [] (κ := Unit) (fun k => True) (fun k => .int .i64 (M7 (f7, K6) (V3, d4))) (fun k => []) := by
 refine Tr.intro Tryz.func124 rfl (n := 17) rfl (by decide +kernel) bl (fr := [(0, .agg #[.int .i64 f7, .slice P1 R5 P0]), (1, .agg #[.int .i64 V3, .slice n8 r7 n0])]) rfl fun w L hR => ?_
 obtain ⟨M0, W9, a9o, t6⟩ := hR
 obtain ⟨rfl, a7q⟩ := W9.slen
 obtain ⟨rfl, H0⟩ := t6.slen
 refine Ew Z3 (Est rfl (N.box (cs := [_, _]) rfl dc rfl) (fun b2 _ => (Est rfl (N.box (cs := [_, _]) rfl dc rfl) (fun b3 _ => (Ei rfl (Eu (Eq_ (D.region (fun j => true) mixed (Dyp 0 rfl (f9 fo_Fact_0 d9 dc rfl) (Dy 1 rfl (f6 d9 rfl (Hz (mS m0) 0 rfl) rfl) (Dyp 2 rfl (f9 fo_Fact_0 d9 dc rfl) (Dy 3 rfl (f6 d9 rfl (Hz m0 0 rfl) rfl) (Dyp 5 rfl (f9 fo_Fact_1 ty_Is dc rfl) (Dy 6 rfl (f6 ty_Is rfl (Hz (mS m0) 1 rfl) rfl) (Dyp 7 rfl (f9 fo_Fact_1 ty_Is dc rfl) (Dy 8 rfl (f6 ty_Is rfl (Hz m0 1 rfl) rfl) ?_))))))))))))))))
 have j1 := @a4Z f7 V3
 refine t7 4 rfl rfl kr (fun _ => rfl) (i8 X5 rfl rfl rfl dc tv) (fun _ _ => ?_)
 have j2 := @a4C K6 d4
 refine t7 9 rfl rfl kr (fun _ => rfl) (i8 Q8 rfl rfl rfl dc (fun w Lp hA => ⟨hA.ro W9, hA.ro t6⟩)) (fun _ _ => (t7 10 rfl rfl kr (fun _ => rfl) (Nb [_, _] [_, _] us_Is d9 rfl rfl) (fun b15 _ => (l3 (A := [_]) (Own.ints (e := tI) (xs := [G2 f7 V3, C3 K6 d4]) rfl (by simp [maxLen]) (by simp only [List.forall_mem_cons]; exact ⟨i6, i6, List.forall_mem_nil _⟩)) rfl (t7 11 rfl rfl kr (fun _ => rfl) (i8 a5q rfl rfl rfl dc (fun w Lp hA => hA.ow m0)) (fun _ _ => (Dyp 12 rfl (D8 rfl) ?_)))))))
 exact o0 kr (Et (E.ret (Fg rfl rfl () (congrArg (Value.int .i64) (by grind [M7, orI, d1, d2, t1, t2])) rfl)))
theorem L6 : Tr Tryz.prog 42 [.agg #[.int .i64 f7, .slice P1 R5 P0], .agg #[.int .i64 V3, .slice n8 r7 n0]] (fun w L => I64 f7 ∧ Ro w L eIs [.slice P1 R5 P0] K6 ∧ I64 V3 ∧ Ro w L eIs [.slice n8 r7 n0] d4) [] (κ := Unit) (fun k => True) (fun k => .int .i64 (M7 (f7, K6) (V3, d4))) (fun k => []) := by
 refine Tr.intro Tryz.func42 rfl (n := 66) rfl (by decide +kernel) bl (fr := [(0, .agg #[.int .i64 f7, .slice P1 R5 P0]), (1, .agg #[.int .i64 V3, .slice n8 r7 n0])]) rfl fun w L hR => ?_
 obtain ⟨M0, W9, a9o, t6⟩ := hR
 obtain ⟨rfl, a7q⟩ := W9.slen
 obtain ⟨rfl, H0⟩ := t6.slen
 refine Ew Z3 (Est rfl (N.box (cs := [_, _]) rfl dc rfl) (fun b2 _ => (Est rfl (N.box (cs := [_, _]) rfl dc rfl) (fun b3 _ => (Ei rfl (Eu (Eq_ (Ew Z5 (Ey rfl ((f9 fo_Fact_0 d9 dc rfl).yd) (Ey rfl (f6 d9 rfl (Hz (mS m0) 0 rfl) rfl) (Ey rfl ((f9 fo_Fact_0 d9 dc rfl).yd) (Ey rfl (f6 d9 rfl (Hz m0 0 rfl) rfl) (Ey rfl ((Y.neq rfl rfl).yd) (j4 (fun q10 => ?_) (fun q10 => ?_)))))))))))))))
 ·refine Eu (j9 rfl (Eq_ (Ew Z5 (Ey rfl ((f9 fo_Fact_0 d9 dc rfl).yd) (Ey rfl (f6 d9 rfl (Hz (mS m0) 0 rfl) rfl) (Ey rfl ((f9 fo_Fact_0 d9 dc rfl).yd) (Ey rfl (f6 d9 rfl (Hz m0 0 rfl) rfl) (Ey rfl ((Y.lss rfl rfl).yd) (j4 (fun q15 => ?_) (fun q15 => ?_))))))))))
  ·refine Eu (j9 rfl (Ew Z1 (Ei rfl ?_)))
   exact Eu (E.ret (j5 (j5 (Fg rfl rfl () (congrArg (Value.int .i64) (by grind [M7, G2, C3, d1, d2, t1, t2])) rfl))))
  ·refine Eu (j8 rfl (f5 (Et (Ew Z1 (Ei rfl ?_)))))
   exact Eu (E.ret (j5 (Fg rfl rfl () (congrArg (Value.int .i64) (by grind [M7, G2, C3, d1, d2, t1, t2])) rfl)))
 ·refine Eu (j8 rfl (f5 (Et (Eq_ (Ew Z1 (Ei rfl (Eu (E.block (E.loop (κ := Nat) (fun g => g ≤ K6.length ∧ g ≤ d4.length ∧ C3 K6 d4 = C3 (K6.drop g) (d4.drop g)) (fun g => [(2, .pointer (some ⟨b2, 0, none⟩)), (3, .pointer (some ⟨b3, 0, none⟩)), (5, .int .i64 (g : Int))]) (fun g => [pt b3 44 [.int .i64 V3, .slice n8 d4.length n0], pt b2 44 [.int .i64 f7, .slice P1 K6.length P0]]) (fun g => K6.length - g) 0 ⟨Nat.zero_le _, by simp⟩ ⟨rfl, rfl, rfl, trivial⟩ (.refl _) (fun g pg => ?_))))))))))
  obtain ⟨pk, pa⟩ := pg
  refine Eq_ (Ew Z12 (Em rfl (Ey rfl ((f9 fo_Fact_1 ty_Is dc rfl).yd) (Ey rfl (f6 ty_Is rfl (Hz (mS m0) 1 rfl) rfl) (Ey rfl ((Y.len us_Is rfl).yd) (Ey rfl ((Y.lss rfl rfl).yd) (j4 (fun q20 => ?_) (fun q20 => ?_))))))))
  ·refine Em rfl (Em rfl (Ey rfl ((f9 fo_Fact_1 ty_Is dc rfl).yd) (Ey rfl (f6 ty_Is rfl (Hz m0 1 rfl) rfl) (Ey rfl ((Y.len us_Is rfl).yd) (Ey rfl ((Y.lss rfl rfl).yd) (j4 (fun q26 => ?_) (fun q26 => ?_)))))))
   ·refine Ey rfl ((v6 rfl rfl).yd) (Eu (j9 rfl (f5 (Et (Eq_ (E.block (Eq_ (Eq_ (D.region (fun j => true) mixed (Dyp 0 rfl (f9 fo_Fact_1 ty_Is dc rfl) (Dy 1 rfl (f6 ty_Is rfl (Hz (mS m0) 1 rfl) rfl) (Dyp 2 rfl (i0 rfl) ?_))))))))))))
    obtain ⟨eb33, eo33, ea33, ei33, eh33⟩ := W9.elemI g om
    refine Dyp 3 rfl (o6 us_Is d9 rfl ea33 rfl g rfl om) (Dy 4 rfl (f6 d9 rfl (eh33 _) rfl) (Dyp 5 rfl (f9 fo_Fact_1 ty_Is dc rfl) (Dy 6 rfl (f6 ty_Is rfl (Hz m0 1 rfl) rfl) (Dyp 7 rfl (i0 rfl) ?_))))
    obtain ⟨eb38, eo38, ea38, ei38, eh38⟩ := t6.elemI g om
    refine Dyp 8 rfl (o6 us_Is d9 rfl ea38 rfl g rfl om) (Dy 9 rfl (f6 d9 rfl (eh38 _) rfl) (Dyp 10 rfl (Y.lss rfl rfl) (j4 (fun q40 => ?_) (fun q40 => ?_))))
    ·refine o0 kr (Et (j9 rfl (Ew Z1 (Ei rfl ?_))))
     exact Eu (E.ret (j5 (w9 (j5 (j5 (w9 (j5 (Fg rfl rfl () (congrArg (Value.int .i64) (by grind [M7, G2, C3, d1, d2, t1, t2])) rfl))))))))
    ·refine o0 kr (Et (j8 rfl (f5 (Et (Eq_ (D.region (fun j => true) mixed (Dyp 0 rfl (f9 fo_Fact_1 ty_Is dc rfl) (Dy 1 rfl (f6 ty_Is rfl (Hz (mS m0) 1 rfl) rfl) (Dyp 2 rfl (i0 rfl) (Dyp 3 rfl (o6 us_Is d9 rfl ea33 rfl g rfl om) (Dy 4 rfl (f6 d9 rfl (eh33 _) rfl) (Dyp 5 rfl (f9 fo_Fact_1 ty_Is dc rfl) (Dy 6 rfl (f6 ty_Is rfl (Hz m0 1 rfl) rfl) (Dyp 7 rfl (i0 rfl) (Dyp 8 rfl (o6 us_Is d9 rfl ea38 rfl g rfl om) (Dy 9 rfl (f6 d9 rfl (eh38 _) rfl) (Dyp 10 rfl (Y.gtr rfl rfl) (j4 (fun q51 => ?_) (fun q51 => ?_)))))))))))))))))))
     ·refine o0 kr (Et (j9 rfl (Ew Z1 (Ei rfl ?_))))
      exact Eu (E.ret (w9 (j5 (j5 (w9 (j5 (Fg rfl rfl () (congrArg (Value.int .i64) (by grind [M7, G2, C3, d1, d2, t1, t2])) rfl)))))))
     ·refine o0 kr (Et (j8 rfl (f5 (n9 (Et (Ez Z3 (Em rfl (Ey rfl ((Y.add rfl rfl om om).yd) (Ei rfl (Eu (d7 (d7 ?_))))))))))))
      exact t8 br (g + 1) rs (.refl _) ⟨by omega, by grind [C3, G2, d1, d2, t1, t2]⟩ om
   ·refine Ey rfl ((v6 rfl rfl).yd) (Eu (j8 rfl (E.exit (l2 (l2 (w8 (Et (Eq_ (Ew Z7 (Ey rfl ((f9 fo_Fact_1 ty_Is dc rfl).yd) (Ey rfl (f6 ty_Is rfl (Hz (mS m0) 1 rfl) rfl) (Ey rfl ((Y.len us_Is rfl).yd) (Ey rfl ((f9 fo_Fact_1 ty_Is dc rfl).yd) (Ey rfl (f6 ty_Is rfl (Hz m0 1 rfl) rfl) (Ey rfl ((Y.len us_Is rfl).yd) (Ey rfl ((Y.lss rfl rfl).yd) (j4 (fun q58 => ?_) (fun q58 => ?_))))))))))))))))))
    ·refine Eu (j9 rfl (Ew Z1 (Ei rfl ?_)))
     exact Eu (E.ret (j5 (Fg rfl rfl () (congrArg (Value.int .i64) (by grind [M7, G2, C3, d1, d2, t1, t2])) rfl)))
    ·refine Eu (j8 rfl (f5 (Et (Eq_ (Ew Z7 (Ey rfl ((f9 fo_Fact_1 ty_Is dc rfl).yd) (Ey rfl (f6 ty_Is rfl (Hz (mS m0) 1 rfl) rfl) (Ey rfl ((Y.len us_Is rfl).yd) (Ey rfl ((f9 fo_Fact_1 ty_Is dc rfl).yd) (Ey rfl (f6 ty_Is rfl (Hz m0 1 rfl) rfl) (Ey rfl ((Y.len us_Is rfl).yd) (Ey rfl ((Y.gtr rfl rfl).yd) (j4 (fun q65 => ?_) (fun q65 => ?_))))))))))))))
     ·refine Eu (j9 rfl (Ew Z1 (Ei rfl ?_)))
      exact Eu (E.ret (j5 (Fg rfl rfl () (congrArg (Value.int .i64) (by grind [M7, G2, C3, d1, d2, t1, t2])) rfl)))
     ·refine Eu (j8 rfl (f5 (Et (Ew Z1 (Ei rfl ?_)))))
      exact Eu (E.ret (Fg rfl rfl () (congrArg (Value.int .i64) (by grind [M7, G2, C3, d1, d2, t1, t2])) rfl))
  ·refine Em rfl (Es rfl (Es rfl (Es rfl (Es rfl (Es rfl (Ey rfl ((w7 rfl rfl).yd) (Eu (j8 rfl (E.exit (l2 (l2 (w8 (Et (Eq_ (Ew Z7 (Ey rfl ((f9 fo_Fact_1 ty_Is dc rfl).yd) (Ey rfl (f6 ty_Is rfl (Hz (mS m0) 1 rfl) rfl) (Ey rfl ((Y.len us_Is rfl).yd) (Ey rfl ((f9 fo_Fact_1 ty_Is dc rfl).yd) (Ey rfl (f6 ty_Is rfl (Hz m0 1 rfl) rfl) (Ey rfl ((Y.len us_Is rfl).yd) (Ey rfl ((Y.lss rfl rfl).yd) (j4 (fun q58 => ?_) (fun q58 => ?_))))))))))))))))))))))))
   ·refine Eu (j9 rfl (Ew Z1 (Ei rfl ?_)))
    exact Eu (E.ret (j5 (Fg rfl rfl () (congrArg (Value.int .i64) (by grind [M7, G2, C3, d1, d2, t1, t2])) rfl)))
   ·refine Eu (j8 rfl (f5 (Et (Eq_ (Ew Z7 (Ey rfl ((f9 fo_Fact_1 ty_Is dc rfl).yd) (Ey rfl (f6 ty_Is rfl (Hz (mS m0) 1 rfl) rfl) (Ey rfl ((Y.len us_Is rfl).yd) (Ey rfl ((f9 fo_Fact_1 ty_Is dc rfl).yd) (Ey rfl (f6 ty_Is rfl (Hz m0 1 rfl) rfl) (Ey rfl ((Y.len us_Is rfl).yd) (Ey rfl ((Y.gtr rfl rfl).yd) (j4 (fun q65 => ?_) (fun q65 => ?_))))))))))))))
    ·refine Eu (j9 rfl (Ew Z1 (Ei rfl ?_)))
     exact Eu (E.ret (j5 (Fg rfl rfl () (congrArg (Value.int .i64) (by grind [M7, G2, C3, d1, d2, t1, t2])) rfl)))
    ·refine Eu (j8 rfl (f5 (Et (Ew Z1 (Ei rfl ?_)))))
     exact Eu (E.ret (Fg rfl rfl () (congrArg (Value.int .i64) (by grind [M7, G2, C3, d1, d2, t1, t2])) rfl))
theorem M6 : Tr Tryz.prog 64 [.slice a_s1 m_s1 c_s1, .slice a_s2 m_s2 c_s2] (fun w L => Ro w L eIs [.slice a_s1 m_s1 c_s1] s1 ∧ Ro w L eIs [.slice a_s2 m_s2 c_s2] s2) [] (κ := Unit) (fun k => True) (fun k => .bool (decide (s1 = s2))) (fun k => []) := by
 refine Tr.intro Tryz.func64 rfl (n := 26) rfl (by decide +kernel) bl (fr := [(0, .slice a_s1 m_s1 c_s1), (1, .slice a_s2 m_s2 c_s2)]) rfl fun w L hR => ?_
 obtain ⟨hs1, hs2⟩ := hR
 obtain ⟨rfl, ls1⟩ := hs1.slen
 obtain ⟨rfl, ls2⟩ := hs2.slen
 refine Ew Z1 (Ei rfl (Eu (Eq_ (Ew Z5 (Em rfl (Ey rfl ((Y.len us_Is rfl).yd) (Em rfl (Ey rfl ((Y.len us_Is rfl).yd) (Ey rfl ((Y.neq rfl rfl).yd) (j4 (fun q10 => ?_) (fun q10 => ?_)))))))))))
 ·refine Eu (j9 rfl (Ew Z1 (Ei rfl ?_)))
  exact Eu (E.ret (j5 (Fb rfl rfl (by grind [d1, d2, t1, t2]))))
 ·refine Eu (j8 rfl (f5 (Et (Eq_ (Ew Z3 (Em rfl (Ey rfl ((Y.len us_Is rfl).yd) (Em rfl (Eu (E.block (E.loop (κ := Nat) (fun g => g ≤ s1.length ∧ s1.length = s2.length ∧ (s1 = s2 ↔ s1.drop g = s2.drop g)) (fun g => [(0, .slice a_s1 s1.length c_s1), (1, .slice a_s2 s2.length c_s2), (12, .int .i64 (↑s1.length : Int)), (13, .int .i64 (g : Int))]) (fun g => []) (fun g => s1.length - g) 0 ⟨Nat.zero_le _, by exact ⟨by omega, by simp⟩⟩ ⟨rfl, rfl, rfl, rfl, trivial⟩ (.refl _) (fun g pg => ?_))))))))))))
  obtain ⟨pk, pa⟩ := pg
  refine Ew Z1 (Ey rfl ((Y.lss rfl rfl).yd) (j4 (fun q14 => ?_) (fun q14 => ?_)))
  ·refine Eu (Eq_ (j9 rfl (f5 (Et (Eq_ (E.block (Ew Z2 (Em rfl (Ei rfl (Eu (Eq_ (D.region (fun j => true) mixed (Dyp 0 rfl (i0 rfl) (Dyp 1 rfl (i0 rfl) ?_))))))))))))))
   obtain ⟨eb18, eo18, ea18, ei18, eh18⟩ := hs1.elemI g om
   refine Dyp 2 rfl (o6 us_Is d9 rfl ea18 rfl g rfl om) (Dy 3 rfl (f6 d9 rfl (eh18 _) rfl) (Dyp 4 rfl (i0 rfl) (Dyp 5 rfl (i0 rfl) ?_)))
   obtain ⟨eb22, eo22, ea22, ei22, eh22⟩ := hs2.elemI g om
   refine Dyp 6 rfl (o6 us_Is d9 rfl ea22 rfl g rfl om) (Dy 7 rfl (f6 d9 rfl (eh22 _) rfl) (Dyp 8 rfl (Y.neq rfl rfl) (j4 (fun q24 => ?_) (fun q24 => ?_))))
   ·refine o0 kr (Et (j9 rfl (Ew Z1 (Ei rfl ?_))))
    exact Eu (E.ret (w9 (j5 (j5 (w9 (j5 (Fb rfl rfl (by grind [d1, d2, t1, t2]))))))))
   ·refine o0 kr (Et (j8 rfl (f5 (n9 (Et (Ez Z2 (Ey rfl ((Y.add rfl rfl om om).yd) (Em rfl ?_))))))))
    exact Eu (t8 br (g + 1) rs (.refl _) ⟨by omega, by grind [d1, d2, t1, t2]⟩ om)
  ·refine Eu (Eq_ (j8 rfl (E.exit (l2 (l2 (w8 (Et (Ew Z1 (Ei rfl ?_)))))))))
   exact Eu (E.ret (Fb rfl rfl (by grind [d1, d2, t1, t2])))
theorem X0 {a_a : Option Addr} {m_a c_a : Nat} {a : List Int} {a_b : Option Addr} {m_b c_b : Nat} {b : List Int} : Tr Tryz.prog 58 [.slice a_a m_a c_a, .slice a_b m_b c_b] (fun w L => Ro w L eIs [.slice a_a m_a c_a] a ∧ Ro w L eIs [.slice a_b m_b c_b] b) [] (κ := Unit) (fun k => True) (fun k => .bool (decide (a = b))) (fun k => []) := by
 refine Tr.intro Tryz.func58 rfl (n := 26) rfl (by decide +kernel) bl (fr := [(0, .slice a_a m_a c_a), (1, .slice a_b m_b c_b)]) rfl fun w L hR => ?_
 obtain ⟨ha, hb⟩ := hR
 obtain ⟨rfl, la⟩ := ha.slen
 obtain ⟨rfl, lb⟩ := hb.slen
 refine Ew Z1 (Ei rfl (Eu (Eq_ (Ew Z5 (Em rfl (Ey rfl ((Y.len us_Is rfl).yd) (Em rfl (Ey rfl ((Y.len us_Is rfl).yd) (Ey rfl ((Y.neq rfl rfl).yd) (j4 (fun q10 => ?_) (fun q10 => ?_)))))))))))
 ·refine Eu (j9 rfl (Ew Z1 (Ei rfl ?_)))
  exact Eu (E.ret (j5 (Fb rfl rfl (by grind [d1, d2, t1, t2]))))
 ·refine Eu (j8 rfl (f5 (Et (Eq_ (Ew Z1 (Ei rfl (Eu (E.block (E.loop (κ := Nat) (fun g => g ≤ a.length ∧ a.length = b.length ∧ (a = b ↔ a.drop g = b.drop g)) (fun g => [(0, .slice a_a a.length c_a), (1, .slice a_b b.length c_b), (5, .int .i64 (g : Int))]) (fun g => []) (fun g => a.length - g) 0 ⟨Nat.zero_le _, by exact ⟨by omega, by simp⟩⟩ ⟨rfl, rfl, rfl, trivial⟩ (.refl _) (fun g pg => ?_))))))))))
  obtain ⟨pk, pa⟩ := pg
  refine Eq_ (Ew Z4 (Em rfl (Em rfl (Ey rfl ((Y.len us_Is rfl).yd) (Ey rfl ((Y.lss rfl rfl).yd) (j4 (fun q14 => ?_) (fun q14 => ?_)))))))
  ·refine Eu (j9 rfl (f5 (Et (Eq_ (E.block (Eq_ (D.region (fun j => true) mixed (Dyp 0 rfl (i0 rfl) (Dyp 1 rfl (i0 rfl) ?_)))))))))
   obtain ⟨eb19, eo19, ea19, ei19, eh19⟩ := ha.elemI g om
   refine Dyp 2 rfl (o6 us_Is d9 rfl ea19 rfl g rfl om) (Dy 3 rfl (f6 d9 rfl (eh19 _) rfl) (Dyp 4 rfl (i0 rfl) (Dyp 5 rfl (i0 rfl) ?_)))
   obtain ⟨eb23, eo23, ea23, ei23, eh23⟩ := hb.elemI g om
   refine Dyp 6 rfl (o6 us_Is d9 rfl ea23 rfl g rfl om) (Dy 7 rfl (f6 d9 rfl (eh23 _) rfl) (Dyp 8 rfl (Y.neq rfl rfl) (j4 (fun q25 => ?_) (fun q25 => ?_))))
   ·refine o0 kr (Et (j9 rfl (Ew Z1 (Ei rfl ?_))))
    exact Eu (E.ret (w9 (j5 (j5 (w9 (j5 (Fb rfl rfl (by grind [d1, d2, t1, t2]))))))))
   ·refine o0 kr (Et (j8 rfl (f5 (n9 (Et (Ez Z3 (Em rfl (Ey rfl ((Y.add rfl rfl om om).yd) (Ei rfl ?_)))))))))
    exact Eu (t8 br (g + 1) rs (.refl _) ⟨by omega, by grind [d1, d2, t1, t2]⟩ om)
  ·refine Eu (j8 rfl (E.exit (l2 (l2 (w8 (Et (Ew Z1 (Ei rfl ?_))))))))
   exact Eu (E.ret (Fb rfl rfl (by grind [d1, d2, t1, t2])))
end Go.Proofs.YtfnbilpemdgkkaaGreatDoor
