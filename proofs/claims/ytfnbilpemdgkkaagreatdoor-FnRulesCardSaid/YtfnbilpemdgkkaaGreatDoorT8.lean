import Derived.Test.YtfnbilpemdgkkaaGreatDoorT5
namespace Go.Proofs.YtfnbilpemdgkkaaGreatDoor
open Go.RowKit
set_option linter.all false
set_option maxHeartbeats 2000000
attribute [local irreducible] Nop Yd Yp Ent Has Tr FnP FnP2 Src
variable {x U8 U9 : Int} {J6 L8 : List Int} {Q8 O0 Q9 O1 : Nat} {O2 O3 : Option Addr}
theorem a1a : Tr Tryz.prog 196 [.int .i64 x] (fun w L => True) [] (κ := Unit) (fun k => True) (fun k => .bool (false)) (fun k => []) := by
 refine f8 Tryz.func196 rfl (n := 6) rfl (by decide +kernel) bl (fr := [(0, .int .i64 x)]) rfl fun w L hR => (Ew Z1 (Ei rfl (Ev Z4 (Em rfl (Em rfl (Ey rfl ((Y.neq rfl rfl).yd) (Ei rfl ?_)))))))
 exact Eu (E.ret (Fb rfl rfl (by simp)))
theorem a0e {y : Int} : Tr Tryz.prog 167 [.int .i64 x, .int .i64 y] (fun w L => True) [] (κ := Unit) (fun k => True) (fun k => .int .i64 (G7 x y)) (fun k => []) := by
 refine f8 Tryz.func167 rfl (n := 20) rfl (by decide +kernel) bl (fr := [(0, .int .i64 x), (1, .int .i64 y)]) rfl fun w L hR => (Ew Z1 (Ei rfl (Ev Z3 (Em rfl (Est rfl (f5 a1a rfl rfl rfl dc tv) (fun _ _ => (Ei rfl (Ev Z3 (Em rfl (Est rfl (f5 a1a rfl rfl rfl dc tv) (fun _ _ => (Ei rfl (Eu (Eq_ (Ew Z1 (Em rfl (Eu (l4 rfl (d9 (Et (Eq_ (Ew Z1 (Em rfl (Eu (l4 rfl (d9 (Et (Eq_ (Ew Z3 (Em rfl (Em rfl (Ey rfl ((Y.lss rfl rfl).yd) (j8 (fun q16 => ?_) (fun q16 => ?_))))))))))))))))))))))))))))))))))
 ·refine Eu (l3 rfl (Ew Z1 (Ei rfl ?_)))
  exact Eu (E.ret (j0 (Fg rfl rfl () (congrArg (Value.int .i64) (by grind [G7, d1, d2, t1, t2])) rfl)))
 ·refine Eu (l4 rfl (d9 (Et (Eq_ (Ew Z3 (Em rfl (Em rfl (Ey rfl ((Y.gtr rfl rfl).yd) (j8 (fun q19 => ?_) (fun q19 => ?_))))))))))
  ·refine Eu (l3 rfl (Ew Z1 (Ei rfl ?_)))
   exact Eu (E.ret (j0 (Fg rfl rfl () (congrArg (Value.int .i64) (by grind [G7, d1, d2, t1, t2])) rfl)))
  ·refine Eu (l4 rfl (d9 (Et (Ew Z1 (Ei rfl ?_)))))
   exact Eu (E.ret (Fg rfl rfl () (congrArg (Value.int .i64) (by grind [G7, d1, d2, t1, t2])) rfl))
theorem a6T {a_vals : Option Addr} {m_vals c_vals : Nat} {u9 : List Int} : Tr Tryz.prog 166 [.slice a_vals m_vals c_vals] (fun w L => Ro w L eIs [.slice a_vals m_vals c_vals] u9) [] (κ := Unit) (fun k => True) (fun k => .int .i64 (orI u9)) (fun k => []) := by
 refine f8 Tryz.func166 rfl (n := 18) rfl (by decide +kernel) bl (fr := [(0, .slice a_vals m_vals c_vals)]) rfl fun w L hR => ?_
 have hvals := hR
 obtain ⟨rfl, lvals⟩ := hvals.slen
 refine Ew Z1 (Ei rfl (Ev Z1 (Ei rfl (Eu (Eq_ (Ew Z3 (Em rfl (Ey rfl ((Y.len us_Is rfl).yd) (Em rfl (Eu (E.block (E.loop (κ := Nat) (fun g => g ≤ u9.length ∧ orI u9 = orI (u9.drop g)) (fun g => [(3, .int .i64 0), (6, .slice a_vals u9.length c_vals), (7, .int .i64 (↑u9.length : Int)), (8, .int .i64 (g : Int))]) (fun g => []) (fun g => u9.length - g) 0 ⟨Nat.zero_le _, by simp⟩ ⟨rfl, rfl, rfl, rfl, trivial⟩ (.refl _) (fun g pg => ?_)))))))))))))
 obtain ⟨pk, pa⟩ := pg
 refine Ew Z1 (Ey rfl ((Y.lss rfl rfl).yd) (j8 (fun q9 => ?_) (fun q9 => ?_)))
 ·obtain ⟨eb10, eo10, ea10, ei10, eh10⟩ := hvals.elemI g om
  refine Eu (Eq_ (l3 rfl (d9 (Et (Eq_ (E.block (Ew Z3 (Ey rfl ((r8 us_Is f4 rfl ea10 rfl g rfl om).yd) (Ey rfl (f7 f4 rfl (eh10 _) rfl) (Ei rfl (Ev Z3 (Em rfl (Em rfl (Ey rfl ((Y.neq rfl rfl).yd) (j8 (fun q14 => ?_) (fun q14 => ?_))))))))))))))))
  ·refine Eu (l3 rfl (Ew Z2 (Em rfl (Ei rfl ?_))))
   exact Eu (E.ret (w8 (j0 (j0 (w8 (j0 (Fg rfl rfl () (congrArg (Value.int .i64) (by grind [orI, d1, d2, t1, t2])) rfl)))))))
  ·refine Eu (l4 rfl (d9 (o2 (Et (Ez Z2 (Ey rfl ((Y.add rfl rfl om om).yd) (Em rfl ?_)))))))
   exact Eu (u7 br (g + 1) rs (.refl _) ⟨by omega, by grind [orI, d1, d2, t1, t2]⟩ om)
 ·refine Eu (Eq_ (l4 rfl (E.exit (n8 (n8 (w7 (Et (Ew Z2 (Em rfl (Ei rfl ?_))))))))))
  exact Eu (E.ret (Fg rfl rfl () (congrArg (Value.int .i64) (by grind [orI, d1, d2, t1, t2])) rfl))
theorem a0L {a_s1 : Option Addr} {m_s1 c_s1 : Nat} {s1 : List Int} {a_s2 : Option Addr} {m_s2 c_s2 : Nat} {s2 : List Int} : Tr Tryz.prog 140 [.slice a_s1 m_s1 c_s1, .slice a_s2 m_s2 c_s2] (fun w L => Ro w L eIs [.slice a_s1 m_s1 c_s1] s1 ∧ Ro w L eIs [.slice a_s2 m_s2 c_s2] s2) [] (κ := Unit) (fun k => True) (fun k => .int .i64 (C4 s1 s2)) (fun k => []) := by
 refine f8 Tryz.func140 rfl (n := 36) rfl (by decide +kernel) bl (fr := [(0, .slice a_s1 m_s1 c_s1), (1, .slice a_s2 m_s2 c_s2)]) rfl fun w L hR => ?_
 obtain ⟨hs1, hs2⟩ := hR
 obtain ⟨rfl, ls1⟩ := hs1.slen
 obtain ⟨rfl, ls2⟩ := hs2.slen
 refine Ew Z1 (Ei rfl (Eu (Eq_ (Ew Z3 (Em rfl (Ey rfl ((Y.len us_Is rfl).yd) (Em rfl (Eu (E.block (E.loop (κ := Nat) (fun g => g ≤ s1.length ∧ C4 s1 s2 = C4 (s1.drop g) (s2.drop g)) (fun g => [(0, .slice a_s1 s1.length c_s1), (1, .slice a_s2 s2.length c_s2), (9, .slice a_s1 s1.length c_s1), (10, .int .i64 (↑s1.length : Int)), (11, .int .i64 (g : Int))]) (fun g => []) (fun g => s1.length - g) 0 ⟨Nat.zero_le _, by simp⟩ ⟨rfl, rfl, rfl, rfl, rfl, trivial⟩ (.refl _) (fun g pg => ?_)))))))))))
 obtain ⟨pk, pa⟩ := pg
 refine Ew Z1 (Ey rfl ((Y.lss rfl rfl).yd) (j8 (fun q12 => ?_) (fun q12 => ?_)))
 ·refine Eu (Eq_ (l3 rfl (d9 (Et (Eq_ (E.block (Ew Z5 (Em rfl ?_))))))))
  obtain ⟨eb14, eo14, ea14, ei14, eh14⟩ := hs1.elemI g om
  refine Ey rfl ((r8 us_Is f4 rfl ea14 rfl g rfl om).yd) (Ey rfl (f7 f4 rfl (eh14 _) rfl) (Ei rfl (Ei rfl (Eu (Eq_ (Ew Z4 (Em rfl (Em rfl (Ey rfl ((Y.len us_Is rfl).yd) (Ey rfl ((Y.geq rfl rfl).yd) (j8 (fun q19 => ?_) (fun q19 => ?_))))))))))))
  ·refine Eu (l3 rfl (Ew Z1 (Ei rfl ?_)))
   exact Eu (E.ret (j0 (w8 (j0 (j0 (w8 (j0 (Fg rfl rfl () (congrArg (Value.int .i64) (by grind [C4, d1, d2, t1, t2])) rfl))))))))
  ·refine Eu (l4 rfl (d9 (Et (Ew Z5 (Em rfl (Em rfl ?_))))))
   obtain ⟨eb22, eo22, ea22, ei22, eh22⟩ := hs2.elemI g om
   refine Ey rfl ((r8 us_Is f4 rfl ea22 rfl g rfl om).yd) (Ey rfl (f7 f4 rfl (eh22 _) rfl) (Ei rfl (Ev Z4 (Em rfl (Em rfl (Est rfl (f5 a0e rfl rfl rfl dc tv) (fun _ _ => (Ei rfl (Ev Z2 (Em rfl (Ey rfl ((Y.neq rfl rfl).yd) (j8 (fun q28 => ?_) (fun q28 => ?_)))))))))))))
   ·refine Eu (l3 rfl (Ew Z2 (Em rfl (Ei rfl ?_))))
    exact Eu (E.ret (w8 (j0 (j0 (w8 (j0 (Fg rfl rfl () (congrArg (Value.int .i64) (by grind [C4, d1, d2, t1, t2])) rfl)))))))
   ·refine Eu (l4 rfl (d9 (o2 (Et (Ez Z2 (Ey rfl ((Y.add rfl rfl om om).yd) (Em rfl ?_)))))))
    exact Eu (u7 br (g + 1) rs (.refl _) ⟨by omega, by grind [C4, d1, d2, t1, t2]⟩ om)
 ·refine Eu (Eq_ (l4 rfl (E.exit (n8 (n8 (w7 (Et (Eq_ (Ew Z5 (Em rfl (Ey rfl ((Y.len us_Is rfl).yd) (Em rfl (Ey rfl ((Y.len us_Is rfl).yd) (Ey rfl ((Y.lss rfl rfl).yd) (j8 (fun q35 => ?_) (fun q35 => ?_))))))))))))))))
  ·refine Eu (l3 rfl (Ew Z1 (Ei rfl ?_)))
   exact Eu (E.ret (j0 (Fg rfl rfl () (congrArg (Value.int .i64) (by grind [C4, d1, d2, t1, t2])) rfl)))
  ·refine Eu (l4 rfl (d9 (Et (Ew Z1 (Ei rfl ?_)))))
   exact Eu (E.ret (Fg rfl rfl () (congrArg (Value.int .i64) (by grind [C4, d1, d2, t1, t2])) rfl))
theorem G2 : Tr Tryz.prog 124 [.agg #[.int .i64 U8, .slice O2 Q8 O0], .agg #[.int .i64 U9, .slice O3 Q9 O1]] (fun w L => I64 U8 ∧ Ro w L eIs [.slice O2 Q8 O0] J6 ∧ I64 U9 ∧ Ro w L eIs [.slice O3 Q9 O1] L8) [] (κ := Unit) (fun k => True) (fun k => .int .i64 (C0 (U8, J6) (U9, L8))) (fun k => []) := by
 refine f8 Tryz.func124 rfl (n := 17) rfl (by decide +kernel) bl (fr := [(0, .agg #[.int .i64 U8, .slice O2 Q8 O0]), (1, .agg #[.int .i64 U9, .slice O3 Q9 O1])]) rfl fun w L hR => ?_
 obtain ⟨b2U, Y7, b2V, Y8⟩ := hR
 obtain ⟨rfl, b0b⟩ := Y7.slen
 obtain ⟨rfl, b0c⟩ := Y8.slen
 refine Ew Z3 (Est rfl (N.box (cs := [_, _]) rfl dc rfl) (fun b2 _ => (Est rfl (N.box (cs := [_, _]) rfl dc rfl) (fun b3 _ => (Ei rfl (Eu (Eq_ (D.region (fun j => true) mixed (Dyp 0 rfl (g9 fo_Fact_0 f4 dc rfl) (Dy 1 rfl (f7 f4 rfl (Hz (mS m0) 0 rfl) rfl) (Dyp 2 rfl (g9 fo_Fact_0 f4 dc rfl) (Dy 3 rfl (f7 f4 rfl (Hz m0 0 rfl) rfl) (Dyp 5 rfl (g9 fo_Fact_1 ty_Is dc rfl) (Dy 6 rfl (f7 ty_Is rfl (Hz (mS m0) 1 rfl) rfl) (Dyp 7 rfl (g9 fo_Fact_1 ty_Is dc rfl) (Dy 8 rfl (f7 ty_Is rfl (Hz m0 1 rfl) rfl) ?_))))))))))))))))
 have j1 := @a7b U8 U9
 refine w3 4 rfl rfl kr (fun _ => rfl) (f5 a0e rfl rfl rfl dc tv) (fun _ _ => ?_)
 have j2 := @a6Z J6 L8
 refine w3 9 rfl rfl kr (fun _ => rfl) (f5 a0L rfl rfl rfl dc (fun w Lp hA => ⟨hA.ro Y7, hA.ro Y8⟩)) (fun _ _ => (w3 10 rfl rfl kr (fun _ => rfl) (Nb [_, _] [_, _] us_Is f4 rfl rfl) (fun b15 _ => (o1 (A := [_]) (Own.ints (e := tI) (xs := [G7 U8 U9, C4 J6 L8]) rfl (by simp [maxLen]) (by simp only [List.forall_mem_cons]; exact ⟨i6, i6, List.forall_mem_nil _⟩)) rfl (w3 11 rfl rfl kr (fun _ => rfl) (f5 a6T rfl rfl rfl dc (fun w Lp hA => hA.ow m0)) (fun _ _ => (Dyp 12 rfl (F1 rfl) ?_)))))))
 exact o3 kr (Et (E.ret (Fg rfl rfl () (congrArg (Value.int .i64) (by grind [C0, orI, d1, d2, t1, t2])) rfl)))
theorem B3 : Tr Tryz.prog 42 [.agg #[.int .i64 U8, .slice O2 Q8 O0], .agg #[.int .i64 U9, .slice O3 Q9 O1]] (fun w L => I64 U8 ∧ Ro w L eIs [.slice O2 Q8 O0] J6 ∧ I64 U9 ∧ Ro w L eIs [.slice O3 Q9 O1] L8) [] (κ := Unit) (fun k => True) (fun k => .int .i64 (C0 (U8, J6) (U9, L8))) (fun k => []) := by
 refine f8 Tryz.func42 rfl (n := 66) rfl (by decide +kernel) bl (fr := [(0, .agg #[.int .i64 U8, .slice O2 Q8 O0]), (1, .agg #[.int .i64 U9, .slice O3 Q9 O1])]) rfl fun w L hR => ?_
 obtain ⟨b2U, Y7, b2V, Y8⟩ := hR
 obtain ⟨rfl, b0b⟩ := Y7.slen
 obtain ⟨rfl, b0c⟩ := Y8.slen
 refine Ew Z3 (Est rfl (N.box (cs := [_, _]) rfl dc rfl) (fun b2 _ => (Est rfl (N.box (cs := [_, _]) rfl dc rfl) (fun b3 _ => (Ei rfl (Eu (Eq_ (Ew Z5 (Ey rfl ((g9 fo_Fact_0 f4 dc rfl).yd) (Ey rfl (f7 f4 rfl (Hz (mS m0) 0 rfl) rfl) (Ey rfl ((g9 fo_Fact_0 f4 dc rfl).yd) (Ey rfl (f7 f4 rfl (Hz m0 0 rfl) rfl) (Ey rfl ((Y.neq rfl rfl).yd) (j8 (fun q10 => ?_) (fun q10 => ?_)))))))))))))))
 ·refine Eu (l3 rfl (Eq_ (Ew Z5 (Ey rfl ((g9 fo_Fact_0 f4 dc rfl).yd) (Ey rfl (f7 f4 rfl (Hz (mS m0) 0 rfl) rfl) (Ey rfl ((g9 fo_Fact_0 f4 dc rfl).yd) (Ey rfl (f7 f4 rfl (Hz m0 0 rfl) rfl) (Ey rfl ((Y.lss rfl rfl).yd) (j8 (fun q15 => ?_) (fun q15 => ?_))))))))))
  ·refine Eu (l3 rfl (Ew Z1 (Ei rfl ?_)))
   exact Eu (E.ret (j0 (j0 (Fg rfl rfl () (congrArg (Value.int .i64) (by grind [C0, G7, C4, d1, d2, t1, t2])) rfl))))
  ·refine Eu (l4 rfl (d9 (Et (Ew Z1 (Ei rfl ?_)))))
   exact Eu (E.ret (j0 (Fg rfl rfl () (congrArg (Value.int .i64) (by grind [C0, G7, C4, d1, d2, t1, t2])) rfl)))
 ·refine Eu (l4 rfl (d9 (Et (Eq_ (Ew Z1 (Ei rfl (Eu (E.block (E.loop (κ := Nat) (fun g => g ≤ J6.length ∧ g ≤ L8.length ∧ C4 J6 L8 = C4 (J6.drop g) (L8.drop g)) (fun g => [(2, .pointer (some ⟨b2, 0, none⟩)), (3, .pointer (some ⟨b3, 0, none⟩)), (5, .int .i64 (g : Int))]) (fun g => [pt b3 44 [.int .i64 U9, .slice O3 L8.length O1], pt b2 44 [.int .i64 U8, .slice O2 J6.length O0]]) (fun g => J6.length - g) 0 ⟨Nat.zero_le _, by simp⟩ ⟨rfl, rfl, rfl, trivial⟩ (.refl _) (fun g pg => ?_))))))))))
  obtain ⟨pk, pa⟩ := pg
  refine Eq_ (Ew Z12 (Em rfl (Ey rfl ((g9 fo_Fact_1 ty_Is dc rfl).yd) (Ey rfl (f7 ty_Is rfl (Hz (mS m0) 1 rfl) rfl) (Ey rfl ((Y.len us_Is rfl).yd) (Ey rfl ((Y.lss rfl rfl).yd) (j8 (fun q20 => ?_) (fun q20 => ?_))))))))
  ·refine Em rfl (Em rfl (Ey rfl ((g9 fo_Fact_1 ty_Is dc rfl).yd) (Ey rfl (f7 ty_Is rfl (Hz m0 1 rfl) rfl) (Ey rfl ((Y.len us_Is rfl).yd) (Ey rfl ((Y.lss rfl rfl).yd) (j8 (fun q26 => ?_) (fun q26 => ?_)))))))
   ·refine Ey rfl ((o0 rfl rfl).yd) (Eu (l3 rfl (d9 (Et (Eq_ (E.block (Eq_ (Eq_ (D.region (fun j => true) mixed (Dyp 0 rfl (g9 fo_Fact_1 ty_Is dc rfl) (Dy 1 rfl (f7 ty_Is rfl (Hz (mS m0) 1 rfl) rfl) (Dyp 2 rfl (g0 rfl) ?_))))))))))))
    obtain ⟨eb33, eo33, ea33, ei33, eh33⟩ := Y7.elemI g om
    refine Dyp 3 rfl (r8 us_Is f4 rfl ea33 rfl g rfl om) (Dy 4 rfl (f7 f4 rfl (eh33 _) rfl) (Dyp 5 rfl (g9 fo_Fact_1 ty_Is dc rfl) (Dy 6 rfl (f7 ty_Is rfl (Hz m0 1 rfl) rfl) (Dyp 7 rfl (g0 rfl) ?_))))
    obtain ⟨eb38, eo38, ea38, ei38, eh38⟩ := Y8.elemI g om
    refine Dyp 8 rfl (r8 us_Is f4 rfl ea38 rfl g rfl om) (Dy 9 rfl (f7 f4 rfl (eh38 _) rfl) (Dyp 10 rfl (Y.lss rfl rfl) (j8 (fun q40 => ?_) (fun q40 => ?_))))
    ·refine o3 kr (Et (l3 rfl (Ew Z1 (Ei rfl ?_))))
     exact Eu (E.ret (j0 (w8 (j0 (j0 (w8 (j0 (Fg rfl rfl () (congrArg (Value.int .i64) (by grind [C0, G7, C4, d1, d2, t1, t2])) rfl))))))))
    ·refine o3 kr (Et (l4 rfl (d9 (Et (Eq_ (D.region (fun j => true) mixed (Dyp 0 rfl (g9 fo_Fact_1 ty_Is dc rfl) (Dy 1 rfl (f7 ty_Is rfl (Hz (mS m0) 1 rfl) rfl) (Dyp 2 rfl (g0 rfl) (Dyp 3 rfl (r8 us_Is f4 rfl ea33 rfl g rfl om) (Dy 4 rfl (f7 f4 rfl (eh33 _) rfl) (Dyp 5 rfl (g9 fo_Fact_1 ty_Is dc rfl) (Dy 6 rfl (f7 ty_Is rfl (Hz m0 1 rfl) rfl) (Dyp 7 rfl (g0 rfl) (Dyp 8 rfl (r8 us_Is f4 rfl ea38 rfl g rfl om) (Dy 9 rfl (f7 f4 rfl (eh38 _) rfl) (Dyp 10 rfl (Y.gtr rfl rfl) (j8 (fun q51 => ?_) (fun q51 => ?_)))))))))))))))))))
     ·refine o3 kr (Et (l3 rfl (Ew Z1 (Ei rfl ?_))))
      exact Eu (E.ret (w8 (j0 (j0 (w8 (j0 (Fg rfl rfl () (congrArg (Value.int .i64) (by grind [C0, G7, C4, d1, d2, t1, t2])) rfl)))))))
     ·refine o3 kr (Et (l4 rfl (d9 (o2 (Et (Ez Z3 (Em rfl (Ey rfl ((Y.add rfl rfl om om).yd) (Ei rfl (Eu (d7 (d7 ?_))))))))))))
      exact u7 br (g + 1) rs (.refl _) ⟨by omega, by grind [C4, G7, d1, d2, t1, t2]⟩ om
   ·refine Ey rfl ((o0 rfl rfl).yd) (Eu (l4 rfl (E.exit (n8 (n8 (w7 (Et (Eq_ (Ew Z7 (Ey rfl ((g9 fo_Fact_1 ty_Is dc rfl).yd) (Ey rfl (f7 ty_Is rfl (Hz (mS m0) 1 rfl) rfl) (Ey rfl ((Y.len us_Is rfl).yd) (Ey rfl ((g9 fo_Fact_1 ty_Is dc rfl).yd) (Ey rfl (f7 ty_Is rfl (Hz m0 1 rfl) rfl) (Ey rfl ((Y.len us_Is rfl).yd) (Ey rfl ((Y.lss rfl rfl).yd) (j8 (fun q58 => ?_) (fun q58 => ?_))))))))))))))))))
    ·refine Eu (l3 rfl (Ew Z1 (Ei rfl ?_)))
     exact Eu (E.ret (j0 (Fg rfl rfl () (congrArg (Value.int .i64) (by grind [C0, G7, C4, d1, d2, t1, t2])) rfl)))
    ·refine Eu (l4 rfl (d9 (Et (Eq_ (Ew Z7 (Ey rfl ((g9 fo_Fact_1 ty_Is dc rfl).yd) (Ey rfl (f7 ty_Is rfl (Hz (mS m0) 1 rfl) rfl) (Ey rfl ((Y.len us_Is rfl).yd) (Ey rfl ((g9 fo_Fact_1 ty_Is dc rfl).yd) (Ey rfl (f7 ty_Is rfl (Hz m0 1 rfl) rfl) (Ey rfl ((Y.len us_Is rfl).yd) (Ey rfl ((Y.gtr rfl rfl).yd) (j8 (fun q65 => ?_) (fun q65 => ?_))))))))))))))
     ·refine Eu (l3 rfl (Ew Z1 (Ei rfl ?_)))
      exact Eu (E.ret (j0 (Fg rfl rfl () (congrArg (Value.int .i64) (by grind [C0, G7, C4, d1, d2, t1, t2])) rfl)))
     ·refine Eu (l4 rfl (d9 (Et (Ew Z1 (Ei rfl ?_)))))
      exact Eu (E.ret (Fg rfl rfl () (congrArg (Value.int .i64) (by grind [C0, G7, C4, d1, d2, t1, t2])) rfl))
  ·refine Em rfl (Es rfl (Es rfl (Es rfl (Es rfl (Es rfl (Ey rfl ((o6 rfl rfl).yd) (Eu (l4 rfl (E.exit (n8 (n8 (w7 (Et (Eq_ (Ew Z7 (Ey rfl ((g9 fo_Fact_1 ty_Is dc rfl).yd) (Ey rfl (f7 ty_Is rfl (Hz (mS m0) 1 rfl) rfl) (Ey rfl ((Y.len us_Is rfl).yd) (Ey rfl ((g9 fo_Fact_1 ty_Is dc rfl).yd) (Ey rfl (f7 ty_Is rfl (Hz m0 1 rfl) rfl) (Ey rfl ((Y.len us_Is rfl).yd) (Ey rfl ((Y.lss rfl rfl).yd) (j8 (fun q58 => ?_) (fun q58 => ?_))))))))))))))))))))))))
   ·refine Eu (l3 rfl (Ew Z1 (Ei rfl ?_)))
    exact Eu (E.ret (j0 (Fg rfl rfl () (congrArg (Value.int .i64) (by grind [C0, G7, C4, d1, d2, t1, t2])) rfl)))
   ·refine Eu (l4 rfl (d9 (Et (Eq_ (Ew Z7 (Ey rfl ((g9 fo_Fact_1 ty_Is dc rfl).yd) (Ey rfl (f7 ty_Is rfl (Hz (mS m0) 1 rfl) rfl) (Ey rfl ((Y.len us_Is rfl).yd) (Ey rfl ((g9 fo_Fact_1 ty_Is dc rfl).yd) (Ey rfl (f7 ty_Is rfl (Hz m0 1 rfl) rfl) (Ey rfl ((Y.len us_Is rfl).yd) (Ey rfl ((Y.gtr rfl rfl).yd) (j8 (fun q65 => ?_) (fun q65 => ?_))))))))))))))
    ·refine Eu (l3 rfl (Ew Z1 (Ei rfl ?_)))
     exact Eu (E.ret (j0 (Fg rfl rfl () (congrArg (Value.int .i64) (by grind [C0, G7, C4, d1, d2, t1, t2])) rfl)))
    ·refine Eu (l4 rfl (d9 (Et (Ew Z1 (Ei rfl ?_)))))
     exact Eu (E.ret (Fg rfl rfl () (congrArg (Value.int .i64) (by grind [C0, G7, C4, d1, d2, t1, t2])) rfl))
theorem a0H {a_a : Option Addr} {m_a c_a : Nat} {a : List (Int × List Int)} {a_b : Option Addr} {m_b c_b : Nat} {b : List (Int × List Int)} : Tr Tryz.prog 34 [.slice a_a m_a c_a, .slice a_b m_b c_b] (fun w L => Ro w L f6 [.slice a_a m_a c_a] a ∧ Ro w L f6 [.slice a_b m_b c_b] b) [] (κ := Unit) (fun k => True) (fun k => .bool (decide (a = b))) (fun k => []) := by
 refine f8 Tryz.func34 rfl (n := 27) rfl (by decide +kernel) bl (fr := [(0, .slice a_a m_a c_a), (1, .slice a_b m_b c_b)]) rfl fun w L hR => ?_
 obtain ⟨ha, hb⟩ := hR
 obtain ⟨rfl, la⟩ := ha.slen
 obtain ⟨rfl, lb⟩ := hb.slen
 refine Ew Z1 (Ei rfl (Eu (Eq_ (Ew Z5 (Em rfl (Ey rfl ((Y.len us_Facts rfl).yd) (Em rfl (Ey rfl ((Y.len us_Facts rfl).yd) (Ey rfl ((Y.neq rfl rfl).yd) (j8 (fun q10 => ?_) (fun q10 => ?_)))))))))))
 ·refine Eu (l3 rfl (Ew Z1 (Ei rfl ?_)))
  exact Eu (E.ret (j0 (Fb rfl rfl (by rw [← a2t]; grind [eqP, a1o, d1, d2, t1, t2]))))
 ·refine Eu (l4 rfl (d9 (Et (Eq_ (Ew Z1 (Ei rfl (Eu (E.block (E.loop (κ := Nat) (fun g => g ≤ a.length ∧ a.length = b.length ∧ eqP (fun z y => decide (C0 z y = 0)) a b = eqP (fun z y => decide (C0 z y = 0)) (a.drop g) (b.drop g)) (fun g => [(0, .slice a_a a.length c_a), (1, .slice a_b b.length c_b), (5, .int .i64 (g : Int))]) (fun g => []) (fun g => a.length - g) 0 ⟨Nat.zero_le _, by exact ⟨by omega, rfl⟩⟩ ⟨rfl, rfl, rfl, trivial⟩ (.refl _) (fun g pg => ?_))))))))))
  obtain ⟨pk, pa⟩ := pg
  refine Eq_ (Ew Z4 (Em rfl (Em rfl (Ey rfl ((Y.len us_Facts rfl).yd) (Ey rfl ((Y.lss rfl rfl).yd) (j8 (fun q14 => ?_) (fun q14 => ?_)))))))
  ·refine Eu (l3 rfl (d9 (Et (Eq_ (E.block (Eq_ (D.region (fun j => true) mixed (Dyp 0 rfl (g0 rfl) (Dyp 1 rfl (g0 rfl) ?_)))))))))
   obtain ⟨eb19, eo19, ec19, ea19, er19, el19, eh19⟩ := ha.elem g om
   obtain ⟨xa19_0, xc19_0, rfl, ei19_0, xh19_0⟩ := y8 er19
   have := xh19_0.slen.2
   refine Dyp 2 rfl (r8 us_Facts ty_Fact rfl ea19 rfl g rfl om) (Dy 3 rfl (l8 (cs := [_, _]) ty_Fact rfl (eh19 _) rfl) (Dyp 4 rfl (g0 rfl) (Dyp 5 rfl (g0 rfl) ?_)))
   obtain ⟨eb23, eo23, ec23, ea23, er23, el23, eh23⟩ := hb.elem g om
   obtain ⟨xa23_0, xc23_0, rfl, ei23_0, xh23_0⟩ := y8 er23
   have := xh23_0.slen.2
   refine Dyp 6 rfl (r8 us_Facts ty_Fact rfl ea23 rfl g rfl om) (Dy 7 rfl (l8 (cs := [_, _]) ty_Fact rfl (eh23 _) rfl) (w3 8 rfl rfl kr (fun _ => rfl) (f5 B3 rfl rfl rfl dc (fun w Lp hA => ⟨ei19_0, hA.ro xh19_0, ei23_0, hA.ro xh23_0⟩)) (fun _ _ => (Dyp 9 rfl (Y.neq rfl rfl) (j8 (fun q26 => ?_) (fun q26 => ?_))))))
   ·refine o3 kr (Et (l3 rfl (Ew Z1 (Ei rfl ?_))))
    exact Eu (E.ret (w8 (j0 (j0 (w8 (j0 (Fb rfl rfl (by rw [← a2t]; grind [eqP, a1o, d1, d2, t1, t2]))))))))
   ·refine o3 kr (Et (l4 rfl (d9 (o2 (Et (Ez Z3 (Em rfl (Ey rfl ((Y.add rfl rfl om om).yd) (Ei rfl ?_)))))))))
    exact Eu (u7 br (g + 1) rs (.refl _) ⟨by omega, by grind [eqP, a1o, d1, d2, t1, t2]⟩ om)
  ·refine Eu (l4 rfl (E.exit (n8 (n8 (w7 (Et (Ew Z1 (Ei rfl ?_))))))))
   exact Eu (E.ret (Fb rfl rfl (by rw [← a2t]; grind [eqP, a1o, d1, d2, t1, t2])))
end Go.Proofs.YtfnbilpemdgkkaaGreatDoor
