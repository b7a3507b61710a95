import Derived.Test.YthapcdhdfaibkaaGreatDoorT5
namespace Go.Proofs.YthapcdhdfaibkaaGreatDoor
open Go.RowKit
set_option linter.all false
set_option maxHeartbeats 2000000
attribute [local irreducible] Nop Yd Yp Ent Has Tr FnP FnP2 Src
variable {x a3c a3d u7 a1Z : Int} {s1 s2 w9 X9 : List Int} {m_s1 c_s1 m_s2 c_s2 B4 z7 V4 U1 m_a c_a m_b c_b : Nat} {a_s1 a_s2 z8 U2 a_a a_b : Option Addr}
theorem a4H : Tr Tryz.prog 337 [.int .i64 x] (fun w L => True) [] (κ := Unit) (fun k => True) (fun k => .bool (false)) (fun k => []) := by
 refine Tr.intro Tryz.func337 rfl (n := 6) rfl (by decide +kernel) bl (fr := [(0, .int .i64 x)]) rfl fun w L hR => (Ew Z1 (Ei rfl (Ev Z4 (Em rfl (Em rfl (Ey rfl ((Y.neq rfl rfl).yd) (Ei rfl ?_)))))))
 exact Eu (E.ret (Fb rfl rfl (by simp)))
theorem a3U {y : Int} : Tr Tryz.prog 266 [.int .i64 x, .int .i64 y] (fun w L => True) [] (κ := Unit) (fun k => True) (fun k => .int .i64 (U5 x y)) (fun k => []) := by
 refine Tr.intro Tryz.func266 rfl (n := 20) rfl (by decide +kernel) bl (fr := [(0, .int .i64 x), (1, .int .i64 y)]) rfl fun w L hR => (Ew Z1 (Ei rfl (Ev Z3 (Em rfl (Est rfl (l0 a4H rfl rfl rfl dc tv) (fun _ _ => (Ei rfl (Ev Z3 (Em rfl (Est rfl (l0 a4H rfl rfl rfl dc tv) (fun _ _ => (Ei rfl (Eu (Eq_ (Ew Z1 (Em rfl (Eu (o0 rfl (i7 (Et (Eq_ (Ew Z1 (Em rfl (Eu (o0 rfl (i7 (Et (Eq_ (Ew Z3 (Em rfl (Em rfl (Ey rfl ((Y.lss rfl rfl).yd) (o3 (fun q16 => ?_) (fun q16 => ?_))))))))))))))))))))))))))))))))))
 ·refine Eu (n8 rfl (Ew Z1 (Ei rfl ?_)))
  exact Eu (E.ret (n0 (Fg rfl rfl () (congrArg (Value.int .i64) (by grind [U5, d1, d2, t1, t2])) rfl)))
 ·refine Eu (o0 rfl (i7 (Et (Eq_ (Ew Z3 (Em rfl (Em rfl (Ey rfl ((Y.gtr rfl rfl).yd) (o3 (fun q19 => ?_) (fun q19 => ?_))))))))))
  ·refine Eu (n8 rfl (Ew Z1 (Ei rfl ?_)))
   exact Eu (E.ret (n0 (Fg rfl rfl () (congrArg (Value.int .i64) (by grind [U5, d1, d2, t1, t2])) rfl)))
  ·refine Eu (o0 rfl (i7 (Et (Ew Z1 (Ei rfl ?_)))))
   exact Eu (E.ret (Fg rfl rfl () (congrArg (Value.int .i64) (by grind [U5, d1, d2, t1, t2])) rfl))
theorem b1f {a_vals : Option Addr} {m_vals c_vals : Nat} {vals : List Int} : Tr Tryz.prog 265 [.slice a_vals m_vals c_vals] (fun w L => Ro w L eIs [.slice a_vals m_vals c_vals] vals) [] (κ := Unit) (fun k => True) (fun k => .int .i64 (orI vals)) (fun k => []) := by
 refine Tr.intro Tryz.func265 rfl (n := 18) rfl (by decide +kernel) bl (fr := [(0, .slice a_vals m_vals c_vals)]) rfl fun w L hR => ?_
 have hvals := hR
 obtain ⟨rfl, lvals⟩ := hvals.slen
 refine Ew Z1 (Ei rfl (Ev Z1 (Ei rfl (Eu (Eq_ (Ew Z3 (Em rfl (Ey rfl ((Y.len us_Is rfl).yd) (Em rfl (Eu (E.block (E.loop (κ := Nat) (fun g => g ≤ vals.length ∧ orI vals = orI (vals.drop g)) (fun g => [(3, .int .i64 0), (6, .slice a_vals vals.length c_vals), (7, .int .i64 (↑vals.length : Int)), (8, .int .i64 (g : Int))]) (fun g => []) (fun g => vals.length - g) 0 ⟨Nat.zero_le _, by simp⟩ ⟨rfl, rfl, rfl, rfl, trivial⟩ (.refl _) (fun g pg => ?_)))))))))))))
 obtain ⟨pk, pa⟩ := pg
 refine Ew Z1 (Ey rfl ((Y.lss rfl rfl).yd) (o3 (fun q9 => ?_) (fun q9 => ?_)))
 ·obtain ⟨eb10, eo10, ea10, ei10, eh10⟩ := hvals.elemI g om
  refine Eu (Eq_ (n8 rfl (i7 (Et (Eq_ (E.block (Ew Z3 (Ey rfl ((v8 us_Is f9 rfl ea10 rfl g rfl om).yd) (Ey rfl (g9 f9 rfl (eh10 _) rfl) (Ei rfl (Ev Z3 (Em rfl (Em rfl (Ey rfl ((Y.neq rfl rfl).yd) (o3 (fun q14 => ?_) (fun q14 => ?_))))))))))))))))
  ·refine Eu (n8 rfl (Ew Z2 (Em rfl (Ei rfl ?_))))
   exact Eu (E.ret (y8 (n0 (n0 (y8 (n0 (Fg rfl rfl () (congrArg (Value.int .i64) (by grind [orI, d1, d2, t1, t2])) rfl)))))))
  ·refine Eu (o0 rfl (i7 (s9 (Et (Ez Z2 (Ey rfl ((Y.add rfl rfl om om).yd) (Em rfl ?_)))))))
   exact Eu (x6 br (g + 1) rs (.refl _) ⟨by omega, by grind [orI, d1, d2, t1, t2]⟩ om)
 ·refine Eu (Eq_ (o0 rfl (E.exit (q1 (q1 (y4 (Et (Ew Z2 (Em rfl (Ei rfl ?_))))))))))
  exact Eu (E.ret (Fg rfl rfl () (congrArg (Value.int .i64) (by grind [orI, d1, d2, t1, t2])) rfl))
theorem a4i : Tr Tryz.prog 267 [.slice a_s1 m_s1 c_s1, .slice a_s2 m_s2 c_s2] (fun w L => Ro w L eIs [.slice a_s1 m_s1 c_s1] s1 ∧ Ro w L eIs [.slice a_s2 m_s2 c_s2] s2) [] (κ := Unit) (fun k => True) (fun k => .int .i64 (L7 s1 s2)) (fun k => []) := by
 refine Tr.intro Tryz.func267 rfl (n := 36) rfl (by decide +kernel) bl (fr := [(0, .slice a_s1 m_s1 c_s1), (1, .slice a_s2 m_s2 c_s2)]) rfl fun w L hR => ?_
 obtain ⟨hs1, hs2⟩ := hR
 obtain ⟨rfl, ls1⟩ := hs1.slen
 obtain ⟨rfl, ls2⟩ := hs2.slen
 refine Ew Z1 (Ei rfl (Eu (Eq_ (Ew Z3 (Em rfl (Ey rfl ((Y.len us_Is rfl).yd) (Em rfl (Eu (E.block (E.loop (κ := Nat) (fun g => g ≤ s1.length ∧ L7 s1 s2 = L7 (s1.drop g) (s2.drop g)) (fun g => [(0, .slice a_s1 s1.length c_s1), (1, .slice a_s2 s2.length c_s2), (9, .slice a_s1 s1.length c_s1), (10, .int .i64 (↑s1.length : Int)), (11, .int .i64 (g : Int))]) (fun g => []) (fun g => s1.length - g) 0 ⟨Nat.zero_le _, by simp⟩ ⟨rfl, rfl, rfl, rfl, rfl, trivial⟩ (.refl _) (fun g pg => ?_)))))))))))
 obtain ⟨pk, pa⟩ := pg
 refine Ew Z1 (Ey rfl ((Y.lss rfl rfl).yd) (o3 (fun q12 => ?_) (fun q12 => ?_)))
 ·refine Eu (Eq_ (n8 rfl (i7 (Et (Eq_ (E.block (Ew Z5 (Em rfl ?_))))))))
  obtain ⟨eb14, eo14, ea14, ei14, eh14⟩ := hs1.elemI g om
  refine Ey rfl ((v8 us_Is f9 rfl ea14 rfl g rfl om).yd) (Ey rfl (g9 f9 rfl (eh14 _) rfl) (Ei rfl (Ei rfl (Eu (Eq_ (Ew Z4 (Em rfl (Em rfl (Ey rfl ((Y.len us_Is rfl).yd) (Ey rfl ((Y.geq rfl rfl).yd) (o3 (fun q19 => ?_) (fun q19 => ?_))))))))))))
  ·refine Eu (n8 rfl (Ew Z1 (Ei rfl ?_)))
   exact Eu (E.ret (n0 (y8 (n0 (n0 (y8 (n0 (Fg rfl rfl () (congrArg (Value.int .i64) (by grind [L7, d1, d2, t1, t2])) rfl))))))))
  ·refine Eu (o0 rfl (i7 (Et (Ew Z5 (Em rfl (Em rfl ?_))))))
   obtain ⟨eb22, eo22, ea22, ei22, eh22⟩ := hs2.elemI g om
   refine Ey rfl ((v8 us_Is f9 rfl ea22 rfl g rfl om).yd) (Ey rfl (g9 f9 rfl (eh22 _) rfl) (Ei rfl (Ev Z4 (Em rfl (Em rfl (Est rfl (l0 a3U rfl rfl rfl dc tv) (fun _ _ => (Ei rfl (Ev Z2 (Em rfl (Ey rfl ((Y.neq rfl rfl).yd) (o3 (fun q28 => ?_) (fun q28 => ?_)))))))))))))
   ·refine Eu (n8 rfl (Ew Z2 (Em rfl (Ei rfl ?_))))
    exact Eu (E.ret (y8 (n0 (n0 (y8 (n0 (Fg rfl rfl () (congrArg (Value.int .i64) (by grind [L7, d1, d2, t1, t2])) rfl)))))))
   ·refine Eu (o0 rfl (i7 (s9 (Et (Ez Z2 (Ey rfl ((Y.add rfl rfl om om).yd) (Em rfl ?_)))))))
    exact Eu (x6 br (g + 1) rs (.refl _) ⟨by omega, by grind [L7, d1, d2, t1, t2]⟩ om)
 ·refine Eu (Eq_ (o0 rfl (E.exit (q1 (q1 (y4 (Et (Eq_ (Ew Z5 (Em rfl (Ey rfl ((Y.len us_Is rfl).yd) (Em rfl (Ey rfl ((Y.len us_Is rfl).yd) (Ey rfl ((Y.lss rfl rfl).yd) (o3 (fun q35 => ?_) (fun q35 => ?_))))))))))))))))
  ·refine Eu (n8 rfl (Ew Z1 (Ei rfl ?_)))
   exact Eu (E.ret (n0 (Fg rfl rfl () (congrArg (Value.int .i64) (by grind [L7, d1, d2, t1, t2])) rfl)))
  ·refine Eu (o0 rfl (i7 (Et (Ew Z1 (Ei rfl ?_)))))
   exact Eu (E.ret (Fg rfl rfl () (congrArg (Value.int .i64) (by grind [L7, d1, d2, t1, t2])) rfl))
theorem R8 : Tr Tryz.prog 163 [.agg #[.int .i64 a3c, .slice z8 B4 z7], .agg #[.int .i64 a3d, .slice U2 V4 U1]] (fun w L => I64 a3c ∧ Ro w L eIs [.slice z8 B4 z7] w9 ∧ I64 a3d ∧ Ro w L eIs [.slice U2 V4 U1] X9) [] (κ := Unit) (fun k => True) (fun k => .int .i64 (J2 (a3c, w9) (a3d, X9))) (fun k => []) := by
 refine Tr.intro Tryz.func163 rfl (n := 17) rfl (by decide +kernel) bl (fr := [(0, .agg #[.int .i64 a3c, .slice z8 B4 z7]), (1, .agg #[.int .i64 a3d, .slice U2 V4 U1])]) rfl fun w L hR => ?_
 obtain ⟨b7c, C4, b7d, a0h⟩ := hR
 obtain ⟨rfl, W8⟩ := C4.slen
 obtain ⟨rfl, a7c⟩ := a0h.slen
 refine Ew Z3 (Est rfl (N.box (cs := [_, _]) rfl dc rfl) (fun b2 _ => (Est rfl (N.box (cs := [_, _]) rfl dc rfl) (fun b3 _ => (Ei rfl (Eu (Eq_ (D.region (fun j => true) mixed (Dyp 0 rfl (f5 fo_Fact_0 f9 dc rfl) (Dy 1 rfl (g9 f9 rfl (Hz (mS m0) 0 rfl) rfl) (Dyp 2 rfl (f5 fo_Fact_0 f9 dc rfl) (Dy 3 rfl (g9 f9 rfl (Hz m0 0 rfl) rfl) (Dyp 5 rfl (f5 fo_Fact_1 ty_Is dc rfl) (Dy 6 rfl (g9 ty_Is rfl (Hz (mS m0) 1 rfl) rfl) (Dyp 7 rfl (f5 fo_Fact_1 ty_Is dc rfl) (Dy 8 rfl (g9 ty_Is rfl (Hz m0 1 rfl) rfl) ?_))))))))))))))))
 have j1 := @b1x a3c a3d
 refine t6 4 rfl rfl kr (fun _ => rfl) (l0 a3U rfl rfl rfl dc tv) (fun _ _ => ?_)
 have j2 := @b1G w9 X9
 refine t6 9 rfl rfl kr (fun _ => rfl) (l0 a4i rfl rfl rfl dc (fun w Lp hA => ⟨hA.ro C4, hA.ro a0h⟩)) (fun _ _ => (t6 10 rfl rfl kr (fun _ => rfl) (Nb [_, _] [_, _] us_Is f9 rfl rfl) (fun b15 _ => (u9 (A := [_]) (Own.ints (e := tI) (xs := [U5 a3c a3d, L7 w9 X9]) rfl (by simp [maxLen]) (by simp only [List.forall_mem_cons]; exact ⟨i6, i6, List.forall_mem_nil _⟩)) rfl (t6 11 rfl rfl kr (fun _ => rfl) (l0 b1f rfl rfl rfl dc (fun w Lp hA => hA.ow m0)) (fun _ _ => (Dyp 12 rfl (C2 rfl) ?_)))))))
 exact r9 kr (Et (E.ret (Fg rfl rfl () (congrArg (Value.int .i64) (by grind [J2, orI, d1, d2, t1, t2])) rfl)))
theorem P0 : Tr Tryz.prog 102 [.agg #[.int .i64 a3c, .slice z8 B4 z7], .agg #[.int .i64 a3d, .slice U2 V4 U1]] (fun w L => I64 a3c ∧ Ro w L eIs [.slice z8 B4 z7] w9 ∧ I64 a3d ∧ Ro w L eIs [.slice U2 V4 U1] X9) [] (κ := Unit) (fun k => True) (fun k => .int .i64 (J2 (a3c, w9) (a3d, X9))) (fun k => []) := by
 refine Tr.intro Tryz.func102 rfl (n := 66) rfl (by decide +kernel) bl (fr := [(0, .agg #[.int .i64 a3c, .slice z8 B4 z7]), (1, .agg #[.int .i64 a3d, .slice U2 V4 U1])]) rfl fun w L hR => ?_
 obtain ⟨b7c, C4, b7d, a0h⟩ := hR
 obtain ⟨rfl, W8⟩ := C4.slen
 obtain ⟨rfl, a7c⟩ := a0h.slen
 refine Ew Z3 (Est rfl (N.box (cs := [_, _]) rfl dc rfl) (fun b2 _ => (Est rfl (N.box (cs := [_, _]) rfl dc rfl) (fun b3 _ => (Ei rfl (Eu (Eq_ (Ew Z5 (Ey rfl ((f5 fo_Fact_0 f9 dc rfl).yd) (Ey rfl (g9 f9 rfl (Hz (mS m0) 0 rfl) rfl) (Ey rfl ((f5 fo_Fact_0 f9 dc rfl).yd) (Ey rfl (g9 f9 rfl (Hz m0 0 rfl) rfl) (Ey rfl ((Y.neq rfl rfl).yd) (o3 (fun q10 => ?_) (fun q10 => ?_)))))))))))))))
 ·refine Eu (n8 rfl (Eq_ (Ew Z5 (Ey rfl ((f5 fo_Fact_0 f9 dc rfl).yd) (Ey rfl (g9 f9 rfl (Hz (mS m0) 0 rfl) rfl) (Ey rfl ((f5 fo_Fact_0 f9 dc rfl).yd) (Ey rfl (g9 f9 rfl (Hz m0 0 rfl) rfl) (Ey rfl ((Y.lss rfl rfl).yd) (o3 (fun q15 => ?_) (fun q15 => ?_))))))))))
  ·refine Eu (n8 rfl (Ew Z1 (Ei rfl ?_)))
   exact Eu (E.ret (n0 (n0 (Fg rfl rfl () (congrArg (Value.int .i64) (by grind [J2, U5, L7, d1, d2, t1, t2])) rfl))))
  ·refine Eu (o0 rfl (i7 (Et (Ew Z1 (Ei rfl ?_)))))
   exact Eu (E.ret (n0 (Fg rfl rfl () (congrArg (Value.int .i64) (by grind [J2, U5, L7, d1, d2, t1, t2])) rfl)))
 ·refine Eu (o0 rfl (i7 (Et (Eq_ (Ew Z1 (Ei rfl (Eu (E.block (E.loop (κ := Nat) (fun g => g ≤ w9.length ∧ g ≤ X9.length ∧ L7 w9 X9 = L7 (w9.drop g) (X9.drop g)) (fun g => [(2, .pointer (some ⟨b2, 0, none⟩)), (3, .pointer (some ⟨b3, 0, none⟩)), (5, .int .i64 (g : Int))]) (fun g => [pt b3 85 [.int .i64 a3d, .slice U2 X9.length U1], pt b2 85 [.int .i64 a3c, .slice z8 w9.length z7]]) (fun g => w9.length - g) 0 ⟨Nat.zero_le _, by simp⟩ ⟨rfl, rfl, rfl, trivial⟩ (.refl _) (fun g pg => ?_))))))))))
  obtain ⟨pk, pa⟩ := pg
  refine Eq_ (Ew Z12 (Em rfl (Ey rfl ((f5 fo_Fact_1 ty_Is dc rfl).yd) (Ey rfl (g9 ty_Is rfl (Hz (mS m0) 1 rfl) rfl) (Ey rfl ((Y.len us_Is rfl).yd) (Ey rfl ((Y.lss rfl rfl).yd) (o3 (fun q20 => ?_) (fun q20 => ?_))))))))
  ·refine Em rfl (Em rfl (Ey rfl ((f5 fo_Fact_1 ty_Is dc rfl).yd) (Ey rfl (g9 ty_Is rfl (Hz m0 1 rfl) rfl) (Ey rfl ((Y.len us_Is rfl).yd) (Ey rfl ((Y.lss rfl rfl).yd) (o3 (fun q26 => ?_) (fun q26 => ?_)))))))
   ·refine Ey rfl ((t8 rfl rfl).yd) (Eu (n8 rfl (i7 (Et (Eq_ (E.block (Eq_ (Eq_ (D.region (fun j => true) mixed (Dyp 0 rfl (f5 fo_Fact_1 ty_Is dc rfl) (Dy 1 rfl (g9 ty_Is rfl (Hz (mS m0) 1 rfl) rfl) (Dyp 2 rfl (i8 rfl) ?_))))))))))))
    obtain ⟨eb33, eo33, ea33, ei33, eh33⟩ := C4.elemI g om
    refine Dyp 3 rfl (v8 us_Is f9 rfl ea33 rfl g rfl om) (Dy 4 rfl (g9 f9 rfl (eh33 _) rfl) (Dyp 5 rfl (f5 fo_Fact_1 ty_Is dc rfl) (Dy 6 rfl (g9 ty_Is rfl (Hz m0 1 rfl) rfl) (Dyp 7 rfl (i8 rfl) ?_))))
    obtain ⟨eb38, eo38, ea38, ei38, eh38⟩ := a0h.elemI g om
    refine Dyp 8 rfl (v8 us_Is f9 rfl ea38 rfl g rfl om) (Dy 9 rfl (g9 f9 rfl (eh38 _) rfl) (Dyp 10 rfl (Y.lss rfl rfl) (o3 (fun q40 => ?_) (fun q40 => ?_))))
    ·refine r9 kr (Et (n8 rfl (Ew Z1 (Ei rfl ?_))))
     exact Eu (E.ret (n0 (y8 (n0 (n0 (y8 (n0 (Fg rfl rfl () (congrArg (Value.int .i64) (by grind [J2, U5, L7, d1, d2, t1, t2])) rfl))))))))
    ·refine r9 kr (Et (o0 rfl (i7 (Et (Eq_ (D.region (fun j => true) mixed (Dyp 0 rfl (f5 fo_Fact_1 ty_Is dc rfl) (Dy 1 rfl (g9 ty_Is rfl (Hz (mS m0) 1 rfl) rfl) (Dyp 2 rfl (i8 rfl) (Dyp 3 rfl (v8 us_Is f9 rfl ea33 rfl g rfl om) (Dy 4 rfl (g9 f9 rfl (eh33 _) rfl) (Dyp 5 rfl (f5 fo_Fact_1 ty_Is dc rfl) (Dy 6 rfl (g9 ty_Is rfl (Hz m0 1 rfl) rfl) (Dyp 7 rfl (i8 rfl) (Dyp 8 rfl (v8 us_Is f9 rfl ea38 rfl g rfl om) (Dy 9 rfl (g9 f9 rfl (eh38 _) rfl) (Dyp 10 rfl (Y.gtr rfl rfl) (o3 (fun q51 => ?_) (fun q51 => ?_)))))))))))))))))))
     ·refine r9 kr (Et (n8 rfl (Ew Z1 (Ei rfl ?_))))
      exact Eu (E.ret (y8 (n0 (n0 (y8 (n0 (Fg rfl rfl () (congrArg (Value.int .i64) (by grind [J2, U5, L7, d1, d2, t1, t2])) rfl)))))))
     ·refine r9 kr (Et (o0 rfl (i7 (s9 (Et (Ez Z3 (Em rfl (Ey rfl ((Y.add rfl rfl om om).yd) (Ei rfl (Eu (d9 (d9 ?_))))))))))))
      exact x6 br (g + 1) rs (.refl _) ⟨by omega, by grind [L7, U5, d1, d2, t1, t2]⟩ om
   ·refine Ey rfl ((t8 rfl rfl).yd) (Eu (o0 rfl (E.exit (q1 (q1 (y4 (Et (Eq_ (Ew Z7 (Ey rfl ((f5 fo_Fact_1 ty_Is dc rfl).yd) (Ey rfl (g9 ty_Is rfl (Hz (mS m0) 1 rfl) rfl) (Ey rfl ((Y.len us_Is rfl).yd) (Ey rfl ((f5 fo_Fact_1 ty_Is dc rfl).yd) (Ey rfl (g9 ty_Is rfl (Hz m0 1 rfl) rfl) (Ey rfl ((Y.len us_Is rfl).yd) (Ey rfl ((Y.lss rfl rfl).yd) (o3 (fun q58 => ?_) (fun q58 => ?_))))))))))))))))))
    ·refine Eu (n8 rfl (Ew Z1 (Ei rfl ?_)))
     exact Eu (E.ret (n0 (Fg rfl rfl () (congrArg (Value.int .i64) (by grind [J2, U5, L7, d1, d2, t1, t2])) rfl)))
    ·refine Eu (o0 rfl (i7 (Et (Eq_ (Ew Z7 (Ey rfl ((f5 fo_Fact_1 ty_Is dc rfl).yd) (Ey rfl (g9 ty_Is rfl (Hz (mS m0) 1 rfl) rfl) (Ey rfl ((Y.len us_Is rfl).yd) (Ey rfl ((f5 fo_Fact_1 ty_Is dc rfl).yd) (Ey rfl (g9 ty_Is rfl (Hz m0 1 rfl) rfl) (Ey rfl ((Y.len us_Is rfl).yd) (Ey rfl ((Y.gtr rfl rfl).yd) (o3 (fun q65 => ?_) (fun q65 => ?_))))))))))))))
     ·refine Eu (n8 rfl (Ew Z1 (Ei rfl ?_)))
      exact Eu (E.ret (n0 (Fg rfl rfl () (congrArg (Value.int .i64) (by grind [J2, U5, L7, d1, d2, t1, t2])) rfl)))
     ·refine Eu (o0 rfl (i7 (Et (Ew Z1 (Ei rfl ?_)))))
      exact Eu (E.ret (Fg rfl rfl () (congrArg (Value.int .i64) (by grind [J2, U5, L7, d1, d2, t1, t2])) rfl))
  ·refine Em rfl (Es rfl (Es rfl (Es rfl (Es rfl (Es rfl (Ey rfl ((t7 rfl rfl).yd) (Eu (o0 rfl (E.exit (q1 (q1 (y4 (Et (Eq_ (Ew Z7 (Ey rfl ((f5 fo_Fact_1 ty_Is dc rfl).yd) (Ey rfl (g9 ty_Is rfl (Hz (mS m0) 1 rfl) rfl) (Ey rfl ((Y.len us_Is rfl).yd) (Ey rfl ((f5 fo_Fact_1 ty_Is dc rfl).yd) (Ey rfl (g9 ty_Is rfl (Hz m0 1 rfl) rfl) (Ey rfl ((Y.len us_Is rfl).yd) (Ey rfl ((Y.lss rfl rfl).yd) (o3 (fun q58 => ?_) (fun q58 => ?_))))))))))))))))))))))))
   ·refine Eu (n8 rfl (Ew Z1 (Ei rfl ?_)))
    exact Eu (E.ret (n0 (Fg rfl rfl () (congrArg (Value.int .i64) (by grind [J2, U5, L7, d1, d2, t1, t2])) rfl)))
   ·refine Eu (o0 rfl (i7 (Et (Eq_ (Ew Z7 (Ey rfl ((f5 fo_Fact_1 ty_Is dc rfl).yd) (Ey rfl (g9 ty_Is rfl (Hz (mS m0) 1 rfl) rfl) (Ey rfl ((Y.len us_Is rfl).yd) (Ey rfl ((f5 fo_Fact_1 ty_Is dc rfl).yd) (Ey rfl (g9 ty_Is rfl (Hz m0 1 rfl) rfl) (Ey rfl ((Y.len us_Is rfl).yd) (Ey rfl ((Y.gtr rfl rfl).yd) (o3 (fun q65 => ?_) (fun q65 => ?_))))))))))))))
    ·refine Eu (n8 rfl (Ew Z1 (Ei rfl ?_)))
     exact Eu (E.ret (n0 (Fg rfl rfl () (congrArg (Value.int .i64) (by grind [J2, U5, L7, d1, d2, t1, t2])) rfl)))
    ·refine Eu (o0 rfl (i7 (Et (Ew Z1 (Ei rfl ?_)))))
     exact Eu (E.ret (Fg rfl rfl () (congrArg (Value.int .i64) (by grind [J2, U5, L7, d1, d2, t1, t2])) rfl))
theorem a8c {a : List (Int × List Int)} {b : List (Int × List Int)} : Tr Tryz.prog 54 [.slice a_a m_a c_a, .slice a_b m_b c_b] (fun w L => Ro w L m8 [.slice a_a m_a c_a] a ∧ Ro w L m8 [.slice a_b m_b c_b] b) [] (κ := Unit) (fun k => True) (fun k => .bool (decide (a = b))) (fun k => []) := by
 refine Tr.intro Tryz.func54 rfl (n := 27) rfl (by decide +kernel) bl (fr := [(0, .slice a_a m_a c_a), (1, .slice a_b m_b c_b)]) rfl fun w L hR => ?_
 obtain ⟨ha, hb⟩ := hR
 obtain ⟨rfl, la⟩ := ha.slen
 obtain ⟨rfl, lb⟩ := hb.slen
 refine Ew Z1 (Ei rfl (Eu (Eq_ (Ew Z5 (Em rfl (Ey rfl ((Y.len us_Facts rfl).yd) (Em rfl (Ey rfl ((Y.len us_Facts rfl).yd) (Ey rfl ((Y.neq rfl rfl).yd) (o3 (fun q10 => ?_) (fun q10 => ?_)))))))))))
 ·refine Eu (n8 rfl (Ew Z1 (Ei rfl ?_)))
  exact Eu (E.ret (n0 (Fb rfl rfl (by rw [← a6U]; grind [eqP, a5r, d1, d2, t1, t2]))))
 ·refine Eu (o0 rfl (i7 (Et (Eq_ (Ew Z1 (Ei rfl (Eu (E.block (E.loop (κ := Nat) (fun g => g ≤ a.length ∧ a.length = b.length ∧ eqP (fun z y => decide (J2 z y = 0)) a b = eqP (fun z y => decide (J2 z y = 0)) (a.drop g) (b.drop g)) (fun g => [(0, .slice a_a a.length c_a), (1, .slice a_b b.length c_b), (5, .int .i64 (g : Int))]) (fun g => []) (fun g => a.length - g) 0 ⟨Nat.zero_le _, by exact ⟨by omega, rfl⟩⟩ ⟨rfl, rfl, rfl, trivial⟩ (.refl _) (fun g pg => ?_))))))))))
  obtain ⟨pk, pa⟩ := pg
  refine Eq_ (Ew Z4 (Em rfl (Em rfl (Ey rfl ((Y.len us_Facts rfl).yd) (Ey rfl ((Y.lss rfl rfl).yd) (o3 (fun q14 => ?_) (fun q14 => ?_)))))))
  ·refine Eu (n8 rfl (i7 (Et (Eq_ (E.block (Eq_ (D.region (fun j => true) mixed (Dyp 0 rfl (i8 rfl) (Dyp 1 rfl (i8 rfl) ?_)))))))))
   obtain ⟨eb19, eo19, ec19, ea19, er19, el19, eh19⟩ := ha.elem g om
   obtain ⟨xa19_0, xc19_0, rfl, ei19_0, xh19_0⟩ := K8 er19
   have := xh19_0.slen.2
   refine Dyp 2 rfl (v8 us_Facts ty_Fact rfl ea19 rfl g rfl om) (Dy 3 rfl (o6 (cs := [_, _]) ty_Fact rfl (eh19 _) rfl) (Dyp 4 rfl (i8 rfl) (Dyp 5 rfl (i8 rfl) ?_)))
   obtain ⟨eb23, eo23, ec23, ea23, er23, el23, eh23⟩ := hb.elem g om
   obtain ⟨xa23_0, xc23_0, rfl, ei23_0, xh23_0⟩ := K8 er23
   have := xh23_0.slen.2
   refine Dyp 6 rfl (v8 us_Facts ty_Fact rfl ea23 rfl g rfl om) (Dy 7 rfl (o6 (cs := [_, _]) ty_Fact rfl (eh23 _) rfl) (t6 8 rfl rfl kr (fun _ => rfl) (l0 P0 rfl rfl rfl dc (fun w Lp hA => ⟨ei19_0, hA.ro xh19_0, ei23_0, hA.ro xh23_0⟩)) (fun _ _ => (Dyp 9 rfl (Y.neq rfl rfl) (o3 (fun q26 => ?_) (fun q26 => ?_))))))
   ·refine r9 kr (Et (n8 rfl (Ew Z1 (Ei rfl ?_))))
    exact Eu (E.ret (y8 (n0 (n0 (y8 (n0 (Fb rfl rfl (by rw [← a6U]; grind [eqP, a5r, d1, d2, t1, t2]))))))))
   ·refine r9 kr (Et (o0 rfl (i7 (s9 (Et (Ez Z3 (Em rfl (Ey rfl ((Y.add rfl rfl om om).yd) (Ei rfl ?_)))))))))
    exact Eu (x6 br (g + 1) rs (.refl _) ⟨by omega, by grind [eqP, a5r, d1, d2, t1, t2]⟩ om)
  ·refine Eu (o0 rfl (E.exit (q1 (q1 (y4 (Et (Ew Z1 (Ei rfl ?_))))))))
   exact Eu (E.ret (Fb rfl rfl (by rw [← a6U]; grind [eqP, a5r, d1, d2, t1, t2])))
theorem a4Z : Tr Tryz.prog 226 [.slice a_s1 m_s1 c_s1, .slice a_s2 m_s2 c_s2] (fun w L => Ro w L eIs [.slice a_s1 m_s1 c_s1] s1 ∧ Ro w L eIs [.slice a_s2 m_s2 c_s2] s2) [] (κ := Unit) (fun k => True) (fun k => .bool (decide (s1 = s2))) (fun k => []) := by
 refine Tr.intro Tryz.func226 rfl (n := 26) rfl (by decide +kernel) bl (fr := [(0, .slice a_s1 m_s1 c_s1), (1, .slice a_s2 m_s2 c_s2)]) rfl fun w L hR => ?_
 obtain ⟨hs1, hs2⟩ := hR
 obtain ⟨rfl, ls1⟩ := hs1.slen
 obtain ⟨rfl, ls2⟩ := hs2.slen
 refine Ew Z1 (Ei rfl (Eu (Eq_ (Ew Z5 (Em rfl (Ey rfl ((Y.len us_Is rfl).yd) (Em rfl (Ey rfl ((Y.len us_Is rfl).yd) (Ey rfl ((Y.neq rfl rfl).yd) (o3 (fun q10 => ?_) (fun q10 => ?_)))))))))))
 ·refine Eu (n8 rfl (Ew Z1 (Ei rfl ?_)))
  exact Eu (E.ret (n0 (Fb rfl rfl (by grind [d1, d2, t1, t2]))))
 ·refine Eu (o0 rfl (i7 (Et (Eq_ (Ew Z3 (Em rfl (Ey rfl ((Y.len us_Is rfl).yd) (Em rfl (Eu (E.block (E.loop (κ := Nat) (fun g => g ≤ s1.length ∧ s1.length = s2.length ∧ (s1 = s2 ↔ s1.drop g = s2.drop g)) (fun g => [(0, .slice a_s1 s1.length c_s1), (1, .slice a_s2 s2.length c_s2), (12, .int .i64 (↑s1.length : Int)), (13, .int .i64 (g : Int))]) (fun g => []) (fun g => s1.length - g) 0 ⟨Nat.zero_le _, by exact ⟨by omega, by simp⟩⟩ ⟨rfl, rfl, rfl, rfl, trivial⟩ (.refl _) (fun g pg => ?_))))))))))))
  obtain ⟨pk, pa⟩ := pg
  refine Ew Z1 (Ey rfl ((Y.lss rfl rfl).yd) (o3 (fun q14 => ?_) (fun q14 => ?_)))
  ·refine Eu (Eq_ (n8 rfl (i7 (Et (Eq_ (E.block (Ew Z2 (Em rfl (Ei rfl (Eu (Eq_ (D.region (fun j => true) mixed (Dyp 0 rfl (i8 rfl) (Dyp 1 rfl (i8 rfl) ?_))))))))))))))
   obtain ⟨eb18, eo18, ea18, ei18, eh18⟩ := hs1.elemI g om
   refine Dyp 2 rfl (v8 us_Is f9 rfl ea18 rfl g rfl om) (Dy 3 rfl (g9 f9 rfl (eh18 _) rfl) (Dyp 4 rfl (i8 rfl) (Dyp 5 rfl (i8 rfl) ?_)))
   obtain ⟨eb22, eo22, ea22, ei22, eh22⟩ := hs2.elemI g om
   refine Dyp 6 rfl (v8 us_Is f9 rfl ea22 rfl g rfl om) (Dy 7 rfl (g9 f9 rfl (eh22 _) rfl) (Dyp 8 rfl (Y.neq rfl rfl) (o3 (fun q24 => ?_) (fun q24 => ?_))))
   ·refine r9 kr (Et (n8 rfl (Ew Z1 (Ei rfl ?_))))
    exact Eu (E.ret (y8 (n0 (n0 (y8 (n0 (Fb rfl rfl (by grind [d1, d2, t1, t2]))))))))
   ·refine r9 kr (Et (o0 rfl (i7 (s9 (Et (Ez Z2 (Ey rfl ((Y.add rfl rfl om om).yd) (Em rfl ?_))))))))
    exact Eu (x6 br (g + 1) rs (.refl _) ⟨by omega, by grind [d1, d2, t1, t2]⟩ om)
  ·refine Eu (Eq_ (o0 rfl (E.exit (q1 (q1 (y4 (Et (Ew Z1 (Ei rfl ?_)))))))))
   exact Eu (E.ret (Fb rfl rfl (by grind [d1, d2, t1, t2])))
theorem b0t {a : List Int} {b : List Int} : Tr Tryz.prog 93 [.slice a_a m_a c_a, .slice a_b m_b c_b] (fun w L => Ro w L eIs [.slice a_a m_a c_a] a ∧ Ro w L eIs [.slice a_b m_b c_b] b) [] (κ := Unit) (fun k => True) (fun k => .bool (decide (a = b))) (fun k => []) := by
 refine Tr.intro Tryz.func93 rfl (n := 26) rfl (by decide +kernel) bl (fr := [(0, .slice a_a m_a c_a), (1, .slice a_b m_b c_b)]) rfl fun w L hR => ?_
 obtain ⟨ha, hb⟩ := hR
 obtain ⟨rfl, la⟩ := ha.slen
 obtain ⟨rfl, lb⟩ := hb.slen
 refine Ew Z1 (Ei rfl (Eu (Eq_ (Ew Z5 (Em rfl (Ey rfl ((Y.len us_Is rfl).yd) (Em rfl (Ey rfl ((Y.len us_Is rfl).yd) (Ey rfl ((Y.neq rfl rfl).yd) (o3 (fun q10 => ?_) (fun q10 => ?_)))))))))))
 ·refine Eu (n8 rfl (Ew Z1 (Ei rfl ?_)))
  exact Eu (E.ret (n0 (Fb rfl rfl (by grind [d1, d2, t1, t2]))))
 ·refine Eu (o0 rfl (i7 (Et (Eq_ (Ew Z1 (Ei rfl (Eu (E.block (E.loop (κ := Nat) (fun g => g ≤ a.length ∧ a.length = b.length ∧ (a = b ↔ a.drop g = b.drop g)) (fun g => [(0, .slice a_a a.length c_a), (1, .slice a_b b.length c_b), (5, .int .i64 (g : Int))]) (fun g => []) (fun g => a.length - g) 0 ⟨Nat.zero_le _, by exact ⟨by omega, by simp⟩⟩ ⟨rfl, rfl, rfl, trivial⟩ (.refl _) (fun g pg => ?_))))))))))
  obtain ⟨pk, pa⟩ := pg
  refine Eq_ (Ew Z4 (Em rfl (Em rfl (Ey rfl ((Y.len us_Is rfl).yd) (Ey rfl ((Y.lss rfl rfl).yd) (o3 (fun q14 => ?_) (fun q14 => ?_)))))))
  ·refine Eu (n8 rfl (i7 (Et (Eq_ (E.block (Eq_ (D.region (fun j => true) mixed (Dyp 0 rfl (i8 rfl) (Dyp 1 rfl (i8 rfl) ?_)))))))))
   obtain ⟨eb19, eo19, ea19, ei19, eh19⟩ := ha.elemI g om
   refine Dyp 2 rfl (v8 us_Is f9 rfl ea19 rfl g rfl om) (Dy 3 rfl (g9 f9 rfl (eh19 _) rfl) (Dyp 4 rfl (i8 rfl) (Dyp 5 rfl (i8 rfl) ?_)))
   obtain ⟨eb23, eo23, ea23, ei23, eh23⟩ := hb.elemI g om
   refine Dyp 6 rfl (v8 us_Is f9 rfl ea23 rfl g rfl om) (Dy 7 rfl (g9 f9 rfl (eh23 _) rfl) (Dyp 8 rfl (Y.neq rfl rfl) (o3 (fun q25 => ?_) (fun q25 => ?_))))
   ·refine r9 kr (Et (n8 rfl (Ew Z1 (Ei rfl ?_))))
    exact Eu (E.ret (y8 (n0 (n0 (y8 (n0 (Fb rfl rfl (by grind [d1, d2, t1, t2]))))))))
   ·refine r9 kr (Et (o0 rfl (i7 (s9 (Et (Ez Z3 (Em rfl (Ey rfl ((Y.add rfl rfl om om).yd) (Ei rfl ?_)))))))))
    exact Eu (x6 br (g + 1) rs (.refl _) ⟨by omega, by grind [d1, d2, t1, t2]⟩ om)
  ·refine Eu (o0 rfl (E.exit (q1 (q1 (y4 (Et (Ew Z1 (Ei rfl ?_))))))))
   exact Eu (E.ret (Fb rfl rfl (by grind [d1, d2, t1, t2])))
theorem a7x : Tr Tryz.prog 198 [.agg #[.int .i64 u7, .slice z8 B4 z7], .agg #[.int .i64 a1Z, .slice U2 V4 U1]] (fun w L => (I64 u7 ∧ Ro w L eIs [.slice z8 B4 z7] w9 ∧ I64 a1Z ∧ Ro w L eIs [.slice U2 V4 U1] X9) ∧ True) [] (κ := Unit) (fun k => True) (fun k => .bool (decide ((u7, w9) = (a1Z, X9)))) (fun k => []) := by
 refine Tr.intro Tryz.func198 rfl (n := 17) rfl (by decide +kernel) bl (fr := [(0, .agg #[.int .i64 u7, .slice z8 B4 z7]), (1, .agg #[.int .i64 a1Z, .slice U2 V4 U1])]) rfl fun w L hR => ?_
 obtain ⟨⟨P2, C4, b3D, a0h⟩, _⟩ := hR
 obtain ⟨rfl, W8⟩ := C4.slen
 obtain ⟨rfl, a7c⟩ := a0h.slen
 refine Ew Z3 (Est rfl (N.box (cs := [_, _]) rfl dc rfl) (fun b2 _ => (Est rfl (N.box (cs := [_, _]) rfl dc rfl) (fun b3 _ => (Ei rfl (Ev Z13 (Ey rfl ((f5 fo_Access_0 f9 dc rfl).yd) (Ey rfl (g9 f9 rfl (Hz (mS m0) 0 rfl) rfl) (Ey rfl ((f5 fo_Access_0 f9 dc rfl).yd) (Ey rfl (g9 f9 rfl (Hz m0 0 rfl) rfl) (Ey rfl ((Y.eql rfl rfl).yd) (o3 (fun q9 => ?_) (fun q9 => ?_)))))))))))))
 ·refine Em rfl (Ey rfl ((f5 fo_Access_1 ty_Is dc rfl).yd) (Ey rfl (g9 ty_Is rfl (Hz (mS m0) 1 rfl) rfl) (Ey rfl ((f5 fo_Access_1 ty_Is dc rfl).yd) (Ey rfl (g9 ty_Is rfl (Hz m0 1 rfl) rfl) (Est rfl (l0 a4Z rfl rfl rfl dc (fun w Lp hA => ⟨hA.ro C4, hA.ro a0h⟩)) (fun _ _ => (Ey rfl ((t8 rfl rfl).yd) (Ei rfl ?_))))))))
  exact Eu (E.ret (Fb rfl rfl (by grind [d1, d2, t1, t2])))
 ·refine Em rfl (Es rfl (Es rfl (Es rfl (Es rfl (Es rfl (Ey rfl ((t7 rfl rfl).yd) (Ei rfl ?_)))))))
  exact Eu (E.ret (Fb rfl rfl (by grind [d1, d2, t1, t2])))
theorem b0F : Tr Tryz.prog 94 [.agg #[.int .i64 u7, .slice z8 B4 z7], .agg #[.int .i64 a1Z, .slice U2 V4 U1]] (fun w L => I64 u7 ∧ Ro w L eIs [.slice z8 B4 z7] w9 ∧ I64 a1Z ∧ Ro w L eIs [.slice U2 V4 U1] X9) [] (κ := Unit) (fun k => True) (fun k => .bool (decide ((u7, w9) = (a1Z, X9)))) (fun k => []) := by
 refine Tr.intro Tryz.func94 rfl (n := 17) rfl (by decide +kernel) bl (fr := [(0, .agg #[.int .i64 u7, .slice z8 B4 z7]), (1, .agg #[.int .i64 a1Z, .slice U2 V4 U1])]) rfl fun w L hR => ?_
 obtain ⟨P2, C4, b3D, a0h⟩ := hR
 obtain ⟨rfl, W8⟩ := C4.slen
 obtain ⟨rfl, a7c⟩ := a0h.slen
 refine Ew Z3 (Est rfl (N.box (cs := [_, _]) rfl dc rfl) (fun b2 _ => (Est rfl (N.box (cs := [_, _]) rfl dc rfl) (fun b3 _ => (Ei rfl (Ev Z13 (Ey rfl ((f5 fo_Access_0 f9 dc rfl).yd) (Ey rfl (g9 f9 rfl (Hz (mS m0) 0 rfl) rfl) (Ey rfl ((f5 fo_Access_0 f9 dc rfl).yd) (Ey rfl (g9 f9 rfl (Hz m0 0 rfl) rfl) (Ey rfl ((Y.eql rfl rfl).yd) (o3 (fun q9 => ?_) (fun q9 => ?_)))))))))))))
 ·refine Em rfl (Ey rfl ((f5 fo_Access_1 ty_Is dc rfl).yd) (Ey rfl (g9 ty_Is rfl (Hz (mS m0) 1 rfl) rfl) (Ey rfl ((f5 fo_Access_1 ty_Is dc rfl).yd) (Ey rfl (g9 ty_Is rfl (Hz m0 1 rfl) rfl) (Est rfl (l0 b0t rfl rfl rfl dc (fun w Lp hA => ⟨hA.ro C4, hA.ro a0h⟩)) (fun _ _ => (Ey rfl ((t8 rfl rfl).yd) (Ei rfl ?_))))))))
  exact Eu (E.ret (Fb rfl rfl (by grind [d1, d2, t1, t2])))
 ·refine Em rfl (Es rfl (Es rfl (Es rfl (Es rfl (Es rfl (Ey rfl ((t7 rfl rfl).yd) (Ei rfl ?_)))))))
  exact Eu (E.ret (Fb rfl rfl (by grind [d1, d2, t1, t2])))
end Go.Proofs.YthapcdhdfaibkaaGreatDoor
