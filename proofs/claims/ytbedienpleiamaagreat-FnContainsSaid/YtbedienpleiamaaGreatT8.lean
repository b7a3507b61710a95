import Derived.Test.YtbedienpleiamaaGreatT5
namespace Go.Proofs.YtbedienpleiamaaGreat
open Go.RowKit
set_option linter.all false
set_option maxHeartbeats 2000000
attribute [local irreducible] Nop Yd Yp Ent Has Tr FnP FnP2 Src
variable {x j4 a0m : Int} {s1 s2 Q8 d9 : List Int} {m_s1 c_s1 m_s2 c_s2 X4 U9 u4 s5 m_a c_a m_b c_b : Nat} {a_s1 a_s2 V0 s6 a_a a_b : Option Addr}
theorem a1F : Tr Tryz.prog 209 [.int .i64 x] (fun w L => True) [] (κ := Unit) (fun k => True) (fun k => .bool (false)) (fun k => []) := by
 refine Tr.intro Tryz.func209 rfl (n := 6) rfl (by decide +kernel) bl (fr := [(0, .int .i64 x)]) rfl fun w L hR => (Ew Z1 (Ei rfl (Ev Z4 (Em rfl (Em rfl (Ey rfl ((Y.neq rfl rfl).yd) (Ei rfl ?_)))))))
 exact Eu (E.ret (Fb rfl rfl (by simp)))
theorem a0R {y : Int} : Tr Tryz.prog 182 [.int .i64 x, .int .i64 y] (fun w L => True) [] (κ := Unit) (fun k => True) (fun k => .int .i64 (L7 x y)) (fun k => []) := by
 refine Tr.intro Tryz.func182 rfl (n := 20) rfl (by decide +kernel) bl (fr := [(0, .int .i64 x), (1, .int .i64 y)]) rfl fun w L hR => (Ew Z1 (Ei rfl (Ev Z3 (Em rfl (Est rfl (m6 a1F rfl rfl rfl dc tv) (fun _ _ => (Ei rfl (Ev Z3 (Em rfl (Est rfl (m6 a1F rfl rfl rfl dc tv) (fun _ _ => (Ei rfl (Eu (Eq_ (Ew Z1 (Em rfl (Eu (n0 rfl (f8 (Et (Eq_ (Ew Z1 (Em rfl (Eu (n0 rfl (f8 (Et (Eq_ (Ew Z3 (Em rfl (Em rfl (Ey rfl ((Y.lss rfl rfl).yd) (n9 (fun q16 => ?_) (fun q16 => ?_))))))))))))))))))))))))))))))))))
 ·refine Eu (o0 rfl (Ew Z1 (Ei rfl ?_)))
  exact Eu (E.ret (o4 (Fg rfl rfl () (congrArg (Value.int .i64) (by grind [L7, d1, d2, t1, t2])) rfl)))
 ·refine Eu (n0 rfl (f8 (Et (Eq_ (Ew Z3 (Em rfl (Em rfl (Ey rfl ((Y.gtr rfl rfl).yd) (n9 (fun q19 => ?_) (fun q19 => ?_))))))))))
  ·refine Eu (o0 rfl (Ew Z1 (Ei rfl ?_)))
   exact Eu (E.ret (o4 (Fg rfl rfl () (congrArg (Value.int .i64) (by grind [L7, d1, d2, t1, t2])) rfl)))
  ·refine Eu (n0 rfl (f8 (Et (Ew Z1 (Ei rfl ?_)))))
   exact Eu (E.ret (Fg rfl rfl () (congrArg (Value.int .i64) (by grind [L7, d1, d2, t1, t2])) rfl))
theorem a6u {a_vals : Option Addr} {m_vals c_vals : Nat} {Y1 : List Int} : Tr Tryz.prog 181 [.slice a_vals m_vals c_vals] (fun w L => Ro w L eIs [.slice a_vals m_vals c_vals] Y1) [] (κ := Unit) (fun k => True) (fun k => .int .i64 (orI Y1)) (fun k => []) := by
 refine Tr.intro Tryz.func181 rfl (n := 18) rfl (by decide +kernel) bl (fr := [(0, .slice a_vals m_vals c_vals)]) rfl fun w L hR => ?_
 have hvals := hR
 obtain ⟨rfl, lvals⟩ := hvals.slen
 refine Ew Z1 (Ei rfl (Ev Z1 (Ei rfl (Eu (Eq_ (Ew Z3 (Em rfl (Ey rfl ((Y.len us_Is rfl).yd) (Em rfl (Eu (E.block (E.loop (κ := Nat) (fun g => g ≤ Y1.length ∧ orI Y1 = orI (Y1.drop g)) (fun g => [(3, .int .i64 0), (6, .slice a_vals Y1.length c_vals), (7, .int .i64 (↑Y1.length : Int)), (8, .int .i64 (g : Int))]) (fun g => []) (fun g => Y1.length - g) 0 ⟨Nat.zero_le _, by simp⟩ ⟨rfl, rfl, rfl, rfl, trivial⟩ (.refl _) (fun g pg => ?_)))))))))))))
 obtain ⟨pk, pa⟩ := pg
 refine Ew Z1 (Ey rfl ((Y.lss rfl rfl).yd) (n9 (fun q9 => ?_) (fun q9 => ?_)))
 ·obtain ⟨eb10, eo10, ea10, ei10, eh10⟩ := hvals.elemI g om
  refine Eu (Eq_ (o0 rfl (f8 (Et (Eq_ (E.block (Ew Z3 (Ey rfl ((t6 us_Is f6 rfl ea10 rfl g rfl om).yd) (Ey rfl (f9 f6 rfl (eh10 _) rfl) (Ei rfl (Ev Z3 (Em rfl (Em rfl (Ey rfl ((Y.neq rfl rfl).yd) (n9 (fun q14 => ?_) (fun q14 => ?_))))))))))))))))
  ·refine Eu (o0 rfl (Ew Z2 (Em rfl (Ei rfl ?_))))
   exact Eu (E.ret (B0 (o4 (o4 (B0 (o4 (Fg rfl rfl () (congrArg (Value.int .i64) (by grind [orI, d1, d2, t1, t2])) rfl)))))))
  ·refine Eu (n0 rfl (f8 (s4 (Et (Ez Z2 (Ey rfl ((Y.add rfl rfl om om).yd) (Em rfl ?_)))))))
   exact Eu (x3 br (g + 1) rs (.refl _) ⟨by omega, by grind [orI, d1, d2, t1, t2]⟩ om)
 ·refine Eu (Eq_ (n0 rfl (E.exit (o3 (o3 (x5 (Et (Ew Z2 (Em rfl (Ei rfl ?_))))))))))
  exact Eu (E.ret (Fg rfl rfl () (congrArg (Value.int .i64) (by grind [orI, d1, d2, t1, t2])) rfl))
theorem a1m : Tr Tryz.prog 183 [.slice a_s1 m_s1 c_s1, .slice a_s2 m_s2 c_s2] (fun w L => Ro w L eIs [.slice a_s1 m_s1 c_s1] s1 ∧ Ro w L eIs [.slice a_s2 m_s2 c_s2] s2) [] (κ := Unit) (fun k => True) (fun k => .int .i64 (G3 s1 s2)) (fun k => []) := by
 refine Tr.intro Tryz.func183 rfl (n := 36) rfl (by decide +kernel) bl (fr := [(0, .slice a_s1 m_s1 c_s1), (1, .slice a_s2 m_s2 c_s2)]) rfl fun w L hR => ?_
 obtain ⟨hs1, hs2⟩ := hR
 obtain ⟨rfl, ls1⟩ := hs1.slen
 obtain ⟨rfl, ls2⟩ := hs2.slen
 refine Ew Z1 (Ei rfl (Eu (Eq_ (Ew Z3 (Em rfl (Ey rfl ((Y.len us_Is rfl).yd) (Em rfl (Eu (E.block (E.loop (κ := Nat) (fun g => g ≤ s1.length ∧ G3 s1 s2 = G3 (s1.drop g) (s2.drop g)) (fun g => [(0, .slice a_s1 s1.length c_s1), (1, .slice a_s2 s2.length c_s2), (9, .slice a_s1 s1.length c_s1), (10, .int .i64 (↑s1.length : Int)), (11, .int .i64 (g : Int))]) (fun g => []) (fun g => s1.length - g) 0 ⟨Nat.zero_le _, by simp⟩ ⟨rfl, rfl, rfl, rfl, rfl, trivial⟩ (.refl _) (fun g pg => ?_)))))))))))
 obtain ⟨pk, pa⟩ := pg
 refine Ew Z1 (Ey rfl ((Y.lss rfl rfl).yd) (n9 (fun q12 => ?_) (fun q12 => ?_)))
 ·refine Eu (Eq_ (o0 rfl (f8 (Et (Eq_ (E.block (Ew Z5 (Em rfl ?_))))))))
  obtain ⟨eb14, eo14, ea14, ei14, eh14⟩ := hs1.elemI g om
  refine Ey rfl ((t6 us_Is f6 rfl ea14 rfl g rfl om).yd) (Ey rfl (f9 f6 rfl (eh14 _) rfl) (Ei rfl (Ei rfl (Eu (Eq_ (Ew Z4 (Em rfl (Em rfl (Ey rfl ((Y.len us_Is rfl).yd) (Ey rfl ((Y.geq rfl rfl).yd) (n9 (fun q19 => ?_) (fun q19 => ?_))))))))))))
  ·refine Eu (o0 rfl (Ew Z1 (Ei rfl ?_)))
   exact Eu (E.ret (o4 (B0 (o4 (o4 (B0 (o4 (Fg rfl rfl () (congrArg (Value.int .i64) (by grind [G3, d1, d2, t1, t2])) rfl))))))))
  ·refine Eu (n0 rfl (f8 (Et (Ew Z5 (Em rfl (Em rfl ?_))))))
   obtain ⟨eb22, eo22, ea22, ei22, eh22⟩ := hs2.elemI g om
   refine Ey rfl ((t6 us_Is f6 rfl ea22 rfl g rfl om).yd) (Ey rfl (f9 f6 rfl (eh22 _) rfl) (Ei rfl (Ev Z4 (Em rfl (Em rfl (Est rfl (m6 a0R rfl rfl rfl dc tv) (fun _ _ => (Ei rfl (Ev Z2 (Em rfl (Ey rfl ((Y.neq rfl rfl).yd) (n9 (fun q28 => ?_) (fun q28 => ?_)))))))))))))
   ·refine Eu (o0 rfl (Ew Z2 (Em rfl (Ei rfl ?_))))
    exact Eu (E.ret (B0 (o4 (o4 (B0 (o4 (Fg rfl rfl () (congrArg (Value.int .i64) (by grind [G3, d1, d2, t1, t2])) rfl)))))))
   ·refine Eu (n0 rfl (f8 (s4 (Et (Ez Z2 (Ey rfl ((Y.add rfl rfl om om).yd) (Em rfl ?_)))))))
    exact Eu (x3 br (g + 1) rs (.refl _) ⟨by omega, by grind [G3, d1, d2, t1, t2]⟩ om)
 ·refine Eu (Eq_ (n0 rfl (E.exit (o3 (o3 (x5 (Et (Eq_ (Ew Z5 (Em rfl (Ey rfl ((Y.len us_Is rfl).yd) (Em rfl (Ey rfl ((Y.len us_Is rfl).yd) (Ey rfl ((Y.lss rfl rfl).yd) (n9 (fun q35 => ?_) (fun q35 => ?_))))))))))))))))
  ·refine Eu (o0 rfl (Ew Z1 (Ei rfl ?_)))
   exact Eu (E.ret (o4 (Fg rfl rfl () (congrArg (Value.int .i64) (by grind [G3, d1, d2, t1, t2])) rfl)))
  ·refine Eu (n0 rfl (f8 (Et (Ew Z1 (Ei rfl ?_)))))
   exact Eu (E.ret (Fg rfl rfl () (congrArg (Value.int .i64) (by grind [G3, d1, d2, t1, t2])) rfl))
theorem a0o : Tr Tryz.prog 136 [.agg #[.int .i64 j4, .slice V0 X4 U9], .agg #[.int .i64 a0m, .slice s6 u4 s5]] (fun w L => I64 j4 ∧ Ro w L eIs [.slice V0 X4 U9] Q8 ∧ I64 a0m ∧ Ro w L eIs [.slice s6 u4 s5] d9) [] (κ := Unit) (fun k => True) (fun k => .int .i64 (I8 (j4, Q8) (a0m, d9))) (fun k => []) := by
 refine Tr.intro Tryz.func136 rfl (n := 17) rfl (by decide +kernel) bl (fr := [(0, .agg #[.int .i64 j4, .slice V0 X4 U9]), (1, .agg #[.int .i64 a0m, .slice s6 u4 s5])]) rfl fun w L hR => ?_
 obtain ⟨N5, a0M, b0F, u9⟩ := hR
 obtain ⟨rfl, a8S⟩ := a0M.slen
 obtain ⟨rfl, I7⟩ := u9.slen
 refine Ew Z3 (Est rfl (N.box (cs := [_, _]) rfl dc rfl) (fun b2 _ => (Est rfl (N.box (cs := [_, _]) rfl dc rfl) (fun b3 _ => (Ei rfl (Eu (Eq_ (D.region (fun j => true) mixed (Dyp 0 rfl (i0 fo_Fact_0 f6 dc rfl) (Dy 1 rfl (f9 f6 rfl (Hz (mS m0) 0 rfl) rfl) (Dyp 2 rfl (i0 fo_Fact_0 f6 dc rfl) (Dy 3 rfl (f9 f6 rfl (Hz m0 0 rfl) rfl) (Dyp 5 rfl (i0 fo_Fact_1 ty_Is dc rfl) (Dy 6 rfl (f9 ty_Is rfl (Hz (mS m0) 1 rfl) rfl) (Dyp 7 rfl (i0 fo_Fact_1 ty_Is dc rfl) (Dy 8 rfl (f9 ty_Is rfl (Hz m0 1 rfl) rfl) ?_))))))))))))))))
 have j1 := @a6q j4 a0m
 refine r8 4 rfl rfl kr (fun _ => rfl) (m6 a0R rfl rfl rfl dc tv) (fun _ _ => ?_)
 have j2 := @a6H Q8 d9
 refine r8 9 rfl rfl kr (fun _ => rfl) (m6 a1m rfl rfl rfl dc (fun w Lp hA => ⟨hA.ro a0M, hA.ro u9⟩)) (fun _ _ => (r8 10 rfl rfl kr (fun _ => rfl) (Nb [_, _] [_, _] us_Is f6 rfl rfl) (fun b15 _ => (o2 (A := [_]) (Own.ints (e := tI) (xs := [L7 j4 a0m, G3 Q8 d9]) rfl (by simp [maxLen]) (by simp only [List.forall_mem_cons]; exact ⟨i6, i6, List.forall_mem_nil _⟩)) rfl (r8 11 rfl rfl kr (fun _ => rfl) (m6 a6u rfl rfl rfl dc (fun w Lp hA => hA.ow m0)) (fun _ _ => (Dyp 12 rfl (C0 rfl) ?_)))))))
 exact r7 kr (Et (E.ret (Fg rfl rfl () (congrArg (Value.int .i64) (by grind [I8, orI, d1, d2, t1, t2])) rfl)))
theorem O0 : Tr Tryz.prog 55 [.agg #[.int .i64 j4, .slice V0 X4 U9], .agg #[.int .i64 a0m, .slice s6 u4 s5]] (fun w L => I64 j4 ∧ Ro w L eIs [.slice V0 X4 U9] Q8 ∧ I64 a0m ∧ Ro w L eIs [.slice s6 u4 s5] d9) [] (κ := Unit) (fun k => True) (fun k => .int .i64 (I8 (j4, Q8) (a0m, d9))) (fun k => []) := by
 refine Tr.intro Tryz.func55 rfl (n := 66) rfl (by decide +kernel) bl (fr := [(0, .agg #[.int .i64 j4, .slice V0 X4 U9]), (1, .agg #[.int .i64 a0m, .slice s6 u4 s5])]) rfl fun w L hR => ?_
 obtain ⟨N5, a0M, b0F, u9⟩ := hR
 obtain ⟨rfl, a8S⟩ := a0M.slen
 obtain ⟨rfl, I7⟩ := u9.slen
 refine Ew Z3 (Est rfl (N.box (cs := [_, _]) rfl dc rfl) (fun b2 _ => (Est rfl (N.box (cs := [_, _]) rfl dc rfl) (fun b3 _ => (Ei rfl (Eu (Eq_ (Ew Z5 (Ey rfl ((i0 fo_Fact_0 f6 dc rfl).yd) (Ey rfl (f9 f6 rfl (Hz (mS m0) 0 rfl) rfl) (Ey rfl ((i0 fo_Fact_0 f6 dc rfl).yd) (Ey rfl (f9 f6 rfl (Hz m0 0 rfl) rfl) (Ey rfl ((Y.neq rfl rfl).yd) (n9 (fun q10 => ?_) (fun q10 => ?_)))))))))))))))
 ·refine Eu (o0 rfl (Eq_ (Ew Z5 (Ey rfl ((i0 fo_Fact_0 f6 dc rfl).yd) (Ey rfl (f9 f6 rfl (Hz (mS m0) 0 rfl) rfl) (Ey rfl ((i0 fo_Fact_0 f6 dc rfl).yd) (Ey rfl (f9 f6 rfl (Hz m0 0 rfl) rfl) (Ey rfl ((Y.lss rfl rfl).yd) (n9 (fun q15 => ?_) (fun q15 => ?_))))))))))
  ·refine Eu (o0 rfl (Ew Z1 (Ei rfl ?_)))
   exact Eu (E.ret (o4 (o4 (Fg rfl rfl () (congrArg (Value.int .i64) (by grind [I8, L7, G3, d1, d2, t1, t2])) rfl))))
  ·refine Eu (n0 rfl (f8 (Et (Ew Z1 (Ei rfl ?_)))))
   exact Eu (E.ret (o4 (Fg rfl rfl () (congrArg (Value.int .i64) (by grind [I8, L7, G3, d1, d2, t1, t2])) rfl)))
 ·refine Eu (n0 rfl (f8 (Et (Eq_ (Ew Z1 (Ei rfl (Eu (E.block (E.loop (κ := Nat) (fun g => g ≤ Q8.length ∧ g ≤ d9.length ∧ G3 Q8 d9 = G3 (Q8.drop g) (d9.drop g)) (fun g => [(2, .pointer (some ⟨b2, 0, none⟩)), (3, .pointer (some ⟨b3, 0, none⟩)), (5, .int .i64 (g : Int))]) (fun g => [pt b3 83 [.int .i64 a0m, .slice s6 d9.length s5], pt b2 83 [.int .i64 j4, .slice V0 Q8.length U9]]) (fun g => Q8.length - g) 0 ⟨Nat.zero_le _, by simp⟩ ⟨rfl, rfl, rfl, trivial⟩ (.refl _) (fun g pg => ?_))))))))))
  obtain ⟨pk, pa⟩ := pg
  refine Eq_ (Ew Z12 (Em rfl (Ey rfl ((i0 fo_Fact_1 ty_Is dc rfl).yd) (Ey rfl (f9 ty_Is rfl (Hz (mS m0) 1 rfl) rfl) (Ey rfl ((Y.len us_Is rfl).yd) (Ey rfl ((Y.lss rfl rfl).yd) (n9 (fun q20 => ?_) (fun q20 => ?_))))))))
  ·refine Em rfl (Em rfl (Ey rfl ((i0 fo_Fact_1 ty_Is dc rfl).yd) (Ey rfl (f9 ty_Is rfl (Hz m0 1 rfl) rfl) (Ey rfl ((Y.len us_Is rfl).yd) (Ey rfl ((Y.lss rfl rfl).yd) (n9 (fun q26 => ?_) (fun q26 => ?_)))))))
   ·refine Ey rfl ((v8 rfl rfl).yd) (Eu (o0 rfl (f8 (Et (Eq_ (E.block (Eq_ (Eq_ (D.region (fun j => true) mixed (Dyp 0 rfl (i0 fo_Fact_1 ty_Is dc rfl) (Dy 1 rfl (f9 ty_Is rfl (Hz (mS m0) 1 rfl) rfl) (Dyp 2 rfl (i8 rfl) ?_))))))))))))
    obtain ⟨eb33, eo33, ea33, ei33, eh33⟩ := a0M.elemI g om
    refine Dyp 3 rfl (t6 us_Is f6 rfl ea33 rfl g rfl om) (Dy 4 rfl (f9 f6 rfl (eh33 _) rfl) (Dyp 5 rfl (i0 fo_Fact_1 ty_Is dc rfl) (Dy 6 rfl (f9 ty_Is rfl (Hz m0 1 rfl) rfl) (Dyp 7 rfl (i8 rfl) ?_))))
    obtain ⟨eb38, eo38, ea38, ei38, eh38⟩ := u9.elemI g om
    refine Dyp 8 rfl (t6 us_Is f6 rfl ea38 rfl g rfl om) (Dy 9 rfl (f9 f6 rfl (eh38 _) rfl) (Dyp 10 rfl (Y.lss rfl rfl) (n9 (fun q40 => ?_) (fun q40 => ?_))))
    ·refine r7 kr (Et (o0 rfl (Ew Z1 (Ei rfl ?_))))
     exact Eu (E.ret (o4 (B0 (o4 (o4 (B0 (o4 (Fg rfl rfl () (congrArg (Value.int .i64) (by grind [I8, L7, G3, d1, d2, t1, t2])) rfl))))))))
    ·refine r7 kr (Et (n0 rfl (f8 (Et (Eq_ (D.region (fun j => true) mixed (Dyp 0 rfl (i0 fo_Fact_1 ty_Is dc rfl) (Dy 1 rfl (f9 ty_Is rfl (Hz (mS m0) 1 rfl) rfl) (Dyp 2 rfl (i8 rfl) (Dyp 3 rfl (t6 us_Is f6 rfl ea33 rfl g rfl om) (Dy 4 rfl (f9 f6 rfl (eh33 _) rfl) (Dyp 5 rfl (i0 fo_Fact_1 ty_Is dc rfl) (Dy 6 rfl (f9 ty_Is rfl (Hz m0 1 rfl) rfl) (Dyp 7 rfl (i8 rfl) (Dyp 8 rfl (t6 us_Is f6 rfl ea38 rfl g rfl om) (Dy 9 rfl (f9 f6 rfl (eh38 _) rfl) (Dyp 10 rfl (Y.gtr rfl rfl) (n9 (fun q51 => ?_) (fun q51 => ?_)))))))))))))))))))
     ·refine r7 kr (Et (o0 rfl (Ew Z1 (Ei rfl ?_))))
      exact Eu (E.ret (B0 (o4 (o4 (B0 (o4 (Fg rfl rfl () (congrArg (Value.int .i64) (by grind [I8, L7, G3, d1, d2, t1, t2])) rfl)))))))
     ·refine r7 kr (Et (n0 rfl (f8 (s4 (Et (Ez Z3 (Em rfl (Ey rfl ((Y.add rfl rfl om om).yd) (Ei rfl (Eu (d7 (d7 ?_))))))))))))
      exact x3 br (g + 1) rs (.refl _) ⟨by omega, by grind [G3, L7, d1, d2, t1, t2]⟩ om
   ·refine Ey rfl ((v8 rfl rfl).yd) (Eu (n0 rfl (E.exit (o3 (o3 (x5 (Et (Eq_ (Ew Z7 (Ey rfl ((i0 fo_Fact_1 ty_Is dc rfl).yd) (Ey rfl (f9 ty_Is rfl (Hz (mS m0) 1 rfl) rfl) (Ey rfl ((Y.len us_Is rfl).yd) (Ey rfl ((i0 fo_Fact_1 ty_Is dc rfl).yd) (Ey rfl (f9 ty_Is rfl (Hz m0 1 rfl) rfl) (Ey rfl ((Y.len us_Is rfl).yd) (Ey rfl ((Y.lss rfl rfl).yd) (n9 (fun q58 => ?_) (fun q58 => ?_))))))))))))))))))
    ·refine Eu (o0 rfl (Ew Z1 (Ei rfl ?_)))
     exact Eu (E.ret (o4 (Fg rfl rfl () (congrArg (Value.int .i64) (by grind [I8, L7, G3, d1, d2, t1, t2])) rfl)))
    ·refine Eu (n0 rfl (f8 (Et (Eq_ (Ew Z7 (Ey rfl ((i0 fo_Fact_1 ty_Is dc rfl).yd) (Ey rfl (f9 ty_Is rfl (Hz (mS m0) 1 rfl) rfl) (Ey rfl ((Y.len us_Is rfl).yd) (Ey rfl ((i0 fo_Fact_1 ty_Is dc rfl).yd) (Ey rfl (f9 ty_Is rfl (Hz m0 1 rfl) rfl) (Ey rfl ((Y.len us_Is rfl).yd) (Ey rfl ((Y.gtr rfl rfl).yd) (n9 (fun q65 => ?_) (fun q65 => ?_))))))))))))))
     ·refine Eu (o0 rfl (Ew Z1 (Ei rfl ?_)))
      exact Eu (E.ret (o4 (Fg rfl rfl () (congrArg (Value.int .i64) (by grind [I8, L7, G3, d1, d2, t1, t2])) rfl)))
     ·refine Eu (n0 rfl (f8 (Et (Ew Z1 (Ei rfl ?_)))))
      exact Eu (E.ret (Fg rfl rfl () (congrArg (Value.int .i64) (by grind [I8, L7, G3, d1, d2, t1, t2])) rfl))
  ·refine Em rfl (Es rfl (Es rfl (Es rfl (Es rfl (Es rfl (Ey rfl ((u7 rfl rfl).yd) (Eu (n0 rfl (E.exit (o3 (o3 (x5 (Et (Eq_ (Ew Z7 (Ey rfl ((i0 fo_Fact_1 ty_Is dc rfl).yd) (Ey rfl (f9 ty_Is rfl (Hz (mS m0) 1 rfl) rfl) (Ey rfl ((Y.len us_Is rfl).yd) (Ey rfl ((i0 fo_Fact_1 ty_Is dc rfl).yd) (Ey rfl (f9 ty_Is rfl (Hz m0 1 rfl) rfl) (Ey rfl ((Y.len us_Is rfl).yd) (Ey rfl ((Y.lss rfl rfl).yd) (n9 (fun q58 => ?_) (fun q58 => ?_))))))))))))))))))))))))
   ·refine Eu (o0 rfl (Ew Z1 (Ei rfl ?_)))
    exact Eu (E.ret (o4 (Fg rfl rfl () (congrArg (Value.int .i64) (by grind [I8, L7, G3, d1, d2, t1, t2])) rfl)))
   ·refine Eu (n0 rfl (f8 (Et (Eq_ (Ew Z7 (Ey rfl ((i0 fo_Fact_1 ty_Is dc rfl).yd) (Ey rfl (f9 ty_Is rfl (Hz (mS m0) 1 rfl) rfl) (Ey rfl ((Y.len us_Is rfl).yd) (Ey rfl ((i0 fo_Fact_1 ty_Is dc rfl).yd) (Ey rfl (f9 ty_Is rfl (Hz m0 1 rfl) rfl) (Ey rfl ((Y.len us_Is rfl).yd) (Ey rfl ((Y.gtr rfl rfl).yd) (n9 (fun q65 => ?_) (fun q65 => ?_))))))))))))))
    ·refine Eu (o0 rfl (Ew Z1 (Ei rfl ?_)))
     exact Eu (E.ret (o4 (Fg rfl rfl () (congrArg (Value.int .i64) (by grind [I8, L7, G3, d1, d2, t1, t2])) rfl)))
    ·refine Eu (n0 rfl (f8 (Et (Ew Z1 (Ei rfl ?_)))))
     exact Eu (E.ret (Fg rfl rfl () (congrArg (Value.int .i64) (by grind [I8, L7, G3, d1, d2, t1, t2])) rfl))
theorem a4l {a : List (Int × List Int)} {b : List (Int × List Int)} : Tr Tryz.prog 16 [.slice a_a m_a c_a, .slice a_b m_b c_b] (fun w L => Ro w L u5 [.slice a_a m_a c_a] a ∧ Ro w L u5 [.slice a_b m_b c_b] b) [] (κ := Unit) (fun k => True) (fun k => .bool (decide (a = b))) (fun k => []) := by
 refine Tr.intro Tryz.func16 rfl (n := 27) rfl (by decide +kernel) bl (fr := [(0, .slice a_a m_a c_a), (1, .slice a_b m_b c_b)]) rfl fun w L hR => ?_
 obtain ⟨ha, hb⟩ := hR
 obtain ⟨rfl, la⟩ := ha.slen
 obtain ⟨rfl, lb⟩ := hb.slen
 refine Ew Z1 (Ei rfl (Eu (Eq_ (Ew Z5 (Em rfl (Ey rfl ((Y.len us_Facts rfl).yd) (Em rfl (Ey rfl ((Y.len us_Facts rfl).yd) (Ey rfl ((Y.neq rfl rfl).yd) (n9 (fun q10 => ?_) (fun q10 => ?_)))))))))))
 ·refine Eu (o0 rfl (Ew Z1 (Ei rfl ?_)))
  exact Eu (E.ret (o4 (Fb rfl rfl (by rw [← a3f]; grind [eqP, a2i, d1, d2, t1, t2]))))
 ·refine Eu (n0 rfl (f8 (Et (Eq_ (Ew Z1 (Ei rfl (Eu (E.block (E.loop (κ := Nat) (fun g => g ≤ a.length ∧ a.length = b.length ∧ eqP (fun z y => decide (I8 z y = 0)) a b = eqP (fun z y => decide (I8 z y = 0)) (a.drop g) (b.drop g)) (fun g => [(0, .slice a_a a.length c_a), (1, .slice a_b b.length c_b), (5, .int .i64 (g : Int))]) (fun g => []) (fun g => a.length - g) 0 ⟨Nat.zero_le _, by exact ⟨by omega, rfl⟩⟩ ⟨rfl, rfl, rfl, trivial⟩ (.refl _) (fun g pg => ?_))))))))))
  obtain ⟨pk, pa⟩ := pg
  refine Eq_ (Ew Z4 (Em rfl (Em rfl (Ey rfl ((Y.len us_Facts rfl).yd) (Ey rfl ((Y.lss rfl rfl).yd) (n9 (fun q14 => ?_) (fun q14 => ?_)))))))
  ·refine Eu (o0 rfl (f8 (Et (Eq_ (E.block (Eq_ (D.region (fun j => true) mixed (Dyp 0 rfl (i8 rfl) (Dyp 1 rfl (i8 rfl) ?_)))))))))
   obtain ⟨eb19, eo19, ec19, ea19, er19, el19, eh19⟩ := ha.elem g om
   obtain ⟨xa19_0, xc19_0, rfl, ei19_0, xh19_0⟩ := M4 er19
   have := xh19_0.slen.2
   refine Dyp 2 rfl (t6 us_Facts ty_Fact rfl ea19 rfl g rfl om) (Dy 3 rfl (j6 (cs := [_, _]) ty_Fact rfl (eh19 _) rfl) (Dyp 4 rfl (i8 rfl) (Dyp 5 rfl (i8 rfl) ?_)))
   obtain ⟨eb23, eo23, ec23, ea23, er23, el23, eh23⟩ := hb.elem g om
   obtain ⟨xa23_0, xc23_0, rfl, ei23_0, xh23_0⟩ := M4 er23
   have := xh23_0.slen.2
   refine Dyp 6 rfl (t6 us_Facts ty_Fact rfl ea23 rfl g rfl om) (Dy 7 rfl (j6 (cs := [_, _]) ty_Fact rfl (eh23 _) rfl) (r8 8 rfl rfl kr (fun _ => rfl) (m6 O0 rfl rfl rfl dc (fun w Lp hA => ⟨ei19_0, hA.ro xh19_0, ei23_0, hA.ro xh23_0⟩)) (fun _ _ => (Dyp 9 rfl (Y.neq rfl rfl) (n9 (fun q26 => ?_) (fun q26 => ?_))))))
   ·refine r7 kr (Et (o0 rfl (Ew Z1 (Ei rfl ?_))))
    exact Eu (E.ret (B0 (o4 (o4 (B0 (o4 (Fb rfl rfl (by rw [← a3f]; grind [eqP, a2i, d1, d2, t1, t2]))))))))
   ·refine r7 kr (Et (n0 rfl (f8 (s4 (Et (Ez Z3 (Em rfl (Ey rfl ((Y.add rfl rfl om om).yd) (Ei rfl ?_)))))))))
    exact Eu (x3 br (g + 1) rs (.refl _) ⟨by omega, by grind [eqP, a2i, d1, d2, t1, t2]⟩ om)
  ·refine Eu (n0 rfl (E.exit (o3 (o3 (x5 (Et (Ew Z1 (Ei rfl ?_))))))))
   exact Eu (E.ret (Fb rfl rfl (by rw [← a3f]; grind [eqP, a2i, d1, d2, t1, t2])))
theorem X7 : Tr Tryz.prog 69 [.slice a_s1 m_s1 c_s1, .slice a_s2 m_s2 c_s2] (fun w L => Ro w L eIs [.slice a_s1 m_s1 c_s1] s1 ∧ Ro w L eIs [.slice a_s2 m_s2 c_s2] s2) [] (κ := Unit) (fun k => True) (fun k => .bool (decide (s1 = s2))) (fun k => []) := by
 refine Tr.intro Tryz.func69 rfl (n := 26) rfl (by decide +kernel) bl (fr := [(0, .slice a_s1 m_s1 c_s1), (1, .slice a_s2 m_s2 c_s2)]) rfl fun w L hR => ?_
 obtain ⟨hs1, hs2⟩ := hR
 obtain ⟨rfl, ls1⟩ := hs1.slen
 obtain ⟨rfl, ls2⟩ := hs2.slen
 refine Ew Z1 (Ei rfl (Eu (Eq_ (Ew Z5 (Em rfl (Ey rfl ((Y.len us_Is rfl).yd) (Em rfl (Ey rfl ((Y.len us_Is rfl).yd) (Ey rfl ((Y.neq rfl rfl).yd) (n9 (fun q10 => ?_) (fun q10 => ?_)))))))))))
 ·refine Eu (o0 rfl (Ew Z1 (Ei rfl ?_)))
  exact Eu (E.ret (o4 (Fb rfl rfl (by grind [d1, d2, t1, t2]))))
 ·refine Eu (n0 rfl (f8 (Et (Eq_ (Ew Z3 (Em rfl (Ey rfl ((Y.len us_Is rfl).yd) (Em rfl (Eu (E.block (E.loop (κ := Nat) (fun g => g ≤ s1.length ∧ s1.length = s2.length ∧ (s1 = s2 ↔ s1.drop g = s2.drop g)) (fun g => [(0, .slice a_s1 s1.length c_s1), (1, .slice a_s2 s2.length c_s2), (12, .int .i64 (↑s1.length : Int)), (13, .int .i64 (g : Int))]) (fun g => []) (fun g => s1.length - g) 0 ⟨Nat.zero_le _, by exact ⟨by omega, by simp⟩⟩ ⟨rfl, rfl, rfl, rfl, trivial⟩ (.refl _) (fun g pg => ?_))))))))))))
  obtain ⟨pk, pa⟩ := pg
  refine Ew Z1 (Ey rfl ((Y.lss rfl rfl).yd) (n9 (fun q14 => ?_) (fun q14 => ?_)))
  ·refine Eu (Eq_ (o0 rfl (f8 (Et (Eq_ (E.block (Ew Z2 (Em rfl (Ei rfl (Eu (Eq_ (D.region (fun j => true) mixed (Dyp 0 rfl (i8 rfl) (Dyp 1 rfl (i8 rfl) ?_))))))))))))))
   obtain ⟨eb18, eo18, ea18, ei18, eh18⟩ := hs1.elemI g om
   refine Dyp 2 rfl (t6 us_Is f6 rfl ea18 rfl g rfl om) (Dy 3 rfl (f9 f6 rfl (eh18 _) rfl) (Dyp 4 rfl (i8 rfl) (Dyp 5 rfl (i8 rfl) ?_)))
   obtain ⟨eb22, eo22, ea22, ei22, eh22⟩ := hs2.elemI g om
   refine Dyp 6 rfl (t6 us_Is f6 rfl ea22 rfl g rfl om) (Dy 7 rfl (f9 f6 rfl (eh22 _) rfl) (Dyp 8 rfl (Y.neq rfl rfl) (n9 (fun q24 => ?_) (fun q24 => ?_))))
   ·refine r7 kr (Et (o0 rfl (Ew Z1 (Ei rfl ?_))))
    exact Eu (E.ret (B0 (o4 (o4 (B0 (o4 (Fb rfl rfl (by grind [d1, d2, t1, t2]))))))))
   ·refine r7 kr (Et (n0 rfl (f8 (s4 (Et (Ez Z2 (Ey rfl ((Y.add rfl rfl om om).yd) (Em rfl ?_))))))))
    exact Eu (x3 br (g + 1) rs (.refl _) ⟨by omega, by grind [d1, d2, t1, t2]⟩ om)
  ·refine Eu (Eq_ (n0 rfl (E.exit (o3 (o3 (x5 (Et (Ew Z1 (Ei rfl ?_)))))))))
   exact Eu (E.ret (Fb rfl rfl (by grind [d1, d2, t1, t2])))
theorem V1 {a : List Int} {b : List Int} : Tr Tryz.prog 79 [.slice a_a m_a c_a, .slice a_b m_b c_b] (fun w L => Ro w L eIs [.slice a_a m_a c_a] a ∧ Ro w L eIs [.slice a_b m_b c_b] b) [] (κ := Unit) (fun k => True) (fun k => .bool (decide (a = b))) (fun k => []) := by
 refine Tr.intro Tryz.func79 rfl (n := 26) rfl (by decide +kernel) bl (fr := [(0, .slice a_a m_a c_a), (1, .slice a_b m_b c_b)]) rfl fun w L hR => ?_
 obtain ⟨ha, hb⟩ := hR
 obtain ⟨rfl, la⟩ := ha.slen
 obtain ⟨rfl, lb⟩ := hb.slen
 refine Ew Z1 (Ei rfl (Eu (Eq_ (Ew Z5 (Em rfl (Ey rfl ((Y.len us_Is rfl).yd) (Em rfl (Ey rfl ((Y.len us_Is rfl).yd) (Ey rfl ((Y.neq rfl rfl).yd) (n9 (fun q10 => ?_) (fun q10 => ?_)))))))))))
 ·refine Eu (o0 rfl (Ew Z1 (Ei rfl ?_)))
  exact Eu (E.ret (o4 (Fb rfl rfl (by grind [d1, d2, t1, t2]))))
 ·refine Eu (n0 rfl (f8 (Et (Eq_ (Ew Z1 (Ei rfl (Eu (E.block (E.loop (κ := Nat) (fun g => g ≤ a.length ∧ a.length = b.length ∧ (a = b ↔ a.drop g = b.drop g)) (fun g => [(0, .slice a_a a.length c_a), (1, .slice a_b b.length c_b), (5, .int .i64 (g : Int))]) (fun g => []) (fun g => a.length - g) 0 ⟨Nat.zero_le _, by exact ⟨by omega, by simp⟩⟩ ⟨rfl, rfl, rfl, trivial⟩ (.refl _) (fun g pg => ?_))))))))))
  obtain ⟨pk, pa⟩ := pg
  refine Eq_ (Ew Z4 (Em rfl (Em rfl (Ey rfl ((Y.len us_Is rfl).yd) (Ey rfl ((Y.lss rfl rfl).yd) (n9 (fun q14 => ?_) (fun q14 => ?_)))))))
  ·refine Eu (o0 rfl (f8 (Et (Eq_ (E.block (Eq_ (D.region (fun j => true) mixed (Dyp 0 rfl (i8 rfl) (Dyp 1 rfl (i8 rfl) ?_)))))))))
   obtain ⟨eb19, eo19, ea19, ei19, eh19⟩ := ha.elemI g om
   refine Dyp 2 rfl (t6 us_Is f6 rfl ea19 rfl g rfl om) (Dy 3 rfl (f9 f6 rfl (eh19 _) rfl) (Dyp 4 rfl (i8 rfl) (Dyp 5 rfl (i8 rfl) ?_)))
   obtain ⟨eb23, eo23, ea23, ei23, eh23⟩ := hb.elemI g om
   refine Dyp 6 rfl (t6 us_Is f6 rfl ea23 rfl g rfl om) (Dy 7 rfl (f9 f6 rfl (eh23 _) rfl) (Dyp 8 rfl (Y.neq rfl rfl) (n9 (fun q25 => ?_) (fun q25 => ?_))))
   ·refine r7 kr (Et (o0 rfl (Ew Z1 (Ei rfl ?_))))
    exact Eu (E.ret (B0 (o4 (o4 (B0 (o4 (Fb rfl rfl (by grind [d1, d2, t1, t2]))))))))
   ·refine r7 kr (Et (n0 rfl (f8 (s4 (Et (Ez Z3 (Em rfl (Ey rfl ((Y.add rfl rfl om om).yd) (Ei rfl ?_)))))))))
    exact Eu (x3 br (g + 1) rs (.refl _) ⟨by omega, by grind [d1, d2, t1, t2]⟩ om)
  ·refine Eu (n0 rfl (E.exit (o3 (o3 (x5 (Et (Ew Z1 (Ei rfl ?_))))))))
   exact Eu (E.ret (Fb rfl rfl (by grind [d1, d2, t1, t2])))
end Go.Proofs.YtbedienpleiamaaGreat
