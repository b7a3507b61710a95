import Derived.Test.YtlfhopooaejpfaaGreatT5
namespace Go.Proofs.YtlfhopooaejpfaaGreat
open Go.RowKit
set_option linter.all false
set_option maxHeartbeats 2000000
attribute [local irreducible] Nop Yd Yp Ent Has Tr FnP FnP2 Src
variable {x o3 a3z B9 a2j : Int} {s1 s2 E5 f8 : List Int} {m_s1 c_s1 m_s2 c_s2 G2 E7 B8 y7 : Nat} {a_s1 a_s2 E8 y8 : Option Addr}
theorem a5m : Tr Tryz.prog 225 [.int .i64 x] (fun w L => True) [] (κ := Unit) (fun k => True) (fun k => .bool (false)) (fun k => []) := by
 refine Tr.intro Tryz.func225 rfl (n := 6) rfl (by decide +kernel) bl (fr := [(0, .int .i64 x)]) rfl fun w L hR => (Ew Z1 (Ei rfl (Ev Z4 (Em rfl (Em rfl (Ey rfl ((Y.neq rfl rfl).yd) (Ei rfl ?_)))))))
 exact Eu (E.ret (Fb rfl rfl (by simp)))
theorem a4k {y : Int} : Tr Tryz.prog 181 [.int .i64 x, .int .i64 y] (fun w L => True) [] (κ := Unit) (fun k => True) (fun k => .int .i64 (R6 x y)) (fun k => []) := by
 refine Tr.intro Tryz.func181 rfl (n := 20) rfl (by decide +kernel) bl (fr := [(0, .int .i64 x), (1, .int .i64 y)]) rfl fun w L hR => (Ew Z1 (Ei rfl (Ev Z3 (Em rfl (Est rfl (o4 a5m rfl rfl rfl dc tv) (fun _ _ => (Ei rfl (Ev Z3 (Em rfl (Est rfl (o4 a5m rfl rfl rfl dc tv) (fun _ _ => (Ei rfl (Eu (Eq_ (Ew Z1 (Em rfl (Eu (n8 rfl (f9 (Et (Eq_ (Ew Z1 (Em rfl (Eu (n8 rfl (f9 (Et (Eq_ (Ew Z3 (Em rfl (Em rfl (Ey rfl ((Y.lss rfl rfl).yd) (n9 (fun q16 => ?_) (fun q16 => ?_))))))))))))))))))))))))))))))))))
 ·refine Eu (o0 rfl (Ew Z1 (Ei rfl ?_)))
  exact Eu (E.ret (s9 (Fg rfl rfl () (congrArg (Value.int .i64) (by grind [R6, d1, d2, t1, t2])) rfl)))
 ·refine Eu (n8 rfl (f9 (Et (Eq_ (Ew Z3 (Em rfl (Em rfl (Ey rfl ((Y.gtr rfl rfl).yd) (n9 (fun q19 => ?_) (fun q19 => ?_))))))))))
  ·refine Eu (o0 rfl (Ew Z1 (Ei rfl ?_)))
   exact Eu (E.ret (s9 (Fg rfl rfl () (congrArg (Value.int .i64) (by grind [R6, d1, d2, t1, t2])) rfl)))
  ·refine Eu (n8 rfl (f9 (Et (Ew Z1 (Ei rfl ?_)))))
   exact Eu (E.ret (Fg rfl rfl () (congrArg (Value.int .i64) (by grind [R6, d1, d2, t1, t2])) rfl))
theorem b2z {a_vals : Option Addr} {m_vals c_vals : Nat} {vals : List Int} : Tr Tryz.prog 180 [.slice a_vals m_vals c_vals] (fun w L => Ro w L eIs [.slice a_vals m_vals c_vals] vals) [] (κ := Unit) (fun k => True) (fun k => .int .i64 (orI vals)) (fun k => []) := by
 refine Tr.intro Tryz.func180 rfl (n := 18) rfl (by decide +kernel) bl (fr := [(0, .slice a_vals m_vals c_vals)]) rfl fun w L hR => ?_
 have hvals := hR
 obtain ⟨rfl, lvals⟩ := hvals.slen
 refine Ew Z1 (Ei rfl (Ev Z1 (Ei rfl (Eu (Eq_ (Ew Z3 (Em rfl (Ey rfl ((Y.len us_Is rfl).yd) (Em rfl (Eu (E.block (E.loop (κ := Nat) (fun g => g ≤ vals.length ∧ orI vals = orI (vals.drop g)) (fun g => [(3, .int .i64 0), (6, .slice a_vals vals.length c_vals), (7, .int .i64 (↑vals.length : Int)), (8, .int .i64 (g : Int))]) (fun g => []) (fun g => vals.length - g) 0 ⟨Nat.zero_le _, by simp⟩ ⟨rfl, rfl, rfl, rfl, trivial⟩ (.refl _) (fun g pg => ?_)))))))))))))
 obtain ⟨pk, pa⟩ := pg
 refine Ew Z1 (Ey rfl ((Y.lss rfl rfl).yd) (n9 (fun q9 => ?_) (fun q9 => ?_)))
 ·obtain ⟨eb10, eo10, ea10, ei10, eh10⟩ := hvals.elemI g om
  refine Eu (Eq_ (o0 rfl (f9 (Et (Eq_ (E.block (Ew Z3 (Ey rfl ((w3 us_Is f5 rfl ea10 rfl g rfl om).yd) (Ey rfl (g9 f5 rfl (eh10 _) rfl) (Ei rfl (Ev Z3 (Em rfl (Em rfl (Ey rfl ((Y.neq rfl rfl).yd) (n9 (fun q14 => ?_) (fun q14 => ?_))))))))))))))))
  ·refine Eu (o0 rfl (Ew Z2 (Em rfl (Ei rfl ?_))))
   exact Eu (E.ret (C9 (s9 (s9 (C9 (s9 (Fg rfl rfl () (congrArg (Value.int .i64) (by grind [orI, d1, d2, t1, t2])) rfl)))))))
  ·refine Eu (n8 rfl (f9 (s8 (Et (Ez Z2 (Ey rfl ((Y.add rfl rfl om om).yd) (Em rfl ?_)))))))
   exact Eu (B0 br (g + 1) rs (.refl _) ⟨by omega, by grind [orI, d1, d2, t1, t2]⟩ om)
 ·refine Eu (Eq_ (n8 rfl (E.exit (l3 (l3 (y4 (Et (Ew Z2 (Em rfl (Ei rfl ?_))))))))))
  exact Eu (E.ret (Fg rfl rfl () (congrArg (Value.int .i64) (by grind [orI, d1, d2, t1, t2])) rfl))
theorem a2e : Tr Tryz.prog 145 [.slice a_s1 m_s1 c_s1, .slice a_s2 m_s2 c_s2] (fun w L => Ro w L eIs [.slice a_s1 m_s1 c_s1] s1 ∧ Ro w L eIs [.slice a_s2 m_s2 c_s2] s2) [] (κ := Unit) (fun k => True) (fun k => .int .i64 (J7 s1 s2)) (fun k => []) := by
 refine Tr.intro Tryz.func145 rfl (n := 36) rfl (by decide +kernel) bl (fr := [(0, .slice a_s1 m_s1 c_s1), (1, .slice a_s2 m_s2 c_s2)]) rfl fun w L hR => ?_
 obtain ⟨hs1, hs2⟩ := hR
 obtain ⟨rfl, ls1⟩ := hs1.slen
 obtain ⟨rfl, ls2⟩ := hs2.slen
 refine Ew Z1 (Ei rfl (Eu (Eq_ (Ew Z3 (Em rfl (Ey rfl ((Y.len us_Is rfl).yd) (Em rfl (Eu (E.block (E.loop (κ := Nat) (fun g => g ≤ s1.length ∧ J7 s1 s2 = J7 (s1.drop g) (s2.drop g)) (fun g => [(0, .slice a_s1 s1.length c_s1), (1, .slice a_s2 s2.length c_s2), (9, .slice a_s1 s1.length c_s1), (10, .int .i64 (↑s1.length : Int)), (11, .int .i64 (g : Int))]) (fun g => []) (fun g => s1.length - g) 0 ⟨Nat.zero_le _, by simp⟩ ⟨rfl, rfl, rfl, rfl, rfl, trivial⟩ (.refl _) (fun g pg => ?_)))))))))))
 obtain ⟨pk, pa⟩ := pg
 refine Ew Z1 (Ey rfl ((Y.lss rfl rfl).yd) (n9 (fun q12 => ?_) (fun q12 => ?_)))
 ·refine Eu (Eq_ (o0 rfl (f9 (Et (Eq_ (E.block (Ew Z5 (Em rfl ?_))))))))
  obtain ⟨eb14, eo14, ea14, ei14, eh14⟩ := hs1.elemI g om
  refine Ey rfl ((w3 us_Is f5 rfl ea14 rfl g rfl om).yd) (Ey rfl (g9 f5 rfl (eh14 _) rfl) (Ei rfl (Ei rfl (Eu (Eq_ (Ew Z4 (Em rfl (Em rfl (Ey rfl ((Y.len us_Is rfl).yd) (Ey rfl ((Y.geq rfl rfl).yd) (n9 (fun q19 => ?_) (fun q19 => ?_))))))))))))
  ·refine Eu (o0 rfl (Ew Z1 (Ei rfl ?_)))
   exact Eu (E.ret (s9 (C9 (s9 (s9 (C9 (s9 (Fg rfl rfl () (congrArg (Value.int .i64) (by grind [J7, d1, d2, t1, t2])) rfl))))))))
  ·refine Eu (n8 rfl (f9 (Et (Ew Z5 (Em rfl (Em rfl ?_))))))
   obtain ⟨eb22, eo22, ea22, ei22, eh22⟩ := hs2.elemI g om
   refine Ey rfl ((w3 us_Is f5 rfl ea22 rfl g rfl om).yd) (Ey rfl (g9 f5 rfl (eh22 _) rfl) (Ei rfl (Ev Z4 (Em rfl (Em rfl (Est rfl (o4 a4k rfl rfl rfl dc tv) (fun _ _ => (Ei rfl (Ev Z2 (Em rfl (Ey rfl ((Y.neq rfl rfl).yd) (n9 (fun q28 => ?_) (fun q28 => ?_)))))))))))))
   ·refine Eu (o0 rfl (Ew Z2 (Em rfl (Ei rfl ?_))))
    exact Eu (E.ret (C9 (s9 (s9 (C9 (s9 (Fg rfl rfl () (congrArg (Value.int .i64) (by grind [J7, d1, d2, t1, t2])) rfl)))))))
   ·refine Eu (n8 rfl (f9 (s8 (Et (Ez Z2 (Ey rfl ((Y.add rfl rfl om om).yd) (Em rfl ?_)))))))
    exact Eu (B0 br (g + 1) rs (.refl _) ⟨by omega, by grind [J7, d1, d2, t1, t2]⟩ om)
 ·refine Eu (Eq_ (n8 rfl (E.exit (l3 (l3 (y4 (Et (Eq_ (Ew Z5 (Em rfl (Ey rfl ((Y.len us_Is rfl).yd) (Em rfl (Ey rfl ((Y.len us_Is rfl).yd) (Ey rfl ((Y.lss rfl rfl).yd) (n9 (fun q35 => ?_) (fun q35 => ?_))))))))))))))))
  ·refine Eu (o0 rfl (Ew Z1 (Ei rfl ?_)))
   exact Eu (E.ret (s9 (Fg rfl rfl () (congrArg (Value.int .i64) (by grind [J7, d1, d2, t1, t2])) rfl)))
  ·refine Eu (n8 rfl (f9 (Et (Ew Z1 (Ei rfl ?_)))))
   exact Eu (E.ret (Fg rfl rfl () (congrArg (Value.int .i64) (by grind [J7, d1, d2, t1, t2])) rfl))
theorem a1P : Tr Tryz.prog 118 [.agg #[.int .i64 o3, .slice E8 G2 E7], .agg #[.int .i64 a3z, .slice y8 B8 y7]] (fun w L => I64 o3 ∧ Ro w L eIs [.slice E8 G2 E7] E5 ∧ I64 a3z ∧ Ro w L eIs [.slice y8 B8 y7] f8) [] (κ := Unit) (fun k => True) (fun k => .int .i64 (Q0 (o3, E5) (a3z, f8))) (fun k => []) := by
 refine Tr.intro Tryz.func118 rfl (n := 17) rfl (by decide +kernel) bl (fr := [(0, .agg #[.int .i64 o3, .slice E8 G2 E7]), (1, .agg #[.int .i64 a3z, .slice y8 B8 y7])]) rfl fun w L hR => ?_
 obtain ⟨a0y, I6, b9D, C6⟩ := hR
 obtain ⟨rfl, a0U⟩ := I6.slen
 obtain ⟨rfl, S9⟩ := C6.slen
 refine Ew Z3 (Est rfl (N.box (cs := [_, _]) rfl dc rfl) (fun b2 _ => (Est rfl (N.box (cs := [_, _]) rfl dc rfl) (fun b3 _ => (Ei rfl (Eu (Eq_ (D.region (fun j => true) mixed (Dyp 0 rfl (i8 fo_Fact_0 f5 dc rfl) (Dy 1 rfl (g9 f5 rfl (Hz (mS m0) 0 rfl) rfl) (Dyp 2 rfl (i8 fo_Fact_0 f5 dc rfl) (Dy 3 rfl (g9 f5 rfl (Hz m0 0 rfl) rfl) (Dyp 5 rfl (i8 fo_Fact_1 ty_Is dc rfl) (Dy 6 rfl (g9 ty_Is rfl (Hz (mS m0) 1 rfl) rfl) (Dyp 7 rfl (i8 fo_Fact_1 ty_Is dc rfl) (Dy 8 rfl (g9 ty_Is rfl (Hz m0 1 rfl) rfl) ?_))))))))))))))))
 have j1 := @b3F o3 a3z
 refine u7 4 rfl rfl kr (fun _ => rfl) (o4 a4k rfl rfl rfl dc tv) (fun _ _ => ?_)
 have j2 := @b2C E5 f8
 refine u7 9 rfl rfl kr (fun _ => rfl) (o4 a2e rfl rfl rfl dc (fun w Lp hA => ⟨hA.ro I6, hA.ro C6⟩)) (fun _ _ => (u7 10 rfl rfl kr (fun _ => rfl) (Nb [_, _] [_, _] us_Is f5 rfl rfl) (fun b15 _ => (s7 (A := [_]) (Own.ints (e := tI) (xs := [R6 o3 a3z, J7 E5 f8]) rfl (by simp [maxLen]) (by simp only [List.forall_mem_cons]; exact ⟨i6, i6, List.forall_mem_nil _⟩)) rfl (u7 11 rfl rfl kr (fun _ => rfl) (o4 b2z rfl rfl rfl dc (fun w Lp hA => hA.ow m0)) (fun _ _ => (Dyp 12 rfl (F1 rfl) ?_)))))))
 exact t6 kr (Et (E.ret (Fg rfl rfl () (congrArg (Value.int .i64) (by grind [Q0, orI, d1, d2, t1, t2])) rfl)))
theorem a0H : Tr Tryz.prog 58 [.agg #[.int .i64 o3, .slice E8 G2 E7], .agg #[.int .i64 a3z, .slice y8 B8 y7]] (fun w L => I64 o3 ∧ Ro w L eIs [.slice E8 G2 E7] E5 ∧ I64 a3z ∧ Ro w L eIs [.slice y8 B8 y7] f8) [] (κ := Unit) (fun k => True) (fun k => .int .i64 (Q0 (o3, E5) (a3z, f8))) (fun k => []) := by
 refine Tr.intro Tryz.func58 rfl (n := 66) rfl (by decide +kernel) bl (fr := [(0, .agg #[.int .i64 o3, .slice E8 G2 E7]), (1, .agg #[.int .i64 a3z, .slice y8 B8 y7])]) rfl fun w L hR => ?_
 obtain ⟨a0y, I6, b9D, C6⟩ := hR
 obtain ⟨rfl, a0U⟩ := I6.slen
 obtain ⟨rfl, S9⟩ := C6.slen
 refine Ew Z3 (Est rfl (N.box (cs := [_, _]) rfl dc rfl) (fun b2 _ => (Est rfl (N.box (cs := [_, _]) rfl dc rfl) (fun b3 _ => (Ei rfl (Eu (Eq_ (Ew Z5 (Ey rfl ((i8 fo_Fact_0 f5 dc rfl).yd) (Ey rfl (g9 f5 rfl (Hz (mS m0) 0 rfl) rfl) (Ey rfl ((i8 fo_Fact_0 f5 dc rfl).yd) (Ey rfl (g9 f5 rfl (Hz m0 0 rfl) rfl) (Ey rfl ((Y.neq rfl rfl).yd) (n9 (fun q10 => ?_) (fun q10 => ?_)))))))))))))))
 ·refine Eu (o0 rfl (Eq_ (Ew Z5 (Ey rfl ((i8 fo_Fact_0 f5 dc rfl).yd) (Ey rfl (g9 f5 rfl (Hz (mS m0) 0 rfl) rfl) (Ey rfl ((i8 fo_Fact_0 f5 dc rfl).yd) (Ey rfl (g9 f5 rfl (Hz m0 0 rfl) rfl) (Ey rfl ((Y.lss rfl rfl).yd) (n9 (fun q15 => ?_) (fun q15 => ?_))))))))))
  ·refine Eu (o0 rfl (Ew Z1 (Ei rfl ?_)))
   exact Eu (E.ret (s9 (s9 (Fg rfl rfl () (congrArg (Value.int .i64) (by grind [Q0, R6, J7, d1, d2, t1, t2])) rfl))))
  ·refine Eu (n8 rfl (f9 (Et (Ew Z1 (Ei rfl ?_)))))
   exact Eu (E.ret (s9 (Fg rfl rfl () (congrArg (Value.int .i64) (by grind [Q0, R6, J7, d1, d2, t1, t2])) rfl)))
 ·refine Eu (n8 rfl (f9 (Et (Eq_ (Ew Z1 (Ei rfl (Eu (E.block (E.loop (κ := Nat) (fun g => g ≤ E5.length ∧ g ≤ f8.length ∧ J7 E5 f8 = J7 (E5.drop g) (f8.drop g)) (fun g => [(2, .pointer (some ⟨b2, 0, none⟩)), (3, .pointer (some ⟨b3, 0, none⟩)), (5, .int .i64 (g : Int))]) (fun g => [pt b3 91 [.int .i64 a3z, .slice y8 f8.length y7], pt b2 91 [.int .i64 o3, .slice E8 E5.length E7]]) (fun g => E5.length - g) 0 ⟨Nat.zero_le _, by simp⟩ ⟨rfl, rfl, rfl, trivial⟩ (.refl _) (fun g pg => ?_))))))))))
  obtain ⟨pk, pa⟩ := pg
  refine Eq_ (Ew Z12 (Em rfl (Ey rfl ((i8 fo_Fact_1 ty_Is dc rfl).yd) (Ey rfl (g9 ty_Is rfl (Hz (mS m0) 1 rfl) rfl) (Ey rfl ((Y.len us_Is rfl).yd) (Ey rfl ((Y.lss rfl rfl).yd) (n9 (fun q20 => ?_) (fun q20 => ?_))))))))
  ·refine Em rfl (Em rfl (Ey rfl ((i8 fo_Fact_1 ty_Is dc rfl).yd) (Ey rfl (g9 ty_Is rfl (Hz m0 1 rfl) rfl) (Ey rfl ((Y.len us_Is rfl).yd) (Ey rfl ((Y.lss rfl rfl).yd) (n9 (fun q26 => ?_) (fun q26 => ?_)))))))
   ·refine Ey rfl ((x6 rfl rfl).yd) (Eu (o0 rfl (f9 (Et (Eq_ (E.block (Eq_ (Eq_ (D.region (fun j => true) mixed (Dyp 0 rfl (i8 fo_Fact_1 ty_Is dc rfl) (Dy 1 rfl (g9 ty_Is rfl (Hz (mS m0) 1 rfl) rfl) (Dyp 2 rfl (k6 rfl) ?_))))))))))))
    obtain ⟨eb33, eo33, ea33, ei33, eh33⟩ := I6.elemI g om
    refine Dyp 3 rfl (w3 us_Is f5 rfl ea33 rfl g rfl om) (Dy 4 rfl (g9 f5 rfl (eh33 _) rfl) (Dyp 5 rfl (i8 fo_Fact_1 ty_Is dc rfl) (Dy 6 rfl (g9 ty_Is rfl (Hz m0 1 rfl) rfl) (Dyp 7 rfl (k6 rfl) ?_))))
    obtain ⟨eb38, eo38, ea38, ei38, eh38⟩ := C6.elemI g om
    refine Dyp 8 rfl (w3 us_Is f5 rfl ea38 rfl g rfl om) (Dy 9 rfl (g9 f5 rfl (eh38 _) rfl) (Dyp 10 rfl (Y.lss rfl rfl) (n9 (fun q40 => ?_) (fun q40 => ?_))))
    ·refine t6 kr (Et (o0 rfl (Ew Z1 (Ei rfl ?_))))
     exact Eu (E.ret (s9 (C9 (s9 (s9 (C9 (s9 (Fg rfl rfl () (congrArg (Value.int .i64) (by grind [Q0, R6, J7, d1, d2, t1, t2])) rfl))))))))
    ·refine t6 kr (Et (n8 rfl (f9 (Et (Eq_ (D.region (fun j => true) mixed (Dyp 0 rfl (i8 fo_Fact_1 ty_Is dc rfl) (Dy 1 rfl (g9 ty_Is rfl (Hz (mS m0) 1 rfl) rfl) (Dyp 2 rfl (k6 rfl) (Dyp 3 rfl (w3 us_Is f5 rfl ea33 rfl g rfl om) (Dy 4 rfl (g9 f5 rfl (eh33 _) rfl) (Dyp 5 rfl (i8 fo_Fact_1 ty_Is dc rfl) (Dy 6 rfl (g9 ty_Is rfl (Hz m0 1 rfl) rfl) (Dyp 7 rfl (k6 rfl) (Dyp 8 rfl (w3 us_Is f5 rfl ea38 rfl g rfl om) (Dy 9 rfl (g9 f5 rfl (eh38 _) rfl) (Dyp 10 rfl (Y.gtr rfl rfl) (n9 (fun q51 => ?_) (fun q51 => ?_)))))))))))))))))))
     ·refine t6 kr (Et (o0 rfl (Ew Z1 (Ei rfl ?_))))
      exact Eu (E.ret (C9 (s9 (s9 (C9 (s9 (Fg rfl rfl () (congrArg (Value.int .i64) (by grind [Q0, R6, J7, d1, d2, t1, t2])) rfl)))))))
     ·refine t6 kr (Et (n8 rfl (f9 (s8 (Et (Ez Z3 (Em rfl (Ey rfl ((Y.add rfl rfl om om).yd) (Ei rfl (Eu (d8 (d8 ?_))))))))))))
      exact B0 br (g + 1) rs (.refl _) ⟨by omega, by grind [J7, R6, d1, d2, t1, t2]⟩ om
   ·refine Ey rfl ((x6 rfl rfl).yd) (Eu (n8 rfl (E.exit (l3 (l3 (y4 (Et (Eq_ (Ew Z7 (Ey rfl ((i8 fo_Fact_1 ty_Is dc rfl).yd) (Ey rfl (g9 ty_Is rfl (Hz (mS m0) 1 rfl) rfl) (Ey rfl ((Y.len us_Is rfl).yd) (Ey rfl ((i8 fo_Fact_1 ty_Is dc rfl).yd) (Ey rfl (g9 ty_Is rfl (Hz m0 1 rfl) rfl) (Ey rfl ((Y.len us_Is rfl).yd) (Ey rfl ((Y.lss rfl rfl).yd) (n9 (fun q58 => ?_) (fun q58 => ?_))))))))))))))))))
    ·refine Eu (o0 rfl (Ew Z1 (Ei rfl ?_)))
     exact Eu (E.ret (s9 (Fg rfl rfl () (congrArg (Value.int .i64) (by grind [Q0, R6, J7, d1, d2, t1, t2])) rfl)))
    ·refine Eu (n8 rfl (f9 (Et (Eq_ (Ew Z7 (Ey rfl ((i8 fo_Fact_1 ty_Is dc rfl).yd) (Ey rfl (g9 ty_Is rfl (Hz (mS m0) 1 rfl) rfl) (Ey rfl ((Y.len us_Is rfl).yd) (Ey rfl ((i8 fo_Fact_1 ty_Is dc rfl).yd) (Ey rfl (g9 ty_Is rfl (Hz m0 1 rfl) rfl) (Ey rfl ((Y.len us_Is rfl).yd) (Ey rfl ((Y.gtr rfl rfl).yd) (n9 (fun q65 => ?_) (fun q65 => ?_))))))))))))))
     ·refine Eu (o0 rfl (Ew Z1 (Ei rfl ?_)))
      exact Eu (E.ret (s9 (Fg rfl rfl () (congrArg (Value.int .i64) (by grind [Q0, R6, J7, d1, d2, t1, t2])) rfl)))
     ·refine Eu (n8 rfl (f9 (Et (Ew Z1 (Ei rfl ?_)))))
      exact Eu (E.ret (Fg rfl rfl () (congrArg (Value.int .i64) (by grind [Q0, R6, J7, d1, d2, t1, t2])) rfl))
  ·refine Em rfl (Es rfl (Es rfl (Es rfl (Es rfl (Es rfl (Ey rfl ((z7 rfl rfl).yd) (Eu (n8 rfl (E.exit (l3 (l3 (y4 (Et (Eq_ (Ew Z7 (Ey rfl ((i8 fo_Fact_1 ty_Is dc rfl).yd) (Ey rfl (g9 ty_Is rfl (Hz (mS m0) 1 rfl) rfl) (Ey rfl ((Y.len us_Is rfl).yd) (Ey rfl ((i8 fo_Fact_1 ty_Is dc rfl).yd) (Ey rfl (g9 ty_Is rfl (Hz m0 1 rfl) rfl) (Ey rfl ((Y.len us_Is rfl).yd) (Ey rfl ((Y.lss rfl rfl).yd) (n9 (fun q58 => ?_) (fun q58 => ?_))))))))))))))))))))))))
   ·refine Eu (o0 rfl (Ew Z1 (Ei rfl ?_)))
    exact Eu (E.ret (s9 (Fg rfl rfl () (congrArg (Value.int .i64) (by grind [Q0, R6, J7, d1, d2, t1, t2])) rfl)))
   ·refine Eu (n8 rfl (f9 (Et (Eq_ (Ew Z7 (Ey rfl ((i8 fo_Fact_1 ty_Is dc rfl).yd) (Ey rfl (g9 ty_Is rfl (Hz (mS m0) 1 rfl) rfl) (Ey rfl ((Y.len us_Is rfl).yd) (Ey rfl ((i8 fo_Fact_1 ty_Is dc rfl).yd) (Ey rfl (g9 ty_Is rfl (Hz m0 1 rfl) rfl) (Ey rfl ((Y.len us_Is rfl).yd) (Ey rfl ((Y.gtr rfl rfl).yd) (n9 (fun q65 => ?_) (fun q65 => ?_))))))))))))))
    ·refine Eu (o0 rfl (Ew Z1 (Ei rfl ?_)))
     exact Eu (E.ret (s9 (Fg rfl rfl () (congrArg (Value.int .i64) (by grind [Q0, R6, J7, d1, d2, t1, t2])) rfl)))
    ·refine Eu (n8 rfl (f9 (Et (Ew Z1 (Ei rfl ?_)))))
     exact Eu (E.ret (Fg rfl rfl () (congrArg (Value.int .i64) (by grind [Q0, R6, J7, d1, d2, t1, t2])) rfl))
theorem a2E : Tr Tryz.prog 153 [.slice a_s1 m_s1 c_s1, .slice a_s2 m_s2 c_s2] (fun w L => Ro w L eIs [.slice a_s1 m_s1 c_s1] s1 ∧ Ro w L eIs [.slice a_s2 m_s2 c_s2] s2) [] (κ := Unit) (fun k => True) (fun k => .bool (decide (s1 = s2))) (fun k => []) := by
 refine Tr.intro Tryz.func153 rfl (n := 26) rfl (by decide +kernel) bl (fr := [(0, .slice a_s1 m_s1 c_s1), (1, .slice a_s2 m_s2 c_s2)]) rfl fun w L hR => ?_
 obtain ⟨hs1, hs2⟩ := hR
 obtain ⟨rfl, ls1⟩ := hs1.slen
 obtain ⟨rfl, ls2⟩ := hs2.slen
 refine Ew Z1 (Ei rfl (Eu (Eq_ (Ew Z5 (Em rfl (Ey rfl ((Y.len us_Is rfl).yd) (Em rfl (Ey rfl ((Y.len us_Is rfl).yd) (Ey rfl ((Y.neq rfl rfl).yd) (n9 (fun q10 => ?_) (fun q10 => ?_)))))))))))
 ·refine Eu (o0 rfl (Ew Z1 (Ei rfl ?_)))
  exact Eu (E.ret (s9 (Fb rfl rfl (by grind [d1, d2, t1, t2]))))
 ·refine Eu (n8 rfl (f9 (Et (Eq_ (Ew Z3 (Em rfl (Ey rfl ((Y.len us_Is rfl).yd) (Em rfl (Eu (E.block (E.loop (κ := Nat) (fun g => g ≤ s1.length ∧ s1.length = s2.length ∧ (s1 = s2 ↔ s1.drop g = s2.drop g)) (fun g => [(0, .slice a_s1 s1.length c_s1), (1, .slice a_s2 s2.length c_s2), (12, .int .i64 (↑s1.length : Int)), (13, .int .i64 (g : Int))]) (fun g => []) (fun g => s1.length - g) 0 ⟨Nat.zero_le _, by exact ⟨by omega, by simp⟩⟩ ⟨rfl, rfl, rfl, rfl, trivial⟩ (.refl _) (fun g pg => ?_))))))))))))
  obtain ⟨pk, pa⟩ := pg
  refine Ew Z1 (Ey rfl ((Y.lss rfl rfl).yd) (n9 (fun q14 => ?_) (fun q14 => ?_)))
  ·refine Eu (Eq_ (o0 rfl (f9 (Et (Eq_ (E.block (Ew Z2 (Em rfl (Ei rfl (Eu (Eq_ (D.region (fun j => true) mixed (Dyp 0 rfl (k6 rfl) (Dyp 1 rfl (k6 rfl) ?_))))))))))))))
   obtain ⟨eb18, eo18, ea18, ei18, eh18⟩ := hs1.elemI g om
   refine Dyp 2 rfl (w3 us_Is f5 rfl ea18 rfl g rfl om) (Dy 3 rfl (g9 f5 rfl (eh18 _) rfl) (Dyp 4 rfl (k6 rfl) (Dyp 5 rfl (k6 rfl) ?_)))
   obtain ⟨eb22, eo22, ea22, ei22, eh22⟩ := hs2.elemI g om
   refine Dyp 6 rfl (w3 us_Is f5 rfl ea22 rfl g rfl om) (Dy 7 rfl (g9 f5 rfl (eh22 _) rfl) (Dyp 8 rfl (Y.neq rfl rfl) (n9 (fun q24 => ?_) (fun q24 => ?_))))
   ·refine t6 kr (Et (o0 rfl (Ew Z1 (Ei rfl ?_))))
    exact Eu (E.ret (C9 (s9 (s9 (C9 (s9 (Fb rfl rfl (by grind [d1, d2, t1, t2]))))))))
   ·refine t6 kr (Et (n8 rfl (f9 (s8 (Et (Ez Z2 (Ey rfl ((Y.add rfl rfl om om).yd) (Em rfl ?_))))))))
    exact Eu (B0 br (g + 1) rs (.refl _) ⟨by omega, by grind [d1, d2, t1, t2]⟩ om)
  ·refine Eu (Eq_ (n8 rfl (E.exit (l3 (l3 (y4 (Et (Ew Z1 (Ei rfl ?_)))))))))
   exact Eu (E.ret (Fb rfl rfl (by grind [d1, d2, t1, t2])))
theorem a6X {a_a : Option Addr} {m_a c_a : Nat} {a : List Int} {a_b : Option Addr} {m_b c_b : Nat} {b : List Int} : Tr Tryz.prog 56 [.slice a_a m_a c_a, .slice a_b m_b c_b] (fun w L => Ro w L eIs [.slice a_a m_a c_a] a ∧ Ro w L eIs [.slice a_b m_b c_b] b) [] (κ := Unit) (fun k => True) (fun k => .bool (decide (a = b))) (fun k => []) := by
 refine Tr.intro Tryz.func56 rfl (n := 26) rfl (by decide +kernel) bl (fr := [(0, .slice a_a m_a c_a), (1, .slice a_b m_b c_b)]) rfl fun w L hR => ?_
 obtain ⟨ha, hb⟩ := hR
 obtain ⟨rfl, la⟩ := ha.slen
 obtain ⟨rfl, lb⟩ := hb.slen
 refine Ew Z1 (Ei rfl (Eu (Eq_ (Ew Z5 (Em rfl (Ey rfl ((Y.len us_Is rfl).yd) (Em rfl (Ey rfl ((Y.len us_Is rfl).yd) (Ey rfl ((Y.neq rfl rfl).yd) (n9 (fun q10 => ?_) (fun q10 => ?_)))))))))))
 ·refine Eu (o0 rfl (Ew Z1 (Ei rfl ?_)))
  exact Eu (E.ret (s9 (Fb rfl rfl (by grind [d1, d2, t1, t2]))))
 ·refine Eu (n8 rfl (f9 (Et (Eq_ (Ew Z1 (Ei rfl (Eu (E.block (E.loop (κ := Nat) (fun g => g ≤ a.length ∧ a.length = b.length ∧ (a = b ↔ a.drop g = b.drop g)) (fun g => [(0, .slice a_a a.length c_a), (1, .slice a_b b.length c_b), (5, .int .i64 (g : Int))]) (fun g => []) (fun g => a.length - g) 0 ⟨Nat.zero_le _, by exact ⟨by omega, by simp⟩⟩ ⟨rfl, rfl, rfl, trivial⟩ (.refl _) (fun g pg => ?_))))))))))
  obtain ⟨pk, pa⟩ := pg
  refine Eq_ (Ew Z4 (Em rfl (Em rfl (Ey rfl ((Y.len us_Is rfl).yd) (Ey rfl ((Y.lss rfl rfl).yd) (n9 (fun q14 => ?_) (fun q14 => ?_)))))))
  ·refine Eu (o0 rfl (f9 (Et (Eq_ (E.block (Eq_ (D.region (fun j => true) mixed (Dyp 0 rfl (k6 rfl) (Dyp 1 rfl (k6 rfl) ?_)))))))))
   obtain ⟨eb19, eo19, ea19, ei19, eh19⟩ := ha.elemI g om
   refine Dyp 2 rfl (w3 us_Is f5 rfl ea19 rfl g rfl om) (Dy 3 rfl (g9 f5 rfl (eh19 _) rfl) (Dyp 4 rfl (k6 rfl) (Dyp 5 rfl (k6 rfl) ?_)))
   obtain ⟨eb23, eo23, ea23, ei23, eh23⟩ := hb.elemI g om
   refine Dyp 6 rfl (w3 us_Is f5 rfl ea23 rfl g rfl om) (Dy 7 rfl (g9 f5 rfl (eh23 _) rfl) (Dyp 8 rfl (Y.neq rfl rfl) (n9 (fun q25 => ?_) (fun q25 => ?_))))
   ·refine t6 kr (Et (o0 rfl (Ew Z1 (Ei rfl ?_))))
    exact Eu (E.ret (C9 (s9 (s9 (C9 (s9 (Fb rfl rfl (by grind [d1, d2, t1, t2]))))))))
   ·refine t6 kr (Et (n8 rfl (f9 (s8 (Et (Ez Z3 (Em rfl (Ey rfl ((Y.add rfl rfl om om).yd) (Ei rfl ?_)))))))))
    exact Eu (B0 br (g + 1) rs (.refl _) ⟨by omega, by grind [d1, d2, t1, t2]⟩ om)
  ·refine Eu (n8 rfl (E.exit (l3 (l3 (y4 (Et (Ew Z1 (Ei rfl ?_))))))))
   exact Eu (E.ret (Fb rfl rfl (by grind [d1, d2, t1, t2])))
theorem a8j : Tr Tryz.prog 184 [.agg #[.int .i64 B9, .slice E8 G2 E7], .agg #[.int .i64 a2j, .slice y8 B8 y7]] (fun w L => (I64 B9 ∧ Ro w L eIs [.slice E8 G2 E7] E5 ∧ I64 a2j ∧ Ro w L eIs [.slice y8 B8 y7] f8) ∧ True) [] (κ := Unit) (fun k => True) (fun k => .bool (decide ((B9, E5) = (a2j, f8)))) (fun k => []) := by
 refine Tr.intro Tryz.func184 rfl (n := 17) rfl (by decide +kernel) bl (fr := [(0, .agg #[.int .i64 B9, .slice E8 G2 E7]), (1, .agg #[.int .i64 a2j, .slice y8 B8 y7])]) rfl fun w L hR => ?_
 obtain ⟨⟨W9, I6, b5I, C6⟩, _⟩ := hR
 obtain ⟨rfl, a0U⟩ := I6.slen
 obtain ⟨rfl, S9⟩ := C6.slen
 refine Ew Z3 (Est rfl (N.box (cs := [_, _]) rfl dc rfl) (fun b2 _ => (Est rfl (N.box (cs := [_, _]) rfl dc rfl) (fun b3 _ => (Ei rfl (Ev Z13 (Ey rfl ((i8 fo_Access_0 f5 dc rfl).yd) (Ey rfl (g9 f5 rfl (Hz (mS m0) 0 rfl) rfl) (Ey rfl ((i8 fo_Access_0 f5 dc rfl).yd) (Ey rfl (g9 f5 rfl (Hz m0 0 rfl) rfl) (Ey rfl ((Y.eql rfl rfl).yd) (n9 (fun q9 => ?_) (fun q9 => ?_)))))))))))))
 ·refine Em rfl (Ey rfl ((i8 fo_Access_1 ty_Is dc rfl).yd) (Ey rfl (g9 ty_Is rfl (Hz (mS m0) 1 rfl) rfl) (Ey rfl ((i8 fo_Access_1 ty_Is dc rfl).yd) (Ey rfl (g9 ty_Is rfl (Hz m0 1 rfl) rfl) (Est rfl (o4 a2E rfl rfl rfl dc (fun w Lp hA => ⟨hA.ro I6, hA.ro C6⟩)) (fun _ _ => (Ey rfl ((x6 rfl rfl).yd) (Ei rfl ?_))))))))
  exact Eu (E.ret (Fb rfl rfl (by grind [d1, d2, t1, t2])))
 ·refine Em rfl (Es rfl (Es rfl (Es rfl (Es rfl (Es rfl (Ey rfl ((z7 rfl rfl).yd) (Ei rfl ?_)))))))
  exact Eu (E.ret (Fb rfl rfl (by grind [d1, d2, t1, t2])))
theorem b1Z : Tr Tryz.prog 57 [.agg #[.int .i64 B9, .slice E8 G2 E7], .agg #[.int .i64 a2j, .slice y8 B8 y7]] (fun w L => I64 B9 ∧ Ro w L eIs [.slice E8 G2 E7] E5 ∧ I64 a2j ∧ Ro w L eIs [.slice y8 B8 y7] f8) [] (κ := Unit) (fun k => True) (fun k => .bool (decide ((B9, E5) = (a2j, f8)))) (fun k => []) := by
 refine Tr.intro Tryz.func57 rfl (n := 17) rfl (by decide +kernel) bl (fr := [(0, .agg #[.int .i64 B9, .slice E8 G2 E7]), (1, .agg #[.int .i64 a2j, .slice y8 B8 y7])]) rfl fun w L hR => ?_
 obtain ⟨W9, I6, b5I, C6⟩ := hR
 obtain ⟨rfl, a0U⟩ := I6.slen
 obtain ⟨rfl, S9⟩ := C6.slen
 refine Ew Z3 (Est rfl (N.box (cs := [_, _]) rfl dc rfl) (fun b2 _ => (Est rfl (N.box (cs := [_, _]) rfl dc rfl) (fun b3 _ => (Ei rfl (Ev Z13 (Ey rfl ((i8 fo_Access_0 f5 dc rfl).yd) (Ey rfl (g9 f5 rfl (Hz (mS m0) 0 rfl) rfl) (Ey rfl ((i8 fo_Access_0 f5 dc rfl).yd) (Ey rfl (g9 f5 rfl (Hz m0 0 rfl) rfl) (Ey rfl ((Y.eql rfl rfl).yd) (n9 (fun q9 => ?_) (fun q9 => ?_)))))))))))))
 ·refine Em rfl (Ey rfl ((i8 fo_Access_1 ty_Is dc rfl).yd) (Ey rfl (g9 ty_Is rfl (Hz (mS m0) 1 rfl) rfl) (Ey rfl ((i8 fo_Access_1 ty_Is dc rfl).yd) (Ey rfl (g9 ty_Is rfl (Hz m0 1 rfl) rfl) (Est rfl (o4 a6X rfl rfl rfl dc (fun w Lp hA => ⟨hA.ro I6, hA.ro C6⟩)) (fun _ _ => (Ey rfl ((x6 rfl rfl).yd) (Ei rfl ?_))))))))
  exact Eu (E.ret (Fb rfl rfl (by grind [d1, d2, t1, t2])))
 ·refine Em rfl (Es rfl (Es rfl (Es rfl (Es rfl (Es rfl (Ey rfl ((z7 rfl rfl).yd) (Ei rfl ?_)))))))
  exact Eu (E.ret (Fb rfl rfl (by grind [d1, d2, t1, t2])))
end Go.Proofs.YtlfhopooaejpfaaGreat
