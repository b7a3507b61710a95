import Derived.Test.YtlfhopooaejpfaaGreatT3
import Derived.Test.YtlfhopooaejpfaaGreatT5
namespace Go.Proofs.YtlfhopooaejpfaaGreat
open Go.RowKit
set_option linter.all false
set_option maxHeartbeats 2000000
attribute [local irreducible] Nop Yd Yp Ent Has Tr FnP FnP2 Src
variable {x l2 a1B j3 a0M : Int} {a b : List (Int × List Int)} {s1 s2 j9 g9 : List Int} {m_s1 c_s1 m_s2 c_s2 y5 w3 w8 t8 m_a c_a m_b c_b : Nat} {a_s1 a_s2 w4 u6 a_a a_b : Option Addr}
theorem a2R : Tr Tryz.prog 225 [.int .i64 x] (fun w L => True) [] (κ := Unit) (fun k => True) (fun k => .bool (false)) (fun k => []) := by
 refine Tr.intro Tryz.func225 rfl (n := 6) rfl (by decide +kernel) bl (fr := [(0, .int .i64 x)]) rfl fun w L hR => (Ew Z1 (Ei rfl (Ev Z4 (Em rfl (Em rfl (Ey rfl ((Y.neq rfl rfl).yd) (Ei rfl ?_)))))))
 exact Eu (E.ret (Fb rfl rfl (by simp)))
theorem a2g {y : Int} : Tr Tryz.prog 181 [.int .i64 x, .int .i64 y] (fun w L => True) [] (κ := Unit) (fun k => True) (fun k => .int .i64 (M5 x y)) (fun k => []) := by
 refine Tr.intro Tryz.func181 rfl (n := 20) rfl (by decide +kernel) bl (fr := [(0, .int .i64 x), (1, .int .i64 y)]) rfl fun w L hR => (Ew Z1 (Ei rfl (Ev Z3 (Em rfl (Est rfl (k6 a2R rfl rfl rfl dc tv) (fun _ _ => (Ei rfl (Ev Z3 (Em rfl (Est rfl (k6 a2R rfl rfl rfl dc tv) (fun _ _ => (Ei rfl (Eu (Eq_ (Ew Z1 (Em rfl (Eu (l6 rfl (i8 (Et (Eq_ (Ew Z1 (Em rfl (Eu (l6 rfl (i8 (Et (Eq_ (Ew Z3 (Em rfl (Em rfl (Ey rfl ((Y.lss rfl rfl).yd) (n0 (fun q16 => ?_) (fun q16 => ?_))))))))))))))))))))))))))))))))))
 ·refine Eu (l4 rfl (Ew Z1 (Ei rfl ?_)))
  exact Eu (E.ret (l0 (Fg rfl rfl () (congrArg (Value.int .i64) (by grind [M5, d1, d2, t1, t2])) rfl)))
 ·refine Eu (l6 rfl (i8 (Et (Eq_ (Ew Z3 (Em rfl (Em rfl (Ey rfl ((Y.gtr rfl rfl).yd) (n0 (fun q19 => ?_) (fun q19 => ?_))))))))))
  ·refine Eu (l4 rfl (Ew Z1 (Ei rfl ?_)))
   exact Eu (E.ret (l0 (Fg rfl rfl () (congrArg (Value.int .i64) (by grind [M5, d1, d2, t1, t2])) rfl)))
  ·refine Eu (l6 rfl (i8 (Et (Ew Z1 (Ei rfl ?_)))))
   exact Eu (E.ret (Fg rfl rfl () (congrArg (Value.int .i64) (by grind [M5, d1, d2, t1, t2])) rfl))
theorem a9M {a_vals : Option Addr} {m_vals c_vals : Nat} {a1b : List Int} : Tr Tryz.prog 180 [.slice a_vals m_vals c_vals] (fun w L => Ro w L eIs [.slice a_vals m_vals c_vals] a1b) [] (κ := Unit) (fun k => True) (fun k => .int .i64 (orI a1b)) (fun k => []) := by
 refine Tr.intro Tryz.func180 rfl (n := 18) rfl (by decide +kernel) bl (fr := [(0, .slice a_vals m_vals c_vals)]) rfl fun w L hR => ?_
 have hvals := hR
 obtain ⟨rfl, lvals⟩ := hvals.slen
 refine Ew Z1 (Ei rfl (Ev Z1 (Ei rfl (Eu (Eq_ (Ew Z3 (Em rfl (Ey rfl ((Y.len us_Is rfl).yd) (Em rfl (Eu (E.block (E.loop (κ := Nat) (fun g => g ≤ a1b.length ∧ orI a1b = orI (a1b.drop g)) (fun g => [(3, .int .i64 0), (6, .slice a_vals a1b.length c_vals), (7, .int .i64 (↑a1b.length : Int)), (8, .int .i64 (g : Int))]) (fun g => []) (fun g => a1b.length - g) 0 ⟨Nat.zero_le _, by simp⟩ ⟨rfl, rfl, rfl, rfl, trivial⟩ (.refl _) (fun g pg => ?_)))))))))))))
 obtain ⟨pk, pa⟩ := pg
 refine Ew Z1 (Ey rfl ((Y.lss rfl rfl).yd) (n0 (fun q9 => ?_) (fun q9 => ?_)))
 ·obtain ⟨eb10, eo10, ea10, ei10, eh10⟩ := hvals.elemI g om
  refine Eu (Eq_ (l4 rfl (i8 (Et (Eq_ (E.block (Ew Z3 (Ey rfl ((o6 us_Is f0 rfl ea10 rfl g rfl om).yd) (Ey rfl (f8 f0 rfl (eh10 _) rfl) (Ei rfl (Ev Z3 (Em rfl (Em rfl (Ey rfl ((Y.neq rfl rfl).yd) (n0 (fun q14 => ?_) (fun q14 => ?_))))))))))))))))
  ·refine Eu (l4 rfl (Ew Z2 (Em rfl (Ei rfl ?_))))
   exact Eu (E.ret (t7 (l0 (l0 (t7 (l0 (Fg rfl rfl () (congrArg (Value.int .i64) (by grind [orI, d1, d2, t1, t2])) rfl)))))))
  ·refine Eu (l6 rfl (i8 (o4 (Et (Ez Z2 (Ey rfl ((Y.add rfl rfl om om).yd) (Em rfl ?_)))))))
   exact Eu (u9 br (g + 1) rs (.refl _) ⟨by omega, by grind [orI, d1, d2, t1, t2]⟩ om)
 ·refine Eu (Eq_ (l6 rfl (E.exit (n8 (n8 (w5 (Et (Ew Z2 (Em rfl (Ei rfl ?_))))))))))
  exact Eu (E.ret (Fg rfl rfl () (congrArg (Value.int .i64) (by grind [orI, d1, d2, t1, t2])) rfl))
theorem a0D : Tr Tryz.prog 145 [.slice a_s1 m_s1 c_s1, .slice a_s2 m_s2 c_s2] (fun w L => Ro w L eIs [.slice a_s1 m_s1 c_s1] s1 ∧ Ro w L eIs [.slice a_s2 m_s2 c_s2] s2) [] (κ := Unit) (fun k => True) (fun k => .int .i64 (G6 s1 s2)) (fun k => []) := by
 refine Tr.intro Tryz.func145 rfl (n := 36) rfl (by decide +kernel) bl (fr := [(0, .slice a_s1 m_s1 c_s1), (1, .slice a_s2 m_s2 c_s2)]) rfl fun w L hR => ?_
 obtain ⟨hs1, hs2⟩ := hR
 obtain ⟨rfl, ls1⟩ := hs1.slen
 obtain ⟨rfl, ls2⟩ := hs2.slen
 refine Ew Z1 (Ei rfl (Eu (Eq_ (Ew Z3 (Em rfl (Ey rfl ((Y.len us_Is rfl).yd) (Em rfl (Eu (E.block (E.loop (κ := Nat) (fun g => g ≤ s1.length ∧ G6 s1 s2 = G6 (s1.drop g) (s2.drop g)) (fun g => [(0, .slice a_s1 s1.length c_s1), (1, .slice a_s2 s2.length c_s2), (9, .slice a_s1 s1.length c_s1), (10, .int .i64 (↑s1.length : Int)), (11, .int .i64 (g : Int))]) (fun g => []) (fun g => s1.length - g) 0 ⟨Nat.zero_le _, by simp⟩ ⟨rfl, rfl, rfl, rfl, rfl, trivial⟩ (.refl _) (fun g pg => ?_)))))))))))
 obtain ⟨pk, pa⟩ := pg
 refine Ew Z1 (Ey rfl ((Y.lss rfl rfl).yd) (n0 (fun q12 => ?_) (fun q12 => ?_)))
 ·refine Eu (Eq_ (l4 rfl (i8 (Et (Eq_ (E.block (Ew Z5 (Em rfl ?_))))))))
  obtain ⟨eb14, eo14, ea14, ei14, eh14⟩ := hs1.elemI g om
  refine Ey rfl ((o6 us_Is f0 rfl ea14 rfl g rfl om).yd) (Ey rfl (f8 f0 rfl (eh14 _) rfl) (Ei rfl (Ei rfl (Eu (Eq_ (Ew Z4 (Em rfl (Em rfl (Ey rfl ((Y.len us_Is rfl).yd) (Ey rfl ((Y.geq rfl rfl).yd) (n0 (fun q19 => ?_) (fun q19 => ?_))))))))))))
  ·refine Eu (l4 rfl (Ew Z1 (Ei rfl ?_)))
   exact Eu (E.ret (l0 (t7 (l0 (l0 (t7 (l0 (Fg rfl rfl () (congrArg (Value.int .i64) (by grind [G6, d1, d2, t1, t2])) rfl))))))))
  ·refine Eu (l6 rfl (i8 (Et (Ew Z5 (Em rfl (Em rfl ?_))))))
   obtain ⟨eb22, eo22, ea22, ei22, eh22⟩ := hs2.elemI g om
   refine Ey rfl ((o6 us_Is f0 rfl ea22 rfl g rfl om).yd) (Ey rfl (f8 f0 rfl (eh22 _) rfl) (Ei rfl (Ev Z4 (Em rfl (Em rfl (Est rfl (k6 a2g rfl rfl rfl dc tv) (fun _ _ => (Ei rfl (Ev Z2 (Em rfl (Ey rfl ((Y.neq rfl rfl).yd) (n0 (fun q28 => ?_) (fun q28 => ?_)))))))))))))
   ·refine Eu (l4 rfl (Ew Z2 (Em rfl (Ei rfl ?_))))
    exact Eu (E.ret (t7 (l0 (l0 (t7 (l0 (Fg rfl rfl () (congrArg (Value.int .i64) (by grind [G6, d1, d2, t1, t2])) rfl)))))))
   ·refine Eu (l6 rfl (i8 (o4 (Et (Ez Z2 (Ey rfl ((Y.add rfl rfl om om).yd) (Em rfl ?_)))))))
    exact Eu (u9 br (g + 1) rs (.refl _) ⟨by omega, by grind [G6, d1, d2, t1, t2]⟩ om)
 ·refine Eu (Eq_ (l6 rfl (E.exit (n8 (n8 (w5 (Et (Eq_ (Ew Z5 (Em rfl (Ey rfl ((Y.len us_Is rfl).yd) (Em rfl (Ey rfl ((Y.len us_Is rfl).yd) (Ey rfl ((Y.lss rfl rfl).yd) (n0 (fun q35 => ?_) (fun q35 => ?_))))))))))))))))
  ·refine Eu (l4 rfl (Ew Z1 (Ei rfl ?_)))
   exact Eu (E.ret (l0 (Fg rfl rfl () (congrArg (Value.int .i64) (by grind [G6, d1, d2, t1, t2])) rfl)))
  ·refine Eu (l6 rfl (i8 (Et (Ew Z1 (Ei rfl ?_)))))
   exact Eu (E.ret (Fg rfl rfl () (congrArg (Value.int .i64) (by grind [G6, d1, d2, t1, t2])) rfl))
theorem a0v : Tr Tryz.prog 118 [.agg #[.int .i64 l2, .slice w4 y5 w3], .agg #[.int .i64 a1B, .slice u6 w8 t8]] (fun w L => I64 l2 ∧ Ro w L eIs [.slice w4 y5 w3] j9 ∧ I64 a1B ∧ Ro w L eIs [.slice u6 w8 t8] g9) [] (κ := Unit) (fun k => True) (fun k => .int .i64 (K4 (l2, j9) (a1B, g9))) (fun k => []) := by
 refine Tr.intro Tryz.func118 rfl (n := 17) rfl (by decide +kernel) bl (fr := [(0, .agg #[.int .i64 l2, .slice w4 y5 w3]), (1, .agg #[.int .i64 a1B, .slice u6 w8 t8])]) rfl fun w L hR => ?_
 obtain ⟨M4, C5, b5U, z6⟩ := hR
 obtain ⟨rfl, P2⟩ := C5.slen
 obtain ⟨rfl, N9⟩ := z6.slen
 refine Ew Z3 (Est rfl (N.box (cs := [_, _]) rfl dc rfl) (fun b2 _ => (Est rfl (N.box (cs := [_, _]) rfl dc rfl) (fun b3 _ => (Ei rfl (Eu (Eq_ (D.region (fun j => true) mixed (Dyp 0 rfl (i7 fo_Fact_0 f0 dc rfl) (Dy 1 rfl (f8 f0 rfl (Hz (mS m0) 0 rfl) rfl) (Dyp 2 rfl (i7 fo_Fact_0 f0 dc rfl) (Dy 3 rfl (f8 f0 rfl (Hz m0 0 rfl) rfl) (Dyp 5 rfl (i7 fo_Fact_1 ty_Is dc rfl) (Dy 6 rfl (f8 ty_Is rfl (Hz (mS m0) 1 rfl) rfl) (Dyp 7 rfl (i7 fo_Fact_1 ty_Is dc rfl) (Dy 8 rfl (f8 ty_Is rfl (Hz m0 1 rfl) rfl) ?_))))))))))))))))
 have j1 := @b0u l2 a1B
 refine u7 4 rfl rfl kr (fun _ => rfl) (k6 a2g rfl rfl rfl dc tv) (fun _ _ => ?_)
 have j2 := @a9o j9 g9
 refine u7 9 rfl rfl kr (fun _ => rfl) (k6 a0D rfl rfl rfl dc (fun w Lp hA => ⟨hA.ro C5, hA.ro z6⟩)) (fun _ _ => (u7 10 rfl rfl kr (fun _ => rfl) (Nb [_, _] [_, _] us_Is f0 rfl rfl) (fun b15 _ => (n9 (A := [_]) (Own.ints (e := tI) (xs := [M5 l2 a1B, G6 j9 g9]) rfl (by simp [maxLen]) (by simp only [List.forall_mem_cons]; exact ⟨i6, i6, List.forall_mem_nil _⟩)) rfl (u7 11 rfl rfl kr (fun _ => rfl) (k6 a9M rfl rfl rfl dc (fun w Lp hA => hA.ow m0)) (fun _ _ => (Dyp 12 rfl (G1 rfl) ?_)))))))
 exact o3 kr (Et (E.ret (Fg rfl rfl () (congrArg (Value.int .i64) (by grind [K4, orI, d1, d2, t1, t2])) rfl)))
theorem S5 : Tr Tryz.prog 58 [.agg #[.int .i64 l2, .slice w4 y5 w3], .agg #[.int .i64 a1B, .slice u6 w8 t8]] (fun w L => I64 l2 ∧ Ro w L eIs [.slice w4 y5 w3] j9 ∧ I64 a1B ∧ Ro w L eIs [.slice u6 w8 t8] g9) [] (κ := Unit) (fun k => True) (fun k => .int .i64 (K4 (l2, j9) (a1B, g9))) (fun k => []) := by
 refine Tr.intro Tryz.func58 rfl (n := 66) rfl (by decide +kernel) bl (fr := [(0, .agg #[.int .i64 l2, .slice w4 y5 w3]), (1, .agg #[.int .i64 a1B, .slice u6 w8 t8])]) rfl fun w L hR => ?_
 obtain ⟨M4, C5, b5U, z6⟩ := hR
 obtain ⟨rfl, P2⟩ := C5.slen
 obtain ⟨rfl, N9⟩ := z6.slen
 refine Ew Z3 (Est rfl (N.box (cs := [_, _]) rfl dc rfl) (fun b2 _ => (Est rfl (N.box (cs := [_, _]) rfl dc rfl) (fun b3 _ => (Ei rfl (Eu (Eq_ (Ew Z5 (Ey rfl ((i7 fo_Fact_0 f0 dc rfl).yd) (Ey rfl (f8 f0 rfl (Hz (mS m0) 0 rfl) rfl) (Ey rfl ((i7 fo_Fact_0 f0 dc rfl).yd) (Ey rfl (f8 f0 rfl (Hz m0 0 rfl) rfl) (Ey rfl ((Y.neq rfl rfl).yd) (n0 (fun q10 => ?_) (fun q10 => ?_)))))))))))))))
 ·refine Eu (l4 rfl (Eq_ (Ew Z5 (Ey rfl ((i7 fo_Fact_0 f0 dc rfl).yd) (Ey rfl (f8 f0 rfl (Hz (mS m0) 0 rfl) rfl) (Ey rfl ((i7 fo_Fact_0 f0 dc rfl).yd) (Ey rfl (f8 f0 rfl (Hz m0 0 rfl) rfl) (Ey rfl ((Y.lss rfl rfl).yd) (n0 (fun q15 => ?_) (fun q15 => ?_))))))))))
  ·refine Eu (l4 rfl (Ew Z1 (Ei rfl ?_)))
   exact Eu (E.ret (l0 (l0 (Fg rfl rfl () (congrArg (Value.int .i64) (by grind [K4, M5, G6, d1, d2, t1, t2])) rfl))))
  ·refine Eu (l6 rfl (i8 (Et (Ew Z1 (Ei rfl ?_)))))
   exact Eu (E.ret (l0 (Fg rfl rfl () (congrArg (Value.int .i64) (by grind [K4, M5, G6, d1, d2, t1, t2])) rfl)))
 ·refine Eu (l6 rfl (i8 (Et (Eq_ (Ew Z1 (Ei rfl (Eu (E.block (E.loop (κ := Nat) (fun g => g ≤ j9.length ∧ g ≤ g9.length ∧ G6 j9 g9 = G6 (j9.drop g) (g9.drop g)) (fun g => [(2, .pointer (some ⟨b2, 0, none⟩)), (3, .pointer (some ⟨b3, 0, none⟩)), (5, .int .i64 (g : Int))]) (fun g => [pt b3 91 [.int .i64 a1B, .slice u6 g9.length t8], pt b2 91 [.int .i64 l2, .slice w4 j9.length w3]]) (fun g => j9.length - g) 0 ⟨Nat.zero_le _, by simp⟩ ⟨rfl, rfl, rfl, trivial⟩ (.refl _) (fun g pg => ?_))))))))))
  obtain ⟨pk, pa⟩ := pg
  refine Eq_ (Ew Z12 (Em rfl (Ey rfl ((i7 fo_Fact_1 ty_Is dc rfl).yd) (Ey rfl (f8 ty_Is rfl (Hz (mS m0) 1 rfl) rfl) (Ey rfl ((Y.len us_Is rfl).yd) (Ey rfl ((Y.lss rfl rfl).yd) (n0 (fun q20 => ?_) (fun q20 => ?_))))))))
  ·refine Em rfl (Em rfl (Ey rfl ((i7 fo_Fact_1 ty_Is dc rfl).yd) (Ey rfl (f8 ty_Is rfl (Hz m0 1 rfl) rfl) (Ey rfl ((Y.len us_Is rfl).yd) (Ey rfl ((Y.lss rfl rfl).yd) (n0 (fun q26 => ?_) (fun q26 => ?_)))))))
   ·refine Ey rfl ((s6 rfl rfl).yd) (Eu (l4 rfl (i8 (Et (Eq_ (E.block (Eq_ (Eq_ (D.region (fun j => true) mixed (Dyp 0 rfl (i7 fo_Fact_1 ty_Is dc rfl) (Dy 1 rfl (f8 ty_Is rfl (Hz (mS m0) 1 rfl) rfl) (Dyp 2 rfl (j4 rfl) ?_))))))))))))
    obtain ⟨eb33, eo33, ea33, ei33, eh33⟩ := C5.elemI g om
    refine Dyp 3 rfl (o6 us_Is f0 rfl ea33 rfl g rfl om) (Dy 4 rfl (f8 f0 rfl (eh33 _) rfl) (Dyp 5 rfl (i7 fo_Fact_1 ty_Is dc rfl) (Dy 6 rfl (f8 ty_Is rfl (Hz m0 1 rfl) rfl) (Dyp 7 rfl (j4 rfl) ?_))))
    obtain ⟨eb38, eo38, ea38, ei38, eh38⟩ := z6.elemI g om
    refine Dyp 8 rfl (o6 us_Is f0 rfl ea38 rfl g rfl om) (Dy 9 rfl (f8 f0 rfl (eh38 _) rfl) (Dyp 10 rfl (Y.lss rfl rfl) (n0 (fun q40 => ?_) (fun q40 => ?_))))
    ·refine o3 kr (Et (l4 rfl (Ew Z1 (Ei rfl ?_))))
     exact Eu (E.ret (l0 (t7 (l0 (l0 (t7 (l0 (Fg rfl rfl () (congrArg (Value.int .i64) (by grind [K4, M5, G6, d1, d2, t1, t2])) rfl))))))))
    ·refine o3 kr (Et (l6 rfl (i8 (Et (Eq_ (D.region (fun j => true) mixed (Dyp 0 rfl (i7 fo_Fact_1 ty_Is dc rfl) (Dy 1 rfl (f8 ty_Is rfl (Hz (mS m0) 1 rfl) rfl) (Dyp 2 rfl (j4 rfl) (Dyp 3 rfl (o6 us_Is f0 rfl ea33 rfl g rfl om) (Dy 4 rfl (f8 f0 rfl (eh33 _) rfl) (Dyp 5 rfl (i7 fo_Fact_1 ty_Is dc rfl) (Dy 6 rfl (f8 ty_Is rfl (Hz m0 1 rfl) rfl) (Dyp 7 rfl (j4 rfl) (Dyp 8 rfl (o6 us_Is f0 rfl ea38 rfl g rfl om) (Dy 9 rfl (f8 f0 rfl (eh38 _) rfl) (Dyp 10 rfl (Y.gtr rfl rfl) (n0 (fun q51 => ?_) (fun q51 => ?_)))))))))))))))))))
     ·refine o3 kr (Et (l4 rfl (Ew Z1 (Ei rfl ?_))))
      exact Eu (E.ret (t7 (l0 (l0 (t7 (l0 (Fg rfl rfl () (congrArg (Value.int .i64) (by grind [K4, M5, G6, d1, d2, t1, t2])) rfl)))))))
     ·refine o3 kr (Et (l6 rfl (i8 (o4 (Et (Ez Z3 (Em rfl (Ey rfl ((Y.add rfl rfl om om).yd) (Ei rfl (Eu (f7 (f7 ?_))))))))))))
      exact u9 br (g + 1) rs (.refl _) ⟨by omega, by grind [G6, M5, d1, d2, t1, t2]⟩ om
   ·refine Ey rfl ((s6 rfl rfl).yd) (Eu (l6 rfl (E.exit (n8 (n8 (w5 (Et (Eq_ (Ew Z7 (Ey rfl ((i7 fo_Fact_1 ty_Is dc rfl).yd) (Ey rfl (f8 ty_Is rfl (Hz (mS m0) 1 rfl) rfl) (Ey rfl ((Y.len us_Is rfl).yd) (Ey rfl ((i7 fo_Fact_1 ty_Is dc rfl).yd) (Ey rfl (f8 ty_Is rfl (Hz m0 1 rfl) rfl) (Ey rfl ((Y.len us_Is rfl).yd) (Ey rfl ((Y.lss rfl rfl).yd) (n0 (fun q58 => ?_) (fun q58 => ?_))))))))))))))))))
    ·refine Eu (l4 rfl (Ew Z1 (Ei rfl ?_)))
     exact Eu (E.ret (l0 (Fg rfl rfl () (congrArg (Value.int .i64) (by grind [K4, M5, G6, d1, d2, t1, t2])) rfl)))
    ·refine Eu (l6 rfl (i8 (Et (Eq_ (Ew Z7 (Ey rfl ((i7 fo_Fact_1 ty_Is dc rfl).yd) (Ey rfl (f8 ty_Is rfl (Hz (mS m0) 1 rfl) rfl) (Ey rfl ((Y.len us_Is rfl).yd) (Ey rfl ((i7 fo_Fact_1 ty_Is dc rfl).yd) (Ey rfl (f8 ty_Is rfl (Hz m0 1 rfl) rfl) (Ey rfl ((Y.len us_Is rfl).yd) (Ey rfl ((Y.gtr rfl rfl).yd) (n0 (fun q65 => ?_) (fun q65 => ?_))))))))))))))
     ·refine Eu (l4 rfl (Ew Z1 (Ei rfl ?_)))
      exact Eu (E.ret (l0 (Fg rfl rfl () (congrArg (Value.int .i64) (by grind [K4, M5, G6, d1, d2, t1, t2])) rfl)))
     ·refine Eu (l6 rfl (i8 (Et (Ew Z1 (Ei rfl ?_)))))
      exact Eu (E.ret (Fg rfl rfl () (congrArg (Value.int .i64) (by grind [K4, M5, G6, d1, d2, t1, t2])) rfl))
  ·refine Em rfl (Es rfl (Es rfl (Es rfl (Es rfl (Es rfl (Ey rfl ((r9 rfl rfl).yd) (Eu (l6 rfl (E.exit (n8 (n8 (w5 (Et (Eq_ (Ew Z7 (Ey rfl ((i7 fo_Fact_1 ty_Is dc rfl).yd) (Ey rfl (f8 ty_Is rfl (Hz (mS m0) 1 rfl) rfl) (Ey rfl ((Y.len us_Is rfl).yd) (Ey rfl ((i7 fo_Fact_1 ty_Is dc rfl).yd) (Ey rfl (f8 ty_Is rfl (Hz m0 1 rfl) rfl) (Ey rfl ((Y.len us_Is rfl).yd) (Ey rfl ((Y.lss rfl rfl).yd) (n0 (fun q58 => ?_) (fun q58 => ?_))))))))))))))))))))))))
   ·refine Eu (l4 rfl (Ew Z1 (Ei rfl ?_)))
    exact Eu (E.ret (l0 (Fg rfl rfl () (congrArg (Value.int .i64) (by grind [K4, M5, G6, d1, d2, t1, t2])) rfl)))
   ·refine Eu (l6 rfl (i8 (Et (Eq_ (Ew Z7 (Ey rfl ((i7 fo_Fact_1 ty_Is dc rfl).yd) (Ey rfl (f8 ty_Is rfl (Hz (mS m0) 1 rfl) rfl) (Ey rfl ((Y.len us_Is rfl).yd) (Ey rfl ((i7 fo_Fact_1 ty_Is dc rfl).yd) (Ey rfl (f8 ty_Is rfl (Hz m0 1 rfl) rfl) (Ey rfl ((Y.len us_Is rfl).yd) (Ey rfl ((Y.gtr rfl rfl).yd) (n0 (fun q65 => ?_) (fun q65 => ?_))))))))))))))
    ·refine Eu (l4 rfl (Ew Z1 (Ei rfl ?_)))
     exact Eu (E.ret (l0 (Fg rfl rfl () (congrArg (Value.int .i64) (by grind [K4, M5, G6, d1, d2, t1, t2])) rfl)))
    ·refine Eu (l6 rfl (i8 (Et (Ew Z1 (Ei rfl ?_)))))
     exact Eu (E.ret (Fg rfl rfl () (congrArg (Value.int .i64) (by grind [K4, M5, G6, d1, d2, t1, t2])) rfl))
theorem a5O : Tr Tryz.prog 11 [.slice a_a m_a c_a, .slice a_b m_b c_b] (fun w L => Ro w L r7 [.slice a_a m_a c_a] a ∧ Ro w L r7 [.slice a_b m_b c_b] b) [] (κ := Unit) (fun k => True) (fun k => .bool (decide (a = b))) (fun k => []) := by
 refine Tr.intro Tryz.func11 rfl (n := 27) rfl (by decide +kernel) bl (fr := [(0, .slice a_a m_a c_a), (1, .slice a_b m_b c_b)]) rfl fun w L hR => ?_
 obtain ⟨ha, hb⟩ := hR
 obtain ⟨rfl, la⟩ := ha.slen
 obtain ⟨rfl, lb⟩ := hb.slen
 refine Ew Z1 (Ei rfl (Eu (Eq_ (Ew Z5 (Em rfl (Ey rfl ((Y.len us_Facts rfl).yd) (Em rfl (Ey rfl ((Y.len us_Facts rfl).yd) (Ey rfl ((Y.neq rfl rfl).yd) (n0 (fun q10 => ?_) (fun q10 => ?_)))))))))))
 ·refine Eu (l4 rfl (Ew Z1 (Ei rfl ?_)))
  exact Eu (E.ret (l0 (Fb rfl rfl (by rw [← a4Y]; grind [eqP, a3B, d1, d2, t1, t2]))))
 ·refine Eu (l6 rfl (i8 (Et (Eq_ (Ew Z1 (Ei rfl (Eu (E.block (E.loop (κ := Nat) (fun g => g ≤ a.length ∧ a.length = b.length ∧ eqP (fun z y => decide (K4 z y = 0)) a b = eqP (fun z y => decide (K4 z y = 0)) (a.drop g) (b.drop g)) (fun g => [(0, .slice a_a a.length c_a), (1, .slice a_b b.length c_b), (5, .int .i64 (g : Int))]) (fun g => []) (fun g => a.length - g) 0 ⟨Nat.zero_le _, by exact ⟨by omega, rfl⟩⟩ ⟨rfl, rfl, rfl, trivial⟩ (.refl _) (fun g pg => ?_))))))))))
  obtain ⟨pk, pa⟩ := pg
  refine Eq_ (Ew Z4 (Em rfl (Em rfl (Ey rfl ((Y.len us_Facts rfl).yd) (Ey rfl ((Y.lss rfl rfl).yd) (n0 (fun q14 => ?_) (fun q14 => ?_)))))))
  ·refine Eu (l4 rfl (i8 (Et (Eq_ (E.block (Eq_ (D.region (fun j => true) mixed (Dyp 0 rfl (j4 rfl) (Dyp 1 rfl (j4 rfl) ?_)))))))))
   obtain ⟨eb19, eo19, ec19, ea19, er19, el19, eh19⟩ := ha.elem g om
   obtain ⟨xa19_0, xc19_0, rfl, ei19_0, xh19_0⟩ := L4 er19
   have := xh19_0.slen.2
   refine Dyp 2 rfl (o6 us_Facts ty_Fact rfl ea19 rfl g rfl om) (Dy 3 rfl (o0 (cs := [_, _]) ty_Fact rfl (eh19 _) rfl) (Dyp 4 rfl (j4 rfl) (Dyp 5 rfl (j4 rfl) ?_)))
   obtain ⟨eb23, eo23, ec23, ea23, er23, el23, eh23⟩ := hb.elem g om
   obtain ⟨xa23_0, xc23_0, rfl, ei23_0, xh23_0⟩ := L4 er23
   have := xh23_0.slen.2
   refine Dyp 6 rfl (o6 us_Facts ty_Fact rfl ea23 rfl g rfl om) (Dy 7 rfl (o0 (cs := [_, _]) ty_Fact rfl (eh23 _) rfl) (u7 8 rfl rfl kr (fun _ => rfl) (k6 S5 rfl rfl rfl dc (fun w Lp hA => ⟨ei19_0, hA.ro xh19_0, ei23_0, hA.ro xh23_0⟩)) (fun _ _ => (Dyp 9 rfl (Y.neq rfl rfl) (n0 (fun q26 => ?_) (fun q26 => ?_))))))
   ·refine o3 kr (Et (l4 rfl (Ew Z1 (Ei rfl ?_))))
    exact Eu (E.ret (t7 (l0 (l0 (t7 (l0 (Fb rfl rfl (by rw [← a4Y]; grind [eqP, a3B, d1, d2, t1, t2]))))))))
   ·refine o3 kr (Et (l6 rfl (i8 (o4 (Et (Ez Z3 (Em rfl (Ey rfl ((Y.add rfl rfl om om).yd) (Ei rfl ?_)))))))))
    exact Eu (u9 br (g + 1) rs (.refl _) ⟨by omega, by grind [eqP, a3B, d1, d2, t1, t2]⟩ om)
  ·refine Eu (l6 rfl (E.exit (n8 (n8 (w5 (Et (Ew Z1 (Ei rfl ?_))))))))
   exact Eu (E.ret (Fb rfl rfl (by rw [← a4Y]; grind [eqP, a3B, d1, d2, t1, t2])))
theorem a0U : Tr Tryz.prog 153 [.slice a_s1 m_s1 c_s1, .slice a_s2 m_s2 c_s2] (fun w L => Ro w L eIs [.slice a_s1 m_s1 c_s1] s1 ∧ Ro w L eIs [.slice a_s2 m_s2 c_s2] s2) [] (κ := Unit) (fun k => True) (fun k => .bool (decide (s1 = s2))) (fun k => []) := by
 refine Tr.intro Tryz.func153 rfl (n := 26) rfl (by decide +kernel) bl (fr := [(0, .slice a_s1 m_s1 c_s1), (1, .slice a_s2 m_s2 c_s2)]) rfl fun w L hR => ?_
 obtain ⟨hs1, hs2⟩ := hR
 obtain ⟨rfl, ls1⟩ := hs1.slen
 obtain ⟨rfl, ls2⟩ := hs2.slen
 refine Ew Z1 (Ei rfl (Eu (Eq_ (Ew Z5 (Em rfl (Ey rfl ((Y.len us_Is rfl).yd) (Em rfl (Ey rfl ((Y.len us_Is rfl).yd) (Ey rfl ((Y.neq rfl rfl).yd) (n0 (fun q10 => ?_) (fun q10 => ?_)))))))))))
 ·refine Eu (l4 rfl (Ew Z1 (Ei rfl ?_)))
  exact Eu (E.ret (l0 (Fb rfl rfl (by grind [d1, d2, t1, t2]))))
 ·refine Eu (l6 rfl (i8 (Et (Eq_ (Ew Z3 (Em rfl (Ey rfl ((Y.len us_Is rfl).yd) (Em rfl (Eu (E.block (E.loop (κ := Nat) (fun g => g ≤ s1.length ∧ s1.length = s2.length ∧ (s1 = s2 ↔ s1.drop g = s2.drop g)) (fun g => [(0, .slice a_s1 s1.length c_s1), (1, .slice a_s2 s2.length c_s2), (12, .int .i64 (↑s1.length : Int)), (13, .int .i64 (g : Int))]) (fun g => []) (fun g => s1.length - g) 0 ⟨Nat.zero_le _, by exact ⟨by omega, by simp⟩⟩ ⟨rfl, rfl, rfl, rfl, trivial⟩ (.refl _) (fun g pg => ?_))))))))))))
  obtain ⟨pk, pa⟩ := pg
  refine Ew Z1 (Ey rfl ((Y.lss rfl rfl).yd) (n0 (fun q14 => ?_) (fun q14 => ?_)))
  ·refine Eu (Eq_ (l4 rfl (i8 (Et (Eq_ (E.block (Ew Z2 (Em rfl (Ei rfl (Eu (Eq_ (D.region (fun j => true) mixed (Dyp 0 rfl (j4 rfl) (Dyp 1 rfl (j4 rfl) ?_))))))))))))))
   obtain ⟨eb18, eo18, ea18, ei18, eh18⟩ := hs1.elemI g om
   refine Dyp 2 rfl (o6 us_Is f0 rfl ea18 rfl g rfl om) (Dy 3 rfl (f8 f0 rfl (eh18 _) rfl) (Dyp 4 rfl (j4 rfl) (Dyp 5 rfl (j4 rfl) ?_)))
   obtain ⟨eb22, eo22, ea22, ei22, eh22⟩ := hs2.elemI g om
   refine Dyp 6 rfl (o6 us_Is f0 rfl ea22 rfl g rfl om) (Dy 7 rfl (f8 f0 rfl (eh22 _) rfl) (Dyp 8 rfl (Y.neq rfl rfl) (n0 (fun q24 => ?_) (fun q24 => ?_))))
   ·refine o3 kr (Et (l4 rfl (Ew Z1 (Ei rfl ?_))))
    exact Eu (E.ret (t7 (l0 (l0 (t7 (l0 (Fb rfl rfl (by grind [d1, d2, t1, t2]))))))))
   ·refine o3 kr (Et (l6 rfl (i8 (o4 (Et (Ez Z2 (Ey rfl ((Y.add rfl rfl om om).yd) (Em rfl ?_))))))))
    exact Eu (u9 br (g + 1) rs (.refl _) ⟨by omega, by grind [d1, d2, t1, t2]⟩ om)
  ·refine Eu (Eq_ (l6 rfl (E.exit (n8 (n8 (w5 (Et (Ew Z1 (Ei rfl ?_)))))))))
   exact Eu (E.ret (Fb rfl rfl (by grind [d1, d2, t1, t2])))
theorem a4w {a : List Int} {b : List Int} : Tr Tryz.prog 56 [.slice a_a m_a c_a, .slice a_b m_b c_b] (fun w L => Ro w L eIs [.slice a_a m_a c_a] a ∧ Ro w L eIs [.slice a_b m_b c_b] b) [] (κ := Unit) (fun k => True) (fun k => .bool (decide (a = b))) (fun k => []) := by
 refine Tr.intro Tryz.func56 rfl (n := 26) rfl (by decide +kernel) bl (fr := [(0, .slice a_a m_a c_a), (1, .slice a_b m_b c_b)]) rfl fun w L hR => ?_
 obtain ⟨ha, hb⟩ := hR
 obtain ⟨rfl, la⟩ := ha.slen
 obtain ⟨rfl, lb⟩ := hb.slen
 refine Ew Z1 (Ei rfl (Eu (Eq_ (Ew Z5 (Em rfl (Ey rfl ((Y.len us_Is rfl).yd) (Em rfl (Ey rfl ((Y.len us_Is rfl).yd) (Ey rfl ((Y.neq rfl rfl).yd) (n0 (fun q10 => ?_) (fun q10 => ?_)))))))))))
 ·refine Eu (l4 rfl (Ew Z1 (Ei rfl ?_)))
  exact Eu (E.ret (l0 (Fb rfl rfl (by grind [d1, d2, t1, t2]))))
 ·refine Eu (l6 rfl (i8 (Et (Eq_ (Ew Z1 (Ei rfl (Eu (E.block (E.loop (κ := Nat) (fun g => g ≤ a.length ∧ a.length = b.length ∧ (a = b ↔ a.drop g = b.drop g)) (fun g => [(0, .slice a_a a.length c_a), (1, .slice a_b b.length c_b), (5, .int .i64 (g : Int))]) (fun g => []) (fun g => a.length - g) 0 ⟨Nat.zero_le _, by exact ⟨by omega, by simp⟩⟩ ⟨rfl, rfl, rfl, trivial⟩ (.refl _) (fun g pg => ?_))))))))))
  obtain ⟨pk, pa⟩ := pg
  refine Eq_ (Ew Z4 (Em rfl (Em rfl (Ey rfl ((Y.len us_Is rfl).yd) (Ey rfl ((Y.lss rfl rfl).yd) (n0 (fun q14 => ?_) (fun q14 => ?_)))))))
  ·refine Eu (l4 rfl (i8 (Et (Eq_ (E.block (Eq_ (D.region (fun j => true) mixed (Dyp 0 rfl (j4 rfl) (Dyp 1 rfl (j4 rfl) ?_)))))))))
   obtain ⟨eb19, eo19, ea19, ei19, eh19⟩ := ha.elemI g om
   refine Dyp 2 rfl (o6 us_Is f0 rfl ea19 rfl g rfl om) (Dy 3 rfl (f8 f0 rfl (eh19 _) rfl) (Dyp 4 rfl (j4 rfl) (Dyp 5 rfl (j4 rfl) ?_)))
   obtain ⟨eb23, eo23, ea23, ei23, eh23⟩ := hb.elemI g om
   refine Dyp 6 rfl (o6 us_Is f0 rfl ea23 rfl g rfl om) (Dy 7 rfl (f8 f0 rfl (eh23 _) rfl) (Dyp 8 rfl (Y.neq rfl rfl) (n0 (fun q25 => ?_) (fun q25 => ?_))))
   ·refine o3 kr (Et (l4 rfl (Ew Z1 (Ei rfl ?_))))
    exact Eu (E.ret (t7 (l0 (l0 (t7 (l0 (Fb rfl rfl (by grind [d1, d2, t1, t2]))))))))
   ·refine o3 kr (Et (l6 rfl (i8 (o4 (Et (Ez Z3 (Em rfl (Ey rfl ((Y.add rfl rfl om om).yd) (Ei rfl ?_)))))))))
    exact Eu (u9 br (g + 1) rs (.refl _) ⟨by omega, by grind [d1, d2, t1, t2]⟩ om)
  ·refine Eu (l6 rfl (E.exit (n8 (n8 (w5 (Et (Ew Z1 (Ei rfl ?_))))))))
   exact Eu (E.ret (Fb rfl rfl (by grind [d1, d2, t1, t2])))
theorem a5y : Tr Tryz.prog 184 [.agg #[.int .i64 j3, .slice w4 y5 w3], .agg #[.int .i64 a0M, .slice u6 w8 t8]] (fun w L => (I64 j3 ∧ Ro w L eIs [.slice w4 y5 w3] j9 ∧ I64 a0M ∧ Ro w L eIs [.slice u6 w8 t8] g9) ∧ True) [] (κ := Unit) (fun k => True) (fun k => .bool (decide ((j3, j9) = (a0M, g9)))) (fun k => []) := by
 refine Tr.intro Tryz.func184 rfl (n := 17) rfl (by decide +kernel) bl (fr := [(0, .agg #[.int .i64 j3, .slice w4 y5 w3]), (1, .agg #[.int .i64 a0M, .slice u6 w8 t8])]) rfl fun w L hR => ?_
 obtain ⟨⟨I8, C5, b2l, z6⟩, _⟩ := hR
 obtain ⟨rfl, P2⟩ := C5.slen
 obtain ⟨rfl, N9⟩ := z6.slen
 refine Ew Z3 (Est rfl (N.box (cs := [_, _]) rfl dc rfl) (fun b2 _ => (Est rfl (N.box (cs := [_, _]) rfl dc rfl) (fun b3 _ => (Ei rfl (Ev Z13 (Ey rfl ((i7 fo_Access_0 f0 dc rfl).yd) (Ey rfl (f8 f0 rfl (Hz (mS m0) 0 rfl) rfl) (Ey rfl ((i7 fo_Access_0 f0 dc rfl).yd) (Ey rfl (f8 f0 rfl (Hz m0 0 rfl) rfl) (Ey rfl ((Y.eql rfl rfl).yd) (n0 (fun q9 => ?_) (fun q9 => ?_)))))))))))))
 ·refine Em rfl (Ey rfl ((i7 fo_Access_1 ty_Is dc rfl).yd) (Ey rfl (f8 ty_Is rfl (Hz (mS m0) 1 rfl) rfl) (Ey rfl ((i7 fo_Access_1 ty_Is dc rfl).yd) (Ey rfl (f8 ty_Is rfl (Hz m0 1 rfl) rfl) (Est rfl (k6 a0U rfl rfl rfl dc (fun w Lp hA => ⟨hA.ro C5, hA.ro z6⟩)) (fun _ _ => (Ey rfl ((s6 rfl rfl).yd) (Ei rfl ?_))))))))
  exact Eu (E.ret (Fb rfl rfl (by grind [d1, d2, t1, t2])))
 ·refine Em rfl (Es rfl (Es rfl (Es rfl (Es rfl (Es rfl (Ey rfl ((r9 rfl rfl).yd) (Ei rfl ?_)))))))
  exact Eu (E.ret (Fb rfl rfl (by grind [d1, d2, t1, t2])))
theorem a4r : Tr Tryz.prog 57 [.agg #[.int .i64 j3, .slice w4 y5 w3], .agg #[.int .i64 a0M, .slice u6 w8 t8]] (fun w L => I64 j3 ∧ Ro w L eIs [.slice w4 y5 w3] j9 ∧ I64 a0M ∧ Ro w L eIs [.slice u6 w8 t8] g9) [] (κ := Unit) (fun k => True) (fun k => .bool (decide ((j3, j9) = (a0M, g9)))) (fun k => []) := by
 refine Tr.intro Tryz.func57 rfl (n := 17) rfl (by decide +kernel) bl (fr := [(0, .agg #[.int .i64 j3, .slice w4 y5 w3]), (1, .agg #[.int .i64 a0M, .slice u6 w8 t8])]) rfl fun w L hR => ?_
 obtain ⟨I8, C5, b2l, z6⟩ := hR
 obtain ⟨rfl, P2⟩ := C5.slen
 obtain ⟨rfl, N9⟩ := z6.slen
 refine Ew Z3 (Est rfl (N.box (cs := [_, _]) rfl dc rfl) (fun b2 _ => (Est rfl (N.box (cs := [_, _]) rfl dc rfl) (fun b3 _ => (Ei rfl (Ev Z13 (Ey rfl ((i7 fo_Access_0 f0 dc rfl).yd) (Ey rfl (f8 f0 rfl (Hz (mS m0) 0 rfl) rfl) (Ey rfl ((i7 fo_Access_0 f0 dc rfl).yd) (Ey rfl (f8 f0 rfl (Hz m0 0 rfl) rfl) (Ey rfl ((Y.eql rfl rfl).yd) (n0 (fun q9 => ?_) (fun q9 => ?_)))))))))))))
 ·refine Em rfl (Ey rfl ((i7 fo_Access_1 ty_Is dc rfl).yd) (Ey rfl (f8 ty_Is rfl (Hz (mS m0) 1 rfl) rfl) (Ey rfl ((i7 fo_Access_1 ty_Is dc rfl).yd) (Ey rfl (f8 ty_Is rfl (Hz m0 1 rfl) rfl) (Est rfl (k6 a4w rfl rfl rfl dc (fun w Lp hA => ⟨hA.ro C5, hA.ro z6⟩)) (fun _ _ => (Ey rfl ((s6 rfl rfl).yd) (Ei rfl ?_))))))))
  exact Eu (E.ret (Fb rfl rfl (by grind [d1, d2, t1, t2])))
 ·refine Em rfl (Es rfl (Es rfl (Es rfl (Es rfl (Es rfl (Ey rfl ((r9 rfl rfl).yd) (Ei rfl ?_)))))))
  exact Eu (E.ret (Fb rfl rfl (by grind [d1, d2, t1, t2])))
theorem a4G : Tr Tryz.prog 10 [.slice a_a m_a c_a, .slice a_b m_b c_b] (fun w L => Ro w L B5 [.slice a_a m_a c_a] a ∧ Ro w L B5 [.slice a_b m_b c_b] b) [] (κ := Unit) (fun k => True) (fun k => .bool (decide (a = b))) (fun k => []) := by
 refine Tr.intro Tryz.func10 rfl (n := 27) rfl (by decide +kernel) bl (fr := [(0, .slice a_a m_a c_a), (1, .slice a_b m_b c_b)]) rfl fun w L hR => ?_
 obtain ⟨ha, hb⟩ := hR
 obtain ⟨rfl, la⟩ := ha.slen
 obtain ⟨rfl, lb⟩ := hb.slen
 refine Ew Z1 (Ei rfl (Eu (Eq_ (Ew Z5 (Em rfl (Ey rfl ((Y.len us_Accesss rfl).yd) (Em rfl (Ey rfl ((Y.len us_Accesss rfl).yd) (Ey rfl ((Y.neq rfl rfl).yd) (n0 (fun q10 => ?_) (fun q10 => ?_)))))))))))
 ·refine Eu (l4 rfl (Ew Z1 (Ei rfl ?_)))
  exact Eu (E.ret (l0 (Fb rfl rfl (by grind [d1, d2, t1, t2]))))
 ·refine Eu (l6 rfl (i8 (Et (Eq_ (Ew Z1 (Ei rfl (Eu (E.block (E.loop (κ := Nat) (fun g => g ≤ a.length ∧ a.length = b.length ∧ (a = b ↔ a.drop g = b.drop g)) (fun g => [(0, .slice a_a a.length c_a), (1, .slice a_b b.length c_b), (5, .int .i64 (g : Int))]) (fun g => []) (fun g => a.length - g) 0 ⟨Nat.zero_le _, by exact ⟨by omega, by simp⟩⟩ ⟨rfl, rfl, rfl, trivial⟩ (.refl _) (fun g pg => ?_))))))))))
  obtain ⟨pk, pa⟩ := pg
  refine Eq_ (Ew Z4 (Em rfl (Em rfl (Ey rfl ((Y.len us_Accesss rfl).yd) (Ey rfl ((Y.lss rfl rfl).yd) (n0 (fun q14 => ?_) (fun q14 => ?_)))))))
  ·refine Eu (l4 rfl (i8 (Et (Eq_ (E.block (Eq_ (D.region (fun j => true) mixed (Dyp 0 rfl (j4 rfl) (Dyp 1 rfl (j4 rfl) ?_)))))))))
   obtain ⟨eb19, eo19, ec19, ea19, er19, el19, eh19⟩ := ha.elem g om
   obtain ⟨xa19_0, xc19_0, rfl, ei19_0, xh19_0⟩ := N0 er19
   have := xh19_0.slen.2
   refine Dyp 2 rfl (o6 us_Accesss ty_Access rfl ea19 rfl g rfl om) (Dy 3 rfl (o0 (cs := [_, _]) ty_Access rfl (eh19 _) rfl) (Dyp 4 rfl (j4 rfl) (Dyp 5 rfl (j4 rfl) ?_)))
   obtain ⟨eb23, eo23, ec23, ea23, er23, el23, eh23⟩ := hb.elem g om
   obtain ⟨xa23_0, xc23_0, rfl, ei23_0, xh23_0⟩ := N0 er23
   have := xh23_0.slen.2
   refine Dyp 6 rfl (o6 us_Accesss ty_Access rfl ea23 rfl g rfl om) (Dy 7 rfl (o0 (cs := [_, _]) ty_Access rfl (eh23 _) rfl) (u7 8 rfl rfl kr (fun _ => rfl) (k6 a4r rfl rfl rfl dc (fun w Lp hA => ⟨ei19_0, hA.ro xh19_0, ei23_0, hA.ro xh23_0⟩)) (fun _ _ => (Ent.b (fun q25 => ?_) (fun q25 => ?_)))))
   ·refine Dyp 9 rfl (Y.not (b := true) rfl) (o3 kr (Et (l6 rfl (i8 (o4 (Et (Ez Z3 (Em rfl (Ey rfl ((Y.add rfl rfl om om).yd) (Ei rfl ?_))))))))))
    exact Eu (u9 br (g + 1) rs (.refl _) ⟨by omega, by grind [d1, d2, t1, t2]⟩ om)
   ·refine Dyp 9 rfl (Y.not (b := false) rfl) (o3 kr (Et (l4 rfl (Ew Z1 (Ei rfl ?_)))))
    exact Eu (E.ret (t7 (l0 (l0 (t7 (l0 (Fb rfl rfl (by grind [d1, d2, t1, t2]))))))))
  ·refine Eu (l6 rfl (E.exit (n8 (n8 (w5 (Et (Ew Z1 (Ei rfl ?_))))))))
   exact Eu (E.ret (Fb rfl rfl (by grind [d1, d2, t1, t2])))
end Go.Proofs.YtlfhopooaejpfaaGreat
