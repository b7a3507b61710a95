import Derived.Test.YthapcdhdfaibkaaGreatDoorT6
namespace Go.Proofs.YthapcdhdfaibkaaGreatDoor
open Go.RowKit
set_option linter.all false
set_option maxHeartbeats 2000000
attribute [local irreducible] Nop Yd Yp Ent Has Tr FnP FnP2 Src
variable {x l0 a4b q3 a3C : Int} {s1 s2 s6 f8 : List Int} {m_s1 c_s1 m_s2 c_s2 H5 E8 B6 y5 m_a c_a m_b c_b : Nat} {a_s1 a_s2 E9 y4 a_a a_b : Option Addr}
theorem a5e : TB Tryz.prog 337 [.int .i64 x] (fun w L => True) (false) := by
 refine Ti1 Tryz.func337 6 rfl fun w L hR => Ew Z1<|Ei rfl<|Ev Z4<|Em rfl<|Em rfl<|Ey rfl ((Y.neq rfl rfl).yd)<|Ei rfl<|Eu<|E.ret<|Fb rfl rfl (by simp)
theorem a3V {y : Int} : Tr Tryz.prog 266 [.int .i64 x, .int .i64 y] (fun w L => True) [] (κ := Unit) (fun k => True) (fun k => .int .i64 (V0 x y)) (fun k => []) := by
 refine Ti2 Tryz.func266 20 rfl fun w L hR => Ew Z1<|Ei rfl<|Ev Z3<|Em rfl<|E0 rfl a5e rfl (fun _ => trivial)<|Ei rfl<|Ev Z3<|Em rfl<|E0 rfl a5e rfl (fun _ => trivial)<|Ei rfl<|Eu<|Eq_<|Ew Z1<|Em rfl<|Eu<|Cf<|Eq_<|Ew Z1<|Em rfl<|Eu<|Cf<|Eq_<|Ew Z3<|Em rfl<|Em rfl<|Ylt rfl<|l3 (fun q16 => ?_)<|fun q16 => ?_
 ·refine Eu<|r6 rfl<|Ew Z1<|Ei rfl<|Eu<|E.ret<|i9<|Fg rfl rfl () (congrArg (Value.int .i64) (by grind [V0, d1, d2, t1, t2])) rfl
 ·refine Eu<|Cf<|Eq_<|Ew Z3<|Em rfl<|Em rfl<|Ey rfl ((Y.gtr rfl rfl).yd)<|l3 (fun q19 => ?_)<|fun q19 => ?_
  ·refine Eu<|r6 rfl<|Ew Z1<|Ei rfl<|Eu<|E.ret<|i9<|Fg rfl rfl () (congrArg (Value.int .i64) (by grind [V0, d1, d2, t1, t2])) rfl
  ·refine Eu<|Cf<|Ew Z1<|Ei rfl<|Eu<|E.ret<|Fg rfl rfl () (congrArg (Value.int .i64) (by grind [V0, d1, d2, t1, t2])) rfl
theorem b2o {a_vals : Option Addr} {m_vals c_vals : Nat} {vals : List Int} : Tr Tryz.prog 265 [.slice a_vals m_vals c_vals] (fun w L => Ro w L eIs [.slice a_vals m_vals c_vals] vals) [] (κ := Unit) (fun k => True) (fun k => .int .i64 (orI vals)) (fun k => []) := by
 refine Ti1 Tryz.func265 18 rfl fun w L hR => ?_
 have hvals := hR
 obtain ⟨rfl, lvals⟩ := hvals.slen
 refine Ew Z1<|Ei rfl<|Ev Z1<|Ei rfl<|Eu<|Eq_<|Ew Z3<|Em rfl<|Yln us_Is rfl<|Em rfl<|Eu<|E.block<|Lo (κ := Nat) (fun g => g ≤ vals.length ∧ orI vals = orI (vals.drop g)) (fun g => [(3, .int .i64 0), (6, .slice a_vals vals.length c_vals), (7, .int .i64 (↑vals.length : Int)), (8, .int .i64 (g : Int))]) (fun g => []) (fun g => vals.length - g) 0 ⟨Nat.zero_le _, by simp⟩<|fun g pg => ?_
 obtain ⟨pk, pa⟩ := pg
 refine Ew Z1<|Ylt rfl<|l3 (fun q9 => ?_)<|fun q9 => ?_
 ·obtain ⟨eb10, eo10, ea10, ei10, eh10⟩ := hvals.elemI g om
  refine Eu<|Eq_<|Ct<|Eq_<|E.block<|Ew Z3<|Il us_Is i7 rfl ea10 g rfl om rfl (eh10 _)<|Ei rfl<|Ev Z3<|Em rfl<|Em rfl<|Ey rfl ((Y.neq rfl rfl).yd)<|l3 (fun q14 => ?_)<|fun q14 => ?_
  ·refine Eu<|r6 rfl<|Ew Z2<|Em rfl<|Ei rfl<|Eu<|E.ret<|u6<|i9<|i9<|u6<|i9<|Fg rfl rfl () (congrArg (Value.int .i64) (by grind [orI, d1, d2, t1, t2])) rfl
  ·refine Eu<|r7 rfl<|v8<|o6<|Et<|Ez Z2<|Yad rfl om om<|Em rfl ?_
   exact Eu<|t7 br (g + 1) rs (.refl _) ⟨by omega, by grind [orI, d1, d2, t1, t2]⟩ om
 ·refine Eu<|Eq_<|r7 rfl<|E.exit<|l4<|l4<|w8<|Et<|Ew Z2<|Em rfl<|Ei rfl<|Eu<|E.ret<|Fg rfl rfl () (congrArg (Value.int .i64) (by grind [orI, d1, d2, t1, t2])) rfl
theorem a2e : Tr Tryz.prog 267 [.slice a_s1 m_s1 c_s1, .slice a_s2 m_s2 c_s2] (fun w L => Ro w L eIs [.slice a_s1 m_s1 c_s1] s1 ∧ Ro w L eIs [.slice a_s2 m_s2 c_s2] s2) [] (κ := Unit) (fun k => True) (fun k => .int .i64 (K5 s1 s2)) (fun k => []) := by
 refine Ti2 Tryz.func267 36 rfl fun w L hR => ?_
 obtain ⟨hs1, hs2⟩ := hR
 obtain ⟨rfl, ls1⟩ := hs1.slen
 obtain ⟨rfl, ls2⟩ := hs2.slen
 refine Ew Z1<|Ei rfl<|Eu<|Eq_<|Ew Z3<|Em rfl<|Yln us_Is rfl<|Em rfl<|Eu<|E.block<|Lo (κ := Nat) (fun g => g ≤ s1.length ∧ K5 s1 s2 = K5 (s1.drop g) (s2.drop g)) (fun g => [(0, .slice a_s1 s1.length c_s1), (1, .slice a_s2 s2.length c_s2), (9, .slice a_s1 s1.length c_s1), (10, .int .i64 (↑s1.length : Int)), (11, .int .i64 (g : Int))]) (fun g => []) (fun g => s1.length - g) 0 ⟨Nat.zero_le _, by simp⟩<|fun g pg => ?_
 obtain ⟨pk, pa⟩ := pg
 refine Ew Z1<|Ylt rfl<|l3 (fun q12 => ?_)<|fun q12 => ?_
 ·refine Eu<|Eq_<|Ct<|Eq_<|E.block<|Ew Z5<|Em rfl ?_
  obtain ⟨eb14, eo14, ea14, ei14, eh14⟩ := hs1.elemI g om
  refine Il us_Is i7 rfl ea14 g rfl om rfl (eh14 _)<|Ei rfl<|Ei rfl<|Eu<|Eq_<|Ew Z4<|Em rfl<|Em rfl<|Yln us_Is rfl<|Ey rfl ((Y.geq rfl rfl).yd)<|l3 (fun q19 => ?_)<|fun q19 => ?_
  ·refine Eu<|r6 rfl<|Ew Z1<|Ei rfl<|Eu<|E.ret<|i9<|u6<|i9<|i9<|u6<|i9<|Fg rfl rfl () (congrArg (Value.int .i64) (by grind [K5, d1, d2, t1, t2])) rfl
  ·refine Eu<|Cf<|Ew Z5<|Em rfl<|Em rfl ?_
   obtain ⟨eb22, eo22, ea22, ei22, eh22⟩ := hs2.elemI g om
   refine Il us_Is i7 rfl ea22 g rfl om rfl (eh22 _)<|Ei rfl<|Ev Z4<|Em rfl<|Em rfl<|E0 rfl a3V rfl (fun _ => trivial)<|Ei rfl<|Ev Z2<|Em rfl<|Ey rfl ((Y.neq rfl rfl).yd)<|l3 (fun q28 => ?_)<|fun q28 => ?_
   ·refine Eu<|r6 rfl<|Ew Z2<|Em rfl<|Ei rfl<|Eu<|E.ret<|u6<|i9<|i9<|u6<|i9<|Fg rfl rfl () (congrArg (Value.int .i64) (by grind [K5, d1, d2, t1, t2])) rfl
   ·refine Eu<|r7 rfl<|v8<|o6<|Et<|Ez Z2<|Yad rfl om om<|Em rfl ?_
    exact Eu<|t7 br (g + 1) rs (.refl _) ⟨by omega, by grind [K5, d1, d2, t1, t2]⟩ om
 ·refine Eu<|Eq_<|r7 rfl<|E.exit<|l4<|l4<|w8<|Et<|Eq_<|Ew Z5<|Em rfl<|Yln us_Is rfl<|Em rfl<|Yln us_Is rfl<|Ylt rfl<|l3 (fun q35 => ?_)<|fun q35 => ?_
  ·refine Eu<|r6 rfl<|Ew Z1<|Ei rfl<|Eu<|E.ret<|i9<|Fg rfl rfl () (congrArg (Value.int .i64) (by grind [K5, d1, d2, t1, t2])) rfl
  ·refine Eu<|Cf<|Ew Z1<|Ei rfl<|Eu<|E.ret<|Fg rfl rfl () (congrArg (Value.int .i64) (by grind [K5, d1, d2, t1, t2])) rfl
theorem a1Q : Tr Tryz.prog 163 [.agg #[.int .i64 l0, .slice E9 H5 E8], .agg #[.int .i64 a4b, .slice y4 B6 y5]] (fun w L => I64 l0 ∧ Ro w L eIs [.slice E9 H5 E8] s6 ∧ I64 a4b ∧ Ro w L eIs [.slice y4 B6 y5] f8) [] (κ := Unit) (fun k => True) (fun k => .int .i64 (T7 (l0, s6) (a4b, f8))) (fun k => []) := by
 refine Ti2 Tryz.func163 17 rfl fun w L hR => ?_
 obtain ⟨J4, G1, b9f, w9⟩ := hR
 obtain ⟨rfl, a0k⟩ := G1.slen
 obtain ⟨rfl, Q7⟩ := w9.slen
 refine Ew Z3<|Est rfl (N.box (cs := [_, _]) rfl dc rfl)<|fun b2 _ => Est rfl (N.box (cs := [_, _]) rfl dc rfl)<|fun b3 _ => Ei rfl<|Eu<|Eq_<|D.region (fun j => true) mixed<|Df 0 1 fo_Fact_0 i7 rfl (Hz (mS m0) 0 rfl)<|Df 2 3 fo_Fact_0 i7 rfl (Hz m0 0 rfl)<|Df 5 6 fo_Fact_1 ty_Is rfl (Hz (mS m0) 1 rfl)<|Df 7 8 fo_Fact_1 ty_Is rfl (Hz m0 1 rfl) ?_
 have j1 := @b2U l0 a4b
 refine D0 4 rfl a3V rfl (fun _ => trivial) ?_
 have j2 := @b2c s6 f8
 refine D0 9 rfl a2e rfl (fun hA => ⟨hA.ro G1, hA.ro w9⟩)<|E7 10 rfl rfl kr (fun _ => rfl) (Nb [_, _] [_, _] us_Is i7 rfl rfl)<|fun b15 _ => l6 (A := [_]) (Own.ints (e := tI) (xs := [V0 l0 a4b, K5 s6 f8]) rfl (by simp [maxLen]) (by simp only [List.forall_mem_cons]; exact ⟨i6, i6, List.forall_mem_nil _⟩)) rfl<|D0 11 rfl b2o rfl (fun hA => hA.ow m0)<|Dyp 12 rfl (G7 rfl)<|n9 kr<|Et<|E.ret<|Fg rfl rfl () (congrArg (Value.int .i64) (by grind [T7, orI, d1, d2, t1, t2])) rfl
theorem a0S : Tr Tryz.prog 102 [.agg #[.int .i64 l0, .slice E9 H5 E8], .agg #[.int .i64 a4b, .slice y4 B6 y5]] (fun w L => I64 l0 ∧ Ro w L eIs [.slice E9 H5 E8] s6 ∧ I64 a4b ∧ Ro w L eIs [.slice y4 B6 y5] f8) [] (κ := Unit) (fun k => True) (fun k => .int .i64 (T7 (l0, s6) (a4b, f8))) (fun k => []) := by
 refine Ti2 Tryz.func102 66 rfl fun w L hR => ?_
 obtain ⟨J4, G1, b9f, w9⟩ := hR
 obtain ⟨rfl, a0k⟩ := G1.slen
 obtain ⟨rfl, Q7⟩ := w9.slen
 refine Ew Z3<|Est rfl (N.box (cs := [_, _]) rfl dc rfl)<|fun b2 _ => Est rfl (N.box (cs := [_, _]) rfl dc rfl)<|fun b3 _ => Ei rfl<|Eu<|Eq_<|Ew Z5<|Lz fo_Fact_0 i7 rfl (mS m0) rfl<|Lz fo_Fact_0 i7 rfl m0 rfl<|Ey rfl ((Y.neq rfl rfl).yd)<|l3 (fun q10 => ?_)<|fun q10 => ?_
 ·refine Eu<|r6 rfl<|Eq_<|Ew Z5<|Lz fo_Fact_0 i7 rfl (mS m0) rfl<|Lz fo_Fact_0 i7 rfl m0 rfl<|Ylt rfl<|l3 (fun q15 => ?_)<|fun q15 => ?_
  ·refine Eu<|r6 rfl<|Ew Z1<|Ei rfl<|Eu<|E.ret<|i9<|i9<|Fg rfl rfl () (congrArg (Value.int .i64) (by grind [T7, V0, K5, d1, d2, t1, t2])) rfl
  ·refine Eu<|Cf<|Ew Z1<|Ei rfl<|Eu<|E.ret<|i9<|Fg rfl rfl () (congrArg (Value.int .i64) (by grind [T7, V0, K5, d1, d2, t1, t2])) rfl
 ·refine Eu<|Cf<|Eq_<|Ew Z1<|Ei rfl<|Eu<|E.block<|Lo (κ := Nat) (fun g => g ≤ s6.length ∧ g ≤ f8.length ∧ K5 s6 f8 = K5 (s6.drop g) (f8.drop g)) (fun g => [(2, .pointer<|some ⟨b2, 0, none⟩), (3, .pointer<|some ⟨b3, 0, none⟩), (5, .int .i64 (g : Int))]) (fun g => [pt b3 85 [.int .i64 a4b, .slice y4 f8.length y5], pt b2 85 [.int .i64 l0, .slice E9 s6.length E8]]) (fun g => s6.length - g) 0 ⟨Nat.zero_le _, by simp⟩<|fun g pg => ?_
  obtain ⟨pk, pa⟩ := pg
  refine Eq_<|Ew Z12<|Em rfl<|Lz fo_Fact_1 ty_Is rfl (mS m0) rfl<|Yln us_Is rfl<|Ylt rfl<|l3 (fun q20 => ?_)<|fun q20 => ?_
  ·refine Em rfl<|Em rfl<|Lz fo_Fact_1 ty_Is rfl m0 rfl<|Yln us_Is rfl<|Ylt rfl<|l3 (fun q26 => ?_)<|fun q26 => ?_
   ·refine Ypt rfl<|Eu<|Ct<|Eq_<|E.block<|Eq_<|Eq_<|D.region (fun j => true) mixed<|Df 0 1 fo_Fact_1 ty_Is rfl (Hz (mS m0) 1 rfl)<|Dm 2 rfl ?_
    obtain ⟨eb33, eo33, ea33, ei33, eh33⟩ := G1.elemI g om
    refine Dyp 3 rfl (z8 us_Is i7 rfl ea33 rfl g rfl om)<|Dy 4 rfl (B4 i7 rfl (eh33 _) rfl)<|Df 5 6 fo_Fact_1 ty_Is rfl (Hz m0 1 rfl)<|Dm 7 rfl ?_
    obtain ⟨eb38, eo38, ea38, ei38, eh38⟩ := w9.elemI g om
    refine Dyp 8 rfl (z8 us_Is i7 rfl ea38 rfl g rfl om)<|Dy 9 rfl (B4 i7 rfl (eh38 _) rfl)<|Dyp 10 rfl (Y.lss rfl rfl)<|l3 (fun q40 => ?_)<|fun q40 => ?_
    ·refine n9 kr<|Et<|r6 rfl<|Ew Z1<|Ei rfl<|Eu<|E.ret<|i9<|u6<|i9<|i9<|u6<|i9<|Fg rfl rfl () (congrArg (Value.int .i64) (by grind [T7, V0, K5, d1, d2, t1, t2])) rfl
    ·refine n9 kr<|Et<|Cf<|Eq_<|D.region (fun j => true) mixed<|Df 0 1 fo_Fact_1 ty_Is rfl (Hz (mS m0) 1 rfl)<|Dm 2 rfl<|Dyp 3 rfl (z8 us_Is i7 rfl ea33 rfl g rfl om)<|Dy 4 rfl (B4 i7 rfl (eh33 _) rfl)<|Df 5 6 fo_Fact_1 ty_Is rfl (Hz m0 1 rfl)<|Dm 7 rfl<|Dyp 8 rfl (z8 us_Is i7 rfl ea38 rfl g rfl om)<|Dy 9 rfl (B4 i7 rfl (eh38 _) rfl)<|Dyp 10 rfl (Y.gtr rfl rfl)<|l3 (fun q51 => ?_)<|fun q51 => ?_
     ·refine n9 kr<|Et<|r6 rfl<|Ew Z1<|Ei rfl<|Eu<|E.ret<|u6<|i9<|i9<|u6<|i9<|Fg rfl rfl () (congrArg (Value.int .i64) (by grind [T7, V0, K5, d1, d2, t1, t2])) rfl
     ·refine n9 kr<|Et<|r7 rfl<|v8<|o6<|Et<|Ez Z3<|Em rfl<|Yad rfl om om<|Ei rfl<|Eu<|f5<|f5 ?_
      exact t7 br (g + 1) rs (.refl _) ⟨by omega, by grind [K5, V0, d1, d2, t1, t2]⟩ om
   ·refine Ypt rfl<|Eu<|r7 rfl<|E.exit<|l4<|l4<|w8<|Et<|Eq_<|Ew Z7<|Lz fo_Fact_1 ty_Is rfl (mS m0) rfl<|Yln us_Is rfl<|Lz fo_Fact_1 ty_Is rfl m0 rfl<|Yln us_Is rfl<|Ylt rfl<|l3 (fun q58 => ?_)<|fun q58 => ?_
    ·refine Eu<|r6 rfl<|Ew Z1<|Ei rfl<|Eu<|E.ret<|i9<|Fg rfl rfl () (congrArg (Value.int .i64) (by grind [T7, V0, K5, d1, d2, t1, t2])) rfl
    ·refine Eu<|Cf<|Eq_<|Ew Z7<|Lz fo_Fact_1 ty_Is rfl (mS m0) rfl<|Yln us_Is rfl<|Lz fo_Fact_1 ty_Is rfl m0 rfl<|Yln us_Is rfl<|Ey rfl ((Y.gtr rfl rfl).yd)<|l3 (fun q65 => ?_)<|fun q65 => ?_
     ·refine Eu<|r6 rfl<|Ew Z1<|Ei rfl<|Eu<|E.ret<|i9<|Fg rfl rfl () (congrArg (Value.int .i64) (by grind [T7, V0, K5, d1, d2, t1, t2])) rfl
     ·refine Eu<|Cf<|Ew Z1<|Ei rfl<|Eu<|E.ret<|Fg rfl rfl () (congrArg (Value.int .i64) (by grind [T7, V0, K5, d1, d2, t1, t2])) rfl
  ·refine Em rfl<|Es rfl<|Es rfl<|Es rfl<|Es rfl<|Es rfl<|Ypf rfl<|Eu<|r7 rfl<|E.exit<|l4<|l4<|w8<|Et<|Eq_<|Ew Z7<|Lz fo_Fact_1 ty_Is rfl (mS m0) rfl<|Yln us_Is rfl<|Lz fo_Fact_1 ty_Is rfl m0 rfl<|Yln us_Is rfl<|Ylt rfl<|l3 (fun q58 => ?_)<|fun q58 => ?_
   ·refine Eu<|r6 rfl<|Ew Z1<|Ei rfl<|Eu<|E.ret<|i9<|Fg rfl rfl () (congrArg (Value.int .i64) (by grind [T7, V0, K5, d1, d2, t1, t2])) rfl
   ·refine Eu<|Cf<|Eq_<|Ew Z7<|Lz fo_Fact_1 ty_Is rfl (mS m0) rfl<|Yln us_Is rfl<|Lz fo_Fact_1 ty_Is rfl m0 rfl<|Yln us_Is rfl<|Ey rfl ((Y.gtr rfl rfl).yd)<|l3 (fun q65 => ?_)<|fun q65 => ?_
    ·refine Eu<|r6 rfl<|Ew Z1<|Ei rfl<|Eu<|E.ret<|i9<|Fg rfl rfl () (congrArg (Value.int .i64) (by grind [T7, V0, K5, d1, d2, t1, t2])) rfl
    ·refine Eu<|Cf<|Ew Z1<|Ei rfl<|Eu<|E.ret<|Fg rfl rfl () (congrArg (Value.int .i64) (by grind [T7, V0, K5, d1, d2, t1, t2])) rfl
theorem a2B : TB Tryz.prog 226 [.slice a_s1 m_s1 c_s1, .slice a_s2 m_s2 c_s2] (fun w L => Ro w L eIs [.slice a_s1 m_s1 c_s1] s1 ∧ Ro w L eIs [.slice a_s2 m_s2 c_s2] s2) (decide (s1 = s2)) := by
 refine Ti2 Tryz.func226 26 rfl fun w L hR => ?_
 obtain ⟨hs1, hs2⟩ := hR
 obtain ⟨rfl, ls1⟩ := hs1.slen
 obtain ⟨rfl, ls2⟩ := hs2.slen
 refine Ew Z1<|Ei rfl<|Eu<|Eq_<|Ew Z5<|Em rfl<|Yln us_Is rfl<|Em rfl<|Yln us_Is rfl<|Ey rfl ((Y.neq rfl rfl).yd)<|l3 (fun q10 => ?_)<|fun q10 => ?_
 ·refine Eu<|r6 rfl<|Ew Z1<|Ei rfl<|Eu<|E.ret<|i9<|Fb rfl rfl (by grind [d1, d2, t1, t2])
 ·refine Eu<|Cf<|Eq_<|Ew Z3<|Em rfl<|Yln us_Is rfl<|Em rfl<|Eu<|E.block<|Lo (κ := Nat) (fun g => g ≤ s1.length ∧ s1.length = s2.length ∧ (s1 = s2 ↔ s1.drop g = s2.drop g)) (fun g => [(0, .slice a_s1 s1.length c_s1), (1, .slice a_s2 s2.length c_s2), (12, .int .i64 (↑s1.length : Int)), (13, .int .i64 (g : Int))]) (fun g => []) (fun g => s1.length - g) 0 ⟨Nat.zero_le _, by exact ⟨by omega, by simp⟩⟩<|fun g pg => ?_
  obtain ⟨pk, pa⟩ := pg
  refine Ew Z1<|Ylt rfl<|l3 (fun q14 => ?_)<|fun q14 => ?_
  ·refine Eu<|Eq_<|Ct<|Eq_<|E.block<|Ew Z2<|Em rfl<|Ei rfl<|Eu<|Eq_<|D.region (fun j => true) mixed<|Dm 0 rfl<|Dm 1 rfl ?_
   obtain ⟨eb18, eo18, ea18, ei18, eh18⟩ := hs1.elemI g om
   refine Dyp 2 rfl (z8 us_Is i7 rfl ea18 rfl g rfl om)<|Dy 3 rfl (B4 i7 rfl (eh18 _) rfl)<|Dm 4 rfl<|Dm 5 rfl ?_
   obtain ⟨eb22, eo22, ea22, ei22, eh22⟩ := hs2.elemI g om
   refine Dyp 6 rfl (z8 us_Is i7 rfl ea22 rfl g rfl om)<|Dy 7 rfl (B4 i7 rfl (eh22 _) rfl)<|Dyp 8 rfl (Y.neq rfl rfl)<|l3 (fun q24 => ?_)<|fun q24 => ?_
   ·refine n9 kr<|Et<|r6 rfl<|Ew Z1<|Ei rfl<|Eu<|E.ret<|u6<|i9<|i9<|u6<|i9<|Fb rfl rfl (by grind [d1, d2, t1, t2])
   ·refine n9 kr<|Et<|r7 rfl<|v8<|o6<|Et<|Ez Z2<|Yad rfl om om<|Em rfl ?_
    exact Eu<|t7 br (g + 1) rs (.refl _) ⟨by omega, by grind [d1, d2, t1, t2]⟩ om
  ·refine Eu<|Eq_<|r7 rfl<|E.exit<|l4<|l4<|w8<|Et<|Ew Z1<|Ei rfl<|Eu<|E.ret<|Fb rfl rfl (by grind [d1, d2, t1, t2])
theorem a2E {a : List Int} {b : List Int} : TB Tryz.prog 93 [.slice a_a m_a c_a, .slice a_b m_b c_b] (fun w L => Ro w L eIs [.slice a_a m_a c_a] a ∧ Ro w L eIs [.slice a_b m_b c_b] b) (decide (a = b)) := by
 refine Ti2 Tryz.func93 26 rfl fun w L hR => ?_
 obtain ⟨ha, hb⟩ := hR
 obtain ⟨rfl, la⟩ := ha.slen
 obtain ⟨rfl, lb⟩ := hb.slen
 refine Ew Z1<|Ei rfl<|Eu<|Eq_<|Ew Z5<|Em rfl<|Yln us_Is rfl<|Em rfl<|Yln us_Is rfl<|Ey rfl ((Y.neq rfl rfl).yd)<|l3 (fun q10 => ?_)<|fun q10 => ?_
 ·refine Eu<|r6 rfl<|Ew Z1<|Ei rfl<|Eu<|E.ret<|i9<|Fb rfl rfl (by grind [d1, d2, t1, t2])
 ·refine Eu<|Cf<|Eq_<|Ew Z1<|Ei rfl<|Eu<|E.block<|Lo (κ := Nat) (fun g => g ≤ a.length ∧ a.length = b.length ∧ (a = b ↔ a.drop g = b.drop g)) (fun g => [(0, .slice a_a a.length c_a), (1, .slice a_b b.length c_b), (5, .int .i64 (g : Int))]) (fun g => []) (fun g => a.length - g) 0 ⟨Nat.zero_le _, by exact ⟨by omega, by simp⟩⟩<|fun g pg => ?_
  obtain ⟨pk, pa⟩ := pg
  refine Eq_<|Ew Z4<|Em rfl<|Em rfl<|Yln us_Is rfl<|Ylt rfl<|l3 (fun q14 => ?_)<|fun q14 => ?_
  ·refine Eu<|Ct<|Eq_<|E.block<|Eq_<|D.region (fun j => true) mixed<|Dm 0 rfl<|Dm 1 rfl ?_
   obtain ⟨eb19, eo19, ea19, ei19, eh19⟩ := ha.elemI g om
   refine Dyp 2 rfl (z8 us_Is i7 rfl ea19 rfl g rfl om)<|Dy 3 rfl (B4 i7 rfl (eh19 _) rfl)<|Dm 4 rfl<|Dm 5 rfl ?_
   obtain ⟨eb23, eo23, ea23, ei23, eh23⟩ := hb.elemI g om
   refine Dyp 6 rfl (z8 us_Is i7 rfl ea23 rfl g rfl om)<|Dy 7 rfl (B4 i7 rfl (eh23 _) rfl)<|Dyp 8 rfl (Y.neq rfl rfl)<|l3 (fun q25 => ?_)<|fun q25 => ?_
   ·refine n9 kr<|Et<|r6 rfl<|Ew Z1<|Ei rfl<|Eu<|E.ret<|u6<|i9<|i9<|u6<|i9<|Fb rfl rfl (by grind [d1, d2, t1, t2])
   ·refine n9 kr<|Et<|r7 rfl<|v8<|o6<|Et<|Ez Z3<|Em rfl<|Yad rfl om om<|Ei rfl ?_
    exact Eu<|t7 br (g + 1) rs (.refl _) ⟨by omega, by grind [d1, d2, t1, t2]⟩ om
  ·refine Eu<|r7 rfl<|E.exit<|l4<|l4<|w8<|Et<|Ew Z1<|Ei rfl<|Eu<|E.ret<|Fb rfl rfl (by grind [d1, d2, t1, t2])
theorem a8l : TB Tryz.prog 198 [.agg #[.int .i64 q3, .slice E9 H5 E8], .agg #[.int .i64 a3C, .slice y4 B6 y5]] (fun w L => (I64 q3 ∧ Ro w L eIs [.slice E9 H5 E8] s6 ∧ I64 a3C ∧ Ro w L eIs [.slice y4 B6 y5] f8) ∧ True) (decide ((q3, s6) = (a3C, f8))) := by
 refine Ti2 Tryz.func198 17 rfl fun w L hR => ?_
 obtain ⟨⟨R8, G1, b4W, w9⟩, _⟩ := hR
 obtain ⟨rfl, a0k⟩ := G1.slen
 obtain ⟨rfl, Q7⟩ := w9.slen
 refine Ew Z3<|Est rfl (N.box (cs := [_, _]) rfl dc rfl)<|fun b2 _ => Est rfl (N.box (cs := [_, _]) rfl dc rfl)<|fun b3 _ => Ei rfl<|Ev Z13<|Lz fo_Access_0 i7 rfl (mS m0) rfl<|Lz fo_Access_0 i7 rfl m0 rfl<|Yeq rfl<|l3 (fun q9 => ?_)<|fun q9 => ?_
 ·refine Em rfl<|Lz fo_Access_1 ty_Is rfl (mS m0) rfl<|Lz fo_Access_1 ty_Is rfl m0 rfl<|E0 rfl a2B rfl (fun hA => ⟨hA.ro G1, hA.ro w9⟩)<|Ypt rfl<|Ei rfl<|Eu<|E.ret<|Fb rfl rfl (by grind [d1, d2, t1, t2])
 ·refine Em rfl<|Es rfl<|Es rfl<|Es rfl<|Es rfl<|Es rfl<|Ypf rfl<|Ei rfl<|Eu<|E.ret<|Fb rfl rfl (by grind [d1, d2, t1, t2])
theorem a6M : TB Tryz.prog 94 [.agg #[.int .i64 q3, .slice E9 H5 E8], .agg #[.int .i64 a3C, .slice y4 B6 y5]] (fun w L => I64 q3 ∧ Ro w L eIs [.slice E9 H5 E8] s6 ∧ I64 a3C ∧ Ro w L eIs [.slice y4 B6 y5] f8) (decide ((q3, s6) = (a3C, f8))) := by
 refine Ti2 Tryz.func94 17 rfl fun w L hR => ?_
 obtain ⟨R8, G1, b4W, w9⟩ := hR
 obtain ⟨rfl, a0k⟩ := G1.slen
 obtain ⟨rfl, Q7⟩ := w9.slen
 refine Ew Z3<|Est rfl (N.box (cs := [_, _]) rfl dc rfl)<|fun b2 _ => Est rfl (N.box (cs := [_, _]) rfl dc rfl)<|fun b3 _ => Ei rfl<|Ev Z13<|Lz fo_Access_0 i7 rfl (mS m0) rfl<|Lz fo_Access_0 i7 rfl m0 rfl<|Yeq rfl<|l3 (fun q9 => ?_)<|fun q9 => ?_
 ·refine Em rfl<|Lz fo_Access_1 ty_Is rfl (mS m0) rfl<|Lz fo_Access_1 ty_Is rfl m0 rfl<|E0 rfl a2E rfl (fun hA => ⟨hA.ro G1, hA.ro w9⟩)<|Ypt rfl<|Ei rfl<|Eu<|E.ret<|Fb rfl rfl (by grind [d1, d2, t1, t2])
 ·refine Em rfl<|Es rfl<|Es rfl<|Es rfl<|Es rfl<|Es rfl<|Ypf rfl<|Ei rfl<|Eu<|E.ret<|Fb rfl rfl (by grind [d1, d2, t1, t2])
theorem a6V {a : List IL} {b : List IL} : TB Tryz.prog 12 [.slice a_a m_a c_a, .slice a_b m_b c_b] (fun w L => Ro w L z6 [.slice a_a m_a c_a] a ∧ Ro w L z6 [.slice a_b m_b c_b] b) (decide (a = b)) := by
 refine Ti2 Tryz.func12 27 rfl fun w L hR => ?_
 obtain ⟨ha, hb⟩ := hR
 obtain ⟨rfl, la⟩ := ha.slen
 obtain ⟨rfl, lb⟩ := hb.slen
 refine Ew Z1<|Ei rfl<|Eu<|Eq_<|Ew Z5<|Em rfl<|Yln us_Accesss rfl<|Em rfl<|Yln us_Accesss rfl<|Ey rfl ((Y.neq rfl rfl).yd)<|l3 (fun q10 => ?_)<|fun q10 => ?_
 ·refine Eu<|r6 rfl<|Ew Z1<|Ei rfl<|Eu<|E.ret<|i9<|Fb rfl rfl (by grind [d1, d2, t1, t2])
 ·refine Eu<|Cf<|Eq_<|Ew Z1<|Ei rfl<|Eu<|E.block<|Lo (κ := Nat) (fun g => g ≤ a.length ∧ a.length = b.length ∧ (a = b ↔ a.drop g = b.drop g)) (fun g => [(0, .slice a_a a.length c_a), (1, .slice a_b b.length c_b), (5, .int .i64 (g : Int))]) (fun g => []) (fun g => a.length - g) 0 ⟨Nat.zero_le _, by exact ⟨by omega, by simp⟩⟩<|fun g pg => ?_
  obtain ⟨pk, pa⟩ := pg
  refine Eq_<|Ew Z4<|Em rfl<|Em rfl<|Yln us_Accesss rfl<|Ylt rfl<|l3 (fun q14 => ?_)<|fun q14 => ?_
  ·refine Eu<|Ct<|Eq_<|E.block<|Eq_<|D.region (fun j => true) mixed<|Dm 0 rfl<|Dm 1 rfl ?_
   obtain ⟨eb19, eo19, ec19, ea19, er19, el19, eh19⟩ := ha.elem g om
   obtain ⟨xa19_0, xc19_0, rfl, ei19_0, xh19_0⟩ := X7 er19
   have := xh19_0.slen.2
   refine Dyp 2 rfl (z8 us_Accesss ty_Access rfl ea19 rfl g rfl om)<|Dy 3 rfl (k7 (cs := [_, _]) ty_Access rfl (eh19 _) rfl)<|Dm 4 rfl<|Dm 5 rfl ?_
   obtain ⟨eb23, eo23, ec23, ea23, er23, el23, eh23⟩ := hb.elem g om
   obtain ⟨xa23_0, xc23_0, rfl, ei23_0, xh23_0⟩ := X7 er23
   have := xh23_0.slen.2
   refine Dyp 6 rfl (z8 us_Accesss ty_Access rfl ea23 rfl g rfl om)<|Dy 7 rfl (k7 (cs := [_, _]) ty_Access rfl (eh23 _) rfl)<|D0 8 rfl a6M rfl (fun hA => ⟨ei19_0, hA.ro xh19_0, ei23_0, hA.ro xh23_0⟩)<|Ent.b (fun q25 => ?_)<|fun q25 => ?_
   ·refine Dyp 9 rfl (Y.not (b := true) rfl)<|n9 kr<|Et<|r7 rfl<|v8<|o6<|Et<|Ez Z3<|Em rfl<|Yad rfl om om<|Ei rfl ?_
    exact Eu<|t7 br (g + 1) rs (.refl _) ⟨by omega, by grind [d1, d2, t1, t2]⟩ om
   ·refine Dyp 9 rfl (Y.not (b := false) rfl)<|n9 kr<|Et<|r6 rfl<|Ew Z1<|Ei rfl<|Eu<|E.ret<|u6<|i9<|i9<|u6<|i9<|Fb rfl rfl (by grind [d1, d2, t1, t2])
  ·refine Eu<|r7 rfl<|E.exit<|l4<|l4<|w8<|Et<|Ew Z1<|Ei rfl<|Eu<|E.ret<|Fb rfl rfl (by grind [d1, d2, t1, t2])
end Go.Proofs.YthapcdhdfaibkaaGreatDoor
