import Derived.Test.YtdopeopehgdccaaGreatT1
namespace Go.Proofs.YtdopeopehgdccaaGreat
open Go.RowKit
set_option linter.all false
set_option maxHeartbeats 2000000
attribute [local irreducible] Nop Yd Yp Ent Has Tr FnP FnP2 Src
variable {l0 a1L a2x a1M left : Int} {a : List (Int × List Int × Int × Int × Int)} {a2b : List Int} {a0L a0M m_a c_a m_b c_b : Nat} {a0N a_a a_b : Option Addr}
theorem a9Q : Tr Tryz.prog 59 [.agg #[.int .i64 l0, .slice a0N a0L a0M, .int .i64 a1L, .int .i64 a2x, .int .i64 a1M], .int .i64 left] (fun w L => I64 l0 ∧ Ro w L eIs [.slice a0N a0L a0M] a2b ∧ I64 a1L ∧ I64 a2x ∧ I64 a1M ∧ 0 ≤ left ∧ left ≤ 1048576) [] (κ := Unit) (fun k => True) (fun k => .int .i64 (szR (a2b.length) left)) (fun k => []) := by
 refine n9 Tryz.func59 rfl (n := 12) rfl (by decide +kernel) bl (fr := [(0, .agg #[.int .i64 l0, .slice a0N a0L a0M, .int .i64 a1L, .int .i64 a2x, .int .i64 a1M]), (1, .int .i64 left)]) rfl fun w L hR => ?_
 obtain ⟨G5, a1U, b1v, b3p, b1w, as0, as1⟩ := hR
 obtain ⟨rfl, b1x⟩ := a1U.slen
 refine Ew Z2 (Est rfl (N.box (cs := [_, _, _, _, _]) rfl dc rfl) (fun b2 _ => (Ei rfl (Ev Z5 (Ey rfl ((j7 fo_lMethod_1 ty_Is dc rfl).yd) (Ey rfl (g9 ty_Is rfl (Hz m0 1 rfl) rfl) (Em rfl (Est rfl (n0 a2R rfl rfl rfl dc (fun w Lp hA => ⟨hA.ro a1U, (by first | assumption | omega), (by first | assumption | omega)⟩)) (fun _ _ => (Ei rfl (Eu (Eq_ (Ew Z2 (Em rfl (Ey rfl ((Y.lss rfl rfl).yd) (o6 (fun q10 => ?_) (fun q10 => ?_)))))))))))))))))
 ·have z10 := a0X q10 om
  refine Eu (o2 rfl (Ew Z1 (Ei rfl ?_)))
  exact Eu (E.ret (l4 (Fg rfl rfl () (congrArg (Value.int .i64) (by unfold szR; split <;> omega)) rfl)))
 ·obtain ⟨z10, y10⟩ := a1I q10 om
  refine Eu (o3 rfl (j5 (Et (Ew Z2 (Em rfl (Ei rfl ?_))))))
  exact Eu (E.ret (Fg rfl rfl () (congrArg (Value.int .i64) (by have e : szR (a2b.length) left = left - ((a2b.length : Nat) : Int) := by { unfold szR; split <;> omega }; omega)) rfl))
theorem a9C (h1 : a2b.length ≤ 1048576) : Tr Tryz.prog 69 [.agg #[.int .i64 l0, .slice a0N a0L a0M, .int .i64 a1L, .int .i64 a2x, .int .i64 a1M]] (fun w L => I64 l0 ∧ Ro w L eIs [.slice a0N a0L a0M] a2b ∧ I64 a1L ∧ I64 a2x ∧ I64 a1M) [] (κ := Option Addr × Nat × Nat) (fun k => True) (fun k => .agg #[.int .i64 l0, .slice k.1 k.2.1 k.2.2, .int .i64 a1L, .int .i64 a2x, .int .i64 a1M]) (fun k => [ow eIs [.slice k.1 k.2.1 k.2.2] a2b]) := by
 refine n9 Tryz.func69 rfl (n := 21) rfl (by decide +kernel) bl (fr := [(0, .agg #[.int .i64 l0, .slice a0N a0L a0M, .int .i64 a1L, .int .i64 a2x, .int .i64 a1M])]) rfl fun w L hR => ?_
 obtain ⟨G5, a1U, b1v, b3p, b1w⟩ := hR
 obtain ⟨rfl, b1x⟩ := a1U.slen
 refine Ew Z2 (Est rfl (N.box (cs := [_, _, _, _, _]) rfl dc rfl) (fun b1 _ => (Est rfl (N.alloc ty_Method dc) (fun b2 _ => (Ev Z1 (Est rfl (N.alloc ty_Method dc) (fun b3 _ => (Ev Z4 (Ey rfl ((j7 fo_lMethod_0 i8 dc rfl).yd) (Ey rfl (g9 i8 rfl (Hz (mS (mS m0)) 0 rfl) rfl) (Ey rfl ((j7 fo_Method_0 i8 dc rfl).yd) (Est rfl (Ns [_, _, _, _, _] i8 rfl) (fun _ _ => (Ev Z5 (Ey rfl ((j7 fo_lMethod_1 ty_Is dc rfl).yd) (Ey rfl (g9 ty_Is rfl (Hz (mS (mS m0)) 1 rfl) rfl) (Est rfl (N.call (Y3 fc) rfl rfl rfl dc rfl (fun w Lp hA => hA.ro a1U)) (fun k9 _ => ?_))))))))))))))))))
 obtain ⟨a9, m9, c9⟩ := k9
 refine i9 m0 fun e9 l9 => ?_
 subst e9
 refine Ey rfl ((j7 fo_Method_1 ty_Is dc rfl).yd) (i7 (Est rfl (Ns [_, _, _, _, _] ty_Is rfl) (fun _ _ => (Ev Z4 (Ey rfl ((j7 fo_lMethod_2 i8 dc rfl).yd) (Ey rfl (g9 i8 rfl (Hz (mS (mS (mS m0))) 2 rfl) rfl) (Ey rfl ((j7 fo_Method_2 i8 dc rfl).yd) (Est rfl (Ns [_, _, _, _, _] i8 rfl) (fun _ _ => (Ev Z4 (Ey rfl ((j7 fo_lMethod_3 i8 dc rfl).yd) (Ey rfl (g9 i8 rfl (Hz (mS (mS (mS m0))) 3 rfl) rfl) (Ey rfl ((j7 fo_Method_3 i8 dc rfl).yd) (Est rfl (Ns [_, _, _, _, _] i8 rfl) (fun _ _ => (Ev Z4 (Ey rfl ((j7 fo_lMethod_4 i8 dc rfl).yd) (Ey rfl (g9 i8 rfl (Hz (mS (mS (mS m0))) 4 rfl) rfl) (Ey rfl ((j7 fo_Method_4 i8 dc rfl).yd) (Est rfl (Ns [_, _, _, _, _] i8 rfl) (fun _ _ => (Ev Z2 (Ey rfl (o9 (cs := [_, _, _, _, _]) ty_Method rfl (Has.pt m0) rfl) (r5 (Est rfl (Ns [_, _, _, _, _] ty_Method rfl) (fun _ _ => (Eu (E.ret (r5 ?_)))))))))))))))))))))))))))))
 exact a2k br rfl rfl (mS m0) ty_Method rfl (_, _, _) trivial rfl (J := _) (.refl _) (.inl rfl)
theorem a9u {U9 : Int} {a6A : Option Addr} {a6B a6C : Nat} {b3q : List Int} {a7V : Int} {b0b : Int} {a7W : Int} : Tr Tryz.prog 78 [.agg #[.int .i64 l0, .slice a0N a0L a0M, .int .i64 a1L, .int .i64 a2x, .int .i64 a1M], .agg #[.int .i64 U9, .slice a6A a6B a6C, .int .i64 a7V, .int .i64 b0b, .int .i64 a7W]] (fun w L => I64 l0 ∧ Ro w L eIs [.slice a0N a0L a0M] a2b ∧ I64 a1L ∧ I64 a2x ∧ I64 a1M ∧ I64 U9 ∧ Ro w L eIs [.slice a6A a6B a6C] b3q ∧ I64 a7V ∧ I64 b0b ∧ I64 a7W) [] (κ := Unit) (fun k => True) (fun k => .bool (decide ((l0, a2b, a1L, a2x, a1M) = (U9, b3q, a7V, b0b, a7W)))) (fun k => []) := by
 refine n9 Tryz.func78 rfl (n := 31) rfl (by decide +kernel) bl (fr := [(0, .agg #[.int .i64 l0, .slice a0N a0L a0M, .int .i64 a1L, .int .i64 a2x, .int .i64 a1M]), (1, .agg #[.int .i64 U9, .slice a6A a6B a6C, .int .i64 a7V, .int .i64 b0b, .int .i64 a7W])]) rfl fun w L hR => ?_
 obtain ⟨G5, a1U, b1v, b3p, b1w, a7X, b1y, b9Y, c0D, b9Z⟩ := hR
 obtain ⟨rfl, b1x⟩ := a1U.slen
 obtain ⟨rfl, c0a⟩ := b1y.slen
 refine Ew Z3 (Est rfl (N.box (cs := [_, _, _, _, _]) rfl dc rfl) (fun b2 _ => (Est rfl (N.box (cs := [_, _, _, _, _]) rfl dc rfl) (fun b3 _ => (Ei rfl (Eu (Eq_ (Ew Z5 (Ey rfl ((j7 fo_Method_0 i8 dc rfl).yd) (Ey rfl (g9 i8 rfl (Hz (mS m0) 0 rfl) rfl) (Ey rfl ((j7 fo_Method_0 i8 dc rfl).yd) (Ey rfl (g9 i8 rfl (Hz m0 0 rfl) rfl) (Ey rfl ((Y.neq rfl rfl).yd) (o6 (fun q9 => ?_) (fun q9 => ?_)))))))))))))))
 ·refine Eu (o2 rfl (Ew Z1 (Ei rfl ?_)))
  exact Eu (E.ret (l4 (Fb rfl rfl (by simp_all))))
 ·refine Eu (o3 rfl (j5 (Et (Eq_ (Ew Z6 (Ey rfl ((j7 fo_Method_1 ty_Is dc rfl).yd) (Ey rfl (g9 ty_Is rfl (Hz (mS m0) 1 rfl) rfl) (Ey rfl ((j7 fo_Method_1 ty_Is dc rfl).yd) (Ey rfl (g9 ty_Is rfl (Hz m0 1 rfl) rfl) (Est rfl (n0 a0z rfl rfl rfl dc (fun w Lp hA => ⟨hA.ro a1U, hA.ro b1y⟩)) (fun _ _ => (Ent.b (fun q14 => ?_) (fun q14 => ?_)))))))))))))
  ·refine Ey rfl ((Y.not (b := true) rfl).yd) (Eu (o3 rfl (j5 (Et (Eq_ (Ew Z5 (Ey rfl ((j7 fo_Method_2 i8 dc rfl).yd) (Ey rfl (g9 i8 rfl (Hz (mS m0) 2 rfl) rfl) (Ey rfl ((j7 fo_Method_2 i8 dc rfl).yd) (Ey rfl (g9 i8 rfl (Hz m0 2 rfl) rfl) (Ey rfl ((Y.neq rfl rfl).yd) (o6 (fun q20 => ?_) (fun q20 => ?_)))))))))))))
   ·refine Eu (o2 rfl (Ew Z1 (Ei rfl ?_)))
    exact Eu (E.ret (l4 (Fb rfl rfl (by simp_all))))
   ·refine Eu (o3 rfl (j5 (Et (Eq_ (Ew Z5 (Ey rfl ((j7 fo_Method_3 i8 dc rfl).yd) (Ey rfl (g9 i8 rfl (Hz (mS m0) 3 rfl) rfl) (Ey rfl ((j7 fo_Method_3 i8 dc rfl).yd) (Ey rfl (g9 i8 rfl (Hz m0 3 rfl) rfl) (Ey rfl ((Y.neq rfl rfl).yd) (o6 (fun q25 => ?_) (fun q25 => ?_))))))))))))
    ·refine Eu (o2 rfl (Ew Z1 (Ei rfl ?_)))
     exact Eu (E.ret (l4 (Fb rfl rfl (by simp_all))))
    ·refine Eu (o3 rfl (j5 (Et (Eq_ (Ew Z5 (Ey rfl ((j7 fo_Method_4 i8 dc rfl).yd) (Ey rfl (g9 i8 rfl (Hz (mS m0) 4 rfl) rfl) (Ey rfl ((j7 fo_Method_4 i8 dc rfl).yd) (Ey rfl (g9 i8 rfl (Hz m0 4 rfl) rfl) (Ey rfl ((Y.neq rfl rfl).yd) (o6 (fun q30 => ?_) (fun q30 => ?_))))))))))))
     ·refine Eu (o2 rfl (Ew Z1 (Ei rfl ?_)))
      exact Eu (E.ret (l4 (Fb rfl rfl (by simp_all))))
     ·refine Eu (o3 rfl (j5 (Et (Ew Z1 (Ei rfl ?_)))))
      exact Eu (E.ret (Fb rfl rfl (by simp_all)))
  ·refine Ey rfl ((Y.not (b := false) rfl).yd) (Eu (o2 rfl (Ew Z1 (Ei rfl ?_))))
   exact Eu (E.ret (l4 (Fb rfl rfl (by simp_all))))
theorem a9W {o4 : Int} {w9 : Option Addr} {y4 w8 : Nat} {r6 : List Int} {a0f : Int} {s4 : Option Addr} {u5 s5 : Nat} {f8 : List Int} : Tr Tryz.prog 129 [.agg #[.int .i64 o4, .slice w9 y4 w8], .agg #[.int .i64 a0f, .slice s4 u5 s5]] (fun w L => I64 o4 ∧ Ro w L eIs [.slice w9 y4 w8] r6 ∧ I64 a0f ∧ Ro w L eIs [.slice s4 u5 s5] f8) [] (κ := Unit) (fun k => True) (fun k => .bool (decide ((o4, r6) = (a0f, f8)))) (fun k => []) := by
 refine n9 Tryz.func129 rfl (n := 16) rfl (by decide +kernel) bl (fr := [(0, .agg #[.int .i64 o4, .slice w9 y4 w8]), (1, .agg #[.int .i64 a0f, .slice s4 u5 s5])]) rfl fun w L hR => ?_
 obtain ⟨O0, B6, b0c, w4⟩ := hR
 obtain ⟨rfl, R9⟩ := B6.slen
 obtain ⟨rfl, O3⟩ := w4.slen
 refine Ew Z3 (Est rfl (N.box (cs := [_, _]) rfl dc rfl) (fun b2 _ => (Est rfl (N.box (cs := [_, _]) rfl dc rfl) (fun b3 _ => (Ei rfl (Eu (Eq_ (Ew Z5 (Ey rfl ((j7 fo_Access_0 i8 dc rfl).yd) (Ey rfl (g9 i8 rfl (Hz (mS m0) 0 rfl) rfl) (Ey rfl ((j7 fo_Access_0 i8 dc rfl).yd) (Ey rfl (g9 i8 rfl (Hz m0 0 rfl) rfl) (Ey rfl ((Y.neq rfl rfl).yd) (o6 (fun q9 => ?_) (fun q9 => ?_)))))))))))))))
 ·refine Eu (o2 rfl (Ew Z1 (Ei rfl ?_)))
  exact Eu (E.ret (l4 (Fb rfl rfl (by simp_all))))
 ·refine Eu (o3 rfl (j5 (Et (Eq_ (Ew Z6 (Ey rfl ((j7 fo_Access_1 ty_Is dc rfl).yd) (Ey rfl (g9 ty_Is rfl (Hz (mS m0) 1 rfl) rfl) (Ey rfl ((j7 fo_Access_1 ty_Is dc rfl).yd) (Ey rfl (g9 ty_Is rfl (Hz m0 1 rfl) rfl) (Est rfl (n0 a0z rfl rfl rfl dc (fun w Lp hA => ⟨hA.ro B6, hA.ro w4⟩)) (fun _ _ => (Ent.b (fun q14 => ?_) (fun q14 => ?_)))))))))))))
  ·refine Ey rfl ((Y.not (b := true) rfl).yd) (Eu (o3 rfl (j5 (Et (Ew Z1 (Ei rfl ?_))))))
   exact Eu (E.ret (Fb rfl rfl (by simp_all)))
  ·refine Ey rfl ((Y.not (b := false) rfl).yd) (Eu (o2 rfl (Ew Z1 (Ei rfl ?_))))
   exact Eu (E.ret (l4 (Fb rfl rfl (by simp_all))))
theorem a8y : Tr Tryz.prog 8 [.slice a_a m_a c_a, .int .i64 left] (fun w L => Ro w L E6 [.slice a_a m_a c_a] a ∧ 0 ≤ left ∧ left ≤ 1048576) [] (κ := Unit) (fun k => True) (fun k => .int .i64 (szR (I9 (fun x => x.2.1.length) a) left)) (fun k => []) := by
 refine n9 Tryz.func8 rfl (n := 27) rfl (by decide +kernel) bl (fr := [(0, .slice a_a m_a c_a), (1, .int .i64 left)]) rfl fun w L hR => ?_
 obtain ⟨ha, as0, as1⟩ := hR
 obtain ⟨rfl, la⟩ := ha.slen
 refine Ew Z1 (Ei rfl (Ev Z5 (Em rfl (Em rfl (Ey rfl ((Y.len us_lMethods rfl).yd) (Ey rfl ((Y.sub rfl rfl om om).yd) (Ei rfl (Eu (Eq_ (Ew Z2 (Em rfl (Ey rfl ((Y.lss rfl rfl).yd) (o6 (fun q11 => ?_) (fun q11 => ?_))))))))))))))
 ·refine Eu (o2 rfl (Ew Z1 (Ei rfl ?_)))
  exact Eu (E.ret (l4 (Fg rfl rfl () (congrArg (Value.int .i64) (by exact b0h q11)) rfl)))
 ·refine Eu (o3 rfl (j5 (Et (Eq_ (Ew Z1 (Ei rfl (Eu (E.block (E.loop (κ := Nat) (fun g => g ≤ a.length ∧ (a.length : Int) + (r9 (fun x => x.2.1.length) (a.take g) : Nat) ≤ left) (fun g => [(0, .slice a_a a.length c_a), (1, .int .i64 (left - ((a.length : Int) + (r9 (fun x => x.2.1.length) (a.take g) : Nat)))), (5, .int .i64 (g : Int))]) (fun g => []) (fun g => a.length - g) 0 ⟨by omega, by simp [r9]; omega⟩ ⟨rfl, frI (by simp [r9]), rfl, trivial⟩ (.refl _) (fun g pg => ?_))))))))))
  obtain ⟨pk, pa⟩ := pg
  refine Eq_ (Ew Z4 (Em rfl (Em rfl (Ey rfl ((Y.len us_lMethods rfl).yd) (Ey rfl ((Y.lss rfl rfl).yd) (o6 (fun q15 => ?_) (fun q15 => ?_)))))))
  ·refine Eu (o2 rfl (j5 (Et (Eq_ (E.block (Ew Z7 (Em rfl (Em rfl ?_))))))))
   obtain ⟨eb20, eo20, ec20, ea20, er20, el20, eh20⟩ := ha.elem g om
   obtain ⟨xa20_0, xc20_0, rfl, ei20_0, xh20_0, ei20_2, ei20_3, ei20_4⟩ := J5 er20
   have := xh20_0.slen.2
   refine Ey rfl ((r7 us_lMethods ty_lMethod rfl ea20 rfl g rfl om).yd) (Ey rfl (o9 (cs := [_, _, _, _, _]) ty_lMethod rfl (eh20 _) rfl) (Em rfl (Est rfl (n0 a9Q rfl rfl rfl dc (fun w Lp hA => ⟨ei20_0, hA.ro xh20_0, ei20_2, ei20_3, ei20_4, (by first | assumption | omega), (by first | assumption | omega)⟩)) (fun _ _ => (Ei rfl (Ev Z2 (Em rfl (Ey rfl ((Y.lss rfl rfl).yd) (o6 (fun q25 => ?_) (fun q25 => ?_))))))))))
   ·have z25 := a0X q25 om
    refine Eu (o2 rfl (Ew Z1 (Ei rfl ?_)))
    exact Eu (E.ret (w5 (l4 (l4 (w5 (l4 (Fg rfl rfl () (congrArg (Value.int .i64) (by exact b0B (t := (fun x => x.2.1.length)) (n := a[g].2.1.length) (show g < a.length by omega) rfl om)) rfl)))))))
   ·obtain ⟨z25, y25⟩ := a1I q25 om
    refine Eu (o3 rfl (j5 (t7 (Et (Ez Z3 (Em rfl (Ey rfl ((Y.add rfl rfl om om).yd) (Ei rfl ?_))))))))
    exact Eu (v8 br (g + 1) ⟨rfl, frI (by rw [z25]; have y := P7 (t := (fun x => x.2.1.length)) (show g < a.length by omega); omega), rfl, trivial⟩ (.refl _) ⟨by omega, by have y := P7 (t := (fun x => x.2.1.length)) (show g < a.length by omega); omega⟩ om)
  ·refine Eu (o3 rfl (E.exit (o8 (o8 (x9 (Et (Ew Z2 (Em rfl (Ei rfl ?_)))))))))
   exact Eu (E.ret (Fg rfl rfl () (congrArg (Value.int .i64) (by exact b0s (t := (fun x => x.2.1.length)) (show a.length ≤ g by omega) pa)) rfl))
theorem a2a (hz : I9 (fun x => x.2.1.length) a ≤ 1048576) : Tr Tryz.prog 13 [.slice a_a m_a c_a] (fun w L => Ro w L E6 [.slice a_a m_a c_a] a) [] (κ := Option Addr × Nat × Nat) (fun k => True) (fun k => .slice k.1 k.2.1 k.2.2) (fun k => [ow E6 [.slice k.1 k.2.1 k.2.2] a]) := by
 refine n9 Tryz.func13 rfl (n := 23) rfl (by decide +kernel) bl (fr := [(0, .slice a_a m_a c_a)]) rfl fun w L hR => ?_
 have ha := hR
 obtain ⟨rfl, la⟩ := ha.slen
 have hlen : a.length ≤ I9 (fun x => x.2.1.length) a := by unfold I9; omega
 refine Ew Z1 (Ei rfl (Ev Z4 (Em rfl (Ey rfl ((Y.len us_lMethods rfl).yd) (Est rfl (a7K (m := a.length) us_Methods ty_Method rfl rfl rfl mx om dc) (fun b7 _ => (s3 (A := [_]) (a4O (E := W1) (e := tMethod) (zx := (0, [], 0, 0, 0)) (a4Q (x := (0, [], 0, 0, 0)) ⟨by decide, by decide⟩ Own.nil ⟨by decide, by decide⟩ ⟨by decide, by decide⟩ ⟨by decide, by decide⟩) mx) rfl (Ei rfl (Eu (Eq_ (Ew Z1 (Ei rfl (Eu (E.block (E.loop (κ := Nat) (fun g => g ≤ a.length) (fun g => [(0, .slice a_a a.length c_a), (3, .slice (some ⟨b7, 0, none⟩) a.length a.length), (4, .int .i64 (g : Int))]) (fun g => [ow E6 [.slice (some ⟨b7, 0, none⟩) a.length a.length] (a.take g ++ List.replicate (a.length - g) (0, [], 0, 0, 0))]) (fun g => a.length - g) 0 (Nat.zero_le _) ⟨rfl, rfl, rfl, trivial⟩ (by simp) (fun g pg => (Eq_ (Ew Z4 (Em rfl (Em rfl (Ey rfl ((Y.len us_lMethods rfl).yd) (Ey rfl ((Y.lss rfl rfl).yd) (o6 (fun q11 => ?_) (fun q11 => ?_))))))))))))))))))))))))
 ·refine Eu (o2 rfl (j5 (Et (Eq_ (E.block (Ez Z9 (Em rfl (Em rfl (Em rfl (Em rfl ?_))))))))))
  obtain ⟨eb18, eo18, ec18, ea18, er18, el18, eh18⟩ := ha.elem g om
  obtain ⟨xa18_0, xc18_0, rfl, ei18_0, xh18_0, ei18_2, ei18_3, ei18_4⟩ := J5 er18
  have := xh18_0.slen.2
  refine Ey rfl ((r7 us_lMethods ty_lMethod rfl ea18 rfl g rfl om).yd) (Ey rfl (o9 (cs := [_, _, _, _, _]) ty_lMethod rfl (eh18 _) rfl) (Est rfl (N.call (a9C (by have y := a8Q (t := (fun x => x.2.1.length)) (l := a) (g := g) om; omega)) rfl rfl rfl dc rfl (fun w Lp hA => ⟨ei18_0, hA.ro xh18_0, ei18_2, ei18_3, ei18_4⟩)) (fun k20 _ => ?_)))
  obtain ⟨a20, m20, c20⟩ := k20
  refine i9 m0 fun e20 l20 => ?_
  subst e20
  refine Ey rfl ((r7 us_Methods ty_Method rfl rfl rfl g rfl om).yd) (i7 (Est rfl (N.set (E := W1) (j := g) (ex := a[g]) (ce := [_, _, _, _, _]) ty_Method rfl rfl rfl rfl (a4Q (x := a[g]) ei18_0 Own.ow ei18_2 ei18_3 ei18_4) rfl (Nat.zero_add _) rfl (by simp; omega)) (fun _ _ => (En (t7 (Et (Ez Z3 (Em rfl (Ey rfl ((Y.add rfl rfl om om).yd) (Ei rfl ?_))))))))))
  exact Eu (v8 br (g + 1) rs (by rw [a6g om rfl]) om om)
 ·refine Eu (o3 rfl (E.exit (o8 (o8 (x9 (Et (Ew Z2 (Em rfl (Ei rfl (Eu (E.ret (j6 (congrArg (ow E6 [_]) (show _ = a by exact a4L om)) ?_))))))))))))
  exact Fg rfl rfl (_, _, _) rfl rfl
theorem a8Y {b : List (Int × List Int × Int × Int × Int)} : Tr Tryz.prog 19 [.slice a_a m_a c_a, .slice a_b m_b c_b] (fun w L => Ro w L E6 [.slice a_a m_a c_a] a ∧ Ro w L E6 [.slice a_b m_b c_b] b) [] (κ := Unit) (fun k => True) (fun k => .bool (decide (a = b))) (fun k => []) := by
 refine n9 Tryz.func19 rfl (n := 27) rfl (by decide +kernel) bl (fr := [(0, .slice a_a m_a c_a), (1, .slice a_b m_b c_b)]) rfl fun w L hR => ?_
 obtain ⟨ha, hb⟩ := hR
 obtain ⟨rfl, la⟩ := ha.slen
 obtain ⟨rfl, lb⟩ := hb.slen
 refine Ew Z1 (Ei rfl (Eu (Eq_ (Ew Z5 (Em rfl (Ey rfl ((Y.len us_Methods rfl).yd) (Em rfl (Ey rfl ((Y.len us_Methods rfl).yd) (Ey rfl ((Y.neq rfl rfl).yd) (o6 (fun q10 => ?_) (fun q10 => ?_)))))))))))
 ·refine Eu (o2 rfl (Ew Z1 (Ei rfl ?_)))
  exact Eu (E.ret (l4 (Fb rfl rfl (by exact a3l q10))))
 ·refine Eu (o3 rfl (j5 (Et (Eq_ (Ew Z1 (Ei rfl (Eu (E.block (E.loop (κ := Nat) (fun g => g ≤ a.length ∧ a.take g = b.take g) (fun g => [(0, .slice a_a a.length c_a), (1, .slice a_b b.length c_b), (5, .int .i64 (g : Int))]) (fun g => []) (fun g => a.length - g) 0 ⟨by omega, by simp⟩ ⟨rfl, rfl, rfl, trivial⟩ (.refl _) (fun g pg => ?_))))))))))
  obtain ⟨pk, pa⟩ := pg
  refine Eq_ (Ew Z4 (Em rfl (Em rfl (Ey rfl ((Y.len us_Methods rfl).yd) (Ey rfl ((Y.lss rfl rfl).yd) (o6 (fun q14 => ?_) (fun q14 => ?_)))))))
  ·refine Eu (o2 rfl (j5 (Et (Eq_ (E.block (Eq_ (D.region (fun j => true) mixed (Dyp 0 rfl (l3 rfl) (Dyp 1 rfl (l3 rfl) ?_)))))))))
   obtain ⟨eb19, eo19, ec19, ea19, er19, el19, eh19⟩ := ha.elem g om
   obtain ⟨xa19_0, xc19_0, rfl, ei19_0, xh19_0, ei19_2, ei19_3, ei19_4⟩ := J5 er19
   have := xh19_0.slen.2
   refine Dyp 2 rfl (r7 us_Methods ty_Method rfl ea19 rfl g rfl om) (Dy 3 rfl (o9 (cs := [_, _, _, _, _]) ty_Method rfl (eh19 _) rfl) (Dyp 4 rfl (l3 rfl) (Dyp 5 rfl (l3 rfl) ?_)))
   obtain ⟨eb23, eo23, ec23, ea23, er23, el23, eh23⟩ := hb.elem g om
   obtain ⟨xa23_0, xc23_0, rfl, ei23_0, xh23_0, ei23_2, ei23_3, ei23_4⟩ := J5 er23
   have := xh23_0.slen.2
   refine Dyp 6 rfl (r7 us_Methods ty_Method rfl ea23 rfl g rfl om) (Dy 7 rfl (o9 (cs := [_, _, _, _, _]) ty_Method rfl (eh23 _) rfl) (t8 8 rfl rfl kr (fun _ => rfl) (n0 a9u rfl rfl rfl dc (fun w Lp hA => ⟨ei19_0, hA.ro xh19_0, ei19_2, ei19_3, ei19_4, ei23_0, hA.ro xh23_0, ei23_2, ei23_3, ei23_4⟩)) (fun _ _ => (Ent.b (fun q25 => ?_) (fun q25 => ?_)))))
   ·refine Dyp 9 rfl (Y.not (b := true) rfl) (r8 kr (Et (o3 rfl (j5 (t7 (Et (Ez Z3 (Em rfl (Ey rfl ((Y.add rfl rfl om om).yd) (Ei rfl ?_))))))))))
    exact Eu (v8 br (g + 1) rs (.refl _) ⟨by omega, a1E om om pa (of_decide_eq_true q25)⟩ om)
   ·refine Dyp 9 rfl (Y.not (b := false) rfl) (r8 kr (Et (o2 rfl (Ew Z1 (Ei rfl ?_)))))
    exact Eu (E.ret (w5 (l4 (l4 (w5 (l4 (Fb rfl rfl (by exact a3j (show g < a.length by omega) (show g < b.length by omega) (of_decide_eq_false q25)))))))))
  ·refine Eu (o3 rfl (E.exit (o8 (o8 (x9 (Et (Ew Z1 (Ei rfl ?_))))))))
   exact Eu (E.ret (Fb rfl rfl (by exact a2C (show a.length ≤ g by omega) (show b.length ≤ g by omega) pa)))
theorem a2X {a : List (Int × List Int)} {b : List (Int × List Int)} : Tr Tryz.prog 52 [.slice a_a m_a c_a, .slice a_b m_b c_b] (fun w L => Ro w L x5 [.slice a_a m_a c_a] a ∧ Ro w L x5 [.slice a_b m_b c_b] b) [] (κ := Unit) (fun k => True) (fun k => .bool (decide (a = b))) (fun k => []) := by
 refine n9 Tryz.func52 rfl (n := 27) rfl (by decide +kernel) bl (fr := [(0, .slice a_a m_a c_a), (1, .slice a_b m_b c_b)]) rfl fun w L hR => ?_
 obtain ⟨ha, hb⟩ := hR
 obtain ⟨rfl, la⟩ := ha.slen
 obtain ⟨rfl, lb⟩ := hb.slen
 refine Ew Z1 (Ei rfl (Eu (Eq_ (Ew Z5 (Em rfl (Ey rfl ((Y.len us_Accesss rfl).yd) (Em rfl (Ey rfl ((Y.len us_Accesss rfl).yd) (Ey rfl ((Y.neq rfl rfl).yd) (o6 (fun q10 => ?_) (fun q10 => ?_)))))))))))
 ·refine Eu (o2 rfl (Ew Z1 (Ei rfl ?_)))
  exact Eu (E.ret (l4 (Fb rfl rfl (by exact a3l q10))))
 ·refine Eu (o3 rfl (j5 (Et (Eq_ (Ew Z1 (Ei rfl (Eu (E.block (E.loop (κ := Nat) (fun g => g ≤ a.length ∧ a.take g = b.take g) (fun g => [(0, .slice a_a a.length c_a), (1, .slice a_b b.length c_b), (5, .int .i64 (g : Int))]) (fun g => []) (fun g => a.length - g) 0 ⟨by omega, by simp⟩ ⟨rfl, rfl, rfl, trivial⟩ (.refl _) (fun g pg => ?_))))))))))
  obtain ⟨pk, pa⟩ := pg
  refine Eq_ (Ew Z4 (Em rfl (Em rfl (Ey rfl ((Y.len us_Accesss rfl).yd) (Ey rfl ((Y.lss rfl rfl).yd) (o6 (fun q14 => ?_) (fun q14 => ?_)))))))
  ·refine Eu (o2 rfl (j5 (Et (Eq_ (E.block (Eq_ (D.region (fun j => true) mixed (Dyp 0 rfl (l3 rfl) (Dyp 1 rfl (l3 rfl) ?_)))))))))
   obtain ⟨eb19, eo19, ec19, ea19, er19, el19, eh19⟩ := ha.elem g om
   obtain ⟨xa19_0, xc19_0, rfl, ei19_0, xh19_0⟩ := Y0 er19
   have := xh19_0.slen.2
   refine Dyp 2 rfl (r7 us_Accesss ty_Access rfl ea19 rfl g rfl om) (Dy 3 rfl (o9 (cs := [_, _]) ty_Access rfl (eh19 _) rfl) (Dyp 4 rfl (l3 rfl) (Dyp 5 rfl (l3 rfl) ?_)))
   obtain ⟨eb23, eo23, ec23, ea23, er23, el23, eh23⟩ := hb.elem g om
   obtain ⟨xa23_0, xc23_0, rfl, ei23_0, xh23_0⟩ := Y0 er23
   have := xh23_0.slen.2
   refine Dyp 6 rfl (r7 us_Accesss ty_Access rfl ea23 rfl g rfl om) (Dy 7 rfl (o9 (cs := [_, _]) ty_Access rfl (eh23 _) rfl) (t8 8 rfl rfl kr (fun _ => rfl) (n0 a9W rfl rfl rfl dc (fun w Lp hA => ⟨ei19_0, hA.ro xh19_0, ei23_0, hA.ro xh23_0⟩)) (fun _ _ => (Ent.b (fun q25 => ?_) (fun q25 => ?_)))))
   ·refine Dyp 9 rfl (Y.not (b := true) rfl) (r8 kr (Et (o3 rfl (j5 (t7 (Et (Ez Z3 (Em rfl (Ey rfl ((Y.add rfl rfl om om).yd) (Ei rfl ?_))))))))))
    exact Eu (v8 br (g + 1) rs (.refl _) ⟨by omega, a1E om om pa (of_decide_eq_true q25)⟩ om)
   ·refine Dyp 9 rfl (Y.not (b := false) rfl) (r8 kr (Et (o2 rfl (Ew Z1 (Ei rfl ?_)))))
    exact Eu (E.ret (w5 (l4 (l4 (w5 (l4 (Fb rfl rfl (by exact a3j (show g < a.length by omega) (show g < b.length by omega) (of_decide_eq_false q25)))))))))
  ·refine Eu (o3 rfl (E.exit (o8 (o8 (x9 (Et (Ew Z1 (Ei rfl ?_))))))))
   exact Eu (E.ret (Fb rfl rfl (by exact a2C (show a.length ≤ g by omega) (show b.length ≤ g by omega) pa)))
end Go.Proofs.YtdopeopehgdccaaGreat
