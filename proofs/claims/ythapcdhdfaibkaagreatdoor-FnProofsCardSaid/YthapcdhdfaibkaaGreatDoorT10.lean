import Derived.Test.YthapcdhdfaibkaaGreatDoorT11
namespace Go.Proofs.YthapcdhdfaibkaaGreatDoor
open Go.RowKit
set_option linter.all false
set_option maxHeartbeats 2000000
attribute [local irreducible] Nop Yd Yp Ent Has Tr FnP FnP2 Src o2 c8 N0 a0b E6
variable {arity n G6 F0 H2 F1 u7 r_Rounds : Int} {l : List (Int × List Int × Int × Int × Int)} {w7 l3 : List (Int × List Int)} {B5 s w9 j5 d8 : List Int} {m_l c_l J6 G7 m_s c_s B4 z7 m_values c_values R6 I9 P1 H4 Y2 O8 : Nat} {a_l G8 a_s z8 a_values J0 H5 O9 : Option Addr}
theorem a7J {l : List Int} : Tr Tryz.prog 352 [.slice a_l m_l c_l] (fun w L => Ro w L eIs [.slice a_l m_l c_l] l) [] (κ := Unit) (fun k => True) (fun k => .bool (E6 ltB l)) (fun k => []) := by
 refine Tr.intro Tryz.func352 rfl (n := 24) rfl (by decide +kernel) bl (fr := [(0, .slice a_l m_l c_l)]) rfl fun w L hR => ?_
 have hl := hR
 obtain ⟨rfl, ll⟩ := hl.slen
 refine Ew Z1 (Ei rfl (Eu (Eq_ (Ew Z3 (Em rfl (Ey rfl ((Y.len us_Is rfl).yd) (Em rfl (Eu (E.block (E.loop (κ := Nat) (fun g => g ≤ l.length ∧ E6 ltB l = E6 ltB (l.drop (g - 1))) (fun g => [(0, .slice a_l l.length c_l), (5, .int .i64 (↑l.length : Int)), (6, .int .i64 (g : Int))]) (fun g => []) (fun g => l.length - g) 0 ⟨Nat.zero_le _, by simp⟩ ⟨rfl, rfl, rfl, trivial⟩ (.refl _) (fun g pg => ?_)))))))))))
 obtain ⟨pk, pa⟩ := pg
 refine Ew Z1 (Ey rfl ((Y.lss rfl rfl).yd) (o3 (fun q7 => ?_) (fun q7 => ?_)))
 ·refine Eu (Eq_ (n8 rfl (i7 (Et (Eq_ (E.block (Ew Z2 (Em rfl (Ei rfl (Eu (Eq_ (D.region (fun j => true) mixed (Dyp 0 rfl (i8 rfl) (Dyp 1 rfl (Y.gtr rfl rfl) (o3 (fun q10 => ?_) (fun q10 => ?_))))))))))))))))
  ·refine Dyp 2 rfl (i8 rfl) (Dyp 3 rfl (i8 rfl) (Dyp 4 rfl (i8 rfl) ?_))
   obtain ⟨eb14, eo14, ea14, ei14, eh14⟩ := hl.elemI g om
   refine Dyp 5 rfl (v8 us_Is f9 rfl ea14 rfl g rfl om) (Dy 6 rfl (g9 f9 rfl (eh14 _) rfl) (Dyp 7 rfl (i8 rfl) (Dyp 8 rfl (i8 rfl) (Dyp 9 rfl (Y.sub rfl rfl om om) ?_))))
   obtain ⟨eb19, eo19, ea19, ei19, eh19⟩ := hl.elemI (g - 1) om
   refine Dyp 10 rfl (v8 us_Is f9 rfl ea19 rfl (g - 1) om om) (Dy 11 rfl (g9 f9 rfl (eh19 _) rfl) (Dyp 12 rfl (Y.leq rfl rfl) (o3 (fun q21 => ?_) (fun q21 => ?_))))
   ·refine Dyp 13 rfl (t8 rfl rfl) (r9 kr (Et (n8 rfl (Ew Z1 (Ei rfl ?_)))))
    exact Eu (E.ret (y8 (n0 (n0 (y8 (n0 (Fb rfl rfl (by grind [E5, E3, F2, ltB, d1, d2, t1, t2]))))))))
   ·refine Dyp 13 rfl (t8 rfl rfl) (r9 kr (Et (o0 rfl (i7 (s9 (Et (Ez Z2 (Ey rfl ((Y.add rfl rfl om om).yd) (Em rfl ?_)))))))))
    exact Eu (x6 br (g + 1) rs (.refl _) ⟨by omega, by grind [E5, E3, F2, ltB, d1, d2, t1, t2]⟩ om)
  ·refine Dyp 2 rfl (i8 rfl) (Dsk 3 rfl (Dsk 4 rfl (Dsk 5 rfl (Dsk 6 rfl (Dsk 7 rfl (Dsk 8 rfl (Dsk 9 rfl (Dsk 10 rfl (Dsk 11 rfl (Dsk 12 rfl (Dyp 13 rfl (t7 rfl rfl) (r9 kr (Et (o0 rfl (i7 (s9 (Et (Ez Z2 (Ey rfl ((Y.add rfl rfl om om).yd) (Em rfl ?_))))))))))))))))))))
   exact Eu (x6 br (g + 1) rs (.refl _) ⟨by omega, by grind [E5, E3, F2, ltB, d1, d2, t1, t2]⟩ om)
 ·refine Eu (Eq_ (o0 rfl (E.exit (q1 (q1 (y4 (Et (Ew Z1 (Ei rfl ?_)))))))))
  exact Eu (E.ret (Fb rfl rfl (by grind [E5, E3, F2, ltB, d1, d2, t1, t2])))
theorem a5H {i : Int} {b_arity : Nat} : Tr Tryz.prog 353 [.int .i64 i, .pointer (some ⟨b_arity, 0, none⟩)] (fun w L => (I64 i) ∧ RoPt w L b_arity [.int .i64 arity] ∧ -1000 ≤ arity ∧ arity ≤ 1000) [] (κ := Unit) (fun k => True) (fun k => .bool (!inR i 0 (arity - 1))) (fun k => []) := by
 refine Tr.intro Tryz.func353 rfl (n := 9) rfl (by decide +kernel) bl (fr := [(0, .int .i64 i), (1, .pointer (some ⟨b_arity, 0, none⟩))]) rfl fun w L hR => ?_
 obtain ⟨i6i, hb_arity, as0, as1⟩ := hR
 refine Ew Z1 (Ei rfl (Ev Z6 (Em rfl (Ey rfl (g9 f9 rfl (hb_arity.has) rfl) (Ey rfl ((Y.sub rfl rfl om om).yd) (Est rfl (l0 M8 rfl rfl rfl dc tv) (fun _ _ => (Ey rfl ((Y.not rfl).yd) (Ei rfl ?_)))))))))
 exact Eu (E.ret (Fb rfl rfl (by grind [d1, d2, t1, t2])))
theorem b0u : Tr Tryz.prog 347 [.int .i64 n] (fun w L => True) [] (κ := Unit) (fun k => True) (fun k => .bool (inR n 0 99)) (fun k => []) := by
 refine Tr.intro Tryz.func347 rfl (n := 5) rfl (by decide +kernel) bl (fr := [(0, .int .i64 n)]) rfl fun w L hR => (Ew Z1 (Ei rfl (Ev Z3 (Em rfl (Est rfl (l0 M8 rfl rfl rfl dc tv) (fun _ _ => (Ei rfl ?_)))))))
 exact Eu (E.ret (Fg rfl rfl () rfl rfl))
theorem a6G : Tr Tryz.prog 304 [.agg #[.int .i64 G6, .slice G8 J6 G7, .int .i64 F0, .int .i64 H2, .int .i64 F1], .int .i64 arity] (fun w L => I64 G6 ∧ Ro w L eIs [.slice G8 J6 G7] B5 ∧ I64 F0 ∧ I64 H2 ∧ I64 F1 ∧ -1000 ≤ arity ∧ arity ≤ 1000) [] (κ := Unit) (fun k => True) (fun k => .bool (a0Q (G6, B5, F0, H2, F1) arity)) (fun k => []) := by
 refine Tr.intro Tryz.func304 rfl (n := 30) rfl (by decide +kernel) bl (fr := [(0, .agg #[.int .i64 G6, .slice G8 J6 G7, .int .i64 F0, .int .i64 H2, .int .i64 F1]), (1, .int .i64 arity)]) rfl fun w L hR => ?_
 obtain ⟨a2k, K9, a0T, a1t, a0U, as0, as1⟩ := hR
 obtain ⟨rfl, a2L⟩ := K9.slen
 refine Ew Z3 (Est rfl (N.box (cs := [_, _, _, _, _]) rfl dc rfl) (fun b2 _ => (Est rfl (N.box (cs := [_]) rfl dc rfl) (fun b3 _ => (Ei rfl (Ev Z26 (Ey rfl ((f5 fo_Method_1 ty_Is dc rfl).yd) (Ey rfl (g9 ty_Is rfl (Hz (mS m0) 1 rfl) rfl) (Est rfl (l0 a7J rfl rfl rfl dc (fun w Lp hA => hA.ro K9)) (fun _ _ => (Ent.b (fun q7 => ?_) (fun q7 => ?_))))))))))))
 ·refine Em rfl (Ey rfl ((f5 fo_Method_1 ty_Is dc rfl).yd) (Ey rfl (g9 ty_Is rfl (Hz (mS m0) 1 rfl) rfl) (Ey rfl ((Y.fn (vs := [_]) rfl).yd) (Est rfl (l0 (a0H (f := (fun i => !inR i 0 (arity - 1))) (D_f := (fun _ => True)) (by intros; exact trivial)) rfl rfl rfl dc (fun w Lp hA => ⟨hA.ro K9, a4c (D := (fun _ => True)) (fun hd => a5H) (fun w' hk => ⟨(hA.pt m0).keep hk, (by first | assumption | omega), (by first | assumption | omega)⟩)⟩)) (fun _ _ => (Ent.b (fun q12 => ?_) (fun q12 => ?_)))))))
  ·refine Ey rfl ((Y.not (b := true) rfl).yd) (Ey rfl ((t8 rfl rfl).yd) (Em rfl (Es rfl (Es rfl (Es rfl (Ey rfl ((t7 rfl rfl).yd) (Em rfl (Es rfl (Es rfl (Es rfl (Ey rfl ((t7 rfl rfl).yd) (Em rfl (Es rfl (Es rfl (Es rfl (Ey rfl ((t7 rfl rfl).yd) (Ei rfl ?_)))))))))))))))))
   exact Eu (E.ret (Fb rfl rfl (by grind [a0Q, S0, d1, d2, t1, t2])))
  ·refine Ey rfl ((Y.not (b := false) rfl).yd) (Ey rfl ((t8 rfl rfl).yd) (Em rfl (Ey rfl ((f5 fo_Method_2 f9 dc rfl).yd) (Ey rfl (g9 f9 rfl (Hz (mS m0) 2 rfl) rfl) (Est rfl (l0 M8 rfl rfl rfl dc tv) (fun _ _ => (Ent.b (fun q18 => ?_) (fun q18 => ?_))))))))
   ·refine Ey rfl ((t8 rfl rfl).yd) (Em rfl (Ey rfl ((f5 fo_Method_3 f9 dc rfl).yd) (Ey rfl (g9 f9 rfl (Hz (mS m0) 3 rfl) rfl) (Est rfl (l0 b0u rfl rfl rfl dc tv) (fun _ _ => (Ent.b (fun q23 => ?_) (fun q23 => ?_)))))))
    ·refine Ey rfl ((t8 rfl rfl).yd) (Em rfl (Ey rfl ((f5 fo_Method_4 f9 dc rfl).yd) (Ey rfl (g9 f9 rfl (Hz (mS m0) 4 rfl) rfl) (Est rfl (l0 M8 rfl rfl rfl dc tv) (fun _ _ => (Ey rfl ((t8 rfl rfl).yd) (Ei rfl ?_)))))))
     exact Eu (E.ret (Fb rfl rfl (by grind [a0Q, S0, d1, d2, t1, t2])))
    ·refine Ey rfl ((t8 rfl rfl).yd) (Em rfl (Es rfl (Es rfl (Es rfl (Ey rfl ((t7 rfl rfl).yd) (Ei rfl ?_))))))
     exact Eu (E.ret (Fb rfl rfl (by grind [a0Q, S0, d1, d2, t1, t2])))
   ·refine Ey rfl ((t8 rfl rfl).yd) (Em rfl (Es rfl (Es rfl (Es rfl (Ey rfl ((t7 rfl rfl).yd) (Em rfl (Es rfl (Es rfl (Es rfl (Ey rfl ((t7 rfl rfl).yd) (Ei rfl ?_)))))))))))
    exact Eu (E.ret (Fb rfl rfl (by grind [a0Q, S0, d1, d2, t1, t2])))
 ·refine Em rfl (Es rfl (Es rfl (Es rfl (Es rfl (Es rfl (Ey rfl ((t7 rfl rfl).yd) (Em rfl (Es rfl (Es rfl (Es rfl (Ey rfl ((t7 rfl rfl).yd) (Em rfl (Es rfl (Es rfl (Es rfl (Ey rfl ((t7 rfl rfl).yd) (Em rfl (Es rfl (Es rfl (Es rfl (Ey rfl ((t7 rfl rfl).yd) (Ei rfl ?_))))))))))))))))))))))
  exact Eu (E.ret (Fb rfl rfl (by grind [a0Q, S0, d1, d2, t1, t2])))
theorem a8t : Tr Tryz.prog 214 [.slice a_s m_s c_s, .agg #[.int .i64 G6, .slice G8 J6 G7, .int .i64 F0, .int .i64 H2, .int .i64 F1]] (fun w L => Ro w L eIs [.slice a_s m_s c_s] s ∧ I64 G6 ∧ Ro w L eIs [.slice G8 J6 G7] B5 ∧ I64 F0 ∧ I64 H2 ∧ I64 F1) [] (κ := Unit) (fun k => True) (fun k => .bool (T0 s (G6, B5, F0, H2, F1))) (fun k => []) := by
 refine Tr.intro Tryz.func214 rfl (n := 18) rfl (by decide +kernel) bl (fr := [(0, .slice a_s m_s c_s), (1, .agg #[.int .i64 G6, .slice G8 J6 G7, .int .i64 F0, .int .i64 H2, .int .i64 F1])]) rfl fun w L hR => ?_
 obtain ⟨hs, a2k, K9, a0T, a1t, a0U⟩ := hR
 obtain ⟨rfl, ls⟩ := hs.slen
 obtain ⟨rfl, a2L⟩ := K9.slen
 refine Ew Z2 (Est rfl (N.box (cs := [_, _, _, _, _]) rfl dc rfl) (fun b3 _ => (Ei rfl (Eu (Eq_ (D.region (fun j => true) mixed (Dyp 0 rfl (i8 rfl) (Dyp 1 rfl (f5 fo_Method_0 f9 dc rfl) (Dy 2 rfl (g9 f9 rfl (Hz m0 0 rfl) rfl) (t6 3 rfl rfl kr (fun _ => rfl) (l0 a2u rfl rfl rfl dc (fun w Lp hA => hA.ro hs)) (fun _ _ => (Ent.b (fun q8 => ?_) (fun q8 => ?_)))))))))))))
 ·obtain ⟨z1, z2, z3, z4⟩ := a0n q8
  rw [a4k om] at z3 z4
  refine Dyp 4 rfl (i8 rfl) (Dy 5 rfl (o6 (cs := [_, _, _, _, _]) ty_Method rfl (Has.pt m0) rfl) (Dyp 6 rfl (i8 rfl) (Dyp 7 rfl (f5 fo_Method_0 f9 dc rfl) (Dy 8 rfl (g9 f9 rfl (Hz m0 0 rfl) rfl) ?_))))
  obtain ⟨eb14, eo14, ea14, ei14, eh14⟩ := hs.elemI G6.toNat om
  refine Dyp 9 rfl (v8 us_Is f9 rfl ea14 rfl G6.toNat om om) (Dy 10 rfl (g9 f9 rfl (eh14 _) rfl) (t6 11 rfl rfl kr (fun _ => rfl) (l0 a6G rfl rfl rfl dc (fun w Lp hA => ⟨a2k, hA.ro K9, a0T, a1t, a0U, (by first | assumption | omega), (by first | assumption | omega)⟩)) (fun _ _ => (Dyp 12 rfl (t8 rfl rfl) (Dyp 13 rfl (C2 rfl) ?_)))))
  exact r9 kr (Et (E.ret (Fb rfl rfl (by grind [T0, G1, d1, d2, t1, t2]))))
 ·refine Dyp 4 rfl (i8 rfl) (Dsk 5 rfl (Dsk 6 rfl (Dsk 7 rfl (Dsk 8 rfl (Dsk 9 rfl (Dsk 10 rfl (Dsk 11 rfl (Dyp 12 rfl (t7 rfl rfl) (Dyp 13 rfl (C2 rfl) ?_)))))))))
  exact r9 kr (Et (E.ret (Fb rfl rfl (by grind [T0, G1, d1, d2, t1, t2]))))
theorem a8U : Tr Tryz.prog 173 [.slice a_s m_s c_s, .agg #[.int .i64 G6, .slice G8 J6 G7, .int .i64 F0, .int .i64 H2, .int .i64 F1]] (fun w L => Ro w L eIs [.slice a_s m_s c_s] s ∧ I64 G6 ∧ Ro w L eIs [.slice G8 J6 G7] B5 ∧ I64 F0 ∧ I64 H2 ∧ I64 F1) [] (κ := Unit) (fun k => True) (fun k => .bool (T0 s (G6, B5, F0, H2, F1))) (fun k => []) := by
 refine Tr.intro Tryz.func173 rfl (n := 74) rfl (by decide +kernel) bl (fr := [(0, .slice a_s m_s c_s), (1, .agg #[.int .i64 G6, .slice G8 J6 G7, .int .i64 F0, .int .i64 H2, .int .i64 F1])]) rfl fun w L hR => ?_
 obtain ⟨hs, a2k, K9, a0T, a1t, a0U⟩ := hR
 obtain ⟨rfl, ls⟩ := hs.slen
 obtain ⟨rfl, a2L⟩ := K9.slen
 refine Ew Z2 (Est rfl (N.box (cs := [_, _, _, _, _]) rfl dc rfl) (fun b3 _ => (Ei rfl (Eu (Eq_ (Ew Z30 (Em rfl (Est rfl (l0 M9 rfl rfl rfl dc (fun w Lp hA => hA.ro hs)) (fun _ _ => (Ent.b (fun q7 => ?_) (fun q7 => ?_)))))))))))
 ·refine Ey rfl ((Y.not (b := true) rfl).yd) (Em rfl (Ey rfl ((f5 fo_Method_0 f9 dc rfl).yd) (Ey rfl (g9 f9 rfl (Hz m0 0 rfl) rfl) (Em rfl (Ey rfl ((Y.len us_Is rfl).yd) (Ey rfl ((Y.sub rfl rfl om om).yd) (Est rfl (l0 G0 rfl rfl rfl dc tv) (fun _ _ => (Ent.b (fun q15 => ?_) (fun q15 => ?_))))))))))
  ·have y1 : N6 s G6 = true := by rw [N6, q7, q15]; rfl
   obtain ⟨z1, z2, z3, z4⟩ := a0n y1
   rw [a4k om] at z3 z4
   refine Ey rfl ((Y.not (b := true) rfl).yd) (Ey rfl ((t7 rfl rfl).yd) (Em rfl (Ey rfl ((f5 fo_Method_2 f9 dc rfl).yd) (Ey rfl (g9 f9 rfl (Hz m0 2 rfl) rfl) (Est rfl (l0 G0 rfl rfl rfl dc tv) (fun _ _ => (Ent.b (fun q21 => ?_) (fun q21 => ?_))))))))
   ·refine Ey rfl ((Y.not (b := true) rfl).yd) (Ey rfl ((t7 rfl rfl).yd) (Em rfl (Ey rfl ((f5 fo_Method_3 f9 dc rfl).yd) (Ey rfl (g9 f9 rfl (Hz m0 3 rfl) rfl) (Est rfl (l0 G0 rfl rfl rfl dc tv) (fun _ _ => (Ent.b (fun q27 => ?_) (fun q27 => ?_))))))))
    ·refine Ey rfl ((Y.not (b := true) rfl).yd) (Ey rfl ((t7 rfl rfl).yd) (Em rfl (Ey rfl ((f5 fo_Method_4 f9 dc rfl).yd) (Ey rfl (g9 f9 rfl (Hz m0 4 rfl) rfl) (Est rfl (l0 G0 rfl rfl rfl dc tv) (fun _ _ => (Ent.b (fun q33 => ?_) (fun q33 => ?_))))))))
     ·refine Ey rfl ((Y.not (b := true) rfl).yd) (Ey rfl ((t7 rfl rfl).yd) (Eu (o0 rfl (i7 (Et (Eq_ (Ew Z1 (Ei rfl (Eu (E.block (E.loop (κ := Nat) (fun g => g ≤ B5.length ∧ (S0 B5 (at0 s G6) && E6 ltB B5) = (S0 (B5.drop g) (at0 s G6) && E6 ltB (B5.drop (g - 1)))) (fun g => [(0, .slice a_s s.length c_s), (3, .pointer (some ⟨b3, 0, none⟩)), (5, .int .i64 (g : Int))]) (fun g => [pt b3 125 [.int .i64 G6, .slice G8 B5.length G7, .int .i64 F0, .int .i64 H2, .int .i64 F1]]) (fun g => B5.length - g) 0 ⟨Nat.zero_le _, by simp⟩ ⟨rfl, rfl, rfl, trivial⟩ (.refl _) (fun g pg => ?_))))))))))))
      obtain ⟨pk, pa⟩ := pg
      refine Eq_ (Ew Z5 (Em rfl (Ey rfl ((f5 fo_Method_1 ty_Is dc rfl).yd) (Ey rfl (g9 ty_Is rfl (Hz m0 1 rfl) rfl) (Ey rfl ((Y.len us_Is rfl).yd) (Ey rfl ((Y.lss rfl rfl).yd) (o3 (fun q40 => ?_) (fun q40 => ?_))))))))
      ·refine Eu (n8 rfl (i7 (Et (Eq_ (E.block (Eq_ (D.region (fun j => true) mixed (Dyp 0 rfl (f5 fo_Method_1 ty_Is dc rfl) (Dy 1 rfl (g9 ty_Is rfl (Hz m0 1 rfl) rfl) (Dyp 2 rfl (i8 rfl) ?_))))))))))
       obtain ⟨eb46, eo46, ea46, ei46, eh46⟩ := K9.elemI g om
       refine Dyp 3 rfl (v8 us_Is f9 rfl ea46 rfl g rfl om) (Dy 4 rfl (g9 f9 rfl (eh46 _) rfl) (Dyp 5 rfl (i8 rfl) (Dyp 6 rfl (f5 fo_Method_0 f9 dc rfl) (Dy 7 rfl (g9 f9 rfl (Hz m0 0 rfl) rfl) ?_))))
       obtain ⟨eb51, eo51, ea51, ei51, eh51⟩ := hs.elemI G6.toNat om
       refine Dyp 8 rfl (v8 us_Is f9 rfl ea51 rfl G6.toNat om om) (Dy 9 rfl (g9 f9 rfl (eh51 _) rfl) (Dyp 10 rfl (Y.sub rfl rfl om om) (t6 11 rfl rfl kr (fun _ => rfl) (l0 G0 rfl rfl rfl dc tv) (fun _ _ => (Ent.b (fun q54 => ?_) (fun q54 => ?_))))))
       ·refine Dyp 12 rfl (Y.not (b := true) rfl) (Dyp 13 rfl (i8 rfl) (Dyp 14 rfl (i8 rfl) (Dyp 15 rfl (Y.gtr rfl rfl) (o3 (fun q58 => ?_) (fun q58 => ?_)))))
        ·refine Dyp 16 rfl (i8 rfl) (Dyp 17 rfl (f5 fo_Method_1 ty_Is dc rfl) (Dy 18 rfl (g9 ty_Is rfl (Hz m0 1 rfl) rfl) (Dyp 19 rfl (i8 rfl) (Dyp 20 rfl (v8 us_Is f9 rfl ea46 rfl g rfl om) (Dy 21 rfl (g9 f9 rfl (eh46 _) rfl) (Dyp 22 rfl (f5 fo_Method_1 ty_Is dc rfl) (Dy 23 rfl (g9 ty_Is rfl (Hz m0 1 rfl) rfl) (Dyp 24 rfl (i8 rfl) (Dyp 25 rfl (Y.sub rfl rfl om om) ?_)))))))))
         obtain ⟨eb69, eo69, ea69, ei69, eh69⟩ := K9.elemI (g - 1) om
         refine Dyp 26 rfl (v8 us_Is f9 rfl ea69 rfl (g - 1) om om) (Dy 27 rfl (g9 f9 rfl (eh69 _) rfl) (Dyp 28 rfl (Y.leq rfl rfl) (o3 (fun q71 => ?_) (fun q71 => ?_))))
         ·refine Dyp 29 rfl (t8 rfl rfl) (Dyp 30 rfl (t7 rfl rfl) (r9 kr (Et (n8 rfl (Ew Z1 (Ei rfl ?_))))))
          exact Eu (E.ret (y8 (n0 (n0 (y8 (n0 (Fb rfl rfl (by grind [T0, a0Q, N6, G1, S0, E5, E3, F2, ltB, d1, d2, t1, t2]))))))))
         ·refine Dyp 29 rfl (t8 rfl rfl) (Dyp 30 rfl (t7 rfl rfl) (r9 kr (Et (o0 rfl (i7 (s9 (Et (Ez Z3 (Em rfl (Ey rfl ((Y.add rfl rfl om om).yd) (Ei rfl ?_)))))))))))
          exact Eu (x6 br (g + 1) rs (.refl _) ⟨by omega, by grind [S0, E5, E3, F2, ltB, G1, d1, d2, t1, t2]⟩ om)
        ·refine Dyp 16 rfl (i8 rfl) (Dsk 17 rfl (Dsk 18 rfl (Dsk 19 rfl (Dsk 20 rfl (Dsk 21 rfl (Dsk 22 rfl (Dsk 23 rfl (Dsk 24 rfl (Dsk 25 rfl (Dsk 26 rfl (Dsk 27 rfl (Dsk 28 rfl (Dyp 29 rfl (t7 rfl rfl) (Dyp 30 rfl (t7 rfl rfl) (r9 kr (Et (o0 rfl (i7 (s9 (Et (Ez Z3 (Em rfl (Ey rfl ((Y.add rfl rfl om om).yd) (Ei rfl ?_))))))))))))))))))))))))
         exact Eu (x6 br (g + 1) rs (.refl _) ⟨by omega, by grind [S0, E5, E3, F2, ltB, G1, d1, d2, t1, t2]⟩ om)
       ·refine Dyp 12 rfl (Y.not (b := false) rfl) (Dyp 13 rfl (i8 rfl) (Dsk 14 rfl (Dsk 15 rfl (b0O 16 rfl rfl dc kr (Dsk 17 rfl (Dsk 18 rfl (Dsk 19 rfl (Dsk 20 rfl (Dsk 21 rfl (Dsk 22 rfl (Dsk 23 rfl (Dsk 24 rfl (Dsk 25 rfl (Dsk 26 rfl (Dsk 27 rfl (Dsk 28 rfl (Dsk 29 rfl (Dyp 30 rfl (t8 rfl rfl) (r9 kr (Et (n8 rfl (Ew Z1 (Ei rfl ?_)))))))))))))))))))))))
        exact Eu (E.ret (y8 (n0 (n0 (y8 (n0 (Fb rfl rfl (by grind [T0, a0Q, N6, G1, S0, E5, E3, F2, ltB, d1, d2, t1, t2]))))))))
      ·refine Eu (o0 rfl (E.exit (q1 (q1 (y4 (Et (Ew Z1 (Ei rfl ?_))))))))
       exact Eu (E.ret (Fb rfl rfl (by grind [T0, a0Q, N6, G1, S0, E5, E3, F2, ltB, d1, d2, t1, t2])))
     ·refine Ey rfl ((Y.not (b := false) rfl).yd) (Ey rfl ((t7 rfl rfl).yd) (Eu (n8 rfl (Ew Z1 (Ei rfl ?_)))))
      exact Eu (E.ret (n0 (Fb rfl rfl (by grind [T0, a0Q, N6, G1, S0, E5, E3, F2, ltB, d1, d2, t1, t2]))))
    ·refine Ey rfl ((Y.not (b := false) rfl).yd) (Ey rfl ((t7 rfl rfl).yd) (Em rfl (Es rfl (Es rfl (Es rfl (Es rfl (Ey rfl ((t8 rfl rfl).yd) (Eu (n8 rfl (Ew Z1 (Ei rfl ?_)))))))))))
     exact Eu (E.ret (n0 (Fb rfl rfl (by grind [T0, a0Q, N6, G1, S0, E5, E3, F2, ltB, d1, d2, t1, t2]))))
   ·refine Ey rfl ((Y.not (b := false) rfl).yd) (Ey rfl ((t7 rfl rfl).yd) (Em rfl (Es rfl (Es rfl (Es rfl (Es rfl (Ey rfl ((t8 rfl rfl).yd) (Em rfl (Es rfl (Es rfl (Es rfl (Es rfl (Ey rfl ((t8 rfl rfl).yd) (Eu (n8 rfl (Ew Z1 (Ei rfl ?_)))))))))))))))))
    exact Eu (E.ret (n0 (Fb rfl rfl (by grind [T0, a0Q, N6, G1, S0, E5, E3, F2, ltB, d1, d2, t1, t2]))))
  ·refine Ey rfl ((Y.not (b := false) rfl).yd) (Ey rfl ((t7 rfl rfl).yd) (Em rfl (Es rfl (Es rfl (Es rfl (Es rfl (Ey rfl ((t8 rfl rfl).yd) (Em rfl (Es rfl (Es rfl (Es rfl (Es rfl (Ey rfl ((t8 rfl rfl).yd) (Em rfl (Es rfl (Es rfl (Es rfl (Es rfl (Ey rfl ((t8 rfl rfl).yd) (Eu (n8 rfl (Ew Z1 (Ei rfl ?_)))))))))))))))))))))))
   exact Eu (E.ret (n0 (Fb rfl rfl (by grind [T0, a0Q, N6, G1, S0, E5, E3, F2, ltB, d1, d2, t1, t2]))))
 ·refine Ey rfl ((Y.not (b := false) rfl).yd) (Em rfl (Es rfl (Es rfl (Es rfl (Es rfl (Es rfl (Es rfl (Es rfl (Ey rfl ((t8 rfl rfl).yd) (Em rfl (Es rfl (Es rfl (Es rfl (Es rfl (Ey rfl ((t8 rfl rfl).yd) (Em rfl (Es rfl (Es rfl (Es rfl (Es rfl (Ey rfl ((t8 rfl rfl).yd) (Em rfl (Es rfl (Es rfl (Es rfl (Es rfl (Ey rfl ((t8 rfl rfl).yd) (Eu (n8 rfl (Ew Z1 (Ei rfl ?_)))))))))))))))))))))))))))))))
  exact Eu (E.ret (n0 (Fb rfl rfl (by grind [T0, a0Q, N6, G1, S0, E5, E3, F2, ltB, d1, d2, t1, t2]))))
theorem a6u {b_s : Nat} : Tr Tryz.prog 213 [.agg #[.int .i64 G6, .slice G8 J6 G7, .int .i64 F0, .int .i64 H2, .int .i64 F1], .pointer (some ⟨b_s, 0, none⟩)] (fun w L => (I64 G6 ∧ Ro w L eIs [.slice G8 J6 G7] B5 ∧ I64 F0 ∧ I64 H2 ∧ I64 F1) ∧ RoPt w L b_s [.slice a_s m_s c_s] ∧ Ro w L eIs [.slice a_s m_s c_s] s) [] (κ := Unit) (fun k => True) (fun k => .bool (!T0 s (G6, B5, F0, H2, F1))) (fun k => []) := by
 refine Tr.intro Tryz.func213 rfl (n := 8) rfl (by decide +kernel) bl (fr := [(0, .agg #[.int .i64 G6, .slice G8 J6 G7, .int .i64 F0, .int .i64 H2, .int .i64 F1]), (1, .pointer (some ⟨b_s, 0, none⟩))]) rfl fun w L hR => ?_
 obtain ⟨⟨a2k, K9, a0T, a1t, a0U⟩, hb_s, hs⟩ := hR
 obtain ⟨rfl, a2L⟩ := K9.slen
 obtain ⟨rfl, ls⟩ := hs.slen
 refine Ew Z2 (Est rfl (N.box (cs := [_, _, _, _, _]) rfl dc rfl) (fun b2 _ => (Ei rfl (Ev Z5 (Ey rfl (g9 ty_Is rfl (hb_s.has) rfl) (Ey rfl (o6 (cs := [_, _, _, _, _]) ty_Method rfl (Has.pt m0) rfl) (Est rfl (l0 a8t rfl rfl rfl dc (fun w Lp hA => ⟨hA.ro hs, a2k, hA.ro K9, a0T, a1t, a0U⟩)) (fun _ _ => (Ey rfl ((Y.not rfl).yd) (Ei rfl ?_))))))))))
 exact Eu (E.ret (Fb rfl rfl (by grind [d1, d2, t1, t2])))
theorem a3S : Tr Tryz.prog 104 [.slice a_s m_s c_s, .slice a_l m_l c_l] (fun w L => Ro w L eIs [.slice a_s m_s c_s] s ∧ Ro w L F5 [.slice a_l m_l c_l] l) [] (κ := Unit) (fun k => True) (fun k => .bool (B3 s l)) (fun k => []) := by
 refine Tr.intro Tryz.func104 rfl (n := 18) rfl (by decide +kernel) bl (fr := [(0, .slice a_s m_s c_s), (1, .slice a_l m_l c_l)]) rfl fun w L hR => ?_
 obtain ⟨hs, hl⟩ := hR
 obtain ⟨rfl, ls⟩ := hs.slen
 obtain ⟨rfl, ll⟩ := hl.slen
 refine Ew Z2 (Est rfl (N.box (cs := [_]) rfl dc rfl) (fun b2 _ => (Ei rfl (Ev Z14 (Ey rfl (g9 ty_Is rfl (Has.pt m0) rfl) (Est rfl (l0 a1O rfl rfl rfl dc (fun w Lp hA => hA.ro hs)) (fun _ _ => (Ent.b (fun q6 => ?_) (fun q6 => ?_)))))))))
 ·refine Em rfl (Em rfl (Ey rfl ((Y.len us_Methods rfl).yd) (Ey rfl ((Y.leq rfl rfl).yd) (o3 (fun q10 => ?_) (fun q10 => ?_)))))
  ·refine Ey rfl ((t8 rfl rfl).yd) (Em rfl (Em rfl (Ey rfl ((Y.fn (vs := [_]) rfl).yd) (Est rfl (l0 (a5n (f := (fun z => !T0 s z)) (D_f := (fun _ => True)) (by intros; exact trivial)) rfl rfl rfl dc (fun w Lp hA => ⟨hA.ro hl, b1Z (D := (fun _ => True)) (fun hd => a6u) (fun w' hk => ⟨(hA.pt m0).keep hk, (hA.ro hs).keep hk⟩)⟩)) (fun _ _ => (Ey rfl ((Y.not rfl).yd) (Ey rfl ((t8 rfl rfl).yd) (Ei rfl ?_))))))))
   exact Eu (E.ret (Fb rfl rfl (by grind [B3, d1, d2, t1, t2])))
  ·refine Ey rfl ((t8 rfl rfl).yd) (Em rfl (Es rfl (Es rfl (Es rfl (Es rfl (Ey rfl ((t7 rfl rfl).yd) (Ei rfl ?_)))))))
   exact Eu (E.ret (Fb rfl rfl (by grind [B3, d1, d2, t1, t2])))
 ·refine Em rfl (Es rfl (Es rfl (Es rfl (Ey rfl ((t7 rfl rfl).yd) (Em rfl (Es rfl (Es rfl (Es rfl (Es rfl (Ey rfl ((t7 rfl rfl).yd) (Ei rfl ?_)))))))))))
  exact Eu (E.ret (Fb rfl rfl (by grind [B3, d1, d2, t1, t2])))
theorem a1g : Tr Tryz.prog 59 [.slice a_s m_s c_s, .slice a_l m_l c_l] (fun w L => Ro w L eIs [.slice a_s m_s c_s] s ∧ Ro w L F5 [.slice a_l m_l c_l] l) [] (κ := Unit) (fun k => True) (fun k => .bool (B3 s l)) (fun k => []) := by
 refine Tr.intro Tryz.func59 rfl (n := 26) rfl (by decide +kernel) bl (fr := [(0, .slice a_s m_s c_s), (1, .slice a_l m_l c_l)]) rfl fun w L hR => ?_
 obtain ⟨hs, hl⟩ := hR
 obtain ⟨rfl, ls⟩ := hs.slen
 obtain ⟨rfl, ll⟩ := hl.slen
 refine Ew Z1 (Ei rfl (Eu (Eq_ (Ew Z1 (Ei rfl (Eu (E.block (E.loop (κ := Nat) (fun g => g ≤ l.length ∧ l.any (fun m => !T0 s m) = (l.drop g).any (fun m => !T0 s m)) (fun g => [(0, .slice a_s s.length c_s), (1, .slice a_l l.length c_l), (5, .int .i64 (g : Int))]) (fun g => []) (fun g => l.length - g) 0 ⟨Nat.zero_le _, by simp⟩ ⟨rfl, rfl, rfl, trivial⟩ (.refl _) (fun g pg => ?_)))))))))
 obtain ⟨pk, pa⟩ := pg
 refine Eq_ (Ew Z4 (Em rfl (Em rfl (Ey rfl ((Y.len us_Methods rfl).yd) (Ey rfl ((Y.lss rfl rfl).yd) (o3 (fun q9 => ?_) (fun q9 => ?_)))))))
 ·refine Eu (n8 rfl (i7 (Et (Eq_ (E.block (Ew Z7 (Em rfl (Em rfl (Em rfl ?_)))))))))
  obtain ⟨eb15, eo15, ec15, ea15, er15, el15, eh15⟩ := hl.elem g om
  obtain ⟨xa15_0, xc15_0, rfl, ei15_0, xh15_0, ei15_2, ei15_3, ei15_4⟩ := V6 er15
  have := xh15_0.slen.2
  refine Ey rfl ((v8 us_Methods ty_Method rfl ea15 rfl g rfl om).yd) (Ey rfl (o6 (cs := [_, _, _, _, _]) ty_Method rfl (eh15 _) rfl) (Est rfl (l0 a8U rfl rfl rfl dc (fun w Lp hA => ⟨hA.ro hs, ei15_0, hA.ro xh15_0, ei15_2, ei15_3, ei15_4⟩)) (fun _ _ => (Ent.b (fun q17 => ?_) (fun q17 => ?_)))))
  ·refine Ey rfl ((Y.not (b := true) rfl).yd) (Eu (o0 rfl (i7 (s9 (Et (Ez Z3 (Em rfl (Ey rfl ((Y.add rfl rfl om om).yd) (Ei rfl ?_)))))))))
   exact Eu (x6 br (g + 1) rs (.refl _) ⟨by omega, by grind [d1, d2, t1, t2]⟩ om)
  ·refine Ey rfl ((Y.not (b := false) rfl).yd) (Eu (n8 rfl (Ew Z1 (Ei rfl ?_))))
   exact Eu (E.ret (y8 (n0 (n0 (y8 (n0 (Fb rfl rfl (by grind [B3, d1, d2, t1, t2]))))))))
 ·refine Eu (o0 rfl (E.exit (q1 (q1 (y4 (Et (Ew Z8 (Em rfl (Est rfl (l0 M9 rfl rfl rfl dc (fun w Lp hA => hA.ro hs)) (fun _ _ => (Ent.b (fun q20 => ?_) (fun q20 => ?_))))))))))))
  ·refine Em rfl (Em rfl (Ey rfl ((Y.len us_Methods rfl).yd) (Ey rfl ((Y.leq rfl rfl).yd) (Ey rfl ((t8 rfl rfl).yd) (Ei rfl ?_)))))
   exact Eu (E.ret (Fb rfl rfl (by grind [B3, d1, d2, t1, t2])))
  ·refine Em rfl (Es rfl (Es rfl (Es rfl (Ey rfl ((t7 rfl rfl).yd) (Ei rfl ?_)))))
   exact Eu (E.ret (Fb rfl rfl (by grind [B3, d1, d2, t1, t2])))
theorem a8L {l : List Int} : Tr Tryz.prog 277 [.slice a_l m_l c_l] (fun w L => Ro w L eIs [.slice a_l m_l c_l] l) [] (κ := Unit) (fun k => True) (fun k => .bool (O6 l)) (fun k => []) := by
 refine Tr.intro Tryz.func277 rfl (n := 32) rfl (by decide +kernel) bl (fr := [(0, .slice a_l m_l c_l)]) rfl fun w L hR => ?_
 have hl := hR
 obtain ⟨rfl, ll⟩ := hl.slen
 refine Ew Z1 (Ei rfl (Eu (Eq_ (Ew Z1 (Ei rfl (Eu (E.block (E.loop (κ := Nat) (fun g => g ≤ l.length ∧ (E6 ltB l && G4 l) = (E6 ltB (l.drop (g - 1)) && G4 (l.drop g))) (fun g => [(0, .slice a_l l.length c_l), (3, .int .i64 (g : Int))]) (fun g => []) (fun g => l.length - g) 0 ⟨Nat.zero_le _, by simp⟩ ⟨rfl, rfl, trivial⟩ (.refl _) (fun g pg => ?_)))))))))
 obtain ⟨pk, pa⟩ := pg
 refine Eq_ (Ew Z4 (Em rfl (Em rfl (Ey rfl ((Y.len us_Is rfl).yd) (Ey rfl ((Y.lss rfl rfl).yd) (o3 (fun q7 => ?_) (fun q7 => ?_)))))))
 ·refine Eu (n8 rfl (i7 (Et (Eq_ (E.block (Eq_ (D.region (fun j => true) mixed (Dyp 0 rfl (i8 rfl) (Dyp 1 rfl (i8 rfl) ?_)))))))))
  obtain ⟨eb12, eo12, ea12, ei12, eh12⟩ := hl.elemI g om
  refine Dyp 2 rfl (v8 us_Is f9 rfl ea12 rfl g rfl om) (Dy 3 rfl (g9 f9 rfl (eh12 _) rfl) (t6 4 rfl rfl kr (fun _ => rfl) (l0 G0 rfl rfl rfl dc tv) (fun _ _ => (Ent.b (fun q14 => ?_) (fun q14 => ?_)))))
  ·refine Dyp 5 rfl (Y.not (b := true) rfl) (Dyp 6 rfl (i8 rfl) (Dyp 7 rfl (i8 rfl) (Dyp 8 rfl (Y.gtr rfl rfl) (o3 (fun q18 => ?_) (fun q18 => ?_)))))
   ·refine Dyp 9 rfl (i8 rfl) (Dyp 10 rfl (i8 rfl) (Dyp 11 rfl (i8 rfl) (Dyp 12 rfl (v8 us_Is f9 rfl ea12 rfl g rfl om) (Dy 13 rfl (g9 f9 rfl (eh12 _) rfl) (Dyp 14 rfl (i8 rfl) (Dyp 15 rfl (i8 rfl) (Dyp 16 rfl (Y.sub rfl rfl om om) ?_)))))))
    obtain ⟨eb27, eo27, ea27, ei27, eh27⟩ := hl.elemI (g - 1) om
    refine Dyp 17 rfl (v8 us_Is f9 rfl ea27 rfl (g - 1) om om) (Dy 18 rfl (g9 f9 rfl (eh27 _) rfl) (Dyp 19 rfl (Y.leq rfl rfl) (o3 (fun q29 => ?_) (fun q29 => ?_))))
    ·refine Dyp 20 rfl (t8 rfl rfl) (Dyp 21 rfl (t7 rfl rfl) (r9 kr (Et (n8 rfl (Ew Z1 (Ei rfl ?_))))))
     exact Eu (E.ret (y8 (n0 (n0 (y8 (n0 (Fb rfl rfl (by grind [O6, G4, E5, E3, F2, ltB, d1, d2, t1, t2]))))))))
    ·refine Dyp 20 rfl (t8 rfl rfl) (Dyp 21 rfl (t7 rfl rfl) (r9 kr (Et (o0 rfl (i7 (s9 (Et (Ez Z3 (Em rfl (Ey rfl ((Y.add rfl rfl om om).yd) (Ei rfl ?_)))))))))))
     exact Eu (x6 br (g + 1) ⟨rfl, rfl, trivial⟩ (.refl _) ⟨by omega, by grind [G4, E5, E3, F2, ltB, d1, d2, t1, t2]⟩ om)
   ·refine Dyp 9 rfl (i8 rfl) (Dsk 10 rfl (Dsk 11 rfl (Dsk 12 rfl (Dsk 13 rfl (Dsk 14 rfl (Dsk 15 rfl (Dsk 16 rfl (Dsk 17 rfl (Dsk 18 rfl (Dsk 19 rfl (Dyp 20 rfl (t7 rfl rfl) (Dyp 21 rfl (t7 rfl rfl) (r9 kr (Et (o0 rfl (i7 (s9 (Et (Ez Z3 (Em rfl (Ey rfl ((Y.add rfl rfl om om).yd) (Ei rfl ?_))))))))))))))))))))))
    exact Eu (x6 br (g + 1) ⟨rfl, rfl, trivial⟩ (.refl _) ⟨by omega, by grind [G4, E5, E3, F2, ltB, d1, d2, t1, t2]⟩ om)
  ·refine Dyp 5 rfl (Y.not (b := false) rfl) (Dyp 6 rfl (i8 rfl) (Dsk 7 rfl (Dsk 8 rfl (b0O 9 rfl rfl dc kr (Dsk 10 rfl (Dsk 11 rfl (Dsk 12 rfl (Dsk 13 rfl (Dsk 14 rfl (Dsk 15 rfl (Dsk 16 rfl (Dsk 17 rfl (Dsk 18 rfl (Dsk 19 rfl (Dsk 20 rfl (Dyp 21 rfl (t8 rfl rfl) (r9 kr (Et (n8 rfl (Ew Z1 (Ei rfl ?_)))))))))))))))))))))
   exact Eu (E.ret (y8 (n0 (n0 (y8 (n0 (Fb rfl rfl (by grind [O6, G4, E5, E3, F2, ltB, d1, d2, t1, t2]))))))))
 ·refine Eu (o0 rfl (E.exit (q1 (q1 (y4 (Et (Ew Z1 (Ei rfl ?_))))))))
  exact Eu (E.ret (Fb rfl rfl (by grind [O6, G4, E5, E3, F2, ltB, d1, d2, t1, t2])))
theorem a6O {a5Z : Int} {Q7 : Option Addr} {Q8 Q9 : Nat} {a0q : List Int} {b_a : Nat} : Tr Tryz.prog 197 [.agg #[.int .i64 a5Z, .slice Q7 Q8 Q9], .pointer (some ⟨b_a, 0, none⟩)] (fun w L => (I64 a5Z ∧ Ro w L eIs [.slice Q7 Q8 Q9] a0q) ∧ RoPt w L b_a [.int .i64 u7, .slice z8 B4 z7] ∧ I64 u7 ∧ Ro w L eIs [.slice z8 B4 z7] w9) [] (κ := Unit) (fun k => True) (fun k => .bool (decide ((a5Z, a0q) = (u7, w9)))) (fun k => []) := by
 refine Tr.intro Tryz.func197 rfl (n := 7) rfl (by decide +kernel) bl (fr := [(0, .agg #[.int .i64 a5Z, .slice Q7 Q8 Q9]), (1, .pointer (some ⟨b_a, 0, none⟩))]) rfl fun w L hR => ?_
 obtain ⟨⟨b3C, a0g⟩, hb_a, P2, C4⟩ := hR
 obtain ⟨rfl, a7a⟩ := a0g.slen
 obtain ⟨rfl, W8⟩ := C4.slen
 refine Ew Z2 (Est rfl (N.box (cs := [_, _]) rfl dc rfl) (fun b2 _ => (Ei rfl (Ev Z4 (Ey rfl (o6 (cs := [_, _]) ty_Access rfl (Has.pt m0) rfl) (Ey rfl (o6 (cs := [_, _]) ty_Access rfl (hb_a.has) rfl) (Est rfl (l0 a7x rfl rfl rfl dc (fun w Lp hA => ⟨⟨b3C, hA.ro a0g, P2, hA.ro C4⟩, trivial⟩)) (fun _ _ => (Ei rfl ?_)))))))))
 exact Eu (E.ret (Fg rfl rfl () rfl rfl))
theorem a7R {l : List (Int × List Int)} : Tr Tryz.prog 77 [.slice a_l m_l c_l, .agg #[.int .i64 u7, .slice z8 B4 z7]] (fun w L => Ro w L w5 [.slice a_l m_l c_l] l ∧ I64 u7 ∧ Ro w L eIs [.slice z8 B4 z7] w9) [] (κ := Unit) (fun k => True) (fun k => .bool (Q5 l (u7, w9))) (fun k => []) := by
 refine Tr.intro Tryz.func77 rfl (n := 8) rfl (by decide +kernel) bl (fr := [(0, .slice a_l m_l c_l), (1, .agg #[.int .i64 u7, .slice z8 B4 z7])]) rfl fun w L hR => ?_
 obtain ⟨hl, P2, C4⟩ := hR
 obtain ⟨rfl, ll⟩ := hl.slen
 obtain ⟨rfl, W8⟩ := C4.slen
 refine Ew Z2 (Est rfl (N.box (cs := [_, _]) rfl dc rfl) (fun b3 _ => (Ei rfl (Ev Z4 (Em rfl (Ey rfl ((Y.fn (vs := [_]) rfl).yd) (Est rfl (l0 (a5k (f := (fun z => decide (z = (u7, w9)))) (D_f := (fun _ => True)) (by intros; exact trivial)) rfl rfl rfl dc (fun w Lp hA => ⟨hA.ro hl, b1V (D := (fun _ => True)) (fun hd => a6O) (fun w' hk => ⟨(hA.pt m0).keep hk, P2, (hA.ro C4).keep hk⟩)⟩)) (fun _ _ => (Ei rfl ?_)))))))))
 exact Eu (E.ret (Fb rfl rfl (by rfl)))
theorem a8O {a_log : Option Addr} {m_log c_log : Nat} {log : List (Int × List Int)} : Tr Tryz.prog 86 [.slice a_log m_log c_log, .agg #[.int .i64 u7, .slice z8 B4 z7]] (fun w L => Ro w L w5 [.slice a_log m_log c_log] log ∧ I64 u7 ∧ Ro w L eIs [.slice z8 B4 z7] w9) [] (κ := Unit) (fun k => True) (fun k => .bool (Q5 log (u7, w9))) (fun k => []) := by
 refine Tr.intro Tryz.func86 rfl (n := 18) rfl (by decide +kernel) bl (fr := [(0, .slice a_log m_log c_log), (1, .agg #[.int .i64 u7, .slice z8 B4 z7])]) rfl fun w L hR => ?_
 obtain ⟨hlog, P2, C4⟩ := hR
 obtain ⟨rfl, llog⟩ := hlog.slen
 obtain ⟨rfl, W8⟩ := C4.slen
 refine Ew Z2 (Est rfl (N.box (cs := [_, _]) rfl dc rfl) (fun b3 _ => (Ei rfl (Eu (Eq_ (Ew Z1 (Ei rfl (Eu (E.block (E.loop (κ := Nat) (fun g => g ≤ log.length ∧ Q5 log (u7, w9) = Q5 (log.drop g) (u7, w9)) (fun g => [(0, .slice a_log log.length c_log), (3, .pointer (some ⟨b3, 0, none⟩)), (5, .int .i64 (g : Int))]) (fun g => [pt b3 105 [.int .i64 u7, .slice z8 w9.length z7]]) (fun g => log.length - g) 0 ⟨Nat.zero_le _, by simp⟩ ⟨rfl, rfl, rfl, trivial⟩ (.refl _) (fun g pg => ?_)))))))))))
 obtain ⟨pk, pa⟩ := pg
 refine Eq_ (Ew Z4 (Em rfl (Em rfl (Ey rfl ((Y.len us_Accesss rfl).yd) (Ey rfl ((Y.lss rfl rfl).yd) (o3 (fun q9 => ?_) (fun q9 => ?_)))))))
 ·refine Eu (n8 rfl (i7 (Et (Eq_ (E.block (Eq_ (D.region (fun j => true) mixed (Dyp 0 rfl (i8 rfl) (Dyp 1 rfl (i8 rfl) ?_)))))))))
  obtain ⟨eb14, eo14, ec14, ea14, er14, el14, eh14⟩ := hlog.elem g om
  obtain ⟨xa14_0, xc14_0, rfl, ei14_0, xh14_0⟩ := a2n er14
  have := xh14_0.slen.2
  refine Dyp 2 rfl (v8 us_Accesss ty_Access rfl ea14 rfl g rfl om) (Dy 3 rfl (o6 (cs := [_, _]) ty_Access rfl (eh14 _) rfl) (Dy 4 rfl (o6 (cs := [_, _]) ty_Access rfl (Has.pt m0) rfl) (t6 5 rfl rfl kr (fun _ => rfl) (l0 b0F rfl rfl rfl dc (fun w Lp hA => ⟨ei14_0, hA.ro xh14_0, P2, hA.ro C4⟩)) (fun _ _ => (Ent.b (fun q17 => ?_) (fun q17 => ?_))))))
  ·refine r9 kr (Et (n8 rfl (Ew Z1 (Ei rfl ?_))))
   exact Eu (E.ret (y8 (n0 (n0 (y8 (n0 (Fb rfl rfl (by grind [Q5, d1, d2, t1, t2]))))))))
  ·refine r9 kr (Et (o0 rfl (i7 (s9 (Et (Ez Z3 (Em rfl (Ey rfl ((Y.add rfl rfl om om).yd) (Ei rfl ?_)))))))))
   exact Eu (x6 br (g + 1) rs (.refl _) ⟨by omega, by grind [Q5, d1, d2, t1, t2]⟩ om)
 ·refine Eu (o0 rfl (E.exit (q1 (q1 (y4 (Et (Ew Z1 (Ei rfl ?_))))))))
  exact Eu (E.ret (Fb rfl rfl (by grind [Q5, d1, d2, t1, t2])))
theorem a2Q {m : Int} (hz : j5.length ≤ 1048576) : Tr Tryz.prog 84 [.int .i64 m, .slice a_values m_values c_values] (fun w L => I64 m ∧ Ro w L eIs [.slice a_values m_values c_values] j5) [] (κ := Option Addr × Nat × Nat) (fun k => True) (fun k => .agg #[.int .i64 m, .slice k.1 k.2.1 k.2.2]) (fun k => [ow eIs [.slice k.1 k.2.1 k.2.2] j5]) := by
 refine Tr.intro Tryz.func84 rfl (n := 10) rfl (by decide +kernel) bl (fr := [(0, .int .i64 m), (1, .slice a_values m_values c_values)]) rfl fun w L hR => ?_
 obtain ⟨i6m, hvalues⟩ := hR
 obtain ⟨rfl, lvalues⟩ := hvalues.slen
 refine Ew Z1 (Est rfl (N.alloc ty_Access dc) (fun b4 _ => (Ev Z6 (Em rfl (Est rfl (Nb [] [] us_Is f9 rfl rfl) (fun b6 _ => (Ent.drop (Em rfl (Est rfl (W1 (E := Enc.int) Plain.int us_Is f9 rfl rfl rfl hvalues bn bn dc) (fun p8 _ => (Ey rfl ((I2 (pvs := [_, _]) (cs := [_, _]) ty_Access a6Z rfl rfl).yd) (d9 (Est rfl (Ns [_, _] ty_Access rfl) (fun _ _ => (Eu (E.ret (d9 ?_)))))))))))))))))
 exact O2 br rfl rfl (mS m0) ty_Access rfl (_, _, _) trivial rfl (J := _) (.refl _) (.inl rfl)
theorem b1t (hv : j5.length ≤ 10) (hn : 0 ≤ n ∧ n ≤ 3) : Tr Tryz.prog 370 [.slice a_values m_values c_values, .int .i64 n] (fun w L => Ro w L eIs [.slice a_values m_values c_values] j5) [] (κ := Option Addr × Nat × Nat) (fun k => True) (fun k => .slice k.1 k.2.1 k.2.2) (fun k => [ow X3 [.slice k.1 k.2.1 k.2.2] (o2 j5 n.toNat)]) := by
 refine Tr.intro Tryz.func370 rfl (n := 42) rfl (by decide +kernel) bl (fr := [(0, .slice a_values m_values c_values), (1, .int .i64 n)]) rfl fun w L hR => ?_
 have hvalues := hR
 obtain ⟨rfl, lvalues⟩ := hvalues.slen
 have ji := hvalues.i64
 refine Ew Z1 (Ei rfl (Ev Z3 (Est rfl (Nb [] [] us_Is f9 rfl rfl) (fun b11 _ => (Ent.drop (Est rfl (Nb [_] [_] us_Iss ty_Is rfl rfl) (fun b12 _ => (u9 (A := _ :: _) (a2a (E := eIs) (e := tIs) Own.nil) rfl (Ei rfl (Eu (Eq_ (Ew Z2 (Em rfl (Em rfl (Eu (E.block (j4 (congrArg (ow X3 [_]) (show [[]] = o2 j5 0 from by first | rfl | (simp; done) | grind [o2, R5, M4, d1, d2, t1, t2])) (E.loop (κ := Nat × Option Addr × Nat × Nat) (fun t => t.1 ≤ n.toNat ∧ True) (fun t => [(0, .slice a_values j5.length c_values), (5, .slice t.2.1 t.2.2.1 t.2.2.2), (13, .int .i64 n), (14, .int .i64 (↑t.1 : Int))]) (fun t => [ow X3 [.slice t.2.1 t.2.2.1 t.2.2.2] (o2 j5 t.1)]) (fun t => n.toNat - t.1) (0, (some ⟨b12, 0, none⟩), 1, 1) ⟨Nat.zero_le _, by simp⟩ ⟨rfl, rfl, rfl, rfl, trivial⟩ (.refl _) (fun t pt => ?_)))))))))))))))))))
 obtain ⟨t, aA0_0, mA0_0, cA0_0⟩ := t
 try dsimp only at pt
 try dsimp only
 obtain ⟨pk, pa⟩ := pt
 refine d7 m0 fun eaA0_0 laA0_0 => ?_
 subst eaA0_0
 have jl := a4h (j5 := j5) (t := t) hv om
 refine Ew Z1 (Ey rfl ((Y.lss rfl rfl).yd) (o3 (fun q15 => ?_) (fun q15 => ?_)))
 ·refine P3 (A := [_]) rfl fun wb1 Lb1 hB1 hA1 => ?_
  have hvalues := hA1.ro hvalues
  have rb1 : Ro wb1 Lb1 X3 [.slice aA0_0 (o2 j5 t).length cA0_0] (o2 j5 t) := hA1.ow m0
  refine Eu (Eq_ (n8 rfl (i7 (Et (Eq_ (E.block (Ew Z2 (Est rfl (Nb [] [] us_Iss ty_Is rfl rfl) (fun b16 _ => (Ent.drop (Ei rfl (Eu (Eq_ (Ew Z3 (Em rfl (Ey rfl ((Y.len us_Iss rfl).yd) (Em rfl (Eu (E.block (u9 (A := []) (Own.nil (E := eIs) (e := tIs) (a := (some ⟨b16, 0, none⟩))) rfl (j4 (congrArg (ow X3 [_]) (show [] = ((o2 j5 t).take 0).flatMap (fun l => j5.map (fun v => l ++ [v])) from by first | rfl | (simp; done) | grind [o2, R5, M4, d1, d2, t1, t2])) (E.loop (κ := Nat × Option Addr × Nat × Nat) (fun k => k.1 ≤ (o2 j5 t).length ∧ True) (fun k => [(0, .slice a_values j5.length c_values), (6, .slice k.2.1 k.2.2.1 k.2.2.2), (13, .int .i64 n), (14, .int .i64 (t : Int)), (17, .slice aA0_0 (o2 j5 t).length cA0_0), (18, .int .i64 (↑((o2 j5 t).length) : Int)), (19, .int .i64 (↑k.1 : Int))]) (fun k => [ow X3 [.slice k.2.1 k.2.2.1 k.2.2.2] (((o2 j5 t).take k.1).flatMap (fun l => j5.map (fun v => l ++ [v])))]) (fun k => (o2 j5 t).length - k.1) (0, (some ⟨b16, 0, none⟩), 0, 0) ⟨Nat.zero_le _, by simp⟩ ⟨rfl, rfl, rfl, rfl, rfl, rfl, rfl, trivial⟩ (.refl _) (fun k pk => ?_)))))))))))))))))))))))
  obtain ⟨k, aA1_0, mA1_0, cA1_0⟩ := k
  try dsimp only at pk
  try dsimp only
  obtain ⟨pk, pa⟩ := pk
  refine d7 m0 fun eaA1_0 laA1_0 => ?_
  subst eaA1_0
  have jk := a6K (j5 := j5) (l := o2 j5 t) (k := k) hv
  refine Ew Z1 (Ey rfl ((Y.lss rfl rfl).yd) (o3 (fun q20 => ?_) (fun q20 => ?_)))
  ·obtain ⟨eb21, eo21, ec21, ea21, er21, el21, eh21⟩ := rb1.elem k om
   obtain ⟨xa21, xc21, rfl⟩ := er21.sl
   have := er21.slen.2
   refine Eu (Eq_ (n8 rfl (i7 (Et (Eq_ (E.block (Ew Z3 (Ey rfl ((v8 us_Iss ty_Is rfl ea21 rfl k rfl om).yd) (Ey rfl (g9 ty_Is rfl (eh21 _) rfl) (Ei rfl (Ev Z3 (Em rfl (Ey rfl ((Y.len us_Is rfl).yd) (Em rfl (Eu (E.block (j4 (congrArg (ow X3 [_]) (show ((o2 j5 t).take k).flatMap (fun l => j5.map (fun v => l ++ [v])) = ((o2 j5 t).take k).flatMap (fun l => j5.map (fun v => l ++ [v])) ++ (j5.take 0).map (fun v => (o2 j5 t)[k] ++ [v]) from by first | rfl | (simp; done) | grind [o2, R5, M4, d1, d2, t1, t2])) (E.loop (κ := Nat × Option Addr × Nat × Nat) (fun j => j.1 ≤ j5.length ∧ True) (fun j => [(0, .slice a_values j5.length c_values), (6, .slice j.2.1 j.2.2.1 j.2.2.2), (8, .slice xa21 ((o2 j5 t)[k].length) xc21), (13, .int .i64 n), (14, .int .i64 (t : Int)), (17, .slice aA0_0 (o2 j5 t).length cA0_0), (18, .int .i64 (↑((o2 j5 t).length) : Int)), (19, .int .i64 (k : Int)), (23, .slice a_values j5.length c_values), (24, .int .i64 (↑j5.length : Int)), (25, .int .i64 (↑j.1 : Int))]) (fun j => [ow X3 [.slice j.2.1 j.2.2.1 j.2.2.2] (((o2 j5 t).take k).flatMap (fun l => j5.map (fun v => l ++ [v])) ++ (j5.take j.1).map (fun v => (o2 j5 t)[k] ++ [v]))]) (fun j => j5.length - j.1) (0, aA1_0, (((o2 j5 t).take k).flatMap (fun l => j5.map (fun v => l ++ [v]))).length, cA1_0) ⟨Nat.zero_le _, by simp⟩ ⟨rfl, rfl, rfl, rfl, rfl, rfl, rfl, rfl, rfl, rfl, rfl, trivial⟩ (.refl _) (fun j pj => ?_)))))))))))))))))))
   obtain ⟨j, aA2_0, mA2_0, cA2_0⟩ := j
   try dsimp only at pj
   try dsimp only
   obtain ⟨pk, pa⟩ := pj
   have jm := M4 (j5 := j5) (t := t) _ (List.getElem_mem (l := o2 j5 t) (n := k) om)
   refine d7 m0 fun eaA2_0 laA2_0 => ?_
   subst eaA2_0
   refine Ew Z1 (Ey rfl ((Y.lss rfl rfl).yd) (o3 (fun q26 => ?_) (fun q26 => ?_)))
   ·obtain ⟨eb27, eo27, ea27, ei27, eh27⟩ := hvalues.elemI j om
    refine Eu (Eq_ (n8 rfl (i7 (Et (Eq_ (E.block (Ew Z3 (Ey rfl ((v8 us_Is f9 rfl ea27 rfl j rfl om).yd) (Ey rfl (g9 f9 rfl (eh27 _) rfl) (Ei rfl (Eu (Ez Z9 (Em rfl (Em rfl (Est rfl (N.call (a5Y fc) rfl rfl rfl dc rfl (fun w Lp hA => hA.ro er21)) (fun k31 _ => ?_))))))))))))))))
    obtain ⟨a31, m31, c31⟩ := k31
    refine d7 m0 fun e31 l31 => ?_
    subst e31
    refine Em rfl (Est rfl (Nb [_] [_] us_Is f9 rfl rfl) (fun b33 _ => (d9 (Est rfl (C7 (E := Enc.int) (ex := j5[j]) us_Is f9 rfl rfl rfl (Own.int ei27) rfl bn bn dc) (fun p34 _ => (Est rfl (Nb [_] [_] us_Iss ty_Is rfl rfl) (fun b35 _ => (d9 (d9 (j8 (Est rfl (C7 (E := eIs) (ex := ((o2 j5 t)[k]) ++ [j5[j]]) us_Iss ty_Is rfl rfl rfl Own.ow rfl bn bn dc) (fun p36 _ => (Ei rfl (En (s9 (Et (Ez Z2 (Ey rfl ((Y.add rfl rfl om om).yd) (Em rfl (Eu (j4 (congrArg (ow X3 [_]) (show (((o2 j5 t).take k).flatMap (fun l => j5.map (fun v => l ++ [v])) ++ (j5.take j).map (fun v => (o2 j5 t)[k] ++ [v])) ++ [((o2 j5 t)[k]) ++ [j5[j]]] = ((o2 j5 t).take k).flatMap (fun l => j5.map (fun v => l ++ [v])) ++ (j5.take (j + 1)).map (fun v => (o2 j5 t)[k] ++ [v]) from by grind [o2, R5, M4, d1, d2, t1, t2])) ?_)))))))))))))))))))))
    exact Ea (j + 1, p36.1, ((((o2 j5 t).take k).flatMap (fun l => j5.map (fun v => l ++ [v])) ++ (j5.take j).map (fun v => (o2 j5 t)[k] ++ [v])).length + 1), p36.2) ⟨oz, trivial⟩
   ·refine Eu (Eq_ (o0 rfl (E.exit (q1 (q1 (y4 (s9 (Et (Ez Z2 (Ey rfl ((Y.add rfl rfl om om).yd) (Em rfl (Eu (j4 (congrArg (ow X3 [_]) (show ((o2 j5 t).take k).flatMap (fun l => j5.map (fun v => l ++ [v])) ++ (j5.take j).map (fun v => (o2 j5 t)[k] ++ [v]) = ((o2 j5 t).take (k + 1)).flatMap (fun l => j5.map (fun v => l ++ [v])) from by grind [o2, R5, M4, d1, d2, t1, t2])) ?_)))))))))))))
    exact Ea (k + 1, aA2_0, (((o2 j5 t).take k).flatMap (fun l => j5.map (fun v => l ++ [v])) ++ (j5.take j).map (fun v => (o2 j5 t)[k] ++ [v])).length, cA2_0) ⟨oz, trivial⟩
  ·refine Eu (Eq_ (o0 rfl (E.exit (q1 (q1 (y4 (Et (Ez Z2 (Em rfl (Ei rfl (En (s9 (Et (Ez Z2 (Ey rfl ((Y.add rfl rfl om om).yd) (Em rfl (Eu (j4 (congrArg (ow X3 [_]) (show ((o2 j5 t).take k).flatMap (fun l => j5.map (fun v => l ++ [v])) = o2 j5 (t + 1) from by grind [o2, R5, M4, d1, d2, t1, t2])) ?_))))))))))))))))))
   exact x6 hB1 (t + 1, aA1_0, (((o2 j5 t).take k).flatMap (fun l => j5.map (fun v => l ++ [v]))).length, cA1_0) rs (.refl _) ⟨oz, trivial⟩ oz
 ·refine Eu (Eq_ (o0 rfl (E.exit (q1 (q1 (y4 (Et (Ew Z2 (Em rfl (Ei rfl (Eu (E.ret (j4 (congrArg (ow X3 [_]) (show _ = o2 j5 n.toNat by grind [o2, R5, M4, d1, d2, t1, t2])) ?_)))))))))))))
  exact Fg rfl rfl (_, _, _) rfl rfl
theorem a9m (hv : j5.length ≤ 10) (hn : 0 ≤ n ∧ n ≤ 3) : Tr Tryz.prog 336 [.slice a_values m_values c_values, .int .i64 n] (fun w L => Ro w L eIs [.slice a_values m_values c_values] j5) [] (κ := Option Addr × Nat × Nat) (fun k => True) (fun k => .slice k.1 k.2.1 k.2.2) (fun k => [ow X3 [.slice k.1 k.2.1 k.2.2] (o2 j5 n.toNat)]) := by
 refine Tr.intro Tryz.func336 rfl (n := 47) rfl (by decide +kernel) bl (fr := [(0, .slice a_values m_values c_values), (1, .int .i64 n)]) rfl fun w L hR => ?_
 have hvalues := hR
 obtain ⟨rfl, lvalues⟩ := hvalues.slen
 have ji := hvalues.i64
 refine Ew Z1 (Ei rfl (Ev Z3 (Est rfl (Nb [] [] us_Is f9 rfl rfl) (fun b10 _ => (Ent.drop (Est rfl (Nb [_] [_] us_Iss ty_Is rfl rfl) (fun b11 _ => (u9 (A := _ :: _) (a2a (E := eIs) (e := tIs) Own.nil) rfl (Ei rfl (Eu (Eq_ (Ew Z1 (Ei rfl (Eu (E.block (j4 (congrArg (ow X3 [_]) (show [[]] = o2 j5 0 from by first | rfl | (simp; done) | grind [o2, R5, M4, d1, d2, t1, t2])) (E.loop (κ := Nat × Option Addr × Nat × Nat) (fun t => t.1 ≤ n.toNat ∧ True) (fun t => [(0, .slice a_values j5.length c_values), (1, .int .i64 n), (5, .slice t.2.1 t.2.2.1 t.2.2.2), (6, .int .i64 (↑t.1 : Int))]) (fun t => [ow X3 [.slice t.2.1 t.2.2.1 t.2.2.2] (o2 j5 t.1)]) (fun t => n.toNat - t.1) (0, (some ⟨b11, 0, none⟩), 1, 1) ⟨Nat.zero_le _, by simp⟩ ⟨rfl, rfl, rfl, rfl, trivial⟩ (.refl _) (fun t pt => ?_))))))))))))))))))
 obtain ⟨t, aA0_0, mA0_0, cA0_0⟩ := t
 try dsimp only at pt
 try dsimp only
 obtain ⟨pk, pa⟩ := pt
 refine d7 m0 fun eaA0_0 laA0_0 => ?_
 subst eaA0_0
 have jl := a4h (j5 := j5) (t := t) hv om
 refine Eq_ (Ew Z3 (Em rfl (Em rfl (Ey rfl ((Y.lss rfl rfl).yd) (o3 (fun q14 => ?_) (fun q14 => ?_))))))
 ·refine P3 (A := [_]) rfl fun wb2 Lb2 hB2 hA2 => ?_
  have hvalues := hA2.ro hvalues
  have rb2 : Ro wb2 Lb2 X3 [.slice aA0_0 (o2 j5 t).length cA0_0] (o2 j5 t) := hA2.ow m0
  refine Eu (n8 rfl (i7 (Et (Eq_ (E.block (Ew Z2 (Est rfl (Nb [] [] us_Iss ty_Is rfl rfl) (fun b17 _ => (Ent.drop (Ei rfl (Eu (Eq_ (Ew Z1 (Ei rfl (Eu (E.block (u9 (A := []) (Own.nil (E := eIs) (e := tIs) (a := (some ⟨b17, 0, none⟩))) rfl (j4 (congrArg (ow X3 [_]) (show [] = ((o2 j5 t).take 0).flatMap (fun l => j5.map (fun v => l ++ [v])) from by first | rfl | (simp; done) | grind [o2, R5, M4, d1, d2, t1, t2])) (E.loop (κ := Nat × Option Addr × Nat × Nat) (fun k => k.1 ≤ (o2 j5 t).length ∧ True) (fun k => [(0, .slice a_values j5.length c_values), (1, .int .i64 n), (5, .slice aA0_0 (o2 j5 t).length cA0_0), (6, .int .i64 (t : Int)), (7, .slice k.2.1 k.2.2.1 k.2.2.2), (8, .int .i64 (↑k.1 : Int))]) (fun k => [ow X3 [.slice k.2.1 k.2.2.1 k.2.2.2] (((o2 j5 t).take k.1).flatMap (fun l => j5.map (fun v => l ++ [v])))]) (fun k => (o2 j5 t).length - k.1) (0, (some ⟨b17, 0, none⟩), 0, 0) ⟨Nat.zero_le _, by simp⟩ ⟨rfl, rfl, rfl, rfl, rfl, rfl, trivial⟩ (.refl _) (fun k pk => ?_))))))))))))))))))))
  obtain ⟨k, aA1_0, mA1_0, cA1_0⟩ := k
  try dsimp only at pk
  try dsimp only
  obtain ⟨pk, pa⟩ := pk
  refine d7 m0 fun eaA1_0 laA1_0 => ?_
  subst eaA1_0
  have jk := a6K (j5 := j5) (l := o2 j5 t) (k := k) hv
  refine Eq_ (Ew Z4 (Em rfl (Em rfl (Ey rfl ((Y.len us_Iss rfl).yd) (Ey rfl ((Y.lss rfl rfl).yd) (o3 (fun q21 => ?_) (fun q21 => ?_)))))))
  ·refine Eu (n8 rfl (i7 (Et (Eq_ (E.block (Ew Z1 (Ei rfl (Eu (E.block (j4 (congrArg (ow X3 [_]) (show ((o2 j5 t).take k).flatMap (fun l => j5.map (fun v => l ++ [v])) = ((o2 j5 t).take k).flatMap (fun l => j5.map (fun v => l ++ [v])) ++ (j5.take 0).map (fun v => (o2 j5 t)[k] ++ [v]) from by first | rfl | (simp; done) | grind [o2, R5, M4, d1, d2, t1, t2])) (E.loop (κ := Nat × Option Addr × Nat × Nat) (fun j => j.1 ≤ j5.length ∧ True) (fun j => [(0, .slice a_values j5.length c_values), (1, .int .i64 n), (5, .slice aA0_0 (o2 j5 t).length cA0_0), (6, .int .i64 (t : Int)), (7, .slice j.2.1 j.2.2.1 j.2.2.2), (8, .int .i64 (k : Int)), (9, .int .i64 (↑j.1 : Int))]) (fun j => [ow X3 [.slice j.2.1 j.2.2.1 j.2.2.2] (((o2 j5 t).take k).flatMap (fun l => j5.map (fun v => l ++ [v])) ++ (j5.take j.1).map (fun v => (o2 j5 t)[k] ++ [v]))]) (fun j => j5.length - j.1) (0, aA1_0, (((o2 j5 t).take k).flatMap (fun l => j5.map (fun v => l ++ [v]))).length, cA1_0) ⟨Nat.zero_le _, by simp⟩ ⟨rfl, rfl, rfl, rfl, rfl, rfl, rfl, trivial⟩ (.refl _) (fun j pj => ?_))))))))))))
   obtain ⟨j, aA2_0, mA2_0, cA2_0⟩ := j
   try dsimp only at pj
   try dsimp only
   obtain ⟨pk, pa⟩ := pj
   have jm := M4 (j5 := j5) (t := t) _ (List.getElem_mem (l := o2 j5 t) (n := k) om)
   refine d7 m0 fun eaA2_0 laA2_0 => ?_
   subst eaA2_0
   refine Eq_ (Ew Z4 (Em rfl (Em rfl (Ey rfl ((Y.len us_Is rfl).yd) (Ey rfl ((Y.lss rfl rfl).yd) (o3 (fun q27 => ?_) (fun q27 => ?_)))))))
   ·refine Eu (n8 rfl (i7 (Et (Eq_ (E.block (a7q (κ := (Option Addr × Nat)) (fun _ => True) (fun kM => [(0, .slice a_values j5.length c_values), (1, .int .i64 n), (5, .slice aA0_0 (o2 j5 t).length cA0_0), (6, .int .i64 (t : Int)), (7, .slice kM.1 ((((o2 j5 t).take k).flatMap (fun l => j5.map (fun v => l ++ [v])) ++ (j5.take j).map (fun v => (o2 j5 t)[k] ++ [v])).length + 1) kM.2), (8, .int .i64 (k : Int)), (9, .int .i64 (j : Int))]) (fun kM => [ow X3 [.slice kM.1 ((((o2 j5 t).take k).flatMap (fun l => j5.map (fun v => l ++ [v])) ++ (j5.take j).map (fun v => (o2 j5 t)[k] ++ [v])).length + 1) kM.2] ((((o2 j5 t).take k).flatMap (fun l => j5.map (fun v => l ++ [v])) ++ (j5.take j).map (fun v => (o2 j5 t)[k] ++ [v])) ++ [((o2 j5 t)[k]) ++ [j5[j]]])]) ?_ (fun p44 _ => ?_)))))))
    ·refine D.region (fun j => !(Nat.beq j 12) && !(Nat.beq j 14)) mixed (Dyp 0 rfl (i8 rfl) (Dyp 2 rfl (i8 rfl) (Dyp 3 rfl (i8 rfl) ?_)))
     obtain ⟨eb34, eo34, ec34, ea34, er34, el34, eh34⟩ := rb2.elem k om
     obtain ⟨xa34, xc34, rfl⟩ := er34.sl
     have := er34.slen.2
     refine Dyp 4 rfl (v8 us_Iss ty_Is rfl ea34 rfl k rfl om) (Dy 5 rfl (g9 ty_Is rfl (eh34 _) rfl) (Dyp 7 rfl (i8 rfl) (Dyp 8 rfl (i8 rfl) ?_)))
     obtain ⟨eb39, eo39, ea39, ei39, eh39⟩ := hvalues.elemI j om
     refine Dyp 9 rfl (v8 us_Is f9 rfl ea39 rfl j rfl om) (Dy 10 rfl (g9 f9 rfl (eh39 _) rfl) (a3Y (i := 1) (j := 11) kr ?_ ?_))
     ·refine a1c 1 rfl rfl (fun _ => rfl) (Nb [] [] us_Is f9 rfl rfl) (fun b31 _ => (Ent.drop (a3Y (i := 6) (j := 11) kr ?_ ?_)))
      ·refine a1c 6 rfl rfl (fun _ => rfl) (W1 (E := Enc.int) Plain.int us_Is f9 rfl rfl rfl er34 bn bn dc) (fun p36 _ => (t6 11 rfl rfl kr (fun _ => rfl) (Nb [_] [_] us_Is f9 rfl rfl) (fun b41 _ => (d9 (t6 12 rfl rfl kr (fun h => by cases h) (C7 (E := Enc.int) (ex := j5[j]) us_Is f9 rfl rfl rfl (Own.int ei39) rfl bn bn dc) (fun p42 _ => (t6 13 rfl rfl kr (fun _ => rfl) (Nb [_] [_] us_Iss ty_Is rfl rfl) (fun b43 _ => (d9 (d9 (j8 (t6 14 rfl rfl kr (fun h => by cases h) (C7 (E := eIs) (ex := ((o2 j5 t)[k]) ++ [j5[j]]) us_Iss ty_Is rfl rfl rfl Own.ow rfl bn bn dc) (fun p44 _ => (Dyp 15 rfl (C2 rfl) ?_))))))))))))))
       exact r9 kr (a0v p44 trivial ⟨rfl, rfl, rfl, rfl, rfl, rfl, rfl, trivial⟩ (.refl _))
      ·refine a1c 11 rfl rfl (fun _ => rfl) (Nb [_] [_] us_Is f9 rfl rfl) (fun b41 _ => (t6 6 rfl rfl kr (fun _ => rfl) (W1 (E := Enc.int) Plain.int us_Is f9 rfl rfl rfl er34 bn bn dc) (fun p36 _ => (d9 (d9 (t6 12 rfl rfl kr (fun h => by cases h) (C7 (E := Enc.int) (ex := j5[j]) us_Is f9 rfl rfl rfl (Own.int ei39) rfl bn bn dc) (fun p42 _ => (t6 13 rfl rfl kr (fun _ => rfl) (Nb [_] [_] us_Iss ty_Is rfl rfl) (fun b43 _ => (d9 (d9 (j8 (t6 14 rfl rfl kr (fun h => by cases h) (C7 (E := eIs) (ex := ((o2 j5 t)[k]) ++ [j5[j]]) us_Iss ty_Is rfl rfl rfl Own.ow rfl bn bn dc) (fun p44 _ => (Dyp 15 rfl (C2 rfl) ?_)))))))))))))))
       exact r9 kr (a0v p44 trivial ⟨rfl, rfl, rfl, rfl, rfl, rfl, rfl, trivial⟩ (.refl _))
     ·refine a1c 11 rfl rfl (fun _ => rfl) (Nb [_] [_] us_Is f9 rfl rfl) (fun b41 _ => (t6 1 rfl rfl kr (fun _ => rfl) (Nb [] [] us_Is f9 rfl rfl) (fun b31 _ => (Ent.drop (t6 6 rfl rfl kr (fun _ => rfl) (W1 (E := Enc.int) Plain.int us_Is f9 rfl rfl rfl er34 bn bn dc) (fun p36 _ => (d9 (d9 (t6 12 rfl rfl kr (fun h => by cases h) (C7 (E := Enc.int) (ex := j5[j]) us_Is f9 rfl rfl rfl (Own.int ei39) rfl bn bn dc) (fun p42 _ => (t6 13 rfl rfl kr (fun _ => rfl) (Nb [_] [_] us_Iss ty_Is rfl rfl) (fun b43 _ => (d9 (d9 (j8 (t6 14 rfl rfl kr (fun h => by cases h) (C7 (E := eIs) (ex := ((o2 j5 t)[k]) ++ [j5[j]]) us_Iss ty_Is rfl rfl rfl Own.ow rfl bn bn dc) (fun p44 _ => (Dyp 15 rfl (C2 rfl) ?_))))))))))))))))))
      exact r9 kr (a0v p44 trivial ⟨rfl, rfl, rfl, rfl, rfl, rfl, rfl, trivial⟩ (.refl _))
    ·show Ent _ _ _ [(0, .slice a_values j5.length c_values), (1, .int .i64 n), (5, .slice aA0_0 (o2 j5 t).length cA0_0), (6, .int .i64 (t : Int)), (7, .slice p44.1 ((((o2 j5 t).take k).flatMap (fun l => j5.map (fun v => l ++ [v])) ++ (j5.take j).map (fun v => (o2 j5 t)[k] ++ [v])).length + 1) p44.2), (8, .int .i64 (k : Int)), (9, .int .i64 (j : Int))] [ow X3 [.slice p44.1 ((((o2 j5 t).take k).flatMap (fun l => j5.map (fun v => l ++ [v])) ++ (j5.take j).map (fun v => (o2 j5 t)[k] ++ [v])).length + 1) p44.2] ((((o2 j5 t).take k).flatMap (fun l => j5.map (fun v => l ++ [v])) ++ (j5.take j).map (fun v => (o2 j5 t)[k] ++ [v])) ++ [((o2 j5 t)[k]) ++ [j5[j]]])] _
     refine s9 (Et (Ez Z3 (Em rfl (Ey rfl ((Y.add rfl rfl om om).yd) (Ei rfl (Eu (j4 (congrArg (ow X3 [_]) (show (((o2 j5 t).take k).flatMap (fun l => j5.map (fun v => l ++ [v])) ++ (j5.take j).map (fun v => (o2 j5 t)[k] ++ [v])) ++ [((o2 j5 t)[k]) ++ [j5[j]]] = ((o2 j5 t).take k).flatMap (fun l => j5.map (fun v => l ++ [v])) ++ (j5.take (j + 1)).map (fun v => (o2 j5 t)[k] ++ [v]) from by grind [o2, R5, M4, d1, d2, t1, t2])) ?_)))))))
     exact Ea (j + 1, p44.1, ((((o2 j5 t).take k).flatMap (fun l => j5.map (fun v => l ++ [v])) ++ (j5.take j).map (fun v => (o2 j5 t)[k] ++ [v])).length + 1), p44.2) ⟨oz, trivial⟩
   ·refine Eu (o0 rfl (E.exit (q1 (q1 (y4 (s9 (Et (Ez Z3 (Em rfl (Ey rfl ((Y.add rfl rfl om om).yd) (Ei rfl (Eu (j4 (congrArg (ow X3 [_]) (show ((o2 j5 t).take k).flatMap (fun l => j5.map (fun v => l ++ [v])) ++ (j5.take j).map (fun v => (o2 j5 t)[k] ++ [v]) = ((o2 j5 t).take (k + 1)).flatMap (fun l => j5.map (fun v => l ++ [v])) from by grind [o2, R5, M4, d1, d2, t1, t2])) ?_)))))))))))))
    exact Ea (k + 1, aA2_0, (((o2 j5 t).take k).flatMap (fun l => j5.map (fun v => l ++ [v])) ++ (j5.take j).map (fun v => (o2 j5 t)[k] ++ [v])).length, cA2_0) ⟨oz, trivial⟩
  ·refine Eu (o0 rfl (E.exit (q1 (q1 (y4 (Et (Ez Z2 (Em rfl (Ei rfl (En (s9 (Et (Ez Z3 (Em rfl (Ey rfl ((Y.add rfl rfl om om).yd) (Ei rfl (Eu (j4 (congrArg (ow X3 [_]) (show ((o2 j5 t).take k).flatMap (fun l => j5.map (fun v => l ++ [v])) = o2 j5 (t + 1) from by grind [o2, R5, M4, d1, d2, t1, t2])) ?_))))))))))))))))))
   exact x6 hB2 (t + 1, aA1_0, (((o2 j5 t).take k).flatMap (fun l => j5.map (fun v => l ++ [v]))).length, cA1_0) rs (.refl _) ⟨oz, trivial⟩ oz
 ·refine Eu (o0 rfl (E.exit (q1 (q1 (y4 (Et (Ew Z2 (Em rfl (Ei rfl (Eu (E.ret (j4 (congrArg (ow X3 [_]) (show _ = o2 j5 n.toNat by grind [o2, R5, M4, d1, d2, t1, t2])) ?_))))))))))))
  exact Fg rfl rfl (_, _, _) rfl rfl
theorem a6r (hv : d8.length ≤ 10) (hm : ∀ m ∈ l, m.2.1.length ≤ 3) (hl : l.length ≤ 5) : Tr Tryz.prog 332 [.agg #[.slice J0 R6 I9, .slice H5 P1 H4, .slice O9 Y2 O8, .int .i64 r_Rounds], .slice a_l m_l c_l] (fun w L => Ro w L m8 [.slice J0 R6 I9] w7 ∧ Ro w L eIs [.slice H5 P1 H4] d8 ∧ Ro w L w5 [.slice O9 Y2 O8] l3 ∧ I64 r_Rounds ∧ Ro w L F5 [.slice a_l m_l c_l] l) [] (κ := Option Addr × Nat × Nat) (fun k => True) (fun k => .slice k.1 k.2.1 k.2.2) (fun k => [ow w5 [.slice k.1 k.2.1 k.2.2] (c8 d8 l3 l 0)]) := by
 refine Tr.intro Tryz.func332 rfl (n := 48) rfl (by decide +kernel) bl (fr := [(0, .agg #[.slice J0 R6 I9, .slice H5 P1 H4, .slice O9 Y2 O8, .int .i64 r_Rounds]), (1, .slice a_l m_l c_l)]) rfl fun w L hR => ?_
 obtain ⟨J4, E9, S4, i6r_Rounds, hl⟩ := hR
 obtain ⟨rfl, a6a⟩ := J4.slen
 obtain ⟨rfl, a4Q⟩ := E9.slen
 obtain ⟨rfl, a8Z⟩ := S4.slen
 obtain ⟨rfl, ll⟩ := hl.slen
 refine Ew Z2 (Est rfl (N.box (cs := [_, _, _, _]) rfl dc rfl) (fun b2 _ => (Ei rfl (Ev Z2 (Est rfl (Nb [] [] us_Accesss ty_Access rfl rfl) (fun b11 _ => (Ent.drop (Ei rfl (Eu (Eq_ (Ew Z3 (Em rfl (Ey rfl ((Y.len us_Methods rfl).yd) (Em rfl (Eu (E.block (u9 (A := []) (Own.nil (E := F6) (e := tAccess) (a := (some ⟨b11, 0, none⟩))) rfl (j4 (congrArg (ow w5 [_]) (show [] = c8 d8 l3 (l.take 0) 0 from by first | rfl | (simp; done) | grind [c8, N0, a0a, d1, d2, t1, t2])) (E.loop (κ := Nat × Option Addr × Nat × Nat) (fun g => g.1 ≤ l.length ∧ True) (fun g => [(2, .pointer (some ⟨b2, 0, none⟩)), (5, .slice g.2.1 g.2.2.1 g.2.2.2), (12, .slice a_l l.length c_l), (13, .int .i64 (↑l.length : Int)), (14, .int .i64 (↑g.1 : Int))]) (fun g => [ow w5 [.slice g.2.1 g.2.2.1 g.2.2.2] (c8 d8 l3 (l.take g.1) 0), pt b2 90 [.slice J0 w7.length I9, .slice H5 d8.length H4, .slice O9 l3.length O8, .int .i64 r_Rounds]]) (fun g => l.length - g.1) (0, (some ⟨b11, 0, none⟩), 0, 0) ⟨Nat.zero_le _, by simp⟩ ⟨rfl, rfl, rfl, rfl, rfl, trivial⟩ (.refl _) (fun g pg => ?_))))))))))))))))))))
 obtain ⟨g, aA0_0, mA0_0, cA0_0⟩ := g
 try dsimp only at pg
 try dsimp only
 obtain ⟨pk, pa⟩ := pg
 refine d7 m0 fun eaA0_0 laA0_0 => ?_
 subst eaA0_0
 have jo := a2J (j5 := d8) (log := l3) (i := 0) hv (l := l.take g) (fun m h => hm m (List.mem_of_mem_take h))
 have jp := List.length_take_le g l
 refine Ew Z1 (Ey rfl ((Y.lss rfl rfl).yd) (o3 (fun q15 => ?_) (fun q15 => ?_)))
 ·refine Eu (Eq_ (n8 rfl (i7 (Et (Eq_ (E.block (Ew Z6 (Em rfl ?_))))))))
  obtain ⟨eb17, eo17, ec17, ea17, er17, el17, eh17⟩ := hl.elem g om
  obtain ⟨xa17_0, xc17_0, rfl, ei17_0, xh17_0, ei17_2, ei17_3, ei17_4⟩ := V6 er17
  have := xh17_0.slen.2
  refine Ey rfl ((v8 us_Methods ty_Method rfl ea17 rfl g rfl om).yd) (Ey rfl (o6 (cs := [_, _, _, _, _]) ty_Method rfl (eh17 _) rfl) (Est rfl (N.alloc ty_Method dc) (fun b7 _ => (Ei rfl (Est rfl (Ns [_, _, _, _, _] ty_Method rfl) (fun _ _ => (Eu (Eq_ (Ew Z3 (Ey rfl ((f5 fo_Method_2 f9 dc rfl).yd) (Ey rfl (g9 f9 rfl (Hz m0 2 rfl) rfl) (Ey rfl ((Y.neq rfl rfl).yd) (o3 (fun q21 => ?_) (fun q21 => ?_))))))))))))))
  ·refine Eu (n8 rfl (E.exit (q1 (y4 (Et (Ez Z2 (Ey rfl ((Y.add rfl rfl om om).yd) (Em rfl (Eu (Ent.drop (j4 (congrArg (ow w5 [_]) (show c8 d8 l3 (l.take g) 0 = c8 d8 l3 (l.take (g + 1)) 0 from by grind [c8, N0, a0a, d1, d2, t1, t2])) (d9 (d9 ?_)))))))))))))
   exact Ea (g + 1, aA0_0, (c8 d8 l3 (l.take g) 0).length, cA0_0) ⟨oz, trivial⟩
  ·refine Eu (o0 rfl (i7 (Et (Ew Z8 (Ey rfl ((f5 fo_Reached_1 ty_Is dc rfl).yd) (Ey rfl (g9 ty_Is rfl (Hz (mS (mS m0)) 1 rfl) rfl) (Ey rfl ((f5 fo_Method_1 ty_Is dc rfl).yd) (Ey rfl (g9 ty_Is rfl (Hz m0 1 rfl) rfl) (Ey rfl ((Y.len us_Is rfl).yd) ?_)))))))))
   have jm := hm l[g] (List.getElem_mem om)
   refine Est rfl (N.call (b1t fc fc) rfl rfl rfl dc rfl (fun w Lp hA => hA.ro E9)) (fun k27 _ => ?_)
   obtain ⟨a27, m27, c27⟩ := k27
   refine d7 m0 fun e27 l27 => ?_
   subst e27
   refine Ey rfl ((Y.len us_Iss rfl).yd) (Em rfl (Eu (E.block (j8 (j4 (congrArg (ow w5 [_]) (show c8 d8 l3 (l.take g) 0 = c8 d8 l3 (l.take g) 0 ++ (((o2 d8 l[g].2.1.length).take 0).filter (fun v => !Q5 l3 (↑g, v))).map (fun v => ((g : Int), v)) from by first | rfl | (simp; done) | grind [c8, N0, a0a, d1, d2, t1, t2])) (d9 (a2P (E.loop (κ := Nat × Option Addr × Nat × Nat) (fun h => h.1 ≤ (o2 d8 l[g].2.1.length).length ∧ True) (fun h => [(2, .pointer (some ⟨b2, 0, none⟩)), (5, .slice h.2.1 h.2.2.1 h.2.2.2), (6, .int .i64 (g : Int)), (12, .slice a_l l.length c_l), (13, .int .i64 (↑l.length : Int)), (14, .int .i64 (g : Int)), (27, .slice a27 (o2 d8 l[g].2.1.length).length c27), (28, .int .i64 (↑((o2 d8 l[g].2.1.length).length) : Int)), (29, .int .i64 (↑h.1 : Int))]) (fun h => [owd tIs eIs a27 ((o2 d8 l[g].2.1.length).length) c27 (o2 d8 l[g].2.1.length) h.1, ow w5 [.slice h.2.1 h.2.2.1 h.2.2.2] (c8 d8 l3 (l.take g) 0 ++ (((o2 d8 l[g].2.1.length).take h.1).filter (fun v => !Q5 l3 (↑g, v))).map (fun v => ((g : Int), v))), pt b7 125 [.int .i64 l[g].1, .slice xa17_0 l[g].2.1.length xc17_0, .int .i64 l[g].2.2.1, .int .i64 l[g].2.2.2.1, .int .i64 l[g].2.2.2.2], pt b2 90 [.slice J0 w7.length I9, .slice H5 d8.length H4, .slice O9 l3.length O8, .int .i64 r_Rounds]]) (fun h => (o2 d8 l[g].2.1.length).length - h.1) (0, aA0_0, (c8 d8 l3 (l.take g) 0).length, cA0_0) ⟨Nat.zero_le _, by simp⟩ ⟨rfl, rfl, rfl, rfl, rfl, rfl, rfl, rfl, rfl, trivial⟩ (.refl _) (fun h ph => ?_)))))))))
   obtain ⟨h, aA1_0, mA1_0, cA1_0⟩ := h
   try dsimp only at ph
   try dsimp only
   obtain ⟨pk, pa⟩ := ph
   have jl := a4h (j5 := d8) (t := l[g].2.1.length) hv (hm _ (List.getElem_mem om))
   have jf := List.length_filter_le (fun v => !Q5 l3 (↑g, v)) ((o2 d8 l[g].2.1.length).take h)
   have jt := List.length_take_le h (o2 d8 l[g].2.1.length)
   refine d7 (mS m0) fun eaA1_0 laA1_0 => ?_
   subst eaA1_0
   refine Ew Z1 (Ey rfl ((Y.lss rfl rfl).yd) (o3 (fun q30 => ?_) (fun q30 => ?_)))
   ·refine a2b m0 om fun ab31 ae31 => (a2N (j := h) om fun ce31 => (d9 (b7i fun oa31_0 om31_0 oc31_0 oe31 on31_0 => ?_)))
    subst oe31
    subst on31_0
    refine d7 m0 fun _ ol31_0 => (Eu (Eq_ (n8 rfl (i7 (Et (Eq_ (E.block (Ew Z3 (Ey rfl ((v8 us_Iss ty_Is rfl ae31 rfl h rfl om).yd) (Ey rfl (g9 ty_Is rfl (Has.owt ae31 (mS m0)) rfl) (Ei rfl (Ev Z5 (Em rfl (Em rfl (Ey rfl ((I2 (pvs := [_, _]) (cs := [_, _]) ty_Access a6Z rfl rfl).yd) (Est rfl (N.alloc ty_Access dc) (fun b10 _ => (Est rfl (Ns [_, _] ty_Access rfl) (fun _ _ => (Ev Z5 (Ey rfl ((f5 fo_Reached_2 ty_Accesss dc rfl).yd) (Ey rfl (g9 ty_Accesss rfl ((Has.pt (mS (mS (mS (mS (mS m0)))))).sub (cs' := [_]) 2 rfl) rfl) (Ey rfl (o6 (cs := [_, _]) ty_Access rfl (Has.pt m0) rfl) (Est rfl (l0 a7R rfl rfl rfl dc (fun w Lp hA => ⟨hA.ro S4, i6, hA.ow (mS m0)⟩)) (fun _ _ => (Ent.b (fun q39 => ?_) (fun q39 => ?_)))))))))))))))))))))))))))
    ·refine Ey rfl ((Y.not (b := true) rfl).yd) (Eu (o0 rfl (i7 (s9 (Et (Ez Z2 (Ey rfl ((Y.add rfl rfl om om).yd) (Em rfl (Eu (j8 (a1F (d9 (Ent.drop (d9 (Ent.drop (d9 (j4 (congrArg (ow w5 [_]) (show c8 d8 l3 (l.take g) 0 ++ (((o2 d8 l[g].2.1.length).take h).filter (fun v => !Q5 l3 (↑g, v))).map (fun v => ((g : Int), v)) = c8 d8 l3 (l.take g) 0 ++ (((o2 d8 l[g].2.1.length).take (h + 1)).filter (fun v => !Q5 l3 (↑g, v))).map (fun v => ((g : Int), v)) from by grind [c8, N0, a0a, d1, d2, t1, t2])) (o4 (o4 (j8 (o4 ?_)))))))))))))))))))))
     exact Ea (h + 1, aA1_0, (c8 d8 l3 (l.take g) 0 ++ (((o2 d8 l[g].2.1.length).take h).filter (fun v => !Q5 l3 (↑g, v))).map (fun v => ((g : Int), v))).length, cA1_0) ⟨oz, trivial⟩
    ·refine Ey rfl ((Y.not (b := false) rfl).yd) (Eu (n8 rfl (Ez Z5 (Em rfl (Ey rfl (o6 (cs := [_, _]) ty_Access rfl (Has.pt m0) rfl) (Est rfl (Nb [_] [_, _] us_Accesss ty_Access rfl rfl) (fun b43 _ => (j8 (d9 (j9 (Est rfl (C7 (E := F6) (ex := ((g : Int), (o2 d8 l[g].2.1.length)[h])) us_Accesss ty_Access rfl rfl rfl (a1k (x := ((g : Int), (o2 d8 l[g].2.1.length)[h])) i6 Own.ow) rfl bn bn dc) (fun p44 _ => (Ei rfl (En (s9 (Et (Ez Z2 (Ey rfl ((Y.add rfl rfl om om).yd) (Em rfl (Eu (j8 (a1F (j8 (Ent.drop (d9 (j4 (congrArg (ow w5 [_]) (show (c8 d8 l3 (l.take g) 0 ++ (((o2 d8 l[g].2.1.length).take h).filter (fun v => !Q5 l3 (↑g, v))).map (fun v => ((g : Int), v))) ++ [((g : Int), (o2 d8 l[g].2.1.length)[h])] = c8 d8 l3 (l.take g) 0 ++ (((o2 d8 l[g].2.1.length).take (h + 1)).filter (fun v => !Q5 l3 (↑g, v))).map (fun v => ((g : Int), v)) from by grind [c8, N0, a0a, d1, d2, t1, t2])) (o4 (o4 (j8 (o4 ?_))))))))))))))))))))))))))))))
     exact Ea (h + 1, p44.1, ((c8 d8 l3 (l.take g) 0 ++ (((o2 d8 l[g].2.1.length).take h).filter (fun v => !Q5 l3 (↑g, v))).map (fun v => ((g : Int), v))).length + 1), p44.2) ⟨oz, trivial⟩
   ·refine Eu (Eq_ (o0 rfl (E.exit (q1 (q1 (y4 (s9 (Et (Ez Z2 (Ey rfl ((Y.add rfl rfl om om).yd) (Em rfl (Eu (Ent.drop (d9 (Ent.drop (j4 (congrArg (ow w5 [_]) (show c8 d8 l3 (l.take g) 0 ++ (((o2 d8 l[g].2.1.length).take h).filter (fun v => !Q5 l3 (↑g, v))).map (fun v => ((g : Int), v)) = c8 d8 l3 (l.take (g + 1)) 0 from by grind [c8, N0, a0a, d1, d2, t1, t2])) (d9 (d9 ?_))))))))))))))))))
    exact Ea (g + 1, aA1_0, (c8 d8 l3 (l.take g) 0 ++ (((o2 d8 l[g].2.1.length).take h).filter (fun v => !Q5 l3 (↑g, v))).map (fun v => ((g : Int), v))).length, cA1_0) ⟨oz, trivial⟩
 ·refine Eu (Eq_ (o0 rfl (E.exit (q1 (q1 (y4 (Et (Ew Z2 (Em rfl (Ei rfl (Eu (E.ret (j4 (congrArg (ow w5 [_]) (show _ = c8 d8 l3 l 0 by grind [c8, N0, a0a, d1, d2, t1, t2])) ?_)))))))))))))
  exact Fg rfl rfl (_, _, _) rfl rfl
theorem a3J (hv : d8.length ≤ 10) (hm : ∀ m ∈ l, m.2.1.length ≤ 3) (hl : l.length ≤ 5) : Tr Tryz.prog 264 [.slice a_l m_l c_l, .agg #[.slice J0 R6 I9, .slice H5 P1 H4, .slice O9 Y2 O8, .int .i64 r_Rounds]] (fun w L => Ro w L F5 [.slice a_l m_l c_l] l ∧ Ro w L m8 [.slice J0 R6 I9] w7 ∧ Ro w L eIs [.slice H5 P1 H4] d8 ∧ Ro w L w5 [.slice O9 Y2 O8] l3 ∧ I64 r_Rounds) [] (κ := Option Addr × Nat × Nat) (fun k => True) (fun k => .slice k.1 k.2.1 k.2.2) (fun k => [ow w5 [.slice k.1 k.2.1 k.2.2] (c8 d8 l3 l 0)]) := by
 refine Tr.intro Tryz.func264 rfl (n := 54) rfl (by decide +kernel) bl (fr := [(0, .slice a_l m_l c_l), (1, .agg #[.slice J0 R6 I9, .slice H5 P1 H4, .slice O9 Y2 O8, .int .i64 r_Rounds])]) rfl fun w L hR => ?_
 obtain ⟨hl, J4, E9, S4, i6r_Rounds⟩ := hR
 obtain ⟨rfl, ll⟩ := hl.slen
 obtain ⟨rfl, a6a⟩ := J4.slen
 obtain ⟨rfl, a4Q⟩ := E9.slen
 obtain ⟨rfl, a8Z⟩ := S4.slen
 refine Ew Z2 (Est rfl (N.box (cs := [_, _, _, _]) rfl dc rfl) (fun b3 _ => (Ei rfl (Ev Z2 (Est rfl (Nb [] [] us_Accesss ty_Access rfl rfl) (fun b10 _ => (Ent.drop (Ei rfl (Eu (Eq_ (Ew Z1 (Ei rfl (Eu (E.block (u9 (A := []) (Own.nil (E := F6) (e := tAccess) (a := (some ⟨b10, 0, none⟩))) rfl (j4 (congrArg (ow w5 [_]) (show [] = c8 d8 l3 (l.take 0) 0 from by first | rfl | (simp; done) | grind [c8, N0, a0a, d1, d2, t1, t2])) (E.loop (κ := Nat × Option Addr × Nat × Nat) (fun g => g.1 ≤ l.length ∧ True) (fun g => [(0, .slice a_l l.length c_l), (3, .pointer (some ⟨b3, 0, none⟩)), (5, .slice g.2.1 g.2.2.1 g.2.2.2), (6, .int .i64 (↑g.1 : Int))]) (fun g => [ow w5 [.slice g.2.1 g.2.2.1 g.2.2.2] (c8 d8 l3 (l.take g.1) 0), pt b3 90 [.slice J0 w7.length I9, .slice H5 d8.length H4, .slice O9 l3.length O8, .int .i64 r_Rounds]]) (fun g => l.length - g.1) (0, (some ⟨b10, 0, none⟩), 0, 0) ⟨Nat.zero_le _, by simp⟩ ⟨rfl, rfl, rfl, rfl, trivial⟩ (.refl _) (fun g pg => ?_))))))))))))))))))
 obtain ⟨g, aA0_0, mA0_0, cA0_0⟩ := g
 try dsimp only at pg
 try dsimp only
 obtain ⟨pk, pa⟩ := pg
 refine d7 m0 fun eaA0_0 laA0_0 => ?_
 subst eaA0_0
 have jo := a2J (j5 := d8) (log := l3) (i := 0) hv (l := l.take g) (fun m h => hm m (List.mem_of_mem_take h))
 have jp := List.length_take_le g l
 refine Eq_ (Ew Z4 (Em rfl (Em rfl (Ey rfl ((Y.len us_Methods rfl).yd) (Ey rfl ((Y.lss rfl rfl).yd) (o3 (fun q14 => ?_) (fun q14 => ?_)))))))
 ·refine Eu (n8 rfl (i7 (Et (Eq_ (E.block (Eq_ (Ew Z6 (Em rfl (Em rfl ?_)))))))))
  obtain ⟨eb19, eo19, ec19, ea19, er19, el19, eh19⟩ := hl.elem g om
  obtain ⟨xa19_0, xc19_0, rfl, ei19_0, xh19_0, ei19_2, ei19_3, ei19_4⟩ := V6 er19
  have := xh19_0.slen.2
  refine Ey rfl ((v8 us_Methods ty_Method rfl ea19 rfl g rfl om).yd) (Ey rfl ((f5 fo_Method_2 f9 dc rfl).yd) (Ey rfl (g9 f9 rfl ((eh19 _).sub (cs' := [_]) 2 rfl) rfl) (Ey rfl ((Y.neq rfl rfl).yd) (o3 (fun q22 => ?_) (fun q22 => ?_)))))
  ·refine Eu (n8 rfl (E.exit (q1 (y4 (Et (Ez Z3 (Em rfl (Ey rfl ((Y.add rfl rfl om om).yd) (Ei rfl (Eu (j4 (congrArg (ow w5 [_]) (show c8 d8 l3 (l.take g) 0 = c8 d8 l3 (l.take (g + 1)) 0 from by grind [c8, N0, a0a, d1, d2, t1, t2])) (d9 (d9 ?_)))))))))))))
   exact Ea (g + 1, aA0_0, (c8 d8 l3 (l.take g) 0).length, cA0_0) ⟨oz, trivial⟩
  ·refine Eu (o0 rfl (i7 (Et (Eq_ (D.region (fun j => true) mixed (Dyp 0 rfl (f5 fo_Reached_1 ty_Is dc rfl) (Dy 1 rfl (g9 ty_Is rfl (Hz (mS m0) 1 rfl) rfl) (Dyp 2 rfl (i8 rfl) (Dyp 3 rfl (i8 rfl) (Dyp 4 rfl (v8 us_Methods ty_Method rfl ea19 rfl g rfl om) (Dyp 5 rfl (f5 fo_Method_1 ty_Is dc rfl) (Dy 6 rfl (g9 ty_Is rfl ((eh19 _).sub (cs' := [_]) 1 rfl) rfl) (Dyp 7 rfl (Y.len us_Is rfl) ?_)))))))))))))
   have jm := hm l[g] (List.getElem_mem om)
   refine t6 8 rfl rfl kr (fun _ => rfl) (N.call (a9m fc fc) rfl rfl rfl dc rfl (fun w Lp hA => hA.ro E9)) (fun k31 _ => ?_)
   obtain ⟨a31, m31, c31⟩ := k31
   refine d7 m0 fun e31 l31 => ?_
   subst e31
   refine P3 (A := [_]) rfl fun wb3 Lb3 hB3 hA3 => ?_
   have hl := hA3.ro hl
   have xh19_0 := hA3.ro xh19_0
   have E9 := hA3.ro E9
   have J4 := hA3.ro J4
   have S4 := hA3.ro S4
   have eh19 := hB3.has eh19
   have rb3 : Ro wb3 Lb3 X3 [.slice a31 (o2 d8 l[g].2.1.length).length c31] (o2 d8 l[g].2.1.length) := hA3.ow m0
   refine Dyp 9 rfl (C2 rfl) (r9 kr (Et (Ew Z1 (Ei rfl (Eu (E.block (j4 (congrArg (ow w5 [_]) (show c8 d8 l3 (l.take g) 0 = c8 d8 l3 (l.take g) 0 ++ (((o2 d8 l[g].2.1.length).take 0).filter (fun v => !Q5 l3 (↑g, v))).map (fun v => ((g : Int), v)) from by first | rfl | (simp; done) | grind [c8, N0, a0a, d1, d2, t1, t2])) (E.loop (κ := Nat × Option Addr × Nat × Nat) (fun h => h.1 ≤ (o2 d8 l[g].2.1.length).length ∧ True) (fun h => [(0, .slice a_l l.length c_l), (3, .pointer (some ⟨b3, 0, none⟩)), (5, .slice h.2.1 h.2.2.1 h.2.2.2), (6, .int .i64 (g : Int)), (7, .slice a31 (o2 d8 l[g].2.1.length).length c31), (8, .int .i64 (↑h.1 : Int))]) (fun h => [ow w5 [.slice h.2.1 h.2.2.1 h.2.2.2] (c8 d8 l3 (l.take g) 0 ++ (((o2 d8 l[g].2.1.length).take h.1).filter (fun v => !Q5 l3 (↑g, v))).map (fun v => ((g : Int), v))), pt b3 90 [.slice J0 w7.length I9, .slice H5 d8.length H4, .slice O9 l3.length O8, .int .i64 r_Rounds]]) (fun h => (o2 d8 l[g].2.1.length).length - h.1) (0, aA0_0, (c8 d8 l3 (l.take g) 0).length, cA0_0) ⟨Nat.zero_le _, by simp⟩ ⟨rfl, rfl, rfl, rfl, rfl, rfl, trivial⟩ (.refl _) (fun h ph => ?_)))))))))
   obtain ⟨h, aA1_0, mA1_0, cA1_0⟩ := h
   try dsimp only at ph
   try dsimp only
   obtain ⟨pk, pa⟩ := ph
   have jl := a4h (j5 := d8) (t := l[g].2.1.length) hv (hm _ (List.getElem_mem om))
   have jf := List.length_filter_le (fun v => !Q5 l3 (↑g, v)) ((o2 d8 l[g].2.1.length).take h)
   have jt := List.length_take_le h (o2 d8 l[g].2.1.length)
   refine d7 m0 fun eaA1_0 laA1_0 => ?_
   subst eaA1_0
   refine Eq_ (Ew Z4 (Em rfl (Em rfl (Ey rfl ((Y.len us_Iss rfl).yd) (Ey rfl ((Y.lss rfl rfl).yd) (o3 (fun q35 => ?_) (fun q35 => ?_)))))))
   ·refine Eu (n8 rfl (i7 (Et (Eq_ (E.block (Ew Z8 (Em rfl (Em rfl (Em rfl ?_)))))))))
    obtain ⟨eb41, eo41, ec41, ea41, er41, el41, eh41⟩ := rb3.elem h om
    obtain ⟨xa41, xc41, rfl⟩ := er41.sl
    have := er41.slen.2
    refine Ey rfl ((v8 us_Iss ty_Is rfl ea41 rfl h rfl om).yd) (Ey rfl (g9 ty_Is rfl (eh41 _) rfl) ?_)
    have jz := M4 _ (List.getElem_mem (l := (o2 d8 l[g].2.1.length)) (n := h) om)
    refine Est rfl (N.call (a2Q fc) rfl rfl rfl dc rfl (fun w Lp hA => ⟨i6, hA.ro er41⟩)) (fun k43 _ => ?_)
    obtain ⟨a43, m43, c43⟩ := k43
    refine d7 m0 fun e43 l43 => ?_
    subst e43
    refine Est rfl (N.alloc ty_Access dc) (fun b9 _ => (Est rfl (Ns [_, _] ty_Access rfl) (fun _ _ => (Ev Z5 (Ey rfl ((f5 fo_Reached_2 ty_Accesss dc rfl).yd) (Ey rfl (g9 ty_Accesss rfl (Hz (mS (mS (mS m0))) 2 rfl) rfl) (Ey rfl (o6 (cs := [_, _]) ty_Access rfl (Has.pt m0) rfl) (Est rfl (l0 a8O rfl rfl rfl dc (fun w Lp hA => ⟨hA.ro S4, i6, hA.ow (mS m0)⟩)) (fun _ _ => (Ent.b (fun q47 => ?_) (fun q47 => ?_)))))))))))
    ·refine Ey rfl ((Y.not (b := true) rfl).yd) (Eu (o0 rfl (i7 (s9 (Et (Ez Z3 (Em rfl (Ey rfl ((Y.add rfl rfl om om).yd) (Ei rfl (Eu (Ent.drop (Ent.drop (j4 (congrArg (ow w5 [_]) (show c8 d8 l3 (l.take g) 0 ++ (((o2 d8 l[g].2.1.length).take h).filter (fun v => !Q5 l3 (↑g, v))).map (fun v => ((g : Int), v)) = c8 d8 l3 (l.take g) 0 ++ (((o2 d8 l[g].2.1.length).take (h + 1)).filter (fun v => !Q5 l3 (↑g, v))).map (fun v => ((g : Int), v)) from by grind [c8, N0, a0a, d1, d2, t1, t2])) (d9 (d9 ?_)))))))))))))))
     exact Ea (h + 1, aA1_0, (c8 d8 l3 (l.take g) 0 ++ (((o2 d8 l[g].2.1.length).take h).filter (fun v => !Q5 l3 (↑g, v))).map (fun v => ((g : Int), v))).length, cA1_0) ⟨oz, trivial⟩
    ·refine Ey rfl ((Y.not (b := false) rfl).yd) (Eu (n8 rfl (Ez Z5 (Em rfl (Ey rfl (o6 (cs := [_, _]) ty_Access rfl (Has.pt m0) rfl) (Est rfl (Nb [_] [_, _] us_Accesss ty_Access rfl rfl) (fun b51 _ => (j8 (d9 (o4 (Est rfl (C7 (E := F6) (ex := ((g : Int), ((o2 d8 l[g].2.1.length)[h]))) us_Accesss ty_Access rfl rfl rfl (a1k (x := ((g : Int), ((o2 d8 l[g].2.1.length)[h]))) i6 Own.ow) rfl bn bn dc) (fun p52 _ => (Ei rfl (En (s9 (Et (Ez Z3 (Em rfl (Ey rfl ((Y.add rfl rfl om om).yd) (Ei rfl (Eu (d9 (Ent.drop (j4 (congrArg (ow w5 [_]) (show (c8 d8 l3 (l.take g) 0 ++ (((o2 d8 l[g].2.1.length).take h).filter (fun v => !Q5 l3 (↑g, v))).map (fun v => ((g : Int), v))) ++ [((g : Int), ((o2 d8 l[g].2.1.length)[h]))] = c8 d8 l3 (l.take g) 0 ++ (((o2 d8 l[g].2.1.length).take (h + 1)).filter (fun v => !Q5 l3 (↑g, v))).map (fun v => ((g : Int), v)) from by grind [c8, N0, a0a, d1, d2, t1, t2])) (d9 (d9 ?_))))))))))))))))))))))))))
     exact Ea (h + 1, p52.1, ((c8 d8 l3 (l.take g) 0 ++ (((o2 d8 l[g].2.1.length).take h).filter (fun v => !Q5 l3 (↑g, v))).map (fun v => ((g : Int), v))).length + 1), p52.2) ⟨oz, trivial⟩
   ·refine Eu (o0 rfl (E.exit (q1 (q1 (y4 (s9 (Et (Ez Z3 (Em rfl (Ey rfl ((Y.add rfl rfl om om).yd) (Ei rfl (Eu (j4 (congrArg (ow w5 [_]) (show c8 d8 l3 (l.take g) 0 ++ (((o2 d8 l[g].2.1.length).take h).filter (fun v => !Q5 l3 (↑g, v))).map (fun v => ((g : Int), v)) = c8 d8 l3 (l.take (g + 1)) 0 from by grind [c8, N0, a0a, d1, d2, t1, t2])) (d9 (d9 ?_)))))))))))))))
    exact x6 hB3 (g + 1, aA1_0, (c8 d8 l3 (l.take g) 0 ++ (((o2 d8 l[g].2.1.length).take h).filter (fun v => !Q5 l3 (↑g, v))).map (fun v => ((g : Int), v))).length, cA1_0) rs (.refl _) ⟨oz, trivial⟩ oz
 ·refine Eu (o0 rfl (E.exit (q1 (q1 (y4 (Et (Ew Z2 (Em rfl (Ei rfl (Eu (E.ret (j4 (congrArg (ow w5 [_]) (show _ = c8 d8 l3 l 0 by grind [c8, N0, a0a, d1, d2, t1, t2])) ?_))))))))))))
  exact Fg rfl rfl (_, _, _) rfl rfl
end Go.Proofs.YthapcdhdfaibkaaGreatDoor
