import Derived.Test.YtdopeopehgdccaaGreatT8
import Derived.Test.YtdopeopehgdccaaGreatT6
namespace Go.Proofs.YtdopeopehgdccaaGreat
open Go.RowKit
set_option linter.all false
set_option maxHeartbeats 2000000
attribute [local irreducible] Nop Yd Yp Ent Has Tr FnP FnP2 Src O8 Y2 a0b a0m G5
variable {arity D8 B6 D5 B7 r7 : Int} {l : List (Int × List Int × Int × Int × Int)} {v6 s s6 : List Int} {m_l c_l D6 C2 m_s c_s y8 x9 : Nat} {a_l C3 a_s y4 : Option Addr}
theorem a9p {l : List Int} : Tr Tryz.prog 282 [.slice a_l m_l c_l] (fun w L => Ro w L eIs [.slice a_l m_l c_l] l) [] (κ := Unit) (fun k => True) (fun k => .bool (G5 ltB l)) (fun k => []) := by
 refine l0 Tryz.func282 rfl (n := 24) rfl (by decide +kernel) bl (fr := [(0, .slice a_l m_l c_l)]) rfl fun w L hR => ?_
 have hl := hR
 obtain ⟨rfl, ll⟩ := hl.slen
 refine Ew Z1 (Ei rfl (Eu (Eq_ (Ew Z3 (Em rfl (Ey rfl ((Y.len us_Is rfl).yd) (Em rfl (Eu (E.block (E.loop (κ := Nat) (fun g => g ≤ l.length ∧ G5 ltB l = G5 ltB (l.drop (g - 1))) (fun g => [(0, .slice a_l l.length c_l), (5, .int .i64 (↑l.length : Int)), (6, .int .i64 (g : Int))]) (fun g => []) (fun g => l.length - g) 0 ⟨Nat.zero_le _, by simp⟩ ⟨rfl, rfl, rfl, trivial⟩ (.refl _) (fun g pg => ?_)))))))))))
 obtain ⟨pk, pa⟩ := pg
 refine Ew Z1 (Ey rfl ((Y.lss rfl rfl).yd) (o7 (fun q7 => ?_) (fun q7 => ?_)))
 ·refine Eu (Eq_ (o5 rfl (i7 (Et (Eq_ (E.block (Ew Z2 (Em rfl (Ei rfl (Eu (Eq_ (D.region (fun j => true) mixed (Dyp 0 rfl (o0 rfl) (Dyp 1 rfl (Y.gtr rfl rfl) (o7 (fun q10 => ?_) (fun q10 => ?_))))))))))))))))
  ·refine Dyp 2 rfl (o0 rfl) (Dyp 3 rfl (o0 rfl) (Dyp 4 rfl (o0 rfl) ?_))
   obtain ⟨eb14, eo14, ea14, ei14, eh14⟩ := hl.elemI g om
   refine Dyp 5 rfl (s4 us_Is i8 rfl ea14 rfl g rfl om) (Dy 6 rfl (g9 i8 rfl (eh14 _) rfl) (Dyp 7 rfl (o0 rfl) (Dyp 8 rfl (o0 rfl) (Dyp 9 rfl (Y.sub rfl rfl om om) ?_))))
   obtain ⟨eb19, eo19, ea19, ei19, eh19⟩ := hl.elemI (g - 1) om
   refine Dyp 10 rfl (s4 us_Is i8 rfl ea19 rfl (g - 1) om om) (Dy 11 rfl (g9 i8 rfl (eh19 _) rfl) (Dyp 12 rfl (Y.leq rfl rfl) (o7 (fun q21 => ?_) (fun q21 => ?_))))
   ·refine Dyp 13 rfl (w5 rfl rfl) (s3 kr (Et (o5 rfl (Ew Z1 (Ei rfl ?_)))))
    exact Eu (E.ret (w8 (l4 (l4 (w8 (l4 (Fb rfl rfl (by grind [H2, H3, J1, ltB, d1, d2, t1, t2]))))))))
   ·refine Dyp 13 rfl (w5 rfl rfl) (s3 kr (Et (o4 rfl (i7 (t8 (Et (Ez Z2 (Ey rfl ((Y.add rfl rfl om om).yd) (Em rfl ?_)))))))))
    exact Eu (w4 br (g + 1) rs (.refl _) ⟨by omega, by grind [H2, H3, J1, ltB, d1, d2, t1, t2]⟩ om)
  ·refine Dyp 2 rfl (o0 rfl) (Dsk 3 rfl (Dsk 4 rfl (Dsk 5 rfl (Dsk 6 rfl (Dsk 7 rfl (Dsk 8 rfl (Dsk 9 rfl (Dsk 10 rfl (Dsk 11 rfl (Dsk 12 rfl (Dyp 13 rfl (v8 rfl rfl) (s3 kr (Et (o4 rfl (i7 (t8 (Et (Ez Z2 (Ey rfl ((Y.add rfl rfl om om).yd) (Em rfl ?_))))))))))))))))))))
   exact Eu (w4 br (g + 1) rs (.refl _) ⟨by omega, by grind [H2, H3, J1, ltB, d1, d2, t1, t2]⟩ om)
 ·refine Eu (Eq_ (o4 rfl (E.exit (o3 (o3 (w3 (Et (Ew Z1 (Ei rfl ?_)))))))))
  exact Eu (E.ret (Fb rfl rfl (by grind [H2, H3, J1, ltB, d1, d2, t1, t2])))
theorem a6h {i : Int} {b_arity : Nat} : Tr Tryz.prog 283 [.int .i64 i, .pointer (some ⟨b_arity, 0, none⟩)] (fun w L => (I64 i) ∧ RoPt w L b_arity [.int .i64 arity] ∧ -1000 ≤ arity ∧ arity ≤ 1000) [] (κ := Unit) (fun k => True) (fun k => .bool (!inR i 0 (arity - 1))) (fun k => []) := by
 refine l0 Tryz.func283 rfl (n := 9) rfl (by decide +kernel) bl (fr := [(0, .int .i64 i), (1, .pointer (some ⟨b_arity, 0, none⟩))]) rfl fun w L hR => ?_
 obtain ⟨i6i, hb_arity, as0, as1⟩ := hR
 refine Ew Z1 (Ei rfl (Ev Z6 (Em rfl (Ey rfl (g9 i8 rfl (hb_arity.has) rfl) (Ey rfl ((Y.sub rfl rfl om om).yd) (Est rfl (n0 N4 rfl rfl rfl dc tv) (fun _ _ => (Ey rfl ((Y.not rfl).yd) (Ei rfl ?_)))))))))
 exact Eu (E.ret (Fb rfl rfl (by grind [d1, d2, t1, t2])))
theorem a6L {n : Int} : Tr Tryz.prog 284 [.int .i64 n] (fun w L => True) [] (κ := Unit) (fun k => True) (fun k => .bool (inR n 0 99)) (fun k => []) := by
 refine l0 Tryz.func284 rfl (n := 5) rfl (by decide +kernel) bl (fr := [(0, .int .i64 n)]) rfl fun w L hR => (Ew Z1 (Ei rfl (Ev Z3 (Em rfl (Est rfl (n0 N4 rfl rfl rfl dc tv) (fun _ _ => (Ei rfl ?_)))))))
 exact Eu (E.ret (Fg rfl rfl () rfl rfl))
theorem a7q : Tr Tryz.prog 224 [.agg #[.int .i64 D8, .slice C3 D6 C2, .int .i64 B6, .int .i64 D5, .int .i64 B7], .int .i64 arity] (fun w L => I64 D8 ∧ Ro w L eIs [.slice C3 D6 C2] v6 ∧ I64 B6 ∧ I64 D5 ∧ I64 B7 ∧ -1000 ≤ arity ∧ arity ≤ 1000) [] (κ := Unit) (fun k => True) (fun k => .bool (a0I (D8, v6, B6, D5, B7) arity)) (fun k => []) := by
 refine l0 Tryz.func224 rfl (n := 30) rfl (by decide +kernel) bl (fr := [(0, .agg #[.int .i64 D8, .slice C3 D6 C2, .int .i64 B6, .int .i64 D5, .int .i64 B7]), (1, .int .i64 arity)]) rfl fun w L hR => ?_
 obtain ⟨X4, E4, Q4, U2, Q5, as0, as1⟩ := hR
 obtain ⟨rfl, a0g⟩ := E4.slen
 refine Ew Z3 (Est rfl (N.box (cs := [_, _, _, _, _]) rfl dc rfl) (fun b2 _ => (Est rfl (N.box (cs := [_]) rfl dc rfl) (fun b3 _ => (Ei rfl (Ev Z26 (Ey rfl ((j6 fo_Method_1 ty_Is dc rfl).yd) (Ey rfl (g9 ty_Is rfl (Hz (mS m0) 1 rfl) rfl) (Est rfl (n0 a9p rfl rfl rfl dc (fun w Lp hA => hA.ro E4)) (fun _ _ => (Ent.b (fun q7 => ?_) (fun q7 => ?_))))))))))))
 ·refine Em rfl (Ey rfl ((j6 fo_Method_1 ty_Is dc rfl).yd) (Ey rfl (g9 ty_Is rfl (Hz (mS m0) 1 rfl) rfl) (Ey rfl ((Y.fn (vs := [_]) rfl).yd) (Est rfl (n0 (Y5 (f := (fun i => !inR i 0 (arity - 1))) (D_f := (fun _ => True)) (by intros; exact trivial)) rfl rfl rfl dc (fun w Lp hA => ⟨hA.ro E4, a3f (D := (fun _ => True)) (fun hd => a6h) (fun w' hk => ⟨(hA.pt m0).keep hk, (by first | assumption | omega), (by first | assumption | omega)⟩)⟩)) (fun _ _ => (Ent.b (fun q12 => ?_) (fun q12 => ?_)))))))
  ·refine Ey rfl ((Y.not (b := true) rfl).yd) (Ey rfl ((w5 rfl rfl).yd) (Em rfl (Es rfl (Es rfl (Es rfl (Ey rfl ((v8 rfl rfl).yd) (Em rfl (Es rfl (Es rfl (Es rfl (Ey rfl ((v8 rfl rfl).yd) (Em rfl (Es rfl (Es rfl (Es rfl (Ey rfl ((v8 rfl rfl).yd) (Ei rfl ?_)))))))))))))))))
   exact Eu (E.ret (Fb rfl rfl (by grind [a0I, Z0, d1, d2, t1, t2])))
  ·refine Ey rfl ((Y.not (b := false) rfl).yd) (Ey rfl ((w5 rfl rfl).yd) (Em rfl (Ey rfl ((j6 fo_Method_2 i8 dc rfl).yd) (Ey rfl (g9 i8 rfl (Hz (mS m0) 2 rfl) rfl) (Est rfl (n0 N4 rfl rfl rfl dc tv) (fun _ _ => (Ent.b (fun q18 => ?_) (fun q18 => ?_))))))))
   ·refine Ey rfl ((w5 rfl rfl).yd) (Em rfl (Ey rfl ((j6 fo_Method_3 i8 dc rfl).yd) (Ey rfl (g9 i8 rfl (Hz (mS m0) 3 rfl) rfl) (Est rfl (n0 a6L rfl rfl rfl dc tv) (fun _ _ => (Ent.b (fun q23 => ?_) (fun q23 => ?_)))))))
    ·refine Ey rfl ((w5 rfl rfl).yd) (Em rfl (Ey rfl ((j6 fo_Method_4 i8 dc rfl).yd) (Ey rfl (g9 i8 rfl (Hz (mS m0) 4 rfl) rfl) (Est rfl (n0 N4 rfl rfl rfl dc tv) (fun _ _ => (Ey rfl ((w5 rfl rfl).yd) (Ei rfl ?_)))))))
     exact Eu (E.ret (Fb rfl rfl (by grind [a0I, Z0, d1, d2, t1, t2])))
    ·refine Ey rfl ((w5 rfl rfl).yd) (Em rfl (Es rfl (Es rfl (Es rfl (Ey rfl ((v8 rfl rfl).yd) (Ei rfl ?_))))))
     exact Eu (E.ret (Fb rfl rfl (by grind [a0I, Z0, d1, d2, t1, t2])))
   ·refine Ey rfl ((w5 rfl rfl).yd) (Em rfl (Es rfl (Es rfl (Es rfl (Ey rfl ((v8 rfl rfl).yd) (Em rfl (Es rfl (Es rfl (Es rfl (Ey rfl ((v8 rfl rfl).yd) (Ei rfl ?_)))))))))))
    exact Eu (E.ret (Fb rfl rfl (by grind [a0I, Z0, d1, d2, t1, t2])))
 ·refine Em rfl (Es rfl (Es rfl (Es rfl (Es rfl (Es rfl (Ey rfl ((v8 rfl rfl).yd) (Em rfl (Es rfl (Es rfl (Es rfl (Ey rfl ((v8 rfl rfl).yd) (Em rfl (Es rfl (Es rfl (Es rfl (Ey rfl ((v8 rfl rfl).yd) (Em rfl (Es rfl (Es rfl (Es rfl (Ey rfl ((v8 rfl rfl).yd) (Ei rfl ?_))))))))))))))))))))))
  exact Eu (E.ret (Fb rfl rfl (by grind [a0I, Z0, d1, d2, t1, t2])))
theorem b0i : Tr Tryz.prog 150 [.slice a_s m_s c_s, .agg #[.int .i64 D8, .slice C3 D6 C2, .int .i64 B6, .int .i64 D5, .int .i64 B7]] (fun w L => Ro w L eIs [.slice a_s m_s c_s] s ∧ I64 D8 ∧ Ro w L eIs [.slice C3 D6 C2] v6 ∧ I64 B6 ∧ I64 D5 ∧ I64 B7) [] (κ := Unit) (fun k => True) (fun k => .bool (R1 s (D8, v6, B6, D5, B7))) (fun k => []) := by
 refine l0 Tryz.func150 rfl (n := 18) rfl (by decide +kernel) bl (fr := [(0, .slice a_s m_s c_s), (1, .agg #[.int .i64 D8, .slice C3 D6 C2, .int .i64 B6, .int .i64 D5, .int .i64 B7])]) rfl fun w L hR => ?_
 obtain ⟨hs, X4, E4, Q4, U2, Q5⟩ := hR
 obtain ⟨rfl, ls⟩ := hs.slen
 obtain ⟨rfl, a0g⟩ := E4.slen
 refine Ew Z2 (Est rfl (N.box (cs := [_, _, _, _, _]) rfl dc rfl) (fun b3 _ => (Ei rfl (Eu (Eq_ (D.region (fun j => true) mixed (Dyp 0 rfl (o0 rfl) (Dyp 1 rfl (j6 fo_Method_0 i8 dc rfl) (Dy 2 rfl (g9 i8 rfl (Hz m0 0 rfl) rfl) (t6 3 rfl rfl kr (fun _ => rfl) (n0 a4t rfl rfl rfl dc (fun w Lp hA => hA.ro hs)) (fun _ _ => (Ent.b (fun q8 => ?_) (fun q8 => ?_)))))))))))))
 ·obtain ⟨z1, z2, z3, z4⟩ := a0E q8
  rw [K5 om] at z3 z4
  refine Dyp 4 rfl (o0 rfl) (Dy 5 rfl (r9 (cs := [_, _, _, _, _]) ty_Method rfl (Has.pt m0) rfl) (Dyp 6 rfl (o0 rfl) (Dyp 7 rfl (j6 fo_Method_0 i8 dc rfl) (Dy 8 rfl (g9 i8 rfl (Hz m0 0 rfl) rfl) ?_))))
  obtain ⟨eb14, eo14, ea14, ei14, eh14⟩ := hs.elemI D8.toNat om
  refine Dyp 9 rfl (s4 us_Is i8 rfl ea14 rfl D8.toNat om om) (Dy 10 rfl (g9 i8 rfl (eh14 _) rfl) (t6 11 rfl rfl kr (fun _ => rfl) (n0 a7q rfl rfl rfl dc (fun w Lp hA => ⟨X4, hA.ro E4, Q4, U2, Q5, (by first | assumption | omega), (by first | assumption | omega)⟩)) (fun _ _ => (Dyp 12 rfl (w5 rfl rfl) (Dyp 13 rfl (F0 rfl) ?_)))))
  exact s3 kr (Et (E.ret (Fb rfl rfl (by grind [R1, F6, d1, d2, t1, t2]))))
 ·refine Dyp 4 rfl (o0 rfl) (Dsk 5 rfl (Dsk 6 rfl (Dsk 7 rfl (Dsk 8 rfl (Dsk 9 rfl (Dsk 10 rfl (Dsk 11 rfl (Dyp 12 rfl (v8 rfl rfl) (Dyp 13 rfl (F0 rfl) ?_)))))))))
  exact s3 kr (Et (E.ret (Fb rfl rfl (by grind [R1, F6, d1, d2, t1, t2]))))
theorem b0a : Tr Tryz.prog 135 [.slice a_s m_s c_s, .agg #[.int .i64 D8, .slice C3 D6 C2, .int .i64 B6, .int .i64 D5, .int .i64 B7]] (fun w L => Ro w L eIs [.slice a_s m_s c_s] s ∧ I64 D8 ∧ Ro w L eIs [.slice C3 D6 C2] v6 ∧ I64 B6 ∧ I64 D5 ∧ I64 B7) [] (κ := Unit) (fun k => True) (fun k => .bool (R1 s (D8, v6, B6, D5, B7))) (fun k => []) := by
 refine l0 Tryz.func135 rfl (n := 74) rfl (by decide +kernel) bl (fr := [(0, .slice a_s m_s c_s), (1, .agg #[.int .i64 D8, .slice C3 D6 C2, .int .i64 B6, .int .i64 D5, .int .i64 B7])]) rfl fun w L hR => ?_
 obtain ⟨hs, X4, E4, Q4, U2, Q5⟩ := hR
 obtain ⟨rfl, ls⟩ := hs.slen
 obtain ⟨rfl, a0g⟩ := E4.slen
 refine Ew Z2 (Est rfl (N.box (cs := [_, _, _, _, _]) rfl dc rfl) (fun b3 _ => (Ei rfl (Eu (Eq_ (Ew Z30 (Em rfl (Est rfl (n0 W9 rfl rfl rfl dc (fun w Lp hA => hA.ro hs)) (fun _ _ => (Ent.b (fun q7 => ?_) (fun q7 => ?_)))))))))))
 ·refine Ey rfl ((Y.not (b := true) rfl).yd) (Em rfl (Ey rfl ((j6 fo_Method_0 i8 dc rfl).yd) (Ey rfl (g9 i8 rfl (Hz m0 0 rfl) rfl) (Em rfl (Ey rfl ((Y.len us_Is rfl).yd) (Ey rfl ((Y.sub rfl rfl om om).yd) (Est rfl (n0 I2 rfl rfl rfl dc tv) (fun _ _ => (Ent.b (fun q15 => ?_) (fun q15 => ?_))))))))))
  ·have y1 : M4 s D8 = true := by rw [M4, q7, q15]; rfl
   obtain ⟨z1, z2, z3, z4⟩ := a0E y1
   rw [K5 om] at z3 z4
   refine Ey rfl ((Y.not (b := true) rfl).yd) (Ey rfl ((v8 rfl rfl).yd) (Em rfl (Ey rfl ((j6 fo_Method_2 i8 dc rfl).yd) (Ey rfl (g9 i8 rfl (Hz m0 2 rfl) rfl) (Est rfl (n0 I2 rfl rfl rfl dc tv) (fun _ _ => (Ent.b (fun q21 => ?_) (fun q21 => ?_))))))))
   ·refine Ey rfl ((Y.not (b := true) rfl).yd) (Ey rfl ((v8 rfl rfl).yd) (Em rfl (Ey rfl ((j6 fo_Method_3 i8 dc rfl).yd) (Ey rfl (g9 i8 rfl (Hz m0 3 rfl) rfl) (Est rfl (n0 I2 rfl rfl rfl dc tv) (fun _ _ => (Ent.b (fun q27 => ?_) (fun q27 => ?_))))))))
    ·refine Ey rfl ((Y.not (b := true) rfl).yd) (Ey rfl ((v8 rfl rfl).yd) (Em rfl (Ey rfl ((j6 fo_Method_4 i8 dc rfl).yd) (Ey rfl (g9 i8 rfl (Hz m0 4 rfl) rfl) (Est rfl (n0 I2 rfl rfl rfl dc tv) (fun _ _ => (Ent.b (fun q33 => ?_) (fun q33 => ?_))))))))
     ·refine Ey rfl ((Y.not (b := true) rfl).yd) (Ey rfl ((v8 rfl rfl).yd) (Eu (o4 rfl (i7 (Et (Eq_ (Ew Z1 (Ei rfl (Eu (E.block (E.loop (κ := Nat) (fun g => g ≤ v6.length ∧ (Z0 v6 (at0 s D8) && G5 ltB v6) = (Z0 (v6.drop g) (at0 s D8) && G5 ltB (v6.drop (g - 1)))) (fun g => [(0, .slice a_s s.length c_s), (3, .pointer (some ⟨b3, 0, none⟩)), (5, .int .i64 (g : Int))]) (fun g => [pt b3 113 [.int .i64 D8, .slice C3 v6.length C2, .int .i64 B6, .int .i64 D5, .int .i64 B7]]) (fun g => v6.length - g) 0 ⟨Nat.zero_le _, by simp⟩ ⟨rfl, rfl, rfl, trivial⟩ (.refl _) (fun g pg => ?_))))))))))))
      obtain ⟨pk, pa⟩ := pg
      refine Eq_ (Ew Z5 (Em rfl (Ey rfl ((j6 fo_Method_1 ty_Is dc rfl).yd) (Ey rfl (g9 ty_Is rfl (Hz m0 1 rfl) rfl) (Ey rfl ((Y.len us_Is rfl).yd) (Ey rfl ((Y.lss rfl rfl).yd) (o7 (fun q40 => ?_) (fun q40 => ?_))))))))
      ·refine Eu (o5 rfl (i7 (Et (Eq_ (E.block (Eq_ (D.region (fun j => true) mixed (Dyp 0 rfl (j6 fo_Method_1 ty_Is dc rfl) (Dy 1 rfl (g9 ty_Is rfl (Hz m0 1 rfl) rfl) (Dyp 2 rfl (o0 rfl) ?_))))))))))
       obtain ⟨eb46, eo46, ea46, ei46, eh46⟩ := E4.elemI g om
       refine Dyp 3 rfl (s4 us_Is i8 rfl ea46 rfl g rfl om) (Dy 4 rfl (g9 i8 rfl (eh46 _) rfl) (Dyp 5 rfl (o0 rfl) (Dyp 6 rfl (j6 fo_Method_0 i8 dc rfl) (Dy 7 rfl (g9 i8 rfl (Hz m0 0 rfl) rfl) ?_))))
       obtain ⟨eb51, eo51, ea51, ei51, eh51⟩ := hs.elemI D8.toNat om
       refine Dyp 8 rfl (s4 us_Is i8 rfl ea51 rfl D8.toNat om om) (Dy 9 rfl (g9 i8 rfl (eh51 _) rfl) (Dyp 10 rfl (Y.sub rfl rfl om om) (t6 11 rfl rfl kr (fun _ => rfl) (n0 I2 rfl rfl rfl dc tv) (fun _ _ => (Ent.b (fun q54 => ?_) (fun q54 => ?_))))))
       ·refine Dyp 12 rfl (Y.not (b := true) rfl) (Dyp 13 rfl (o0 rfl) (Dyp 14 rfl (o0 rfl) (Dyp 15 rfl (Y.gtr rfl rfl) (o7 (fun q58 => ?_) (fun q58 => ?_)))))
        ·refine Dyp 16 rfl (o0 rfl) (Dyp 17 rfl (j6 fo_Method_1 ty_Is dc rfl) (Dy 18 rfl (g9 ty_Is rfl (Hz m0 1 rfl) rfl) (Dyp 19 rfl (o0 rfl) (Dyp 20 rfl (s4 us_Is i8 rfl ea46 rfl g rfl om) (Dy 21 rfl (g9 i8 rfl (eh46 _) rfl) (Dyp 22 rfl (j6 fo_Method_1 ty_Is dc rfl) (Dy 23 rfl (g9 ty_Is rfl (Hz m0 1 rfl) rfl) (Dyp 24 rfl (o0 rfl) (Dyp 25 rfl (Y.sub rfl rfl om om) ?_)))))))))
         obtain ⟨eb69, eo69, ea69, ei69, eh69⟩ := E4.elemI (g - 1) om
         refine Dyp 26 rfl (s4 us_Is i8 rfl ea69 rfl (g - 1) om om) (Dy 27 rfl (g9 i8 rfl (eh69 _) rfl) (Dyp 28 rfl (Y.leq rfl rfl) (o7 (fun q71 => ?_) (fun q71 => ?_))))
         ·refine Dyp 29 rfl (w5 rfl rfl) (Dyp 30 rfl (v8 rfl rfl) (s3 kr (Et (o5 rfl (Ew Z1 (Ei rfl ?_))))))
          exact Eu (E.ret (w8 (l4 (l4 (w8 (l4 (Fb rfl rfl (by grind [R1, a0I, M4, F6, Z0, H2, H3, J1, ltB, d1, d2, t1, t2]))))))))
         ·refine Dyp 29 rfl (w5 rfl rfl) (Dyp 30 rfl (v8 rfl rfl) (s3 kr (Et (o4 rfl (i7 (t8 (Et (Ez Z3 (Em rfl (Ey rfl ((Y.add rfl rfl om om).yd) (Ei rfl ?_)))))))))))
          exact Eu (w4 br (g + 1) rs (.refl _) ⟨by omega, by grind [Z0, H2, H3, J1, ltB, F6, d1, d2, t1, t2]⟩ om)
        ·refine Dyp 16 rfl (o0 rfl) (Dsk 17 rfl (Dsk 18 rfl (Dsk 19 rfl (Dsk 20 rfl (Dsk 21 rfl (Dsk 22 rfl (Dsk 23 rfl (Dsk 24 rfl (Dsk 25 rfl (Dsk 26 rfl (Dsk 27 rfl (Dsk 28 rfl (Dyp 29 rfl (v8 rfl rfl) (Dyp 30 rfl (v8 rfl rfl) (s3 kr (Et (o4 rfl (i7 (t8 (Et (Ez Z3 (Em rfl (Ey rfl ((Y.add rfl rfl om om).yd) (Ei rfl ?_))))))))))))))))))))))))
         exact Eu (w4 br (g + 1) rs (.refl _) ⟨by omega, by grind [Z0, H2, H3, J1, ltB, F6, d1, d2, t1, t2]⟩ om)
       ·refine Dyp 12 rfl (Y.not (b := false) rfl) (Dyp 13 rfl (o0 rfl) (Dsk 14 rfl (Dsk 15 rfl (b2N 16 rfl rfl dc kr (Dsk 17 rfl (Dsk 18 rfl (Dsk 19 rfl (Dsk 20 rfl (Dsk 21 rfl (Dsk 22 rfl (Dsk 23 rfl (Dsk 24 rfl (Dsk 25 rfl (Dsk 26 rfl (Dsk 27 rfl (Dsk 28 rfl (Dsk 29 rfl (Dyp 30 rfl (w5 rfl rfl) (s3 kr (Et (o5 rfl (Ew Z1 (Ei rfl ?_)))))))))))))))))))))))
        exact Eu (E.ret (w8 (l4 (l4 (w8 (l4 (Fb rfl rfl (by grind [R1, a0I, M4, F6, Z0, H2, H3, J1, ltB, d1, d2, t1, t2]))))))))
      ·refine Eu (o4 rfl (E.exit (o3 (o3 (w3 (Et (Ew Z1 (Ei rfl ?_))))))))
       exact Eu (E.ret (Fb rfl rfl (by grind [R1, a0I, M4, F6, Z0, H2, H3, J1, ltB, d1, d2, t1, t2])))
     ·refine Ey rfl ((Y.not (b := false) rfl).yd) (Ey rfl ((v8 rfl rfl).yd) (Eu (o5 rfl (Ew Z1 (Ei rfl ?_)))))
      exact Eu (E.ret (l4 (Fb rfl rfl (by grind [R1, a0I, M4, F6, Z0, H2, H3, J1, ltB, d1, d2, t1, t2]))))
    ·refine Ey rfl ((Y.not (b := false) rfl).yd) (Ey rfl ((v8 rfl rfl).yd) (Em rfl (Es rfl (Es rfl (Es rfl (Es rfl (Ey rfl ((w5 rfl rfl).yd) (Eu (o5 rfl (Ew Z1 (Ei rfl ?_)))))))))))
     exact Eu (E.ret (l4 (Fb rfl rfl (by grind [R1, a0I, M4, F6, Z0, H2, H3, J1, ltB, d1, d2, t1, t2]))))
   ·refine Ey rfl ((Y.not (b := false) rfl).yd) (Ey rfl ((v8 rfl rfl).yd) (Em rfl (Es rfl (Es rfl (Es rfl (Es rfl (Ey rfl ((w5 rfl rfl).yd) (Em rfl (Es rfl (Es rfl (Es rfl (Es rfl (Ey rfl ((w5 rfl rfl).yd) (Eu (o5 rfl (Ew Z1 (Ei rfl ?_)))))))))))))))))
    exact Eu (E.ret (l4 (Fb rfl rfl (by grind [R1, a0I, M4, F6, Z0, H2, H3, J1, ltB, d1, d2, t1, t2]))))
  ·refine Ey rfl ((Y.not (b := false) rfl).yd) (Ey rfl ((v8 rfl rfl).yd) (Em rfl (Es rfl (Es rfl (Es rfl (Es rfl (Ey rfl ((w5 rfl rfl).yd) (Em rfl (Es rfl (Es rfl (Es rfl (Es rfl (Ey rfl ((w5 rfl rfl).yd) (Em rfl (Es rfl (Es rfl (Es rfl (Es rfl (Ey rfl ((w5 rfl rfl).yd) (Eu (o5 rfl (Ew Z1 (Ei rfl ?_)))))))))))))))))))))))
   exact Eu (E.ret (l4 (Fb rfl rfl (by grind [R1, a0I, M4, F6, Z0, H2, H3, J1, ltB, d1, d2, t1, t2]))))
 ·refine Ey rfl ((Y.not (b := false) rfl).yd) (Em rfl (Es rfl (Es rfl (Es rfl (Es rfl (Es rfl (Es rfl (Es rfl (Ey rfl ((w5 rfl rfl).yd) (Em rfl (Es rfl (Es rfl (Es rfl (Es rfl (Ey rfl ((w5 rfl rfl).yd) (Em rfl (Es rfl (Es rfl (Es rfl (Es rfl (Ey rfl ((w5 rfl rfl).yd) (Em rfl (Es rfl (Es rfl (Es rfl (Es rfl (Ey rfl ((w5 rfl rfl).yd) (Eu (o5 rfl (Ew Z1 (Ei rfl ?_)))))))))))))))))))))))))))))))
  exact Eu (E.ret (l4 (Fb rfl rfl (by grind [R1, a0I, M4, F6, Z0, H2, H3, J1, ltB, d1, d2, t1, t2]))))
theorem a6U {b_s : Nat} : Tr Tryz.prog 149 [.agg #[.int .i64 D8, .slice C3 D6 C2, .int .i64 B6, .int .i64 D5, .int .i64 B7], .pointer (some ⟨b_s, 0, none⟩)] (fun w L => (I64 D8 ∧ Ro w L eIs [.slice C3 D6 C2] v6 ∧ I64 B6 ∧ I64 D5 ∧ I64 B7) ∧ RoPt w L b_s [.slice a_s m_s c_s] ∧ Ro w L eIs [.slice a_s m_s c_s] s) [] (κ := Unit) (fun k => True) (fun k => .bool (!R1 s (D8, v6, B6, D5, B7))) (fun k => []) := by
 refine l0 Tryz.func149 rfl (n := 8) rfl (by decide +kernel) bl (fr := [(0, .agg #[.int .i64 D8, .slice C3 D6 C2, .int .i64 B6, .int .i64 D5, .int .i64 B7]), (1, .pointer (some ⟨b_s, 0, none⟩))]) rfl fun w L hR => ?_
 obtain ⟨⟨X4, E4, Q4, U2, Q5⟩, hb_s, hs⟩ := hR
 obtain ⟨rfl, a0g⟩ := E4.slen
 obtain ⟨rfl, ls⟩ := hs.slen
 refine Ew Z2 (Est rfl (N.box (cs := [_, _, _, _, _]) rfl dc rfl) (fun b2 _ => (Ei rfl (Ev Z5 (Ey rfl (g9 ty_Is rfl (hb_s.has) rfl) (Ey rfl (r9 (cs := [_, _, _, _, _]) ty_Method rfl (Has.pt m0) rfl) (Est rfl (n0 b0i rfl rfl rfl dc (fun w Lp hA => ⟨hA.ro hs, X4, hA.ro E4, Q4, U2, Q5⟩)) (fun _ _ => (Ey rfl ((Y.not rfl).yd) (Ei rfl ?_))))))))))
 exact Eu (E.ret (Fb rfl rfl (by grind [d1, d2, t1, t2])))
theorem a8v : Tr Tryz.prog 71 [.slice a_s m_s c_s, .slice a_l m_l c_l] (fun w L => Ro w L eIs [.slice a_s m_s c_s] s ∧ Ro w L E1 [.slice a_l m_l c_l] l) [] (κ := Unit) (fun k => True) (fun k => .bool (E2 s l)) (fun k => []) := by
 refine l0 Tryz.func71 rfl (n := 18) rfl (by decide +kernel) bl (fr := [(0, .slice a_s m_s c_s), (1, .slice a_l m_l c_l)]) rfl fun w L hR => ?_
 obtain ⟨hs, hl⟩ := hR
 obtain ⟨rfl, ls⟩ := hs.slen
 obtain ⟨rfl, ll⟩ := hl.slen
 refine Ew Z2 (Est rfl (N.box (cs := [_]) rfl dc rfl) (fun b2 _ => (Ei rfl (Ev Z14 (Ey rfl (g9 ty_Is rfl (Has.pt m0) rfl) (Est rfl (n0 a1X rfl rfl rfl dc (fun w Lp hA => hA.ro hs)) (fun _ _ => (Ent.b (fun q6 => ?_) (fun q6 => ?_)))))))))
 ·refine Em rfl (Em rfl (Ey rfl ((Y.len us_Methods rfl).yd) (Ey rfl ((Y.leq rfl rfl).yd) (o7 (fun q10 => ?_) (fun q10 => ?_)))))
  ·refine Ey rfl ((w5 rfl rfl).yd) (Em rfl (Em rfl (Ey rfl ((Y.fn (vs := [_]) rfl).yd) (Est rfl (n0 (a5R (f := (fun z => !R1 s z)) (D_f := (fun _ => True)) (by intros; exact trivial)) rfl rfl rfl dc (fun w Lp hA => ⟨hA.ro hl, a7O (D := (fun _ => True)) (fun hd => a6U) (fun w' hk => ⟨(hA.pt m0).keep hk, (hA.ro hs).keep hk⟩)⟩)) (fun _ _ => (Ey rfl ((Y.not rfl).yd) (Ey rfl ((w5 rfl rfl).yd) (Ei rfl ?_))))))))
   exact Eu (E.ret (Fb rfl rfl (by grind [E2, d1, d2, t1, t2])))
  ·refine Ey rfl ((w5 rfl rfl).yd) (Em rfl (Es rfl (Es rfl (Es rfl (Es rfl (Ey rfl ((v8 rfl rfl).yd) (Ei rfl ?_)))))))
   exact Eu (E.ret (Fb rfl rfl (by grind [E2, d1, d2, t1, t2])))
 ·refine Em rfl (Es rfl (Es rfl (Es rfl (Ey rfl ((v8 rfl rfl).yd) (Em rfl (Es rfl (Es rfl (Es rfl (Es rfl (Ey rfl ((v8 rfl rfl).yd) (Ei rfl ?_)))))))))))
  exact Eu (E.ret (Fb rfl rfl (by grind [E2, d1, d2, t1, t2])))
theorem a2H : Tr Tryz.prog 62 [.slice a_s m_s c_s, .slice a_l m_l c_l] (fun w L => Ro w L eIs [.slice a_s m_s c_s] s ∧ Ro w L E1 [.slice a_l m_l c_l] l) [] (κ := Unit) (fun k => True) (fun k => .bool (E2 s l)) (fun k => []) := by
 refine l0 Tryz.func62 rfl (n := 26) rfl (by decide +kernel) bl (fr := [(0, .slice a_s m_s c_s), (1, .slice a_l m_l c_l)]) rfl fun w L hR => ?_
 obtain ⟨hs, hl⟩ := hR
 obtain ⟨rfl, ls⟩ := hs.slen
 obtain ⟨rfl, ll⟩ := hl.slen
 refine Ew Z1 (Ei rfl (Eu (Eq_ (Ew Z1 (Ei rfl (Eu (E.block (E.loop (κ := Nat) (fun g => g ≤ l.length ∧ l.any (fun m => !R1 s m) = (l.drop g).any (fun m => !R1 s m)) (fun g => [(0, .slice a_s s.length c_s), (1, .slice a_l l.length c_l), (5, .int .i64 (g : Int))]) (fun g => []) (fun g => l.length - g) 0 ⟨Nat.zero_le _, by simp⟩ ⟨rfl, rfl, rfl, trivial⟩ (.refl _) (fun g pg => ?_)))))))))
 obtain ⟨pk, pa⟩ := pg
 refine Eq_ (Ew Z4 (Em rfl (Em rfl (Ey rfl ((Y.len us_Methods rfl).yd) (Ey rfl ((Y.lss rfl rfl).yd) (o7 (fun q9 => ?_) (fun q9 => ?_)))))))
 ·refine Eu (o5 rfl (i7 (Et (Eq_ (E.block (Ew Z7 (Em rfl (Em rfl (Em rfl ?_)))))))))
  obtain ⟨eb15, eo15, ec15, ea15, er15, el15, eh15⟩ := hl.elem g om
  obtain ⟨xa15_0, xc15_0, rfl, ei15_0, xh15_0, ei15_2, ei15_3, ei15_4⟩ := K4 er15
  have := xh15_0.slen.2
  refine Ey rfl ((s4 us_Methods ty_Method rfl ea15 rfl g rfl om).yd) (Ey rfl (r9 (cs := [_, _, _, _, _]) ty_Method rfl (eh15 _) rfl) (Est rfl (n0 b0a rfl rfl rfl dc (fun w Lp hA => ⟨hA.ro hs, ei15_0, hA.ro xh15_0, ei15_2, ei15_3, ei15_4⟩)) (fun _ _ => (Ent.b (fun q17 => ?_) (fun q17 => ?_)))))
  ·refine Ey rfl ((Y.not (b := true) rfl).yd) (Eu (o4 rfl (i7 (t8 (Et (Ez Z3 (Em rfl (Ey rfl ((Y.add rfl rfl om om).yd) (Ei rfl ?_)))))))))
   exact Eu (w4 br (g + 1) rs (.refl _) ⟨by omega, by grind [d1, d2, t1, t2]⟩ om)
  ·refine Ey rfl ((Y.not (b := false) rfl).yd) (Eu (o5 rfl (Ew Z1 (Ei rfl ?_))))
   exact Eu (E.ret (w8 (l4 (l4 (w8 (l4 (Fb rfl rfl (by grind [E2, d1, d2, t1, t2]))))))))
 ·refine Eu (o4 rfl (E.exit (o3 (o3 (w3 (Et (Ew Z8 (Em rfl (Est rfl (n0 W9 rfl rfl rfl dc (fun w Lp hA => hA.ro hs)) (fun _ _ => (Ent.b (fun q20 => ?_) (fun q20 => ?_))))))))))))
  ·refine Em rfl (Em rfl (Ey rfl ((Y.len us_Methods rfl).yd) (Ey rfl ((Y.leq rfl rfl).yd) (Ey rfl ((w5 rfl rfl).yd) (Ei rfl ?_)))))
   exact Eu (E.ret (Fb rfl rfl (by grind [E2, d1, d2, t1, t2])))
  ·refine Em rfl (Es rfl (Es rfl (Es rfl (Ey rfl ((v8 rfl rfl).yd) (Ei rfl ?_)))))
   exact Eu (E.ret (Fb rfl rfl (by grind [E2, d1, d2, t1, t2])))
theorem a7B {a6t : Int} {X0 : Option Addr} {X1 X2 : Nat} {a2n : List Int} {b_a : Nat} : Tr Tryz.prog 211 [.agg #[.int .i64 a6t, .slice X0 X1 X2], .pointer (some ⟨b_a, 0, none⟩)] (fun w L => (I64 a6t ∧ Ro w L eIs [.slice X0 X1 X2] a2n) ∧ RoPt w L b_a [.int .i64 r7, .slice y4 y8 x9] ∧ I64 r7 ∧ Ro w L eIs [.slice y4 y8 x9] s6) [] (κ := Unit) (fun k => True) (fun k => .bool (decide ((a6t, a2n) = (r7, s6)))) (fun k => []) := by
 refine l0 Tryz.func211 rfl (n := 7) rfl (by decide +kernel) bl (fr := [(0, .agg #[.int .i64 a6t, .slice X0 X1 X2]), (1, .pointer (some ⟨b_a, 0, none⟩))]) rfl fun w L hR => ?_
 obtain ⟨⟨b5T, a1x⟩, hb_a, N8, C5⟩ := hR
 obtain ⟨rfl, b2i⟩ := a1x.slen
 obtain ⟨rfl, R9⟩ := C5.slen
 refine Ew Z2 (Est rfl (N.box (cs := [_, _]) rfl dc rfl) (fun b2 _ => (Ei rfl (Ev Z4 (Ey rfl (r9 (cs := [_, _]) ty_Access rfl (Has.pt m0) rfl) (Ey rfl (r9 (cs := [_, _]) ty_Access rfl (hb_a.has) rfl) (Est rfl (n0 a8x rfl rfl rfl dc (fun w Lp hA => ⟨⟨b5T, hA.ro a1x, N8, hA.ro C5⟩, trivial⟩)) (fun _ _ => (Ei rfl ?_)))))))))
 exact Eu (E.ret (Fg rfl rfl () rfl rfl))
theorem a9l {l : List (Int × List Int)} : Tr Tryz.prog 125 [.slice a_l m_l c_l, .agg #[.int .i64 r7, .slice y4 y8 x9]] (fun w L => Ro w L G8 [.slice a_l m_l c_l] l ∧ I64 r7 ∧ Ro w L eIs [.slice y4 y8 x9] s6) [] (κ := Unit) (fun k => True) (fun k => .bool (a2i l (r7, s6))) (fun k => []) := by
 refine l0 Tryz.func125 rfl (n := 8) rfl (by decide +kernel) bl (fr := [(0, .slice a_l m_l c_l), (1, .agg #[.int .i64 r7, .slice y4 y8 x9])]) rfl fun w L hR => ?_
 obtain ⟨hl, N8, C5⟩ := hR
 obtain ⟨rfl, ll⟩ := hl.slen
 obtain ⟨rfl, R9⟩ := C5.slen
 refine Ew Z2 (Est rfl (N.box (cs := [_, _]) rfl dc rfl) (fun b3 _ => (Ei rfl (Ev Z4 (Em rfl (Ey rfl ((Y.fn (vs := [_]) rfl).yd) (Est rfl (n0 (a5L (f := (fun z => decide (z = (r7, s6)))) (D_f := (fun _ => True)) (by intros; exact trivial)) rfl rfl rfl dc (fun w Lp hA => ⟨hA.ro hl, b4m (D := (fun _ => True)) (fun hd => a7B) (fun w' hk => ⟨(hA.pt m0).keep hk, N8, (hA.ro C5).keep hk⟩)⟩)) (fun _ _ => (Ei rfl ?_)))))))))
 exact Eu (E.ret (Fb rfl rfl (by rfl)))
theorem b0h {a_log : Option Addr} {m_log c_log : Nat} {log : List (Int × List Int)} : Tr Tryz.prog 86 [.slice a_log m_log c_log, .agg #[.int .i64 r7, .slice y4 y8 x9]] (fun w L => Ro w L G8 [.slice a_log m_log c_log] log ∧ I64 r7 ∧ Ro w L eIs [.slice y4 y8 x9] s6) [] (κ := Unit) (fun k => True) (fun k => .bool (a2i log (r7, s6))) (fun k => []) := by
 refine l0 Tryz.func86 rfl (n := 18) rfl (by decide +kernel) bl (fr := [(0, .slice a_log m_log c_log), (1, .agg #[.int .i64 r7, .slice y4 y8 x9])]) rfl fun w L hR => ?_
 obtain ⟨hlog, N8, C5⟩ := hR
 obtain ⟨rfl, llog⟩ := hlog.slen
 obtain ⟨rfl, R9⟩ := C5.slen
 refine Ew Z2 (Est rfl (N.box (cs := [_, _]) rfl dc rfl) (fun b3 _ => (Ei rfl (Eu (Eq_ (Ew Z1 (Ei rfl (Eu (E.block (E.loop (κ := Nat) (fun g => g ≤ log.length ∧ a2i log (r7, s6) = a2i (log.drop g) (r7, s6)) (fun g => [(0, .slice a_log log.length c_log), (3, .pointer (some ⟨b3, 0, none⟩)), (5, .int .i64 (g : Int))]) (fun g => [pt b3 133 [.int .i64 r7, .slice y4 s6.length x9]]) (fun g => log.length - g) 0 ⟨Nat.zero_le _, by simp⟩ ⟨rfl, rfl, rfl, trivial⟩ (.refl _) (fun g pg => ?_)))))))))))
 obtain ⟨pk, pa⟩ := pg
 refine Eq_ (Ew Z4 (Em rfl (Em rfl (Ey rfl ((Y.len us_Accesss rfl).yd) (Ey rfl ((Y.lss rfl rfl).yd) (o7 (fun q9 => ?_) (fun q9 => ?_)))))))
 ·refine Eu (o5 rfl (i7 (Et (Eq_ (E.block (Eq_ (D.region (fun j => true) mixed (Dyp 0 rfl (o0 rfl) (Dyp 1 rfl (o0 rfl) ?_)))))))))
  obtain ⟨eb14, eo14, ec14, ea14, er14, el14, eh14⟩ := hlog.elem g om
  obtain ⟨xa14_0, xc14_0, rfl, ei14_0, xh14_0⟩ := a1O er14
  have := xh14_0.slen.2
  refine Dyp 2 rfl (s4 us_Accesss ty_Access rfl ea14 rfl g rfl om) (Dy 3 rfl (r9 (cs := [_, _]) ty_Access rfl (eh14 _) rfl) (Dy 4 rfl (r9 (cs := [_, _]) ty_Access rfl (Has.pt m0) rfl) (t6 5 rfl rfl kr (fun _ => rfl) (n0 b2C rfl rfl rfl dc (fun w Lp hA => ⟨ei14_0, hA.ro xh14_0, N8, hA.ro C5⟩)) (fun _ _ => (Ent.b (fun q17 => ?_) (fun q17 => ?_))))))
  ·refine s3 kr (Et (o5 rfl (Ew Z1 (Ei rfl ?_))))
   exact Eu (E.ret (w8 (l4 (l4 (w8 (l4 (Fb rfl rfl (by grind [a2i, d1, d2, t1, t2]))))))))
  ·refine s3 kr (Et (o4 rfl (i7 (t8 (Et (Ez Z3 (Em rfl (Ey rfl ((Y.add rfl rfl om om).yd) (Ei rfl ?_)))))))))
   exact Eu (w4 br (g + 1) rs (.refl _) ⟨by omega, by grind [a2i, d1, d2, t1, t2]⟩ om)
 ·refine Eu (o4 rfl (E.exit (o3 (o3 (w3 (Et (Ew Z1 (Ei rfl ?_))))))))
  exact Eu (E.ret (Fb rfl rfl (by grind [a2i, d1, d2, t1, t2])))
theorem a7l {a_a : Option Addr} {m_a c_a : Nat} {a : List (Int × List Int × Int × Int × Int)} {v : Int} : Tr Tryz.prog 23 [.slice a_a m_a c_a, .int .i64 v] (fun w L => 0 ≤ v ∧ v + ((u5 I3 a : Nat) : Int) ≤ 4611686018427387904) [ow E1 [.slice a_a m_a c_a] a] (κ := Unit) (fun k => True) (fun k => .int .i64 (v + (u5 I3 a : Nat))) (fun k => [ow E1 [.slice a_a m_a c_a] (mkL I3 a0V a v)]) := by
 refine l0 Tryz.func23 rfl (n := 48) rfl (by decide +kernel) bl (fr := [(0, .slice a_a m_a c_a), (1, .int .i64 v)]) rfl fun w L hR => ?_
 obtain ⟨as0, as1⟩ := hR
 refine f5 m0 fun ea la => ?_
 subst ea
 refine Ew Z1 (Ei rfl (Eu (Eq_ (Ew Z1 (Ei rfl (Eu (E.block (E.loop (κ := Nat) (fun g => g ≤ a.length) (fun g => [(0, .slice a_a a.length c_a), (1, .int .i64 (v + (u5 I3 (a.take g) : Nat))), (5, .int .i64 (g : Int))]) (fun g => [ow E1 [.slice a_a a.length c_a] (mkL I3 a0V (a.take g) v ++ a.drop g)]) (fun g => a.length - g) 0 (Nat.zero_le _) ⟨rfl, frI (by simp [u5]), rfl, trivial⟩ (.refl _) (fun g pg => ?_)))))))))
 have u1 := R6 (t := I3) (l := a) (g := g)
 have u2 := R6 (t := I3) (l := a) (g := g + 1)
 have hlen : (mkL I3 a0V (a.take g) v ++ a.drop g).length = a.length := by rw [List.length_append, a1j, ← List.length_append, List.take_append_drop]
 refine Eq_ (Ew Z4 (Em rfl (Em rfl (Ey rfl ((Y.len us_Methods rfl).yd) (Ey rfl ((Y.lss rfl rfl).yd) (o7 (fun q9 => ?_) (fun q9 => ?_)))))))
 ·have u3 := N5 (t := I3) (show g < a.length by omega)
  have u4 : I3 a[g] = 1 + u5 E8 a[g].2.1 + 1 + 1 + 1 := rfl
  refine Eu (o5 rfl (i7 (Et (Eq_ (E.block (Ew Z6 (Em rfl (Em rfl (Em rfl (U9 m0 om fun ab15 ae15 => (V7 (x := a[g]) g (a7r (show g < a.length by omega)) fun ce15 => (f8 (b4F fun oa15_1 om15_1 oc15_1 oe15 oi15_0 on15_1 oi15_2 oi15_3 oi15_4 => ?_)))))))))))))
  subst oe15
  subst on15_1
  refine Ey rfl ((s4 us_Methods ty_Method rfl ae15 rfl g rfl om).yd) (Ey rfl ((j6 fo_Method_0 i8 dc rfl).yd) (f8 (Est rfl (a6D (f := 0) (kk := 5) (vs := [_]) (ce' := [_, _, _, _, _]) i8 rfl rfl rfl rfl rfl ae15 rfl rfl bl rfl rfl) (fun _ _ => (Ev Z3 (Em rfl (Ey rfl ((Y.add rfl rfl om om).yd) (Ei rfl (Ev Z8 (Em rfl (Em rfl (Ey rfl ((s4 us_Methods ty_Method rfl ae15 rfl g rfl om).yd) (Ey rfl ((j6 fo_Method_1 ty_Is dc rfl).yd) (Ey rfl (g9 ty_Is rfl ((Has.hole ae15 m0).sub (cs' := [_]) 1 rfl) rfl) (Em rfl (f8 (Est rfl (N.call (pre := [_]) a0j rfl rfl rfl dc rfl (fun w Lp hA => ⟨(by first | assumption | omega), (by first | assumption | omega)⟩)) (fun _ _ => (Ei rfl (Ev Z6 (Em rfl (Em rfl (Em rfl (Ey rfl ((s4 us_Methods ty_Method rfl ae15 rfl g rfl om).yd) (Ey rfl ((j6 fo_Method_2 i8 dc rfl).yd) (f8 (Est rfl (a6D (f := 2) (kk := 5) (vs := [_]) (ce' := [_, _, _, _, _]) i8 rfl rfl rfl rfl rfl ae15 rfl rfl bl rfl rfl) (fun _ _ => (Ev Z3 (Em rfl (Ey rfl ((Y.add rfl rfl om om).yd) (Ei rfl (Ev Z6 (Em rfl (Em rfl (Em rfl (Ey rfl ((s4 us_Methods ty_Method rfl ae15 rfl g rfl om).yd) (Ey rfl ((j6 fo_Method_3 i8 dc rfl).yd) (Est rfl (a6D (f := 3) (kk := 5) (vs := [_]) (ce' := [_, _, _, _, _]) i8 rfl rfl rfl rfl rfl ae15 rfl rfl bl rfl rfl) (fun _ _ => (Ev Z3 (Em rfl (Ey rfl ((Y.add rfl rfl om om).yd) (Ei rfl (Ev Z6 (Em rfl (Em rfl (Em rfl (Ey rfl ((s4 us_Methods ty_Method rfl ae15 rfl g rfl om).yd) (Ey rfl ((j6 fo_Method_4 i8 dc rfl).yd) (Est rfl (a6D (f := 4) (kk := 5) (vs := [_]) (ce' := [_, _, _, _, _]) i8 rfl rfl rfl rfl rfl ae15 rfl rfl bl rfl rfl) (fun _ _ => ?_))))))))))))))))))))))))))))))))))))))))))))))))))))
  refine Eu (Ez Z3 (Em rfl (Ey rfl ((Y.add rfl rfl om om).yd) (Ei rfl (En (t8 (Et (Ez Z3 (Em rfl (Ey rfl ((Y.add rfl rfl om om).yd) (Ei rfl (Eu (f8 (f8 (O1 (a4Y (x := (v + (u5 I3 (a.take g) : Nat), mkL E8 W8 a[g].2.1 (v + (u5 I3 (a.take g) : Nat) + 1), (v + (u5 I3 (a.take g) : Nat) + 1) + (u5 E8 a[g].2.1 : Nat), ((v + (u5 I3 (a.take g) : Nat) + 1) + (u5 E8 a[g].2.1 : Nat) + 1), (((v + (u5 I3 (a.take g) : Nat) + 1) + (u5 E8 a[g].2.1 : Nat) + 1) + 1))) i6 Own.ow i6 i6 i6) rfl ?_)))))))))))))))
  exact w4 br (g + 1) ⟨rfl, frI om, rfl, trivial⟩ (a4i (a5P (c := I3) (m := a0V) (show g < a.length by omega) rfl)) om om
 ·refine Eu (o4 rfl (E.exit (o3 (o3 (w3 (Et (Ew Z2 (Em rfl (Ei rfl (Eu (E.ret (i9 (congrArg (ow E1 [_]) (show mkL I3 a0V (a.take g) v ++ a.drop g = mkL I3 a0V a v from by first | exact a1P om | (rw [V6 om]))) ?_))))))))))))
  exact Fg rfl rfl () (by rw [show (v + (u5 I3 a : Nat)) = (v + (u5 I3 (a.take g) : Nat)) from (by first | exact a1P om | (rw [V6 om]))]; try rfl) rfl
end Go.Proofs.YtdopeopehgdccaaGreat
