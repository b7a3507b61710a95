import Derived.Test.YtlfhopooaejpfaaGreatT8
import Derived.Test.YtlfhopooaejpfaaGreatT6
namespace Go.Proofs.YtlfhopooaejpfaaGreat
open Go.RowKit
set_option linter.all false
set_option maxHeartbeats 2000000
attribute [local irreducible] Nop Yd Yp Ent Has Tr FnP FnP2 Src o6 d7 O0 a0h H2
variable {arity n J0 H3 J3 H4 B9 r_Rounds : Int} {l : List (Int × List Int × Int × Int × Int)} {a4x F5 : List (Int × List Int)} {D5 s E5 j6 w5 : List Int} {m_l c_l K3 J1 m_s c_s G2 E7 m_values c_values a2V a0s a2v Y8 a4y a1K : Nat} {a_l J2 a_s E8 a_values a0t Y9 a1L : Option Addr}
theorem a8T {l : List Int} : Tr Tryz.prog 253 [.slice a_l m_l c_l] (fun w L => Ro w L eIs [.slice a_l m_l c_l] l) [] (κ := Unit) (fun k => True) (fun k => .bool (H2 ltB l)) (fun k => []) := by
 refine Tr.intro Tryz.func253 rfl (n := 24) rfl (by decide +kernel) bl (fr := [(0, .slice a_l m_l c_l)]) rfl fun w L hR => ?_
 have hl := hR
 obtain ⟨rfl, ll⟩ := hl.slen
 refine Ew Z1 (Ei rfl (Eu (Eq_ (Ew Z3 (Em rfl (Ey rfl ((Y.len us_Is rfl).yd) (Em rfl (Eu (E.block (E.loop (κ := Nat) (fun g => g ≤ l.length ∧ H2 ltB l = H2 ltB (l.drop (g - 1))) (fun g => [(0, .slice a_l l.length c_l), (5, .int .i64 (↑l.length : Int)), (6, .int .i64 (g : Int))]) (fun g => []) (fun g => l.length - g) 0 ⟨Nat.zero_le _, by simp⟩ ⟨rfl, rfl, rfl, trivial⟩ (.refl _) (fun g pg => ?_)))))))))))
 obtain ⟨pk, pa⟩ := pg
 refine Ew Z1 (Ey rfl ((Y.lss rfl rfl).yd) (n9 (fun q7 => ?_) (fun q7 => ?_)))
 ·refine Eu (Eq_ (o0 rfl (f9 (Et (Eq_ (E.block (Ew Z2 (Em rfl (Ei rfl (Eu (Eq_ (D.region (fun j => true) mixed (Dyp 0 rfl (k6 rfl) (Dyp 1 rfl (Y.gtr rfl rfl) (n9 (fun q10 => ?_) (fun q10 => ?_))))))))))))))))
  ·refine Dyp 2 rfl (k6 rfl) (Dyp 3 rfl (k6 rfl) (Dyp 4 rfl (k6 rfl) ?_))
   obtain ⟨eb14, eo14, ea14, ei14, eh14⟩ := hl.elemI g om
   refine Dyp 5 rfl (w3 us_Is f5 rfl ea14 rfl g rfl om) (Dy 6 rfl (g9 f5 rfl (eh14 _) rfl) (Dyp 7 rfl (k6 rfl) (Dyp 8 rfl (k6 rfl) (Dyp 9 rfl (Y.sub rfl rfl om om) ?_))))
   obtain ⟨eb19, eo19, ea19, ei19, eh19⟩ := hl.elemI (g - 1) om
   refine Dyp 10 rfl (w3 us_Is f5 rfl ea19 rfl (g - 1) om om) (Dy 11 rfl (g9 f5 rfl (eh19 _) rfl) (Dyp 12 rfl (Y.leq rfl rfl) (n9 (fun q21 => ?_) (fun q21 => ?_))))
   ·refine Dyp 13 rfl (x6 rfl rfl) (t6 kr (Et (o0 rfl (Ew Z1 (Ei rfl ?_)))))
    exact Eu (E.ret (C9 (s9 (s9 (C9 (s9 (Fb rfl rfl (by grind [R8, S2, U7, ltB, d1, d2, t1, t2]))))))))
   ·refine Dyp 13 rfl (x6 rfl rfl) (t6 kr (Et (n8 rfl (f9 (s8 (Et (Ez Z2 (Ey rfl ((Y.add rfl rfl om om).yd) (Em rfl ?_)))))))))
    exact Eu (B0 br (g + 1) rs (.refl _) ⟨by omega, by grind [R8, S2, U7, ltB, d1, d2, t1, t2]⟩ om)
  ·refine Dyp 2 rfl (k6 rfl) (Dsk 3 rfl (Dsk 4 rfl (Dsk 5 rfl (Dsk 6 rfl (Dsk 7 rfl (Dsk 8 rfl (Dsk 9 rfl (Dsk 10 rfl (Dsk 11 rfl (Dsk 12 rfl (Dyp 13 rfl (z7 rfl rfl) (t6 kr (Et (n8 rfl (f9 (s8 (Et (Ez Z2 (Ey rfl ((Y.add rfl rfl om om).yd) (Em rfl ?_))))))))))))))))))))
   exact Eu (B0 br (g + 1) rs (.refl _) ⟨by omega, by grind [R8, S2, U7, ltB, d1, d2, t1, t2]⟩ om)
 ·refine Eu (Eq_ (n8 rfl (E.exit (l3 (l3 (y4 (Et (Ew Z1 (Ei rfl ?_)))))))))
  exact Eu (E.ret (Fb rfl rfl (by grind [R8, S2, U7, ltB, d1, d2, t1, t2])))
theorem a6x {i : Int} {b_arity : Nat} : Tr Tryz.prog 254 [.int .i64 i, .pointer (some ⟨b_arity, 0, none⟩)] (fun w L => (I64 i) ∧ RoPt w L b_arity [.int .i64 arity] ∧ -1000 ≤ arity ∧ arity ≤ 1000) [] (κ := Unit) (fun k => True) (fun k => .bool (!inR i 0 (arity - 1))) (fun k => []) := by
 refine Tr.intro Tryz.func254 rfl (n := 9) rfl (by decide +kernel) bl (fr := [(0, .int .i64 i), (1, .pointer (some ⟨b_arity, 0, none⟩))]) rfl fun w L hR => ?_
 obtain ⟨i6i, hb_arity, as0, as1⟩ := hR
 refine Ew Z1 (Ei rfl (Ev Z6 (Em rfl (Ey rfl (g9 f5 rfl (hb_arity.has) rfl) (Ey rfl ((Y.sub rfl rfl om om).yd) (Est rfl (o4 R2 rfl rfl rfl dc tv) (fun _ _ => (Ey rfl ((Y.not rfl).yd) (Ei rfl ?_)))))))))
 exact Eu (E.ret (Fb rfl rfl (by grind [d1, d2, t1, t2])))
theorem b1S : Tr Tryz.prog 136 [.int .i64 n] (fun w L => True) [] (κ := Unit) (fun k => True) (fun k => .bool (inR n 0 99)) (fun k => []) := by
 refine Tr.intro Tryz.func136 rfl (n := 5) rfl (by decide +kernel) bl (fr := [(0, .int .i64 n)]) rfl fun w L hR => (Ew Z1 (Ei rfl (Ev Z3 (Em rfl (Est rfl (o4 R2 rfl rfl rfl dc tv) (fun _ _ => (Ei rfl ?_)))))))
 exact Eu (E.ret (Fg rfl rfl () rfl rfl))
theorem a7G : Tr Tryz.prog 237 [.agg #[.int .i64 J0, .slice J2 K3 J1, .int .i64 H3, .int .i64 J3, .int .i64 H4], .int .i64 arity] (fun w L => I64 J0 ∧ Ro w L eIs [.slice J2 K3 J1] D5 ∧ I64 H3 ∧ I64 J3 ∧ I64 H4 ∧ -1000 ≤ arity ∧ arity ≤ 1000) [] (κ := Unit) (fun k => True) (fun k => .bool (a0Q (J0, D5, H3, J3, H4) arity)) (fun k => []) := by
 refine Tr.intro Tryz.func237 rfl (n := 30) rfl (by decide +kernel) bl (fr := [(0, .agg #[.int .i64 J0, .slice J2 K3 J1, .int .i64 H3, .int .i64 J3, .int .i64 H4]), (1, .int .i64 arity)]) rfl fun w L hR => ?_
 obtain ⟨a2w, L7, a0S, a1x, a0T, as0, as1⟩ := hR
 obtain ⟨rfl, a2W⟩ := L7.slen
 refine Ew Z3 (Est rfl (N.box (cs := [_, _, _, _, _]) rfl dc rfl) (fun b2 _ => (Est rfl (N.box (cs := [_]) rfl dc rfl) (fun b3 _ => (Ei rfl (Ev Z26 (Ey rfl ((i8 fo_Method_1 ty_Is dc rfl).yd) (Ey rfl (g9 ty_Is rfl (Hz (mS m0) 1 rfl) rfl) (Est rfl (o4 a8T rfl rfl rfl dc (fun w Lp hA => hA.ro L7)) (fun _ _ => (Ent.b (fun q7 => ?_) (fun q7 => ?_))))))))))))
 ·refine Em rfl (Ey rfl ((i8 fo_Method_1 ty_Is dc rfl).yd) (Ey rfl (g9 ty_Is rfl (Hz (mS m0) 1 rfl) rfl) (Ey rfl ((Y.fn (vs := [_]) rfl).yd) (Est rfl (o4 (a0D (f := (fun i => !inR i 0 (arity - 1))) (D_f := (fun _ => True)) (by intros; exact trivial)) rfl rfl rfl dc (fun w Lp hA => ⟨hA.ro L7, a3R (D := (fun _ => True)) (fun hd => a6x) (fun w' hk => ⟨(hA.pt m0).keep hk, (by first | assumption | omega), (by first | assumption | omega)⟩)⟩)) (fun _ _ => (Ent.b (fun q12 => ?_) (fun q12 => ?_)))))))
  ·refine Ey rfl ((Y.not (b := true) rfl).yd) (Ey rfl ((x6 rfl rfl).yd) (Em rfl (Es rfl (Es rfl (Es rfl (Ey rfl ((z7 rfl rfl).yd) (Em rfl (Es rfl (Es rfl (Es rfl (Ey rfl ((z7 rfl rfl).yd) (Em rfl (Es rfl (Es rfl ?_))))))))))))))
   refine Es rfl (Ey rfl ((z7 rfl rfl).yd) (Ei rfl ?_))
   exact Eu (E.ret (Fb rfl rfl (by grind [a0Q, S5, d1, d2, t1, t2])))
  ·refine Ey rfl ((Y.not (b := false) rfl).yd) (Ey rfl ((x6 rfl rfl).yd) (Em rfl (Ey rfl ((i8 fo_Method_2 f5 dc rfl).yd) (Ey rfl (g9 f5 rfl (Hz (mS m0) 2 rfl) rfl) (Est rfl (o4 R2 rfl rfl rfl dc tv) (fun _ _ => (Ent.b (fun q18 => ?_) (fun q18 => ?_))))))))
   ·refine Ey rfl ((x6 rfl rfl).yd) (Em rfl (Ey rfl ((i8 fo_Method_3 f5 dc rfl).yd) (Ey rfl (g9 f5 rfl (Hz (mS m0) 3 rfl) rfl) (Est rfl (o4 b1S rfl rfl rfl dc tv) (fun _ _ => (Ent.b (fun q23 => ?_) (fun q23 => ?_)))))))
    ·refine Ey rfl ((x6 rfl rfl).yd) (Em rfl (Ey rfl ((i8 fo_Method_4 f5 dc rfl).yd) (Ey rfl (g9 f5 rfl (Hz (mS m0) 4 rfl) rfl) (Est rfl (o4 R2 rfl rfl rfl dc tv) (fun _ _ => (Ey rfl ((x6 rfl rfl).yd) (Ei rfl ?_)))))))
     exact Eu (E.ret (Fb rfl rfl (by grind [a0Q, S5, d1, d2, t1, t2])))
    ·refine Ey rfl ((x6 rfl rfl).yd) (Em rfl (Es rfl (Es rfl (Es rfl (Ey rfl ((z7 rfl rfl).yd) (Ei rfl ?_))))))
     exact Eu (E.ret (Fb rfl rfl (by grind [a0Q, S5, d1, d2, t1, t2])))
   ·refine Ey rfl ((x6 rfl rfl).yd) (Em rfl (Es rfl (Es rfl (Es rfl (Ey rfl ((z7 rfl rfl).yd) (Em rfl (Es rfl (Es rfl (Es rfl (Ey rfl ((z7 rfl rfl).yd) (Ei rfl ?_)))))))))))
    exact Eu (E.ret (Fb rfl rfl (by grind [a0Q, S5, d1, d2, t1, t2])))
 ·refine Em rfl (Es rfl (Es rfl (Es rfl (Es rfl (Es rfl (Ey rfl ((z7 rfl rfl).yd) (Em rfl (Es rfl (Es rfl (Es rfl (Ey rfl ((z7 rfl rfl).yd) (Em rfl (Es rfl (Es rfl ?_))))))))))))))
  refine Es rfl (Ey rfl ((z7 rfl rfl).yd) (Em rfl (Es rfl (Es rfl (Es rfl (Ey rfl ((z7 rfl rfl).yd) (Ei rfl ?_)))))))
  exact Eu (E.ret (Fb rfl rfl (by grind [a0Q, S5, d1, d2, t1, t2])))
theorem a9v : Tr Tryz.prog 201 [.slice a_s m_s c_s, .agg #[.int .i64 J0, .slice J2 K3 J1, .int .i64 H3, .int .i64 J3, .int .i64 H4]] (fun w L => Ro w L eIs [.slice a_s m_s c_s] s ∧ I64 J0 ∧ Ro w L eIs [.slice J2 K3 J1] D5 ∧ I64 H3 ∧ I64 J3 ∧ I64 H4) [] (κ := Unit) (fun k => True) (fun k => .bool (U3 s (J0, D5, H3, J3, H4))) (fun k => []) := by
 refine Tr.intro Tryz.func201 rfl (n := 18) rfl (by decide +kernel) bl (fr := [(0, .slice a_s m_s c_s), (1, .agg #[.int .i64 J0, .slice J2 K3 J1, .int .i64 H3, .int .i64 J3, .int .i64 H4])]) rfl fun w L hR => ?_
 obtain ⟨hs, a2w, L7, a0S, a1x, a0T⟩ := hR
 obtain ⟨rfl, ls⟩ := hs.slen
 obtain ⟨rfl, a2W⟩ := L7.slen
 refine Ew Z2 (Est rfl (N.box (cs := [_, _, _, _, _]) rfl dc rfl) (fun b3 _ => (Ei rfl (Eu (Eq_ (D.region (fun j => true) mixed (Dyp 0 rfl (k6 rfl) (Dyp 1 rfl (i8 fo_Method_0 f5 dc rfl) (Dy 2 rfl (g9 f5 rfl (Hz m0 0 rfl) rfl) (u7 3 rfl rfl kr (fun _ => rfl) (o4 a2G rfl rfl rfl dc (fun w Lp hA => hA.ro hs)) (fun _ _ => (Ent.b (fun q8 => ?_) (fun q8 => ?_)))))))))))))
 ·obtain ⟨z1, z2, z3, z4⟩ := Y0 q8
  rw [R7 om] at z3 z4
  refine Dyp 4 rfl (k6 rfl) (Dy 5 rfl (r9 (cs := [_, _, _, _, _]) ty_Method rfl (Has.pt m0) rfl) (Dyp 6 rfl (k6 rfl) (Dyp 7 rfl (i8 fo_Method_0 f5 dc rfl) (Dy 8 rfl (g9 f5 rfl (Hz m0 0 rfl) rfl) ?_))))
  obtain ⟨eb14, eo14, ea14, ei14, eh14⟩ := hs.elemI J0.toNat om
  refine Dyp 9 rfl (w3 us_Is f5 rfl ea14 rfl J0.toNat om om) (Dy 10 rfl (g9 f5 rfl (eh14 _) rfl) (u7 11 rfl rfl kr (fun _ => rfl) (o4 a7G rfl rfl rfl dc (fun w Lp hA => ⟨a2w, hA.ro L7, a0S, a1x, a0T, (by first | assumption | omega), (by first | assumption | omega)⟩)) (fun _ _ => (Dyp 12 rfl (x6 rfl rfl) (Dyp 13 rfl (F1 rfl) ?_)))))
  exact t6 kr (Et (E.ret (Fb rfl rfl (by grind [U3, G3, d1, d2, t1, t2]))))
 ·refine Dyp 4 rfl (k6 rfl) (Dsk 5 rfl (Dsk 6 rfl (Dsk 7 rfl (Dsk 8 rfl (Dsk 9 rfl (Dsk 10 rfl (Dsk 11 rfl (Dyp 12 rfl (z7 rfl rfl) (Dyp 13 rfl (F1 rfl) ?_)))))))))
  exact t6 kr (Et (E.ret (Fb rfl rfl (by grind [U3, G3, d1, d2, t1, t2]))))
theorem a9F : Tr Tryz.prog 86 [.slice a_s m_s c_s, .agg #[.int .i64 J0, .slice J2 K3 J1, .int .i64 H3, .int .i64 J3, .int .i64 H4]] (fun w L => Ro w L eIs [.slice a_s m_s c_s] s ∧ I64 J0 ∧ Ro w L eIs [.slice J2 K3 J1] D5 ∧ I64 H3 ∧ I64 J3 ∧ I64 H4) [] (κ := Unit) (fun k => True) (fun k => .bool (U3 s (J0, D5, H3, J3, H4))) (fun k => []) := by
 refine Tr.intro Tryz.func86 rfl (n := 74) rfl (by decide +kernel) bl (fr := [(0, .slice a_s m_s c_s), (1, .agg #[.int .i64 J0, .slice J2 K3 J1, .int .i64 H3, .int .i64 J3, .int .i64 H4])]) rfl fun w L hR => ?_
 obtain ⟨hs, a2w, L7, a0S, a1x, a0T⟩ := hR
 obtain ⟨rfl, ls⟩ := hs.slen
 obtain ⟨rfl, a2W⟩ := L7.slen
 refine Ew Z2 (Est rfl (N.box (cs := [_, _, _, _, _]) rfl dc rfl) (fun b3 _ => (Ei rfl (Eu (Eq_ (Ew Z30 (Em rfl (Est rfl (o4 O3 rfl rfl rfl dc (fun w Lp hA => hA.ro hs)) (fun _ _ => (Ent.b (fun q7 => ?_) (fun q7 => ?_)))))))))))
 ·refine Ey rfl ((Y.not (b := true) rfl).yd) (Em rfl (Ey rfl ((i8 fo_Method_0 f5 dc rfl).yd) (Ey rfl (g9 f5 rfl (Hz m0 0 rfl) rfl) (Em rfl (Ey rfl ((Y.len us_Is rfl).yd) (Ey rfl ((Y.sub rfl rfl om om).yd) (Est rfl (o4 N7 rfl rfl rfl dc tv) (fun _ _ => (Ent.b (fun q15 => ?_) (fun q15 => ?_))))))))))
  ·have y1 : L8 s J0 = true := by rw [L8, q7, q15]; rfl
   obtain ⟨z1, z2, z3, z4⟩ := Y0 y1
   rw [R7 om] at z3 z4
   refine Ey rfl ((Y.not (b := true) rfl).yd) (Ey rfl ((z7 rfl rfl).yd) (Em rfl (Ey rfl ((i8 fo_Method_2 f5 dc rfl).yd) (Ey rfl (g9 f5 rfl (Hz m0 2 rfl) rfl) (Est rfl (o4 N7 rfl rfl rfl dc tv) (fun _ _ => (Ent.b (fun q21 => ?_) (fun q21 => ?_))))))))
   ·refine Ey rfl ((Y.not (b := true) rfl).yd) (Ey rfl ((z7 rfl rfl).yd) (Em rfl (Ey rfl ((i8 fo_Method_3 f5 dc rfl).yd) (Ey rfl (g9 f5 rfl (Hz m0 3 rfl) rfl) (Est rfl (o4 N7 rfl rfl rfl dc tv) (fun _ _ => (Ent.b (fun q27 => ?_) (fun q27 => ?_))))))))
    ·refine Ey rfl ((Y.not (b := true) rfl).yd) (Ey rfl ((z7 rfl rfl).yd) (Em rfl (Ey rfl ((i8 fo_Method_4 f5 dc rfl).yd) (Ey rfl (g9 f5 rfl (Hz m0 4 rfl) rfl) (Est rfl (o4 N7 rfl rfl rfl dc tv) (fun _ _ => (Ent.b (fun q33 => ?_) (fun q33 => ?_))))))))
     ·refine Ey rfl ((Y.not (b := true) rfl).yd) (Ey rfl ((z7 rfl rfl).yd) (Eu (n8 rfl (f9 (Et (Eq_ (Ew Z1 (Ei rfl (Eu (E.block (E.loop (κ := Nat) (fun g => g ≤ D5.length ∧ (S5 D5 (at0 s J0) && H2 ltB D5) = (S5 (D5.drop g) (at0 s J0) && H2 ltB (D5.drop (g - 1)))) (fun g => [(0, .slice a_s s.length c_s), (3, .pointer (some ⟨b3, 0, none⟩)), (5, .int .i64 (g : Int))]) (fun g => [pt b3 86 [.int .i64 J0, .slice J2 D5.length J1, .int .i64 H3, .int .i64 J3, .int .i64 H4]]) (fun g => D5.length - g) 0 ⟨Nat.zero_le _, by simp⟩ ⟨rfl, rfl, rfl, trivial⟩ (.refl _) (fun g pg => ?_))))))))))))
      obtain ⟨pk, pa⟩ := pg
      refine Eq_ (Ew Z5 (Em rfl (Ey rfl ((i8 fo_Method_1 ty_Is dc rfl).yd) (Ey rfl (g9 ty_Is rfl (Hz m0 1 rfl) rfl) (Ey rfl ((Y.len us_Is rfl).yd) (Ey rfl ((Y.lss rfl rfl).yd) (n9 (fun q40 => ?_) (fun q40 => ?_))))))))
      ·refine Eu (o0 rfl (f9 (Et (Eq_ (E.block (Eq_ (D.region (fun j => true) mixed (Dyp 0 rfl (i8 fo_Method_1 ty_Is dc rfl) (Dy 1 rfl (g9 ty_Is rfl (Hz m0 1 rfl) rfl) (Dyp 2 rfl (k6 rfl) ?_))))))))))
       obtain ⟨eb46, eo46, ea46, ei46, eh46⟩ := L7.elemI g om
       refine Dyp 3 rfl (w3 us_Is f5 rfl ea46 rfl g rfl om) (Dy 4 rfl (g9 f5 rfl (eh46 _) rfl) (Dyp 5 rfl (k6 rfl) (Dyp 6 rfl (i8 fo_Method_0 f5 dc rfl) (Dy 7 rfl (g9 f5 rfl (Hz m0 0 rfl) rfl) ?_))))
       obtain ⟨eb51, eo51, ea51, ei51, eh51⟩ := hs.elemI J0.toNat om
       refine Dyp 8 rfl (w3 us_Is f5 rfl ea51 rfl J0.toNat om om) (Dy 9 rfl (g9 f5 rfl (eh51 _) rfl) (Dyp 10 rfl (Y.sub rfl rfl om om) (u7 11 rfl rfl kr (fun _ => rfl) (o4 N7 rfl rfl rfl dc tv) (fun _ _ => (Ent.b (fun q54 => ?_) (fun q54 => ?_))))))
       ·refine Dyp 12 rfl (Y.not (b := true) rfl) (Dyp 13 rfl (k6 rfl) (Dyp 14 rfl (k6 rfl) (Dyp 15 rfl (Y.gtr rfl rfl) (n9 (fun q58 => ?_) (fun q58 => ?_)))))
        ·refine Dyp 16 rfl (k6 rfl) (Dyp 17 rfl (i8 fo_Method_1 ty_Is dc rfl) (Dy 18 rfl (g9 ty_Is rfl (Hz m0 1 rfl) rfl) (Dyp 19 rfl (k6 rfl) (Dyp 20 rfl (w3 us_Is f5 rfl ea46 rfl g rfl om) (Dy 21 rfl (g9 f5 rfl (eh46 _) rfl) (Dyp 22 rfl (i8 fo_Method_1 ty_Is dc rfl) (Dy 23 rfl (g9 ty_Is rfl (Hz m0 1 rfl) rfl) (Dyp 24 rfl (k6 rfl) (Dyp 25 rfl (Y.sub rfl rfl om om) ?_)))))))))
         obtain ⟨eb69, eo69, ea69, ei69, eh69⟩ := L7.elemI (g - 1) om
         refine Dyp 26 rfl (w3 us_Is f5 rfl ea69 rfl (g - 1) om om) (Dy 27 rfl (g9 f5 rfl (eh69 _) rfl) (Dyp 28 rfl (Y.leq rfl rfl) (n9 (fun q71 => ?_) (fun q71 => ?_))))
         ·refine Dyp 29 rfl (x6 rfl rfl) (Dyp 30 rfl (z7 rfl rfl) (t6 kr (Et (o0 rfl (Ew Z1 (Ei rfl ?_))))))
          exact Eu (E.ret (C9 (s9 (s9 (C9 (s9 (Fb rfl rfl (by grind [U3, a0Q, L8, G3, S5, R8, S2, U7, ltB, d1, d2, t1, t2]))))))))
         ·refine Dyp 29 rfl (x6 rfl rfl) (Dyp 30 rfl (z7 rfl rfl) (t6 kr (Et (n8 rfl (f9 (s8 (Et (Ez Z3 (Em rfl (Ey rfl ((Y.add rfl rfl om om).yd) (Ei rfl ?_)))))))))))
          exact Eu (B0 br (g + 1) rs (.refl _) ⟨by omega, by grind [S5, R8, S2, U7, ltB, G3, d1, d2, t1, t2]⟩ om)
        ·refine Dyp 16 rfl (k6 rfl) (Dsk 17 rfl (Dsk 18 rfl (Dsk 19 rfl (Dsk 20 rfl (Dsk 21 rfl (Dsk 22 rfl (Dsk 23 rfl (Dsk 24 rfl (Dsk 25 rfl (Dsk 26 rfl (Dsk 27 rfl (Dsk 28 rfl (Dyp 29 rfl (z7 rfl rfl) (Dyp 30 rfl (z7 rfl rfl) ?_))))))))))))))
         refine t6 kr (Et (n8 rfl (f9 (s8 (Et (Ez Z3 (Em rfl (Ey rfl ((Y.add rfl rfl om om).yd) (Ei rfl ?_)))))))))
         exact Eu (B0 br (g + 1) rs (.refl _) ⟨by omega, by grind [S5, R8, S2, U7, ltB, G3, d1, d2, t1, t2]⟩ om)
       ·refine Dyp 12 rfl (Y.not (b := false) rfl) (Dyp 13 rfl (k6 rfl) (Dsk 14 rfl (Dsk 15 rfl (c1z 16 rfl rfl dc kr (Dsk 17 rfl (Dsk 18 rfl (Dsk 19 rfl (Dsk 20 rfl (Dsk 21 rfl (Dsk 22 rfl (Dsk 23 rfl (Dsk 24 rfl (Dsk 25 rfl (Dsk 26 rfl ?_))))))))))))))
        refine Dsk 27 rfl (Dsk 28 rfl (Dsk 29 rfl (Dyp 30 rfl (x6 rfl rfl) (t6 kr (Et (o0 rfl (Ew Z1 (Ei rfl ?_))))))))
        exact Eu (E.ret (C9 (s9 (s9 (C9 (s9 (Fb rfl rfl (by grind [U3, a0Q, L8, G3, S5, R8, S2, U7, ltB, d1, d2, t1, t2]))))))))
      ·refine Eu (n8 rfl (E.exit (l3 (l3 (y4 (Et (Ew Z1 (Ei rfl ?_))))))))
       exact Eu (E.ret (Fb rfl rfl (by grind [U3, a0Q, L8, G3, S5, R8, S2, U7, ltB, d1, d2, t1, t2])))
     ·refine Ey rfl ((Y.not (b := false) rfl).yd) (Ey rfl ((z7 rfl rfl).yd) (Eu (o0 rfl (Ew Z1 (Ei rfl ?_)))))
      exact Eu (E.ret (s9 (Fb rfl rfl (by grind [U3, a0Q, L8, G3, S5, R8, S2, U7, ltB, d1, d2, t1, t2]))))
    ·refine Ey rfl ((Y.not (b := false) rfl).yd) (Ey rfl ((z7 rfl rfl).yd) (Em rfl (Es rfl (Es rfl (Es rfl (Es rfl (Ey rfl ((x6 rfl rfl).yd) (Eu (o0 rfl (Ew Z1 (Ei rfl ?_)))))))))))
     exact Eu (E.ret (s9 (Fb rfl rfl (by grind [U3, a0Q, L8, G3, S5, R8, S2, U7, ltB, d1, d2, t1, t2]))))
   ·refine Ey rfl ((Y.not (b := false) rfl).yd) (Ey rfl ((z7 rfl rfl).yd) (Em rfl (Es rfl (Es rfl (Es rfl (Es rfl (Ey rfl ((x6 rfl rfl).yd) (Em rfl (Es rfl (Es rfl (Es rfl (Es rfl (Ey rfl ((x6 rfl rfl).yd) (Eu (o0 rfl (Ew Z1 (Ei rfl ?_)))))))))))))))))
    exact Eu (E.ret (s9 (Fb rfl rfl (by grind [U3, a0Q, L8, G3, S5, R8, S2, U7, ltB, d1, d2, t1, t2]))))
  ·refine Ey rfl ((Y.not (b := false) rfl).yd) (Ey rfl ((z7 rfl rfl).yd) (Em rfl (Es rfl (Es rfl (Es rfl (Es rfl (Ey rfl ((x6 rfl rfl).yd) (Em rfl (Es rfl (Es rfl (Es rfl (Es rfl (Ey rfl ((x6 rfl rfl).yd) (Em rfl ?_))))))))))))))
   refine Es rfl (Es rfl (Es rfl (Es rfl (Ey rfl ((x6 rfl rfl).yd) (Eu (o0 rfl (Ew Z1 (Ei rfl ?_))))))))
   exact Eu (E.ret (s9 (Fb rfl rfl (by grind [U3, a0Q, L8, G3, S5, R8, S2, U7, ltB, d1, d2, t1, t2]))))
 ·refine Ey rfl ((Y.not (b := false) rfl).yd) (Em rfl (Es rfl (Es rfl (Es rfl (Es rfl (Es rfl (Es rfl (Es rfl (Ey rfl ((x6 rfl rfl).yd) (Em rfl (Es rfl (Es rfl (Es rfl (Es rfl ?_))))))))))))))
  refine Ey rfl ((x6 rfl rfl).yd) (Em rfl (Es rfl (Es rfl (Es rfl (Es rfl (Ey rfl ((x6 rfl rfl).yd) (Em rfl (Es rfl (Es rfl (Es rfl (Es rfl (Ey rfl ((x6 rfl rfl).yd) (Eu (o0 rfl (Ew Z1 (Ei rfl ?_))))))))))))))))
  exact Eu (E.ret (s9 (Fb rfl rfl (by grind [U3, a0Q, L8, G3, S5, R8, S2, U7, ltB, d1, d2, t1, t2]))))
theorem a7e {b_s : Nat} : Tr Tryz.prog 200 [.agg #[.int .i64 J0, .slice J2 K3 J1, .int .i64 H3, .int .i64 J3, .int .i64 H4], .pointer (some ⟨b_s, 0, none⟩)] (fun w L => (I64 J0 ∧ Ro w L eIs [.slice J2 K3 J1] D5 ∧ I64 H3 ∧ I64 J3 ∧ I64 H4) ∧ RoPt w L b_s [.slice a_s m_s c_s] ∧ Ro w L eIs [.slice a_s m_s c_s] s) [] (κ := Unit) (fun k => True) (fun k => .bool (!U3 s (J0, D5, H3, J3, H4))) (fun k => []) := by
 refine Tr.intro Tryz.func200 rfl (n := 8) rfl (by decide +kernel) bl (fr := [(0, .agg #[.int .i64 J0, .slice J2 K3 J1, .int .i64 H3, .int .i64 J3, .int .i64 H4]), (1, .pointer (some ⟨b_s, 0, none⟩))]) rfl fun w L hR => ?_
 obtain ⟨⟨a2w, L7, a0S, a1x, a0T⟩, hb_s, hs⟩ := hR
 obtain ⟨rfl, a2W⟩ := L7.slen
 obtain ⟨rfl, ls⟩ := hs.slen
 refine Ew Z2 (Est rfl (N.box (cs := [_, _, _, _, _]) rfl dc rfl) (fun b2 _ => (Ei rfl (Ev Z5 (Ey rfl (g9 ty_Is rfl (hb_s.has) rfl) (Ey rfl (r9 (cs := [_, _, _, _, _]) ty_Method rfl (Has.pt m0) rfl) (Est rfl (o4 a9v rfl rfl rfl dc (fun w Lp hA => ⟨hA.ro hs, a2w, hA.ro L7, a0S, a1x, a0T⟩)) (fun _ _ => (Ey rfl ((Y.not rfl).yd) (Ei rfl ?_))))))))))
 exact Eu (E.ret (Fb rfl rfl (by grind [d1, d2, t1, t2])))
theorem a8u : Tr Tryz.prog 143 [.slice a_s m_s c_s, .slice a_l m_l c_l] (fun w L => Ro w L eIs [.slice a_s m_s c_s] s ∧ Ro w L I4 [.slice a_l m_l c_l] l) [] (κ := Unit) (fun k => True) (fun k => .bool (C0 s l)) (fun k => []) := by
 refine Tr.intro Tryz.func143 rfl (n := 18) rfl (by decide +kernel) bl (fr := [(0, .slice a_s m_s c_s), (1, .slice a_l m_l c_l)]) rfl fun w L hR => ?_
 obtain ⟨hs, hl⟩ := hR
 obtain ⟨rfl, ls⟩ := hs.slen
 obtain ⟨rfl, ll⟩ := hl.slen
 refine Ew Z2 (Est rfl (N.box (cs := [_]) rfl dc rfl) (fun b2 _ => (Ei rfl (Ev Z14 (Ey rfl (g9 ty_Is rfl (Has.pt m0) rfl) (Est rfl (o4 a1V rfl rfl rfl dc (fun w Lp hA => hA.ro hs)) (fun _ _ => (Ent.b (fun q6 => ?_) (fun q6 => ?_)))))))))
 ·refine Em rfl (Em rfl (Ey rfl ((Y.len us_Methods rfl).yd) (Ey rfl ((Y.leq rfl rfl).yd) (n9 (fun q10 => ?_) (fun q10 => ?_)))))
  ·refine Ey rfl ((x6 rfl rfl).yd) (Em rfl (Em rfl (Ey rfl ((Y.fn (vs := [_]) rfl).yd) (Est rfl (o4 (a5Y (f := (fun z => !U3 s z)) (D_f := (fun _ => True)) (by intros; exact trivial)) rfl rfl rfl dc (fun w Lp hA => ⟨hA.ro hl, b3I (D := (fun _ => True)) (fun hd => a7e) (fun w' hk => ⟨(hA.pt m0).keep hk, (hA.ro hs).keep hk⟩)⟩)) (fun _ _ => (Ey rfl ((Y.not rfl).yd) (Ey rfl ((x6 rfl rfl).yd) (Ei rfl ?_))))))))
   exact Eu (E.ret (Fb rfl rfl (by grind [C0, d1, d2, t1, t2])))
  ·refine Ey rfl ((x6 rfl rfl).yd) (Em rfl (Es rfl (Es rfl (Es rfl (Es rfl (Ey rfl ((z7 rfl rfl).yd) (Ei rfl ?_)))))))
   exact Eu (E.ret (Fb rfl rfl (by grind [C0, d1, d2, t1, t2])))
 ·refine Em rfl (Es rfl (Es rfl (Es rfl (Ey rfl ((z7 rfl rfl).yd) (Em rfl (Es rfl (Es rfl (Es rfl (Es rfl (Ey rfl ((z7 rfl rfl).yd) (Ei rfl ?_)))))))))))
  exact Eu (E.ret (Fb rfl rfl (by grind [C0, d1, d2, t1, t2])))
theorem a4i : Tr Tryz.prog 29 [.slice a_s m_s c_s, .slice a_l m_l c_l] (fun w L => Ro w L eIs [.slice a_s m_s c_s] s ∧ Ro w L I4 [.slice a_l m_l c_l] l) [] (κ := Unit) (fun k => True) (fun k => .bool (C0 s l)) (fun k => []) := by
 refine Tr.intro Tryz.func29 rfl (n := 26) rfl (by decide +kernel) bl (fr := [(0, .slice a_s m_s c_s), (1, .slice a_l m_l c_l)]) rfl fun w L hR => ?_
 obtain ⟨hs, hl⟩ := hR
 obtain ⟨rfl, ls⟩ := hs.slen
 obtain ⟨rfl, ll⟩ := hl.slen
 refine Ew Z1 (Ei rfl (Eu (Eq_ (Ew Z1 (Ei rfl (Eu (E.block (E.loop (κ := Nat) (fun g => g ≤ l.length ∧ l.any (fun m => !U3 s m) = (l.drop g).any (fun m => !U3 s m)) (fun g => [(0, .slice a_s s.length c_s), (1, .slice a_l l.length c_l), (5, .int .i64 (g : Int))]) (fun g => []) (fun g => l.length - g) 0 ⟨Nat.zero_le _, by simp⟩ ⟨rfl, rfl, rfl, trivial⟩ (.refl _) (fun g pg => ?_)))))))))
 obtain ⟨pk, pa⟩ := pg
 refine Eq_ (Ew Z4 (Em rfl (Em rfl (Ey rfl ((Y.len us_Methods rfl).yd) (Ey rfl ((Y.lss rfl rfl).yd) (n9 (fun q9 => ?_) (fun q9 => ?_)))))))
 ·refine Eu (o0 rfl (f9 (Et (Eq_ (E.block (Ew Z7 (Em rfl (Em rfl (Em rfl ?_)))))))))
  obtain ⟨eb15, eo15, ec15, ea15, er15, el15, eh15⟩ := hl.elem g om
  obtain ⟨xa15_0, xc15_0, rfl, ei15_0, xh15_0, ei15_2, ei15_3, ei15_4⟩ := a0V er15
  have := xh15_0.slen.2
  refine Ey rfl ((w3 us_Methods ty_Method rfl ea15 rfl g rfl om).yd) (Ey rfl (r9 (cs := [_, _, _, _, _]) ty_Method rfl (eh15 _) rfl) (Est rfl (o4 a9F rfl rfl rfl dc (fun w Lp hA => ⟨hA.ro hs, ei15_0, hA.ro xh15_0, ei15_2, ei15_3, ei15_4⟩)) (fun _ _ => (Ent.b (fun q17 => ?_) (fun q17 => ?_)))))
  ·refine Ey rfl ((Y.not (b := true) rfl).yd) (Eu (n8 rfl (f9 (s8 (Et (Ez Z3 (Em rfl (Ey rfl ((Y.add rfl rfl om om).yd) (Ei rfl ?_)))))))))
   exact Eu (B0 br (g + 1) rs (.refl _) ⟨by omega, by grind [d1, d2, t1, t2]⟩ om)
  ·refine Ey rfl ((Y.not (b := false) rfl).yd) (Eu (o0 rfl (Ew Z1 (Ei rfl ?_))))
   exact Eu (E.ret (C9 (s9 (s9 (C9 (s9 (Fb rfl rfl (by grind [C0, d1, d2, t1, t2]))))))))
 ·refine Eu (n8 rfl (E.exit (l3 (l3 (y4 (Et (Ew Z8 (Em rfl (Est rfl (o4 O3 rfl rfl rfl dc (fun w Lp hA => hA.ro hs)) (fun _ _ => (Ent.b (fun q20 => ?_) (fun q20 => ?_))))))))))))
  ·refine Em rfl (Em rfl (Ey rfl ((Y.len us_Methods rfl).yd) (Ey rfl ((Y.leq rfl rfl).yd) (Ey rfl ((x6 rfl rfl).yd) (Ei rfl ?_)))))
   exact Eu (E.ret (Fb rfl rfl (by grind [C0, d1, d2, t1, t2])))
  ·refine Em rfl (Es rfl (Es rfl (Es rfl (Ey rfl ((z7 rfl rfl).yd) (Ei rfl ?_)))))
   exact Eu (E.ret (Fb rfl rfl (by grind [C0, d1, d2, t1, t2])))
theorem a7H {a6G : Int} {Q7 : Option Addr} {Q8 Q9 : Nat} {a0l : List Int} {b_a : Nat} : Tr Tryz.prog 183 [.agg #[.int .i64 a6G, .slice Q7 Q8 Q9], .pointer (some ⟨b_a, 0, none⟩)] (fun w L => (I64 a6G ∧ Ro w L eIs [.slice Q7 Q8 Q9] a0l) ∧ RoPt w L b_a [.int .i64 B9, .slice E8 G2 E7] ∧ I64 B9 ∧ Ro w L eIs [.slice E8 G2 E7] E5) [] (κ := Unit) (fun k => True) (fun k => .bool (decide ((a6G, a0l) = (B9, E5)))) (fun k => []) := by
 refine Tr.intro Tryz.func183 rfl (n := 7) rfl (by decide +kernel) bl (fr := [(0, .agg #[.int .i64 a6G, .slice Q7 Q8 Q9]), (1, .pointer (some ⟨b_a, 0, none⟩))]) rfl fun w L hR => ?_
 obtain ⟨⟨b5H, a0c⟩, hb_a, W9, I6⟩ := hR
 obtain ⟨rfl, a7S⟩ := a0c.slen
 obtain ⟨rfl, a0U⟩ := I6.slen
 refine Ew Z2 (Est rfl (N.box (cs := [_, _]) rfl dc rfl) (fun b2 _ => (Ei rfl (Ev Z4 (Ey rfl (r9 (cs := [_, _]) ty_Access rfl (Has.pt m0) rfl) (Ey rfl (r9 (cs := [_, _]) ty_Access rfl (hb_a.has) rfl) (Est rfl (o4 a8j rfl rfl rfl dc (fun w Lp hA => ⟨⟨b5H, hA.ro a0c, W9, hA.ro I6⟩, trivial⟩)) (fun _ _ => (Ei rfl ?_)))))))))
 exact Eu (E.ret (Fg rfl rfl () rfl rfl))
theorem a8X {l : List (Int × List Int)} : Tr Tryz.prog 121 [.slice a_l m_l c_l, .agg #[.int .i64 B9, .slice E8 G2 E7]] (fun w L => Ro w L C5 [.slice a_l m_l c_l] l ∧ I64 B9 ∧ Ro w L eIs [.slice E8 G2 E7] E5) [] (κ := Unit) (fun k => True) (fun k => .bool (M0 l (B9, E5))) (fun k => []) := by
 refine Tr.intro Tryz.func121 rfl (n := 8) rfl (by decide +kernel) bl (fr := [(0, .slice a_l m_l c_l), (1, .agg #[.int .i64 B9, .slice E8 G2 E7])]) rfl fun w L hR => ?_
 obtain ⟨hl, W9, I6⟩ := hR
 obtain ⟨rfl, ll⟩ := hl.slen
 obtain ⟨rfl, a0U⟩ := I6.slen
 refine Ew Z2 (Est rfl (N.box (cs := [_, _]) rfl dc rfl) (fun b3 _ => (Ei rfl (Ev Z4 (Em rfl (Ey rfl ((Y.fn (vs := [_]) rfl).yd) (Est rfl (o4 (a6f (f := (fun z => decide (z = (B9, E5)))) (D_f := (fun _ => True)) (by intros; exact trivial)) rfl rfl rfl dc (fun w Lp hA => ⟨hA.ro hl, b3P (D := (fun _ => True)) (fun hd => a7H) (fun w' hk => ⟨(hA.pt m0).keep hk, W9, (hA.ro I6).keep hk⟩)⟩)) (fun _ _ => (Ei rfl ?_)))))))))
 exact Eu (E.ret (Fb rfl rfl (by rfl)))
theorem a9r {a_log : Option Addr} {m_log c_log : Nat} {log : List (Int × List Int)} : Tr Tryz.prog 51 [.slice a_log m_log c_log, .agg #[.int .i64 B9, .slice E8 G2 E7]] (fun w L => Ro w L C5 [.slice a_log m_log c_log] log ∧ I64 B9 ∧ Ro w L eIs [.slice E8 G2 E7] E5) [] (κ := Unit) (fun k => True) (fun k => .bool (M0 log (B9, E5))) (fun k => []) := by
 refine Tr.intro Tryz.func51 rfl (n := 18) rfl (by decide +kernel) bl (fr := [(0, .slice a_log m_log c_log), (1, .agg #[.int .i64 B9, .slice E8 G2 E7])]) rfl fun w L hR => ?_
 obtain ⟨hlog, W9, I6⟩ := hR
 obtain ⟨rfl, llog⟩ := hlog.slen
 obtain ⟨rfl, a0U⟩ := I6.slen
 refine Ew Z2 (Est rfl (N.box (cs := [_, _]) rfl dc rfl) (fun b3 _ => (Ei rfl (Eu (Eq_ (Ew Z1 (Ei rfl (Eu (E.block (E.loop (κ := Nat) (fun g => g ≤ log.length ∧ M0 log (B9, E5) = M0 (log.drop g) (B9, E5)) (fun g => [(0, .slice a_log log.length c_log), (3, .pointer (some ⟨b3, 0, none⟩)), (5, .int .i64 (g : Int))]) (fun g => [pt b3 74 [.int .i64 B9, .slice E8 E5.length E7]]) (fun g => log.length - g) 0 ⟨Nat.zero_le _, by simp⟩ ⟨rfl, rfl, rfl, trivial⟩ (.refl _) (fun g pg => ?_)))))))))))
 obtain ⟨pk, pa⟩ := pg
 refine Eq_ (Ew Z4 (Em rfl (Em rfl (Ey rfl ((Y.len us_Accesss rfl).yd) (Ey rfl ((Y.lss rfl rfl).yd) (n9 (fun q9 => ?_) (fun q9 => ?_)))))))
 ·refine Eu (o0 rfl (f9 (Et (Eq_ (E.block (Eq_ (D.region (fun j => true) mixed (Dyp 0 rfl (k6 rfl) (Dyp 1 rfl (k6 rfl) ?_)))))))))
  obtain ⟨eb14, eo14, ec14, ea14, er14, el14, eh14⟩ := hlog.elem g om
  obtain ⟨xa14_0, xc14_0, rfl, ei14_0, xh14_0⟩ := a3C er14
  have := xh14_0.slen.2
  refine Dyp 2 rfl (w3 us_Accesss ty_Access rfl ea14 rfl g rfl om) (Dy 3 rfl (r9 (cs := [_, _]) ty_Access rfl (eh14 _) rfl) (Dy 4 rfl (r9 (cs := [_, _]) ty_Access rfl (Has.pt m0) rfl) (u7 5 rfl rfl kr (fun _ => rfl) (o4 b1Z rfl rfl rfl dc (fun w Lp hA => ⟨ei14_0, hA.ro xh14_0, W9, hA.ro I6⟩)) (fun _ _ => (Ent.b (fun q17 => ?_) (fun q17 => ?_))))))
  ·refine t6 kr (Et (o0 rfl (Ew Z1 (Ei rfl ?_))))
   exact Eu (E.ret (C9 (s9 (s9 (C9 (s9 (Fb rfl rfl (by grind [M0, d1, d2, t1, t2]))))))))
  ·refine t6 kr (Et (n8 rfl (f9 (s8 (Et (Ez Z3 (Em rfl (Ey rfl ((Y.add rfl rfl om om).yd) (Ei rfl ?_)))))))))
   exact Eu (B0 br (g + 1) rs (.refl _) ⟨by omega, by grind [M0, d1, d2, t1, t2]⟩ om)
 ·refine Eu (n8 rfl (E.exit (l3 (l3 (y4 (Et (Ew Z1 (Ei rfl ?_))))))))
  exact Eu (E.ret (Fb rfl rfl (by grind [M0, d1, d2, t1, t2])))
theorem a5r {m : Int} (hz : j6.length ≤ 1048576) : Tr Tryz.prog 165 [.int .i64 m, .slice a_values m_values c_values] (fun w L => I64 m ∧ Ro w L eIs [.slice a_values m_values c_values] j6) [] (κ := Option Addr × Nat × Nat) (fun k => True) (fun k => .agg #[.int .i64 m, .slice k.1 k.2.1 k.2.2]) (fun k => [ow eIs [.slice k.1 k.2.1 k.2.2] j6]) := by
 refine Tr.intro Tryz.func165 rfl (n := 10) rfl (by decide +kernel) bl (fr := [(0, .int .i64 m), (1, .slice a_values m_values c_values)]) rfl fun w L hR => ?_
 obtain ⟨i6m, hvalues⟩ := hR
 obtain ⟨rfl, lvalues⟩ := hvalues.slen
 refine Ew Z1 (Est rfl (N.alloc ty_Access dc) (fun b4 _ => (Ev Z6 (Em rfl (Est rfl (Nb [] [] us_Is f5 rfl rfl) (fun b6 _ => (Ent.drop (Em rfl (Est rfl (P8 (E := Enc.int) Plain.int us_Is f5 rfl rfl rfl hvalues bn bn dc) (fun p8 _ => (Ey rfl ((I3 (pvs := [_, _]) (cs := [_, _]) ty_Access a7R rfl rfl).yd) (d8 (Est rfl (Ns [_, _] ty_Access rfl) (fun _ _ => (Eu (E.ret (d8 ?_)))))))))))))))))
 exact O7 br rfl rfl (mS m0) ty_Access rfl (_, _, _) trivial rfl (J := _) (.refl _) (.inl rfl)
theorem b2W (hv : j6.length ≤ 10) (hn : 0 ≤ n ∧ n ≤ 3) : Tr Tryz.prog 243 [.slice a_values m_values c_values, .int .i64 n] (fun w L => Ro w L eIs [.slice a_values m_values c_values] j6) [] (κ := Option Addr × Nat × Nat) (fun k => True) (fun k => .slice k.1 k.2.1 k.2.2) (fun k => [ow W7 [.slice k.1 k.2.1 k.2.2] (o6 j6 n.toNat)]) := by
 refine Tr.intro Tryz.func243 rfl (n := 42) rfl (by decide +kernel) bl (fr := [(0, .slice a_values m_values c_values), (1, .int .i64 n)]) rfl fun w L hR => ?_
 have hvalues := hR
 obtain ⟨rfl, lvalues⟩ := hvalues.slen
 have ji := hvalues.i64
 refine Ew Z1 (Ei rfl (Ev Z3 (Est rfl (Nb [] [] us_Is f5 rfl rfl) (fun b11 _ => (Ent.drop (Est rfl (Nb [_] [_] us_Iss ty_Is rfl rfl) (fun b12 _ => (s7 (A := _ :: _) (a1A (E := eIs) (e := tIs) Own.nil) rfl (Ei rfl (Eu (Eq_ (Ew Z2 (Em rfl (Em rfl (Eu (E.block (f6 (congrArg (ow W7 [_]) (show [[]] = o6 j6 0 from by first | rfl | (simp; done) | grind [o6, R3, M9, d1, d2, t1, t2])) (E.loop (κ := Nat × Option Addr × Nat × Nat) (fun t => t.1 ≤ n.toNat ∧ True) (fun t => [(0, .slice a_values j6.length c_values), (5, .slice t.2.1 t.2.2.1 t.2.2.2), (13, .int .i64 n), (14, .int .i64 (↑t.1 : Int))]) (fun t => [ow W7 [.slice t.2.1 t.2.2.1 t.2.2.2] (o6 j6 t.1)]) (fun t => n.toNat - t.1) (0, (some ⟨b12, 0, none⟩), 1, 1) ⟨Nat.zero_le _, by simp⟩ ⟨rfl, rfl, rfl, rfl, trivial⟩ (.refl _) (fun t pt => ?_)))))))))))))))))))
 obtain ⟨t, aA0_0, mA0_0, cA0_0⟩ := t
 try dsimp only at pt
 try dsimp only
 obtain ⟨pk, pa⟩ := pt
 refine d6 m0 fun eaA0_0 laA0_0 => ?_
 subst eaA0_0
 have jl := a4F (j6 := j6) (t := t) hv om
 refine Ew Z1 (Ey rfl ((Y.lss rfl rfl).yd) (n9 (fun q15 => ?_) (fun q15 => ?_)))
 ·refine H7 (A := [_]) rfl fun wb1 Lb1 hB1 hA1 => ?_
  have hvalues := hA1.ro hvalues
  have rb1 : Ro wb1 Lb1 W7 [.slice aA0_0 (o6 j6 t).length cA0_0] (o6 j6 t) := hA1.ow m0
  refine Eu (Eq_ (o0 rfl (f9 (Et (Eq_ (E.block (Ew Z2 (Est rfl (Nb [] [] us_Iss ty_Is rfl rfl) (fun b16 _ => (Ent.drop (Ei rfl (Eu (Eq_ (Ew Z3 (Em rfl (Ey rfl ((Y.len us_Iss rfl).yd) (Em rfl (Eu (E.block (s7 (A := []) (Own.nil (E := eIs) (e := tIs) (a := (some ⟨b16, 0, none⟩))) rfl (f6 (congrArg (ow W7 [_]) (show [] = ((o6 j6 t).take 0).flatMap (fun l => j6.map (fun v => l ++ [v])) from by first | rfl | (simp; done) | grind [o6, R3, M9, d1, d2, t1, t2])) (E.loop (κ := Nat × Option Addr × Nat × Nat) (fun k => k.1 ≤ (o6 j6 t).length ∧ True) (fun k => [(0, .slice a_values j6.length c_values), (6, .slice k.2.1 k.2.2.1 k.2.2.2), (13, .int .i64 n), (14, .int .i64 (t : Int)), (17, .slice aA0_0 (o6 j6 t).length cA0_0), (18, .int .i64 (↑((o6 j6 t).length) : Int)), (19, .int .i64 (↑k.1 : Int))]) (fun k => [ow W7 [.slice k.2.1 k.2.2.1 k.2.2.2] (((o6 j6 t).take k.1).flatMap (fun l => j6.map (fun v => l ++ [v])))]) (fun k => (o6 j6 t).length - k.1) (0, (some ⟨b16, 0, none⟩), 0, 0) ⟨Nat.zero_le _, by simp⟩ ⟨rfl, rfl, rfl, rfl, rfl, rfl, rfl, trivial⟩ (.refl _) (fun k pk => ?_)))))))))))))))))))))))
  obtain ⟨k, aA1_0, mA1_0, cA1_0⟩ := k
  try dsimp only at pk
  try dsimp only
  obtain ⟨pk, pa⟩ := pk
  refine d6 m0 fun eaA1_0 laA1_0 => ?_
  subst eaA1_0
  have jk := a7u (j6 := j6) (l := o6 j6 t) (k := k) hv
  refine Ew Z1 (Ey rfl ((Y.lss rfl rfl).yd) (n9 (fun q20 => ?_) (fun q20 => ?_)))
  ·obtain ⟨eb21, eo21, ec21, ea21, er21, el21, eh21⟩ := rb1.elem k om
   obtain ⟨xa21, xc21, rfl⟩ := er21.sl
   have := er21.slen.2
   refine Eu (Eq_ (o0 rfl (f9 (Et (Eq_ (E.block (Ew Z3 (Ey rfl ((w3 us_Iss ty_Is rfl ea21 rfl k rfl om).yd) (Ey rfl (g9 ty_Is rfl (eh21 _) rfl) (Ei rfl (Ev Z3 (Em rfl (Ey rfl ((Y.len us_Is rfl).yd) (Em rfl (Eu (E.block (f6 (congrArg (ow W7 [_]) (show ((o6 j6 t).take k).flatMap (fun l => j6.map (fun v => l ++ [v])) = ((o6 j6 t).take k).flatMap (fun l => j6.map (fun v => l ++ [v])) ++ (j6.take 0).map (fun v => (o6 j6 t)[k] ++ [v]) from by first | rfl | (simp; done) | grind [o6, R3, M9, d1, d2, t1, t2])) (E.loop (κ := Nat × Option Addr × Nat × Nat) (fun j => j.1 ≤ j6.length ∧ True) (fun j => [(0, .slice a_values j6.length c_values), (6, .slice j.2.1 j.2.2.1 j.2.2.2), (8, .slice xa21 ((o6 j6 t)[k].length) xc21), (13, .int .i64 n), (14, .int .i64 (t : Int)), (17, .slice aA0_0 (o6 j6 t).length cA0_0), (18, .int .i64 (↑((o6 j6 t).length) : Int)), (19, .int .i64 (k : Int)), (23, .slice a_values j6.length c_values), (24, .int .i64 (↑j6.length : Int)), (25, .int .i64 (↑j.1 : Int))]) (fun j => [ow W7 [.slice j.2.1 j.2.2.1 j.2.2.2] (((o6 j6 t).take k).flatMap (fun l => j6.map (fun v => l ++ [v])) ++ (j6.take j.1).map (fun v => (o6 j6 t)[k] ++ [v]))]) (fun j => j6.length - j.1) (0, aA1_0, (((o6 j6 t).take k).flatMap (fun l => j6.map (fun v => l ++ [v]))).length, cA1_0) ⟨Nat.zero_le _, by simp⟩ ⟨rfl, rfl, rfl, rfl, rfl, rfl, rfl, rfl, rfl, rfl, rfl, trivial⟩ (.refl _) (fun j pj => ?_)))))))))))))))))))
   obtain ⟨j, aA2_0, mA2_0, cA2_0⟩ := j
   try dsimp only at pj
   try dsimp only
   obtain ⟨pk, pa⟩ := pj
   have jm := M9 (j6 := j6) (t := t) _ (List.getElem_mem (l := o6 j6 t) (n := k) om)
   refine d6 m0 fun eaA2_0 laA2_0 => ?_
   subst eaA2_0
   refine Ew Z1 (Ey rfl ((Y.lss rfl rfl).yd) (n9 (fun q26 => ?_) (fun q26 => ?_)))
   ·obtain ⟨eb27, eo27, ea27, ei27, eh27⟩ := hvalues.elemI j om
    refine Eu (Eq_ (o0 rfl (f9 (Et (Eq_ (E.block (Ew Z3 (Ey rfl ((w3 us_Is f5 rfl ea27 rfl j rfl om).yd) (Ey rfl (g9 f5 rfl (eh27 _) rfl) (Ei rfl (Eu (Ez Z9 (Em rfl (Em rfl (Est rfl (N.call (a2l fc) rfl rfl rfl dc rfl (fun w Lp hA => hA.ro er21)) (fun k31 _ => ?_))))))))))))))))
    obtain ⟨a31, m31, c31⟩ := k31
    refine d6 m0 fun e31 l31 => ?_
    subst e31
    refine Em rfl (Est rfl (Nb [_] [_] us_Is f5 rfl rfl) (fun b33 _ => (d8 (Est rfl (B2 (E := Enc.int) (ex := j6[j]) us_Is f5 rfl rfl rfl (Own.int ei27) rfl bn bn dc) (fun p34 _ => (Est rfl (Nb [_] [_] us_Iss ty_Is rfl rfl) (fun b35 _ => (d8 (d8 (j7 (Est rfl (B2 (E := eIs) (ex := ((o6 j6 t)[k]) ++ [j6[j]]) us_Iss ty_Is rfl rfl rfl Own.ow rfl bn bn dc) (fun p36 _ => (Ei rfl (En (s8 (Et (Ez Z2 (Ey rfl ((Y.add rfl rfl om om).yd) (Em rfl (Eu (f6 (congrArg (ow W7 [_]) (show (((o6 j6 t).take k).flatMap (fun l => j6.map (fun v => l ++ [v])) ++ (j6.take j).map (fun v => (o6 j6 t)[k] ++ [v])) ++ [((o6 j6 t)[k]) ++ [j6[j]]] = ((o6 j6 t).take k).flatMap (fun l => j6.map (fun v => l ++ [v])) ++ (j6.take (j + 1)).map (fun v => (o6 j6 t)[k] ++ [v]) from by grind [o6, R3, M9, d1, d2, t1, t2])) ?_)))))))))))))))))))))
    exact Ea (j + 1, p36.1, ((((o6 j6 t).take k).flatMap (fun l => j6.map (fun v => l ++ [v])) ++ (j6.take j).map (fun v => (o6 j6 t)[k] ++ [v])).length + 1), p36.2) ⟨oz, trivial⟩
   ·refine Eu (Eq_ (n8 rfl (E.exit (l3 (l3 (y4 (s8 (Et (Ez Z2 (Ey rfl ((Y.add rfl rfl om om).yd) (Em rfl (Eu (f6 (congrArg (ow W7 [_]) (show ((o6 j6 t).take k).flatMap (fun l => j6.map (fun v => l ++ [v])) ++ (j6.take j).map (fun v => (o6 j6 t)[k] ++ [v]) = ((o6 j6 t).take (k + 1)).flatMap (fun l => j6.map (fun v => l ++ [v])) from by grind [o6, R3, M9, d1, d2, t1, t2])) ?_)))))))))))))
    exact Ea (k + 1, aA2_0, (((o6 j6 t).take k).flatMap (fun l => j6.map (fun v => l ++ [v])) ++ (j6.take j).map (fun v => (o6 j6 t)[k] ++ [v])).length, cA2_0) ⟨oz, trivial⟩
  ·refine Eu (Eq_ (n8 rfl (E.exit (l3 (l3 (y4 (Et (Ez Z2 (Em rfl (Ei rfl (En (s8 (Et (Ez Z2 (Ey rfl ((Y.add rfl rfl om om).yd) (Em rfl (Eu (f6 (congrArg (ow W7 [_]) (show ((o6 j6 t).take k).flatMap (fun l => j6.map (fun v => l ++ [v])) = o6 j6 (t + 1) from by grind [o6, R3, M9, d1, d2, t1, t2])) ?_))))))))))))))))))
   exact B0 hB1 (t + 1, aA1_0, (((o6 j6 t).take k).flatMap (fun l => j6.map (fun v => l ++ [v]))).length, cA1_0) rs (.refl _) ⟨oz, trivial⟩ oz
 ·refine Eu (Eq_ (n8 rfl (E.exit (l3 (l3 (y4 (Et (Ew Z2 (Em rfl (Ei rfl (Eu (E.ret (f6 (congrArg (ow W7 [_]) (show _ = o6 j6 n.toNat by grind [o6, R3, M9, d1, d2, t1, t2])) ?_)))))))))))))
  exact Fg rfl rfl (_, _, _) rfl rfl
theorem b0p (hv : j6.length ≤ 10) (hn : 0 ≤ n ∧ n ≤ 3) : Tr Tryz.prog 219 [.slice a_values m_values c_values, .int .i64 n] (fun w L => Ro w L eIs [.slice a_values m_values c_values] j6) [] (κ := Option Addr × Nat × Nat) (fun k => True) (fun k => .slice k.1 k.2.1 k.2.2) (fun k => [ow W7 [.slice k.1 k.2.1 k.2.2] (o6 j6 n.toNat)]) := by
 refine Tr.intro Tryz.func219 rfl (n := 47) rfl (by decide +kernel) bl (fr := [(0, .slice a_values m_values c_values), (1, .int .i64 n)]) rfl fun w L hR => ?_
 have hvalues := hR
 obtain ⟨rfl, lvalues⟩ := hvalues.slen
 have ji := hvalues.i64
 refine Ew Z1 (Ei rfl (Ev Z3 (Est rfl (Nb [] [] us_Is f5 rfl rfl) (fun b10 _ => (Ent.drop (Est rfl (Nb [_] [_] us_Iss ty_Is rfl rfl) (fun b11 _ => (s7 (A := _ :: _) (a1A (E := eIs) (e := tIs) Own.nil) rfl (Ei rfl (Eu (Eq_ (Ew Z1 (Ei rfl (Eu (E.block (f6 (congrArg (ow W7 [_]) (show [[]] = o6 j6 0 from by first | rfl | (simp; done) | grind [o6, R3, M9, d1, d2, t1, t2])) (E.loop (κ := Nat × Option Addr × Nat × Nat) (fun t => t.1 ≤ n.toNat ∧ True) (fun t => [(0, .slice a_values j6.length c_values), (1, .int .i64 n), (5, .slice t.2.1 t.2.2.1 t.2.2.2), (6, .int .i64 (↑t.1 : Int))]) (fun t => [ow W7 [.slice t.2.1 t.2.2.1 t.2.2.2] (o6 j6 t.1)]) (fun t => n.toNat - t.1) (0, (some ⟨b11, 0, none⟩), 1, 1) ⟨Nat.zero_le _, by simp⟩ ⟨rfl, rfl, rfl, rfl, trivial⟩ (.refl _) (fun t pt => ?_))))))))))))))))))
 obtain ⟨t, aA0_0, mA0_0, cA0_0⟩ := t
 try dsimp only at pt
 try dsimp only
 obtain ⟨pk, pa⟩ := pt
 refine d6 m0 fun eaA0_0 laA0_0 => ?_
 subst eaA0_0
 have jl := a4F (j6 := j6) (t := t) hv om
 refine Eq_ (Ew Z3 (Em rfl (Em rfl (Ey rfl ((Y.lss rfl rfl).yd) (n9 (fun q14 => ?_) (fun q14 => ?_))))))
 ·refine H7 (A := [_]) rfl fun wb2 Lb2 hB2 hA2 => ?_
  have hvalues := hA2.ro hvalues
  have rb2 : Ro wb2 Lb2 W7 [.slice aA0_0 (o6 j6 t).length cA0_0] (o6 j6 t) := hA2.ow m0
  refine Eu (o0 rfl (f9 (Et (Eq_ (E.block (Ew Z2 (Est rfl (Nb [] [] us_Iss ty_Is rfl rfl) (fun b17 _ => (Ent.drop (Ei rfl (Eu (Eq_ (Ew Z1 (Ei rfl (Eu (E.block (s7 (A := []) (Own.nil (E := eIs) (e := tIs) (a := (some ⟨b17, 0, none⟩))) rfl (f6 (congrArg (ow W7 [_]) (show [] = ((o6 j6 t).take 0).flatMap (fun l => j6.map (fun v => l ++ [v])) from by first | rfl | (simp; done) | grind [o6, R3, M9, d1, d2, t1, t2])) (E.loop (κ := Nat × Option Addr × Nat × Nat) (fun k => k.1 ≤ (o6 j6 t).length ∧ True) (fun k => [(0, .slice a_values j6.length c_values), (1, .int .i64 n), (5, .slice aA0_0 (o6 j6 t).length cA0_0), (6, .int .i64 (t : Int)), (7, .slice k.2.1 k.2.2.1 k.2.2.2), (8, .int .i64 (↑k.1 : Int))]) (fun k => [ow W7 [.slice k.2.1 k.2.2.1 k.2.2.2] (((o6 j6 t).take k.1).flatMap (fun l => j6.map (fun v => l ++ [v])))]) (fun k => (o6 j6 t).length - k.1) (0, (some ⟨b17, 0, none⟩), 0, 0) ⟨Nat.zero_le _, by simp⟩ ⟨rfl, rfl, rfl, rfl, rfl, rfl, trivial⟩ (.refl _) (fun k pk => ?_))))))))))))))))))))
  obtain ⟨k, aA1_0, mA1_0, cA1_0⟩ := k
  try dsimp only at pk
  try dsimp only
  obtain ⟨pk, pa⟩ := pk
  refine d6 m0 fun eaA1_0 laA1_0 => ?_
  subst eaA1_0
  have jk := a7u (j6 := j6) (l := o6 j6 t) (k := k) hv
  refine Eq_ (Ew Z4 (Em rfl (Em rfl (Ey rfl ((Y.len us_Iss rfl).yd) (Ey rfl ((Y.lss rfl rfl).yd) (n9 (fun q21 => ?_) (fun q21 => ?_)))))))
  ·refine Eu (o0 rfl (f9 (Et (Eq_ (E.block (Ew Z1 (Ei rfl (Eu (E.block (f6 (congrArg (ow W7 [_]) (show ((o6 j6 t).take k).flatMap (fun l => j6.map (fun v => l ++ [v])) = ((o6 j6 t).take k).flatMap (fun l => j6.map (fun v => l ++ [v])) ++ (j6.take 0).map (fun v => (o6 j6 t)[k] ++ [v]) from by first | rfl | (simp; done) | grind [o6, R3, M9, d1, d2, t1, t2])) (E.loop (κ := Nat × Option Addr × Nat × Nat) (fun j => j.1 ≤ j6.length ∧ True) (fun j => [(0, .slice a_values j6.length c_values), (1, .int .i64 n), (5, .slice aA0_0 (o6 j6 t).length cA0_0), (6, .int .i64 (t : Int)), (7, .slice j.2.1 j.2.2.1 j.2.2.2), (8, .int .i64 (k : Int)), (9, .int .i64 (↑j.1 : Int))]) (fun j => [ow W7 [.slice j.2.1 j.2.2.1 j.2.2.2] (((o6 j6 t).take k).flatMap (fun l => j6.map (fun v => l ++ [v])) ++ (j6.take j.1).map (fun v => (o6 j6 t)[k] ++ [v]))]) (fun j => j6.length - j.1) (0, aA1_0, (((o6 j6 t).take k).flatMap (fun l => j6.map (fun v => l ++ [v]))).length, cA1_0) ⟨Nat.zero_le _, by simp⟩ ⟨rfl, rfl, rfl, rfl, rfl, rfl, rfl, trivial⟩ (.refl _) (fun j pj => ?_))))))))))))
   obtain ⟨j, aA2_0, mA2_0, cA2_0⟩ := j
   try dsimp only at pj
   try dsimp only
   obtain ⟨pk, pa⟩ := pj
   have jm := M9 (j6 := j6) (t := t) _ (List.getElem_mem (l := o6 j6 t) (n := k) om)
   refine d6 m0 fun eaA2_0 laA2_0 => ?_
   subst eaA2_0
   refine Eq_ (Ew Z4 (Em rfl (Em rfl (Ey rfl ((Y.len us_Is rfl).yd) (Ey rfl ((Y.lss rfl rfl).yd) (n9 (fun q27 => ?_) (fun q27 => ?_)))))))
   ·refine Eu (o0 rfl (f9 (Et (Eq_ (E.block (a3V (κ := (Option Addr × Nat)) (fun _ => True) (fun kM => [(0, .slice a_values j6.length c_values), (1, .int .i64 n), (5, .slice aA0_0 (o6 j6 t).length cA0_0), (6, .int .i64 (t : Int)), (7, .slice kM.1 ((((o6 j6 t).take k).flatMap (fun l => j6.map (fun v => l ++ [v])) ++ (j6.take j).map (fun v => (o6 j6 t)[k] ++ [v])).length + 1) kM.2), (8, .int .i64 (k : Int)), (9, .int .i64 (j : Int))]) (fun kM => [ow W7 [.slice kM.1 ((((o6 j6 t).take k).flatMap (fun l => j6.map (fun v => l ++ [v])) ++ (j6.take j).map (fun v => (o6 j6 t)[k] ++ [v])).length + 1) kM.2] ((((o6 j6 t).take k).flatMap (fun l => j6.map (fun v => l ++ [v])) ++ (j6.take j).map (fun v => (o6 j6 t)[k] ++ [v])) ++ [((o6 j6 t)[k]) ++ [j6[j]]])]) ?_ (fun p44 _ => ?_)))))))
    ·refine D.region (fun j => !(Nat.beq j 12) && !(Nat.beq j 14)) mixed (Dyp 0 rfl (k6 rfl) (Dyp 2 rfl (k6 rfl) (Dyp 3 rfl (k6 rfl) ?_)))
     obtain ⟨eb34, eo34, ec34, ea34, er34, el34, eh34⟩ := rb2.elem k om
     obtain ⟨xa34, xc34, rfl⟩ := er34.sl
     have := er34.slen.2
     refine Dyp 4 rfl (w3 us_Iss ty_Is rfl ea34 rfl k rfl om) (Dy 5 rfl (g9 ty_Is rfl (eh34 _) rfl) (Dyp 7 rfl (k6 rfl) (Dyp 8 rfl (k6 rfl) ?_)))
     obtain ⟨eb39, eo39, ea39, ei39, eh39⟩ := hvalues.elemI j om
     refine Dyp 9 rfl (w3 us_Is f5 rfl ea39 rfl j rfl om) (Dy 10 rfl (g9 f5 rfl (eh39 _) rfl) (a2x (i := 1) (j := 11) kr ?_ ?_))
     ·refine a0d 1 rfl rfl (fun _ => rfl) (Nb [] [] us_Is f5 rfl rfl) (fun b31 _ => (Ent.drop (a2x (i := 6) (j := 11) kr ?_ ?_)))
      ·refine a0d 6 rfl rfl (fun _ => rfl) (P8 (E := Enc.int) Plain.int us_Is f5 rfl rfl rfl er34 bn bn dc) (fun p36 _ => (u7 11 rfl rfl kr (fun _ => rfl) (Nb [_] [_] us_Is f5 rfl rfl) (fun b41 _ => (d8 (u7 12 rfl rfl kr (fun h => by cases h) (B2 (E := Enc.int) (ex := j6[j]) us_Is f5 rfl rfl rfl (Own.int ei39) rfl bn bn dc) (fun p42 _ => (u7 13 rfl rfl kr (fun _ => rfl) (Nb [_] [_] us_Iss ty_Is rfl rfl) (fun b43 _ => (d8 (d8 (j7 (u7 14 rfl rfl kr (fun h => by cases h) (B2 (E := eIs) (ex := ((o6 j6 t)[k]) ++ [j6[j]]) us_Iss ty_Is rfl rfl rfl Own.ow rfl bn bn dc) (fun p44 _ => (Dyp 15 rfl (F1 rfl) ?_))))))))))))))
       exact t6 kr (S4 p44 trivial ⟨rfl, rfl, rfl, rfl, rfl, rfl, rfl, trivial⟩ (.refl _))
      ·refine a0d 11 rfl rfl (fun _ => rfl) (Nb [_] [_] us_Is f5 rfl rfl) (fun b41 _ => (u7 6 rfl rfl kr (fun _ => rfl) (P8 (E := Enc.int) Plain.int us_Is f5 rfl rfl rfl er34 bn bn dc) (fun p36 _ => (d8 (d8 (u7 12 rfl rfl kr (fun h => by cases h) (B2 (E := Enc.int) (ex := j6[j]) us_Is f5 rfl rfl rfl (Own.int ei39) rfl bn bn dc) (fun p42 _ => (u7 13 rfl rfl kr (fun _ => rfl) (Nb [_] [_] us_Iss ty_Is rfl rfl) (fun b43 _ => (d8 (d8 (j7 (u7 14 rfl rfl kr (fun h => by cases h) (B2 (E := eIs) (ex := ((o6 j6 t)[k]) ++ [j6[j]]) us_Iss ty_Is rfl rfl rfl Own.ow rfl bn bn dc) (fun p44 _ => (Dyp 15 rfl (F1 rfl) ?_)))))))))))))))
       exact t6 kr (S4 p44 trivial ⟨rfl, rfl, rfl, rfl, rfl, rfl, rfl, trivial⟩ (.refl _))
     ·refine a0d 11 rfl rfl (fun _ => rfl) (Nb [_] [_] us_Is f5 rfl rfl) (fun b41 _ => (u7 1 rfl rfl kr (fun _ => rfl) (Nb [] [] us_Is f5 rfl rfl) (fun b31 _ => (Ent.drop (u7 6 rfl rfl kr (fun _ => rfl) (P8 (E := Enc.int) Plain.int us_Is f5 rfl rfl rfl er34 bn bn dc) (fun p36 _ => (d8 (d8 (u7 12 rfl rfl kr (fun h => by cases h) (B2 (E := Enc.int) (ex := j6[j]) us_Is f5 rfl rfl rfl (Own.int ei39) rfl bn bn dc) (fun p42 _ => (u7 13 rfl rfl kr (fun _ => rfl) (Nb [_] [_] us_Iss ty_Is rfl rfl) (fun b43 _ => (d8 (d8 (j7 (u7 14 rfl rfl kr (fun h => by cases h) (B2 (E := eIs) (ex := ((o6 j6 t)[k]) ++ [j6[j]]) us_Iss ty_Is rfl rfl rfl Own.ow rfl bn bn dc) (fun p44 _ => (Dyp 15 rfl (F1 rfl) ?_))))))))))))))))))
      exact t6 kr (S4 p44 trivial ⟨rfl, rfl, rfl, rfl, rfl, rfl, rfl, trivial⟩ (.refl _))
    ·show Ent _ _ _ [(0, .slice a_values j6.length c_values), (1, .int .i64 n), (5, .slice aA0_0 (o6 j6 t).length cA0_0), (6, .int .i64 (t : Int)), (7, .slice p44.1 ((((o6 j6 t).take k).flatMap (fun l => j6.map (fun v => l ++ [v])) ++ (j6.take j).map (fun v => (o6 j6 t)[k] ++ [v])).length + 1) p44.2), (8, .int .i64 (k : Int)), (9, .int .i64 (j : Int))] [ow W7 [.slice p44.1 ((((o6 j6 t).take k).flatMap (fun l => j6.map (fun v => l ++ [v])) ++ (j6.take j).map (fun v => (o6 j6 t)[k] ++ [v])).length + 1) p44.2] ((((o6 j6 t).take k).flatMap (fun l => j6.map (fun v => l ++ [v])) ++ (j6.take j).map (fun v => (o6 j6 t)[k] ++ [v])) ++ [((o6 j6 t)[k]) ++ [j6[j]]])] _
     refine s8 (Et (Ez Z3 (Em rfl (Ey rfl ((Y.add rfl rfl om om).yd) (Ei rfl (Eu (f6 (congrArg (ow W7 [_]) (show (((o6 j6 t).take k).flatMap (fun l => j6.map (fun v => l ++ [v])) ++ (j6.take j).map (fun v => (o6 j6 t)[k] ++ [v])) ++ [((o6 j6 t)[k]) ++ [j6[j]]] = ((o6 j6 t).take k).flatMap (fun l => j6.map (fun v => l ++ [v])) ++ (j6.take (j + 1)).map (fun v => (o6 j6 t)[k] ++ [v]) from by grind [o6, R3, M9, d1, d2, t1, t2])) ?_)))))))
     exact Ea (j + 1, p44.1, ((((o6 j6 t).take k).flatMap (fun l => j6.map (fun v => l ++ [v])) ++ (j6.take j).map (fun v => (o6 j6 t)[k] ++ [v])).length + 1), p44.2) ⟨oz, trivial⟩
   ·refine Eu (n8 rfl (E.exit (l3 (l3 (y4 (s8 (Et (Ez Z3 (Em rfl (Ey rfl ((Y.add rfl rfl om om).yd) (Ei rfl (Eu (f6 (congrArg (ow W7 [_]) (show ((o6 j6 t).take k).flatMap (fun l => j6.map (fun v => l ++ [v])) ++ (j6.take j).map (fun v => (o6 j6 t)[k] ++ [v]) = ((o6 j6 t).take (k + 1)).flatMap (fun l => j6.map (fun v => l ++ [v])) from by grind [o6, R3, M9, d1, d2, t1, t2])) ?_)))))))))))))
    exact Ea (k + 1, aA2_0, (((o6 j6 t).take k).flatMap (fun l => j6.map (fun v => l ++ [v])) ++ (j6.take j).map (fun v => (o6 j6 t)[k] ++ [v])).length, cA2_0) ⟨oz, trivial⟩
  ·refine Eu (n8 rfl (E.exit (l3 (l3 (y4 (Et (Ez Z2 (Em rfl (Ei rfl (En (s8 (Et (Ez Z3 (Em rfl (Ey rfl ((Y.add rfl rfl om om).yd) (Ei rfl (Eu (f6 (congrArg (ow W7 [_]) (show ((o6 j6 t).take k).flatMap (fun l => j6.map (fun v => l ++ [v])) = o6 j6 (t + 1) from by grind [o6, R3, M9, d1, d2, t1, t2])) ?_))))))))))))))))))
   exact B0 hB2 (t + 1, aA1_0, (((o6 j6 t).take k).flatMap (fun l => j6.map (fun v => l ++ [v]))).length, cA1_0) rs (.refl _) ⟨oz, trivial⟩ oz
 ·refine Eu (n8 rfl (E.exit (l3 (l3 (y4 (Et (Ew Z2 (Em rfl (Ei rfl (Eu (E.ret (f6 (congrArg (ow W7 [_]) (show _ = o6 j6 n.toNat by grind [o6, R3, M9, d1, d2, t1, t2])) ?_))))))))))))
  exact Fg rfl rfl (_, _, _) rfl rfl
theorem a7f (hv : w5.length ≤ 10) (hm : ∀ m ∈ l, m.2.1.length ≤ 3) (hl : l.length ≤ 5) : Tr Tryz.prog 211 [.agg #[.slice a0t a2V a0s, .slice Y9 a2v Y8, .slice a1L a4y a1K, .int .i64 r_Rounds], .slice a_l m_l c_l] (fun w L => Ro w L s6 [.slice a0t a2V a0s] a4x ∧ Ro w L eIs [.slice Y9 a2v Y8] w5 ∧ Ro w L C5 [.slice a1L a4y a1K] F5 ∧ I64 r_Rounds ∧ Ro w L I4 [.slice a_l m_l c_l] l) [] (κ := Option Addr × Nat × Nat) (fun k => True) (fun k => .slice k.1 k.2.1 k.2.2) (fun k => [ow C5 [.slice k.1 k.2.1 k.2.2] (d7 w5 F5 l 0)]) := by
 refine Tr.intro Tryz.func211 rfl (n := 48) rfl (by decide +kernel) bl (fr := [(0, .agg #[.slice a0t a2V a0s, .slice Y9 a2v Y8, .slice a1L a4y a1K, .int .i64 r_Rounds]), (1, .slice a_l m_l c_l)]) rfl fun w L hR => ?_
 obtain ⟨a4T, a2f, a4U, i6r_Rounds, hl⟩ := hR
 obtain ⟨rfl, b8a⟩ := a4T.slen
 obtain ⟨rfl, b6Q⟩ := a2f.slen
 obtain ⟨rfl, c0A⟩ := a4U.slen
 obtain ⟨rfl, ll⟩ := hl.slen
 refine Ew Z2 (Est rfl (N.box (cs := [_, _, _, _]) rfl dc rfl) (fun b2 _ => (Ei rfl (Ev Z2 (Est rfl (Nb [] [] us_Accesss ty_Access rfl rfl) (fun b11 _ => (Ent.drop (Ei rfl (Eu (Eq_ (Ew Z3 (Em rfl (Ey rfl ((Y.len us_Methods rfl).yd) (Em rfl (Eu (E.block (s7 (A := []) (Own.nil (E := K0) (e := tAccess) (a := (some ⟨b11, 0, none⟩))) rfl (f6 (congrArg (ow C5 [_]) (show [] = d7 w5 F5 (l.take 0) 0 from by first | rfl | (simp; done) | grind [d7, O0, Y3, d1, d2, t1, t2])) (E.loop (κ := Nat × Option Addr × Nat × Nat) (fun g => g.1 ≤ l.length ∧ True) (fun g => [(2, .pointer (some ⟨b2, 0, none⟩)), (5, .slice g.2.1 g.2.2.1 g.2.2.2), (12, .slice a_l l.length c_l), (13, .int .i64 (↑l.length : Int)), (14, .int .i64 (↑g.1 : Int))]) (fun g => [ow C5 [.slice g.2.1 g.2.2.1 g.2.2.2] (d7 w5 F5 (l.take g.1) 0), pt b2 125 [.slice a0t a4x.length a0s, .slice Y9 w5.length Y8, .slice a1L F5.length a1K, .int .i64 r_Rounds]]) (fun g => l.length - g.1) (0, (some ⟨b11, 0, none⟩), 0, 0) ⟨Nat.zero_le _, by simp⟩ ⟨rfl, rfl, rfl, rfl, rfl, trivial⟩ (.refl _) (fun g pg => ?_))))))))))))))))))))
 obtain ⟨g, aA0_0, mA0_0, cA0_0⟩ := g
 try dsimp only at pg
 try dsimp only
 obtain ⟨pk, pa⟩ := pg
 refine d6 m0 fun eaA0_0 laA0_0 => ?_
 subst eaA0_0
 have jo := a4s (j6 := w5) (log := F5) (i := 0) hv (l := l.take g) (fun m h => hm m (List.mem_of_mem_take h))
 have jp := List.length_take_le g l
 refine Ew Z1 (Ey rfl ((Y.lss rfl rfl).yd) (n9 (fun q15 => ?_) (fun q15 => ?_)))
 ·refine Eu (Eq_ (o0 rfl (f9 (Et (Eq_ (E.block (Ew Z6 (Em rfl ?_))))))))
  obtain ⟨eb17, eo17, ec17, ea17, er17, el17, eh17⟩ := hl.elem g om
  obtain ⟨xa17_0, xc17_0, rfl, ei17_0, xh17_0, ei17_2, ei17_3, ei17_4⟩ := a0V er17
  have := xh17_0.slen.2
  refine Ey rfl ((w3 us_Methods ty_Method rfl ea17 rfl g rfl om).yd) (Ey rfl (r9 (cs := [_, _, _, _, _]) ty_Method rfl (eh17 _) rfl) (Est rfl (N.alloc ty_Method dc) (fun b7 _ => (Ei rfl (Est rfl (Ns [_, _, _, _, _] ty_Method rfl) (fun _ _ => (Eu (Eq_ (Ew Z3 (Ey rfl ((i8 fo_Method_2 f5 dc rfl).yd) (Ey rfl (g9 f5 rfl (Hz m0 2 rfl) rfl) (Ey rfl ((Y.neq rfl rfl).yd) (n9 (fun q21 => ?_) (fun q21 => ?_))))))))))))))
  ·refine Eu (o0 rfl (E.exit (l3 (y4 (Et (Ez Z2 (Ey rfl ((Y.add rfl rfl om om).yd) (Em rfl (Eu (Ent.drop (f6 (congrArg (ow C5 [_]) (show d7 w5 F5 (l.take g) 0 = d7 w5 F5 (l.take (g + 1)) 0 from by grind [d7, O0, Y3, d1, d2, t1, t2])) (d8 (d8 ?_)))))))))))))
   exact Ea (g + 1, aA0_0, (d7 w5 F5 (l.take g) 0).length, cA0_0) ⟨oz, trivial⟩
  ·refine Eu (n8 rfl (f9 (Et (Ew Z8 (Ey rfl ((i8 fo_Reached_1 ty_Is dc rfl).yd) (Ey rfl (g9 ty_Is rfl (Hz (mS (mS m0)) 1 rfl) rfl) (Ey rfl ((i8 fo_Method_1 ty_Is dc rfl).yd) (Ey rfl (g9 ty_Is rfl (Hz m0 1 rfl) rfl) (Ey rfl ((Y.len us_Is rfl).yd) ?_)))))))))
   have jm := hm l[g] (List.getElem_mem om)
   refine Est rfl (N.call (b2W fc fc) rfl rfl rfl dc rfl (fun w Lp hA => hA.ro a2f)) (fun k27 _ => ?_)
   obtain ⟨a27, m27, c27⟩ := k27
   refine d6 m0 fun e27 l27 => ?_
   subst e27
   refine Ey rfl ((Y.len us_Iss rfl).yd) (Em rfl (Eu (E.block (j7 (f6 (congrArg (ow C5 [_]) (show d7 w5 F5 (l.take g) 0 = d7 w5 F5 (l.take g) 0 ++ (((o6 w5 l[g].2.1.length).take 0).filter (fun v => !M0 F5 (↑g, v))).map (fun v => ((g : Int), v)) from by first | rfl | (simp; done) | grind [d7, O0, Y3, d1, d2, t1, t2])) (d8 (a2Y (E.loop (κ := Nat × Option Addr × Nat × Nat) (fun h => h.1 ≤ (o6 w5 l[g].2.1.length).length ∧ True) (fun h => [(2, .pointer (some ⟨b2, 0, none⟩)), (5, .slice h.2.1 h.2.2.1 h.2.2.2), (6, .int .i64 (g : Int)), (12, .slice a_l l.length c_l), (13, .int .i64 (↑l.length : Int)), (14, .int .i64 (g : Int)), (27, .slice a27 (o6 w5 l[g].2.1.length).length c27), (28, .int .i64 (↑((o6 w5 l[g].2.1.length).length) : Int)), (29, .int .i64 (↑h.1 : Int))]) (fun h => [owd tIs eIs a27 ((o6 w5 l[g].2.1.length).length) c27 (o6 w5 l[g].2.1.length) h.1, ow C5 [.slice h.2.1 h.2.2.1 h.2.2.2] (d7 w5 F5 (l.take g) 0 ++ (((o6 w5 l[g].2.1.length).take h.1).filter (fun v => !M0 F5 (↑g, v))).map (fun v => ((g : Int), v))), pt b7 86 [.int .i64 l[g].1, .slice xa17_0 l[g].2.1.length xc17_0, .int .i64 l[g].2.2.1, .int .i64 l[g].2.2.2.1, .int .i64 l[g].2.2.2.2], pt b2 125 [.slice a0t a4x.length a0s, .slice Y9 w5.length Y8, .slice a1L F5.length a1K, .int .i64 r_Rounds]]) (fun h => (o6 w5 l[g].2.1.length).length - h.1) (0, aA0_0, (d7 w5 F5 (l.take g) 0).length, cA0_0) ⟨Nat.zero_le _, by simp⟩ ⟨rfl, rfl, rfl, rfl, rfl, rfl, rfl, rfl, rfl, trivial⟩ (.refl _) (fun h ph => ?_)))))))))
   obtain ⟨h, aA1_0, mA1_0, cA1_0⟩ := h
   try dsimp only at ph
   try dsimp only
   obtain ⟨pk, pa⟩ := ph
   have jl := a4F (j6 := w5) (t := l[g].2.1.length) hv (hm _ (List.getElem_mem om))
   have jf := List.length_filter_le (fun v => !M0 F5 (↑g, v)) ((o6 w5 l[g].2.1.length).take h)
   have jt := List.length_take_le h (o6 w5 l[g].2.1.length)
   refine d6 (mS m0) fun eaA1_0 laA1_0 => ?_
   subst eaA1_0
   refine Ew Z1 (Ey rfl ((Y.lss rfl rfl).yd) (n9 (fun q30 => ?_) (fun q30 => ?_)))
   ·refine a2k m0 om fun ab31 ae31 => (a2Z (j := h) om fun ce31 => (d8 (b9E fun oa31_0 om31_0 oc31_0 oe31 on31_0 => ?_)))
    subst oe31
    subst on31_0
    refine d6 m0 fun _ ol31_0 => (Eu (Eq_ (o0 rfl (f9 (Et (Eq_ (E.block (Ew Z3 (Ey rfl ((w3 us_Iss ty_Is rfl ae31 rfl h rfl om).yd) (Ey rfl (g9 ty_Is rfl (Has.owt ae31 (mS m0)) rfl) (Ei rfl (Ev Z5 (Em rfl (Em rfl (Ey rfl ((I3 (pvs := [_, _]) (cs := [_, _]) ty_Access a7R rfl rfl).yd) (Est rfl (N.alloc ty_Access dc) (fun b10 _ => (Est rfl (Ns [_, _] ty_Access rfl) (fun _ _ => (Ev Z5 (Ey rfl ((i8 fo_Reached_2 ty_Accesss dc rfl).yd) (Ey rfl (g9 ty_Accesss rfl ((Has.pt (mS (mS (mS (mS (mS m0)))))).sub (cs' := [_]) 2 rfl) rfl) (Ey rfl (r9 (cs := [_, _]) ty_Access rfl (Has.pt m0) rfl) (Est rfl (o4 a8X rfl rfl rfl dc (fun w Lp hA => ⟨hA.ro a4U, i6, hA.ow (mS m0)⟩)) (fun _ _ => (Ent.b (fun q39 => ?_) (fun q39 => ?_)))))))))))))))))))))))))))
    ·refine Ey rfl ((Y.not (b := true) rfl).yd) (Eu (n8 rfl (f9 (s8 (Et (Ez Z2 (Ey rfl ((Y.add rfl rfl om om).yd) (Em rfl (Eu (j7 (a1M (d8 (Ent.drop (d8 (Ent.drop (d8 (f6 (congrArg (ow C5 [_]) (show d7 w5 F5 (l.take g) 0 ++ (((o6 w5 l[g].2.1.length).take h).filter (fun v => !M0 F5 (↑g, v))).map (fun v => ((g : Int), v)) = d7 w5 F5 (l.take g) 0 ++ (((o6 w5 l[g].2.1.length).take (h + 1)).filter (fun v => !M0 F5 (↑g, v))).map (fun v => ((g : Int), v)) from by grind [d7, O0, Y3, d1, d2, t1, t2])) (o2 (o2 (j7 (o2 ?_)))))))))))))))))))))
     exact Ea (h + 1, aA1_0, (d7 w5 F5 (l.take g) 0 ++ (((o6 w5 l[g].2.1.length).take h).filter (fun v => !M0 F5 (↑g, v))).map (fun v => ((g : Int), v))).length, cA1_0) ⟨oz, trivial⟩
    ·refine Ey rfl ((Y.not (b := false) rfl).yd) (Eu (o0 rfl (Ez Z5 (Em rfl (Ey rfl (r9 (cs := [_, _]) ty_Access rfl (Has.pt m0) rfl) (Est rfl (Nb [_] [_, _] us_Accesss ty_Access rfl rfl) (fun b43 _ => (j7 (d8 (n0 (Est rfl (B2 (E := K0) (ex := ((g : Int), (o6 w5 l[g].2.1.length)[h])) us_Accesss ty_Access rfl rfl rfl (a3B (x := ((g : Int), (o6 w5 l[g].2.1.length)[h])) i6 Own.ow) rfl bn bn dc) (fun p44 _ => (Ei rfl (En (s8 (Et (Ez Z2 (Ey rfl ((Y.add rfl rfl om om).yd) (Em rfl (Eu (j7 (a1M (j7 (Ent.drop ?_))))))))))))))))))))))))
     refine d8 (f6 (congrArg (ow C5 [_]) (show (d7 w5 F5 (l.take g) 0 ++ (((o6 w5 l[g].2.1.length).take h).filter (fun v => !M0 F5 (↑g, v))).map (fun v => ((g : Int), v))) ++ [((g : Int), (o6 w5 l[g].2.1.length)[h])] = d7 w5 F5 (l.take g) 0 ++ (((o6 w5 l[g].2.1.length).take (h + 1)).filter (fun v => !M0 F5 (↑g, v))).map (fun v => ((g : Int), v)) from by grind [d7, O0, Y3, d1, d2, t1, t2])) (o2 (o2 (j7 (o2 ?_)))))
     exact Ea (h + 1, p44.1, ((d7 w5 F5 (l.take g) 0 ++ (((o6 w5 l[g].2.1.length).take h).filter (fun v => !M0 F5 (↑g, v))).map (fun v => ((g : Int), v))).length + 1), p44.2) ⟨oz, trivial⟩
   ·refine Eu (Eq_ (n8 rfl (E.exit (l3 (l3 (y4 (s8 (Et (Ez Z2 (Ey rfl ((Y.add rfl rfl om om).yd) (Em rfl (Eu (Ent.drop (d8 (Ent.drop (f6 (congrArg (ow C5 [_]) (show d7 w5 F5 (l.take g) 0 ++ (((o6 w5 l[g].2.1.length).take h).filter (fun v => !M0 F5 (↑g, v))).map (fun v => ((g : Int), v)) = d7 w5 F5 (l.take (g + 1)) 0 from by grind [d7, O0, Y3, d1, d2, t1, t2])) (d8 (d8 ?_))))))))))))))))))
    exact Ea (g + 1, aA1_0, (d7 w5 F5 (l.take g) 0 ++ (((o6 w5 l[g].2.1.length).take h).filter (fun v => !M0 F5 (↑g, v))).map (fun v => ((g : Int), v))).length, cA1_0) ⟨oz, trivial⟩
 ·refine Eu (Eq_ (n8 rfl (E.exit (l3 (l3 (y4 (Et (Ew Z2 (Em rfl (Ei rfl (Eu (E.ret (f6 (congrArg (ow C5 [_]) (show _ = d7 w5 F5 l 0 by grind [d7, O0, Y3, d1, d2, t1, t2])) ?_)))))))))))))
  exact Fg rfl rfl (_, _, _) rfl rfl
theorem a6U (hv : w5.length ≤ 10) (hm : ∀ m ∈ l, m.2.1.length ≤ 3) (hl : l.length ≤ 5) : Tr Tryz.prog 163 [.slice a_l m_l c_l, .agg #[.slice a0t a2V a0s, .slice Y9 a2v Y8, .slice a1L a4y a1K, .int .i64 r_Rounds]] (fun w L => Ro w L I4 [.slice a_l m_l c_l] l ∧ Ro w L s6 [.slice a0t a2V a0s] a4x ∧ Ro w L eIs [.slice Y9 a2v Y8] w5 ∧ Ro w L C5 [.slice a1L a4y a1K] F5 ∧ I64 r_Rounds) [] (κ := Option Addr × Nat × Nat) (fun k => True) (fun k => .slice k.1 k.2.1 k.2.2) (fun k => [ow C5 [.slice k.1 k.2.1 k.2.2] (d7 w5 F5 l 0)]) := by
 refine Tr.intro Tryz.func163 rfl (n := 54) rfl (by decide +kernel) bl (fr := [(0, .slice a_l m_l c_l), (1, .agg #[.slice a0t a2V a0s, .slice Y9 a2v Y8, .slice a1L a4y a1K, .int .i64 r_Rounds])]) rfl fun w L hR => ?_
 obtain ⟨hl, a4T, a2f, a4U, i6r_Rounds⟩ := hR
 obtain ⟨rfl, ll⟩ := hl.slen
 obtain ⟨rfl, b8a⟩ := a4T.slen
 obtain ⟨rfl, b6Q⟩ := a2f.slen
 obtain ⟨rfl, c0A⟩ := a4U.slen
 refine Ew Z2 (Est rfl (N.box (cs := [_, _, _, _]) rfl dc rfl) (fun b3 _ => (Ei rfl (Ev Z2 (Est rfl (Nb [] [] us_Accesss ty_Access rfl rfl) (fun b10 _ => (Ent.drop (Ei rfl (Eu (Eq_ (Ew Z1 (Ei rfl (Eu (E.block (s7 (A := []) (Own.nil (E := K0) (e := tAccess) (a := (some ⟨b10, 0, none⟩))) rfl (f6 (congrArg (ow C5 [_]) (show [] = d7 w5 F5 (l.take 0) 0 from by first | rfl | (simp; done) | grind [d7, O0, Y3, d1, d2, t1, t2])) (E.loop (κ := Nat × Option Addr × Nat × Nat) (fun g => g.1 ≤ l.length ∧ True) (fun g => [(0, .slice a_l l.length c_l), (3, .pointer (some ⟨b3, 0, none⟩)), (5, .slice g.2.1 g.2.2.1 g.2.2.2), (6, .int .i64 (↑g.1 : Int))]) (fun g => [ow C5 [.slice g.2.1 g.2.2.1 g.2.2.2] (d7 w5 F5 (l.take g.1) 0), pt b3 125 [.slice a0t a4x.length a0s, .slice Y9 w5.length Y8, .slice a1L F5.length a1K, .int .i64 r_Rounds]]) (fun g => l.length - g.1) (0, (some ⟨b10, 0, none⟩), 0, 0) ⟨Nat.zero_le _, by simp⟩ ⟨rfl, rfl, rfl, rfl, trivial⟩ (.refl _) (fun g pg => ?_))))))))))))))))))
 obtain ⟨g, aA0_0, mA0_0, cA0_0⟩ := g
 try dsimp only at pg
 try dsimp only
 obtain ⟨pk, pa⟩ := pg
 refine d6 m0 fun eaA0_0 laA0_0 => ?_
 subst eaA0_0
 have jo := a4s (j6 := w5) (log := F5) (i := 0) hv (l := l.take g) (fun m h => hm m (List.mem_of_mem_take h))
 have jp := List.length_take_le g l
 refine Eq_ (Ew Z4 (Em rfl (Em rfl (Ey rfl ((Y.len us_Methods rfl).yd) (Ey rfl ((Y.lss rfl rfl).yd) (n9 (fun q14 => ?_) (fun q14 => ?_)))))))
 ·refine Eu (o0 rfl (f9 (Et (Eq_ (E.block (Eq_ (Ew Z6 (Em rfl (Em rfl ?_)))))))))
  obtain ⟨eb19, eo19, ec19, ea19, er19, el19, eh19⟩ := hl.elem g om
  obtain ⟨xa19_0, xc19_0, rfl, ei19_0, xh19_0, ei19_2, ei19_3, ei19_4⟩ := a0V er19
  have := xh19_0.slen.2
  refine Ey rfl ((w3 us_Methods ty_Method rfl ea19 rfl g rfl om).yd) (Ey rfl ((i8 fo_Method_2 f5 dc rfl).yd) (Ey rfl (g9 f5 rfl ((eh19 _).sub (cs' := [_]) 2 rfl) rfl) (Ey rfl ((Y.neq rfl rfl).yd) (n9 (fun q22 => ?_) (fun q22 => ?_)))))
  ·refine Eu (o0 rfl (E.exit (l3 (y4 (Et (Ez Z3 (Em rfl (Ey rfl ((Y.add rfl rfl om om).yd) (Ei rfl (Eu (f6 (congrArg (ow C5 [_]) (show d7 w5 F5 (l.take g) 0 = d7 w5 F5 (l.take (g + 1)) 0 from by grind [d7, O0, Y3, d1, d2, t1, t2])) (d8 (d8 ?_)))))))))))))
   exact Ea (g + 1, aA0_0, (d7 w5 F5 (l.take g) 0).length, cA0_0) ⟨oz, trivial⟩
  ·refine Eu (n8 rfl (f9 (Et (Eq_ (D.region (fun j => true) mixed (Dyp 0 rfl (i8 fo_Reached_1 ty_Is dc rfl) (Dy 1 rfl (g9 ty_Is rfl (Hz (mS m0) 1 rfl) rfl) (Dyp 2 rfl (k6 rfl) (Dyp 3 rfl (k6 rfl) (Dyp 4 rfl (w3 us_Methods ty_Method rfl ea19 rfl g rfl om) (Dyp 5 rfl (i8 fo_Method_1 ty_Is dc rfl) (Dy 6 rfl (g9 ty_Is rfl ((eh19 _).sub (cs' := [_]) 1 rfl) rfl) (Dyp 7 rfl (Y.len us_Is rfl) ?_)))))))))))))
   have jm := hm l[g] (List.getElem_mem om)
   refine u7 8 rfl rfl kr (fun _ => rfl) (N.call (b0p fc fc) rfl rfl rfl dc rfl (fun w Lp hA => hA.ro a2f)) (fun k31 _ => ?_)
   obtain ⟨a31, m31, c31⟩ := k31
   refine d6 m0 fun e31 l31 => ?_
   subst e31
   refine H7 (A := [_]) rfl fun wb3 Lb3 hB3 hA3 => ?_
   have hl := hA3.ro hl
   have xh19_0 := hA3.ro xh19_0
   have a2f := hA3.ro a2f
   have a4T := hA3.ro a4T
   have a4U := hA3.ro a4U
   have eh19 := hB3.has eh19
   have rb3 : Ro wb3 Lb3 W7 [.slice a31 (o6 w5 l[g].2.1.length).length c31] (o6 w5 l[g].2.1.length) := hA3.ow m0
   refine Dyp 9 rfl (F1 rfl) (t6 kr (Et (Ew Z1 (Ei rfl (Eu (E.block (f6 (congrArg (ow C5 [_]) (show d7 w5 F5 (l.take g) 0 = d7 w5 F5 (l.take g) 0 ++ (((o6 w5 l[g].2.1.length).take 0).filter (fun v => !M0 F5 (↑g, v))).map (fun v => ((g : Int), v)) from by first | rfl | (simp; done) | grind [d7, O0, Y3, d1, d2, t1, t2])) (E.loop (κ := Nat × Option Addr × Nat × Nat) (fun h => h.1 ≤ (o6 w5 l[g].2.1.length).length ∧ True) (fun h => [(0, .slice a_l l.length c_l), (3, .pointer (some ⟨b3, 0, none⟩)), (5, .slice h.2.1 h.2.2.1 h.2.2.2), (6, .int .i64 (g : Int)), (7, .slice a31 (o6 w5 l[g].2.1.length).length c31), (8, .int .i64 (↑h.1 : Int))]) (fun h => [ow C5 [.slice h.2.1 h.2.2.1 h.2.2.2] (d7 w5 F5 (l.take g) 0 ++ (((o6 w5 l[g].2.1.length).take h.1).filter (fun v => !M0 F5 (↑g, v))).map (fun v => ((g : Int), v))), pt b3 125 [.slice a0t a4x.length a0s, .slice Y9 w5.length Y8, .slice a1L F5.length a1K, .int .i64 r_Rounds]]) (fun h => (o6 w5 l[g].2.1.length).length - h.1) (0, aA0_0, (d7 w5 F5 (l.take g) 0).length, cA0_0) ⟨Nat.zero_le _, by simp⟩ ⟨rfl, rfl, rfl, rfl, rfl, rfl, trivial⟩ (.refl _) (fun h ph => ?_)))))))))
   obtain ⟨h, aA1_0, mA1_0, cA1_0⟩ := h
   try dsimp only at ph
   try dsimp only
   obtain ⟨pk, pa⟩ := ph
   have jl := a4F (j6 := w5) (t := l[g].2.1.length) hv (hm _ (List.getElem_mem om))
   have jf := List.length_filter_le (fun v => !M0 F5 (↑g, v)) ((o6 w5 l[g].2.1.length).take h)
   have jt := List.length_take_le h (o6 w5 l[g].2.1.length)
   refine d6 m0 fun eaA1_0 laA1_0 => ?_
   subst eaA1_0
   refine Eq_ (Ew Z4 (Em rfl (Em rfl (Ey rfl ((Y.len us_Iss rfl).yd) (Ey rfl ((Y.lss rfl rfl).yd) (n9 (fun q35 => ?_) (fun q35 => ?_)))))))
   ·refine Eu (o0 rfl (f9 (Et (Eq_ (E.block (Ew Z8 (Em rfl (Em rfl (Em rfl ?_)))))))))
    obtain ⟨eb41, eo41, ec41, ea41, er41, el41, eh41⟩ := rb3.elem h om
    obtain ⟨xa41, xc41, rfl⟩ := er41.sl
    have := er41.slen.2
    refine Ey rfl ((w3 us_Iss ty_Is rfl ea41 rfl h rfl om).yd) (Ey rfl (g9 ty_Is rfl (eh41 _) rfl) ?_)
    have jz := M9 _ (List.getElem_mem (l := (o6 w5 l[g].2.1.length)) (n := h) om)
    refine Est rfl (N.call (a5r fc) rfl rfl rfl dc rfl (fun w Lp hA => ⟨i6, hA.ro er41⟩)) (fun k43 _ => ?_)
    obtain ⟨a43, m43, c43⟩ := k43
    refine d6 m0 fun e43 l43 => ?_
    subst e43
    refine Est rfl (N.alloc ty_Access dc) (fun b9 _ => (Est rfl (Ns [_, _] ty_Access rfl) (fun _ _ => (Ev Z5 (Ey rfl ((i8 fo_Reached_2 ty_Accesss dc rfl).yd) (Ey rfl (g9 ty_Accesss rfl (Hz (mS (mS (mS m0))) 2 rfl) rfl) (Ey rfl (r9 (cs := [_, _]) ty_Access rfl (Has.pt m0) rfl) (Est rfl (o4 a9r rfl rfl rfl dc (fun w Lp hA => ⟨hA.ro a4U, i6, hA.ow (mS m0)⟩)) (fun _ _ => (Ent.b (fun q47 => ?_) (fun q47 => ?_)))))))))))
    ·refine Ey rfl ((Y.not (b := true) rfl).yd) (Eu (n8 rfl (f9 (s8 (Et (Ez Z3 (Em rfl (Ey rfl ((Y.add rfl rfl om om).yd) (Ei rfl (Eu (Ent.drop (Ent.drop (f6 (congrArg (ow C5 [_]) (show d7 w5 F5 (l.take g) 0 ++ (((o6 w5 l[g].2.1.length).take h).filter (fun v => !M0 F5 (↑g, v))).map (fun v => ((g : Int), v)) = d7 w5 F5 (l.take g) 0 ++ (((o6 w5 l[g].2.1.length).take (h + 1)).filter (fun v => !M0 F5 (↑g, v))).map (fun v => ((g : Int), v)) from by grind [d7, O0, Y3, d1, d2, t1, t2])) (d8 (d8 ?_)))))))))))))))
     exact Ea (h + 1, aA1_0, (d7 w5 F5 (l.take g) 0 ++ (((o6 w5 l[g].2.1.length).take h).filter (fun v => !M0 F5 (↑g, v))).map (fun v => ((g : Int), v))).length, cA1_0) ⟨oz, trivial⟩
    ·refine Ey rfl ((Y.not (b := false) rfl).yd) (Eu (o0 rfl (Ez Z5 (Em rfl (Ey rfl (r9 (cs := [_, _]) ty_Access rfl (Has.pt m0) rfl) (Est rfl (Nb [_] [_, _] us_Accesss ty_Access rfl rfl) (fun b51 _ => (j7 (d8 (o2 (Est rfl (B2 (E := K0) (ex := ((g : Int), ((o6 w5 l[g].2.1.length)[h]))) us_Accesss ty_Access rfl rfl rfl (a3B (x := ((g : Int), ((o6 w5 l[g].2.1.length)[h]))) i6 Own.ow) rfl bn bn dc) (fun p52 _ => (Ei rfl (En (s8 (Et (Ez Z3 (Em rfl (Ey rfl ((Y.add rfl rfl om om).yd) (Ei rfl (Eu (d8 (Ent.drop (f6 (congrArg (ow C5 [_]) (show (d7 w5 F5 (l.take g) 0 ++ (((o6 w5 l[g].2.1.length).take h).filter (fun v => !M0 F5 (↑g, v))).map (fun v => ((g : Int), v))) ++ [((g : Int), ((o6 w5 l[g].2.1.length)[h]))] = d7 w5 F5 (l.take g) 0 ++ (((o6 w5 l[g].2.1.length).take (h + 1)).filter (fun v => !M0 F5 (↑g, v))).map (fun v => ((g : Int), v)) from by grind [d7, O0, Y3, d1, d2, t1, t2])) ?_))))))))))))))))))))))))
     refine d8 (d8 ?_)
     exact Ea (h + 1, p52.1, ((d7 w5 F5 (l.take g) 0 ++ (((o6 w5 l[g].2.1.length).take h).filter (fun v => !M0 F5 (↑g, v))).map (fun v => ((g : Int), v))).length + 1), p52.2) ⟨oz, trivial⟩
   ·refine Eu (n8 rfl (E.exit (l3 (l3 (y4 (s8 (Et (Ez Z3 (Em rfl (Ey rfl ((Y.add rfl rfl om om).yd) (Ei rfl (Eu (f6 (congrArg (ow C5 [_]) (show d7 w5 F5 (l.take g) 0 ++ (((o6 w5 l[g].2.1.length).take h).filter (fun v => !M0 F5 (↑g, v))).map (fun v => ((g : Int), v)) = d7 w5 F5 (l.take (g + 1)) 0 from by grind [d7, O0, Y3, d1, d2, t1, t2])) (d8 (d8 ?_)))))))))))))))
    exact B0 hB3 (g + 1, aA1_0, (d7 w5 F5 (l.take g) 0 ++ (((o6 w5 l[g].2.1.length).take h).filter (fun v => !M0 F5 (↑g, v))).map (fun v => ((g : Int), v))).length, cA1_0) rs (.refl _) ⟨oz, trivial⟩ oz
 ·refine Eu (n8 rfl (E.exit (l3 (l3 (y4 (Et (Ew Z2 (Em rfl (Ei rfl (Eu (E.ret (f6 (congrArg (ow C5 [_]) (show _ = d7 w5 F5 l 0 by grind [d7, O0, Y3, d1, d2, t1, t2])) ?_))))))))))))
  exact Fg rfl rfl (_, _, _) rfl rfl
end Go.Proofs.YtlfhopooaejpfaaGreat
