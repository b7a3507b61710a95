import Derived.Test.YtdopeopehgdccaaGreatT8
import Derived.Test.YtdopeopehgdccaaGreatT6
namespace Go.Proofs.YtdopeopehgdccaaGreat
open Go.RowKit
set_option linter.all false
set_option maxHeartbeats 2000000
attribute [local irreducible] Nop Yd Yp Ent Has Tr FnP FnP2 Src R6 a0d a0I a1c H6
variable {arity D7 z6 C9 z7 o4 v : Int} {l : List (Int × List Int × Int × Int × Int)} {a : List (Int × List Int)} {t6 s r6 : List Int} {m_l c_l C8 B1 m_s c_s y4 w8 m_a c_a : Nat} {a_l B2 a_s w9 a_a : Option Addr}
theorem a9a {l : List Int} : Tr Tryz.prog 282 [.slice a_l m_l c_l] (fun w L => Ro w L eIs [.slice a_l m_l c_l] l) [] (κ := Unit) (fun k => True) (fun k => .bool (H6 ltB l)) (fun k => []) := by
 refine n9 Tryz.func282 rfl (n := 24) rfl (by decide +kernel) bl (fr := [(0, .slice a_l m_l c_l)]) rfl fun w L hR => ?_
 have hl := hR
 obtain ⟨rfl, ll⟩ := hl.slen
 refine Ew Z1 (Ei rfl (Eu (Eq_ (Ew Z3 (Em rfl (Ey rfl ((Y.len us_Is rfl).yd) (Em rfl (Eu (E.block (E.loop (κ := Nat) (fun g => g ≤ l.length ∧ H6 ltB l = H6 ltB (l.drop (g - 1))) (fun g => [(0, .slice a_l l.length c_l), (5, .int .i64 (↑l.length : Int)), (6, .int .i64 (g : Int))]) (fun g => []) (fun g => l.length - g) 0 ⟨Nat.zero_le _, by simp⟩ ⟨rfl, rfl, rfl, trivial⟩ (.refl _) (fun g pg => ?_)))))))))))
 obtain ⟨pk, pa⟩ := pg
 refine Ew Z1 (Ey rfl ((Y.lss rfl rfl).yd) (o6 (fun q7 => ?_) (fun q7 => ?_)))
 ·refine Eu (Eq_ (o2 rfl (j5 (Et (Eq_ (E.block (Ew Z2 (Em rfl (Ei rfl (Eu (Eq_ (D.region (fun j => true) mixed (Dyp 0 rfl (l3 rfl) (Dyp 1 rfl (Y.gtr rfl rfl) (o6 (fun q10 => ?_) (fun q10 => ?_))))))))))))))))
  ·refine Dyp 2 rfl (l3 rfl) (Dyp 3 rfl (l3 rfl) (Dyp 4 rfl (l3 rfl) ?_))
   obtain ⟨eb14, eo14, ea14, ei14, eh14⟩ := hl.elemI g om
   refine Dyp 5 rfl (r7 us_Is i8 rfl ea14 rfl g rfl om) (Dy 6 rfl (g9 i8 rfl (eh14 _) rfl) (Dyp 7 rfl (l3 rfl) (Dyp 8 rfl (l3 rfl) (Dyp 9 rfl (Y.sub rfl rfl om om) ?_))))
   obtain ⟨eb19, eo19, ea19, ei19, eh19⟩ := hl.elemI (g - 1) om
   refine Dyp 10 rfl (r7 us_Is i8 rfl ea19 rfl (g - 1) om om) (Dy 11 rfl (g9 i8 rfl (eh19 _) rfl) (Dyp 12 rfl (Y.leq rfl rfl) (o6 (fun q21 => ?_) (fun q21 => ?_))))
   ·refine Dyp 13 rfl (u7 rfl rfl) (r8 kr (Et (o2 rfl (Ew Z1 (Ei rfl ?_)))))
    exact Eu (E.ret (w5 (l4 (l4 (w5 (l4 (Fb rfl rfl (by grind [H8, H5, J1, ltB, d1, d2, t1, t2]))))))))
   ·refine Dyp 13 rfl (u7 rfl rfl) (r8 kr (Et (o3 rfl (j5 (t7 (Et (Ez Z2 (Ey rfl ((Y.add rfl rfl om om).yd) (Em rfl ?_)))))))))
    exact Eu (v8 br (g + 1) rs (.refl _) ⟨by omega, by grind [H8, H5, J1, ltB, d1, d2, t1, t2]⟩ om)
  ·refine Dyp 2 rfl (l3 rfl) (Dsk 3 rfl (Dsk 4 rfl (Dsk 5 rfl (Dsk 6 rfl (Dsk 7 rfl (Dsk 8 rfl (Dsk 9 rfl (Dsk 10 rfl (Dsk 11 rfl (Dsk 12 rfl (Dyp 13 rfl (u0 rfl rfl) (r8 kr (Et (o3 rfl (j5 (t7 (Et (Ez Z2 (Ey rfl ((Y.add rfl rfl om om).yd) (Em rfl ?_))))))))))))))))))))
   exact Eu (v8 br (g + 1) rs (.refl _) ⟨by omega, by grind [H8, H5, J1, ltB, d1, d2, t1, t2]⟩ om)
 ·refine Eu (Eq_ (o3 rfl (E.exit (o8 (o8 (x9 (Et (Ew Z1 (Ei rfl ?_)))))))))
  exact Eu (E.ret (Fb rfl rfl (by grind [H8, H5, J1, ltB, d1, d2, t1, t2])))
theorem a6x {i : Int} {b_arity : Nat} : Tr Tryz.prog 283 [.int .i64 i, .pointer (some ⟨b_arity, 0, none⟩)] (fun w L => (I64 i) ∧ RoPt w L b_arity [.int .i64 arity] ∧ -1000 ≤ arity ∧ arity ≤ 1000) [] (κ := Unit) (fun k => True) (fun k => .bool (!inR i 0 (arity - 1))) (fun k => []) := by
 refine n9 Tryz.func283 rfl (n := 9) rfl (by decide +kernel) bl (fr := [(0, .int .i64 i), (1, .pointer (some ⟨b_arity, 0, none⟩))]) rfl fun w L hR => ?_
 obtain ⟨i6i, hb_arity, as0, as1⟩ := hR
 refine Ew Z1 (Ei rfl (Ev Z6 (Em rfl (Ey rfl (g9 i8 rfl (hb_arity.has) rfl) (Ey rfl ((Y.sub rfl rfl om om).yd) (Est rfl (n0 Q4 rfl rfl rfl dc tv) (fun _ _ => (Ey rfl ((Y.not rfl).yd) (Ei rfl ?_)))))))))
 exact Eu (E.ret (Fb rfl rfl (by grind [d1, d2, t1, t2])))
theorem a6L {n : Int} : Tr Tryz.prog 284 [.int .i64 n] (fun w L => True) [] (κ := Unit) (fun k => True) (fun k => .bool (inR n 0 99)) (fun k => []) := by
 refine n9 Tryz.func284 rfl (n := 5) rfl (by decide +kernel) bl (fr := [(0, .int .i64 n)]) rfl fun w L hR => (Ew Z1 (Ei rfl (Ev Z3 (Em rfl (Est rfl (n0 Q4 rfl rfl rfl dc tv) (fun _ _ => (Ei rfl ?_)))))))
 exact Eu (E.ret (Fg rfl rfl () rfl rfl))
theorem a7r : Tr Tryz.prog 224 [.agg #[.int .i64 D7, .slice B2 C8 B1, .int .i64 z6, .int .i64 C9, .int .i64 z7], .int .i64 arity] (fun w L => I64 D7 ∧ Ro w L eIs [.slice B2 C8 B1] t6 ∧ I64 z6 ∧ I64 C9 ∧ I64 z7 ∧ -1000 ≤ arity ∧ arity ≤ 1000) [] (κ := Unit) (fun k => True) (fun k => .bool (a1j (D7, t6, z6, C9, z7) arity)) (fun k => []) := by
 refine n9 Tryz.func224 rfl (n := 30) rfl (by decide +kernel) bl (fr := [(0, .agg #[.int .i64 D7, .slice B2 C8 B1, .int .i64 z6, .int .i64 C9, .int .i64 z7]), (1, .int .i64 arity)]) rfl fun w L hR => ?_
 obtain ⟨V0, E8, P8, S2, P9, as0, as1⟩ := hR
 obtain ⟨rfl, Y7⟩ := E8.slen
 refine Ew Z3 (Est rfl (N.box (cs := [_, _, _, _, _]) rfl dc rfl) (fun b2 _ => (Est rfl (N.box (cs := [_]) rfl dc rfl) (fun b3 _ => (Ei rfl (Ev Z26 (Ey rfl ((j7 fo_Method_1 ty_Is dc rfl).yd) (Ey rfl (g9 ty_Is rfl (Hz (mS m0) 1 rfl) rfl) (Est rfl (n0 a9a rfl rfl rfl dc (fun w Lp hA => hA.ro E8)) (fun _ _ => (Ent.b (fun q7 => ?_) (fun q7 => ?_))))))))))))
 ·refine Em rfl (Ey rfl ((j7 fo_Method_1 ty_Is dc rfl).yd) (Ey rfl (g9 ty_Is rfl (Hz (mS m0) 1 rfl) rfl) (Ey rfl ((Y.fn (vs := [_]) rfl).yd) (Est rfl (n0 (V8 (f := (fun i => !inR i 0 (arity - 1))) (D_f := (fun _ => True)) (by intros; exact trivial)) rfl rfl rfl dc (fun w Lp hA => ⟨hA.ro E8, a2H (D := (fun _ => True)) (fun hd => a6x) (fun w' hk => ⟨(hA.pt m0).keep hk, (by first | assumption | omega), (by first | assumption | omega)⟩)⟩)) (fun _ _ => (Ent.b (fun q12 => ?_) (fun q12 => ?_)))))))
  ·refine Ey rfl ((Y.not (b := true) rfl).yd) (Ey rfl ((u7 rfl rfl).yd) (Em rfl (Es rfl (Es rfl (Es rfl (Ey rfl ((u0 rfl rfl).yd) (Em rfl (Es rfl (Es rfl (Es rfl (Ey rfl ((u0 rfl rfl).yd) (Em rfl (Es rfl (Es rfl (Es rfl (Ey rfl ((u0 rfl rfl).yd) (Ei rfl ?_)))))))))))))))))
   exact Eu (E.ret (Fb rfl rfl (by grind [a1j, a0l, d1, d2, t1, t2])))
  ·refine Ey rfl ((Y.not (b := false) rfl).yd) (Ey rfl ((u7 rfl rfl).yd) (Em rfl (Ey rfl ((j7 fo_Method_2 i8 dc rfl).yd) (Ey rfl (g9 i8 rfl (Hz (mS m0) 2 rfl) rfl) (Est rfl (n0 Q4 rfl rfl rfl dc tv) (fun _ _ => (Ent.b (fun q18 => ?_) (fun q18 => ?_))))))))
   ·refine Ey rfl ((u7 rfl rfl).yd) (Em rfl (Ey rfl ((j7 fo_Method_3 i8 dc rfl).yd) (Ey rfl (g9 i8 rfl (Hz (mS m0) 3 rfl) rfl) (Est rfl (n0 a6L rfl rfl rfl dc tv) (fun _ _ => (Ent.b (fun q23 => ?_) (fun q23 => ?_)))))))
    ·refine Ey rfl ((u7 rfl rfl).yd) (Em rfl (Ey rfl ((j7 fo_Method_4 i8 dc rfl).yd) (Ey rfl (g9 i8 rfl (Hz (mS m0) 4 rfl) rfl) (Est rfl (n0 Q4 rfl rfl rfl dc tv) (fun _ _ => (Ey rfl ((u7 rfl rfl).yd) (Ei rfl ?_)))))))
     exact Eu (E.ret (Fb rfl rfl (by grind [a1j, a0l, d1, d2, t1, t2])))
    ·refine Ey rfl ((u7 rfl rfl).yd) (Em rfl (Es rfl (Es rfl (Es rfl (Ey rfl ((u0 rfl rfl).yd) (Ei rfl ?_))))))
     exact Eu (E.ret (Fb rfl rfl (by grind [a1j, a0l, d1, d2, t1, t2])))
   ·refine Ey rfl ((u7 rfl rfl).yd) (Em rfl (Es rfl (Es rfl (Es rfl (Ey rfl ((u0 rfl rfl).yd) (Em rfl (Es rfl (Es rfl (Es rfl (Ey rfl ((u0 rfl rfl).yd) (Ei rfl ?_)))))))))))
    exact Eu (E.ret (Fb rfl rfl (by grind [a1j, a0l, d1, d2, t1, t2])))
 ·refine Em rfl (Es rfl (Es rfl (Es rfl (Es rfl (Es rfl (Ey rfl ((u0 rfl rfl).yd) (Em rfl (Es rfl (Es rfl (Es rfl (Ey rfl ((u0 rfl rfl).yd) (Em rfl (Es rfl (Es rfl (Es rfl (Ey rfl ((u0 rfl rfl).yd) (Em rfl (Es rfl (Es rfl (Es rfl (Ey rfl ((u0 rfl rfl).yd) (Ei rfl ?_))))))))))))))))))))))
  exact Eu (E.ret (Fb rfl rfl (by grind [a1j, a0l, d1, d2, t1, t2])))
theorem a9G : Tr Tryz.prog 150 [.slice a_s m_s c_s, .agg #[.int .i64 D7, .slice B2 C8 B1, .int .i64 z6, .int .i64 C9, .int .i64 z7]] (fun w L => Ro w L eIs [.slice a_s m_s c_s] s ∧ I64 D7 ∧ Ro w L eIs [.slice B2 C8 B1] t6 ∧ I64 z6 ∧ I64 C9 ∧ I64 z7) [] (κ := Unit) (fun k => True) (fun k => .bool (S3 s (D7, t6, z6, C9, z7))) (fun k => []) := by
 refine n9 Tryz.func150 rfl (n := 18) rfl (by decide +kernel) bl (fr := [(0, .slice a_s m_s c_s), (1, .agg #[.int .i64 D7, .slice B2 C8 B1, .int .i64 z6, .int .i64 C9, .int .i64 z7])]) rfl fun w L hR => ?_
 obtain ⟨hs, V0, E8, P8, S2, P9⟩ := hR
 obtain ⟨rfl, ls⟩ := hs.slen
 obtain ⟨rfl, Y7⟩ := E8.slen
 refine Ew Z2 (Est rfl (N.box (cs := [_, _, _, _, _]) rfl dc rfl) (fun b3 _ => (Ei rfl (Eu (Eq_ (D.region (fun j => true) mixed (Dyp 0 rfl (l3 rfl) (Dyp 1 rfl (j7 fo_Method_0 i8 dc rfl) (Dy 2 rfl (g9 i8 rfl (Hz m0 0 rfl) rfl) (t8 3 rfl rfl kr (fun _ => rfl) (n0 a4n rfl rfl rfl dc (fun w Lp hA => hA.ro hs)) (fun _ _ => (Ent.b (fun q8 => ?_) (fun q8 => ?_)))))))))))))
 ·obtain ⟨z1, z2, z3, z4⟩ := a1e q8
  rw [J3 om] at z3 z4
  refine Dyp 4 rfl (l3 rfl) (Dy 5 rfl (o9 (cs := [_, _, _, _, _]) ty_Method rfl (Has.pt m0) rfl) (Dyp 6 rfl (l3 rfl) (Dyp 7 rfl (j7 fo_Method_0 i8 dc rfl) (Dy 8 rfl (g9 i8 rfl (Hz m0 0 rfl) rfl) ?_))))
  obtain ⟨eb14, eo14, ea14, ei14, eh14⟩ := hs.elemI D7.toNat om
  refine Dyp 9 rfl (r7 us_Is i8 rfl ea14 rfl D7.toNat om om) (Dy 10 rfl (g9 i8 rfl (eh14 _) rfl) (t8 11 rfl rfl kr (fun _ => rfl) (n0 a7r rfl rfl rfl dc (fun w Lp hA => ⟨V0, hA.ro E8, P8, S2, P9, (by first | assumption | omega), (by first | assumption | omega)⟩)) (fun _ _ => (Dyp 12 rfl (u7 rfl rfl) (Dyp 13 rfl (F7 rfl) ?_)))))
  exact r8 kr (Et (E.ret (Fb rfl rfl (by grind [S3, G0, d1, d2, t1, t2]))))
 ·refine Dyp 4 rfl (l3 rfl) (Dsk 5 rfl (Dsk 6 rfl (Dsk 7 rfl (Dsk 8 rfl (Dsk 9 rfl (Dsk 10 rfl (Dsk 11 rfl (Dyp 12 rfl (u0 rfl rfl) (Dyp 13 rfl (F7 rfl) ?_)))))))))
  exact r8 kr (Et (E.ret (Fb rfl rfl (by grind [S3, G0, d1, d2, t1, t2]))))
theorem a9J : Tr Tryz.prog 135 [.slice a_s m_s c_s, .agg #[.int .i64 D7, .slice B2 C8 B1, .int .i64 z6, .int .i64 C9, .int .i64 z7]] (fun w L => Ro w L eIs [.slice a_s m_s c_s] s ∧ I64 D7 ∧ Ro w L eIs [.slice B2 C8 B1] t6 ∧ I64 z6 ∧ I64 C9 ∧ I64 z7) [] (κ := Unit) (fun k => True) (fun k => .bool (S3 s (D7, t6, z6, C9, z7))) (fun k => []) := by
 refine n9 Tryz.func135 rfl (n := 74) rfl (by decide +kernel) bl (fr := [(0, .slice a_s m_s c_s), (1, .agg #[.int .i64 D7, .slice B2 C8 B1, .int .i64 z6, .int .i64 C9, .int .i64 z7])]) rfl fun w L hR => ?_
 obtain ⟨hs, V0, E8, P8, S2, P9⟩ := hR
 obtain ⟨rfl, ls⟩ := hs.slen
 obtain ⟨rfl, Y7⟩ := E8.slen
 refine Ew Z2 (Est rfl (N.box (cs := [_, _, _, _, _]) rfl dc rfl) (fun b3 _ => (Ei rfl (Eu (Eq_ (Ew Z30 (Em rfl (Est rfl (n0 a0s rfl rfl rfl dc (fun w Lp hA => hA.ro hs)) (fun _ _ => (Ent.b (fun q7 => ?_) (fun q7 => ?_)))))))))))
 ·refine Ey rfl ((Y.not (b := true) rfl).yd) (Em rfl (Ey rfl ((j7 fo_Method_0 i8 dc rfl).yd) (Ey rfl (g9 i8 rfl (Hz m0 0 rfl) rfl) (Em rfl (Ey rfl ((Y.len us_Is rfl).yd) (Ey rfl ((Y.sub rfl rfl om om).yd) (Est rfl (n0 K2 rfl rfl rfl dc tv) (fun _ _ => (Ent.b (fun q15 => ?_) (fun q15 => ?_))))))))))
  ·have y1 : N6 s D7 = true := by rw [N6, q7, q15]; rfl
   obtain ⟨z1, z2, z3, z4⟩ := a1e y1
   rw [J3 om] at z3 z4
   refine Ey rfl ((Y.not (b := true) rfl).yd) (Ey rfl ((u0 rfl rfl).yd) (Em rfl (Ey rfl ((j7 fo_Method_2 i8 dc rfl).yd) (Ey rfl (g9 i8 rfl (Hz m0 2 rfl) rfl) (Est rfl (n0 K2 rfl rfl rfl dc tv) (fun _ _ => (Ent.b (fun q21 => ?_) (fun q21 => ?_))))))))
   ·refine Ey rfl ((Y.not (b := true) rfl).yd) (Ey rfl ((u0 rfl rfl).yd) (Em rfl (Ey rfl ((j7 fo_Method_3 i8 dc rfl).yd) (Ey rfl (g9 i8 rfl (Hz m0 3 rfl) rfl) (Est rfl (n0 K2 rfl rfl rfl dc tv) (fun _ _ => (Ent.b (fun q27 => ?_) (fun q27 => ?_))))))))
    ·refine Ey rfl ((Y.not (b := true) rfl).yd) (Ey rfl ((u0 rfl rfl).yd) (Em rfl (Ey rfl ((j7 fo_Method_4 i8 dc rfl).yd) (Ey rfl (g9 i8 rfl (Hz m0 4 rfl) rfl) (Est rfl (n0 K2 rfl rfl rfl dc tv) (fun _ _ => (Ent.b (fun q33 => ?_) (fun q33 => ?_))))))))
     ·refine Ey rfl ((Y.not (b := true) rfl).yd) (Ey rfl ((u0 rfl rfl).yd) (Eu (o3 rfl (j5 (Et (Eq_ (Ew Z1 (Ei rfl (Eu (E.block (E.loop (κ := Nat) (fun g => g ≤ t6.length ∧ (a0l t6 (at0 s D7) && H6 ltB t6) = (a0l (t6.drop g) (at0 s D7) && H6 ltB (t6.drop (g - 1)))) (fun g => [(0, .slice a_s s.length c_s), (3, .pointer (some ⟨b3, 0, none⟩)), (5, .int .i64 (g : Int))]) (fun g => [pt b3 113 [.int .i64 D7, .slice B2 t6.length B1, .int .i64 z6, .int .i64 C9, .int .i64 z7]]) (fun g => t6.length - g) 0 ⟨Nat.zero_le _, by simp⟩ ⟨rfl, rfl, rfl, trivial⟩ (.refl _) (fun g pg => ?_))))))))))))
      obtain ⟨pk, pa⟩ := pg
      refine Eq_ (Ew Z5 (Em rfl (Ey rfl ((j7 fo_Method_1 ty_Is dc rfl).yd) (Ey rfl (g9 ty_Is rfl (Hz m0 1 rfl) rfl) (Ey rfl ((Y.len us_Is rfl).yd) (Ey rfl ((Y.lss rfl rfl).yd) (o6 (fun q40 => ?_) (fun q40 => ?_))))))))
      ·refine Eu (o2 rfl (j5 (Et (Eq_ (E.block (Eq_ (D.region (fun j => true) mixed (Dyp 0 rfl (j7 fo_Method_1 ty_Is dc rfl) (Dy 1 rfl (g9 ty_Is rfl (Hz m0 1 rfl) rfl) (Dyp 2 rfl (l3 rfl) ?_))))))))))
       obtain ⟨eb46, eo46, ea46, ei46, eh46⟩ := E8.elemI g om
       refine Dyp 3 rfl (r7 us_Is i8 rfl ea46 rfl g rfl om) (Dy 4 rfl (g9 i8 rfl (eh46 _) rfl) (Dyp 5 rfl (l3 rfl) (Dyp 6 rfl (j7 fo_Method_0 i8 dc rfl) (Dy 7 rfl (g9 i8 rfl (Hz m0 0 rfl) rfl) ?_))))
       obtain ⟨eb51, eo51, ea51, ei51, eh51⟩ := hs.elemI D7.toNat om
       refine Dyp 8 rfl (r7 us_Is i8 rfl ea51 rfl D7.toNat om om) (Dy 9 rfl (g9 i8 rfl (eh51 _) rfl) (Dyp 10 rfl (Y.sub rfl rfl om om) (t8 11 rfl rfl kr (fun _ => rfl) (n0 K2 rfl rfl rfl dc tv) (fun _ _ => (Ent.b (fun q54 => ?_) (fun q54 => ?_))))))
       ·refine Dyp 12 rfl (Y.not (b := true) rfl) (Dyp 13 rfl (l3 rfl) (Dyp 14 rfl (l3 rfl) (Dyp 15 rfl (Y.gtr rfl rfl) (o6 (fun q58 => ?_) (fun q58 => ?_)))))
        ·refine Dyp 16 rfl (l3 rfl) (Dyp 17 rfl (j7 fo_Method_1 ty_Is dc rfl) (Dy 18 rfl (g9 ty_Is rfl (Hz m0 1 rfl) rfl) (Dyp 19 rfl (l3 rfl) (Dyp 20 rfl (r7 us_Is i8 rfl ea46 rfl g rfl om) (Dy 21 rfl (g9 i8 rfl (eh46 _) rfl) (Dyp 22 rfl (j7 fo_Method_1 ty_Is dc rfl) (Dy 23 rfl (g9 ty_Is rfl (Hz m0 1 rfl) rfl) (Dyp 24 rfl (l3 rfl) (Dyp 25 rfl (Y.sub rfl rfl om om) ?_)))))))))
         obtain ⟨eb69, eo69, ea69, ei69, eh69⟩ := E8.elemI (g - 1) om
         refine Dyp 26 rfl (r7 us_Is i8 rfl ea69 rfl (g - 1) om om) (Dy 27 rfl (g9 i8 rfl (eh69 _) rfl) (Dyp 28 rfl (Y.leq rfl rfl) (o6 (fun q71 => ?_) (fun q71 => ?_))))
         ·refine Dyp 29 rfl (u7 rfl rfl) (Dyp 30 rfl (u0 rfl rfl) (r8 kr (Et (o2 rfl (Ew Z1 (Ei rfl ?_))))))
          exact Eu (E.ret (w5 (l4 (l4 (w5 (l4 (Fb rfl rfl (by grind [S3, a1j, N6, G0, a0l, H8, H5, J1, ltB, d1, d2, t1, t2]))))))))
         ·refine Dyp 29 rfl (u7 rfl rfl) (Dyp 30 rfl (u0 rfl rfl) (r8 kr (Et (o3 rfl (j5 (t7 (Et (Ez Z3 (Em rfl (Ey rfl ((Y.add rfl rfl om om).yd) (Ei rfl ?_)))))))))))
          exact Eu (v8 br (g + 1) rs (.refl _) ⟨by omega, by grind [a0l, H8, H5, J1, ltB, G0, d1, d2, t1, t2]⟩ om)
        ·refine Dyp 16 rfl (l3 rfl) (Dsk 17 rfl (Dsk 18 rfl (Dsk 19 rfl (Dsk 20 rfl (Dsk 21 rfl (Dsk 22 rfl (Dsk 23 rfl (Dsk 24 rfl (Dsk 25 rfl (Dsk 26 rfl (Dsk 27 rfl (Dsk 28 rfl (Dyp 29 rfl (u0 rfl rfl) (Dyp 30 rfl (u0 rfl rfl) (r8 kr (Et (o3 rfl (j5 (t7 (Et (Ez Z3 (Em rfl (Ey rfl ((Y.add rfl rfl om om).yd) (Ei rfl ?_))))))))))))))))))))))))
         exact Eu (v8 br (g + 1) rs (.refl _) ⟨by omega, by grind [a0l, H8, H5, J1, ltB, G0, d1, d2, t1, t2]⟩ om)
       ·refine Dyp 12 rfl (Y.not (b := false) rfl) (Dyp 13 rfl (l3 rfl) (Dsk 14 rfl (Dsk 15 rfl (b2b 16 rfl rfl dc kr (Dsk 17 rfl (Dsk 18 rfl (Dsk 19 rfl (Dsk 20 rfl (Dsk 21 rfl (Dsk 22 rfl (Dsk 23 rfl (Dsk 24 rfl (Dsk 25 rfl (Dsk 26 rfl (Dsk 27 rfl (Dsk 28 rfl (Dsk 29 rfl (Dyp 30 rfl (u7 rfl rfl) (r8 kr (Et (o2 rfl (Ew Z1 (Ei rfl ?_)))))))))))))))))))))))
        exact Eu (E.ret (w5 (l4 (l4 (w5 (l4 (Fb rfl rfl (by grind [S3, a1j, N6, G0, a0l, H8, H5, J1, ltB, d1, d2, t1, t2]))))))))
      ·refine Eu (o3 rfl (E.exit (o8 (o8 (x9 (Et (Ew Z1 (Ei rfl ?_))))))))
       exact Eu (E.ret (Fb rfl rfl (by grind [S3, a1j, N6, G0, a0l, H8, H5, J1, ltB, d1, d2, t1, t2])))
     ·refine Ey rfl ((Y.not (b := false) rfl).yd) (Ey rfl ((u0 rfl rfl).yd) (Eu (o2 rfl (Ew Z1 (Ei rfl ?_)))))
      exact Eu (E.ret (l4 (Fb rfl rfl (by grind [S3, a1j, N6, G0, a0l, H8, H5, J1, ltB, d1, d2, t1, t2]))))
    ·refine Ey rfl ((Y.not (b := false) rfl).yd) (Ey rfl ((u0 rfl rfl).yd) (Em rfl (Es rfl (Es rfl (Es rfl (Es rfl (Ey rfl ((u7 rfl rfl).yd) (Eu (o2 rfl (Ew Z1 (Ei rfl ?_)))))))))))
     exact Eu (E.ret (l4 (Fb rfl rfl (by grind [S3, a1j, N6, G0, a0l, H8, H5, J1, ltB, d1, d2, t1, t2]))))
   ·refine Ey rfl ((Y.not (b := false) rfl).yd) (Ey rfl ((u0 rfl rfl).yd) (Em rfl (Es rfl (Es rfl (Es rfl (Es rfl (Ey rfl ((u7 rfl rfl).yd) (Em rfl (Es rfl (Es rfl (Es rfl (Es rfl (Ey rfl ((u7 rfl rfl).yd) (Eu (o2 rfl (Ew Z1 (Ei rfl ?_)))))))))))))))))
    exact Eu (E.ret (l4 (Fb rfl rfl (by grind [S3, a1j, N6, G0, a0l, H8, H5, J1, ltB, d1, d2, t1, t2]))))
  ·refine Ey rfl ((Y.not (b := false) rfl).yd) (Ey rfl ((u0 rfl rfl).yd) (Em rfl (Es rfl (Es rfl (Es rfl (Es rfl (Ey rfl ((u7 rfl rfl).yd) (Em rfl (Es rfl (Es rfl (Es rfl (Es rfl (Ey rfl ((u7 rfl rfl).yd) (Em rfl (Es rfl (Es rfl (Es rfl (Es rfl (Ey rfl ((u7 rfl rfl).yd) (Eu (o2 rfl (Ew Z1 (Ei rfl ?_)))))))))))))))))))))))
   exact Eu (E.ret (l4 (Fb rfl rfl (by grind [S3, a1j, N6, G0, a0l, H8, H5, J1, ltB, d1, d2, t1, t2]))))
 ·refine Ey rfl ((Y.not (b := false) rfl).yd) (Em rfl (Es rfl (Es rfl (Es rfl (Es rfl (Es rfl (Es rfl (Es rfl (Ey rfl ((u7 rfl rfl).yd) (Em rfl (Es rfl (Es rfl (Es rfl (Es rfl (Ey rfl ((u7 rfl rfl).yd) (Em rfl (Es rfl (Es rfl (Es rfl (Es rfl (Ey rfl ((u7 rfl rfl).yd) (Em rfl (Es rfl (Es rfl (Es rfl (Es rfl (Ey rfl ((u7 rfl rfl).yd) (Eu (o2 rfl (Ew Z1 (Ei rfl ?_)))))))))))))))))))))))))))))))
  exact Eu (E.ret (l4 (Fb rfl rfl (by grind [S3, a1j, N6, G0, a0l, H8, H5, J1, ltB, d1, d2, t1, t2]))))
theorem a6V {b_s : Nat} : Tr Tryz.prog 149 [.agg #[.int .i64 D7, .slice B2 C8 B1, .int .i64 z6, .int .i64 C9, .int .i64 z7], .pointer (some ⟨b_s, 0, none⟩)] (fun w L => (I64 D7 ∧ Ro w L eIs [.slice B2 C8 B1] t6 ∧ I64 z6 ∧ I64 C9 ∧ I64 z7) ∧ RoPt w L b_s [.slice a_s m_s c_s] ∧ Ro w L eIs [.slice a_s m_s c_s] s) [] (κ := Unit) (fun k => True) (fun k => .bool (!S3 s (D7, t6, z6, C9, z7))) (fun k => []) := by
 refine n9 Tryz.func149 rfl (n := 8) rfl (by decide +kernel) bl (fr := [(0, .agg #[.int .i64 D7, .slice B2 C8 B1, .int .i64 z6, .int .i64 C9, .int .i64 z7]), (1, .pointer (some ⟨b_s, 0, none⟩))]) rfl fun w L hR => ?_
 obtain ⟨⟨V0, E8, P8, S2, P9⟩, hb_s, hs⟩ := hR
 obtain ⟨rfl, Y7⟩ := E8.slen
 obtain ⟨rfl, ls⟩ := hs.slen
 refine Ew Z2 (Est rfl (N.box (cs := [_, _, _, _, _]) rfl dc rfl) (fun b2 _ => (Ei rfl (Ev Z5 (Ey rfl (g9 ty_Is rfl (hb_s.has) rfl) (Ey rfl (o9 (cs := [_, _, _, _, _]) ty_Method rfl (Has.pt m0) rfl) (Est rfl (n0 a9G rfl rfl rfl dc (fun w Lp hA => ⟨hA.ro hs, V0, hA.ro E8, P8, S2, P9⟩)) (fun _ _ => (Ey rfl ((Y.not rfl).yd) (Ei rfl ?_))))))))))
 exact Eu (E.ret (Fb rfl rfl (by grind [d1, d2, t1, t2])))
theorem a8d : Tr Tryz.prog 71 [.slice a_s m_s c_s, .slice a_l m_l c_l] (fun w L => Ro w L eIs [.slice a_s m_s c_s] s ∧ Ro w L E6 [.slice a_l m_l c_l] l) [] (κ := Unit) (fun k => True) (fun k => .bool (G9 s l)) (fun k => []) := by
 refine n9 Tryz.func71 rfl (n := 18) rfl (by decide +kernel) bl (fr := [(0, .slice a_s m_s c_s), (1, .slice a_l m_l c_l)]) rfl fun w L hR => ?_
 obtain ⟨hs, hl⟩ := hR
 obtain ⟨rfl, ls⟩ := hs.slen
 obtain ⟨rfl, ll⟩ := hl.slen
 refine Ew Z2 (Est rfl (N.box (cs := [_]) rfl dc rfl) (fun b2 _ => (Ei rfl (Ev Z14 (Ey rfl (g9 ty_Is rfl (Has.pt m0) rfl) (Est rfl (n0 a2o rfl rfl rfl dc (fun w Lp hA => hA.ro hs)) (fun _ _ => (Ent.b (fun q6 => ?_) (fun q6 => ?_)))))))))
 ·refine Em rfl (Em rfl (Ey rfl ((Y.len us_Methods rfl).yd) (Ey rfl ((Y.leq rfl rfl).yd) (o6 (fun q10 => ?_) (fun q10 => ?_)))))
  ·refine Ey rfl ((u7 rfl rfl).yd) (Em rfl (Em rfl (Ey rfl ((Y.fn (vs := [_]) rfl).yd) (Est rfl (n0 (a5B (f := (fun z => !S3 s z)) (D_f := (fun _ => True)) (by intros; exact trivial)) rfl rfl rfl dc (fun w Lp hA => ⟨hA.ro hl, a4P (D := (fun _ => True)) (fun hd => a6V) (fun w' hk => ⟨(hA.pt m0).keep hk, (hA.ro hs).keep hk⟩)⟩)) (fun _ _ => (Ey rfl ((Y.not rfl).yd) (Ey rfl ((u7 rfl rfl).yd) (Ei rfl ?_))))))))
   exact Eu (E.ret (Fb rfl rfl (by grind [G9, d1, d2, t1, t2])))
  ·refine Ey rfl ((u7 rfl rfl).yd) (Em rfl (Es rfl (Es rfl (Es rfl (Es rfl (Ey rfl ((u0 rfl rfl).yd) (Ei rfl ?_)))))))
   exact Eu (E.ret (Fb rfl rfl (by grind [G9, d1, d2, t1, t2])))
 ·refine Em rfl (Es rfl (Es rfl (Es rfl (Ey rfl ((u0 rfl rfl).yd) (Em rfl (Es rfl (Es rfl (Es rfl (Es rfl (Ey rfl ((u0 rfl rfl).yd) (Ei rfl ?_)))))))))))
  exact Eu (E.ret (Fb rfl rfl (by grind [G9, d1, d2, t1, t2])))
theorem a2K : Tr Tryz.prog 62 [.slice a_s m_s c_s, .slice a_l m_l c_l] (fun w L => Ro w L eIs [.slice a_s m_s c_s] s ∧ Ro w L E6 [.slice a_l m_l c_l] l) [] (κ := Unit) (fun k => True) (fun k => .bool (G9 s l)) (fun k => []) := by
 refine n9 Tryz.func62 rfl (n := 26) rfl (by decide +kernel) bl (fr := [(0, .slice a_s m_s c_s), (1, .slice a_l m_l c_l)]) rfl fun w L hR => ?_
 obtain ⟨hs, hl⟩ := hR
 obtain ⟨rfl, ls⟩ := hs.slen
 obtain ⟨rfl, ll⟩ := hl.slen
 refine Ew Z1 (Ei rfl (Eu (Eq_ (Ew Z1 (Ei rfl (Eu (E.block (E.loop (κ := Nat) (fun g => g ≤ l.length ∧ l.any (fun m => !S3 s m) = (l.drop g).any (fun m => !S3 s m)) (fun g => [(0, .slice a_s s.length c_s), (1, .slice a_l l.length c_l), (5, .int .i64 (g : Int))]) (fun g => []) (fun g => l.length - g) 0 ⟨Nat.zero_le _, by simp⟩ ⟨rfl, rfl, rfl, trivial⟩ (.refl _) (fun g pg => ?_)))))))))
 obtain ⟨pk, pa⟩ := pg
 refine Eq_ (Ew Z4 (Em rfl (Em rfl (Ey rfl ((Y.len us_Methods rfl).yd) (Ey rfl ((Y.lss rfl rfl).yd) (o6 (fun q9 => ?_) (fun q9 => ?_)))))))
 ·refine Eu (o2 rfl (j5 (Et (Eq_ (E.block (Ew Z7 (Em rfl (Em rfl (Em rfl ?_)))))))))
  obtain ⟨eb15, eo15, ec15, ea15, er15, el15, eh15⟩ := hl.elem g om
  obtain ⟨xa15_0, xc15_0, rfl, ei15_0, xh15_0, ei15_2, ei15_3, ei15_4⟩ := J5 er15
  have := xh15_0.slen.2
  refine Ey rfl ((r7 us_Methods ty_Method rfl ea15 rfl g rfl om).yd) (Ey rfl (o9 (cs := [_, _, _, _, _]) ty_Method rfl (eh15 _) rfl) (Est rfl (n0 a9J rfl rfl rfl dc (fun w Lp hA => ⟨hA.ro hs, ei15_0, hA.ro xh15_0, ei15_2, ei15_3, ei15_4⟩)) (fun _ _ => (Ent.b (fun q17 => ?_) (fun q17 => ?_)))))
  ·refine Ey rfl ((Y.not (b := true) rfl).yd) (Eu (o3 rfl (j5 (t7 (Et (Ez Z3 (Em rfl (Ey rfl ((Y.add rfl rfl om om).yd) (Ei rfl ?_)))))))))
   exact Eu (v8 br (g + 1) rs (.refl _) ⟨by omega, by grind [d1, d2, t1, t2]⟩ om)
  ·refine Ey rfl ((Y.not (b := false) rfl).yd) (Eu (o2 rfl (Ew Z1 (Ei rfl ?_))))
   exact Eu (E.ret (w5 (l4 (l4 (w5 (l4 (Fb rfl rfl (by grind [G9, d1, d2, t1, t2]))))))))
 ·refine Eu (o3 rfl (E.exit (o8 (o8 (x9 (Et (Ew Z8 (Em rfl (Est rfl (n0 a0s rfl rfl rfl dc (fun w Lp hA => hA.ro hs)) (fun _ _ => (Ent.b (fun q20 => ?_) (fun q20 => ?_))))))))))))
  ·refine Em rfl (Em rfl (Ey rfl ((Y.len us_Methods rfl).yd) (Ey rfl ((Y.leq rfl rfl).yd) (Ey rfl ((u7 rfl rfl).yd) (Ei rfl ?_)))))
   exact Eu (E.ret (Fb rfl rfl (by grind [G9, d1, d2, t1, t2])))
  ·refine Em rfl (Es rfl (Es rfl (Es rfl (Ey rfl ((u0 rfl rfl).yd) (Ei rfl ?_)))))
   exact Eu (E.ret (Fb rfl rfl (by grind [G9, d1, d2, t1, t2])))
theorem a7n {a6z : Int} {X7 : Option Addr} {X8 X9 : Nat} {a2w : List Int} {b_a : Nat} : Tr Tryz.prog 211 [.agg #[.int .i64 a6z, .slice X7 X8 X9], .pointer (some ⟨b_a, 0, none⟩)] (fun w L => (I64 a6z ∧ Ro w L eIs [.slice X7 X8 X9] a2w) ∧ RoPt w L b_a [.int .i64 o4, .slice w9 y4 w8] ∧ I64 o4 ∧ Ro w L eIs [.slice w9 y4 w8] r6) [] (κ := Unit) (fun k => True) (fun k => .bool (decide ((a6z, a2w) = (o4, r6)))) (fun k => []) := by
 refine n9 Tryz.func211 rfl (n := 7) rfl (by decide +kernel) bl (fr := [(0, .agg #[.int .i64 a6z, .slice X7 X8 X9]), (1, .pointer (some ⟨b_a, 0, none⟩))]) rfl fun w L hR => ?_
 obtain ⟨⟨b4S, a1T⟩, hb_a, O0, B6⟩ := hR
 obtain ⟨rfl, b1r⟩ := a1T.slen
 obtain ⟨rfl, R9⟩ := B6.slen
 refine Ew Z2 (Est rfl (N.box (cs := [_, _]) rfl dc rfl) (fun b2 _ => (Ei rfl (Ev Z4 (Ey rfl (o9 (cs := [_, _]) ty_Access rfl (Has.pt m0) rfl) (Ey rfl (o9 (cs := [_, _]) ty_Access rfl (hb_a.has) rfl) (Est rfl (n0 a8j rfl rfl rfl dc (fun w Lp hA => ⟨⟨b4S, hA.ro a1T, O0, hA.ro B6⟩, trivial⟩)) (fun _ _ => (Ei rfl ?_)))))))))
 exact Eu (E.ret (Fg rfl rfl () rfl rfl))
theorem a4I {l : List (Int × List Int)} : Tr Tryz.prog 125 [.slice a_l m_l c_l, .agg #[.int .i64 o4, .slice w9 y4 w8]] (fun w L => Ro w L x5 [.slice a_l m_l c_l] l ∧ I64 o4 ∧ Ro w L eIs [.slice w9 y4 w8] r6) [] (κ := Unit) (fun k => True) (fun k => .bool (a0e l (o4, r6))) (fun k => []) := by
 refine n9 Tryz.func125 rfl (n := 8) rfl (by decide +kernel) bl (fr := [(0, .slice a_l m_l c_l), (1, .agg #[.int .i64 o4, .slice w9 y4 w8])]) rfl fun w L hR => ?_
 obtain ⟨hl, O0, B6⟩ := hR
 obtain ⟨rfl, ll⟩ := hl.slen
 obtain ⟨rfl, R9⟩ := B6.slen
 refine Ew Z2 (Est rfl (N.box (cs := [_, _]) rfl dc rfl) (fun b3 _ => (Ei rfl (Ev Z4 (Em rfl (Ey rfl ((Y.fn (vs := [_]) rfl).yd) (Est rfl (n0 (a5L (f := (fun z => decide (z = (o4, r6)))) (D_f := (fun _ => True)) (by intros; exact trivial)) rfl rfl rfl dc (fun w Lp hA => ⟨hA.ro hl, b3w (D := (fun _ => True)) (fun hd => a7n) (fun w' hk => ⟨(hA.pt m0).keep hk, O0, (hA.ro B6).keep hk⟩)⟩)) (fun _ _ => (Ei rfl ?_)))))))))
 exact Eu (E.ret (Fb rfl rfl (by rfl)))
theorem a4W {a_log : Option Addr} {m_log c_log : Nat} {log : List (Int × List Int)} : Tr Tryz.prog 86 [.slice a_log m_log c_log, .agg #[.int .i64 o4, .slice w9 y4 w8]] (fun w L => Ro w L x5 [.slice a_log m_log c_log] log ∧ I64 o4 ∧ Ro w L eIs [.slice w9 y4 w8] r6) [] (κ := Unit) (fun k => True) (fun k => .bool (a0e log (o4, r6))) (fun k => []) := by
 refine n9 Tryz.func86 rfl (n := 18) rfl (by decide +kernel) bl (fr := [(0, .slice a_log m_log c_log), (1, .agg #[.int .i64 o4, .slice w9 y4 w8])]) rfl fun w L hR => ?_
 obtain ⟨hlog, O0, B6⟩ := hR
 obtain ⟨rfl, llog⟩ := hlog.slen
 obtain ⟨rfl, R9⟩ := B6.slen
 refine Ew Z2 (Est rfl (N.box (cs := [_, _]) rfl dc rfl) (fun b3 _ => (Ei rfl (Eu (Eq_ (Ew Z1 (Ei rfl (Eu (E.block (E.loop (κ := Nat) (fun g => g ≤ log.length ∧ a0e log (o4, r6) = a0e (log.drop g) (o4, r6)) (fun g => [(0, .slice a_log log.length c_log), (3, .pointer (some ⟨b3, 0, none⟩)), (5, .int .i64 (g : Int))]) (fun g => [pt b3 133 [.int .i64 o4, .slice w9 r6.length w8]]) (fun g => log.length - g) 0 ⟨Nat.zero_le _, by simp⟩ ⟨rfl, rfl, rfl, trivial⟩ (.refl _) (fun g pg => ?_)))))))))))
 obtain ⟨pk, pa⟩ := pg
 refine Eq_ (Ew Z4 (Em rfl (Em rfl (Ey rfl ((Y.len us_Accesss rfl).yd) (Ey rfl ((Y.lss rfl rfl).yd) (o6 (fun q9 => ?_) (fun q9 => ?_)))))))
 ·refine Eu (o2 rfl (j5 (Et (Eq_ (E.block (Eq_ (D.region (fun j => true) mixed (Dyp 0 rfl (l3 rfl) (Dyp 1 rfl (l3 rfl) ?_)))))))))
  obtain ⟨eb14, eo14, ec14, ea14, er14, el14, eh14⟩ := hlog.elem g om
  obtain ⟨xa14_0, xc14_0, rfl, ei14_0, xh14_0⟩ := Y0 er14
  have := xh14_0.slen.2
  refine Dyp 2 rfl (r7 us_Accesss ty_Access rfl ea14 rfl g rfl om) (Dy 3 rfl (o9 (cs := [_, _]) ty_Access rfl (eh14 _) rfl) (Dy 4 rfl (o9 (cs := [_, _]) ty_Access rfl (Has.pt m0) rfl) (t8 5 rfl rfl kr (fun _ => rfl) (n0 b1D rfl rfl rfl dc (fun w Lp hA => ⟨ei14_0, hA.ro xh14_0, O0, hA.ro B6⟩)) (fun _ _ => (Ent.b (fun q17 => ?_) (fun q17 => ?_))))))
  ·refine r8 kr (Et (o2 rfl (Ew Z1 (Ei rfl ?_))))
   exact Eu (E.ret (w5 (l4 (l4 (w5 (l4 (Fb rfl rfl (by grind [a0e, d1, d2, t1, t2]))))))))
  ·refine r8 kr (Et (o3 rfl (j5 (t7 (Et (Ez Z3 (Em rfl (Ey rfl ((Y.add rfl rfl om om).yd) (Ei rfl ?_)))))))))
   exact Eu (v8 br (g + 1) rs (.refl _) ⟨by omega, by grind [a0e, d1, d2, t1, t2]⟩ om)
 ·refine Eu (o3 rfl (E.exit (o8 (o8 (x9 (Et (Ew Z1 (Ei rfl ?_))))))))
  exact Eu (E.ret (Fb rfl rfl (by grind [a0e, d1, d2, t1, t2])))
theorem a2m {m : Int} {a_values : Option Addr} {m_values c_values : Nat} {J4 : List Int} (hz : J4.length ≤ 1048576) : Tr Tryz.prog 114 [.int .i64 m, .slice a_values m_values c_values] (fun w L => I64 m ∧ Ro w L eIs [.slice a_values m_values c_values] J4) [] (κ := Option Addr × Nat × Nat) (fun k => True) (fun k => .agg #[.int .i64 m, .slice k.1 k.2.1 k.2.2]) (fun k => [ow eIs [.slice k.1 k.2.1 k.2.2] J4]) := by
 refine n9 Tryz.func114 rfl (n := 10) rfl (by decide +kernel) bl (fr := [(0, .int .i64 m), (1, .slice a_values m_values c_values)]) rfl fun w L hR => ?_
 obtain ⟨i6m, hvalues⟩ := hR
 obtain ⟨rfl, lvalues⟩ := hvalues.slen
 refine Ew Z1 (Est rfl (N.alloc ty_Access dc) (fun b4 _ => (Ev Z6 (Em rfl (Est rfl (Nb [] [] us_Is i8 rfl rfl) (fun b6 _ => (Ent.drop (Em rfl (Est rfl (O6 (E := Enc.int) Plain.int us_Is i8 rfl rfl rfl hvalues bn bn dc) (fun p8 _ => (Ey rfl ((Q3 (pvs := [_, _]) (cs := [_, _]) ty_Access a5k rfl rfl).yd) (i7 (Est rfl (Ns [_, _] ty_Access rfl) (fun _ _ => (Eu (E.ret (i7 ?_)))))))))))))))))
 exact a2k br rfl rfl (mS m0) ty_Access rfl (_, _, _) trivial rfl (J := _) (.refl _) (.inl rfl)
theorem a7m {a : List (Int × List Int × Int × Int × Int)} : Tr Tryz.prog 23 [.slice a_a m_a c_a, .int .i64 v] (fun w L => 0 ≤ v ∧ v + ((r9 I5 a : Nat) : Int) ≤ 4611686018427387904) [ow E6 [.slice a_a m_a c_a] a] (κ := Unit) (fun k => True) (fun k => .int .i64 (v + (r9 I5 a : Nat))) (fun k => [ow E6 [.slice a_a m_a c_a] (mkL I5 a1u a v)]) := by
 refine n9 Tryz.func23 rfl (n := 48) rfl (by decide +kernel) bl (fr := [(0, .slice a_a m_a c_a), (1, .int .i64 v)]) rfl fun w L hR => ?_
 obtain ⟨as0, as1⟩ := hR
 refine i9 m0 fun ea la => ?_
 subst ea
 refine Ew Z1 (Ei rfl (Eu (Eq_ (Ew Z1 (Ei rfl (Eu (E.block (E.loop (κ := Nat) (fun g => g ≤ a.length) (fun g => [(0, .slice a_a a.length c_a), (1, .int .i64 (v + (r9 I5 (a.take g) : Nat))), (5, .int .i64 (g : Int))]) (fun g => [ow E6 [.slice a_a a.length c_a] (mkL I5 a1u (a.take g) v ++ a.drop g)]) (fun g => a.length - g) 0 (Nat.zero_le _) ⟨rfl, frI (by simp [r9]), rfl, trivial⟩ (.refl _) (fun g pg => ?_)))))))))
 have u1 := R3 (t := I5) (l := a) (g := g)
 have u2 := R3 (t := I5) (l := a) (g := g + 1)
 have hlen : (mkL I5 a1u (a.take g) v ++ a.drop g).length = a.length := by rw [List.length_append, a1H, ← List.length_append, List.take_append_drop]
 refine Eq_ (Ew Z4 (Em rfl (Em rfl (Ey rfl ((Y.len us_Methods rfl).yd) (Ey rfl ((Y.lss rfl rfl).yd) (o6 (fun q9 => ?_) (fun q9 => ?_)))))))
 ·have u3 := P7 (t := I5) (show g < a.length by omega)
  have u4 : I5 a[g] = 1 + r9 E1 a[g].2.1 + 1 + 1 + 1 := rfl
  refine Eu (o2 rfl (j5 (Et (Eq_ (E.block (Ew Z6 (Em rfl (Em rfl (Em rfl (a0j m0 om fun ab15 ae15 => (a2e (x := a[g]) g (a7a (show g < a.length by omega)) fun ce15 => (i7 (b3G fun oa15_1 om15_1 oc15_1 oe15 oi15_0 on15_1 oi15_2 oi15_3 oi15_4 => ?_)))))))))))))
  subst oe15
  subst on15_1
  refine Ey rfl ((r7 us_Methods ty_Method rfl ae15 rfl g rfl om).yd) (Ey rfl ((j7 fo_Method_0 i8 dc rfl).yd) (i7 (Est rfl (a5n (f := 0) (kk := 5) (vs := [_]) (ce' := [_, _, _, _, _]) i8 rfl rfl rfl rfl rfl ae15 rfl rfl bl rfl rfl) (fun _ _ => (Ev Z3 (Em rfl (Ey rfl ((Y.add rfl rfl om om).yd) (Ei rfl (Ev Z8 (Em rfl (Em rfl (Ey rfl ((r7 us_Methods ty_Method rfl ae15 rfl g rfl om).yd) (Ey rfl ((j7 fo_Method_1 ty_Is dc rfl).yd) (Ey rfl (g9 ty_Is rfl ((Has.hole ae15 m0).sub (cs' := [_]) 1 rfl) rfl) (Em rfl (i7 (Est rfl (N.call (pre := [_]) X3 rfl rfl rfl dc rfl (fun w Lp hA => ⟨(by first | assumption | omega), (by first | assumption | omega)⟩)) (fun _ _ => (Ei rfl (Ev Z6 (Em rfl (Em rfl (Em rfl (Ey rfl ((r7 us_Methods ty_Method rfl ae15 rfl g rfl om).yd) (Ey rfl ((j7 fo_Method_2 i8 dc rfl).yd) (i7 (Est rfl (a5n (f := 2) (kk := 5) (vs := [_]) (ce' := [_, _, _, _, _]) i8 rfl rfl rfl rfl rfl ae15 rfl rfl bl rfl rfl) (fun _ _ => (Ev Z3 (Em rfl (Ey rfl ((Y.add rfl rfl om om).yd) (Ei rfl (Ev Z6 (Em rfl (Em rfl (Em rfl (Ey rfl ((r7 us_Methods ty_Method rfl ae15 rfl g rfl om).yd) (Ey rfl ((j7 fo_Method_3 i8 dc rfl).yd) (Est rfl (a5n (f := 3) (kk := 5) (vs := [_]) (ce' := [_, _, _, _, _]) i8 rfl rfl rfl rfl rfl ae15 rfl rfl bl rfl rfl) (fun _ _ => (Ev Z3 (Em rfl (Ey rfl ((Y.add rfl rfl om om).yd) (Ei rfl (Ev Z6 (Em rfl (Em rfl (Em rfl (Ey rfl ((r7 us_Methods ty_Method rfl ae15 rfl g rfl om).yd) (Ey rfl ((j7 fo_Method_4 i8 dc rfl).yd) (Est rfl (a5n (f := 4) (kk := 5) (vs := [_]) (ce' := [_, _, _, _, _]) i8 rfl rfl rfl rfl rfl ae15 rfl rfl bl rfl rfl) (fun _ _ => ?_))))))))))))))))))))))))))))))))))))))))))))))))))))
  refine Eu (Ez Z3 (Em rfl (Ey rfl ((Y.add rfl rfl om om).yd) (Ei rfl (En (t7 (Et (Ez Z3 (Em rfl (Ey rfl ((Y.add rfl rfl om om).yd) (Ei rfl (Eu (i7 (i7 (a1h (a4Q (x := (v + (r9 I5 (a.take g) : Nat), mkL E1 V7 a[g].2.1 (v + (r9 I5 (a.take g) : Nat) + 1), (v + (r9 I5 (a.take g) : Nat) + 1) + (r9 E1 a[g].2.1 : Nat), ((v + (r9 I5 (a.take g) : Nat) + 1) + (r9 E1 a[g].2.1 : Nat) + 1), (((v + (r9 I5 (a.take g) : Nat) + 1) + (r9 E1 a[g].2.1 : Nat) + 1) + 1))) i6 Own.ow i6 i6 i6) rfl ?_)))))))))))))))
  exact v8 br (g + 1) ⟨rfl, frI om, rfl, trivial⟩ (a4d (a5P (c := I5) (m := a1u) (show g < a.length by omega) rfl)) om om
 ·refine Eu (o3 rfl (E.exit (o8 (o8 (x9 (Et (Ew Z2 (Em rfl (Ei rfl (Eu (E.ret (j6 (congrArg (ow E6 [_]) (show mkL I5 a1u (a.take g) v ++ a.drop g = mkL I5 a1u a v from by first | exact a2f om | (rw [U8 om]))) ?_))))))))))))
  exact Fg rfl rfl () (by rw [show (v + (r9 I5 a : Nat)) = (v + (r9 I5 (a.take g) : Nat)) from (by first | exact a2f om | (rw [U8 om]))]; try rfl) rfl
theorem a7e : Tr Tryz.prog 55 [.slice a_a m_a c_a, .int .i64 v] (fun w L => 0 ≤ v ∧ v + ((r9 E4 a : Nat) : Int) ≤ 4611686018427387904) [ow x5 [.slice a_a m_a c_a] a] (κ := Unit) (fun k => True) (fun k => .int .i64 (v + (r9 E4 a : Nat))) (fun k => [ow x5 [.slice a_a m_a c_a] (mkL E4 R8 a v)]) := by
 refine n9 Tryz.func55 rfl (n := 27) rfl (by decide +kernel) bl (fr := [(0, .slice a_a m_a c_a), (1, .int .i64 v)]) rfl fun w L hR => ?_
 obtain ⟨as0, as1⟩ := hR
 refine i9 m0 fun ea la => ?_
 subst ea
 refine Ew Z1 (Ei rfl (Eu (Eq_ (Ew Z1 (Ei rfl (Eu (E.block (E.loop (κ := Nat) (fun g => g ≤ a.length) (fun g => [(0, .slice a_a a.length c_a), (1, .int .i64 (v + (r9 E4 (a.take g) : Nat))), (5, .int .i64 (g : Int))]) (fun g => [ow x5 [.slice a_a a.length c_a] (mkL E4 R8 (a.take g) v ++ a.drop g)]) (fun g => a.length - g) 0 (Nat.zero_le _) ⟨rfl, frI (by simp [r9]), rfl, trivial⟩ (.refl _) (fun g pg => ?_)))))))))
 have u1 := R3 (t := E4) (l := a) (g := g)
 have u2 := R3 (t := E4) (l := a) (g := g + 1)
 have hlen : (mkL E4 R8 (a.take g) v ++ a.drop g).length = a.length := by rw [List.length_append, a1H, ← List.length_append, List.take_append_drop]
 refine Eq_ (Ew Z4 (Em rfl (Em rfl (Ey rfl ((Y.len us_Accesss rfl).yd) (Ey rfl ((Y.lss rfl rfl).yd) (o6 (fun q9 => ?_) (fun q9 => ?_)))))))
 ·have u3 := P7 (t := E4) (show g < a.length by omega)
  have u4 : E4 a[g] = 1 + r9 E1 a[g].2 := rfl
  refine Eu (o2 rfl (j5 (Et (Eq_ (E.block (Ew Z6 (Em rfl (Em rfl (Em rfl (a0j m0 om fun ab15 ae15 => (a2e (x := a[g]) g (a7a (show g < a.length by omega)) fun ce15 => (i7 (b3I fun oa15_1 om15_1 oc15_1 oe15 oi15_0 on15_1 => ?_)))))))))))))
  subst oe15
  subst on15_1
  refine Ey rfl ((r7 us_Accesss ty_Access rfl ae15 rfl g rfl om).yd) (Ey rfl ((j7 fo_Access_0 i8 dc rfl).yd) (i7 (Est rfl (a5n (f := 0) (kk := 2) (vs := [_]) (ce' := [_, _]) i8 rfl rfl rfl rfl rfl ae15 rfl rfl bl rfl rfl) (fun _ _ => (Ev Z3 (Em rfl (Ey rfl ((Y.add rfl rfl om om).yd) (Ei rfl (Eu (Ez Z8 (Em rfl (Em rfl (Ey rfl ((r7 us_Accesss ty_Access rfl ae15 rfl g rfl om).yd) (Ey rfl ((j7 fo_Access_1 ty_Is dc rfl).yd) (Ey rfl (g9 ty_Is rfl ((Has.hole ae15 m0).sub (cs' := [_]) 1 rfl) rfl) (Em rfl (i7 (Est rfl (N.call (pre := [_]) X3 rfl rfl rfl dc rfl (fun w Lp hA => ⟨(by first | assumption | omega), (by first | assumption | omega)⟩)) (fun _ _ => (Ei rfl (En (t7 (Et (Ez Z3 (Em rfl (Ey rfl ((Y.add rfl rfl om om).yd) (Ei rfl (Eu (i7 (a1h (a1i (x := (v + (r9 E4 (a.take g) : Nat), mkL E1 V7 a[g].2 (v + (r9 E4 (a.take g) : Nat) + 1))) i6 Own.ow) rfl ?_))))))))))))))))))))))))))))))
  exact v8 br (g + 1) ⟨rfl, frI om, rfl, trivial⟩ (a4d (a5P (c := E4) (m := R8) (show g < a.length by omega) rfl)) om om
 ·refine Eu (o3 rfl (E.exit (o8 (o8 (x9 (Et (Ew Z2 (Em rfl (Ei rfl (Eu (E.ret (j6 (congrArg (ow x5 [_]) (show mkL E4 R8 (a.take g) v ++ a.drop g = mkL E4 R8 a v from by first | exact a2f om | (rw [U8 om]))) ?_))))))))))))
  exact Fg rfl rfl () (by rw [show (v + (r9 E4 a : Nat)) = (v + (r9 E4 (a.take g) : Nat)) from (by first | exact a2f om | (rw [U8 om]))]; try rfl) rfl
theorem a4g (hz : mkL E4 R8 a v = a) : Tr Tryz.prog 56 [.slice a_a m_a c_a, .int .i64 v] (fun w L => Ro w L x5 [.slice a_a m_a c_a] a ∧ 0 ≤ v ∧ v + ((r9 E4 a : Nat) : Int) ≤ 4611686018427387904) [] (κ := Unit) (fun k => True) (fun k => .int .i64 (v + (r9 E4 a : Nat))) (fun k => []) := by
 refine n9 Tryz.func56 rfl (n := 31) rfl (by decide +kernel) bl (fr := [(0, .slice a_a m_a c_a), (1, .int .i64 v)]) rfl fun w L hR => ?_
 obtain ⟨ha, as0, as1⟩ := hR
 obtain ⟨rfl, la⟩ := ha.slen
 refine Ew Z1 (Ei rfl (Eu (Eq_ (Ew Z1 (Ei rfl (Eu (E.block (E.loop (κ := Nat) (fun g => g ≤ a.length) (fun g => [(0, .slice a_a a.length c_a), (1, .int .i64 (v + (r9 E4 (a.take g) : Nat))), (5, .int .i64 (g : Int))]) (fun g => []) (fun g => a.length - g) 0 (Nat.zero_le _) ⟨rfl, frI (by simp [r9]), rfl, trivial⟩ (.refl _) (fun g pg => ?_)))))))))
 have u1 := R3 (t := E4) (l := a) (g := g)
 have u2 := R3 (t := E4) (l := a) (g := g + 1)
 refine Eq_ (Ew Z4 (Em rfl (Em rfl (Ey rfl ((Y.len us_Accesss rfl).yd) (Ey rfl ((Y.lss rfl rfl).yd) (o6 (fun q9 => ?_) (fun q9 => ?_)))))))
 ·have u3 := P7 (t := E4) (show g < a.length by omega)
  have u4 : E4 a[g] = 1 + r9 E1 a[g].2 := rfl
  refine Eu (o2 rfl (j5 (Et (Eq_ (E.block (Eq_ (Ew Z7 (Em rfl (Em rfl ?_)))))))))
  obtain ⟨eb14, eo14, ec14, ea14, er14, el14, eh14⟩ := ha.elem g om
  obtain ⟨xa14_0, xc14_0, rfl, ei14_0, xh14_0⟩ := Y0 er14
  have := xh14_0.slen.2
  refine Ey rfl ((r7 us_Accesss ty_Access rfl ea14 rfl g rfl om).yd) (Ey rfl ((j7 fo_Access_0 i8 dc rfl).yd) (Ey rfl (g9 i8 rfl ((eh14 _).sub (cs' := [_]) 0 rfl) rfl) (Em rfl (Ey rfl ((Y.neq rfl rfl).yd) (o6 (fun q18 => ?_) (fun q18 => ?_))))))
  ·exact absurd (congrArg (fun z => z.1) (a9H hz (show g < a.length by omega))).symm q18
  ·refine Eu (o3 rfl (j5 (Et (Ew Z3 (Em rfl (Ey rfl ((Y.add rfl rfl om om).yd) (Ei rfl (Ev Z8 (Em rfl (Em rfl (Ey rfl ((r7 us_Accesss ty_Access rfl ea14 rfl g rfl om).yd) (Ey rfl ((j7 fo_Access_1 ty_Is dc rfl).yd) (Ey rfl (g9 ty_Is rfl ((eh14 _).sub (cs' := [_]) 1 rfl) rfl) (Em rfl (Est rfl (n0 (a5i (congrArg (fun z => z.2) (a9H hz (show g < a.length by omega)))) rfl rfl rfl dc (fun w Lp hA => ⟨hA.ro xh14_0, (by first | assumption | omega), (by first | assumption | omega)⟩)) (fun _ _ => (Ei rfl (Ev Z2 (Em rfl (Ey rfl ((Y.lss rfl rfl).yd) (o6 (fun q29 => ?_) (fun q29 => ?_))))))))))))))))))))))
   ·exact absurd q29 om
   ·refine Eu (o3 rfl (j5 (t7 (Et (Ez Z3 (Em rfl (Ey rfl ((Y.add rfl rfl om om).yd) (Ei rfl ?_))))))))
    exact Eu (v8 br (g + 1) ⟨rfl, frI om, rfl, trivial⟩ (.refl _) om om)
 ·refine Eu (o3 rfl (E.exit (o8 (o8 (x9 (Et (Ew Z2 (Em rfl (Ei rfl ?_)))))))))
  exact Eu (E.ret (Fg rfl rfl () (congrArg (Value.int .i64) (by rw [U8 om])) rfl))
end Go.Proofs.YtdopeopehgdccaaGreat
