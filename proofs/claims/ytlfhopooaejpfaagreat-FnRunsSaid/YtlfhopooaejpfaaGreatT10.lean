import Derived.Test.YtlfhopooaejpfaaGreatT8
import Derived.Test.YtlfhopooaejpfaaGreatT6
namespace Go.Proofs.YtlfhopooaejpfaaGreat
open Go.RowKit
set_option linter.all false
set_option maxHeartbeats 2000000
attribute [local irreducible] Nop Yd Yp Ent Has Tr FnP FnP2 Src M0 S8 V1 W0 G4
variable {arity D8 C1 D7 C2 j3 : Int} {l : List (Int × List Int × Int × Int × Int)} {s8 s j9 : List Int} {m_l c_l E3 D2 m_s c_s y5 w3 : Nat} {a_l D3 a_s w4 : Option Addr}
theorem a5P {l : List Int} : Tr Tryz.prog 253 [.slice a_l m_l c_l] (fun w L => Ro w L eIs [.slice a_l m_l c_l] l) [] (κ := Unit) (fun k => True) (fun k => .bool (G4 ltB l)) (fun k => []) := by
 refine Tr.intro Tryz.func253 rfl (n := 24) rfl (by decide +kernel) bl (fr := [(0, .slice a_l m_l c_l)]) rfl fun w L hR => ?_
 have hl := hR
 obtain ⟨rfl, ll⟩ := hl.slen
 refine Ew Z1 (Ei rfl (Eu (Eq_ (Ew Z3 (Em rfl (Ey rfl ((Y.len us_Is rfl).yd) (Em rfl (Eu (E.block (E.loop (κ := Nat) (fun g => g ≤ l.length ∧ G4 ltB l = G4 ltB (l.drop (g - 1))) (fun g => [(0, .slice a_l l.length c_l), (5, .int .i64 (↑l.length : Int)), (6, .int .i64 (g : Int))]) (fun g => []) (fun g => l.length - g) 0 ⟨Nat.zero_le _, by simp⟩ ⟨rfl, rfl, rfl, trivial⟩ (.refl _) (fun g pg => ?_)))))))))))
 obtain ⟨pk, pa⟩ := pg
 refine Ew Z1 (Ey rfl ((Y.lss rfl rfl).yd) (n0 (fun q7 => ?_) (fun q7 => ?_)))
 ·refine Eu (Eq_ (l4 rfl (i8 (Et (Eq_ (E.block (Ew Z2 (Em rfl (Ei rfl (Eu (Eq_ (D.region (fun j => true) mixed (Dyp 0 rfl (j4 rfl) (Dyp 1 rfl (Y.gtr rfl rfl) (n0 (fun q10 => ?_) (fun q10 => ?_))))))))))))))))
  ·refine Dyp 2 rfl (j4 rfl) (Dyp 3 rfl (j4 rfl) (Dyp 4 rfl (j4 rfl) ?_))
   obtain ⟨eb14, eo14, ea14, ei14, eh14⟩ := hl.elemI g om
   refine Dyp 5 rfl (o6 us_Is f0 rfl ea14 rfl g rfl om) (Dy 6 rfl (f8 f0 rfl (eh14 _) rfl) (Dyp 7 rfl (j4 rfl) (Dyp 8 rfl (j4 rfl) (Dyp 9 rfl (Y.sub rfl rfl om om) ?_))))
   obtain ⟨eb19, eo19, ea19, ei19, eh19⟩ := hl.elemI (g - 1) om
   refine Dyp 10 rfl (o6 us_Is f0 rfl ea19 rfl (g - 1) om om) (Dy 11 rfl (f8 f0 rfl (eh19 _) rfl) (Dyp 12 rfl (Y.leq rfl rfl) (n0 (fun q21 => ?_) (fun q21 => ?_))))
   ·refine Dyp 13 rfl (s6 rfl rfl) (o3 kr (Et (l4 rfl (Ew Z1 (Ei rfl ?_)))))
    exact Eu (E.ret (t7 (l0 (l0 (t7 (l0 (Fb rfl rfl (by grind [G3, G2, H4, ltB, d1, d2, t1, t2]))))))))
   ·refine Dyp 13 rfl (s6 rfl rfl) (o3 kr (Et (l6 rfl (i8 (o4 (Et (Ez Z2 (Ey rfl ((Y.add rfl rfl om om).yd) (Em rfl ?_)))))))))
    exact Eu (u9 br (g + 1) rs (.refl _) ⟨by omega, by grind [G3, G2, H4, ltB, d1, d2, t1, t2]⟩ om)
  ·refine Dyp 2 rfl (j4 rfl) (Dsk 3 rfl (Dsk 4 rfl (Dsk 5 rfl (Dsk 6 rfl (Dsk 7 rfl (Dsk 8 rfl (Dsk 9 rfl (Dsk 10 rfl (Dsk 11 rfl (Dsk 12 rfl (Dyp 13 rfl (r9 rfl rfl) (o3 kr (Et (l6 rfl (i8 (o4 (Et (Ez Z2 (Ey rfl ((Y.add rfl rfl om om).yd) (Em rfl ?_))))))))))))))))))))
   exact Eu (u9 br (g + 1) rs (.refl _) ⟨by omega, by grind [G3, G2, H4, ltB, d1, d2, t1, t2]⟩ om)
 ·refine Eu (Eq_ (l6 rfl (E.exit (n8 (n8 (w5 (Et (Ew Z1 (Ei rfl ?_)))))))))
  exact Eu (E.ret (Fb rfl rfl (by grind [G3, G2, H4, ltB, d1, d2, t1, t2])))
theorem a4c {i : Int} {b_arity : Nat} : Tr Tryz.prog 254 [.int .i64 i, .pointer (some ⟨b_arity, 0, none⟩)] (fun w L => (I64 i) ∧ RoPt w L b_arity [.int .i64 arity] ∧ -1000 ≤ arity ∧ arity ≤ 1000) [] (κ := Unit) (fun k => True) (fun k => .bool (!inR i 0 (arity - 1))) (fun k => []) := by
 refine Tr.intro Tryz.func254 rfl (n := 9) rfl (by decide +kernel) bl (fr := [(0, .int .i64 i), (1, .pointer (some ⟨b_arity, 0, none⟩))]) rfl fun w L hR => ?_
 obtain ⟨i6i, hb_arity, as0, as1⟩ := hR
 refine Ew Z1 (Ei rfl (Ev Z6 (Em rfl (Ey rfl (f8 f0 rfl (hb_arity.has) rfl) (Ey rfl ((Y.sub rfl rfl om om).yd) (Est rfl (k6 I1 rfl rfl rfl dc tv) (fun _ _ => (Ey rfl ((Y.not rfl).yd) (Ei rfl ?_)))))))))
 exact Eu (E.ret (Fb rfl rfl (by grind [d1, d2, t1, t2])))
theorem a4o {n : Int} : Tr Tryz.prog 136 [.int .i64 n] (fun w L => True) [] (κ := Unit) (fun k => True) (fun k => .bool (inR n 0 99)) (fun k => []) := by
 refine Tr.intro Tryz.func136 rfl (n := 5) rfl (by decide +kernel) bl (fr := [(0, .int .i64 n)]) rfl fun w L hR => (Ew Z1 (Ei rfl (Ev Z3 (Em rfl (Est rfl (k6 I1 rfl rfl rfl dc tv) (fun _ _ => (Ei rfl ?_)))))))
 exact Eu (E.ret (Fg rfl rfl () rfl rfl))
theorem a4K : Tr Tryz.prog 237 [.agg #[.int .i64 D8, .slice D3 E3 D2, .int .i64 C1, .int .i64 D7, .int .i64 C2], .int .i64 arity] (fun w L => I64 D8 ∧ Ro w L eIs [.slice D3 E3 D2] s8 ∧ I64 C1 ∧ I64 D7 ∧ I64 C2 ∧ -1000 ≤ arity ∧ arity ≤ 1000) [] (κ := Unit) (fun k => True) (fun k => .bool (W5 (D8, s8, C1, D7, C2) arity)) (fun k => []) := by
 refine Tr.intro Tryz.func237 rfl (n := 30) rfl (by decide +kernel) bl (fr := [(0, .agg #[.int .i64 D8, .slice D3 E3 D2, .int .i64 C1, .int .i64 D7, .int .i64 C2]), (1, .int .i64 arity)]) rfl fun w L hR => ?_
 obtain ⟨X3, F6, R9, V0, S0, as0, as1⟩ := hR
 obtain ⟨rfl, X8⟩ := F6.slen
 refine Ew Z3 (Est rfl (N.box (cs := [_, _, _, _, _]) rfl dc rfl) (fun b2 _ => (Est rfl (N.box (cs := [_]) rfl dc rfl) (fun b3 _ => (Ei rfl (Ev Z26 (Ey rfl ((i7 fo_Method_1 ty_Is dc rfl).yd) (Ey rfl (f8 ty_Is rfl (Hz (mS m0) 1 rfl) rfl) (Est rfl (k6 a5P rfl rfl rfl dc (fun w Lp hA => hA.ro F6)) (fun _ _ => (Ent.b (fun q7 => ?_) (fun q7 => ?_))))))))))))
 ·refine Em rfl (Ey rfl ((i7 fo_Method_1 ty_Is dc rfl).yd) (Ey rfl (f8 ty_Is rfl (Hz (mS m0) 1 rfl) rfl) (Ey rfl ((Y.fn (vs := [_]) rfl).yd) (Est rfl (k6 (S6 (f := (fun i => !inR i 0 (arity - 1))) (D_f := (fun _ => True)) (by intros; exact trivial)) rfl rfl rfl dc (fun w Lp hA => ⟨hA.ro F6, a1N (D := (fun _ => True)) (fun hd => a4c) (fun w' hk => ⟨(hA.pt m0).keep hk, (by first | assumption | omega), (by first | assumption | omega)⟩)⟩)) (fun _ _ => (Ent.b (fun q12 => ?_) (fun q12 => ?_)))))))
  ·refine Ey rfl ((Y.not (b := true) rfl).yd) (Ey rfl ((s6 rfl rfl).yd) (Em rfl (Es rfl (Es rfl (Es rfl (Ey rfl ((r9 rfl rfl).yd) (Em rfl (Es rfl (Es rfl (Es rfl (Ey rfl ((r9 rfl rfl).yd) (Em rfl (Es rfl (Es rfl ?_))))))))))))))
   refine Es rfl (Ey rfl ((r9 rfl rfl).yd) (Ei rfl ?_))
   exact Eu (E.ret (Fb rfl rfl (by grind [W5, T9, d1, d2, t1, t2])))
  ·refine Ey rfl ((Y.not (b := false) rfl).yd) (Ey rfl ((s6 rfl rfl).yd) (Em rfl (Ey rfl ((i7 fo_Method_2 f0 dc rfl).yd) (Ey rfl (f8 f0 rfl (Hz (mS m0) 2 rfl) rfl) (Est rfl (k6 I1 rfl rfl rfl dc tv) (fun _ _ => (Ent.b (fun q18 => ?_) (fun q18 => ?_))))))))
   ·refine Ey rfl ((s6 rfl rfl).yd) (Em rfl (Ey rfl ((i7 fo_Method_3 f0 dc rfl).yd) (Ey rfl (f8 f0 rfl (Hz (mS m0) 3 rfl) rfl) (Est rfl (k6 a4o rfl rfl rfl dc tv) (fun _ _ => (Ent.b (fun q23 => ?_) (fun q23 => ?_)))))))
    ·refine Ey rfl ((s6 rfl rfl).yd) (Em rfl (Ey rfl ((i7 fo_Method_4 f0 dc rfl).yd) (Ey rfl (f8 f0 rfl (Hz (mS m0) 4 rfl) rfl) (Est rfl (k6 I1 rfl rfl rfl dc tv) (fun _ _ => (Ey rfl ((s6 rfl rfl).yd) (Ei rfl ?_)))))))
     exact Eu (E.ret (Fb rfl rfl (by grind [W5, T9, d1, d2, t1, t2])))
    ·refine Ey rfl ((s6 rfl rfl).yd) (Em rfl (Es rfl (Es rfl (Es rfl (Ey rfl ((r9 rfl rfl).yd) (Ei rfl ?_))))))
     exact Eu (E.ret (Fb rfl rfl (by grind [W5, T9, d1, d2, t1, t2])))
   ·refine Ey rfl ((s6 rfl rfl).yd) (Em rfl (Es rfl (Es rfl (Es rfl (Ey rfl ((r9 rfl rfl).yd) (Em rfl (Es rfl (Es rfl (Es rfl (Ey rfl ((r9 rfl rfl).yd) (Ei rfl ?_)))))))))))
    exact Eu (E.ret (Fb rfl rfl (by grind [W5, T9, d1, d2, t1, t2])))
 ·refine Em rfl (Es rfl (Es rfl (Es rfl (Es rfl (Es rfl (Ey rfl ((r9 rfl rfl).yd) (Em rfl (Es rfl (Es rfl (Es rfl (Ey rfl ((r9 rfl rfl).yd) (Em rfl (Es rfl (Es rfl ?_))))))))))))))
  refine Es rfl (Ey rfl ((r9 rfl rfl).yd) (Em rfl (Es rfl (Es rfl (Es rfl (Ey rfl ((r9 rfl rfl).yd) (Ei rfl ?_)))))))
  exact Eu (E.ret (Fb rfl rfl (by grind [W5, T9, d1, d2, t1, t2])))
theorem a7b : Tr Tryz.prog 201 [.slice a_s m_s c_s, .agg #[.int .i64 D8, .slice D3 E3 D2, .int .i64 C1, .int .i64 D7, .int .i64 C2]] (fun w L => Ro w L eIs [.slice a_s m_s c_s] s ∧ I64 D8 ∧ Ro w L eIs [.slice D3 E3 D2] s8 ∧ I64 C1 ∧ I64 D7 ∧ I64 C2) [] (κ := Unit) (fun k => True) (fun k => .bool (M9 s (D8, s8, C1, D7, C2))) (fun k => []) := by
 refine Tr.intro Tryz.func201 rfl (n := 18) rfl (by decide +kernel) bl (fr := [(0, .slice a_s m_s c_s), (1, .agg #[.int .i64 D8, .slice D3 E3 D2, .int .i64 C1, .int .i64 D7, .int .i64 C2])]) rfl fun w L hR => ?_
 obtain ⟨hs, X3, F6, R9, V0, S0⟩ := hR
 obtain ⟨rfl, ls⟩ := hs.slen
 obtain ⟨rfl, X8⟩ := F6.slen
 refine Ew Z2 (Est rfl (N.box (cs := [_, _, _, _, _]) rfl dc rfl) (fun b3 _ => (Ei rfl (Eu (Eq_ (D.region (fun j => true) mixed (Dyp 0 rfl (j4 rfl) (Dyp 1 rfl (i7 fo_Method_0 f0 dc rfl) (Dy 2 rfl (f8 f0 rfl (Hz m0 0 rfl) rfl) (u7 3 rfl rfl kr (fun _ => rfl) (k6 a2f rfl rfl rfl dc (fun w Lp hA => hA.ro hs)) (fun _ _ => (Ent.b (fun q8 => ?_) (fun q8 => ?_)))))))))))))
 ·obtain ⟨z1, z2, z3, z4⟩ := Y4 q8
  rw [J0 om] at z3 z4
  refine Dyp 4 rfl (j4 rfl) (Dy 5 rfl (o0 (cs := [_, _, _, _, _]) ty_Method rfl (Has.pt m0) rfl) (Dyp 6 rfl (j4 rfl) (Dyp 7 rfl (i7 fo_Method_0 f0 dc rfl) (Dy 8 rfl (f8 f0 rfl (Hz m0 0 rfl) rfl) ?_))))
  obtain ⟨eb14, eo14, ea14, ei14, eh14⟩ := hs.elemI D8.toNat om
  refine Dyp 9 rfl (o6 us_Is f0 rfl ea14 rfl D8.toNat om om) (Dy 10 rfl (f8 f0 rfl (eh14 _) rfl) (u7 11 rfl rfl kr (fun _ => rfl) (k6 a4K rfl rfl rfl dc (fun w Lp hA => ⟨X3, hA.ro F6, R9, V0, S0, (by first | assumption | omega), (by first | assumption | omega)⟩)) (fun _ _ => (Dyp 12 rfl (s6 rfl rfl) (Dyp 13 rfl (G1 rfl) ?_)))))
  exact o3 kr (Et (E.ret (Fb rfl rfl (by grind [M9, E6, d1, d2, t1, t2]))))
 ·refine Dyp 4 rfl (j4 rfl) (Dsk 5 rfl (Dsk 6 rfl (Dsk 7 rfl (Dsk 8 rfl (Dsk 9 rfl (Dsk 10 rfl (Dsk 11 rfl (Dyp 12 rfl (r9 rfl rfl) (Dyp 13 rfl (G1 rfl) ?_)))))))))
  exact o3 kr (Et (E.ret (Fb rfl rfl (by grind [M9, E6, d1, d2, t1, t2]))))
theorem a6J : Tr Tryz.prog 86 [.slice a_s m_s c_s, .agg #[.int .i64 D8, .slice D3 E3 D2, .int .i64 C1, .int .i64 D7, .int .i64 C2]] (fun w L => Ro w L eIs [.slice a_s m_s c_s] s ∧ I64 D8 ∧ Ro w L eIs [.slice D3 E3 D2] s8 ∧ I64 C1 ∧ I64 D7 ∧ I64 C2) [] (κ := Unit) (fun k => True) (fun k => .bool (M9 s (D8, s8, C1, D7, C2))) (fun k => []) := by
 refine Tr.intro Tryz.func86 rfl (n := 74) rfl (by decide +kernel) bl (fr := [(0, .slice a_s m_s c_s), (1, .agg #[.int .i64 D8, .slice D3 E3 D2, .int .i64 C1, .int .i64 D7, .int .i64 C2])]) rfl fun w L hR => ?_
 obtain ⟨hs, X3, F6, R9, V0, S0⟩ := hR
 obtain ⟨rfl, ls⟩ := hs.slen
 obtain ⟨rfl, X8⟩ := F6.slen
 refine Ew Z2 (Est rfl (N.box (cs := [_, _, _, _, _]) rfl dc rfl) (fun b3 _ => (Ei rfl (Eu (Eq_ (Ew Z30 (Em rfl (Est rfl (k6 L6 rfl rfl rfl dc (fun w Lp hA => hA.ro hs)) (fun _ _ => (Ent.b (fun q7 => ?_) (fun q7 => ?_)))))))))))
 ·refine Ey rfl ((Y.not (b := true) rfl).yd) (Em rfl (Ey rfl ((i7 fo_Method_0 f0 dc rfl).yd) (Ey rfl (f8 f0 rfl (Hz m0 0 rfl) rfl) (Em rfl (Ey rfl ((Y.len us_Is rfl).yd) (Ey rfl ((Y.sub rfl rfl om om).yd) (Est rfl (k6 F9 rfl rfl rfl dc tv) (fun _ _ => (Ent.b (fun q15 => ?_) (fun q15 => ?_))))))))))
  ·have y1 : J5 s D8 = true := by rw [J5, q7, q15]; rfl
   obtain ⟨z1, z2, z3, z4⟩ := Y4 y1
   rw [J0 om] at z3 z4
   refine Ey rfl ((Y.not (b := true) rfl).yd) (Ey rfl ((r9 rfl rfl).yd) (Em rfl (Ey rfl ((i7 fo_Method_2 f0 dc rfl).yd) (Ey rfl (f8 f0 rfl (Hz m0 2 rfl) rfl) (Est rfl (k6 F9 rfl rfl rfl dc tv) (fun _ _ => (Ent.b (fun q21 => ?_) (fun q21 => ?_))))))))
   ·refine Ey rfl ((Y.not (b := true) rfl).yd) (Ey rfl ((r9 rfl rfl).yd) (Em rfl (Ey rfl ((i7 fo_Method_3 f0 dc rfl).yd) (Ey rfl (f8 f0 rfl (Hz m0 3 rfl) rfl) (Est rfl (k6 F9 rfl rfl rfl dc tv) (fun _ _ => (Ent.b (fun q27 => ?_) (fun q27 => ?_))))))))
    ·refine Ey rfl ((Y.not (b := true) rfl).yd) (Ey rfl ((r9 rfl rfl).yd) (Em rfl (Ey rfl ((i7 fo_Method_4 f0 dc rfl).yd) (Ey rfl (f8 f0 rfl (Hz m0 4 rfl) rfl) (Est rfl (k6 F9 rfl rfl rfl dc tv) (fun _ _ => (Ent.b (fun q33 => ?_) (fun q33 => ?_))))))))
     ·refine Ey rfl ((Y.not (b := true) rfl).yd) (Ey rfl ((r9 rfl rfl).yd) (Eu (l6 rfl (i8 (Et (Eq_ (Ew Z1 (Ei rfl (Eu (E.block (E.loop (κ := Nat) (fun g => g ≤ s8.length ∧ (T9 s8 (at0 s D8) && G4 ltB s8) = (T9 (s8.drop g) (at0 s D8) && G4 ltB (s8.drop (g - 1)))) (fun g => [(0, .slice a_s s.length c_s), (3, .pointer (some ⟨b3, 0, none⟩)), (5, .int .i64 (g : Int))]) (fun g => [pt b3 86 [.int .i64 D8, .slice D3 s8.length D2, .int .i64 C1, .int .i64 D7, .int .i64 C2]]) (fun g => s8.length - g) 0 ⟨Nat.zero_le _, by simp⟩ ⟨rfl, rfl, rfl, trivial⟩ (.refl _) (fun g pg => ?_))))))))))))
      obtain ⟨pk, pa⟩ := pg
      refine Eq_ (Ew Z5 (Em rfl (Ey rfl ((i7 fo_Method_1 ty_Is dc rfl).yd) (Ey rfl (f8 ty_Is rfl (Hz m0 1 rfl) rfl) (Ey rfl ((Y.len us_Is rfl).yd) (Ey rfl ((Y.lss rfl rfl).yd) (n0 (fun q40 => ?_) (fun q40 => ?_))))))))
      ·refine Eu (l4 rfl (i8 (Et (Eq_ (E.block (Eq_ (D.region (fun j => true) mixed (Dyp 0 rfl (i7 fo_Method_1 ty_Is dc rfl) (Dy 1 rfl (f8 ty_Is rfl (Hz m0 1 rfl) rfl) (Dyp 2 rfl (j4 rfl) ?_))))))))))
       obtain ⟨eb46, eo46, ea46, ei46, eh46⟩ := F6.elemI g om
       refine Dyp 3 rfl (o6 us_Is f0 rfl ea46 rfl g rfl om) (Dy 4 rfl (f8 f0 rfl (eh46 _) rfl) (Dyp 5 rfl (j4 rfl) (Dyp 6 rfl (i7 fo_Method_0 f0 dc rfl) (Dy 7 rfl (f8 f0 rfl (Hz m0 0 rfl) rfl) ?_))))
       obtain ⟨eb51, eo51, ea51, ei51, eh51⟩ := hs.elemI D8.toNat om
       refine Dyp 8 rfl (o6 us_Is f0 rfl ea51 rfl D8.toNat om om) (Dy 9 rfl (f8 f0 rfl (eh51 _) rfl) (Dyp 10 rfl (Y.sub rfl rfl om om) (u7 11 rfl rfl kr (fun _ => rfl) (k6 F9 rfl rfl rfl dc tv) (fun _ _ => (Ent.b (fun q54 => ?_) (fun q54 => ?_))))))
       ·refine Dyp 12 rfl (Y.not (b := true) rfl) (Dyp 13 rfl (j4 rfl) (Dyp 14 rfl (j4 rfl) (Dyp 15 rfl (Y.gtr rfl rfl) (n0 (fun q58 => ?_) (fun q58 => ?_)))))
        ·refine Dyp 16 rfl (j4 rfl) (Dyp 17 rfl (i7 fo_Method_1 ty_Is dc rfl) (Dy 18 rfl (f8 ty_Is rfl (Hz m0 1 rfl) rfl) (Dyp 19 rfl (j4 rfl) (Dyp 20 rfl (o6 us_Is f0 rfl ea46 rfl g rfl om) (Dy 21 rfl (f8 f0 rfl (eh46 _) rfl) (Dyp 22 rfl (i7 fo_Method_1 ty_Is dc rfl) (Dy 23 rfl (f8 ty_Is rfl (Hz m0 1 rfl) rfl) (Dyp 24 rfl (j4 rfl) (Dyp 25 rfl (Y.sub rfl rfl om om) ?_)))))))))
         obtain ⟨eb69, eo69, ea69, ei69, eh69⟩ := F6.elemI (g - 1) om
         refine Dyp 26 rfl (o6 us_Is f0 rfl ea69 rfl (g - 1) om om) (Dy 27 rfl (f8 f0 rfl (eh69 _) rfl) (Dyp 28 rfl (Y.leq rfl rfl) (n0 (fun q71 => ?_) (fun q71 => ?_))))
         ·refine Dyp 29 rfl (s6 rfl rfl) (Dyp 30 rfl (r9 rfl rfl) (o3 kr (Et (l4 rfl (Ew Z1 (Ei rfl ?_))))))
          exact Eu (E.ret (t7 (l0 (l0 (t7 (l0 (Fb rfl rfl (by grind [M9, W5, J5, E6, T9, G3, G2, H4, ltB, d1, d2, t1, t2]))))))))
         ·refine Dyp 29 rfl (s6 rfl rfl) (Dyp 30 rfl (r9 rfl rfl) (o3 kr (Et (l6 rfl (i8 (o4 (Et (Ez Z3 (Em rfl (Ey rfl ((Y.add rfl rfl om om).yd) (Ei rfl ?_)))))))))))
          exact Eu (u9 br (g + 1) rs (.refl _) ⟨by omega, by grind [T9, G3, G2, H4, ltB, E6, d1, d2, t1, t2]⟩ om)
        ·refine Dyp 16 rfl (j4 rfl) (Dsk 17 rfl (Dsk 18 rfl (Dsk 19 rfl (Dsk 20 rfl (Dsk 21 rfl (Dsk 22 rfl (Dsk 23 rfl (Dsk 24 rfl (Dsk 25 rfl (Dsk 26 rfl (Dsk 27 rfl (Dsk 28 rfl (Dyp 29 rfl (r9 rfl rfl) (Dyp 30 rfl (r9 rfl rfl) ?_))))))))))))))
         refine o3 kr (Et (l6 rfl (i8 (o4 (Et (Ez Z3 (Em rfl (Ey rfl ((Y.add rfl rfl om om).yd) (Ei rfl ?_)))))))))
         exact Eu (u9 br (g + 1) rs (.refl _) ⟨by omega, by grind [T9, G3, G2, H4, ltB, E6, d1, d2, t1, t2]⟩ om)
       ·refine Dyp 12 rfl (Y.not (b := false) rfl) (Dyp 13 rfl (j4 rfl) (Dsk 14 rfl (Dsk 15 rfl (a9g 16 rfl rfl dc kr (Dsk 17 rfl (Dsk 18 rfl (Dsk 19 rfl (Dsk 20 rfl (Dsk 21 rfl (Dsk 22 rfl (Dsk 23 rfl (Dsk 24 rfl (Dsk 25 rfl (Dsk 26 rfl ?_))))))))))))))
        refine Dsk 27 rfl (Dsk 28 rfl (Dsk 29 rfl (Dyp 30 rfl (s6 rfl rfl) (o3 kr (Et (l4 rfl (Ew Z1 (Ei rfl ?_))))))))
        exact Eu (E.ret (t7 (l0 (l0 (t7 (l0 (Fb rfl rfl (by grind [M9, W5, J5, E6, T9, G3, G2, H4, ltB, d1, d2, t1, t2]))))))))
      ·refine Eu (l6 rfl (E.exit (n8 (n8 (w5 (Et (Ew Z1 (Ei rfl ?_))))))))
       exact Eu (E.ret (Fb rfl rfl (by grind [M9, W5, J5, E6, T9, G3, G2, H4, ltB, d1, d2, t1, t2])))
     ·refine Ey rfl ((Y.not (b := false) rfl).yd) (Ey rfl ((r9 rfl rfl).yd) (Eu (l4 rfl (Ew Z1 (Ei rfl ?_)))))
      exact Eu (E.ret (l0 (Fb rfl rfl (by grind [M9, W5, J5, E6, T9, G3, G2, H4, ltB, d1, d2, t1, t2]))))
    ·refine Ey rfl ((Y.not (b := false) rfl).yd) (Ey rfl ((r9 rfl rfl).yd) (Em rfl (Es rfl (Es rfl (Es rfl (Es rfl (Ey rfl ((s6 rfl rfl).yd) (Eu (l4 rfl (Ew Z1 (Ei rfl ?_)))))))))))
     exact Eu (E.ret (l0 (Fb rfl rfl (by grind [M9, W5, J5, E6, T9, G3, G2, H4, ltB, d1, d2, t1, t2]))))
   ·refine Ey rfl ((Y.not (b := false) rfl).yd) (Ey rfl ((r9 rfl rfl).yd) (Em rfl (Es rfl (Es rfl (Es rfl (Es rfl (Ey rfl ((s6 rfl rfl).yd) (Em rfl (Es rfl (Es rfl (Es rfl (Es rfl (Ey rfl ((s6 rfl rfl).yd) (Eu (l4 rfl (Ew Z1 (Ei rfl ?_)))))))))))))))))
    exact Eu (E.ret (l0 (Fb rfl rfl (by grind [M9, W5, J5, E6, T9, G3, G2, H4, ltB, d1, d2, t1, t2]))))
  ·refine Ey rfl ((Y.not (b := false) rfl).yd) (Ey rfl ((r9 rfl rfl).yd) (Em rfl (Es rfl (Es rfl (Es rfl (Es rfl (Ey rfl ((s6 rfl rfl).yd) (Em rfl (Es rfl (Es rfl (Es rfl (Es rfl (Ey rfl ((s6 rfl rfl).yd) (Em rfl ?_))))))))))))))
   refine Es rfl (Es rfl (Es rfl (Es rfl (Ey rfl ((s6 rfl rfl).yd) (Eu (l4 rfl (Ew Z1 (Ei rfl ?_))))))))
   exact Eu (E.ret (l0 (Fb rfl rfl (by grind [M9, W5, J5, E6, T9, G3, G2, H4, ltB, d1, d2, t1, t2]))))
 ·refine Ey rfl ((Y.not (b := false) rfl).yd) (Em rfl (Es rfl (Es rfl (Es rfl (Es rfl (Es rfl (Es rfl (Es rfl (Ey rfl ((s6 rfl rfl).yd) (Em rfl (Es rfl (Es rfl (Es rfl (Es rfl ?_))))))))))))))
  refine Ey rfl ((s6 rfl rfl).yd) (Em rfl (Es rfl (Es rfl (Es rfl (Es rfl (Ey rfl ((s6 rfl rfl).yd) (Em rfl (Es rfl (Es rfl (Es rfl (Es rfl (Ey rfl ((s6 rfl rfl).yd) (Eu (l4 rfl (Ew Z1 (Ei rfl ?_))))))))))))))))
  exact Eu (E.ret (l0 (Fb rfl rfl (by grind [M9, W5, J5, E6, T9, G3, G2, H4, ltB, d1, d2, t1, t2]))))
theorem a4E {b_s : Nat} : Tr Tryz.prog 200 [.agg #[.int .i64 D8, .slice D3 E3 D2, .int .i64 C1, .int .i64 D7, .int .i64 C2], .pointer (some ⟨b_s, 0, none⟩)] (fun w L => (I64 D8 ∧ Ro w L eIs [.slice D3 E3 D2] s8 ∧ I64 C1 ∧ I64 D7 ∧ I64 C2) ∧ RoPt w L b_s [.slice a_s m_s c_s] ∧ Ro w L eIs [.slice a_s m_s c_s] s) [] (κ := Unit) (fun k => True) (fun k => .bool (!M9 s (D8, s8, C1, D7, C2))) (fun k => []) := by
 refine Tr.intro Tryz.func200 rfl (n := 8) rfl (by decide +kernel) bl (fr := [(0, .agg #[.int .i64 D8, .slice D3 E3 D2, .int .i64 C1, .int .i64 D7, .int .i64 C2]), (1, .pointer (some ⟨b_s, 0, none⟩))]) rfl fun w L hR => ?_
 obtain ⟨⟨X3, F6, R9, V0, S0⟩, hb_s, hs⟩ := hR
 obtain ⟨rfl, X8⟩ := F6.slen
 obtain ⟨rfl, ls⟩ := hs.slen
 refine Ew Z2 (Est rfl (N.box (cs := [_, _, _, _, _]) rfl dc rfl) (fun b2 _ => (Ei rfl (Ev Z5 (Ey rfl (f8 ty_Is rfl (hb_s.has) rfl) (Ey rfl (o0 (cs := [_, _, _, _, _]) ty_Method rfl (Has.pt m0) rfl) (Est rfl (k6 a7b rfl rfl rfl dc (fun w Lp hA => ⟨hA.ro hs, X3, hA.ro F6, R9, V0, S0⟩)) (fun _ _ => (Ey rfl ((Y.not rfl).yd) (Ei rfl ?_))))))))))
 exact Eu (E.ret (Fb rfl rfl (by grind [d1, d2, t1, t2])))
theorem a5A : Tr Tryz.prog 143 [.slice a_s m_s c_s, .slice a_l m_l c_l] (fun w L => Ro w L eIs [.slice a_s m_s c_s] s ∧ Ro w L C8 [.slice a_l m_l c_l] l) [] (κ := Unit) (fun k => True) (fun k => .bool (G5 s l)) (fun k => []) := by
 refine Tr.intro Tryz.func143 rfl (n := 18) rfl (by decide +kernel) bl (fr := [(0, .slice a_s m_s c_s), (1, .slice a_l m_l c_l)]) rfl fun w L hR => ?_
 obtain ⟨hs, hl⟩ := hR
 obtain ⟨rfl, ls⟩ := hs.slen
 obtain ⟨rfl, ll⟩ := hl.slen
 refine Ew Z2 (Est rfl (N.box (cs := [_]) rfl dc rfl) (fun b2 _ => (Ei rfl (Ev Z14 (Ey rfl (f8 ty_Is rfl (Has.pt m0) rfl) (Est rfl (k6 a0y rfl rfl rfl dc (fun w Lp hA => hA.ro hs)) (fun _ _ => (Ent.b (fun q6 => ?_) (fun q6 => ?_)))))))))
 ·refine Em rfl (Em rfl (Ey rfl ((Y.len us_Methods rfl).yd) (Ey rfl ((Y.leq rfl rfl).yd) (n0 (fun q10 => ?_) (fun q10 => ?_)))))
  ·refine Ey rfl ((s6 rfl rfl).yd) (Em rfl (Em rfl (Ey rfl ((Y.fn (vs := [_]) rfl).yd) (Est rfl (k6 (a3x (f := (fun z => !M9 s z)) (D_f := (fun _ => True)) (by intros; exact trivial)) rfl rfl rfl dc (fun w Lp hA => ⟨hA.ro hl, b0F (D := (fun _ => True)) (fun hd => a4E) (fun w' hk => ⟨(hA.pt m0).keep hk, (hA.ro hs).keep hk⟩)⟩)) (fun _ _ => (Ey rfl ((Y.not rfl).yd) (Ey rfl ((s6 rfl rfl).yd) (Ei rfl ?_))))))))
   exact Eu (E.ret (Fb rfl rfl (by grind [G5, d1, d2, t1, t2])))
  ·refine Ey rfl ((s6 rfl rfl).yd) (Em rfl (Es rfl (Es rfl (Es rfl (Es rfl (Ey rfl ((r9 rfl rfl).yd) (Ei rfl ?_)))))))
   exact Eu (E.ret (Fb rfl rfl (by grind [G5, d1, d2, t1, t2])))
 ·refine Em rfl (Es rfl (Es rfl (Es rfl (Ey rfl ((r9 rfl rfl).yd) (Em rfl (Es rfl (Es rfl (Es rfl (Es rfl (Ey rfl ((r9 rfl rfl).yd) (Ei rfl ?_)))))))))))
  exact Eu (E.ret (Fb rfl rfl (by grind [G5, d1, d2, t1, t2])))
theorem a2h : Tr Tryz.prog 29 [.slice a_s m_s c_s, .slice a_l m_l c_l] (fun w L => Ro w L eIs [.slice a_s m_s c_s] s ∧ Ro w L C8 [.slice a_l m_l c_l] l) [] (κ := Unit) (fun k => True) (fun k => .bool (G5 s l)) (fun k => []) := by
 refine Tr.intro Tryz.func29 rfl (n := 26) rfl (by decide +kernel) bl (fr := [(0, .slice a_s m_s c_s), (1, .slice a_l m_l c_l)]) rfl fun w L hR => ?_
 obtain ⟨hs, hl⟩ := hR
 obtain ⟨rfl, ls⟩ := hs.slen
 obtain ⟨rfl, ll⟩ := hl.slen
 refine Ew Z1 (Ei rfl (Eu (Eq_ (Ew Z1 (Ei rfl (Eu (E.block (E.loop (κ := Nat) (fun g => g ≤ l.length ∧ l.any (fun m => !M9 s m) = (l.drop g).any (fun m => !M9 s m)) (fun g => [(0, .slice a_s s.length c_s), (1, .slice a_l l.length c_l), (5, .int .i64 (g : Int))]) (fun g => []) (fun g => l.length - g) 0 ⟨Nat.zero_le _, by simp⟩ ⟨rfl, rfl, rfl, trivial⟩ (.refl _) (fun g pg => ?_)))))))))
 obtain ⟨pk, pa⟩ := pg
 refine Eq_ (Ew Z4 (Em rfl (Em rfl (Ey rfl ((Y.len us_Methods rfl).yd) (Ey rfl ((Y.lss rfl rfl).yd) (n0 (fun q9 => ?_) (fun q9 => ?_)))))))
 ·refine Eu (l4 rfl (i8 (Et (Eq_ (E.block (Ew Z7 (Em rfl (Em rfl (Em rfl ?_)))))))))
  obtain ⟨eb15, eo15, ec15, ea15, er15, el15, eh15⟩ := hl.elem g om
  obtain ⟨xa15_0, xc15_0, rfl, ei15_0, xh15_0, ei15_2, ei15_3, ei15_4⟩ := H9 er15
  have := xh15_0.slen.2
  refine Ey rfl ((o6 us_Methods ty_Method rfl ea15 rfl g rfl om).yd) (Ey rfl (o0 (cs := [_, _, _, _, _]) ty_Method rfl (eh15 _) rfl) (Est rfl (k6 a6J rfl rfl rfl dc (fun w Lp hA => ⟨hA.ro hs, ei15_0, hA.ro xh15_0, ei15_2, ei15_3, ei15_4⟩)) (fun _ _ => (Ent.b (fun q17 => ?_) (fun q17 => ?_)))))
  ·refine Ey rfl ((Y.not (b := true) rfl).yd) (Eu (l6 rfl (i8 (o4 (Et (Ez Z3 (Em rfl (Ey rfl ((Y.add rfl rfl om om).yd) (Ei rfl ?_)))))))))
   exact Eu (u9 br (g + 1) rs (.refl _) ⟨by omega, by grind [d1, d2, t1, t2]⟩ om)
  ·refine Ey rfl ((Y.not (b := false) rfl).yd) (Eu (l4 rfl (Ew Z1 (Ei rfl ?_))))
   exact Eu (E.ret (t7 (l0 (l0 (t7 (l0 (Fb rfl rfl (by grind [G5, d1, d2, t1, t2]))))))))
 ·refine Eu (l6 rfl (E.exit (n8 (n8 (w5 (Et (Ew Z8 (Em rfl (Est rfl (k6 L6 rfl rfl rfl dc (fun w Lp hA => hA.ro hs)) (fun _ _ => (Ent.b (fun q20 => ?_) (fun q20 => ?_))))))))))))
  ·refine Em rfl (Em rfl (Ey rfl ((Y.len us_Methods rfl).yd) (Ey rfl ((Y.leq rfl rfl).yd) (Ey rfl ((s6 rfl rfl).yd) (Ei rfl ?_)))))
   exact Eu (E.ret (Fb rfl rfl (by grind [G5, d1, d2, t1, t2])))
  ·refine Em rfl (Es rfl (Es rfl (Es rfl (Ey rfl ((r9 rfl rfl).yd) (Ei rfl ?_)))))
   exact Eu (E.ret (Fb rfl rfl (by grind [G5, d1, d2, t1, t2])))
theorem a5f {T4 : Int} {Q9 : Option Addr} {R0 R1 : Nat} {a0L : List Int} {b_a : Nat} : Tr Tryz.prog 183 [.agg #[.int .i64 T4, .slice Q9 R0 R1], .pointer (some ⟨b_a, 0, none⟩)] (fun w L => (I64 T4 ∧ Ro w L eIs [.slice Q9 R0 R1] a0L) ∧ RoPt w L b_a [.int .i64 j3, .slice w4 y5 w3] ∧ I64 j3 ∧ Ro w L eIs [.slice w4 y5 w3] j9) [] (κ := Unit) (fun k => True) (fun k => .bool (decide ((T4, a0L) = (j3, j9)))) (fun k => []) := by
 refine Tr.intro Tryz.func183 rfl (n := 7) rfl (by decide +kernel) bl (fr := [(0, .agg #[.int .i64 T4, .slice Q9 R0 R1]), (1, .pointer (some ⟨b_a, 0, none⟩))]) rfl fun w L hR => ?_
 obtain ⟨⟨a7i, a0i⟩, hb_a, I8, C5⟩ := hR
 obtain ⟨rfl, a8E⟩ := a0i.slen
 obtain ⟨rfl, P2⟩ := C5.slen
 refine Ew Z2 (Est rfl (N.box (cs := [_, _]) rfl dc rfl) (fun b2 _ => (Ei rfl (Ev Z4 (Ey rfl (o0 (cs := [_, _]) ty_Access rfl (Has.pt m0) rfl) (Ey rfl (o0 (cs := [_, _]) ty_Access rfl (hb_a.has) rfl) (Est rfl (k6 a5y rfl rfl rfl dc (fun w Lp hA => ⟨⟨a7i, hA.ro a0i, I8, hA.ro C5⟩, trivial⟩)) (fun _ _ => (Ei rfl ?_)))))))))
 exact Eu (E.ret (Fg rfl rfl () rfl rfl))
theorem a6n {l : List (Int × List Int)} : Tr Tryz.prog 121 [.slice a_l m_l c_l, .agg #[.int .i64 j3, .slice w4 y5 w3]] (fun w L => Ro w L B5 [.slice a_l m_l c_l] l ∧ I64 j3 ∧ Ro w L eIs [.slice w4 y5 w3] j9) [] (κ := Unit) (fun k => True) (fun k => .bool (V4 l (j3, j9))) (fun k => []) := by
 refine Tr.intro Tryz.func121 rfl (n := 8) rfl (by decide +kernel) bl (fr := [(0, .slice a_l m_l c_l), (1, .agg #[.int .i64 j3, .slice w4 y5 w3])]) rfl fun w L hR => ?_
 obtain ⟨hl, I8, C5⟩ := hR
 obtain ⟨rfl, ll⟩ := hl.slen
 obtain ⟨rfl, P2⟩ := C5.slen
 refine Ew Z2 (Est rfl (N.box (cs := [_, _]) rfl dc rfl) (fun b3 _ => (Ei rfl (Ev Z4 (Em rfl (Ey rfl ((Y.fn (vs := [_]) rfl).yd) (Est rfl (k6 (a1n (f := (fun z => decide (z = (j3, j9)))) (D_f := (fun _ => True)) (by intros; exact trivial)) rfl rfl rfl dc (fun w Lp hA => ⟨hA.ro hl, a5h (D := (fun _ => True)) (fun hd => a5f) (fun w' hk => ⟨(hA.pt m0).keep hk, I8, (hA.ro C5).keep hk⟩)⟩)) (fun _ _ => (Ei rfl ?_)))))))))
 exact Eu (E.ret (Fb rfl rfl (by rfl)))
theorem a6H {a_log : Option Addr} {m_log c_log : Nat} {log : List (Int × List Int)} : Tr Tryz.prog 51 [.slice a_log m_log c_log, .agg #[.int .i64 j3, .slice w4 y5 w3]] (fun w L => Ro w L B5 [.slice a_log m_log c_log] log ∧ I64 j3 ∧ Ro w L eIs [.slice w4 y5 w3] j9) [] (κ := Unit) (fun k => True) (fun k => .bool (V4 log (j3, j9))) (fun k => []) := by
 refine Tr.intro Tryz.func51 rfl (n := 18) rfl (by decide +kernel) bl (fr := [(0, .slice a_log m_log c_log), (1, .agg #[.int .i64 j3, .slice w4 y5 w3])]) rfl fun w L hR => ?_
 obtain ⟨hlog, I8, C5⟩ := hR
 obtain ⟨rfl, llog⟩ := hlog.slen
 obtain ⟨rfl, P2⟩ := C5.slen
 refine Ew Z2 (Est rfl (N.box (cs := [_, _]) rfl dc rfl) (fun b3 _ => (Ei rfl (Eu (Eq_ (Ew Z1 (Ei rfl (Eu (E.block (E.loop (κ := Nat) (fun g => g ≤ log.length ∧ V4 log (j3, j9) = V4 (log.drop g) (j3, j9)) (fun g => [(0, .slice a_log log.length c_log), (3, .pointer (some ⟨b3, 0, none⟩)), (5, .int .i64 (g : Int))]) (fun g => [pt b3 74 [.int .i64 j3, .slice w4 j9.length w3]]) (fun g => log.length - g) 0 ⟨Nat.zero_le _, by simp⟩ ⟨rfl, rfl, rfl, trivial⟩ (.refl _) (fun g pg => ?_)))))))))))
 obtain ⟨pk, pa⟩ := pg
 refine Eq_ (Ew Z4 (Em rfl (Em rfl (Ey rfl ((Y.len us_Accesss rfl).yd) (Ey rfl ((Y.lss rfl rfl).yd) (n0 (fun q9 => ?_) (fun q9 => ?_)))))))
 ·refine Eu (l4 rfl (i8 (Et (Eq_ (E.block (Eq_ (D.region (fun j => true) mixed (Dyp 0 rfl (j4 rfl) (Dyp 1 rfl (j4 rfl) ?_)))))))))
  obtain ⟨eb14, eo14, ec14, ea14, er14, el14, eh14⟩ := hlog.elem g om
  obtain ⟨xa14_0, xc14_0, rfl, ei14_0, xh14_0⟩ := N0 er14
  have := xh14_0.slen.2
  refine Dyp 2 rfl (o6 us_Accesss ty_Access rfl ea14 rfl g rfl om) (Dy 3 rfl (o0 (cs := [_, _]) ty_Access rfl (eh14 _) rfl) (Dy 4 rfl (o0 (cs := [_, _]) ty_Access rfl (Has.pt m0) rfl) (u7 5 rfl rfl kr (fun _ => rfl) (k6 a4r rfl rfl rfl dc (fun w Lp hA => ⟨ei14_0, hA.ro xh14_0, I8, hA.ro C5⟩)) (fun _ _ => (Ent.b (fun q17 => ?_) (fun q17 => ?_))))))
  ·refine o3 kr (Et (l4 rfl (Ew Z1 (Ei rfl ?_))))
   exact Eu (E.ret (t7 (l0 (l0 (t7 (l0 (Fb rfl rfl (by grind [V4, d1, d2, t1, t2]))))))))
  ·refine o3 kr (Et (l6 rfl (i8 (o4 (Et (Ez Z3 (Em rfl (Ey rfl ((Y.add rfl rfl om om).yd) (Ei rfl ?_)))))))))
   exact Eu (u9 br (g + 1) rs (.refl _) ⟨by omega, by grind [V4, d1, d2, t1, t2]⟩ om)
 ·refine Eu (l6 rfl (E.exit (n8 (n8 (w5 (Et (Ew Z1 (Ei rfl ?_))))))))
  exact Eu (E.ret (Fb rfl rfl (by grind [V4, d1, d2, t1, t2])))
end Go.Proofs.YtlfhopooaejpfaaGreat
