import Derived.Test.YthapcdhdfaibkaaGreatDoorT8
namespace Go.Proofs.YthapcdhdfaibkaaGreatDoor
open Go.RowKit
set_option linter.all false
set_option maxHeartbeats 2000000
attribute [local irreducible] Nop Yd Yp Ent Has Tr FnP FnP2 Src M5 U1 V6 W3 G3
variable {arity G9 E5 G6 E6 q3 : Int} {l : List (Int × List Int × Int × Int × Int)} {t6 s s6 : List Int} {m_l c_l I0 F2 m_s c_s H5 E8 : Nat} {a_l F3 a_s E9 : Option Addr}
theorem a8M {l : List Int} : TB Tryz.prog 352 [.slice a_l m_l c_l] (fun w L => Ro w L eIs [.slice a_l m_l c_l] l) (G3 ltB l) := by
 refine Ti1 Tryz.func352 24 rfl fun w L hR => ?_
 have hl := hR
 obtain ⟨rfl, ll⟩ := hl.slen
 refine Ew Z1<|Ei rfl<|Eu<|Eq_<|Ew Z3<|Em rfl<|Yln us_Is rfl<|Em rfl<|Eu<|E.block<|Lo (κ := Nat) (fun g => g ≤ l.length ∧ G3 ltB l = G3 ltB (l.drop<|g - 1)) (fun g => [(0, .slice a_l l.length c_l), (5, .int .i64 (↑l.length : Int)), (6, .int .i64 (g : Int))]) (fun g => []) (fun g => l.length - g) 0 ⟨Nat.zero_le _, by simp⟩<|fun g pg => ?_
 obtain ⟨pk, pa⟩ := pg
 refine Ew Z1<|Ylt rfl<|l3 (fun q7 => ?_)<|fun q7 => ?_
 ·refine Eu<|Eq_<|Ct<|Eq_<|E.block<|Ew Z2<|Em rfl<|Ei rfl<|Eu<|Eq_<|D.region (fun j => true) mixed<|Dm 0 rfl<|Dyp 1 rfl (Y.gtr rfl rfl)<|l3 (fun q10 => ?_)<|fun q10 => ?_
  ·refine Dm 2 rfl<|Dm 3 rfl<|Dm 4 rfl ?_
   obtain ⟨eb14, eo14, ea14, ei14, eh14⟩ := hl.elemI g om
   refine Dyp 5 rfl (z8 us_Is i7 rfl ea14 rfl g rfl om)<|Dy 6 rfl (B4 i7 rfl (eh14 _) rfl)<|Dm 7 rfl<|Dm 8 rfl<|Dyp 9 rfl (Y.sub rfl rfl om om) ?_
   obtain ⟨eb19, eo19, ea19, ei19, eh19⟩ := hl.elemI (g - 1) om
   refine Dyp 10 rfl (z8 us_Is i7 rfl ea19 rfl (g - 1) om om)<|Dy 11 rfl (B4 i7 rfl (eh19 _) rfl)<|Dyp 12 rfl (Y.leq rfl rfl)<|l3 (fun q21 => ?_)<|fun q21 => ?_
   ·refine Dyp 13 rfl (K7 rfl rfl)<|n9 kr<|Et<|r6 rfl<|Ew Z1<|Ei rfl<|Eu<|E.ret<|u6<|i9<|i9<|u6<|i9<|Fb rfl rfl (by grind [K0, J9, L9, ltB, d1, d2, t1, t2])
   ·refine Dyp 13 rfl (K7 rfl rfl)<|n9 kr<|Et<|r7 rfl<|v8<|o6<|Et<|Ez Z2<|Yad rfl om om<|Em rfl ?_
    exact Eu<|t7 br (g + 1) rs (.refl _) ⟨by omega, by grind [K0, J9, L9, ltB, d1, d2, t1, t2]⟩ om
  ·refine Dm 2 rfl<|Dsk 3 rfl<|Dsk 4 rfl<|Dsk 5 rfl<|Dsk 6 rfl<|Dsk 7 rfl<|Dsk 8 rfl<|Dsk 9 rfl<|Dsk 10 rfl<|Dsk 11 rfl<|Dsk 12 rfl<|Dyp 13 rfl (L8 rfl rfl)<|n9 kr<|Et<|r7 rfl<|v8<|o6<|Et<|Ez Z2<|Yad rfl om om<|Em rfl ?_
   exact Eu<|t7 br (g + 1) rs (.refl _) ⟨by omega, by grind [K0, J9, L9, ltB, d1, d2, t1, t2]⟩ om
 ·refine Eu<|Eq_<|r7 rfl<|E.exit<|l4<|l4<|w8<|Et<|Ew Z1<|Ei rfl<|Eu<|E.ret<|Fb rfl rfl (by grind [K0, J9, L9, ltB, d1, d2, t1, t2])
theorem a6o {i : Int} {b_arity : Nat} : TB Tryz.prog 353 [.int .i64 i, .pointer (some ⟨b_arity, 0, none⟩)] (fun w L => (I64 i) ∧ RoPt w L b_arity [.int .i64 arity] ∧ -1000 ≤ arity ∧ arity ≤ 1000) (!inR i 0 (arity - 1)) := by
 refine Ti2 Tryz.func353 9 rfl fun w L hR => ?_
 obtain ⟨i6i, hb_arity, as0, as1⟩ := hR
 refine Ew Z1<|Ei rfl<|Ev Z6<|Em rfl<|Ey rfl (B4 i7 rfl (hb_arity.has) rfl)<|Ey rfl ((Y.sub rfl rfl om om).yd)<|E0 rfl O9 rfl (fun _ => trivial)<|Ey rfl ((Y.not rfl).yd)<|Ei rfl<|Eu<|E.ret<|Fb rfl rfl (by grind [d1, d2, t1, t2])
theorem a6F {n : Int} : TB Tryz.prog 347 [.int .i64 n] (fun w L => True) (inR n 0 99) := by
 refine Ti1 Tryz.func347 5 rfl fun w L hR => Ew Z1<|Ei rfl<|Ev Z3<|Em rfl<|E0 rfl O9 rfl (fun _ => trivial)<|Ei rfl<|Eu<|E.ret<|Fg rfl rfl () rfl rfl
theorem a7C : TB Tryz.prog 304 [.agg #[.int .i64 G9, .slice F3 I0 F2, .int .i64 E5, .int .i64 G6, .int .i64 E6], .int .i64 arity] (fun w L => I64 G9 ∧ Ro w L eIs [.slice F3 I0 F2] t6 ∧ I64 E5 ∧ I64 G6 ∧ I64 E6 ∧ -1000 ≤ arity ∧ arity ≤ 1000) (a0T (G9, t6, E5, G6, E6) arity) := by
 refine Ti2 Tryz.func304 30 rfl fun w L hR => ?_
 obtain ⟨X1, F4, S5, V1, S6, as0, as1⟩ := hR
 obtain ⟨rfl, a0j⟩ := F4.slen
 refine Ew Z3<|Est rfl (N.box (cs := [_, _, _, _, _]) rfl dc rfl)<|fun b2 _ => Est rfl (N.box (cs := [_]) rfl dc rfl)<|fun b3 _ => Ei rfl<|Ev Z26<|Lz fo_Method_1 ty_Is rfl (mS m0) rfl<|E0 rfl a8M rfl (fun hA => hA.ro F4)<|Ent.b (fun q7 => ?_)<|fun q7 => ?_
 ·refine Em rfl<|Lz fo_Method_1 ty_Is rfl (mS m0) rfl<|Ey rfl ((Y.fn (vs := [_]) rfl).yd)<|E0 rfl (X8 (f := (fun i => !inR i 0 (arity - 1))) (D_f := (fun _ => True)) (by intros; exact trivial)) rfl (fun hA => ⟨hA.ro F4, a2q (D := (fun _ => True)) (fun hd => a6o)<|fun w' hk => ⟨(hA.pt m0).keep hk, (by first | assumption | omega), (by first | assumption | omega)⟩⟩)<|Ent.b (fun q12 => ?_)<|fun q12 => ?_
  ·refine Yno true rfl<|Ypt rfl<|Em rfl<|Es rfl<|Es rfl<|Es rfl<|Ypf rfl<|Em rfl<|Es rfl<|Es rfl<|Es rfl<|Ypf rfl<|Em rfl<|Es rfl<|Es rfl<|Es rfl<|Ypf rfl<|Ei rfl<|Eu<|E.ret<|Fb rfl rfl (by grind [a0T, a0m, d1, d2, t1, t2])
  ·refine Yno false rfl<|Ypt rfl<|Em rfl<|Lz fo_Method_2 i7 rfl (mS m0) rfl<|E0 rfl O9 rfl (fun _ => trivial)<|Ent.b (fun q18 => ?_)<|fun q18 => ?_
   ·refine Ypt rfl<|Em rfl<|Lz fo_Method_3 i7 rfl (mS m0) rfl<|E0 rfl a6F rfl (fun _ => trivial)<|Ent.b (fun q23 => ?_)<|fun q23 => ?_
    ·refine Ypt rfl<|Em rfl<|Lz fo_Method_4 i7 rfl (mS m0) rfl<|E0 rfl O9 rfl (fun _ => trivial)<|Ypt rfl<|Ei rfl<|Eu<|E.ret<|Fb rfl rfl (by grind [a0T, a0m, d1, d2, t1, t2])
    ·refine Ypt rfl<|Em rfl<|Es rfl<|Es rfl<|Es rfl<|Ypf rfl<|Ei rfl<|Eu<|E.ret<|Fb rfl rfl (by grind [a0T, a0m, d1, d2, t1, t2])
   ·refine Ypt rfl<|Em rfl<|Es rfl<|Es rfl<|Es rfl<|Ypf rfl<|Em rfl<|Es rfl<|Es rfl<|Es rfl<|Ypf rfl<|Ei rfl<|Eu<|E.ret<|Fb rfl rfl (by grind [a0T, a0m, d1, d2, t1, t2])
 ·refine Em rfl<|Es rfl<|Es rfl<|Es rfl<|Es rfl<|Es rfl<|Ypf rfl<|Em rfl<|Es rfl<|Es rfl<|Es rfl<|Ypf rfl<|Em rfl<|Es rfl<|Es rfl<|Es rfl<|Ypf rfl<|Em rfl<|Es rfl<|Es rfl<|Es rfl<|Ypf rfl<|Ei rfl<|Eu<|E.ret<|Fb rfl rfl (by grind [a0T, a0m, d1, d2, t1, t2])
theorem a9n : TB Tryz.prog 214 [.slice a_s m_s c_s, .agg #[.int .i64 G9, .slice F3 I0 F2, .int .i64 E5, .int .i64 G6, .int .i64 E6]] (fun w L => Ro w L eIs [.slice a_s m_s c_s] s ∧ I64 G9 ∧ Ro w L eIs [.slice F3 I0 F2] t6 ∧ I64 E5 ∧ I64 G6 ∧ I64 E6) (V3 s (G9, t6, E5, G6, E6)) := by
 refine Ti2 Tryz.func214 18 rfl fun w L hR => ?_
 obtain ⟨hs, X1, F4, S5, V1, S6⟩ := hR
 obtain ⟨rfl, ls⟩ := hs.slen
 obtain ⟨rfl, a0j⟩ := F4.slen
 refine Ew Z2<|Est rfl (N.box (cs := [_, _, _, _, _]) rfl dc rfl)<|fun b3 _ => Ei rfl<|Eu<|Eq_<|D.region (fun j => true) mixed<|Dm 0 rfl<|Df 1 2 fo_Method_0 i7 rfl (Hz m0 0 rfl)<|D0 3 rfl a3T rfl (fun hA => hA.ro hs)<|Ent.b (fun q8 => ?_)<|fun q8 => ?_
 ·obtain ⟨z1, z2, z3, z4⟩ := a0N q8
  rw [J5 om] at z3 z4
  refine Dm 4 rfl<|Dy 5 rfl (k7 (cs := [_, _, _, _, _]) ty_Method rfl (Has.pt m0) rfl)<|Dm 6 rfl<|Df 7 8 fo_Method_0 i7 rfl (Hz m0 0 rfl) ?_
  obtain ⟨eb14, eo14, ea14, ei14, eh14⟩ := hs.elemI G9.toNat om
  refine Dyp 9 rfl (z8 us_Is i7 rfl ea14 rfl G9.toNat om om)<|Dy 10 rfl (B4 i7 rfl (eh14 _) rfl)<|D0 11 rfl a7C rfl (fun hA => ⟨X1, hA.ro F4, S5, V1, S6, (by first | assumption | omega), (by first | assumption | omega)⟩)<|Dyp 12 rfl (K7 rfl rfl)<|Dyp 13 rfl (G7 rfl)<|n9 kr<|Et<|E.ret<|Fb rfl rfl (by grind [V3, H0, d1, d2, t1, t2])
 ·refine Dm 4 rfl<|Dsk 5 rfl<|Dsk 6 rfl<|Dsk 7 rfl<|Dsk 8 rfl<|Dsk 9 rfl<|Dsk 10 rfl<|Dsk 11 rfl<|Dyp 12 rfl (L8 rfl rfl)<|Dyp 13 rfl (G7 rfl)<|n9 kr<|Et<|E.ret<|Fb rfl rfl (by grind [V3, H0, d1, d2, t1, t2])
theorem a9t : TB Tryz.prog 173 [.slice a_s m_s c_s, .agg #[.int .i64 G9, .slice F3 I0 F2, .int .i64 E5, .int .i64 G6, .int .i64 E6]] (fun w L => Ro w L eIs [.slice a_s m_s c_s] s ∧ I64 G9 ∧ Ro w L eIs [.slice F3 I0 F2] t6 ∧ I64 E5 ∧ I64 G6 ∧ I64 E6) (V3 s (G9, t6, E5, G6, E6)) := by
 refine Ti2 Tryz.func173 74 rfl fun w L hR => ?_
 obtain ⟨hs, X1, F4, S5, V1, S6⟩ := hR
 obtain ⟨rfl, ls⟩ := hs.slen
 obtain ⟨rfl, a0j⟩ := F4.slen
 refine Ew Z2<|Est rfl (N.box (cs := [_, _, _, _, _]) rfl dc rfl)<|fun b3 _ => Ei rfl<|Eu<|Eq_<|Ew Z30<|Em rfl<|E0 rfl R6 rfl (fun hA => hA.ro hs)<|Ent.b (fun q7 => ?_)<|fun q7 => ?_
 ·refine Yno true rfl<|Em rfl<|Lz fo_Method_0 i7 rfl m0 rfl<|Em rfl<|Yln us_Is rfl<|Ey rfl ((Y.sub rfl rfl om om).yd)<|E0 rfl K4 rfl (fun _ => trivial)<|Ent.b (fun q15 => ?_)<|fun q15 => ?_
  ·have y1 : P2 s G9 = true := by rw [P2, q7, q15]; rfl
   obtain ⟨z1, z2, z3, z4⟩ := a0N y1
   rw [J5 om] at z3 z4
   refine Yno true rfl<|Ypf rfl<|Em rfl<|Lz fo_Method_2 i7 rfl m0 rfl<|E0 rfl K4 rfl (fun _ => trivial)<|Ent.b (fun q21 => ?_)<|fun q21 => ?_
   ·refine Yno true rfl<|Ypf rfl<|Em rfl<|Lz fo_Method_3 i7 rfl m0 rfl<|E0 rfl K4 rfl (fun _ => trivial)<|Ent.b (fun q27 => ?_)<|fun q27 => ?_
    ·refine Yno true rfl<|Ypf rfl<|Em rfl<|Lz fo_Method_4 i7 rfl m0 rfl<|E0 rfl K4 rfl (fun _ => trivial)<|Ent.b (fun q33 => ?_)<|fun q33 => ?_
     ·refine Yno true rfl<|Ypf rfl<|Eu<|Cf<|Eq_<|Ew Z1<|Ei rfl<|Eu<|E.block<|Lo (κ := Nat) (fun g => g ≤ t6.length ∧ (a0m t6 (at0 s G9) && G3 ltB t6) = (a0m (t6.drop g) (at0 s G9) && G3 ltB (t6.drop<|g - 1))) (fun g => [(0, .slice a_s s.length c_s), (3, .pointer<|some ⟨b3, 0, none⟩), (5, .int .i64 (g : Int))]) (fun g => [pt b3 125 [.int .i64 G9, .slice F3 t6.length F2, .int .i64 E5, .int .i64 G6, .int .i64 E6]]) (fun g => t6.length - g) 0 ⟨Nat.zero_le _, by simp⟩<|fun g pg => ?_
      obtain ⟨pk, pa⟩ := pg
      refine Eq_<|Ew Z5<|Em rfl<|Lz fo_Method_1 ty_Is rfl m0 rfl<|Yln us_Is rfl<|Ylt rfl<|l3 (fun q40 => ?_)<|fun q40 => ?_
      ·refine Eu<|Ct<|Eq_<|E.block<|Eq_<|D.region (fun j => true) mixed<|Df 0 1 fo_Method_1 ty_Is rfl (Hz m0 1 rfl)<|Dm 2 rfl ?_
       obtain ⟨eb46, eo46, ea46, ei46, eh46⟩ := F4.elemI g om
       refine Dyp 3 rfl (z8 us_Is i7 rfl ea46 rfl g rfl om)<|Dy 4 rfl (B4 i7 rfl (eh46 _) rfl)<|Dm 5 rfl<|Df 6 7 fo_Method_0 i7 rfl (Hz m0 0 rfl) ?_
       obtain ⟨eb51, eo51, ea51, ei51, eh51⟩ := hs.elemI G9.toNat om
       refine Dyp 8 rfl (z8 us_Is i7 rfl ea51 rfl G9.toNat om om)<|Dy 9 rfl (B4 i7 rfl (eh51 _) rfl)<|Dyp 10 rfl (Y.sub rfl rfl om om)<|D0 11 rfl K4 rfl (fun _ => trivial)<|Ent.b (fun q54 => ?_)<|fun q54 => ?_
       ·refine Dyp 12 rfl (Y.not (b := true) rfl)<|Dm 13 rfl<|Dm 14 rfl<|Dyp 15 rfl (Y.gtr rfl rfl)<|l3 (fun q58 => ?_)<|fun q58 => ?_
        ·refine Dm 16 rfl<|Df 17 18 fo_Method_1 ty_Is rfl (Hz m0 1 rfl)<|Dm 19 rfl<|Dyp 20 rfl (z8 us_Is i7 rfl ea46 rfl g rfl om)<|Dy 21 rfl (B4 i7 rfl (eh46 _) rfl)<|Df 22 23 fo_Method_1 ty_Is rfl (Hz m0 1 rfl)<|Dm 24 rfl<|Dyp 25 rfl (Y.sub rfl rfl om om) ?_
         obtain ⟨eb69, eo69, ea69, ei69, eh69⟩ := F4.elemI (g - 1) om
         refine Dyp 26 rfl (z8 us_Is i7 rfl ea69 rfl (g - 1) om om)<|Dy 27 rfl (B4 i7 rfl (eh69 _) rfl)<|Dyp 28 rfl (Y.leq rfl rfl)<|l3 (fun q71 => ?_)<|fun q71 => ?_
         ·refine Dyp 29 rfl (K7 rfl rfl)<|Dyp 30 rfl (L8 rfl rfl)<|n9 kr<|Et<|r6 rfl<|Ew Z1<|Ei rfl<|Eu<|E.ret<|u6<|i9<|i9<|u6<|i9<|Fb rfl rfl (by grind [V3, a0T, P2, H0, a0m, K0, J9, L9, ltB, d1, d2, t1, t2])
         ·refine Dyp 29 rfl (K7 rfl rfl)<|Dyp 30 rfl (L8 rfl rfl)<|n9 kr<|Et<|r7 rfl<|v8<|o6<|Et<|Ez Z3<|Em rfl<|Yad rfl om om<|Ei rfl ?_
          exact Eu<|t7 br (g + 1) rs (.refl _) ⟨by omega, by grind [a0m, K0, J9, L9, ltB, H0, d1, d2, t1, t2]⟩ om
        ·refine Dm 16 rfl<|Dsk 17 rfl<|Dsk 18 rfl<|Dsk 19 rfl<|Dsk 20 rfl<|Dsk 21 rfl<|Dsk 22 rfl<|Dsk 23 rfl<|Dsk 24 rfl<|Dsk 25 rfl<|Dsk 26 rfl<|Dsk 27 rfl<|Dsk 28 rfl<|Dyp 29 rfl (L8 rfl rfl)<|Dyp 30 rfl (L8 rfl rfl)<|n9 kr<|Et<|r7 rfl<|v8<|o6<|Et<|Ez Z3<|Em rfl<|Yad rfl om om<|Ei rfl ?_
         exact Eu<|t7 br (g + 1) rs (.refl _) ⟨by omega, by grind [a0m, K0, J9, L9, ltB, H0, d1, d2, t1, t2]⟩ om
       ·refine Dyp 12 rfl (Y.not (b := false) rfl)<|Dm 13 rfl<|Dsk 14 rfl<|Dsk 15 rfl<|b1S 16 rfl rfl dc kr<|Dsk 17 rfl<|Dsk 18 rfl<|Dsk 19 rfl<|Dsk 20 rfl<|Dsk 21 rfl<|Dsk 22 rfl<|Dsk 23 rfl<|Dsk 24 rfl<|Dsk 25 rfl<|Dsk 26 rfl<|Dsk 27 rfl<|Dsk 28 rfl<|Dsk 29 rfl<|Dyp 30 rfl (K7 rfl rfl)<|n9 kr<|Et<|r6 rfl<|Ew Z1<|Ei rfl<|Eu<|E.ret<|u6<|i9<|i9<|u6<|i9<|Fb rfl rfl (by grind [V3, a0T, P2, H0, a0m, K0, J9, L9, ltB, d1, d2, t1, t2])
      ·refine Eu<|r7 rfl<|E.exit<|l4<|l4<|w8<|Et<|Ew Z1<|Ei rfl<|Eu<|E.ret<|Fb rfl rfl (by grind [V3, a0T, P2, H0, a0m, K0, J9, L9, ltB, d1, d2, t1, t2])
     ·refine Yno false rfl<|Ypf rfl<|Eu<|r6 rfl<|Ew Z1<|Ei rfl<|Eu<|E.ret<|i9<|Fb rfl rfl (by grind [V3, a0T, P2, H0, a0m, K0, J9, L9, ltB, d1, d2, t1, t2])
    ·refine Yno false rfl<|Ypf rfl<|Em rfl<|Es rfl<|Es rfl<|Es rfl<|Es rfl<|Ypt rfl<|Eu<|r6 rfl<|Ew Z1<|Ei rfl<|Eu<|E.ret<|i9<|Fb rfl rfl (by grind [V3, a0T, P2, H0, a0m, K0, J9, L9, ltB, d1, d2, t1, t2])
   ·refine Yno false rfl<|Ypf rfl<|Em rfl<|Es rfl<|Es rfl<|Es rfl<|Es rfl<|Ypt rfl<|Em rfl<|Es rfl<|Es rfl<|Es rfl<|Es rfl<|Ypt rfl<|Eu<|r6 rfl<|Ew Z1<|Ei rfl<|Eu<|E.ret<|i9<|Fb rfl rfl (by grind [V3, a0T, P2, H0, a0m, K0, J9, L9, ltB, d1, d2, t1, t2])
  ·refine Yno false rfl<|Ypf rfl<|Em rfl<|Es rfl<|Es rfl<|Es rfl<|Es rfl<|Ypt rfl<|Em rfl<|Es rfl<|Es rfl<|Es rfl<|Es rfl<|Ypt rfl<|Em rfl<|Es rfl<|Es rfl<|Es rfl<|Es rfl<|Ypt rfl<|Eu<|r6 rfl<|Ew Z1<|Ei rfl<|Eu<|E.ret<|i9<|Fb rfl rfl (by grind [V3, a0T, P2, H0, a0m, K0, J9, L9, ltB, d1, d2, t1, t2])
 ·refine Yno false rfl<|Em rfl<|Es rfl<|Es rfl<|Es rfl<|Es rfl<|Es rfl<|Es rfl<|Es rfl<|Ypt rfl<|Em rfl<|Es rfl<|Es rfl<|Es rfl<|Es rfl<|Ypt rfl<|Em rfl<|Es rfl<|Es rfl<|Es rfl<|Es rfl<|Ypt rfl<|Em rfl<|Es rfl<|Es rfl<|Es rfl<|Es rfl<|Ypt rfl<|Eu<|r6 rfl<|Ew Z1<|Ei rfl<|Eu<|E.ret<|i9<|Fb rfl rfl (by grind [V3, a0T, P2, H0, a0m, K0, J9, L9, ltB, d1, d2, t1, t2])
theorem a6T {b_s : Nat} : TB Tryz.prog 213 [.agg #[.int .i64 G9, .slice F3 I0 F2, .int .i64 E5, .int .i64 G6, .int .i64 E6], .pointer (some ⟨b_s, 0, none⟩)] (fun w L => (I64 G9 ∧ Ro w L eIs [.slice F3 I0 F2] t6 ∧ I64 E5 ∧ I64 G6 ∧ I64 E6) ∧ RoPt w L b_s [.slice a_s m_s c_s] ∧ Ro w L eIs [.slice a_s m_s c_s] s) (!V3 s (G9, t6, E5, G6, E6)) := by
 refine Ti2 Tryz.func213 8 rfl fun w L hR => ?_
 obtain ⟨⟨X1, F4, S5, V1, S6⟩, hb_s, hs⟩ := hR
 obtain ⟨rfl, a0j⟩ := F4.slen
 obtain ⟨rfl, ls⟩ := hs.slen
 refine Ew Z2<|Est rfl (N.box (cs := [_, _, _, _, _]) rfl dc rfl)<|fun b2 _ => Ei rfl<|Ev Z5<|Ey rfl (B4 ty_Is rfl (hb_s.has) rfl)<|Ey rfl (k7 (cs := [_, _, _, _, _]) ty_Method rfl (Has.pt m0) rfl)<|E0 rfl a9n rfl (fun hA => ⟨hA.ro hs, X1, hA.ro F4, S5, V1, S6⟩)<|Ey rfl ((Y.not rfl).yd)<|Ei rfl<|Eu<|E.ret<|Fb rfl rfl (by grind [d1, d2, t1, t2])
theorem a8n : TB Tryz.prog 104 [.slice a_s m_s c_s, .slice a_l m_l c_l] (fun w L => Ro w L eIs [.slice a_s m_s c_s] s ∧ Ro w L G0 [.slice a_l m_l c_l] l) (J3 s l) := by
 refine Ti2 Tryz.func104 18 rfl fun w L hR => ?_
 obtain ⟨hs, hl⟩ := hR
 obtain ⟨rfl, ls⟩ := hs.slen
 obtain ⟨rfl, ll⟩ := hl.slen
 refine Ew Z2<|Est rfl (N.box (cs := [_]) rfl dc rfl)<|fun b2 _ => Ei rfl<|Ev Z14<|Ey rfl (B4 ty_Is rfl (Has.pt m0) rfl)<|E0 rfl a1W rfl (fun hA => hA.ro hs)<|Ent.b (fun q6 => ?_)<|fun q6 => ?_
 ·refine Em rfl<|Em rfl<|Yln us_Methods rfl<|Ey rfl ((Y.leq rfl rfl).yd)<|l3 (fun q10 => ?_)<|fun q10 => ?_
  ·refine Ypt rfl<|Em rfl<|Em rfl<|Ey rfl ((Y.fn (vs := [_]) rfl).yd)<|E0 rfl (a5x (f := (fun z => !V3 s z)) (D_f := (fun _ => True)) (by intros; exact trivial)) rfl (fun hA => ⟨hA.ro hl, a4F (D := (fun _ => True)) (fun hd => a6T)<|fun w' hk => ⟨(hA.pt m0).keep hk, (hA.ro hs).keep hk⟩⟩)<|Ey rfl ((Y.not rfl).yd)<|Ypt rfl<|Ei rfl<|Eu<|E.ret<|Fb rfl rfl (by grind [J3, d1, d2, t1, t2])
  ·refine Ypt rfl<|Em rfl<|Es rfl<|Es rfl<|Es rfl<|Es rfl<|Ypf rfl<|Ei rfl<|Eu<|E.ret<|Fb rfl rfl (by grind [J3, d1, d2, t1, t2])
 ·refine Em rfl<|Es rfl<|Es rfl<|Es rfl<|Ypf rfl<|Em rfl<|Es rfl<|Es rfl<|Es rfl<|Es rfl<|Ypf rfl<|Ei rfl<|Eu<|E.ret<|Fb rfl rfl (by grind [J3, d1, d2, t1, t2])
theorem a2t : TB Tryz.prog 59 [.slice a_s m_s c_s, .slice a_l m_l c_l] (fun w L => Ro w L eIs [.slice a_s m_s c_s] s ∧ Ro w L G0 [.slice a_l m_l c_l] l) (J3 s l) := by
 refine Ti2 Tryz.func59 26 rfl fun w L hR => ?_
 obtain ⟨hs, hl⟩ := hR
 obtain ⟨rfl, ls⟩ := hs.slen
 obtain ⟨rfl, ll⟩ := hl.slen
 refine Ew Z1<|Ei rfl<|Eu<|Eq_<|Ew Z1<|Ei rfl<|Eu<|E.block<|Lo (κ := Nat) (fun g => g ≤ l.length ∧ l.any (fun m => !V3 s m) = (l.drop g).any (fun m => !V3 s m)) (fun g => [(0, .slice a_s s.length c_s), (1, .slice a_l l.length c_l), (5, .int .i64 (g : Int))]) (fun g => []) (fun g => l.length - g) 0 ⟨Nat.zero_le _, by simp⟩<|fun g pg => ?_
 obtain ⟨pk, pa⟩ := pg
 refine Eq_<|Ew Z4<|Em rfl<|Em rfl<|Yln us_Methods rfl<|Ylt rfl<|l3 (fun q9 => ?_)<|fun q9 => ?_
 ·refine Eu<|Ct<|Eq_<|E.block<|Ew Z7<|Em rfl<|Em rfl<|Em rfl ?_
  obtain ⟨eb15, eo15, ec15, ea15, er15, el15, eh15⟩ := hl.elem g om
  obtain ⟨xa15_0, xc15_0, rfl, ei15_0, xh15_0, ei15_2, ei15_3, ei15_4⟩ := P5 er15
  have := xh15_0.slen.2
  refine Ix us_Methods ty_Method rfl ea15 g rfl om<|Ey rfl (k7 (cs := [_, _, _, _, _]) ty_Method rfl (eh15 _) rfl)<|E0 rfl a9t rfl (fun hA => ⟨hA.ro hs, ei15_0, hA.ro xh15_0, ei15_2, ei15_3, ei15_4⟩)<|Ent.b (fun q17 => ?_)<|fun q17 => ?_
  ·refine Yno true rfl<|Eu<|r7 rfl<|v8<|o6<|Et<|Ez Z3<|Em rfl<|Yad rfl om om<|Ei rfl ?_
   exact Eu<|t7 br (g + 1) rs (.refl _) ⟨by omega, by grind [d1, d2, t1, t2]⟩ om
  ·refine Yno false rfl<|Eu<|r6 rfl<|Ew Z1<|Ei rfl<|Eu<|E.ret<|u6<|i9<|i9<|u6<|i9<|Fb rfl rfl (by grind [J3, d1, d2, t1, t2])
 ·refine Eu<|r7 rfl<|E.exit<|l4<|l4<|w8<|Et<|Ew Z8<|Em rfl<|E0 rfl R6 rfl (fun hA => hA.ro hs)<|Ent.b (fun q20 => ?_)<|fun q20 => ?_
  ·refine Em rfl<|Em rfl<|Yln us_Methods rfl<|Ey rfl ((Y.leq rfl rfl).yd)<|Ypt rfl<|Ei rfl<|Eu<|E.ret<|Fb rfl rfl (by grind [J3, d1, d2, t1, t2])
  ·refine Em rfl<|Es rfl<|Es rfl<|Es rfl<|Ypf rfl<|Ei rfl<|Eu<|E.ret<|Fb rfl rfl (by grind [J3, d1, d2, t1, t2])
theorem a7F {a9f : Int} {a1g : Option Addr} {a1h a1i : Nat} {a2g : List Int} {b_a : Nat} : TB Tryz.prog 197 [.agg #[.int .i64 a9f, .slice a1g a1h a1i], .pointer (some ⟨b_a, 0, none⟩)] (fun w L => (I64 a9f ∧ Ro w L eIs [.slice a1g a1h a1i] a2g) ∧ RoPt w L b_a [.int .i64 q3, .slice E9 H5 E8] ∧ I64 q3 ∧ Ro w L eIs [.slice E9 H5 E8] s6) (decide ((a9f, a2g) = (q3, s6))) := by
 refine Ti2 Tryz.func197 7 rfl fun w L hR => ?_
 obtain ⟨⟨b4V, a1y⟩, hb_a, R8, G1⟩ := hR
 obtain ⟨rfl, b1r⟩ := a1y.slen
 obtain ⟨rfl, a0k⟩ := G1.slen
 refine Ew Z2<|Est rfl (N.box (cs := [_, _]) rfl dc rfl)<|fun b2 _ => Ei rfl<|Ev Z4<|Ey rfl (k7 (cs := [_, _]) ty_Access rfl (Has.pt m0) rfl)<|Ey rfl (k7 (cs := [_, _]) ty_Access rfl (hb_a.has) rfl)<|E0 rfl a8l rfl (fun hA => ⟨⟨b4V, hA.ro a1y, R8, hA.ro G1⟩, trivial⟩)<|Ei rfl<|Eu<|E.ret<|Fg rfl rfl () rfl rfl
theorem a4n {l : List IL} : TB Tryz.prog 77 [.slice a_l m_l c_l, .agg #[.int .i64 q3, .slice E9 H5 E8]] (fun w L => Ro w L z6 [.slice a_l m_l c_l] l ∧ I64 q3 ∧ Ro w L eIs [.slice E9 H5 E8] s6) (W6 l (q3, s6)) := by
 refine Ti2 Tryz.func77 8 rfl fun w L hR => ?_
 obtain ⟨hl, R8, G1⟩ := hR
 obtain ⟨rfl, ll⟩ := hl.slen
 obtain ⟨rfl, a0k⟩ := G1.slen
 refine Ew Z2<|Est rfl (N.box (cs := [_, _]) rfl dc rfl)<|fun b3 _ => Ei rfl<|Ev Z4<|Em rfl<|Ey rfl ((Y.fn (vs := [_]) rfl).yd)<|E0 rfl (a5N (f := (fun z => decide (z = (q3, s6)))) (D_f := (fun _ => True)) (by intros; exact trivial)) rfl (fun hA => ⟨hA.ro hl, b3p (D := (fun _ => True)) (fun hd => a7F)<|fun w' hk => ⟨(hA.pt m0).keep hk, R8, (hA.ro G1).keep hk⟩⟩)<|Ei rfl<|Eu<|E.ret<|Fb rfl rfl (by rfl)
theorem a5d {a_log : Option Addr} {m_log c_log : Nat} {log : List IL} : TB Tryz.prog 86 [.slice a_log m_log c_log, .agg #[.int .i64 q3, .slice E9 H5 E8]] (fun w L => Ro w L z6 [.slice a_log m_log c_log] log ∧ I64 q3 ∧ Ro w L eIs [.slice E9 H5 E8] s6) (W6 log (q3, s6)) := by
 refine Ti2 Tryz.func86 18 rfl fun w L hR => ?_
 obtain ⟨hlog, R8, G1⟩ := hR
 obtain ⟨rfl, llog⟩ := hlog.slen
 obtain ⟨rfl, a0k⟩ := G1.slen
 refine Ew Z2<|Est rfl (N.box (cs := [_, _]) rfl dc rfl)<|fun b3 _ => Ei rfl<|Eu<|Eq_<|Ew Z1<|Ei rfl<|Eu<|E.block<|Lo (κ := Nat) (fun g => g ≤ log.length ∧ W6 log (q3, s6) = W6 (log.drop g) (q3, s6)) (fun g => [(0, .slice a_log log.length c_log), (3, .pointer<|some ⟨b3, 0, none⟩), (5, .int .i64 (g : Int))]) (fun g => [pt b3 105 [.int .i64 q3, .slice E9 s6.length E8]]) (fun g => log.length - g) 0 ⟨Nat.zero_le _, by simp⟩<|fun g pg => ?_
 obtain ⟨pk, pa⟩ := pg
 refine Eq_<|Ew Z4<|Em rfl<|Em rfl<|Yln us_Accesss rfl<|Ylt rfl<|l3 (fun q9 => ?_)<|fun q9 => ?_
 ·refine Eu<|Ct<|Eq_<|E.block<|Eq_<|D.region (fun j => true) mixed<|Dm 0 rfl<|Dm 1 rfl ?_
  obtain ⟨eb14, eo14, ec14, ea14, er14, el14, eh14⟩ := hlog.elem g om
  obtain ⟨xa14_0, xc14_0, rfl, ei14_0, xh14_0⟩ := X7 er14
  have := xh14_0.slen.2
  refine Dyp 2 rfl (z8 us_Accesss ty_Access rfl ea14 rfl g rfl om)<|Dy 3 rfl (k7 (cs := [_, _]) ty_Access rfl (eh14 _) rfl)<|Dy 4 rfl (k7 (cs := [_, _]) ty_Access rfl (Has.pt m0) rfl)<|D0 5 rfl a6M rfl (fun hA => ⟨ei14_0, hA.ro xh14_0, R8, hA.ro G1⟩)<|Ent.b (fun q17 => ?_)<|fun q17 => ?_
  ·refine n9 kr<|Et<|r6 rfl<|Ew Z1<|Ei rfl<|Eu<|E.ret<|u6<|i9<|i9<|u6<|i9<|Fb rfl rfl (by grind [W6, d1, d2, t1, t2])
  ·refine n9 kr<|Et<|r7 rfl<|v8<|o6<|Et<|Ez Z3<|Em rfl<|Yad rfl om om<|Ei rfl ?_
   exact Eu<|t7 br (g + 1) rs (.refl _) ⟨by omega, by grind [W6, d1, d2, t1, t2]⟩ om
 ·refine Eu<|r7 rfl<|E.exit<|l4<|l4<|w8<|Et<|Ew Z1<|Ei rfl<|Eu<|E.ret<|Fb rfl rfl (by grind [W6, d1, d2, t1, t2])
theorem a1U {m : Int} {a_values : Option Addr} {m_values c_values : Nat} {N8 : List Int} (hz : N8.length ≤ 1048576) : Tr Tryz.prog 84 [.int .i64 m, .slice a_values m_values c_values] (fun w L => I64 m ∧ Ro w L eIs [.slice a_values m_values c_values] N8) [] (κ := SL) (fun k => True) (fun k => .agg #[.int .i64 m, .slice k.1 k.2.1 k.2.2]) (fun k => [ow eIs [.slice k.1 k.2.1 k.2.2] N8]) := by
 refine Ti2 Tryz.func84 10 rfl fun w L hR => ?_
 obtain ⟨i6m, hvalues⟩ := hR
 obtain ⟨rfl, lvalues⟩ := hvalues.slen
 refine Ew Z1<|Est rfl (N.alloc ty_Access dc)<|fun b4 _ => Ev Z6<|Em rfl<|Est rfl (Nb [] [] us_Is i7 rfl rfl)<|fun b6 _ => Ent.drop<|Em rfl<|Est rfl (R1 (E := Enc.int) Plain.int us_Is i7 rfl rfl rfl hvalues bn bn dc)<|fun p8 _ => Ey rfl ((M4 (pvs := [_, _]) (cs := [_, _]) ty_Access a5i rfl rfl).yd)<|f5<|Est rfl (Ns [_, _] ty_Access rfl)<|fun _ _ => Eu<|E.ret<|f5<|S0 br rfl rfl (mS m0) ty_Access rfl (_, _, _) trivial rfl (J := _) (.refl _)<|.inl rfl
end Go.Proofs.YthapcdhdfaibkaaGreatDoor
