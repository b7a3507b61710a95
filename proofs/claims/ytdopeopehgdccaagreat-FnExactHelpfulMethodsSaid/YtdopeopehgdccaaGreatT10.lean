import Derived.Test.YtdopeopehgdccaaGreatBs
import Derived.Test.YtdopeopehgdccaaGreatT8
import Derived.Test.YtdopeopehgdccaaGreatT6
import Derived.Test.YtdopeopehgdccaaGreatT4
import Derived.Test.YtdopeopehgdccaaGreatT5
import Derived.Test.YtdopeopehgdccaaGreatBd
namespace Go.Proofs.YtdopeopehgdccaaGreat
open Go.RowKit
set_option linter.all false
set_option maxHeartbeats 2000000
attribute [local irreducible] Nop Yd Yp Ent Has Tr FnP FnP2 Src j7 d7 J2 Y5 E0
variable {arity n D7 C3 E2 C4 u0 r_Rounds : Int} {l : List (Int × List Int × Int × Int × Int)} {a2O y9 : List (Int × List Int)} {u9 s x9 f8 o3 : List Int} {m_l c_l E8 D8 m_s c_s B3 y6 m_values c_values a1y U3 a0U R3 a2P a0i : Nat} {a_l D9 a_s y7 a_values U4 R4 a0j : Option Addr}
theorem a6m {l : List Int} : Tr Tryz.prog 282 [.slice a_l m_l c_l] (fun w L => Ro w L eIs [.slice a_l m_l c_l] l) [] (κ := Unit) (fun k => True) (fun k => .bool (E0 ltB l)) (fun k => []) := by
 refine Tr.intro Tryz.func282 rfl (n := 24) rfl (by decide +kernel) bl (fr := [(0, .slice a_l m_l c_l)]) rfl fun w L hR => ?_
 have hl := hR
 obtain ⟨rfl, ll⟩ := hl.slen
 refine Ew Z1 (Eas rfl rfl (Eu (Eq_ (Ew Z3 (Emv rfl rfl (Ey rfl ((Y.len us_Is rfl).yd) (Emv rfl rfl (Eu (E.block (E.loop (κ := Nat) (fun g => g ≤ l.length ∧ E0 ltB l = E0 ltB (l.drop (g - 1))) (fun g => [(0, .slice a_l l.length c_l), (5, .int .i64 (↑l.length : Int)), (6, .int .i64 (g : Int))]) (fun g => []) (fun g => l.length - g) 0 ⟨Nat.zero_le _, by simp⟩ ⟨rfl, rfl, rfl, trivial⟩ (.refl _) (fun g pg => ?_)))))))))))
 obtain ⟨pk, pa⟩ := pg
 refine Ew Z1 (Ey rfl ((Y.lss rfl rfl).yd) (Ent.d (fun q7 => ?_) (fun q7 => ?_)))
 ·refine Eu (Eq_ (E.ct rfl (E.skipc (Et (Eq_ (E.block (Ew Z2 (Emv rfl rfl (Eas rfl rfl (Eu (Eq_ (D.region (fun j => true) mixed (Dyp 0 rfl (Y.mv rfl) (Dyp 1 rfl (Y.gtr rfl rfl) (Ent.d (fun q10 => ?_) (fun q10 => ?_))))))))))))))))
  ·refine Dyp 2 rfl (Y.mv rfl) (Dyp 3 rfl (Y.mv rfl) (Dyp 4 rfl (Y.mv rfl) ?_))
   obtain ⟨eb14, eo14, ea14, ei14, eh14⟩ := hl.elemI g om
   refine Dyp 5 rfl (Y.ix us_Is f6 rfl ea14 rfl g rfl om) (Dy 6 rfl (Y.ld1 f6 rfl (eh14 _) rfl) (Dyp 7 rfl (Y.mv rfl) (Dyp 8 rfl (Y.mv rfl) (Dyp 9 rfl (Y.sub rfl rfl om om) ?_))))
   obtain ⟨eb19, eo19, ea19, ei19, eh19⟩ := hl.elemI (g - 1) om
   refine Dyp 10 rfl (Y.ix us_Is f6 rfl ea19 rfl (g - 1) om om) (Dy 11 rfl (Y.ld1 f6 rfl (eh19 _) rfl) (Dyp 12 rfl (Y.leq rfl rfl) (Ent.d (fun q21 => ?_) (fun q21 => ?_))))
   ·refine Dyp 13 rfl (Y.pkt rfl rfl) (D.done kr (Et (E.ct rfl (Ew Z1 (Eas rfl rfl ?_)))))
    exact Eu (E.ret (E.blr (E.thr (E.thr (E.blr (E.thr (Fb rfl rfl (by grind [K8, K7, M8, ltB, d1, d2, t1, t2]))))))))
   ·refine Dyp 13 rfl (Y.pkt rfl rfl) (D.done kr (Et (E.cf rfl (E.skipc (E.bln (Et (Ez Z2 (Ey rfl ((Y.add rfl rfl om om).yd) (Emv rfl rfl ?_)))))))))
    exact Eu (E.again br (g + 1) rs (.refl _) ⟨by omega, by grind [K8, K7, M8, ltB, d1, d2, t1, t2]⟩ om)
  ·refine Dyp 2 rfl (Y.mv rfl) (Dsk 3 rfl (Dsk 4 rfl (Dsk 5 rfl (Dsk 6 rfl (Dsk 7 rfl (Dsk 8 rfl (Dsk 9 rfl (Dsk 10 rfl (Dsk 11 rfl (Dsk 12 rfl (Dyp 13 rfl (Y.pkf rfl rfl) (D.done kr (Et (E.cf rfl (E.skipc (E.bln (Et (Ez Z2 (Ey rfl ((Y.add rfl rfl om om).yd) (Emv rfl rfl ?_))))))))))))))))))))
   exact Eu (E.again br (g + 1) rs (.refl _) ⟨by omega, by grind [K8, K7, M8, ltB, d1, d2, t1, t2]⟩ om)
 ·refine Eu (Eq_ (E.cf rfl (E.exit (E.the (E.the (E.blh (Et (Ew Z1 (Eas rfl rfl ?_)))))))))
  exact Eu (E.ret (Fb rfl rfl (by grind [K8, K7, M8, ltB, d1, d2, t1, t2])))
theorem a4n {i : Int} {b_arity : Nat} : Tr Tryz.prog 283 [.int .i64 i, .pointer (some ⟨b_arity, 0, none⟩)] (fun w L => (I64 i) ∧ RoPt w L b_arity [.int .i64 arity] ∧ -1000 ≤ arity ∧ arity ≤ 1000) [] (κ := Unit) (fun k => True) (fun k => .bool (!inR i 0 (arity - 1))) (fun k => []) := by
 refine Tr.intro Tryz.func283 rfl (n := 9) rfl (by decide +kernel) bl (fr := [(0, .int .i64 i), (1, .pointer (some ⟨b_arity, 0, none⟩))]) rfl fun w L hR => ?_
 obtain ⟨i6i, hb_arity, as0, as1⟩ := hR
 refine Ew Z1 (Eas rfl rfl (Ev Z6 (Emv rfl rfl (Ey rfl (Y.ld1 f6 rfl (hb_arity.has) rfl) (Ey rfl ((Y.sub rfl rfl om om).yd) (Est rfl (N.call0 J8 rfl rfl rfl dc (fun w Lp hA => trivial)) (fun _ _ => (Ey rfl ((Y.not rfl).yd) (Eas rfl rfl ?_)))))))))
 exact Eu (E.ret (Fb rfl rfl (by grind [d1, d2, t1, t2])))
theorem a9e : Tr Tryz.prog 284 [.int .i64 n] (fun w L => True) [] (κ := Unit) (fun k => True) (fun k => .bool (inR n 0 99)) (fun k => []) := by
 refine Tr.intro Tryz.func284 rfl (n := 5) rfl (by decide +kernel) bl (fr := [(0, .int .i64 n)]) rfl fun w L hR => (Ew Z1 (Eas rfl rfl (Ev Z3 (Emv rfl rfl (Est rfl (N.call0 J8 rfl rfl rfl dc (fun w Lp hA => trivial)) (fun _ _ => (Eas rfl rfl ?_)))))))
 exact Eu (E.ret (Fg rfl rfl () rfl rfl))
theorem a5g : Tr Tryz.prog 224 [.agg #[.int .i64 D7, .slice D9 E8 D8, .int .i64 C3, .int .i64 E2, .int .i64 C4], .int .i64 arity] (fun w L => I64 D7 ∧ Ro w L eIs [.slice D9 E8 D8] u9 ∧ I64 C3 ∧ I64 E2 ∧ I64 C4 ∧ -1000 ≤ arity ∧ arity ≤ 1000) [] (κ := Unit) (fun k => True) (fun k => .bool (V7 (D7, u9, C3, E2, C4) arity)) (fun k => []) := by
 refine Tr.intro Tryz.func224 rfl (n := 30) rfl (by decide +kernel) bl (fr := [(0, .agg #[.int .i64 D7, .slice D9 E8 D8, .int .i64 C3, .int .i64 E2, .int .i64 C4]), (1, .int .i64 arity)]) rfl fun w L hR => ?_
 obtain ⟨a0V, F9, V8, Y8, V9, as0, as1⟩ := hR
 obtain ⟨rfl, a1z⟩ := F9.slen
 refine Ew Z3 (Est rfl (N.box (cs := [_, _, _, _, _]) rfl dc rfl) (fun b2 _ => (Est rfl (N.box (cs := [_]) rfl dc rfl) (fun b3 _ => (Eas rfl rfl (Ev Z26 (Ey rfl ((Y.fld fo_Method_1 ty_Is dc rfl).yd) (Ey rfl (Y.ld1 ty_Is rfl ((Has.pt (mS m0)).sub (cs' := [_]) 1 rfl) rfl) (Est rfl (N.call0 a6m rfl rfl rfl dc (fun w Lp hA => hA.ro F9)) (fun _ _ => (Ent.b (fun q7 => ?_) (fun q7 => ?_))))))))))))
 ·refine Emv rfl rfl (Ey rfl ((Y.fld fo_Method_1 ty_Is dc rfl).yd) (Ey rfl (Y.ld1 ty_Is rfl ((Has.pt (mS m0)).sub (cs' := [_]) 1 rfl) rfl) (Ey rfl ((Y.fn (vs := [_]) rfl).yd) (Est rfl (N.call0 (V0 (f := (fun i => !inR i 0 (arity - 1))) (D_f := (fun _ => True)) (by intros; exact trivial)) rfl rfl rfl dc (fun w Lp hA => ⟨hA.ro F9, FnP.ofI (D := (fun _ => True)) (fun hd => a4n) (fun w' hk => ⟨(hA.pt m0).keep hk, (by first | assumption | omega), (by first | assumption | omega)⟩)⟩)) (fun _ _ => (Ent.b (fun q12 => ?_) (fun q12 => ?_)))))))
  ·refine Ey rfl ((Y.not (b := true) rfl).yd) (Ey rfl ((Y.pkt rfl rfl).yd) (Emv rfl rfl (Es rfl (Es rfl (Es rfl (Ey rfl ((Y.pkf rfl rfl).yd) (Emv rfl rfl (Es rfl (Es rfl (Es rfl (Ey rfl ((Y.pkf rfl rfl).yd) (Emv rfl rfl (Es rfl (Es rfl (Es rfl (Ey rfl ((Y.pkf rfl rfl).yd) (Eas rfl rfl ?_)))))))))))))))))
   exact Eu (E.ret (Fb rfl rfl (by grind [V7, L6, d1, d2, t1, t2])))
  ·refine Ey rfl ((Y.not (b := false) rfl).yd) (Ey rfl ((Y.pkt rfl rfl).yd) (Emv rfl rfl (Ey rfl ((Y.fld fo_Method_2 f6 dc rfl).yd) (Ey rfl (Y.ld1 f6 rfl ((Has.pt (mS m0)).sub (cs' := [_]) 2 rfl) rfl) (Est rfl (N.call0 J8 rfl rfl rfl dc (fun w Lp hA => trivial)) (fun _ _ => (Ent.b (fun q18 => ?_) (fun q18 => ?_))))))))
   ·refine Ey rfl ((Y.pkt rfl rfl).yd) (Emv rfl rfl (Ey rfl ((Y.fld fo_Method_3 f6 dc rfl).yd) (Ey rfl (Y.ld1 f6 rfl ((Has.pt (mS m0)).sub (cs' := [_]) 3 rfl) rfl) (Est rfl (N.call0 a9e rfl rfl rfl dc (fun w Lp hA => trivial)) (fun _ _ => (Ent.b (fun q23 => ?_) (fun q23 => ?_)))))))
    ·refine Ey rfl ((Y.pkt rfl rfl).yd) (Emv rfl rfl (Ey rfl ((Y.fld fo_Method_4 f6 dc rfl).yd) (Ey rfl (Y.ld1 f6 rfl ((Has.pt (mS m0)).sub (cs' := [_]) 4 rfl) rfl) (Est rfl (N.call0 J8 rfl rfl rfl dc (fun w Lp hA => trivial)) (fun _ _ => (Ey rfl ((Y.pkt rfl rfl).yd) (Eas rfl rfl ?_)))))))
     exact Eu (E.ret (Fb rfl rfl (by grind [V7, L6, d1, d2, t1, t2])))
    ·refine Ey rfl ((Y.pkt rfl rfl).yd) (Emv rfl rfl (Es rfl (Es rfl (Es rfl (Ey rfl ((Y.pkf rfl rfl).yd) (Eas rfl rfl ?_))))))
     exact Eu (E.ret (Fb rfl rfl (by grind [V7, L6, d1, d2, t1, t2])))
   ·refine Ey rfl ((Y.pkt rfl rfl).yd) (Emv rfl rfl (Es rfl (Es rfl (Es rfl (Ey rfl ((Y.pkf rfl rfl).yd) (Emv rfl rfl (Es rfl (Es rfl (Es rfl (Ey rfl ((Y.pkf rfl rfl).yd) (Eas rfl rfl ?_)))))))))))
    exact Eu (E.ret (Fb rfl rfl (by grind [V7, L6, d1, d2, t1, t2])))
 ·refine Emv rfl rfl (Es rfl (Es rfl (Es rfl (Es rfl (Es rfl (Ey rfl ((Y.pkf rfl rfl).yd) (Emv rfl rfl (Es rfl (Es rfl (Es rfl (Ey rfl ((Y.pkf rfl rfl).yd) (Emv rfl rfl (Es rfl (Es rfl (Es rfl (Ey rfl ((Y.pkf rfl rfl).yd) (Emv rfl rfl (Es rfl (Es rfl (Es rfl (Ey rfl ((Y.pkf rfl rfl).yd) (Eas rfl rfl ?_))))))))))))))))))))))
  exact Eu (E.ret (Fb rfl rfl (by grind [V7, L6, d1, d2, t1, t2])))
theorem a7c : Tr Tryz.prog 150 [.slice a_s m_s c_s, .agg #[.int .i64 D7, .slice D9 E8 D8, .int .i64 C3, .int .i64 E2, .int .i64 C4]] (fun w L => Ro w L eIs [.slice a_s m_s c_s] s ∧ I64 D7 ∧ Ro w L eIs [.slice D9 E8 D8] u9 ∧ I64 C3 ∧ I64 E2 ∧ I64 C4) [] (κ := Unit) (fun k => True) (fun k => .bool (M6 s (D7, u9, C3, E2, C4))) (fun k => []) := by
 refine Tr.intro Tryz.func150 rfl (n := 18) rfl (by decide +kernel) bl (fr := [(0, .slice a_s m_s c_s), (1, .agg #[.int .i64 D7, .slice D9 E8 D8, .int .i64 C3, .int .i64 E2, .int .i64 C4])]) rfl fun w L hR => ?_
 obtain ⟨hs, a0V, F9, V8, Y8, V9⟩ := hR
 obtain ⟨rfl, ls⟩ := hs.slen
 obtain ⟨rfl, a1z⟩ := F9.slen
 refine Ew Z2 (Est rfl (N.box (cs := [_, _, _, _, _]) rfl dc rfl) (fun b3 _ => (Eas rfl rfl (Eu (Eq_ (D.region (fun j => true) mixed (Dyp 0 rfl (Y.mv rfl) (Dyp 1 rfl (Y.fld fo_Method_0 f6 dc rfl) (Dy 2 rfl (Y.ld1 f6 rfl ((Has.pt m0).sub (cs' := [_]) 0 rfl) rfl) (D.st 3 rfl rfl kr (fun _ => rfl) (N.call0 a1f rfl rfl rfl dc (fun w Lp hA => hA.ro hs)) (fun _ _ => (Ent.b (fun q8 => ?_) (fun q8 => ?_)))))))))))))
 ·obtain ⟨z1, z2, z3, z4⟩ := Q8 q8
  rw [a1k om] at z3 z4
  refine Dyp 4 rfl (Y.mv rfl) (Dy 5 rfl (Y.ldS (cs := [_, _, _, _, _]) ty_Method rfl (Has.pt m0) rfl) (Dyp 6 rfl (Y.mv rfl) (Dyp 7 rfl (Y.fld fo_Method_0 f6 dc rfl) (Dy 8 rfl (Y.ld1 f6 rfl ((Has.pt m0).sub (cs' := [_]) 0 rfl) rfl) ?_))))
  obtain ⟨eb14, eo14, ea14, ei14, eh14⟩ := hs.elemI D7.toNat om
  refine Dyp 9 rfl (Y.ix us_Is f6 rfl ea14 rfl D7.toNat om om) (Dy 10 rfl (Y.ld1 f6 rfl (eh14 _) rfl) (D.st 11 rfl rfl kr (fun _ => rfl) (N.call0 a5g rfl rfl rfl dc (fun w Lp hA => ⟨a0V, hA.ro F9, V8, Y8, V9, (by first | assumption | omega), (by first | assumption | omega)⟩)) (fun _ _ => (Dyp 12 rfl (Y.pkt rfl rfl) (Dyp 13 rfl (Y.as rfl) ?_)))))
  exact D.done kr (Et (E.ret (Fb rfl rfl (by grind [M6, B7, d1, d2, t1, t2]))))
 ·refine Dyp 4 rfl (Y.mv rfl) (Dsk 5 rfl (Dsk 6 rfl (Dsk 7 rfl (Dsk 8 rfl (Dsk 9 rfl (Dsk 10 rfl (Dsk 11 rfl (Dyp 12 rfl (Y.pkf rfl rfl) (Dyp 13 rfl (Y.as rfl) ?_)))))))))
  exact D.done kr (Et (E.ret (Fb rfl rfl (by grind [M6, B7, d1, d2, t1, t2]))))
theorem a6R : Tr Tryz.prog 135 [.slice a_s m_s c_s, .agg #[.int .i64 D7, .slice D9 E8 D8, .int .i64 C3, .int .i64 E2, .int .i64 C4]] (fun w L => Ro w L eIs [.slice a_s m_s c_s] s ∧ I64 D7 ∧ Ro w L eIs [.slice D9 E8 D8] u9 ∧ I64 C3 ∧ I64 E2 ∧ I64 C4) [] (κ := Unit) (fun k => True) (fun k => .bool (M6 s (D7, u9, C3, E2, C4))) (fun k => []) := by
 refine Tr.intro Tryz.func135 rfl (n := 74) rfl (by decide +kernel) bl (fr := [(0, .slice a_s m_s c_s), (1, .agg #[.int .i64 D7, .slice D9 E8 D8, .int .i64 C3, .int .i64 E2, .int .i64 C4])]) rfl fun w L hR => ?_
 obtain ⟨hs, a0V, F9, V8, Y8, V9⟩ := hR
 obtain ⟨rfl, ls⟩ := hs.slen
 obtain ⟨rfl, a1z⟩ := F9.slen
 refine Ew Z2 (Est rfl (N.box (cs := [_, _, _, _, _]) rfl dc rfl) (fun b3 _ => (Eas rfl rfl (Eu (Eq_ (Ew Z30 (Emv rfl rfl (Est rfl (N.call0 S1 rfl rfl rfl dc (fun w Lp hA => hA.ro hs)) (fun _ _ => (Ent.b (fun q7 => ?_) (fun q7 => ?_)))))))))))
 ·refine Ey rfl ((Y.not (b := true) rfl).yd) (Emv rfl rfl (Ey rfl ((Y.fld fo_Method_0 f6 dc rfl).yd) (Ey rfl (Y.ld1 f6 rfl ((Has.pt m0).sub (cs' := [_]) 0 rfl) rfl) (Emv rfl rfl (Ey rfl ((Y.len us_Is rfl).yd) (Ey rfl ((Y.sub rfl rfl om om).yd) (Est rfl (N.call0 H1 rfl rfl rfl dc (fun w Lp hA => trivial)) (fun _ _ => (Ent.b (fun q15 => ?_) (fun q15 => ?_))))))))))
  ·have y1 : G0 s D7 = true := by rw [G0, q7, q15]; rfl
   obtain ⟨z1, z2, z3, z4⟩ := Q8 y1
   rw [a1k om] at z3 z4
   refine Ey rfl ((Y.not (b := true) rfl).yd) (Ey rfl ((Y.pkf rfl rfl).yd) (Emv rfl rfl (Ey rfl ((Y.fld fo_Method_2 f6 dc rfl).yd) (Ey rfl (Y.ld1 f6 rfl ((Has.pt m0).sub (cs' := [_]) 2 rfl) rfl) (Est rfl (N.call0 H1 rfl rfl rfl dc (fun w Lp hA => trivial)) (fun _ _ => (Ent.b (fun q21 => ?_) (fun q21 => ?_))))))))
   ·refine Ey rfl ((Y.not (b := true) rfl).yd) (Ey rfl ((Y.pkf rfl rfl).yd) (Emv rfl rfl (Ey rfl ((Y.fld fo_Method_3 f6 dc rfl).yd) (Ey rfl (Y.ld1 f6 rfl ((Has.pt m0).sub (cs' := [_]) 3 rfl) rfl) (Est rfl (N.call0 H1 rfl rfl rfl dc (fun w Lp hA => trivial)) (fun _ _ => (Ent.b (fun q27 => ?_) (fun q27 => ?_))))))))
    ·refine Ey rfl ((Y.not (b := true) rfl).yd) (Ey rfl ((Y.pkf rfl rfl).yd) (Emv rfl rfl (Ey rfl ((Y.fld fo_Method_4 f6 dc rfl).yd) (Ey rfl (Y.ld1 f6 rfl ((Has.pt m0).sub (cs' := [_]) 4 rfl) rfl) (Est rfl (N.call0 H1 rfl rfl rfl dc (fun w Lp hA => trivial)) (fun _ _ => (Ent.b (fun q33 => ?_) (fun q33 => ?_))))))))
     ·refine Ey rfl ((Y.not (b := true) rfl).yd) (Ey rfl ((Y.pkf rfl rfl).yd) (Eu (E.cf rfl (E.skipc (Et (Eq_ (Ew Z1 (Eas rfl rfl (Eu (E.block (E.loop (κ := Nat) (fun g => g ≤ u9.length ∧ (L6 u9 (at0 s D7) && E0 ltB u9) = (L6 (u9.drop g) (at0 s D7) && E0 ltB (u9.drop (g - 1)))) (fun g => [(0, .slice a_s s.length c_s), (3, .pointer (some ⟨b3, 0, none⟩)), (5, .int .i64 (g : Int))]) (fun g => [pt b3 113 [.int .i64 D7, .slice D9 u9.length D8, .int .i64 C3, .int .i64 E2, .int .i64 C4]]) (fun g => u9.length - g) 0 ⟨Nat.zero_le _, by simp⟩ ⟨rfl, rfl, rfl, trivial⟩ (.refl _) (fun g pg => ?_))))))))))))
      obtain ⟨pk, pa⟩ := pg
      refine Eq_ (Ew Z5 (Emv rfl rfl (Ey rfl ((Y.fld fo_Method_1 ty_Is dc rfl).yd) (Ey rfl (Y.ld1 ty_Is rfl ((Has.pt m0).sub (cs' := [_]) 1 rfl) rfl) (Ey rfl ((Y.len us_Is rfl).yd) (Ey rfl ((Y.lss rfl rfl).yd) (Ent.d (fun q40 => ?_) (fun q40 => ?_))))))))
      ·refine Eu (E.ct rfl (E.skipc (Et (Eq_ (E.block (Eq_ (D.region (fun j => true) mixed (Dyp 0 rfl (Y.fld fo_Method_1 ty_Is dc rfl) (Dy 1 rfl (Y.ld1 ty_Is rfl ((Has.pt m0).sub (cs' := [_]) 1 rfl) rfl) (Dyp 2 rfl (Y.mv rfl) ?_))))))))))
       obtain ⟨eb46, eo46, ea46, ei46, eh46⟩ := F9.elemI g om
       refine Dyp 3 rfl (Y.ix us_Is f6 rfl ea46 rfl g rfl om) (Dy 4 rfl (Y.ld1 f6 rfl (eh46 _) rfl) (Dyp 5 rfl (Y.mv rfl) (Dyp 6 rfl (Y.fld fo_Method_0 f6 dc rfl) (Dy 7 rfl (Y.ld1 f6 rfl ((Has.pt m0).sub (cs' := [_]) 0 rfl) rfl) ?_))))
       obtain ⟨eb51, eo51, ea51, ei51, eh51⟩ := hs.elemI D7.toNat om
       refine Dyp 8 rfl (Y.ix us_Is f6 rfl ea51 rfl D7.toNat om om) (Dy 9 rfl (Y.ld1 f6 rfl (eh51 _) rfl) (Dyp 10 rfl (Y.sub rfl rfl om om) (D.st 11 rfl rfl kr (fun _ => rfl) (N.call0 H1 rfl rfl rfl dc (fun w Lp hA => trivial)) (fun _ _ => (Ent.b (fun q54 => ?_) (fun q54 => ?_))))))
       ·refine Dyp 12 rfl (Y.not (b := true) rfl) (Dyp 13 rfl (Y.mv rfl) (Dyp 14 rfl (Y.mv rfl) (Dyp 15 rfl (Y.gtr rfl rfl) (Ent.d (fun q58 => ?_) (fun q58 => ?_)))))
        ·refine Dyp 16 rfl (Y.mv rfl) (Dyp 17 rfl (Y.fld fo_Method_1 ty_Is dc rfl) (Dy 18 rfl (Y.ld1 ty_Is rfl ((Has.pt m0).sub (cs' := [_]) 1 rfl) rfl) (Dyp 19 rfl (Y.mv rfl) (Dyp 20 rfl (Y.ix us_Is f6 rfl ea46 rfl g rfl om) (Dy 21 rfl (Y.ld1 f6 rfl (eh46 _) rfl) (Dyp 22 rfl (Y.fld fo_Method_1 ty_Is dc rfl) (Dy 23 rfl (Y.ld1 ty_Is rfl ((Has.pt m0).sub (cs' := [_]) 1 rfl) rfl) (Dyp 24 rfl (Y.mv rfl) (Dyp 25 rfl (Y.sub rfl rfl om om) ?_)))))))))
         obtain ⟨eb69, eo69, ea69, ei69, eh69⟩ := F9.elemI (g - 1) om
         refine Dyp 26 rfl (Y.ix us_Is f6 rfl ea69 rfl (g - 1) om om) (Dy 27 rfl (Y.ld1 f6 rfl (eh69 _) rfl) (Dyp 28 rfl (Y.leq rfl rfl) (Ent.d (fun q71 => ?_) (fun q71 => ?_))))
         ·refine Dyp 29 rfl (Y.pkt rfl rfl) (Dyp 30 rfl (Y.pkf rfl rfl) (D.done kr (Et (E.ct rfl (Ew Z1 (Eas rfl rfl ?_))))))
          exact Eu (E.ret (E.blr (E.thr (E.thr (E.blr (E.thr (Fb rfl rfl (by grind [M6, V7, G0, B7, L6, K8, K7, M8, ltB, d1, d2, t1, t2]))))))))
         ·refine Dyp 29 rfl (Y.pkt rfl rfl) (Dyp 30 rfl (Y.pkf rfl rfl) (D.done kr (Et (E.cf rfl (E.skipc (E.bln (Et (Ez Z3 (Emv rfl rfl (Ey rfl ((Y.add rfl rfl om om).yd) (Eas rfl rfl ?_)))))))))))
          exact Eu (E.again br (g + 1) rs (.refl _) ⟨by omega, by grind [L6, K8, K7, M8, ltB, B7, d1, d2, t1, t2]⟩ om)
        ·refine Dyp 16 rfl (Y.mv rfl) (Dsk 17 rfl (Dsk 18 rfl (Dsk 19 rfl (Dsk 20 rfl (Dsk 21 rfl (Dsk 22 rfl (Dsk 23 rfl (Dsk 24 rfl (Dsk 25 rfl (Dsk 26 rfl (Dsk 27 rfl (Dsk 28 rfl (Dyp 29 rfl (Y.pkf rfl rfl) (Dyp 30 rfl (Y.pkf rfl rfl) (D.done kr (Et (E.cf rfl (E.skipc (E.bln (Et (Ez Z3 (Emv rfl rfl (Ey rfl ((Y.add rfl rfl om om).yd) (Eas rfl rfl ?_))))))))))))))))))))))))
         exact Eu (E.again br (g + 1) rs (.refl _) ⟨by omega, by grind [L6, K8, K7, M8, ltB, B7, d1, d2, t1, t2]⟩ om)
       ·refine Dyp 12 rfl (Y.not (b := false) rfl) (Dyp 13 rfl (Y.mv rfl) (Dsk 14 rfl (Dsk 15 rfl (D.sku 16 rfl rfl dc kr (Dsk 17 rfl (Dsk 18 rfl (Dsk 19 rfl (Dsk 20 rfl (Dsk 21 rfl (Dsk 22 rfl (Dsk 23 rfl (Dsk 24 rfl (Dsk 25 rfl (Dsk 26 rfl (Dsk 27 rfl (Dsk 28 rfl (Dsk 29 rfl (Dyp 30 rfl (Y.pkt rfl rfl) (D.done kr (Et (E.ct rfl (Ew Z1 (Eas rfl rfl ?_)))))))))))))))))))))))
        exact Eu (E.ret (E.blr (E.thr (E.thr (E.blr (E.thr (Fb rfl rfl (by grind [M6, V7, G0, B7, L6, K8, K7, M8, ltB, d1, d2, t1, t2]))))))))
      ·refine Eu (E.cf rfl (E.exit (E.the (E.the (E.blh (Et (Ew Z1 (Eas rfl rfl ?_))))))))
       exact Eu (E.ret (Fb rfl rfl (by grind [M6, V7, G0, B7, L6, K8, K7, M8, ltB, d1, d2, t1, t2])))
     ·refine Ey rfl ((Y.not (b := false) rfl).yd) (Ey rfl ((Y.pkf rfl rfl).yd) (Eu (E.ct rfl (Ew Z1 (Eas rfl rfl ?_)))))
      exact Eu (E.ret (E.thr (Fb rfl rfl (by grind [M6, V7, G0, B7, L6, K8, K7, M8, ltB, d1, d2, t1, t2]))))
    ·refine Ey rfl ((Y.not (b := false) rfl).yd) (Ey rfl ((Y.pkf rfl rfl).yd) (Emv rfl rfl (Es rfl (Es rfl (Es rfl (Es rfl (Ey rfl ((Y.pkt rfl rfl).yd) (Eu (E.ct rfl (Ew Z1 (Eas rfl rfl ?_)))))))))))
     exact Eu (E.ret (E.thr (Fb rfl rfl (by grind [M6, V7, G0, B7, L6, K8, K7, M8, ltB, d1, d2, t1, t2]))))
   ·refine Ey rfl ((Y.not (b := false) rfl).yd) (Ey rfl ((Y.pkf rfl rfl).yd) (Emv rfl rfl (Es rfl (Es rfl (Es rfl (Es rfl (Ey rfl ((Y.pkt rfl rfl).yd) (Emv rfl rfl (Es rfl (Es rfl (Es rfl (Es rfl (Ey rfl ((Y.pkt rfl rfl).yd) (Eu (E.ct rfl (Ew Z1 (Eas rfl rfl ?_)))))))))))))))))
    exact Eu (E.ret (E.thr (Fb rfl rfl (by grind [M6, V7, G0, B7, L6, K8, K7, M8, ltB, d1, d2, t1, t2]))))
  ·refine Ey rfl ((Y.not (b := false) rfl).yd) (Ey rfl ((Y.pkf rfl rfl).yd) (Emv rfl rfl (Es rfl (Es rfl (Es rfl (Es rfl (Ey rfl ((Y.pkt rfl rfl).yd) (Emv rfl rfl (Es rfl (Es rfl (Es rfl (Es rfl (Ey rfl ((Y.pkt rfl rfl).yd) (Emv rfl rfl (Es rfl (Es rfl (Es rfl (Es rfl (Ey rfl ((Y.pkt rfl rfl).yd) (Eu (E.ct rfl (Ew Z1 (Eas rfl rfl ?_)))))))))))))))))))))))
   exact Eu (E.ret (E.thr (Fb rfl rfl (by grind [M6, V7, G0, B7, L6, K8, K7, M8, ltB, d1, d2, t1, t2]))))
 ·refine Ey rfl ((Y.not (b := false) rfl).yd) (Emv rfl rfl (Es rfl (Es rfl (Es rfl (Es rfl (Es rfl (Es rfl (Es rfl (Ey rfl ((Y.pkt rfl rfl).yd) (Emv rfl rfl (Es rfl (Es rfl (Es rfl (Es rfl (Ey rfl ((Y.pkt rfl rfl).yd) (Emv rfl rfl (Es rfl (Es rfl (Es rfl (Es rfl (Ey rfl ((Y.pkt rfl rfl).yd) (Emv rfl rfl (Es rfl (Es rfl (Es rfl (Es rfl (Ey rfl ((Y.pkt rfl rfl).yd) (Eu (E.ct rfl (Ew Z1 (Eas rfl rfl ?_)))))))))))))))))))))))))))))))
  exact Eu (E.ret (E.thr (Fb rfl rfl (by grind [M6, V7, G0, B7, L6, K8, K7, M8, ltB, d1, d2, t1, t2]))))
theorem a4N {b_s : Nat} : Tr Tryz.prog 149 [.agg #[.int .i64 D7, .slice D9 E8 D8, .int .i64 C3, .int .i64 E2, .int .i64 C4], .pointer (some ⟨b_s, 0, none⟩)] (fun w L => (I64 D7 ∧ Ro w L eIs [.slice D9 E8 D8] u9 ∧ I64 C3 ∧ I64 E2 ∧ I64 C4) ∧ RoPt w L b_s [.slice a_s m_s c_s] ∧ Ro w L eIs [.slice a_s m_s c_s] s) [] (κ := Unit) (fun k => True) (fun k => .bool (!M6 s (D7, u9, C3, E2, C4))) (fun k => []) := by
 refine Tr.intro Tryz.func149 rfl (n := 8) rfl (by decide +kernel) bl (fr := [(0, .agg #[.int .i64 D7, .slice D9 E8 D8, .int .i64 C3, .int .i64 E2, .int .i64 C4]), (1, .pointer (some ⟨b_s, 0, none⟩))]) rfl fun w L hR => ?_
 obtain ⟨⟨a0V, F9, V8, Y8, V9⟩, hb_s, hs⟩ := hR
 obtain ⟨rfl, a1z⟩ := F9.slen
 obtain ⟨rfl, ls⟩ := hs.slen
 refine Ew Z2 (Est rfl (N.box (cs := [_, _, _, _, _]) rfl dc rfl) (fun b2 _ => (Eas rfl rfl (Ev Z5 (Ey rfl (Y.ld1 ty_Is rfl (hb_s.has) rfl) (Ey rfl (Y.ldS (cs := [_, _, _, _, _]) ty_Method rfl (Has.pt m0) rfl) (Est rfl (N.call0 a7c rfl rfl rfl dc (fun w Lp hA => ⟨hA.ro hs, a0V, hA.ro F9, V8, Y8, V9⟩)) (fun _ _ => (Ey rfl ((Y.not rfl).yd) (Eas rfl rfl ?_))))))))))
 exact Eu (E.ret (Fb rfl rfl (by grind [d1, d2, t1, t2])))
theorem a5R : Tr Tryz.prog 71 [.slice a_s m_s c_s, .slice a_l m_l c_l] (fun w L => Ro w L eIs [.slice a_s m_s c_s] s ∧ Ro w L D3 [.slice a_l m_l c_l] l) [] (κ := Unit) (fun k => True) (fun k => .bool (x8 s l)) (fun k => []) := by
 refine Tr.intro Tryz.func71 rfl (n := 18) rfl (by decide +kernel) bl (fr := [(0, .slice a_s m_s c_s), (1, .slice a_l m_l c_l)]) rfl fun w L hR => ?_
 obtain ⟨hs, hl⟩ := hR
 obtain ⟨rfl, ls⟩ := hs.slen
 obtain ⟨rfl, ll⟩ := hl.slen
 refine Ew Z2 (Est rfl (N.box (cs := [_]) rfl dc rfl) (fun b2 _ => (Eas rfl rfl (Ev Z14 (Ey rfl (Y.ld1 ty_Is rfl (Has.pt m0) rfl) (Est rfl (N.call0 a0l rfl rfl rfl dc (fun w Lp hA => hA.ro hs)) (fun _ _ => (Ent.b (fun q6 => ?_) (fun q6 => ?_)))))))))
 ·refine Emv rfl rfl (Emv rfl rfl (Ey rfl ((Y.len us_Methods rfl).yd) (Ey rfl ((Y.leq rfl rfl).yd) (Ent.d (fun q10 => ?_) (fun q10 => ?_)))))
  ·refine Ey rfl ((Y.pkt rfl rfl).yd) (Emv rfl rfl (Emv rfl rfl (Ey rfl ((Y.fn (vs := [_]) rfl).yd) (Est rfl (N.call0 (a3T (f := (fun z => !M6 s z)) (D_f := (fun _ => True)) (by intros; exact trivial)) rfl rfl rfl dc (fun w Lp hA => ⟨hA.ro hl, FnP.ofMethod (D := (fun _ => True)) (fun hd => a4N) (fun w' hk => ⟨(hA.pt m0).keep hk, (hA.ro hs).keep hk⟩)⟩)) (fun _ _ => (Ey rfl ((Y.not rfl).yd) (Ey rfl ((Y.pkt rfl rfl).yd) (Eas rfl rfl ?_))))))))
   exact Eu (E.ret (Fb rfl rfl (by grind [x8, d1, d2, t1, t2])))
  ·refine Ey rfl ((Y.pkt rfl rfl).yd) (Emv rfl rfl (Es rfl (Es rfl (Es rfl (Es rfl (Ey rfl ((Y.pkf rfl rfl).yd) (Eas rfl rfl ?_)))))))
   exact Eu (E.ret (Fb rfl rfl (by grind [x8, d1, d2, t1, t2])))
 ·refine Emv rfl rfl (Es rfl (Es rfl (Es rfl (Ey rfl ((Y.pkf rfl rfl).yd) (Emv rfl rfl (Es rfl (Es rfl (Es rfl (Es rfl (Ey rfl ((Y.pkf rfl rfl).yd) (Eas rfl rfl ?_)))))))))))
  exact Eu (E.ret (Fb rfl rfl (by grind [x8, d1, d2, t1, t2])))
theorem a5U : Tr Tryz.prog 62 [.slice a_s m_s c_s, .slice a_l m_l c_l] (fun w L => Ro w L eIs [.slice a_s m_s c_s] s ∧ Ro w L D3 [.slice a_l m_l c_l] l) [] (κ := Unit) (fun k => True) (fun k => .bool (x8 s l)) (fun k => []) := by
 refine Tr.intro Tryz.func62 rfl (n := 26) rfl (by decide +kernel) bl (fr := [(0, .slice a_s m_s c_s), (1, .slice a_l m_l c_l)]) rfl fun w L hR => ?_
 obtain ⟨hs, hl⟩ := hR
 obtain ⟨rfl, ls⟩ := hs.slen
 obtain ⟨rfl, ll⟩ := hl.slen
 refine Ew Z1 (Eas rfl rfl (Eu (Eq_ (Ew Z1 (Eas rfl rfl (Eu (E.block (E.loop (κ := Nat) (fun g => g ≤ l.length ∧ l.any (fun m => !M6 s m) = (l.drop g).any (fun m => !M6 s m)) (fun g => [(0, .slice a_s s.length c_s), (1, .slice a_l l.length c_l), (5, .int .i64 (g : Int))]) (fun g => []) (fun g => l.length - g) 0 ⟨Nat.zero_le _, by simp⟩ ⟨rfl, rfl, rfl, trivial⟩ (.refl _) (fun g pg => ?_)))))))))
 obtain ⟨pk, pa⟩ := pg
 refine Eq_ (Ew Z4 (Emv rfl rfl (Emv rfl rfl (Ey rfl ((Y.len us_Methods rfl).yd) (Ey rfl ((Y.lss rfl rfl).yd) (Ent.d (fun q9 => ?_) (fun q9 => ?_)))))))
 ·refine Eu (E.ct rfl (E.skipc (Et (Eq_ (E.block (Ew Z7 (Emv rfl rfl (Emv rfl rfl (Emv rfl rfl ?_)))))))))
  obtain ⟨eb15, eo15, ec15, ea15, er15, el15, eh15⟩ := hl.elem g om
  obtain ⟨xa15_0, xc15_0, rfl, ei15_0, xh15_0, ei15_2, ei15_3, ei15_4⟩ := Ro.pMethod er15
  have := xh15_0.slen.2
  refine Ey rfl ((Y.ix us_Methods ty_Method rfl ea15 rfl g rfl om).yd) (Ey rfl (Y.ldS (cs := [_, _, _, _, _]) ty_Method rfl (eh15 _) rfl) (Est rfl (N.call0 a6R rfl rfl rfl dc (fun w Lp hA => ⟨hA.ro hs, ei15_0, hA.ro xh15_0, ei15_2, ei15_3, ei15_4⟩)) (fun _ _ => (Ent.b (fun q17 => ?_) (fun q17 => ?_)))))
  ·refine Ey rfl ((Y.not (b := true) rfl).yd) (Eu (E.cf rfl (E.skipc (E.bln (Et (Ez Z3 (Emv rfl rfl (Ey rfl ((Y.add rfl rfl om om).yd) (Eas rfl rfl ?_)))))))))
   exact Eu (E.again br (g + 1) rs (.refl _) ⟨by omega, by grind [d1, d2, t1, t2]⟩ om)
  ·refine Ey rfl ((Y.not (b := false) rfl).yd) (Eu (E.ct rfl (Ew Z1 (Eas rfl rfl ?_))))
   exact Eu (E.ret (E.blr (E.thr (E.thr (E.blr (E.thr (Fb rfl rfl (by grind [x8, d1, d2, t1, t2]))))))))
 ·refine Eu (E.cf rfl (E.exit (E.the (E.the (E.blh (Et (Ew Z8 (Emv rfl rfl (Est rfl (N.call0 S1 rfl rfl rfl dc (fun w Lp hA => hA.ro hs)) (fun _ _ => (Ent.b (fun q20 => ?_) (fun q20 => ?_))))))))))))
  ·refine Emv rfl rfl (Emv rfl rfl (Ey rfl ((Y.len us_Methods rfl).yd) (Ey rfl ((Y.leq rfl rfl).yd) (Ey rfl ((Y.pkt rfl rfl).yd) (Eas rfl rfl ?_)))))
   exact Eu (E.ret (Fb rfl rfl (by grind [x8, d1, d2, t1, t2])))
  ·refine Emv rfl rfl (Es rfl (Es rfl (Es rfl (Ey rfl ((Y.pkf rfl rfl).yd) (Eas rfl rfl ?_)))))
   exact Eu (E.ret (Fb rfl rfl (by grind [x8, d1, d2, t1, t2])))
theorem a4U {a4v : Int} {J4 : Option Addr} {J5 J6 : Nat} {S7 : List Int} {b_a : Nat} : Tr Tryz.prog 211 [.agg #[.int .i64 a4v, .slice J4 J5 J6], .pointer (some ⟨b_a, 0, none⟩)] (fun w L => (I64 a4v ∧ Ro w L eIs [.slice J4 J5 J6] S7) ∧ RoPt w L b_a [.int .i64 u0, .slice y7 B3 y6] ∧ I64 u0 ∧ Ro w L eIs [.slice y7 B3 y6] x9) [] (κ := Unit) (fun k => True) (fun k => .bool (decide ((a4v, S7) = (u0, x9)))) (fun k => []) := by
 refine Tr.intro Tryz.func211 rfl (n := 7) rfl (by decide +kernel) bl (fr := [(0, .agg #[.int .i64 a4v, .slice J4 J5 J6]), (1, .pointer (some ⟨b_a, 0, none⟩))]) rfl fun w L hR => ?_
 obtain ⟨⟨b1s, R9⟩, hb_a, O7, D5⟩ := hR
 obtain ⟨rfl, a5q⟩ := R9.slen
 obtain ⟨rfl, W0⟩ := D5.slen
 refine Ew Z2 (Est rfl (N.box (cs := [_, _]) rfl dc rfl) (fun b2 _ => (Eas rfl rfl (Ev Z4 (Ey rfl (Y.ldS (cs := [_, _]) ty_Access rfl (Has.pt m0) rfl) (Ey rfl (Y.ldS (cs := [_, _]) ty_Access rfl (hb_a.has) rfl) (Est rfl (N.call0 a5Q rfl rfl rfl dc (fun w Lp hA => ⟨⟨b1s, hA.ro R9, O7, hA.ro D5⟩, trivial⟩)) (fun _ _ => (Eas rfl rfl ?_)))))))))
 exact Eu (E.ret (Fg rfl rfl () rfl rfl))
theorem a6x {l : List (Int × List Int)} : Tr Tryz.prog 125 [.slice a_l m_l c_l, .agg #[.int .i64 u0, .slice y7 B3 y6]] (fun w L => Ro w L u6 [.slice a_l m_l c_l] l ∧ I64 u0 ∧ Ro w L eIs [.slice y7 B3 y6] x9) [] (κ := Unit) (fun k => True) (fun k => .bool (L8 l (u0, x9))) (fun k => []) := by
 refine Tr.intro Tryz.func125 rfl (n := 8) rfl (by decide +kernel) bl (fr := [(0, .slice a_l m_l c_l), (1, .agg #[.int .i64 u0, .slice y7 B3 y6])]) rfl fun w L hR => ?_
 obtain ⟨hl, O7, D5⟩ := hR
 obtain ⟨rfl, ll⟩ := hl.slen
 obtain ⟨rfl, W0⟩ := D5.slen
 refine Ew Z2 (Est rfl (N.box (cs := [_, _]) rfl dc rfl) (fun b3 _ => (Eas rfl rfl (Ev Z4 (Emv rfl rfl (Ey rfl ((Y.fn (vs := [_]) rfl).yd) (Est rfl (N.call0 (a3R (f := (fun z => decide (z = (u0, x9)))) (D_f := (fun _ => True)) (by intros; exact trivial)) rfl rfl rfl dc (fun w Lp hA => ⟨hA.ro hl, FnP.ofAccess (D := (fun _ => True)) (fun hd => a4U) (fun w' hk => ⟨(hA.pt m0).keep hk, O7, (hA.ro D5).keep hk⟩)⟩)) (fun _ _ => (Eas rfl rfl ?_)))))))))
 exact Eu (E.ret (Fb rfl rfl (by rfl)))
theorem a6S {a_log : Option Addr} {m_log c_log : Nat} {log : List (Int × List Int)} : Tr Tryz.prog 86 [.slice a_log m_log c_log, .agg #[.int .i64 u0, .slice y7 B3 y6]] (fun w L => Ro w L u6 [.slice a_log m_log c_log] log ∧ I64 u0 ∧ Ro w L eIs [.slice y7 B3 y6] x9) [] (κ := Unit) (fun k => True) (fun k => .bool (L8 log (u0, x9))) (fun k => []) := by
 refine Tr.intro Tryz.func86 rfl (n := 18) rfl (by decide +kernel) bl (fr := [(0, .slice a_log m_log c_log), (1, .agg #[.int .i64 u0, .slice y7 B3 y6])]) rfl fun w L hR => ?_
 obtain ⟨hlog, O7, D5⟩ := hR
 obtain ⟨rfl, llog⟩ := hlog.slen
 obtain ⟨rfl, W0⟩ := D5.slen
 refine Ew Z2 (Est rfl (N.box (cs := [_, _]) rfl dc rfl) (fun b3 _ => (Eas rfl rfl (Eu (Eq_ (Ew Z1 (Eas rfl rfl (Eu (E.block (E.loop (κ := Nat) (fun g => g ≤ log.length ∧ L8 log (u0, x9) = L8 (log.drop g) (u0, x9)) (fun g => [(0, .slice a_log log.length c_log), (3, .pointer (some ⟨b3, 0, none⟩)), (5, .int .i64 (g : Int))]) (fun g => [pt b3 133 [.int .i64 u0, .slice y7 x9.length y6]]) (fun g => log.length - g) 0 ⟨Nat.zero_le _, by simp⟩ ⟨rfl, rfl, rfl, trivial⟩ (.refl _) (fun g pg => ?_)))))))))))
 obtain ⟨pk, pa⟩ := pg
 refine Eq_ (Ew Z4 (Emv rfl rfl (Emv rfl rfl (Ey rfl ((Y.len us_Accesss rfl).yd) (Ey rfl ((Y.lss rfl rfl).yd) (Ent.d (fun q9 => ?_) (fun q9 => ?_)))))))
 ·refine Eu (E.ct rfl (E.skipc (Et (Eq_ (E.block (Eq_ (D.region (fun j => true) mixed (Dyp 0 rfl (Y.mv rfl) (Dyp 1 rfl (Y.mv rfl) ?_)))))))))
  obtain ⟨eb14, eo14, ec14, ea14, er14, el14, eh14⟩ := hlog.elem g om
  obtain ⟨xa14_0, xc14_0, rfl, ei14_0, xh14_0⟩ := Ro.pAccess er14
  have := xh14_0.slen.2
  refine Dyp 2 rfl (Y.ix us_Accesss ty_Access rfl ea14 rfl g rfl om) (Dy 3 rfl (Y.ldS (cs := [_, _]) ty_Access rfl (eh14 _) rfl) (Dy 4 rfl (Y.ldS (cs := [_, _]) ty_Access rfl (Has.pt m0) rfl) (D.st 5 rfl rfl kr (fun _ => rfl) (N.call0 a9n rfl rfl rfl dc (fun w Lp hA => ⟨ei14_0, hA.ro xh14_0, O7, hA.ro D5⟩)) (fun _ _ => (Ent.b (fun q17 => ?_) (fun q17 => ?_))))))
  ·refine D.done kr (Et (E.ct rfl (Ew Z1 (Eas rfl rfl ?_))))
   exact Eu (E.ret (E.blr (E.thr (E.thr (E.blr (E.thr (Fb rfl rfl (by grind [L8, d1, d2, t1, t2]))))))))
  ·refine D.done kr (Et (E.cf rfl (E.skipc (E.bln (Et (Ez Z3 (Emv rfl rfl (Ey rfl ((Y.add rfl rfl om om).yd) (Eas rfl rfl ?_)))))))))
   exact Eu (E.again br (g + 1) rs (.refl _) ⟨by omega, by grind [L8, d1, d2, t1, t2]⟩ om)
 ·refine Eu (E.cf rfl (E.exit (E.the (E.the (E.blh (Et (Ew Z1 (Eas rfl rfl ?_))))))))
  exact Eu (E.ret (Fb rfl rfl (by grind [L8, d1, d2, t1, t2])))
theorem a3z {m : Int} (hz : f8.length ≤ 1048576) : Tr Tryz.prog 114 [.int .i64 m, .slice a_values m_values c_values] (fun w L => I64 m ∧ Ro w L eIs [.slice a_values m_values c_values] f8) [] (κ := Option Addr × Nat × Nat) (fun k => True) (fun k => .agg #[.int .i64 m, .slice k.1 k.2.1 k.2.2]) (fun k => [ow eIs [.slice k.1 k.2.1 k.2.2] f8]) := by
 refine Tr.intro Tryz.func114 rfl (n := 10) rfl (by decide +kernel) bl (fr := [(0, .int .i64 m), (1, .slice a_values m_values c_values)]) rfl fun w L hR => ?_
 obtain ⟨i6m, hvalues⟩ := hR
 obtain ⟨rfl, lvalues⟩ := hvalues.slen
 refine Ew Z1 (Est rfl (N.alloc ty_Access dc) (fun b4 _ => (Ev Z6 (Emv rfl rfl (Est rfl (N.bsl (pvs := []) (cs := []) us_Is f6 rfl dc dc (o9 rfl rfl) rfl dc) (fun b6 _ => (Ent.drop (Emv rfl rfl (Est rfl (N.pushR0 (E := Enc.int) Plain.int us_Is f6 rfl rfl rfl hvalues bn bn dc) (fun p8 _ => (Ey rfl ((Y.bld (pvs := [_, _]) (cs := [_, _]) ty_Access a5p rfl rfl).yd) (Ent.p1 (Est rfl (N.sto (vs := [_, _]) (cs' := [_, _]) ty_Access rfl rfl rfl rfl rfl bl rfl) (fun _ _ => (Eu (E.ret (Ent.p1 ?_)))))))))))))))))
 exact F.c1 br rfl rfl (mS m0) ty_Access rfl (_, _, _) trivial rfl (J := _) (.refl _) (.inl rfl)
theorem a9w (hv : f8.length ≤ 10) (hn : 0 ≤ n ∧ n ≤ 3) : Tr Tryz.prog 319 [.slice a_values m_values c_values, .int .i64 n] (fun w L => Ro w L eIs [.slice a_values m_values c_values] f8) [] (κ := Option Addr × Nat × Nat) (fun k => True) (fun k => .slice k.1 k.2.1 k.2.2) (fun k => [ow O5 [.slice k.1 k.2.1 k.2.2] (j7 f8 n.toNat)]) := by
 refine Tr.intro Tryz.func319 rfl (n := 42) rfl (by decide +kernel) bl (fr := [(0, .slice a_values m_values c_values), (1, .int .i64 n)]) rfl fun w L hR => ?_
 have hvalues := hR
 obtain ⟨rfl, lvalues⟩ := hvalues.slen
 have ji := hvalues.i64
 refine Ew Z1 (Eas rfl rfl (Ev Z3 (Est rfl (N.bsl (pvs := []) (cs := []) us_Is f6 rfl dc dc (o9 rfl rfl) rfl dc) (fun b11 _ => (Ent.drop (Est rfl (N.bsl (pvs := [_]) (cs := [_]) us_Iss ty_Is rfl dc dc (o9 rfl rfl) rfl dc) (fun b12 _ => (Ent.mkow (A := _ :: _) (Own.row1 (E := eIs) (e := tIs) Own.nil) rfl (Eas rfl rfl (Eu (Eq_ (Ew Z2 (Emv rfl rfl (Emv rfl rfl (Eu (E.block (Ent.cv (congrArg (ow O5 [_]) (show [[]] = j7 f8 0 from by first | rfl | (simp; done) | grind [j7, J9, G7, d1, d2, t1, t2])) (E.loop (κ := Nat × Option Addr × Nat × Nat) (fun t => t.1 ≤ n.toNat ∧ True) (fun t => [(0, .slice a_values f8.length c_values), (5, .slice t.2.1 t.2.2.1 t.2.2.2), (13, .int .i64 n), (14, .int .i64 (↑t.1 : Int))]) (fun t => [ow O5 [.slice t.2.1 t.2.2.1 t.2.2.2] (j7 f8 t.1)]) (fun t => n.toNat - t.1) (0, (some ⟨b12, 0, none⟩), 1, 1) ⟨Nat.zero_le _, by simp⟩ ⟨rfl, rfl, rfl, rfl, trivial⟩ (.refl _) (fun t pt => ?_)))))))))))))))))))
 obtain ⟨t, aA0_0, mA0_0, cA0_0⟩ := t
 try dsimp only at pt
 try dsimp only
 obtain ⟨pk, pa⟩ := pt
 refine Ent.lenow m0 fun eaA0_0 laA0_0 => ?_
 subst eaA0_0
 have jl := a3f (f8 := f8) (t := t) hv om
 refine Ew Z1 (Ey rfl ((Y.lss rfl rfl).yd) (Ent.d (fun q15 => ?_) (fun q15 => ?_)))
 ·refine Ent.rebase (A := [_]) rfl fun wb1 Lb1 hB1 hA1 => ?_
  have hvalues := hA1.ro hvalues
  have rb1 : Ro wb1 Lb1 O5 [.slice aA0_0 (j7 f8 t).length cA0_0] (j7 f8 t) := hA1.ow m0
  refine Eu (Eq_ (E.ct rfl (E.skipc (Et (Eq_ (E.block (Ew Z2 (Est rfl (N.bsl (pvs := []) (cs := []) us_Iss ty_Is rfl dc dc (o9 rfl rfl) rfl dc) (fun b16 _ => (Ent.drop (Eas rfl rfl (Eu (Eq_ (Ew Z3 (Emv rfl rfl (Ey rfl ((Y.len us_Iss rfl).yd) (Emv rfl rfl (Eu (E.block (Ent.mkow (A := []) (Own.nil (E := eIs) (e := tIs) (a := (some ⟨b16, 0, none⟩))) rfl (Ent.cv (congrArg (ow O5 [_]) (show [] = ((j7 f8 t).take 0).flatMap (fun l => f8.map (fun v => l ++ [v])) from by first | rfl | (simp; done) | grind [j7, J9, G7, d1, d2, t1, t2])) (E.loop (κ := Nat × Option Addr × Nat × Nat) (fun k => k.1 ≤ (j7 f8 t).length ∧ True) (fun k => [(0, .slice a_values f8.length c_values), (6, .slice k.2.1 k.2.2.1 k.2.2.2), (13, .int .i64 n), (14, .int .i64 (t : Int)), (17, .slice aA0_0 (j7 f8 t).length cA0_0), (18, .int .i64 (↑((j7 f8 t).length) : Int)), (19, .int .i64 (↑k.1 : Int))]) (fun k => [ow O5 [.slice k.2.1 k.2.2.1 k.2.2.2] (((j7 f8 t).take k.1).flatMap (fun l => f8.map (fun v => l ++ [v])))]) (fun k => (j7 f8 t).length - k.1) (0, (some ⟨b16, 0, none⟩), 0, 0) ⟨Nat.zero_le _, by simp⟩ ⟨rfl, rfl, rfl, rfl, rfl, rfl, rfl, trivial⟩ (.refl _) (fun k pk => ?_)))))))))))))))))))))))
  obtain ⟨k, aA1_0, mA1_0, cA1_0⟩ := k
  try dsimp only at pk
  try dsimp only
  obtain ⟨pk, pa⟩ := pk
  refine Ent.lenow m0 fun eaA1_0 laA1_0 => ?_
  subst eaA1_0
  have jk := a4Y (f8 := f8) (l := j7 f8 t) (k := k) hv
  refine Ew Z1 (Ey rfl ((Y.lss rfl rfl).yd) (Ent.d (fun q20 => ?_) (fun q20 => ?_)))
  ·obtain ⟨eb21, eo21, ec21, ea21, er21, el21, eh21⟩ := rb1.elem k om
   obtain ⟨xa21, xc21, rfl⟩ := er21.sl
   have := er21.slen.2
   refine Eu (Eq_ (E.ct rfl (E.skipc (Et (Eq_ (E.block (Ew Z3 (Ey rfl ((Y.ix us_Iss ty_Is rfl ea21 rfl k rfl om).yd) (Ey rfl (Y.ld1 ty_Is rfl (eh21 _) rfl) (Eas rfl rfl (Ev Z3 (Emv rfl rfl (Ey rfl ((Y.len us_Is rfl).yd) (Emv rfl rfl (Eu (E.block (Ent.cv (congrArg (ow O5 [_]) (show ((j7 f8 t).take k).flatMap (fun l => f8.map (fun v => l ++ [v])) = ((j7 f8 t).take k).flatMap (fun l => f8.map (fun v => l ++ [v])) ++ (f8.take 0).map (fun v => (j7 f8 t)[k] ++ [v]) from by first | rfl | (simp; done) | grind [j7, J9, G7, d1, d2, t1, t2])) (E.loop (κ := Nat × Option Addr × Nat × Nat) (fun j => j.1 ≤ f8.length ∧ True) (fun j => [(0, .slice a_values f8.length c_values), (6, .slice j.2.1 j.2.2.1 j.2.2.2), (8, .slice xa21 ((j7 f8 t)[k].length) xc21), (13, .int .i64 n), (14, .int .i64 (t : Int)), (17, .slice aA0_0 (j7 f8 t).length cA0_0), (18, .int .i64 (↑((j7 f8 t).length) : Int)), (19, .int .i64 (k : Int)), (23, .slice a_values f8.length c_values), (24, .int .i64 (↑f8.length : Int)), (25, .int .i64 (↑j.1 : Int))]) (fun j => [ow O5 [.slice j.2.1 j.2.2.1 j.2.2.2] (((j7 f8 t).take k).flatMap (fun l => f8.map (fun v => l ++ [v])) ++ (f8.take j.1).map (fun v => (j7 f8 t)[k] ++ [v]))]) (fun j => f8.length - j.1) (0, aA1_0, (((j7 f8 t).take k).flatMap (fun l => f8.map (fun v => l ++ [v]))).length, cA1_0) ⟨Nat.zero_le _, by simp⟩ ⟨rfl, rfl, rfl, rfl, rfl, rfl, rfl, rfl, rfl, rfl, rfl, trivial⟩ (.refl _) (fun j pj => ?_)))))))))))))))))))
   obtain ⟨j, aA2_0, mA2_0, cA2_0⟩ := j
   try dsimp only at pj
   try dsimp only
   obtain ⟨pk, pa⟩ := pj
   have jm := G7 (f8 := f8) (t := t) _ (List.getElem_mem (l := j7 f8 t) (n := k) om)
   refine Ent.lenow m0 fun eaA2_0 laA2_0 => ?_
   subst eaA2_0
   refine Ew Z1 (Ey rfl ((Y.lss rfl rfl).yd) (Ent.d (fun q26 => ?_) (fun q26 => ?_)))
   ·obtain ⟨eb27, eo27, ea27, ei27, eh27⟩ := hvalues.elemI j om
    refine Eu (Eq_ (E.ct rfl (E.skipc (Et (Eq_ (E.block (Ew Z3 (Ey rfl ((Y.ix us_Is f6 rfl ea27 rfl j rfl om).yd) (Ey rfl (Y.ld1 f6 rfl (eh27 _) rfl) (Eas rfl rfl (Eu (Ez Z9 (Emv rfl rfl (Emv rfl rfl (Est rfl (N.call (a1R fc) rfl rfl rfl dc rfl (fun w Lp hA => hA.ro er21)) (fun k31 _ => ?_))))))))))))))))
    obtain ⟨a31, m31, c31⟩ := k31
    refine Ent.lenow m0 fun e31 l31 => ?_
    subst e31
    refine Emv rfl rfl (Est rfl (N.bsl (pvs := [_]) (cs := [_]) us_Is f6 rfl dc dc (o9 rfl rfl) rfl dc) (fun b33 _ => (Ent.p1 (Est rfl (N.push (E := Enc.int) (ex := f8[j]) us_Is f6 rfl rfl rfl (Own.int ei27) rfl bn bn dc) (fun p34 _ => (Est rfl (N.bsl (pvs := [_]) (cs := [_]) us_Iss ty_Is rfl dc dc (o9 rfl rfl) rfl dc) (fun b35 _ => (Ent.p1 (Ent.p1 (Ent.p2 (Est rfl (N.push (E := eIs) (ex := ((j7 f8 t)[k]) ++ [f8[j]]) us_Iss ty_Is rfl rfl rfl Own.ow rfl bn bn dc) (fun p36 _ => (Eas rfl rfl (En (E.bln (Et (Ez Z2 (Ey rfl ((Y.add rfl rfl om om).yd) (Emv rfl rfl (Eu (Ent.cv (congrArg (ow O5 [_]) (show (((j7 f8 t).take k).flatMap (fun l => f8.map (fun v => l ++ [v])) ++ (f8.take j).map (fun v => (j7 f8 t)[k] ++ [v])) ++ [((j7 f8 t)[k]) ++ [f8[j]]] = ((j7 f8 t).take k).flatMap (fun l => f8.map (fun v => l ++ [v])) ++ (f8.take (j + 1)).map (fun v => (j7 f8 t)[k] ++ [v]) from by grind [j7, J9, G7, d1, d2, t1, t2])) ?_)))))))))))))))))))))
    exact Ea (j + 1, p36.1, ((((j7 f8 t).take k).flatMap (fun l => f8.map (fun v => l ++ [v])) ++ (f8.take j).map (fun v => (j7 f8 t)[k] ++ [v])).length + 1), p36.2) ⟨oz, trivial⟩
   ·refine Eu (Eq_ (E.cf rfl (E.exit (E.the (E.the (E.blh (E.bln (Et (Ez Z2 (Ey rfl ((Y.add rfl rfl om om).yd) (Emv rfl rfl (Eu (Ent.cv (congrArg (ow O5 [_]) (show ((j7 f8 t).take k).flatMap (fun l => f8.map (fun v => l ++ [v])) ++ (f8.take j).map (fun v => (j7 f8 t)[k] ++ [v]) = ((j7 f8 t).take (k + 1)).flatMap (fun l => f8.map (fun v => l ++ [v])) from by grind [j7, J9, G7, d1, d2, t1, t2])) ?_)))))))))))))
    exact Ea (k + 1, aA2_0, (((j7 f8 t).take k).flatMap (fun l => f8.map (fun v => l ++ [v])) ++ (f8.take j).map (fun v => (j7 f8 t)[k] ++ [v])).length, cA2_0) ⟨oz, trivial⟩
  ·refine Eu (Eq_ (E.cf rfl (E.exit (E.the (E.the (E.blh (Et (Ez Z2 (Emv rfl rfl (Eas rfl rfl (En (E.bln (Et (Ez Z2 (Ey rfl ((Y.add rfl rfl om om).yd) (Emv rfl rfl (Eu (Ent.cv (congrArg (ow O5 [_]) (show ((j7 f8 t).take k).flatMap (fun l => f8.map (fun v => l ++ [v])) = j7 f8 (t + 1) from by grind [j7, J9, G7, d1, d2, t1, t2])) ?_))))))))))))))))))
   exact E.again hB1 (t + 1, aA1_0, (((j7 f8 t).take k).flatMap (fun l => f8.map (fun v => l ++ [v]))).length, cA1_0) rs (.refl _) ⟨oz, trivial⟩ oz
 ·refine Eu (Eq_ (E.cf rfl (E.exit (E.the (E.the (E.blh (Et (Ew Z2 (Emv rfl rfl (Eas rfl rfl (Eu (E.ret (Ent.cv (congrArg (ow O5 [_]) (show _ = j7 f8 n.toNat by grind [j7, J9, G7, d1, d2, t1, t2])) ?_)))))))))))))
  exact Fg rfl rfl (_, _, _) rfl rfl
theorem a7G (hv : f8.length ≤ 10) (hn : 0 ≤ n ∧ n ≤ 3) : Tr Tryz.prog 301 [.slice a_values m_values c_values, .int .i64 n] (fun w L => Ro w L eIs [.slice a_values m_values c_values] f8) [] (κ := Option Addr × Nat × Nat) (fun k => True) (fun k => .slice k.1 k.2.1 k.2.2) (fun k => [ow O5 [.slice k.1 k.2.1 k.2.2] (j7 f8 n.toNat)]) := by
 refine Tr.intro Tryz.func301 rfl (n := 47) rfl (by decide +kernel) bl (fr := [(0, .slice a_values m_values c_values), (1, .int .i64 n)]) rfl fun w L hR => ?_
 have hvalues := hR
 obtain ⟨rfl, lvalues⟩ := hvalues.slen
 have ji := hvalues.i64
 refine Ew Z1 (Eas rfl rfl (Ev Z3 (Est rfl (N.bsl (pvs := []) (cs := []) us_Is f6 rfl dc dc (o9 rfl rfl) rfl dc) (fun b10 _ => (Ent.drop (Est rfl (N.bsl (pvs := [_]) (cs := [_]) us_Iss ty_Is rfl dc dc (o9 rfl rfl) rfl dc) (fun b11 _ => (Ent.mkow (A := _ :: _) (Own.row1 (E := eIs) (e := tIs) Own.nil) rfl (Eas rfl rfl (Eu (Eq_ (Ew Z1 (Eas rfl rfl (Eu (E.block (Ent.cv (congrArg (ow O5 [_]) (show [[]] = j7 f8 0 from by first | rfl | (simp; done) | grind [j7, J9, G7, d1, d2, t1, t2])) (E.loop (κ := Nat × Option Addr × Nat × Nat) (fun t => t.1 ≤ n.toNat ∧ True) (fun t => [(0, .slice a_values f8.length c_values), (1, .int .i64 n), (5, .slice t.2.1 t.2.2.1 t.2.2.2), (6, .int .i64 (↑t.1 : Int))]) (fun t => [ow O5 [.slice t.2.1 t.2.2.1 t.2.2.2] (j7 f8 t.1)]) (fun t => n.toNat - t.1) (0, (some ⟨b11, 0, none⟩), 1, 1) ⟨Nat.zero_le _, by simp⟩ ⟨rfl, rfl, rfl, rfl, trivial⟩ (.refl _) (fun t pt => ?_))))))))))))))))))
 obtain ⟨t, aA0_0, mA0_0, cA0_0⟩ := t
 try dsimp only at pt
 try dsimp only
 obtain ⟨pk, pa⟩ := pt
 refine Ent.lenow m0 fun eaA0_0 laA0_0 => ?_
 subst eaA0_0
 have jl := a3f (f8 := f8) (t := t) hv om
 refine Eq_ (Ew Z3 (Emv rfl rfl (Emv rfl rfl (Ey rfl ((Y.lss rfl rfl).yd) (Ent.d (fun q14 => ?_) (fun q14 => ?_))))))
 ·refine Ent.rebase (A := [_]) rfl fun wb2 Lb2 hB2 hA2 => ?_
  have hvalues := hA2.ro hvalues
  have rb2 : Ro wb2 Lb2 O5 [.slice aA0_0 (j7 f8 t).length cA0_0] (j7 f8 t) := hA2.ow m0
  refine Eu (E.ct rfl (E.skipc (Et (Eq_ (E.block (Ew Z2 (Est rfl (N.bsl (pvs := []) (cs := []) us_Iss ty_Is rfl dc dc (o9 rfl rfl) rfl dc) (fun b17 _ => (Ent.drop (Eas rfl rfl (Eu (Eq_ (Ew Z1 (Eas rfl rfl (Eu (E.block (Ent.mkow (A := []) (Own.nil (E := eIs) (e := tIs) (a := (some ⟨b17, 0, none⟩))) rfl (Ent.cv (congrArg (ow O5 [_]) (show [] = ((j7 f8 t).take 0).flatMap (fun l => f8.map (fun v => l ++ [v])) from by first | rfl | (simp; done) | grind [j7, J9, G7, d1, d2, t1, t2])) (E.loop (κ := Nat × Option Addr × Nat × Nat) (fun k => k.1 ≤ (j7 f8 t).length ∧ True) (fun k => [(0, .slice a_values f8.length c_values), (1, .int .i64 n), (5, .slice aA0_0 (j7 f8 t).length cA0_0), (6, .int .i64 (t : Int)), (7, .slice k.2.1 k.2.2.1 k.2.2.2), (8, .int .i64 (↑k.1 : Int))]) (fun k => [ow O5 [.slice k.2.1 k.2.2.1 k.2.2.2] (((j7 f8 t).take k.1).flatMap (fun l => f8.map (fun v => l ++ [v])))]) (fun k => (j7 f8 t).length - k.1) (0, (some ⟨b17, 0, none⟩), 0, 0) ⟨Nat.zero_le _, by simp⟩ ⟨rfl, rfl, rfl, rfl, rfl, rfl, trivial⟩ (.refl _) (fun k pk => ?_))))))))))))))))))))
  obtain ⟨k, aA1_0, mA1_0, cA1_0⟩ := k
  try dsimp only at pk
  try dsimp only
  obtain ⟨pk, pa⟩ := pk
  refine Ent.lenow m0 fun eaA1_0 laA1_0 => ?_
  subst eaA1_0
  have jk := a4Y (f8 := f8) (l := j7 f8 t) (k := k) hv
  refine Eq_ (Ew Z4 (Emv rfl rfl (Emv rfl rfl (Ey rfl ((Y.len us_Iss rfl).yd) (Ey rfl ((Y.lss rfl rfl).yd) (Ent.d (fun q21 => ?_) (fun q21 => ?_)))))))
  ·refine Eu (E.ct rfl (E.skipc (Et (Eq_ (E.block (Ew Z1 (Eas rfl rfl (Eu (E.block (Ent.cv (congrArg (ow O5 [_]) (show ((j7 f8 t).take k).flatMap (fun l => f8.map (fun v => l ++ [v])) = ((j7 f8 t).take k).flatMap (fun l => f8.map (fun v => l ++ [v])) ++ (f8.take 0).map (fun v => (j7 f8 t)[k] ++ [v]) from by first | rfl | (simp; done) | grind [j7, J9, G7, d1, d2, t1, t2])) (E.loop (κ := Nat × Option Addr × Nat × Nat) (fun j => j.1 ≤ f8.length ∧ True) (fun j => [(0, .slice a_values f8.length c_values), (1, .int .i64 n), (5, .slice aA0_0 (j7 f8 t).length cA0_0), (6, .int .i64 (t : Int)), (7, .slice j.2.1 j.2.2.1 j.2.2.2), (8, .int .i64 (k : Int)), (9, .int .i64 (↑j.1 : Int))]) (fun j => [ow O5 [.slice j.2.1 j.2.2.1 j.2.2.2] (((j7 f8 t).take k).flatMap (fun l => f8.map (fun v => l ++ [v])) ++ (f8.take j.1).map (fun v => (j7 f8 t)[k] ++ [v]))]) (fun j => f8.length - j.1) (0, aA1_0, (((j7 f8 t).take k).flatMap (fun l => f8.map (fun v => l ++ [v]))).length, cA1_0) ⟨Nat.zero_le _, by simp⟩ ⟨rfl, rfl, rfl, rfl, rfl, rfl, rfl, trivial⟩ (.refl _) (fun j pj => ?_))))))))))))
   obtain ⟨j, aA2_0, mA2_0, cA2_0⟩ := j
   try dsimp only at pj
   try dsimp only
   obtain ⟨pk, pa⟩ := pj
   have jm := G7 (f8 := f8) (t := t) _ (List.getElem_mem (l := j7 f8 t) (n := k) om)
   refine Ent.lenow m0 fun eaA2_0 laA2_0 => ?_
   subst eaA2_0
   refine Eq_ (Ew Z4 (Emv rfl rfl (Emv rfl rfl (Ey rfl ((Y.len us_Is rfl).yd) (Ey rfl ((Y.lss rfl rfl).yd) (Ent.d (fun q27 => ?_) (fun q27 => ?_)))))))
   ·refine Eu (E.ct rfl (E.skipc (Et (Eq_ (E.block (E.mid (κ := (Option Addr × Nat)) (fun _ => True) (fun kM => [(0, .slice a_values f8.length c_values), (1, .int .i64 n), (5, .slice aA0_0 (j7 f8 t).length cA0_0), (6, .int .i64 (t : Int)), (7, .slice kM.1 ((((j7 f8 t).take k).flatMap (fun l => f8.map (fun v => l ++ [v])) ++ (f8.take j).map (fun v => (j7 f8 t)[k] ++ [v])).length + 1) kM.2), (8, .int .i64 (k : Int)), (9, .int .i64 (j : Int))]) (fun kM => [ow O5 [.slice kM.1 ((((j7 f8 t).take k).flatMap (fun l => f8.map (fun v => l ++ [v])) ++ (f8.take j).map (fun v => (j7 f8 t)[k] ++ [v])).length + 1) kM.2] ((((j7 f8 t).take k).flatMap (fun l => f8.map (fun v => l ++ [v])) ++ (f8.take j).map (fun v => (j7 f8 t)[k] ++ [v])) ++ [((j7 f8 t)[k]) ++ [f8[j]]])]) ?_ (fun p44 _ => ?_)))))))
    ·refine D.region (fun j => !(Nat.beq j 12) && !(Nat.beq j 14)) mixed (Dyp 0 rfl (Y.mv rfl) (Dyp 2 rfl (Y.mv rfl) (Dyp 3 rfl (Y.mv rfl) ?_)))
     obtain ⟨eb34, eo34, ec34, ea34, er34, el34, eh34⟩ := rb2.elem k om
     obtain ⟨xa34, xc34, rfl⟩ := er34.sl
     have := er34.slen.2
     refine Dyp 4 rfl (Y.ix us_Iss ty_Is rfl ea34 rfl k rfl om) (Dy 5 rfl (Y.ld1 ty_Is rfl (eh34 _) rfl) (Dyp 7 rfl (Y.mv rfl) (Dyp 8 rfl (Y.mv rfl) ?_)))
     obtain ⟨eb39, eo39, ea39, ei39, eh39⟩ := hvalues.elemI j om
     refine Dyp 9 rfl (Y.ix us_Is f6 rfl ea39 rfl j rfl om) (Dy 10 rfl (Y.ld1 f6 rfl (eh39 _) rfl) (D.ch2 (i := 1) (j := 11) kr ?_ ?_))
     ·refine D.pk 1 rfl rfl (fun _ => rfl) (N.bsl (pvs := []) (cs := []) us_Is f6 rfl dc dc (o9 rfl rfl) rfl dc) (fun b31 _ => (Ent.drop (D.ch2 (i := 6) (j := 11) kr ?_ ?_)))
      ·refine D.pk 6 rfl rfl (fun _ => rfl) (N.pushR0 (E := Enc.int) Plain.int us_Is f6 rfl rfl rfl er34 bn bn dc) (fun p36 _ => (D.st 11 rfl rfl kr (fun _ => rfl) (N.bsl (pvs := [_]) (cs := [_]) us_Is f6 rfl dc dc (o9 rfl rfl) rfl dc) (fun b41 _ => (Ent.p1 (D.st 12 rfl rfl kr (fun h => by cases h) (N.push (E := Enc.int) (ex := f8[j]) us_Is f6 rfl rfl rfl (Own.int ei39) rfl bn bn dc) (fun p42 _ => (D.st 13 rfl rfl kr (fun _ => rfl) (N.bsl (pvs := [_]) (cs := [_]) us_Iss ty_Is rfl dc dc (o9 rfl rfl) rfl dc) (fun b43 _ => (Ent.p1 (Ent.p1 (Ent.p2 (D.st 14 rfl rfl kr (fun h => by cases h) (N.push (E := eIs) (ex := ((j7 f8 t)[k]) ++ [f8[j]]) us_Iss ty_Is rfl rfl rfl Own.ow rfl bn bn dc) (fun p44 _ => (Dyp 15 rfl (Y.as rfl) ?_))))))))))))))
       exact D.done kr (E.mdn p44 trivial ⟨rfl, rfl, rfl, rfl, rfl, rfl, rfl, trivial⟩ (.refl _))
      ·refine D.pk 11 rfl rfl (fun _ => rfl) (N.bsl (pvs := [_]) (cs := [_]) us_Is f6 rfl dc dc (o9 rfl rfl) rfl dc) (fun b41 _ => (D.st 6 rfl rfl kr (fun _ => rfl) (N.pushR0 (E := Enc.int) Plain.int us_Is f6 rfl rfl rfl er34 bn bn dc) (fun p36 _ => (Ent.p1 (Ent.p1 (D.st 12 rfl rfl kr (fun h => by cases h) (N.push (E := Enc.int) (ex := f8[j]) us_Is f6 rfl rfl rfl (Own.int ei39) rfl bn bn dc) (fun p42 _ => (D.st 13 rfl rfl kr (fun _ => rfl) (N.bsl (pvs := [_]) (cs := [_]) us_Iss ty_Is rfl dc dc (o9 rfl rfl) rfl dc) (fun b43 _ => (Ent.p1 (Ent.p1 (Ent.p2 (D.st 14 rfl rfl kr (fun h => by cases h) (N.push (E := eIs) (ex := ((j7 f8 t)[k]) ++ [f8[j]]) us_Iss ty_Is rfl rfl rfl Own.ow rfl bn bn dc) (fun p44 _ => (Dyp 15 rfl (Y.as rfl) ?_)))))))))))))))
       exact D.done kr (E.mdn p44 trivial ⟨rfl, rfl, rfl, rfl, rfl, rfl, rfl, trivial⟩ (.refl _))
     ·refine D.pk 11 rfl rfl (fun _ => rfl) (N.bsl (pvs := [_]) (cs := [_]) us_Is f6 rfl dc dc (o9 rfl rfl) rfl dc) (fun b41 _ => (D.st 1 rfl rfl kr (fun _ => rfl) (N.bsl (pvs := []) (cs := []) us_Is f6 rfl dc dc (o9 rfl rfl) rfl dc) (fun b31 _ => (Ent.drop (D.st 6 rfl rfl kr (fun _ => rfl) (N.pushR0 (E := Enc.int) Plain.int us_Is f6 rfl rfl rfl er34 bn bn dc) (fun p36 _ => (Ent.p1 (Ent.p1 (D.st 12 rfl rfl kr (fun h => by cases h) (N.push (E := Enc.int) (ex := f8[j]) us_Is f6 rfl rfl rfl (Own.int ei39) rfl bn bn dc) (fun p42 _ => (D.st 13 rfl rfl kr (fun _ => rfl) (N.bsl (pvs := [_]) (cs := [_]) us_Iss ty_Is rfl dc dc (o9 rfl rfl) rfl dc) (fun b43 _ => (Ent.p1 (Ent.p1 (Ent.p2 (D.st 14 rfl rfl kr (fun h => by cases h) (N.push (E := eIs) (ex := ((j7 f8 t)[k]) ++ [f8[j]]) us_Iss ty_Is rfl rfl rfl Own.ow rfl bn bn dc) (fun p44 _ => (Dyp 15 rfl (Y.as rfl) ?_))))))))))))))))))
      exact D.done kr (E.mdn p44 trivial ⟨rfl, rfl, rfl, rfl, rfl, rfl, rfl, trivial⟩ (.refl _))
    ·show Ent _ _ _ [(0, .slice a_values f8.length c_values), (1, .int .i64 n), (5, .slice aA0_0 (j7 f8 t).length cA0_0), (6, .int .i64 (t : Int)), (7, .slice p44.1 ((((j7 f8 t).take k).flatMap (fun l => f8.map (fun v => l ++ [v])) ++ (f8.take j).map (fun v => (j7 f8 t)[k] ++ [v])).length + 1) p44.2), (8, .int .i64 (k : Int)), (9, .int .i64 (j : Int))] [ow O5 [.slice p44.1 ((((j7 f8 t).take k).flatMap (fun l => f8.map (fun v => l ++ [v])) ++ (f8.take j).map (fun v => (j7 f8 t)[k] ++ [v])).length + 1) p44.2] ((((j7 f8 t).take k).flatMap (fun l => f8.map (fun v => l ++ [v])) ++ (f8.take j).map (fun v => (j7 f8 t)[k] ++ [v])) ++ [((j7 f8 t)[k]) ++ [f8[j]]])] _
     refine E.bln (Et (Ez Z3 (Emv rfl rfl (Ey rfl ((Y.add rfl rfl om om).yd) (Eas rfl rfl (Eu (Ent.cv (congrArg (ow O5 [_]) (show (((j7 f8 t).take k).flatMap (fun l => f8.map (fun v => l ++ [v])) ++ (f8.take j).map (fun v => (j7 f8 t)[k] ++ [v])) ++ [((j7 f8 t)[k]) ++ [f8[j]]] = ((j7 f8 t).take k).flatMap (fun l => f8.map (fun v => l ++ [v])) ++ (f8.take (j + 1)).map (fun v => (j7 f8 t)[k] ++ [v]) from by grind [j7, J9, G7, d1, d2, t1, t2])) ?_)))))))
     exact Ea (j + 1, p44.1, ((((j7 f8 t).take k).flatMap (fun l => f8.map (fun v => l ++ [v])) ++ (f8.take j).map (fun v => (j7 f8 t)[k] ++ [v])).length + 1), p44.2) ⟨oz, trivial⟩
   ·refine Eu (E.cf rfl (E.exit (E.the (E.the (E.blh (E.bln (Et (Ez Z3 (Emv rfl rfl (Ey rfl ((Y.add rfl rfl om om).yd) (Eas rfl rfl (Eu (Ent.cv (congrArg (ow O5 [_]) (show ((j7 f8 t).take k).flatMap (fun l => f8.map (fun v => l ++ [v])) ++ (f8.take j).map (fun v => (j7 f8 t)[k] ++ [v]) = ((j7 f8 t).take (k + 1)).flatMap (fun l => f8.map (fun v => l ++ [v])) from by grind [j7, J9, G7, d1, d2, t1, t2])) ?_)))))))))))))
    exact Ea (k + 1, aA2_0, (((j7 f8 t).take k).flatMap (fun l => f8.map (fun v => l ++ [v])) ++ (f8.take j).map (fun v => (j7 f8 t)[k] ++ [v])).length, cA2_0) ⟨oz, trivial⟩
  ·refine Eu (E.cf rfl (E.exit (E.the (E.the (E.blh (Et (Ez Z2 (Emv rfl rfl (Eas rfl rfl (En (E.bln (Et (Ez Z3 (Emv rfl rfl (Ey rfl ((Y.add rfl rfl om om).yd) (Eas rfl rfl (Eu (Ent.cv (congrArg (ow O5 [_]) (show ((j7 f8 t).take k).flatMap (fun l => f8.map (fun v => l ++ [v])) = j7 f8 (t + 1) from by grind [j7, J9, G7, d1, d2, t1, t2])) ?_))))))))))))))))))
   exact E.again hB2 (t + 1, aA1_0, (((j7 f8 t).take k).flatMap (fun l => f8.map (fun v => l ++ [v]))).length, cA1_0) rs (.refl _) ⟨oz, trivial⟩ oz
 ·refine Eu (E.cf rfl (E.exit (E.the (E.the (E.blh (Et (Ew Z2 (Emv rfl rfl (Eas rfl rfl (Eu (E.ret (Ent.cv (congrArg (ow O5 [_]) (show _ = j7 f8 n.toNat by grind [j7, J9, G7, d1, d2, t1, t2])) ?_))))))))))))
  exact Fg rfl rfl (_, _, _) rfl rfl
theorem a4R (hv : o3.length ≤ 10) (hm : ∀ m ∈ l, m.2.1.length ≤ 3) (hl : l.length ≤ 5) : Tr Tryz.prog 306 [.agg #[.slice U4 a1y U3, .slice R4 a0U R3, .slice a0j a2P a0i, .int .i64 r_Rounds], .slice a_l m_l c_l] (fun w L => Ro w L j6 [.slice U4 a1y U3] a2O ∧ Ro w L eIs [.slice R4 a0U R3] o3 ∧ Ro w L u6 [.slice a0j a2P a0i] y9 ∧ I64 r_Rounds ∧ Ro w L D3 [.slice a_l m_l c_l] l) [] (κ := Option Addr × Nat × Nat) (fun k => True) (fun k => .slice k.1 k.2.1 k.2.2) (fun k => [ow u6 [.slice k.1 k.2.1 k.2.2] (d7 o3 y9 l 0)]) := by
 refine Tr.intro Tryz.func306 rfl (n := 48) rfl (by decide +kernel) bl (fr := [(0, .agg #[.slice U4 a1y U3, .slice R4 a0U R3, .slice a0j a2P a0i, .int .i64 r_Rounds]), (1, .slice a_l m_l c_l)]) rfl fun w L hR => ?_
 obtain ⟨a3l, a0z, a3m, i6r_Rounds, hl⟩ := hR
 obtain ⟨rfl, b2G⟩ := a3l.slen
 obtain ⟨rfl, b2b⟩ := a0z.slen
 obtain ⟨rfl, b4a⟩ := a3m.slen
 obtain ⟨rfl, ll⟩ := hl.slen
 refine Ew Z2 (Est rfl (N.box (cs := [_, _, _, _]) rfl dc rfl) (fun b2 _ => (Eas rfl rfl (Ev Z2 (Est rfl (N.bsl (pvs := []) (cs := []) us_Accesss ty_Access rfl dc dc (o9 rfl rfl) rfl dc) (fun b11 _ => (Ent.drop (Eas rfl rfl (Eu (Eq_ (Ew Z3 (Emv rfl rfl (Ey rfl ((Y.len us_Methods rfl).yd) (Emv rfl rfl (Eu (E.block (Ent.mkow (A := []) (Own.nil (E := E7) (e := tAccess) (a := (some ⟨b11, 0, none⟩))) rfl (Ent.cv (congrArg (ow u6 [_]) (show [] = d7 o3 y9 (l.take 0) 0 from by first | rfl | (simp; done) | grind [d7, J2, Q6, d1, d2, t1, t2])) (E.loop (κ := Nat × Option Addr × Nat × Nat) (fun g => g.1 ≤ l.length ∧ True) (fun g => [(2, .pointer (some ⟨b2, 0, none⟩)), (5, .slice g.2.1 g.2.2.1 g.2.2.2), (12, .slice a_l l.length c_l), (13, .int .i64 (↑l.length : Int)), (14, .int .i64 (↑g.1 : Int))]) (fun g => [ow u6 [.slice g.2.1 g.2.2.1 g.2.2.2] (d7 o3 y9 (l.take g.1) 0), pt b2 218 [.slice U4 a2O.length U3, .slice R4 o3.length R3, .slice a0j y9.length a0i, .int .i64 r_Rounds]]) (fun g => l.length - g.1) (0, (some ⟨b11, 0, none⟩), 0, 0) ⟨Nat.zero_le _, by simp⟩ ⟨rfl, rfl, rfl, rfl, rfl, trivial⟩ (.refl _) (fun g pg => ?_))))))))))))))))))))
 obtain ⟨g, aA0_0, mA0_0, cA0_0⟩ := g
 try dsimp only at pg
 try dsimp only
 obtain ⟨pk, pa⟩ := pg
 refine Ent.lenow m0 fun eaA0_0 laA0_0 => ?_
 subst eaA0_0
 have jo := a2N (f8 := o3) (log := y9) (i := 0) hv (l := l.take g) (fun m h => hm m (List.mem_of_mem_take h))
 have jp := List.length_take_le g l
 refine Ew Z1 (Ey rfl ((Y.lss rfl rfl).yd) (Ent.d (fun q15 => ?_) (fun q15 => ?_)))
 ·refine Eu (Eq_ (E.ct rfl (E.skipc (Et (Eq_ (E.block (Ew Z6 (Emv rfl rfl ?_))))))))
  obtain ⟨eb17, eo17, ec17, ea17, er17, el17, eh17⟩ := hl.elem g om
  obtain ⟨xa17_0, xc17_0, rfl, ei17_0, xh17_0, ei17_2, ei17_3, ei17_4⟩ := Ro.pMethod er17
  have := xh17_0.slen.2
  refine Ey rfl ((Y.ix us_Methods ty_Method rfl ea17 rfl g rfl om).yd) (Ey rfl (Y.ldS (cs := [_, _, _, _, _]) ty_Method rfl (eh17 _) rfl) (Est rfl (N.alloc ty_Method dc) (fun b7 _ => (Eas rfl rfl (Est rfl (N.sto (vs := [_, _, _, _, _]) (cs' := [_, _, _, _, _]) ty_Method rfl rfl rfl rfl rfl bl rfl) (fun _ _ => (Eu (Eq_ (Ew Z3 (Ey rfl ((Y.fld fo_Method_2 f6 dc rfl).yd) (Ey rfl (Y.ld1 f6 rfl ((Has.pt m0).sub (cs' := [_]) 2 rfl) rfl) (Ey rfl ((Y.neq rfl rfl).yd) (Ent.d (fun q21 => ?_) (fun q21 => ?_))))))))))))))
  ·refine Eu (E.ct rfl (E.exit (E.the (E.blh (Et (Ez Z2 (Ey rfl ((Y.add rfl rfl om om).yd) (Emv rfl rfl (Eu (Ent.drop (Ent.cv (congrArg (ow u6 [_]) (show d7 o3 y9 (l.take g) 0 = d7 o3 y9 (l.take (g + 1)) 0 from by grind [d7, J2, Q6, d1, d2, t1, t2])) (Ent.p1 (Ent.p1 ?_)))))))))))))
   exact Ea (g + 1, aA0_0, (d7 o3 y9 (l.take g) 0).length, cA0_0) ⟨oz, trivial⟩
  ·refine Eu (E.cf rfl (E.skipc (Et (Ew Z8 (Ey rfl ((Y.fld fo_Reached_1 ty_Is dc rfl).yd) (Ey rfl (Y.ld1 ty_Is rfl ((Has.pt (mS (mS m0))).sub (cs' := [_]) 1 rfl) rfl) (Ey rfl ((Y.fld fo_Method_1 ty_Is dc rfl).yd) (Ey rfl (Y.ld1 ty_Is rfl ((Has.pt m0).sub (cs' := [_]) 1 rfl) rfl) (Ey rfl ((Y.len us_Is rfl).yd) ?_)))))))))
   have jm := hm l[g] (List.getElem_mem om)
   refine Est rfl (N.call (a9w fc fc) rfl rfl rfl dc rfl (fun w Lp hA => hA.ro a0z)) (fun k27 _ => ?_)
   obtain ⟨a27, m27, c27⟩ := k27
   refine Ent.lenow m0 fun e27 l27 => ?_
   subst e27
   refine Ey rfl ((Y.len us_Iss rfl).yd) (Emv rfl rfl (Eu (E.block (Ent.p2 (Ent.cv (congrArg (ow u6 [_]) (show d7 o3 y9 (l.take g) 0 = d7 o3 y9 (l.take g) 0 ++ (((j7 o3 l[g].2.1.length).take 0).filter (fun v => !L8 y9 (↑g, v))).map (fun v => ((g : Int), v)) from by first | rfl | (simp; done) | grind [d7, J2, Q6, d1, d2, t1, t2])) (Ent.p1 (Ent.od0 (E.loop (κ := Nat × Option Addr × Nat × Nat) (fun h => h.1 ≤ (j7 o3 l[g].2.1.length).length ∧ True) (fun h => [(2, .pointer (some ⟨b2, 0, none⟩)), (5, .slice h.2.1 h.2.2.1 h.2.2.2), (6, .int .i64 (g : Int)), (12, .slice a_l l.length c_l), (13, .int .i64 (↑l.length : Int)), (14, .int .i64 (g : Int)), (27, .slice a27 (j7 o3 l[g].2.1.length).length c27), (28, .int .i64 (↑((j7 o3 l[g].2.1.length).length) : Int)), (29, .int .i64 (↑h.1 : Int))]) (fun h => [owd tIs eIs a27 ((j7 o3 l[g].2.1.length).length) c27 (j7 o3 l[g].2.1.length) h.1, ow u6 [.slice h.2.1 h.2.2.1 h.2.2.2] (d7 o3 y9 (l.take g) 0 ++ (((j7 o3 l[g].2.1.length).take h.1).filter (fun v => !L8 y9 (↑g, v))).map (fun v => ((g : Int), v))), pt b7 113 [.int .i64 l[g].1, .slice xa17_0 l[g].2.1.length xc17_0, .int .i64 l[g].2.2.1, .int .i64 l[g].2.2.2.1, .int .i64 l[g].2.2.2.2], pt b2 218 [.slice U4 a2O.length U3, .slice R4 o3.length R3, .slice a0j y9.length a0i, .int .i64 r_Rounds]]) (fun h => (j7 o3 l[g].2.1.length).length - h.1) (0, aA0_0, (d7 o3 y9 (l.take g) 0).length, cA0_0) ⟨Nat.zero_le _, by simp⟩ ⟨rfl, rfl, rfl, rfl, rfl, rfl, rfl, rfl, rfl, trivial⟩ (.refl _) (fun h ph => ?_)))))))))
   obtain ⟨h, aA1_0, mA1_0, cA1_0⟩ := h
   try dsimp only at ph
   try dsimp only
   obtain ⟨pk, pa⟩ := ph
   have jl := a3f (f8 := o3) (t := l[g].2.1.length) hv (hm _ (List.getElem_mem om))
   have jf := List.length_filter_le (fun v => !L8 y9 (↑g, v)) ((j7 o3 l[g].2.1.length).take h)
   have jt := List.length_take_le h (j7 o3 l[g].2.1.length)
   refine Ent.lenow (mS m0) fun eaA1_0 laA1_0 => ?_
   subst eaA1_0
   refine Ew Z1 (Ey rfl ((Y.lss rfl rfl).yd) (Ent.d (fun q30 => ?_) (fun q30 => ?_)))
   ·refine Ent.adrd m0 om fun ab31 ae31 => (Ent.odt (j := h) om fun ce31 => (Ent.p1 (Ent.osl fun oa31_0 om31_0 oc31_0 oe31 on31_0 => ?_)))
    subst oe31
    subst on31_0
    refine Ent.lenow m0 fun _ ol31_0 => (Eu (Eq_ (E.ct rfl (E.skipc (Et (Eq_ (E.block (Ew Z3 (Ey rfl ((Y.ix us_Iss ty_Is rfl ae31 rfl h rfl om).yd) (Ey rfl (Y.ld1 ty_Is rfl (Has.owt ae31 (mS m0)) rfl) (Eas rfl rfl (Ev Z5 (Emv rfl rfl (Emv rfl rfl (Ey rfl ((Y.bld (pvs := [_, _]) (cs := [_, _]) ty_Access a5p rfl rfl).yd) (Est rfl (N.alloc ty_Access dc) (fun b10 _ => (Est rfl (N.sto (vs := [_, _]) (cs' := [_, _]) ty_Access rfl rfl rfl rfl rfl bl rfl) (fun _ _ => (Ev Z5 (Ey rfl ((Y.fld fo_Reached_2 ty_Accesss dc rfl).yd) (Ey rfl (Y.ld1 ty_Accesss rfl ((Has.pt (mS (mS (mS (mS (mS m0)))))).sub (cs' := [_]) 2 rfl) rfl) (Ey rfl (Y.ldS (cs := [_, _]) ty_Access rfl (Has.pt m0) rfl) (Est rfl (N.call0 a6x rfl rfl rfl dc (fun w Lp hA => ⟨hA.ro a3m, i6, hA.ow (mS m0)⟩)) (fun _ _ => (Ent.b (fun q39 => ?_) (fun q39 => ?_)))))))))))))))))))))))))))
    ·refine Ey rfl ((Y.not (b := true) rfl).yd) (Eu (E.cf rfl (E.skipc (E.bln (Et (Ez Z2 (Ey rfl ((Y.add rfl rfl om om).yd) (Emv rfl rfl (Eu (Ent.p2 (Ent.otd (Ent.p1 (Ent.drop (Ent.p1 (Ent.drop (Ent.p1 (Ent.cv (congrArg (ow u6 [_]) (show d7 o3 y9 (l.take g) 0 ++ (((j7 o3 l[g].2.1.length).take h).filter (fun v => !L8 y9 (↑g, v))).map (fun v => ((g : Int), v)) = d7 o3 y9 (l.take g) 0 ++ (((j7 o3 l[g].2.1.length).take (h + 1)).filter (fun v => !L8 y9 (↑g, v))).map (fun v => ((g : Int), v)) from by grind [d7, J2, Q6, d1, d2, t1, t2])) (Ent.p3 (Ent.p3 (Ent.p2 (Ent.p3 ?_)))))))))))))))))))))
     exact Ea (h + 1, aA1_0, (d7 o3 y9 (l.take g) 0 ++ (((j7 o3 l[g].2.1.length).take h).filter (fun v => !L8 y9 (↑g, v))).map (fun v => ((g : Int), v))).length, cA1_0) ⟨oz, trivial⟩
    ·refine Ey rfl ((Y.not (b := false) rfl).yd) (Eu (E.ct rfl (Ez Z5 (Emv rfl rfl (Ey rfl (Y.ldS (cs := [_, _]) ty_Access rfl (Has.pt m0) rfl) (Est rfl (N.bsl (pvs := [_]) (cs := [_, _]) us_Accesss ty_Access rfl dc dc (o9 rfl rfl) rfl dc) (fun b43 _ => (Ent.p2 (Ent.p1 (Ent.p4 (Est rfl (N.push (E := E7) (ex := ((g : Int), (j7 o3 l[g].2.1.length)[h])) us_Accesss ty_Access rfl rfl rfl (Own.mkAccess (x := ((g : Int), (j7 o3 l[g].2.1.length)[h])) i6 Own.ow) rfl bn bn dc) (fun p44 _ => (Eas rfl rfl (En (E.bln (Et (Ez Z2 (Ey rfl ((Y.add rfl rfl om om).yd) (Emv rfl rfl (Eu (Ent.p2 (Ent.otd (Ent.p2 (Ent.drop (Ent.p1 (Ent.cv (congrArg (ow u6 [_]) (show (d7 o3 y9 (l.take g) 0 ++ (((j7 o3 l[g].2.1.length).take h).filter (fun v => !L8 y9 (↑g, v))).map (fun v => ((g : Int), v))) ++ [((g : Int), (j7 o3 l[g].2.1.length)[h])] = d7 o3 y9 (l.take g) 0 ++ (((j7 o3 l[g].2.1.length).take (h + 1)).filter (fun v => !L8 y9 (↑g, v))).map (fun v => ((g : Int), v)) from by grind [d7, J2, Q6, d1, d2, t1, t2])) (Ent.p3 (Ent.p3 (Ent.p2 (Ent.p3 ?_))))))))))))))))))))))))))))))
     exact Ea (h + 1, p44.1, ((d7 o3 y9 (l.take g) 0 ++ (((j7 o3 l[g].2.1.length).take h).filter (fun v => !L8 y9 (↑g, v))).map (fun v => ((g : Int), v))).length + 1), p44.2) ⟨oz, trivial⟩
   ·refine Eu (Eq_ (E.cf rfl (E.exit (E.the (E.the (E.blh (E.bln (Et (Ez Z2 (Ey rfl ((Y.add rfl rfl om om).yd) (Emv rfl rfl (Eu (Ent.drop (Ent.p1 (Ent.drop (Ent.cv (congrArg (ow u6 [_]) (show d7 o3 y9 (l.take g) 0 ++ (((j7 o3 l[g].2.1.length).take h).filter (fun v => !L8 y9 (↑g, v))).map (fun v => ((g : Int), v)) = d7 o3 y9 (l.take (g + 1)) 0 from by grind [d7, J2, Q6, d1, d2, t1, t2])) (Ent.p1 (Ent.p1 ?_))))))))))))))))))
    exact Ea (g + 1, aA1_0, (d7 o3 y9 (l.take g) 0 ++ (((j7 o3 l[g].2.1.length).take h).filter (fun v => !L8 y9 (↑g, v))).map (fun v => ((g : Int), v))).length, cA1_0) ⟨oz, trivial⟩
 ·refine Eu (Eq_ (E.cf rfl (E.exit (E.the (E.the (E.blh (Et (Ew Z2 (Emv rfl rfl (Eas rfl rfl (Eu (E.ret (Ent.cv (congrArg (ow u6 [_]) (show _ = d7 o3 y9 l 0 by grind [d7, J2, Q6, d1, d2, t1, t2])) ?_)))))))))))))
  exact Fg rfl rfl (_, _, _) rfl rfl
theorem a4H (hv : o3.length ≤ 10) (hm : ∀ m ∈ l, m.2.1.length ≤ 3) (hl : l.length ≤ 5) : Tr Tryz.prog 260 [.slice a_l m_l c_l, .agg #[.slice U4 a1y U3, .slice R4 a0U R3, .slice a0j a2P a0i, .int .i64 r_Rounds]] (fun w L => Ro w L D3 [.slice a_l m_l c_l] l ∧ Ro w L j6 [.slice U4 a1y U3] a2O ∧ Ro w L eIs [.slice R4 a0U R3] o3 ∧ Ro w L u6 [.slice a0j a2P a0i] y9 ∧ I64 r_Rounds) [] (κ := Option Addr × Nat × Nat) (fun k => True) (fun k => .slice k.1 k.2.1 k.2.2) (fun k => [ow u6 [.slice k.1 k.2.1 k.2.2] (d7 o3 y9 l 0)]) := by
 refine Tr.intro Tryz.func260 rfl (n := 54) rfl (by decide +kernel) bl (fr := [(0, .slice a_l m_l c_l), (1, .agg #[.slice U4 a1y U3, .slice R4 a0U R3, .slice a0j a2P a0i, .int .i64 r_Rounds])]) rfl fun w L hR => ?_
 obtain ⟨hl, a3l, a0z, a3m, i6r_Rounds⟩ := hR
 obtain ⟨rfl, ll⟩ := hl.slen
 obtain ⟨rfl, b2G⟩ := a3l.slen
 obtain ⟨rfl, b2b⟩ := a0z.slen
 obtain ⟨rfl, b4a⟩ := a3m.slen
 refine Ew Z2 (Est rfl (N.box (cs := [_, _, _, _]) rfl dc rfl) (fun b3 _ => (Eas rfl rfl (Ev Z2 (Est rfl (N.bsl (pvs := []) (cs := []) us_Accesss ty_Access rfl dc dc (o9 rfl rfl) rfl dc) (fun b10 _ => (Ent.drop (Eas rfl rfl (Eu (Eq_ (Ew Z1 (Eas rfl rfl (Eu (E.block (Ent.mkow (A := []) (Own.nil (E := E7) (e := tAccess) (a := (some ⟨b10, 0, none⟩))) rfl (Ent.cv (congrArg (ow u6 [_]) (show [] = d7 o3 y9 (l.take 0) 0 from by first | rfl | (simp; done) | grind [d7, J2, Q6, d1, d2, t1, t2])) (E.loop (κ := Nat × Option Addr × Nat × Nat) (fun g => g.1 ≤ l.length ∧ True) (fun g => [(0, .slice a_l l.length c_l), (3, .pointer (some ⟨b3, 0, none⟩)), (5, .slice g.2.1 g.2.2.1 g.2.2.2), (6, .int .i64 (↑g.1 : Int))]) (fun g => [ow u6 [.slice g.2.1 g.2.2.1 g.2.2.2] (d7 o3 y9 (l.take g.1) 0), pt b3 218 [.slice U4 a2O.length U3, .slice R4 o3.length R3, .slice a0j y9.length a0i, .int .i64 r_Rounds]]) (fun g => l.length - g.1) (0, (some ⟨b10, 0, none⟩), 0, 0) ⟨Nat.zero_le _, by simp⟩ ⟨rfl, rfl, rfl, rfl, trivial⟩ (.refl _) (fun g pg => ?_))))))))))))))))))
 obtain ⟨g, aA0_0, mA0_0, cA0_0⟩ := g
 try dsimp only at pg
 try dsimp only
 obtain ⟨pk, pa⟩ := pg
 refine Ent.lenow m0 fun eaA0_0 laA0_0 => ?_
 subst eaA0_0
 have jo := a2N (f8 := o3) (log := y9) (i := 0) hv (l := l.take g) (fun m h => hm m (List.mem_of_mem_take h))
 have jp := List.length_take_le g l
 refine Eq_ (Ew Z4 (Emv rfl rfl (Emv rfl rfl (Ey rfl ((Y.len us_Methods rfl).yd) (Ey rfl ((Y.lss rfl rfl).yd) (Ent.d (fun q14 => ?_) (fun q14 => ?_)))))))
 ·refine Eu (E.ct rfl (E.skipc (Et (Eq_ (E.block (Eq_ (Ew Z6 (Emv rfl rfl (Emv rfl rfl ?_)))))))))
  obtain ⟨eb19, eo19, ec19, ea19, er19, el19, eh19⟩ := hl.elem g om
  obtain ⟨xa19_0, xc19_0, rfl, ei19_0, xh19_0, ei19_2, ei19_3, ei19_4⟩ := Ro.pMethod er19
  have := xh19_0.slen.2
  refine Ey rfl ((Y.ix us_Methods ty_Method rfl ea19 rfl g rfl om).yd) (Ey rfl ((Y.fld fo_Method_2 f6 dc rfl).yd) (Ey rfl (Y.ld1 f6 rfl ((eh19 _).sub (cs' := [_]) 2 rfl) rfl) (Ey rfl ((Y.neq rfl rfl).yd) (Ent.d (fun q22 => ?_) (fun q22 => ?_)))))
  ·refine Eu (E.ct rfl (E.exit (E.the (E.blh (Et (Ez Z3 (Emv rfl rfl (Ey rfl ((Y.add rfl rfl om om).yd) (Eas rfl rfl (Eu (Ent.cv (congrArg (ow u6 [_]) (show d7 o3 y9 (l.take g) 0 = d7 o3 y9 (l.take (g + 1)) 0 from by grind [d7, J2, Q6, d1, d2, t1, t2])) (Ent.p1 (Ent.p1 ?_)))))))))))))
   exact Ea (g + 1, aA0_0, (d7 o3 y9 (l.take g) 0).length, cA0_0) ⟨oz, trivial⟩
  ·refine Eu (E.cf rfl (E.skipc (Et (Eq_ (D.region (fun j => true) mixed (Dyp 0 rfl (Y.fld fo_Reached_1 ty_Is dc rfl) (Dy 1 rfl (Y.ld1 ty_Is rfl ((Has.pt (mS m0)).sub (cs' := [_]) 1 rfl) rfl) (Dyp 2 rfl (Y.mv rfl) (Dyp 3 rfl (Y.mv rfl) (Dyp 4 rfl (Y.ix us_Methods ty_Method rfl ea19 rfl g rfl om) (Dyp 5 rfl (Y.fld fo_Method_1 ty_Is dc rfl) (Dy 6 rfl (Y.ld1 ty_Is rfl ((eh19 _).sub (cs' := [_]) 1 rfl) rfl) (Dyp 7 rfl (Y.len us_Is rfl) ?_)))))))))))))
   have jm := hm l[g] (List.getElem_mem om)
   refine D.st 8 rfl rfl kr (fun _ => rfl) (N.call (a7G fc fc) rfl rfl rfl dc rfl (fun w Lp hA => hA.ro a0z)) (fun k31 _ => ?_)
   obtain ⟨a31, m31, c31⟩ := k31
   refine Ent.lenow m0 fun e31 l31 => ?_
   subst e31
   refine Ent.rebase (A := [_]) rfl fun wb3 Lb3 hB3 hA3 => ?_
   have hl := hA3.ro hl
   have xh19_0 := hA3.ro xh19_0
   have a0z := hA3.ro a0z
   have a3l := hA3.ro a3l
   have a3m := hA3.ro a3m
   have eh19 := hB3.has eh19
   have rb3 : Ro wb3 Lb3 O5 [.slice a31 (j7 o3 l[g].2.1.length).length c31] (j7 o3 l[g].2.1.length) := hA3.ow m0
   refine Dyp 9 rfl (Y.as rfl) (D.done kr (Et (Ew Z1 (Eas rfl rfl (Eu (E.block (Ent.cv (congrArg (ow u6 [_]) (show d7 o3 y9 (l.take g) 0 = d7 o3 y9 (l.take g) 0 ++ (((j7 o3 l[g].2.1.length).take 0).filter (fun v => !L8 y9 (↑g, v))).map (fun v => ((g : Int), v)) from by first | rfl | (simp; done) | grind [d7, J2, Q6, d1, d2, t1, t2])) (E.loop (κ := Nat × Option Addr × Nat × Nat) (fun h => h.1 ≤ (j7 o3 l[g].2.1.length).length ∧ True) (fun h => [(0, .slice a_l l.length c_l), (3, .pointer (some ⟨b3, 0, none⟩)), (5, .slice h.2.1 h.2.2.1 h.2.2.2), (6, .int .i64 (g : Int)), (7, .slice a31 (j7 o3 l[g].2.1.length).length c31), (8, .int .i64 (↑h.1 : Int))]) (fun h => [ow u6 [.slice h.2.1 h.2.2.1 h.2.2.2] (d7 o3 y9 (l.take g) 0 ++ (((j7 o3 l[g].2.1.length).take h.1).filter (fun v => !L8 y9 (↑g, v))).map (fun v => ((g : Int), v))), pt b3 218 [.slice U4 a2O.length U3, .slice R4 o3.length R3, .slice a0j y9.length a0i, .int .i64 r_Rounds]]) (fun h => (j7 o3 l[g].2.1.length).length - h.1) (0, aA0_0, (d7 o3 y9 (l.take g) 0).length, cA0_0) ⟨Nat.zero_le _, by simp⟩ ⟨rfl, rfl, rfl, rfl, rfl, rfl, trivial⟩ (.refl _) (fun h ph => ?_)))))))))
   obtain ⟨h, aA1_0, mA1_0, cA1_0⟩ := h
   try dsimp only at ph
   try dsimp only
   obtain ⟨pk, pa⟩ := ph
   have jl := a3f (f8 := o3) (t := l[g].2.1.length) hv (hm _ (List.getElem_mem om))
   have jf := List.length_filter_le (fun v => !L8 y9 (↑g, v)) ((j7 o3 l[g].2.1.length).take h)
   have jt := List.length_take_le h (j7 o3 l[g].2.1.length)
   refine Ent.lenow m0 fun eaA1_0 laA1_0 => ?_
   subst eaA1_0
   refine Eq_ (Ew Z4 (Emv rfl rfl (Emv rfl rfl (Ey rfl ((Y.len us_Iss rfl).yd) (Ey rfl ((Y.lss rfl rfl).yd) (Ent.d (fun q35 => ?_) (fun q35 => ?_)))))))
   ·refine Eu (E.ct rfl (E.skipc (Et (Eq_ (E.block (Ew Z8 (Emv rfl rfl (Emv rfl rfl (Emv rfl rfl ?_)))))))))
    obtain ⟨eb41, eo41, ec41, ea41, er41, el41, eh41⟩ := rb3.elem h om
    obtain ⟨xa41, xc41, rfl⟩ := er41.sl
    have := er41.slen.2
    refine Ey rfl ((Y.ix us_Iss ty_Is rfl ea41 rfl h rfl om).yd) (Ey rfl (Y.ld1 ty_Is rfl (eh41 _) rfl) ?_)
    have jz := G7 _ (List.getElem_mem (l := (j7 o3 l[g].2.1.length)) (n := h) om)
    refine Est rfl (N.call (a3z fc) rfl rfl rfl dc rfl (fun w Lp hA => ⟨i6, hA.ro er41⟩)) (fun k43 _ => ?_)
    obtain ⟨a43, m43, c43⟩ := k43
    refine Ent.lenow m0 fun e43 l43 => ?_
    subst e43
    refine Est rfl (N.alloc ty_Access dc) (fun b9 _ => (Est rfl (N.sto (vs := [_, _]) (cs' := [_, _]) ty_Access rfl rfl rfl rfl rfl bl rfl) (fun _ _ => (Ev Z5 (Ey rfl ((Y.fld fo_Reached_2 ty_Accesss dc rfl).yd) (Ey rfl (Y.ld1 ty_Accesss rfl ((Has.pt (mS (mS (mS m0)))).sub (cs' := [_]) 2 rfl) rfl) (Ey rfl (Y.ldS (cs := [_, _]) ty_Access rfl (Has.pt m0) rfl) (Est rfl (N.call0 a6S rfl rfl rfl dc (fun w Lp hA => ⟨hA.ro a3m, i6, hA.ow (mS m0)⟩)) (fun _ _ => (Ent.b (fun q47 => ?_) (fun q47 => ?_)))))))))))
    ·refine Ey rfl ((Y.not (b := true) rfl).yd) (Eu (E.cf rfl (E.skipc (E.bln (Et (Ez Z3 (Emv rfl rfl (Ey rfl ((Y.add rfl rfl om om).yd) (Eas rfl rfl (Eu (Ent.drop (Ent.drop (Ent.cv (congrArg (ow u6 [_]) (show d7 o3 y9 (l.take g) 0 ++ (((j7 o3 l[g].2.1.length).take h).filter (fun v => !L8 y9 (↑g, v))).map (fun v => ((g : Int), v)) = d7 o3 y9 (l.take g) 0 ++ (((j7 o3 l[g].2.1.length).take (h + 1)).filter (fun v => !L8 y9 (↑g, v))).map (fun v => ((g : Int), v)) from by grind [d7, J2, Q6, d1, d2, t1, t2])) (Ent.p1 (Ent.p1 ?_)))))))))))))))
     exact Ea (h + 1, aA1_0, (d7 o3 y9 (l.take g) 0 ++ (((j7 o3 l[g].2.1.length).take h).filter (fun v => !L8 y9 (↑g, v))).map (fun v => ((g : Int), v))).length, cA1_0) ⟨oz, trivial⟩
    ·refine Ey rfl ((Y.not (b := false) rfl).yd) (Eu (E.ct rfl (Ez Z5 (Emv rfl rfl (Ey rfl (Y.ldS (cs := [_, _]) ty_Access rfl (Has.pt m0) rfl) (Est rfl (N.bsl (pvs := [_]) (cs := [_, _]) us_Accesss ty_Access rfl dc dc (o9 rfl rfl) rfl dc) (fun b51 _ => (Ent.p2 (Ent.p1 (Ent.p3 (Est rfl (N.push (E := E7) (ex := ((g : Int), ((j7 o3 l[g].2.1.length)[h]))) us_Accesss ty_Access rfl rfl rfl (Own.mkAccess (x := ((g : Int), ((j7 o3 l[g].2.1.length)[h]))) i6 Own.ow) rfl bn bn dc) (fun p52 _ => (Eas rfl rfl (En (E.bln (Et (Ez Z3 (Emv rfl rfl (Ey rfl ((Y.add rfl rfl om om).yd) (Eas rfl rfl (Eu (Ent.p1 (Ent.drop (Ent.cv (congrArg (ow u6 [_]) (show (d7 o3 y9 (l.take g) 0 ++ (((j7 o3 l[g].2.1.length).take h).filter (fun v => !L8 y9 (↑g, v))).map (fun v => ((g : Int), v))) ++ [((g : Int), ((j7 o3 l[g].2.1.length)[h]))] = d7 o3 y9 (l.take g) 0 ++ (((j7 o3 l[g].2.1.length).take (h + 1)).filter (fun v => !L8 y9 (↑g, v))).map (fun v => ((g : Int), v)) from by grind [d7, J2, Q6, d1, d2, t1, t2])) (Ent.p1 (Ent.p1 ?_))))))))))))))))))))))))))
     exact Ea (h + 1, p52.1, ((d7 o3 y9 (l.take g) 0 ++ (((j7 o3 l[g].2.1.length).take h).filter (fun v => !L8 y9 (↑g, v))).map (fun v => ((g : Int), v))).length + 1), p52.2) ⟨oz, trivial⟩
   ·refine Eu (E.cf rfl (E.exit (E.the (E.the (E.blh (E.bln (Et (Ez Z3 (Emv rfl rfl (Ey rfl ((Y.add rfl rfl om om).yd) (Eas rfl rfl (Eu (Ent.cv (congrArg (ow u6 [_]) (show d7 o3 y9 (l.take g) 0 ++ (((j7 o3 l[g].2.1.length).take h).filter (fun v => !L8 y9 (↑g, v))).map (fun v => ((g : Int), v)) = d7 o3 y9 (l.take (g + 1)) 0 from by grind [d7, J2, Q6, d1, d2, t1, t2])) (Ent.p1 (Ent.p1 ?_)))))))))))))))
    exact E.again hB3 (g + 1, aA1_0, (d7 o3 y9 (l.take g) 0 ++ (((j7 o3 l[g].2.1.length).take h).filter (fun v => !L8 y9 (↑g, v))).map (fun v => ((g : Int), v))).length, cA1_0) rs (.refl _) ⟨oz, trivial⟩ oz
 ·refine Eu (E.cf rfl (E.exit (E.the (E.the (E.blh (Et (Ew Z2 (Emv rfl rfl (Eas rfl rfl (Eu (E.ret (Ent.cv (congrArg (ow u6 [_]) (show _ = d7 o3 y9 l 0 by grind [d7, J2, Q6, d1, d2, t1, t2])) ?_))))))))))))
  exact Fg rfl rfl (_, _, _) rfl rfl
theorem a5k {a_a : Option Addr} {m_a c_a : Nat} {a : List (Int × List Int × Int × Int × Int)} {v : Int} : Tr Tryz.prog 23 [.slice a_a m_a c_a, .int .i64 v] (fun w L => 0 ≤ v ∧ v + ((r9 E1 a : Nat) : Int) ≤ 4611686018427387904) [ow D3 [.slice a_a m_a c_a] a] (κ := Unit) (fun k => True) (fun k => .int .i64 (v + (r9 E1 a : Nat))) (fun k => [ow D3 [.slice a_a m_a c_a] (mkL E1 V5 a v)]) := by
 refine Tr.intro Tryz.func23 rfl (n := 48) rfl (by decide +kernel) bl (fr := [(0, .slice a_a m_a c_a), (1, .int .i64 v)]) rfl fun w L hR => ?_
 obtain ⟨as0, as1⟩ := hR
 refine Ent.lenow m0 fun ea la => ?_
 subst ea
 refine Ew Z1 (Eas rfl rfl (Eu (Eq_ (Ew Z1 (Eas rfl rfl (Eu (E.block (E.loop (κ := Nat) (fun g => g ≤ a.length) (fun g => [(0, .slice a_a a.length c_a), (1, .int .i64 (v + (r9 E1 (a.take g) : Nat))), (5, .int .i64 (g : Int))]) (fun g => [ow D3 [.slice a_a a.length c_a] (mkL E1 V5 (a.take g) v ++ a.drop g)]) (fun g => a.length - g) 0 (Nat.zero_le _) ⟨rfl, frI (by simp [r9]), rfl, trivial⟩ (.refl _) (fun g pg => ?_)))))))))
 have u1 := S2 (t := E1) (l := a) (g := g)
 have u2 := S2 (t := E1) (l := a) (g := g + 1)
 have hlen : (mkL E1 V5 (a.take g) v ++ a.drop g).length = a.length := by rw [List.length_append, a0P, ← List.length_append, List.take_append_drop]
 refine Eq_ (Ew Z4 (Emv rfl rfl (Emv rfl rfl (Ey rfl ((Y.len us_Methods rfl).yd) (Ey rfl ((Y.lss rfl rfl).yd) (Ent.d (fun q9 => ?_) (fun q9 => ?_)))))))
 ·have u3 := N0 (t := E1) (show g < a.length by omega)
  have u4 : E1 a[g] = 1 + r9 z8 a[g].2.1 + 1 + 1 + 1 := rfl
  refine Eu (E.ct rfl (E.skipc (Et (Eq_ (E.block (Ew Z6 (Emv rfl rfl (Emv rfl rfl (Emv rfl rfl (Ent.adr m0 om fun ab15 ae15 => (Ent.open (x := a[g]) g (a9L (show g < a.length by omega)) fun ce15 => (Ent.p1 (Ent.oMethod fun oa15_1 om15_1 oc15_1 oe15 oi15_0 on15_1 oi15_2 oi15_3 oi15_4 => ?_)))))))))))))
  subst oe15
  subst on15_1
  refine Ey rfl ((Y.ix us_Methods ty_Method rfl ae15 rfl g rfl om).yd) (Ey rfl ((Y.fld fo_Method_0 f6 dc rfl).yd) (Ent.p1 (Est rfl (N.sth (f := 0) (kk := 5) (vs := [_]) (ce' := [_, _, _, _, _]) f6 rfl rfl rfl rfl rfl ae15 rfl rfl bl rfl rfl) (fun _ _ => (Ev Z3 (Emv rfl rfl (Ey rfl ((Y.add rfl rfl om om).yd) (Eas rfl rfl (Ev Z8 (Emv rfl rfl (Emv rfl rfl (Ey rfl ((Y.ix us_Methods ty_Method rfl ae15 rfl g rfl om).yd) (Ey rfl ((Y.fld fo_Method_1 ty_Is dc rfl).yd) (Ey rfl (Y.ld1 ty_Is rfl ((Has.hole ae15 m0).sub (cs' := [_]) 1 rfl) rfl) (Emv rfl rfl (Ent.p1 (Est rfl (N.call (pre := [_]) S3 rfl rfl rfl dc rfl (fun w Lp hA => ⟨(by first | assumption | omega), (by first | assumption | omega)⟩)) (fun _ _ => (Eas rfl rfl (Ev Z6 (Emv rfl rfl (Emv rfl rfl (Emv rfl rfl (Ey rfl ((Y.ix us_Methods ty_Method rfl ae15 rfl g rfl om).yd) (Ey rfl ((Y.fld fo_Method_2 f6 dc rfl).yd) (Ent.p1 (Est rfl (N.sth (f := 2) (kk := 5) (vs := [_]) (ce' := [_, _, _, _, _]) f6 rfl rfl rfl rfl rfl ae15 rfl rfl bl rfl rfl) (fun _ _ => (Ev Z3 (Emv rfl rfl (Ey rfl ((Y.add rfl rfl om om).yd) (Eas rfl rfl (Ev Z6 (Emv rfl rfl (Emv rfl rfl (Emv rfl rfl (Ey rfl ((Y.ix us_Methods ty_Method rfl ae15 rfl g rfl om).yd) (Ey rfl ((Y.fld fo_Method_3 f6 dc rfl).yd) (Est rfl (N.sth (f := 3) (kk := 5) (vs := [_]) (ce' := [_, _, _, _, _]) f6 rfl rfl rfl rfl rfl ae15 rfl rfl bl rfl rfl) (fun _ _ => (Ev Z3 (Emv rfl rfl (Ey rfl ((Y.add rfl rfl om om).yd) (Eas rfl rfl (Ev Z6 (Emv rfl rfl (Emv rfl rfl (Emv rfl rfl (Ey rfl ((Y.ix us_Methods ty_Method rfl ae15 rfl g rfl om).yd) (Ey rfl ((Y.fld fo_Method_4 f6 dc rfl).yd) (Est rfl (N.sth (f := 4) (kk := 5) (vs := [_]) (ce' := [_, _, _, _, _]) f6 rfl rfl rfl rfl rfl ae15 rfl rfl bl rfl rfl) (fun _ _ => ?_))))))))))))))))))))))))))))))))))))))))))))))))))))
  refine Eu (Ez Z3 (Emv rfl rfl (Ey rfl ((Y.add rfl rfl om om).yd) (Eas rfl rfl (En (E.bln (Et (Ez Z3 (Emv rfl rfl (Ey rfl ((Y.add rfl rfl om om).yd) (Eas rfl rfl (Eu (Ent.p1 (Ent.p1 (Ent.shut (Own.mkMethod (x := (v + (r9 E1 (a.take g) : Nat), mkL z8 O6 a[g].2.1 (v + (r9 E1 (a.take g) : Nat) + 1), (v + (r9 E1 (a.take g) : Nat) + 1) + (r9 z8 a[g].2.1 : Nat), ((v + (r9 E1 (a.take g) : Nat) + 1) + (r9 z8 a[g].2.1 : Nat) + 1), (((v + (r9 E1 (a.take g) : Nat) + 1) + (r9 z8 a[g].2.1 : Nat) + 1) + 1))) i6 Own.ow i6 i6 i6) rfl ?_)))))))))))))))
  exact E.again br (g + 1) ⟨rfl, frI om, rfl, trivial⟩ (a6O (a7l (c := E1) (m := V5) (show g < a.length by omega) rfl)) om om
 ·refine Eu (E.cf rfl (E.exit (E.the (E.the (E.blh (Et (Ew Z2 (Emv rfl rfl (Eas rfl rfl (Eu (E.ret (Ent.cv (congrArg (ow D3 [_]) (show mkL E1 V5 (a.take g) v ++ a.drop g = mkL E1 V5 a v from by first | exact a2B om | (rw [W1 om]))) ?_))))))))))))
  exact Fg rfl rfl () (by rw [show (v + (r9 E1 a : Nat)) = (v + (r9 E1 (a.take g) : Nat)) from (by first | exact a2B om | (rw [W1 om]))]; try rfl) rfl
end Go.Proofs.YtdopeopehgdccaaGreat
