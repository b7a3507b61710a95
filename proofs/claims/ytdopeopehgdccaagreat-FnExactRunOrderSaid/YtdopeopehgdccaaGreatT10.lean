import Derived.Test.YtdopeopehgdccaaGreatBs
import Derived.Test.YtdopeopehgdccaaGreatT8
import Derived.Test.YtdopeopehgdccaaGreatT6
import Derived.Test.YtdopeopehgdccaaGreatT16
import Derived.Test.YtdopeopehgdccaaGreatBd
namespace Go.Proofs.YtdopeopehgdccaaGreat
open Go.RowKit
set_option linter.all false
set_option maxHeartbeats 2000000
attribute [local irreducible] Nop Yd Yp Ent Has Tr FnP FnP2 Src M5 V6 Y1 a0b D2
variable {arity x9 u8 x7 u9 g9 v : Int} {l : List (Int × List Int × Int × Int × Int)} {a : List (Int × List Int)} {l2 s j3 : List Int} {m_l c_l y6 w4 m_s c_s o5 n8 m_a c_a : Nat} {a_l w5 a_s n9 a_a : Option Addr}
theorem a4k {l : List Int} : Tr Tryz.prog 282 [.slice a_l m_l c_l] (fun w L => Ro w L eIs [.slice a_l m_l c_l] l) [] (κ := Unit) (fun k => True) (fun k => .bool (D2 ltB l)) (fun k => []) := by
 refine Tr.intro Tryz.func282 rfl (n := 24) rfl (by decide +kernel) bl (fr := [(0, .slice a_l m_l c_l)]) rfl fun w L hR => ?_
 have hl := hR
 obtain ⟨rfl, ll⟩ := hl.slen
 refine Ew Z1 (Eas rfl rfl (Eu (Eq_ (Ew Z3 (Emv rfl rfl (Ey rfl ((Y.len us_Is rfl).yd) (Emv rfl rfl (Eu (E.block (E.loop (κ := Nat) (fun g => g ≤ l.length ∧ D2 ltB l = D2 ltB (l.drop (g - 1))) (fun g => [(0, .slice a_l l.length c_l), (5, .int .i64 (↑l.length : Int)), (6, .int .i64 (g : Int))]) (fun g => []) (fun g => l.length - g) 0 ⟨Nat.zero_le _, by simp⟩ ⟨rfl, rfl, rfl, trivial⟩ (.refl _) (fun g pg => ?_)))))))))))
 obtain ⟨pk, pa⟩ := pg
 refine Ew Z1 (Ey rfl ((Y.lss rfl rfl).yd) (Ent.d (fun q7 => ?_) (fun q7 => ?_)))
 ·refine Eu (Eq_ (E.ct rfl (E.skipc (Et (Eq_ (E.block (Ew Z2 (Emv rfl rfl (Eas rfl rfl (Eu (Eq_ (D.region (fun j => true) mixed (Dyp 0 rfl (Y.mv rfl) (Dyp 1 rfl (Y.gtr rfl rfl) (Ent.d (fun q10 => ?_) (fun q10 => ?_))))))))))))))))
  ·refine Dyp 2 rfl (Y.mv rfl) (Dyp 3 rfl (Y.mv rfl) (Dyp 4 rfl (Y.mv rfl) ?_))
   obtain ⟨eb14, eo14, ea14, ei14, eh14⟩ := hl.elemI g om
   refine Dyp 5 rfl (Y.ix us_Is f8 rfl ea14 rfl g rfl om) (Dy 6 rfl (Y.ld1 f8 rfl (eh14 _) rfl) (Dyp 7 rfl (Y.mv rfl) (Dyp 8 rfl (Y.mv rfl) (Dyp 9 rfl (Y.sub rfl rfl om om) ?_))))
   obtain ⟨eb19, eo19, ea19, ei19, eh19⟩ := hl.elemI (g - 1) om
   refine Dyp 10 rfl (Y.ix us_Is f8 rfl ea19 rfl (g - 1) om om) (Dy 11 rfl (Y.ld1 f8 rfl (eh19 _) rfl) (Dyp 12 rfl (Y.leq rfl rfl) (Ent.d (fun q21 => ?_) (fun q21 => ?_))))
   ·refine Dyp 13 rfl (Y.pkt rfl rfl) (D.done kr (Et (E.ct rfl (Ew Z1 (Eas rfl rfl ?_)))))
    exact Eu (E.ret (E.blr (E.thr (E.thr (E.blr (E.thr (Fb rfl rfl (by grind [C4, C2, C8, ltB, d1, d2, t1, t2]))))))))
   ·refine Dyp 13 rfl (Y.pkt rfl rfl) (D.done kr (Et (E.cf rfl (E.skipc (E.bln (Et (Ez Z2 (Ey rfl ((Y.add rfl rfl om om).yd) (Emv rfl rfl ?_)))))))))
    exact Eu (E.again br (g + 1) rs (.refl _) ⟨by omega, by grind [C4, C2, C8, ltB, d1, d2, t1, t2]⟩ om)
  ·refine Dyp 2 rfl (Y.mv rfl) (Dsk 3 rfl (Dsk 4 rfl (Dsk 5 rfl (Dsk 6 rfl (Dsk 7 rfl (Dsk 8 rfl (Dsk 9 rfl (Dsk 10 rfl (Dsk 11 rfl (Dsk 12 rfl (Dyp 13 rfl (Y.pkf rfl rfl) (D.done kr (Et (E.cf rfl (E.skipc (E.bln (Et (Ez Z2 (Ey rfl ((Y.add rfl rfl om om).yd) (Emv rfl rfl ?_))))))))))))))))))))
   exact Eu (E.again br (g + 1) rs (.refl _) ⟨by omega, by grind [C4, C2, C8, ltB, d1, d2, t1, t2]⟩ om)
 ·refine Eu (Eq_ (E.cf rfl (E.exit (E.the (E.the (E.blh (Et (Ew Z1 (Eas rfl rfl ?_)))))))))
  exact Eu (E.ret (Fb rfl rfl (by grind [C4, C2, C8, ltB, d1, d2, t1, t2])))
theorem a2q {i : Int} {b_arity : Nat} : Tr Tryz.prog 283 [.int .i64 i, .pointer (some ⟨b_arity, 0, none⟩)] (fun w L => (I64 i) ∧ RoPt w L b_arity [.int .i64 arity] ∧ -1000 ≤ arity ∧ arity ≤ 1000) [] (κ := Unit) (fun k => True) (fun k => .bool (!inR i 0 (arity - 1))) (fun k => []) := by
 refine Tr.intro Tryz.func283 rfl (n := 9) rfl (by decide +kernel) bl (fr := [(0, .int .i64 i), (1, .pointer (some ⟨b_arity, 0, none⟩))]) rfl fun w L hR => ?_
 obtain ⟨i6i, hb_arity, as0, as1⟩ := hR
 refine Ew Z1 (Eas rfl rfl (Ev Z6 (Emv rfl rfl (Ey rfl (Y.ld1 f8 rfl (hb_arity.has) rfl) (Ey rfl ((Y.sub rfl rfl om om).yd) (Est rfl (N.call0 E6 rfl rfl rfl dc (fun w Lp hA => trivial)) (fun _ _ => (Ey rfl ((Y.not rfl).yd) (Eas rfl rfl ?_)))))))))
 exact Eu (E.ret (Fb rfl rfl (by grind [d1, d2, t1, t2])))
theorem a2F {n : Int} : Tr Tryz.prog 284 [.int .i64 n] (fun w L => True) [] (κ := Unit) (fun k => True) (fun k => .bool (inR n 0 99)) (fun k => []) := by
 refine Tr.intro Tryz.func284 rfl (n := 5) rfl (by decide +kernel) bl (fr := [(0, .int .i64 n)]) rfl fun w L hR => (Ew Z1 (Eas rfl rfl (Ev Z3 (Emv rfl rfl (Est rfl (N.call0 E6 rfl rfl rfl dc (fun w Lp hA => trivial)) (fun _ _ => (Eas rfl rfl ?_)))))))
 exact Eu (E.ret (Fg rfl rfl () rfl rfl))
theorem a3b : Tr Tryz.prog 224 [.agg #[.int .i64 x9, .slice w5 y6 w4, .int .i64 u8, .int .i64 x7, .int .i64 u9], .int .i64 arity] (fun w L => I64 x9 ∧ Ro w L eIs [.slice w5 y6 w4] l2 ∧ I64 u8 ∧ I64 x7 ∧ I64 u9 ∧ -1000 ≤ arity ∧ arity ≤ 1000) [] (κ := Unit) (fun k => True) (fun k => .bool (S7 (x9, l2, u8, x7, u9) arity)) (fun k => []) := by
 refine Tr.intro Tryz.func224 rfl (n := 30) rfl (by decide +kernel) bl (fr := [(0, .agg #[.int .i64 x9, .slice w5 y6 w4, .int .i64 u8, .int .i64 x7, .int .i64 u9]), (1, .int .i64 arity)]) rfl fun w L hR => ?_
 obtain ⟨U5, B4, N7, R1, N8, as0, as1⟩ := hR
 obtain ⟨rfl, U7⟩ := B4.slen
 refine Ew Z3 (Est rfl (N.box (cs := [_, _, _, _, _]) rfl dc rfl) (fun b2 _ => (Est rfl (N.box (cs := [_]) rfl dc rfl) (fun b3 _ => (Eas rfl rfl (Ev Z26 (Ey rfl ((Y.fld fo_Method_1 ty_Is dc rfl).yd) (Ey rfl (Y.ld1 ty_Is rfl ((Has.pt (mS m0)).sub (cs' := [_]) 1 rfl) rfl) (Est rfl (N.call0 a4k rfl rfl rfl dc (fun w Lp hA => hA.ro B4)) (fun _ _ => (Ent.b (fun q7 => ?_) (fun q7 => ?_))))))))))))
 ·refine Emv rfl rfl (Ey rfl ((Y.fld fo_Method_1 ty_Is dc rfl).yd) (Ey rfl (Y.ld1 ty_Is rfl ((Has.pt (mS m0)).sub (cs' := [_]) 1 rfl) rfl) (Ey rfl ((Y.fn (vs := [_]) rfl).yd) (Est rfl (N.call0 (O4 (f := (fun i => !inR i 0 (arity - 1))) (D_f := (fun _ => True)) (by intros; exact trivial)) rfl rfl rfl dc (fun w Lp hA => ⟨hA.ro B4, FnP.ofI (D := (fun _ => True)) (fun hd => a2q) (fun w' hk => ⟨(hA.pt m0).keep hk, (by first | assumption | omega), (by first | assumption | omega)⟩)⟩)) (fun _ _ => (Ent.b (fun q12 => ?_) (fun q12 => ?_)))))))
  ·refine Ey rfl ((Y.not (b := true) rfl).yd) (Ey rfl ((Y.pkt rfl rfl).yd) (Emv rfl rfl (Es rfl (Es rfl (Es rfl (Ey rfl ((Y.pkf rfl rfl).yd) (Emv rfl rfl (Es rfl (Es rfl (Es rfl (Ey rfl ((Y.pkf rfl rfl).yd) (Emv rfl rfl (Es rfl (Es rfl (Es rfl (Ey rfl ((Y.pkf rfl rfl).yd) (Eas rfl rfl ?_)))))))))))))))))
   exact Eu (E.ret (Fb rfl rfl (by grind [S7, P1, d1, d2, t1, t2])))
  ·refine Ey rfl ((Y.not (b := false) rfl).yd) (Ey rfl ((Y.pkt rfl rfl).yd) (Emv rfl rfl (Ey rfl ((Y.fld fo_Method_2 f8 dc rfl).yd) (Ey rfl (Y.ld1 f8 rfl ((Has.pt (mS m0)).sub (cs' := [_]) 2 rfl) rfl) (Est rfl (N.call0 E6 rfl rfl rfl dc (fun w Lp hA => trivial)) (fun _ _ => (Ent.b (fun q18 => ?_) (fun q18 => ?_))))))))
   ·refine Ey rfl ((Y.pkt rfl rfl).yd) (Emv rfl rfl (Ey rfl ((Y.fld fo_Method_3 f8 dc rfl).yd) (Ey rfl (Y.ld1 f8 rfl ((Has.pt (mS m0)).sub (cs' := [_]) 3 rfl) rfl) (Est rfl (N.call0 a2F rfl rfl rfl dc (fun w Lp hA => trivial)) (fun _ _ => (Ent.b (fun q23 => ?_) (fun q23 => ?_)))))))
    ·refine Ey rfl ((Y.pkt rfl rfl).yd) (Emv rfl rfl (Ey rfl ((Y.fld fo_Method_4 f8 dc rfl).yd) (Ey rfl (Y.ld1 f8 rfl ((Has.pt (mS m0)).sub (cs' := [_]) 4 rfl) rfl) (Est rfl (N.call0 E6 rfl rfl rfl dc (fun w Lp hA => trivial)) (fun _ _ => (Ey rfl ((Y.pkt rfl rfl).yd) (Eas rfl rfl ?_)))))))
     exact Eu (E.ret (Fb rfl rfl (by grind [S7, P1, d1, d2, t1, t2])))
    ·refine Ey rfl ((Y.pkt rfl rfl).yd) (Emv rfl rfl (Es rfl (Es rfl (Es rfl (Ey rfl ((Y.pkf rfl rfl).yd) (Eas rfl rfl ?_))))))
     exact Eu (E.ret (Fb rfl rfl (by grind [S7, P1, d1, d2, t1, t2])))
   ·refine Ey rfl ((Y.pkt rfl rfl).yd) (Emv rfl rfl (Es rfl (Es rfl (Es rfl (Ey rfl ((Y.pkf rfl rfl).yd) (Emv rfl rfl (Es rfl (Es rfl (Es rfl (Ey rfl ((Y.pkf rfl rfl).yd) (Eas rfl rfl ?_)))))))))))
    exact Eu (E.ret (Fb rfl rfl (by grind [S7, P1, d1, d2, t1, t2])))
 ·refine Emv rfl rfl (Es rfl (Es rfl (Es rfl (Es rfl (Es rfl (Ey rfl ((Y.pkf rfl rfl).yd) (Emv rfl rfl (Es rfl (Es rfl (Es rfl (Ey rfl ((Y.pkf rfl rfl).yd) (Emv rfl rfl (Es rfl (Es rfl (Es rfl (Ey rfl ((Y.pkf rfl rfl).yd) (Emv rfl rfl (Es rfl (Es rfl (Es rfl (Ey rfl ((Y.pkf rfl rfl).yd) (Eas rfl rfl ?_))))))))))))))))))))))
  exact Eu (E.ret (Fb rfl rfl (by grind [S7, P1, d1, d2, t1, t2])))
theorem a4W : Tr Tryz.prog 150 [.slice a_s m_s c_s, .agg #[.int .i64 x9, .slice w5 y6 w4, .int .i64 u8, .int .i64 x7, .int .i64 u9]] (fun w L => Ro w L eIs [.slice a_s m_s c_s] s ∧ I64 x9 ∧ Ro w L eIs [.slice w5 y6 w4] l2 ∧ I64 u8 ∧ I64 x7 ∧ I64 u9) [] (κ := Unit) (fun k => True) (fun k => .bool (H6 s (x9, l2, u8, x7, u9))) (fun k => []) := by
 refine Tr.intro Tryz.func150 rfl (n := 18) rfl (by decide +kernel) bl (fr := [(0, .slice a_s m_s c_s), (1, .agg #[.int .i64 x9, .slice w5 y6 w4, .int .i64 u8, .int .i64 x7, .int .i64 u9])]) rfl fun w L hR => ?_
 obtain ⟨hs, U5, B4, N7, R1, N8⟩ := hR
 obtain ⟨rfl, ls⟩ := hs.slen
 obtain ⟨rfl, U7⟩ := B4.slen
 refine Ew Z2 (Est rfl (N.box (cs := [_, _, _, _, _]) rfl dc rfl) (fun b3 _ => (Eas rfl rfl (Eu (Eq_ (D.region (fun j => true) mixed (Dyp 0 rfl (Y.mv rfl) (Dyp 1 rfl (Y.fld fo_Method_0 f8 dc rfl) (Dy 2 rfl (Y.ld1 f8 rfl ((Has.pt m0).sub (cs' := [_]) 0 rfl) rfl) (D.st 3 rfl rfl kr (fun _ => rfl) (N.call0 a1b rfl rfl rfl dc (fun w Lp hA => hA.ro hs)) (fun _ _ => (Ent.b (fun q8 => ?_) (fun q8 => ?_)))))))))))))
 ·obtain ⟨z1, z2, z3, z4⟩ := V1 q8
  rw [F5 om] at z3 z4
  refine Dyp 4 rfl (Y.mv rfl) (Dy 5 rfl (Y.ldS (cs := [_, _, _, _, _]) ty_Method rfl (Has.pt m0) rfl) (Dyp 6 rfl (Y.mv rfl) (Dyp 7 rfl (Y.fld fo_Method_0 f8 dc rfl) (Dy 8 rfl (Y.ld1 f8 rfl ((Has.pt m0).sub (cs' := [_]) 0 rfl) rfl) ?_))))
  obtain ⟨eb14, eo14, ea14, ei14, eh14⟩ := hs.elemI x9.toNat om
  refine Dyp 9 rfl (Y.ix us_Is f8 rfl ea14 rfl x9.toNat om om) (Dy 10 rfl (Y.ld1 f8 rfl (eh14 _) rfl) (D.st 11 rfl rfl kr (fun _ => rfl) (N.call0 a3b rfl rfl rfl dc (fun w Lp hA => ⟨U5, hA.ro B4, N7, R1, N8, (by first | assumption | omega), (by first | assumption | omega)⟩)) (fun _ _ => (Dyp 12 rfl (Y.pkt rfl rfl) (Dyp 13 rfl (Y.as rfl) ?_)))))
  exact D.done kr (Et (E.ret (Fb rfl rfl (by grind [H6, z7, d1, d2, t1, t2]))))
 ·refine Dyp 4 rfl (Y.mv rfl) (Dsk 5 rfl (Dsk 6 rfl (Dsk 7 rfl (Dsk 8 rfl (Dsk 9 rfl (Dsk 10 rfl (Dsk 11 rfl (Dyp 12 rfl (Y.pkf rfl rfl) (Dyp 13 rfl (Y.as rfl) ?_)))))))))
  exact D.done kr (Et (E.ret (Fb rfl rfl (by grind [H6, z7, d1, d2, t1, t2]))))
theorem a4X : Tr Tryz.prog 135 [.slice a_s m_s c_s, .agg #[.int .i64 x9, .slice w5 y6 w4, .int .i64 u8, .int .i64 x7, .int .i64 u9]] (fun w L => Ro w L eIs [.slice a_s m_s c_s] s ∧ I64 x9 ∧ Ro w L eIs [.slice w5 y6 w4] l2 ∧ I64 u8 ∧ I64 x7 ∧ I64 u9) [] (κ := Unit) (fun k => True) (fun k => .bool (H6 s (x9, l2, u8, x7, u9))) (fun k => []) := by
 refine Tr.intro Tryz.func135 rfl (n := 74) rfl (by decide +kernel) bl (fr := [(0, .slice a_s m_s c_s), (1, .agg #[.int .i64 x9, .slice w5 y6 w4, .int .i64 u8, .int .i64 x7, .int .i64 u9])]) rfl fun w L hR => ?_
 obtain ⟨hs, U5, B4, N7, R1, N8⟩ := hR
 obtain ⟨rfl, ls⟩ := hs.slen
 obtain ⟨rfl, U7⟩ := B4.slen
 refine Ew Z2 (Est rfl (N.box (cs := [_, _, _, _, _]) rfl dc rfl) (fun b3 _ => (Eas rfl rfl (Eu (Eq_ (Ew Z30 (Emv rfl rfl (Est rfl (N.call0 P7 rfl rfl rfl dc (fun w Lp hA => hA.ro hs)) (fun _ _ => (Ent.b (fun q7 => ?_) (fun q7 => ?_)))))))))))
 ·refine Ey rfl ((Y.not (b := true) rfl).yd) (Emv rfl rfl (Ey rfl ((Y.fld fo_Method_0 f8 dc rfl).yd) (Ey rfl (Y.ld1 f8 rfl ((Has.pt m0).sub (cs' := [_]) 0 rfl) rfl) (Emv rfl rfl (Ey rfl ((Y.len us_Is rfl).yd) (Ey rfl ((Y.sub rfl rfl om om).yd) (Est rfl (N.call0 D4 rfl rfl rfl dc (fun w Lp hA => trivial)) (fun _ _ => (Ent.b (fun q15 => ?_) (fun q15 => ?_))))))))))
  ·have y1 : F4 s x9 = true := by rw [F4, q7, q15]; rfl
   obtain ⟨z1, z2, z3, z4⟩ := V1 y1
   rw [F5 om] at z3 z4
   refine Ey rfl ((Y.not (b := true) rfl).yd) (Ey rfl ((Y.pkf rfl rfl).yd) (Emv rfl rfl (Ey rfl ((Y.fld fo_Method_2 f8 dc rfl).yd) (Ey rfl (Y.ld1 f8 rfl ((Has.pt m0).sub (cs' := [_]) 2 rfl) rfl) (Est rfl (N.call0 D4 rfl rfl rfl dc (fun w Lp hA => trivial)) (fun _ _ => (Ent.b (fun q21 => ?_) (fun q21 => ?_))))))))
   ·refine Ey rfl ((Y.not (b := true) rfl).yd) (Ey rfl ((Y.pkf rfl rfl).yd) (Emv rfl rfl (Ey rfl ((Y.fld fo_Method_3 f8 dc rfl).yd) (Ey rfl (Y.ld1 f8 rfl ((Has.pt m0).sub (cs' := [_]) 3 rfl) rfl) (Est rfl (N.call0 D4 rfl rfl rfl dc (fun w Lp hA => trivial)) (fun _ _ => (Ent.b (fun q27 => ?_) (fun q27 => ?_))))))))
    ·refine Ey rfl ((Y.not (b := true) rfl).yd) (Ey rfl ((Y.pkf rfl rfl).yd) (Emv rfl rfl (Ey rfl ((Y.fld fo_Method_4 f8 dc rfl).yd) (Ey rfl (Y.ld1 f8 rfl ((Has.pt m0).sub (cs' := [_]) 4 rfl) rfl) (Est rfl (N.call0 D4 rfl rfl rfl dc (fun w Lp hA => trivial)) (fun _ _ => (Ent.b (fun q33 => ?_) (fun q33 => ?_))))))))
     ·refine Ey rfl ((Y.not (b := true) rfl).yd) (Ey rfl ((Y.pkf rfl rfl).yd) (Eu (E.cf rfl (E.skipc (Et (Eq_ (Ew Z1 (Eas rfl rfl (Eu (E.block (E.loop (κ := Nat) (fun g => g ≤ l2.length ∧ (P1 l2 (at0 s x9) && D2 ltB l2) = (P1 (l2.drop g) (at0 s x9) && D2 ltB (l2.drop (g - 1)))) (fun g => [(0, .slice a_s s.length c_s), (3, .pointer (some ⟨b3, 0, none⟩)), (5, .int .i64 (g : Int))]) (fun g => [pt b3 113 [.int .i64 x9, .slice w5 l2.length w4, .int .i64 u8, .int .i64 x7, .int .i64 u9]]) (fun g => l2.length - g) 0 ⟨Nat.zero_le _, by simp⟩ ⟨rfl, rfl, rfl, trivial⟩ (.refl _) (fun g pg => ?_))))))))))))
      obtain ⟨pk, pa⟩ := pg
      refine Eq_ (Ew Z5 (Emv rfl rfl (Ey rfl ((Y.fld fo_Method_1 ty_Is dc rfl).yd) (Ey rfl (Y.ld1 ty_Is rfl ((Has.pt m0).sub (cs' := [_]) 1 rfl) rfl) (Ey rfl ((Y.len us_Is rfl).yd) (Ey rfl ((Y.lss rfl rfl).yd) (Ent.d (fun q40 => ?_) (fun q40 => ?_))))))))
      ·refine Eu (E.ct rfl (E.skipc (Et (Eq_ (E.block (Eq_ (D.region (fun j => true) mixed (Dyp 0 rfl (Y.fld fo_Method_1 ty_Is dc rfl) (Dy 1 rfl (Y.ld1 ty_Is rfl ((Has.pt m0).sub (cs' := [_]) 1 rfl) rfl) (Dyp 2 rfl (Y.mv rfl) ?_))))))))))
       obtain ⟨eb46, eo46, ea46, ei46, eh46⟩ := B4.elemI g om
       refine Dyp 3 rfl (Y.ix us_Is f8 rfl ea46 rfl g rfl om) (Dy 4 rfl (Y.ld1 f8 rfl (eh46 _) rfl) (Dyp 5 rfl (Y.mv rfl) (Dyp 6 rfl (Y.fld fo_Method_0 f8 dc rfl) (Dy 7 rfl (Y.ld1 f8 rfl ((Has.pt m0).sub (cs' := [_]) 0 rfl) rfl) ?_))))
       obtain ⟨eb51, eo51, ea51, ei51, eh51⟩ := hs.elemI x9.toNat om
       refine Dyp 8 rfl (Y.ix us_Is f8 rfl ea51 rfl x9.toNat om om) (Dy 9 rfl (Y.ld1 f8 rfl (eh51 _) rfl) (Dyp 10 rfl (Y.sub rfl rfl om om) (D.st 11 rfl rfl kr (fun _ => rfl) (N.call0 D4 rfl rfl rfl dc (fun w Lp hA => trivial)) (fun _ _ => (Ent.b (fun q54 => ?_) (fun q54 => ?_))))))
       ·refine Dyp 12 rfl (Y.not (b := true) rfl) (Dyp 13 rfl (Y.mv rfl) (Dyp 14 rfl (Y.mv rfl) (Dyp 15 rfl (Y.gtr rfl rfl) (Ent.d (fun q58 => ?_) (fun q58 => ?_)))))
        ·refine Dyp 16 rfl (Y.mv rfl) (Dyp 17 rfl (Y.fld fo_Method_1 ty_Is dc rfl) (Dy 18 rfl (Y.ld1 ty_Is rfl ((Has.pt m0).sub (cs' := [_]) 1 rfl) rfl) (Dyp 19 rfl (Y.mv rfl) (Dyp 20 rfl (Y.ix us_Is f8 rfl ea46 rfl g rfl om) (Dy 21 rfl (Y.ld1 f8 rfl (eh46 _) rfl) (Dyp 22 rfl (Y.fld fo_Method_1 ty_Is dc rfl) (Dy 23 rfl (Y.ld1 ty_Is rfl ((Has.pt m0).sub (cs' := [_]) 1 rfl) rfl) (Dyp 24 rfl (Y.mv rfl) (Dyp 25 rfl (Y.sub rfl rfl om om) ?_)))))))))
         obtain ⟨eb69, eo69, ea69, ei69, eh69⟩ := B4.elemI (g - 1) om
         refine Dyp 26 rfl (Y.ix us_Is f8 rfl ea69 rfl (g - 1) om om) (Dy 27 rfl (Y.ld1 f8 rfl (eh69 _) rfl) (Dyp 28 rfl (Y.leq rfl rfl) (Ent.d (fun q71 => ?_) (fun q71 => ?_))))
         ·refine Dyp 29 rfl (Y.pkt rfl rfl) (Dyp 30 rfl (Y.pkf rfl rfl) (D.done kr (Et (E.ct rfl (Ew Z1 (Eas rfl rfl ?_))))))
          exact Eu (E.ret (E.blr (E.thr (E.thr (E.blr (E.thr (Fb rfl rfl (by grind [H6, S7, F4, z7, P1, C4, C2, C8, ltB, d1, d2, t1, t2]))))))))
         ·refine Dyp 29 rfl (Y.pkt rfl rfl) (Dyp 30 rfl (Y.pkf rfl rfl) (D.done kr (Et (E.cf rfl (E.skipc (E.bln (Et (Ez Z3 (Emv rfl rfl (Ey rfl ((Y.add rfl rfl om om).yd) (Eas rfl rfl ?_)))))))))))
          exact Eu (E.again br (g + 1) rs (.refl _) ⟨by omega, by grind [P1, C4, C2, C8, ltB, z7, d1, d2, t1, t2]⟩ om)
        ·refine Dyp 16 rfl (Y.mv rfl) (Dsk 17 rfl (Dsk 18 rfl (Dsk 19 rfl (Dsk 20 rfl (Dsk 21 rfl (Dsk 22 rfl (Dsk 23 rfl (Dsk 24 rfl (Dsk 25 rfl (Dsk 26 rfl (Dsk 27 rfl (Dsk 28 rfl (Dyp 29 rfl (Y.pkf rfl rfl) (Dyp 30 rfl (Y.pkf rfl rfl) (D.done kr (Et (E.cf rfl (E.skipc (E.bln (Et (Ez Z3 (Emv rfl rfl (Ey rfl ((Y.add rfl rfl om om).yd) (Eas rfl rfl ?_))))))))))))))))))))))))
         exact Eu (E.again br (g + 1) rs (.refl _) ⟨by omega, by grind [P1, C4, C2, C8, ltB, z7, d1, d2, t1, t2]⟩ om)
       ·refine Dyp 12 rfl (Y.not (b := false) rfl) (Dyp 13 rfl (Y.mv rfl) (Dsk 14 rfl (Dsk 15 rfl (D.sku 16 rfl rfl dc kr (Dsk 17 rfl (Dsk 18 rfl (Dsk 19 rfl (Dsk 20 rfl (Dsk 21 rfl (Dsk 22 rfl (Dsk 23 rfl (Dsk 24 rfl (Dsk 25 rfl (Dsk 26 rfl (Dsk 27 rfl (Dsk 28 rfl (Dsk 29 rfl (Dyp 30 rfl (Y.pkt rfl rfl) (D.done kr (Et (E.ct rfl (Ew Z1 (Eas rfl rfl ?_)))))))))))))))))))))))
        exact Eu (E.ret (E.blr (E.thr (E.thr (E.blr (E.thr (Fb rfl rfl (by grind [H6, S7, F4, z7, P1, C4, C2, C8, ltB, d1, d2, t1, t2]))))))))
      ·refine Eu (E.cf rfl (E.exit (E.the (E.the (E.blh (Et (Ew Z1 (Eas rfl rfl ?_))))))))
       exact Eu (E.ret (Fb rfl rfl (by grind [H6, S7, F4, z7, P1, C4, C2, C8, ltB, d1, d2, t1, t2])))
     ·refine Ey rfl ((Y.not (b := false) rfl).yd) (Ey rfl ((Y.pkf rfl rfl).yd) (Eu (E.ct rfl (Ew Z1 (Eas rfl rfl ?_)))))
      exact Eu (E.ret (E.thr (Fb rfl rfl (by grind [H6, S7, F4, z7, P1, C4, C2, C8, ltB, d1, d2, t1, t2]))))
    ·refine Ey rfl ((Y.not (b := false) rfl).yd) (Ey rfl ((Y.pkf rfl rfl).yd) (Emv rfl rfl (Es rfl (Es rfl (Es rfl (Es rfl (Ey rfl ((Y.pkt rfl rfl).yd) (Eu (E.ct rfl (Ew Z1 (Eas rfl rfl ?_)))))))))))
     exact Eu (E.ret (E.thr (Fb rfl rfl (by grind [H6, S7, F4, z7, P1, C4, C2, C8, ltB, d1, d2, t1, t2]))))
   ·refine Ey rfl ((Y.not (b := false) rfl).yd) (Ey rfl ((Y.pkf rfl rfl).yd) (Emv rfl rfl (Es rfl (Es rfl (Es rfl (Es rfl (Ey rfl ((Y.pkt rfl rfl).yd) (Emv rfl rfl (Es rfl (Es rfl (Es rfl (Es rfl (Ey rfl ((Y.pkt rfl rfl).yd) (Eu (E.ct rfl (Ew Z1 (Eas rfl rfl ?_)))))))))))))))))
    exact Eu (E.ret (E.thr (Fb rfl rfl (by grind [H6, S7, F4, z7, P1, C4, C2, C8, ltB, d1, d2, t1, t2]))))
  ·refine Ey rfl ((Y.not (b := false) rfl).yd) (Ey rfl ((Y.pkf rfl rfl).yd) (Emv rfl rfl (Es rfl (Es rfl (Es rfl (Es rfl (Ey rfl ((Y.pkt rfl rfl).yd) (Emv rfl rfl (Es rfl (Es rfl (Es rfl (Es rfl (Ey rfl ((Y.pkt rfl rfl).yd) (Emv rfl rfl (Es rfl (Es rfl (Es rfl (Es rfl (Ey rfl ((Y.pkt rfl rfl).yd) (Eu (E.ct rfl (Ew Z1 (Eas rfl rfl ?_)))))))))))))))))))))))
   exact Eu (E.ret (E.thr (Fb rfl rfl (by grind [H6, S7, F4, z7, P1, C4, C2, C8, ltB, d1, d2, t1, t2]))))
 ·refine Ey rfl ((Y.not (b := false) rfl).yd) (Emv rfl rfl (Es rfl (Es rfl (Es rfl (Es rfl (Es rfl (Es rfl (Es rfl (Ey rfl ((Y.pkt rfl rfl).yd) (Emv rfl rfl (Es rfl (Es rfl (Es rfl (Es rfl (Ey rfl ((Y.pkt rfl rfl).yd) (Emv rfl rfl (Es rfl (Es rfl (Es rfl (Es rfl (Ey rfl ((Y.pkt rfl rfl).yd) (Emv rfl rfl (Es rfl (Es rfl (Es rfl (Es rfl (Ey rfl ((Y.pkt rfl rfl).yd) (Eu (E.ct rfl (Ew Z1 (Eas rfl rfl ?_)))))))))))))))))))))))))))))))
  exact Eu (E.ret (E.thr (Fb rfl rfl (by grind [H6, S7, F4, z7, P1, C4, C2, C8, ltB, d1, d2, t1, t2]))))
theorem a2I {b_s : Nat} : Tr Tryz.prog 149 [.agg #[.int .i64 x9, .slice w5 y6 w4, .int .i64 u8, .int .i64 x7, .int .i64 u9], .pointer (some ⟨b_s, 0, none⟩)] (fun w L => (I64 x9 ∧ Ro w L eIs [.slice w5 y6 w4] l2 ∧ I64 u8 ∧ I64 x7 ∧ I64 u9) ∧ RoPt w L b_s [.slice a_s m_s c_s] ∧ Ro w L eIs [.slice a_s m_s c_s] s) [] (κ := Unit) (fun k => True) (fun k => .bool (!H6 s (x9, l2, u8, x7, u9))) (fun k => []) := by
 refine Tr.intro Tryz.func149 rfl (n := 8) rfl (by decide +kernel) bl (fr := [(0, .agg #[.int .i64 x9, .slice w5 y6 w4, .int .i64 u8, .int .i64 x7, .int .i64 u9]), (1, .pointer (some ⟨b_s, 0, none⟩))]) rfl fun w L hR => ?_
 obtain ⟨⟨U5, B4, N7, R1, N8⟩, hb_s, hs⟩ := hR
 obtain ⟨rfl, U7⟩ := B4.slen
 obtain ⟨rfl, ls⟩ := hs.slen
 refine Ew Z2 (Est rfl (N.box (cs := [_, _, _, _, _]) rfl dc rfl) (fun b2 _ => (Eas rfl rfl (Ev Z5 (Ey rfl (Y.ld1 ty_Is rfl (hb_s.has) rfl) (Ey rfl (Y.ldS (cs := [_, _, _, _, _]) ty_Method rfl (Has.pt m0) rfl) (Est rfl (N.call0 a4W rfl rfl rfl dc (fun w Lp hA => ⟨hA.ro hs, U5, hA.ro B4, N7, R1, N8⟩)) (fun _ _ => (Ey rfl ((Y.not rfl).yd) (Eas rfl rfl ?_))))))))))
 exact Eu (E.ret (Fb rfl rfl (by grind [d1, d2, t1, t2])))
theorem a3B : Tr Tryz.prog 71 [.slice a_s m_s c_s, .slice a_l m_l c_l] (fun w L => Ro w L eIs [.slice a_s m_s c_s] s ∧ Ro w L z8 [.slice a_l m_l c_l] l) [] (κ := Unit) (fun k => True) (fun k => .bool (D6 s l)) (fun k => []) := by
 refine Tr.intro Tryz.func71 rfl (n := 18) rfl (by decide +kernel) bl (fr := [(0, .slice a_s m_s c_s), (1, .slice a_l m_l c_l)]) rfl fun w L hR => ?_
 obtain ⟨hs, hl⟩ := hR
 obtain ⟨rfl, ls⟩ := hs.slen
 obtain ⟨rfl, ll⟩ := hl.slen
 refine Ew Z2 (Est rfl (N.box (cs := [_]) rfl dc rfl) (fun b2 _ => (Eas rfl rfl (Ev Z14 (Ey rfl (Y.ld1 ty_Is rfl (Has.pt m0) rfl) (Est rfl (N.call0 Y4 rfl rfl rfl dc (fun w Lp hA => hA.ro hs)) (fun _ _ => (Ent.b (fun q6 => ?_) (fun q6 => ?_)))))))))
 ·refine Emv rfl rfl (Emv rfl rfl (Ey rfl ((Y.len us_Methods rfl).yd) (Ey rfl ((Y.leq rfl rfl).yd) (Ent.d (fun q10 => ?_) (fun q10 => ?_)))))
  ·refine Ey rfl ((Y.pkt rfl rfl).yd) (Emv rfl rfl (Emv rfl rfl (Ey rfl ((Y.fn (vs := [_]) rfl).yd) (Est rfl (N.call0 (a1Y (f := (fun z => !H6 s z)) (D_f := (fun _ => True)) (by intros; exact trivial)) rfl rfl rfl dc (fun w Lp hA => ⟨hA.ro hl, FnP.ofMethod (D := (fun _ => True)) (fun hd => a2I) (fun w' hk => ⟨(hA.pt m0).keep hk, (hA.ro hs).keep hk⟩)⟩)) (fun _ _ => (Ey rfl ((Y.not rfl).yd) (Ey rfl ((Y.pkt rfl rfl).yd) (Eas rfl rfl ?_))))))))
   exact Eu (E.ret (Fb rfl rfl (by grind [D6, d1, d2, t1, t2])))
  ·refine Ey rfl ((Y.pkt rfl rfl).yd) (Emv rfl rfl (Es rfl (Es rfl (Es rfl (Es rfl (Ey rfl ((Y.pkf rfl rfl).yd) (Eas rfl rfl ?_)))))))
   exact Eu (E.ret (Fb rfl rfl (by grind [D6, d1, d2, t1, t2])))
 ·refine Emv rfl rfl (Es rfl (Es rfl (Es rfl (Ey rfl ((Y.pkf rfl rfl).yd) (Emv rfl rfl (Es rfl (Es rfl (Es rfl (Es rfl (Ey rfl ((Y.pkf rfl rfl).yd) (Eas rfl rfl ?_)))))))))))
  exact Eu (E.ret (Fb rfl rfl (by grind [D6, d1, d2, t1, t2])))
theorem a1d : Tr Tryz.prog 62 [.slice a_s m_s c_s, .slice a_l m_l c_l] (fun w L => Ro w L eIs [.slice a_s m_s c_s] s ∧ Ro w L z8 [.slice a_l m_l c_l] l) [] (κ := Unit) (fun k => True) (fun k => .bool (D6 s l)) (fun k => []) := by
 refine Tr.intro Tryz.func62 rfl (n := 26) rfl (by decide +kernel) bl (fr := [(0, .slice a_s m_s c_s), (1, .slice a_l m_l c_l)]) rfl fun w L hR => ?_
 obtain ⟨hs, hl⟩ := hR
 obtain ⟨rfl, ls⟩ := hs.slen
 obtain ⟨rfl, ll⟩ := hl.slen
 refine Ew Z1 (Eas rfl rfl (Eu (Eq_ (Ew Z1 (Eas rfl rfl (Eu (E.block (E.loop (κ := Nat) (fun g => g ≤ l.length ∧ l.any (fun m => !H6 s m) = (l.drop g).any (fun m => !H6 s m)) (fun g => [(0, .slice a_s s.length c_s), (1, .slice a_l l.length c_l), (5, .int .i64 (g : Int))]) (fun g => []) (fun g => l.length - g) 0 ⟨Nat.zero_le _, by simp⟩ ⟨rfl, rfl, rfl, trivial⟩ (.refl _) (fun g pg => ?_)))))))))
 obtain ⟨pk, pa⟩ := pg
 refine Eq_ (Ew Z4 (Emv rfl rfl (Emv rfl rfl (Ey rfl ((Y.len us_Methods rfl).yd) (Ey rfl ((Y.lss rfl rfl).yd) (Ent.d (fun q9 => ?_) (fun q9 => ?_)))))))
 ·refine Eu (E.ct rfl (E.skipc (Et (Eq_ (E.block (Ew Z7 (Emv rfl rfl (Emv rfl rfl (Emv rfl rfl ?_)))))))))
  obtain ⟨eb15, eo15, ec15, ea15, er15, el15, eh15⟩ := hl.elem g om
  obtain ⟨xa15_0, xc15_0, rfl, ei15_0, xh15_0, ei15_2, ei15_3, ei15_4⟩ := Ro.pMethod er15
  have := xh15_0.slen.2
  refine Ey rfl ((Y.ix us_Methods ty_Method rfl ea15 rfl g rfl om).yd) (Ey rfl (Y.ldS (cs := [_, _, _, _, _]) ty_Method rfl (eh15 _) rfl) (Est rfl (N.call0 a4X rfl rfl rfl dc (fun w Lp hA => ⟨hA.ro hs, ei15_0, hA.ro xh15_0, ei15_2, ei15_3, ei15_4⟩)) (fun _ _ => (Ent.b (fun q17 => ?_) (fun q17 => ?_)))))
  ·refine Ey rfl ((Y.not (b := true) rfl).yd) (Eu (E.cf rfl (E.skipc (E.bln (Et (Ez Z3 (Emv rfl rfl (Ey rfl ((Y.add rfl rfl om om).yd) (Eas rfl rfl ?_)))))))))
   exact Eu (E.again br (g + 1) rs (.refl _) ⟨by omega, by grind [d1, d2, t1, t2]⟩ om)
  ·refine Ey rfl ((Y.not (b := false) rfl).yd) (Eu (E.ct rfl (Ew Z1 (Eas rfl rfl ?_))))
   exact Eu (E.ret (E.blr (E.thr (E.thr (E.blr (E.thr (Fb rfl rfl (by grind [D6, d1, d2, t1, t2]))))))))
 ·refine Eu (E.cf rfl (E.exit (E.the (E.the (E.blh (Et (Ew Z8 (Emv rfl rfl (Est rfl (N.call0 P7 rfl rfl rfl dc (fun w Lp hA => hA.ro hs)) (fun _ _ => (Ent.b (fun q20 => ?_) (fun q20 => ?_))))))))))))
  ·refine Emv rfl rfl (Emv rfl rfl (Ey rfl ((Y.len us_Methods rfl).yd) (Ey rfl ((Y.leq rfl rfl).yd) (Ey rfl ((Y.pkt rfl rfl).yd) (Eas rfl rfl ?_)))))
   exact Eu (E.ret (Fb rfl rfl (by grind [D6, d1, d2, t1, t2])))
  ·refine Emv rfl rfl (Es rfl (Es rfl (Es rfl (Ey rfl ((Y.pkf rfl rfl).yd) (Eas rfl rfl ?_)))))
   exact Eu (E.ret (Fb rfl rfl (by grind [D6, d1, d2, t1, t2])))
theorem a2R {a2v : Int} {M6 : Option Addr} {M7 M8 : Nat} {a0d : List Int} {b_a : Nat} : Tr Tryz.prog 211 [.agg #[.int .i64 a2v, .slice M6 M7 M8], .pointer (some ⟨b_a, 0, none⟩)] (fun w L => (I64 a2v ∧ Ro w L eIs [.slice M6 M7 M8] a0d) ∧ RoPt w L b_a [.int .i64 g9, .slice n9 o5 n8] ∧ I64 g9 ∧ Ro w L eIs [.slice n9 o5 n8] j3) [] (κ := Unit) (fun k => True) (fun k => .bool (decide ((a2v, a0d) = (g9, j3)))) (fun k => []) := by
 refine Tr.intro Tryz.func211 rfl (n := 7) rfl (by decide +kernel) bl (fr := [(0, .agg #[.int .i64 a2v, .slice M6 M7 M8]), (1, .pointer (some ⟨b_a, 0, none⟩))]) rfl fun w L hR => ?_
 obtain ⟨⟨a8X, W7⟩, hb_a, D5, s3⟩ := hR
 obtain ⟨rfl, a6u⟩ := W7.slen
 obtain ⟨rfl, G6⟩ := s3.slen
 refine Ew Z2 (Est rfl (N.box (cs := [_, _]) rfl dc rfl) (fun b2 _ => (Eas rfl rfl (Ev Z4 (Ey rfl (Y.ldS (cs := [_, _]) ty_Access rfl (Has.pt m0) rfl) (Ey rfl (Y.ldS (cs := [_, _]) ty_Access rfl (hb_a.has) rfl) (Est rfl (N.call0 a3y rfl rfl rfl dc (fun w Lp hA => ⟨⟨a8X, hA.ro W7, D5, hA.ro s3⟩, trivial⟩)) (fun _ _ => (Eas rfl rfl ?_)))))))))
 exact Eu (E.ret (Fg rfl rfl () rfl rfl))
theorem a4n {l : List (Int × List Int)} : Tr Tryz.prog 125 [.slice a_l m_l c_l, .agg #[.int .i64 g9, .slice n9 o5 n8]] (fun w L => Ro w L t7 [.slice a_l m_l c_l] l ∧ I64 g9 ∧ Ro w L eIs [.slice n9 o5 n8] j3) [] (κ := Unit) (fun k => True) (fun k => .bool (Y0 l (g9, j3))) (fun k => []) := by
 refine Tr.intro Tryz.func125 rfl (n := 8) rfl (by decide +kernel) bl (fr := [(0, .slice a_l m_l c_l), (1, .agg #[.int .i64 g9, .slice n9 o5 n8])]) rfl fun w L hR => ?_
 obtain ⟨hl, D5, s3⟩ := hR
 obtain ⟨rfl, ll⟩ := hl.slen
 obtain ⟨rfl, G6⟩ := s3.slen
 refine Ew Z2 (Est rfl (N.box (cs := [_, _]) rfl dc rfl) (fun b3 _ => (Eas rfl rfl (Ev Z4 (Emv rfl rfl (Ey rfl ((Y.fn (vs := [_]) rfl).yd) (Est rfl (N.call0 (a1Z (f := (fun z => decide (z = (g9, j3)))) (D_f := (fun _ => True)) (by intros; exact trivial)) rfl rfl rfl dc (fun w Lp hA => ⟨hA.ro hl, FnP.ofAccess (D := (fun _ => True)) (fun hd => a2R) (fun w' hk => ⟨(hA.pt m0).keep hk, D5, (hA.ro s3).keep hk⟩)⟩)) (fun _ _ => (Eas rfl rfl ?_)))))))))
 exact Eu (E.ret (Fb rfl rfl (by rfl)))
theorem a4J {a_log : Option Addr} {m_log c_log : Nat} {log : List (Int × List Int)} : Tr Tryz.prog 86 [.slice a_log m_log c_log, .agg #[.int .i64 g9, .slice n9 o5 n8]] (fun w L => Ro w L t7 [.slice a_log m_log c_log] log ∧ I64 g9 ∧ Ro w L eIs [.slice n9 o5 n8] j3) [] (κ := Unit) (fun k => True) (fun k => .bool (Y0 log (g9, j3))) (fun k => []) := by
 refine Tr.intro Tryz.func86 rfl (n := 18) rfl (by decide +kernel) bl (fr := [(0, .slice a_log m_log c_log), (1, .agg #[.int .i64 g9, .slice n9 o5 n8])]) rfl fun w L hR => ?_
 obtain ⟨hlog, D5, s3⟩ := hR
 obtain ⟨rfl, llog⟩ := hlog.slen
 obtain ⟨rfl, G6⟩ := s3.slen
 refine Ew Z2 (Est rfl (N.box (cs := [_, _]) rfl dc rfl) (fun b3 _ => (Eas rfl rfl (Eu (Eq_ (Ew Z1 (Eas rfl rfl (Eu (E.block (E.loop (κ := Nat) (fun g => g ≤ log.length ∧ Y0 log (g9, j3) = Y0 (log.drop g) (g9, j3)) (fun g => [(0, .slice a_log log.length c_log), (3, .pointer (some ⟨b3, 0, none⟩)), (5, .int .i64 (g : Int))]) (fun g => [pt b3 133 [.int .i64 g9, .slice n9 j3.length n8]]) (fun g => log.length - g) 0 ⟨Nat.zero_le _, by simp⟩ ⟨rfl, rfl, rfl, trivial⟩ (.refl _) (fun g pg => ?_)))))))))))
 obtain ⟨pk, pa⟩ := pg
 refine Eq_ (Ew Z4 (Emv rfl rfl (Emv rfl rfl (Ey rfl ((Y.len us_Accesss rfl).yd) (Ey rfl ((Y.lss rfl rfl).yd) (Ent.d (fun q9 => ?_) (fun q9 => ?_)))))))
 ·refine Eu (E.ct rfl (E.skipc (Et (Eq_ (E.block (Eq_ (D.region (fun j => true) mixed (Dyp 0 rfl (Y.mv rfl) (Dyp 1 rfl (Y.mv rfl) ?_)))))))))
  obtain ⟨eb14, eo14, ec14, ea14, er14, el14, eh14⟩ := hlog.elem g om
  obtain ⟨xa14_0, xc14_0, rfl, ei14_0, xh14_0⟩ := Ro.pAccess er14
  have := xh14_0.slen.2
  refine Dyp 2 rfl (Y.ix us_Accesss ty_Access rfl ea14 rfl g rfl om) (Dy 3 rfl (Y.ldS (cs := [_, _]) ty_Access rfl (eh14 _) rfl) (Dy 4 rfl (Y.ldS (cs := [_, _]) ty_Access rfl (Has.pt m0) rfl) (D.st 5 rfl rfl kr (fun _ => rfl) (N.call0 a6B rfl rfl rfl dc (fun w Lp hA => ⟨ei14_0, hA.ro xh14_0, D5, hA.ro s3⟩)) (fun _ _ => (Ent.b (fun q17 => ?_) (fun q17 => ?_))))))
  ·refine D.done kr (Et (E.ct rfl (Ew Z1 (Eas rfl rfl ?_))))
   exact Eu (E.ret (E.blr (E.thr (E.thr (E.blr (E.thr (Fb rfl rfl (by grind [Y0, d1, d2, t1, t2]))))))))
  ·refine D.done kr (Et (E.cf rfl (E.skipc (E.bln (Et (Ez Z3 (Emv rfl rfl (Ey rfl ((Y.add rfl rfl om om).yd) (Eas rfl rfl ?_)))))))))
   exact Eu (E.again br (g + 1) rs (.refl _) ⟨by omega, by grind [Y0, d1, d2, t1, t2]⟩ om)
 ·refine Eu (E.cf rfl (E.exit (E.the (E.the (E.blh (Et (Ew Z1 (Eas rfl rfl ?_))))))))
  exact Eu (E.ret (Fb rfl rfl (by grind [Y0, d1, d2, t1, t2])))
theorem a2Z {a : List (Int × List Int × Int × Int × Int)} : Tr Tryz.prog 23 [.slice a_a m_a c_a, .int .i64 v] (fun w L => 0 ≤ v ∧ v + ((j8 B1 a : Nat) : Int) ≤ 4611686018427387904) [ow z8 [.slice a_a m_a c_a] a] (κ := Unit) (fun k => True) (fun k => .int .i64 (v + (j8 B1 a : Nat))) (fun k => [ow z8 [.slice a_a m_a c_a] (mkL B1 S1 a v)]) := by
 refine Tr.intro Tryz.func23 rfl (n := 48) rfl (by decide +kernel) bl (fr := [(0, .slice a_a m_a c_a), (1, .int .i64 v)]) rfl fun w L hR => ?_
 obtain ⟨as0, as1⟩ := hR
 refine Ent.lenow m0 fun ea la => ?_
 subst ea
 refine Ew Z1 (Eas rfl rfl (Eu (Eq_ (Ew Z1 (Eas rfl rfl (Eu (E.block (E.loop (κ := Nat) (fun g => g ≤ a.length) (fun g => [(0, .slice a_a a.length c_a), (1, .int .i64 (v + (j8 B1 (a.take g) : Nat))), (5, .int .i64 (g : Int))]) (fun g => [ow z8 [.slice a_a a.length c_a] (mkL B1 S1 (a.take g) v ++ a.drop g)]) (fun g => a.length - g) 0 (Nat.zero_le _) ⟨rfl, frI (by simp [j8]), rfl, trivial⟩ (.refl _) (fun g pg => ?_)))))))))
 have u1 := F0 (t := B1) (l := a) (g := g)
 have u2 := F0 (t := B1) (l := a) (g := g + 1)
 have hlen : (mkL B1 S1 (a.take g) v ++ a.drop g).length = a.length := by rw [List.length_append, T7, ← List.length_append, List.take_append_drop]
 refine Eq_ (Ew Z4 (Emv rfl rfl (Emv rfl rfl (Ey rfl ((Y.len us_Methods rfl).yd) (Ey rfl ((Y.lss rfl rfl).yd) (Ent.d (fun q9 => ?_) (fun q9 => ?_)))))))
 ·have u3 := E8 (t := B1) (show g < a.length by omega)
  have u4 : B1 a[g] = 1 + j8 v7 a[g].2.1 + 1 + 1 + 1 := rfl
  refine Eu (E.ct rfl (E.skipc (Et (Eq_ (E.block (Ew Z6 (Emv rfl rfl (Emv rfl rfl (Emv rfl rfl (Ent.adr m0 om fun ab15 ae15 => (Ent.open (x := a[g]) g (a1O (show g < a.length by omega)) fun ce15 => (Ent.p1 (Ent.oMethod fun oa15_1 om15_1 oc15_1 oe15 oi15_0 on15_1 oi15_2 oi15_3 oi15_4 => ?_)))))))))))))
  subst oe15
  subst on15_1
  refine Ey rfl ((Y.ix us_Methods ty_Method rfl ae15 rfl g rfl om).yd) (Ey rfl ((Y.fld fo_Method_0 f8 dc rfl).yd) (Ent.p1 (Est rfl (N.sth (f := 0) (kk := 5) (vs := [_]) (ce' := [_, _, _, _, _]) f8 rfl rfl rfl rfl rfl ae15 rfl rfl bl rfl rfl) (fun _ _ => (Ev Z3 (Emv rfl rfl (Ey rfl ((Y.add rfl rfl om om).yd) (Eas rfl rfl (Ev Z8 (Emv rfl rfl (Emv rfl rfl (Ey rfl ((Y.ix us_Methods ty_Method rfl ae15 rfl g rfl om).yd) (Ey rfl ((Y.fld fo_Method_1 ty_Is dc rfl).yd) (Ey rfl (Y.ld1 ty_Is rfl ((Has.hole ae15 m0).sub (cs' := [_]) 1 rfl) rfl) (Emv rfl rfl (Ent.p1 (Est rfl (N.call (pre := [_]) M0 rfl rfl rfl dc rfl (fun w Lp hA => ⟨(by first | assumption | omega), (by first | assumption | omega)⟩)) (fun _ _ => (Eas rfl rfl (Ev Z6 (Emv rfl rfl (Emv rfl rfl (Emv rfl rfl (Ey rfl ((Y.ix us_Methods ty_Method rfl ae15 rfl g rfl om).yd) (Ey rfl ((Y.fld fo_Method_2 f8 dc rfl).yd) (Ent.p1 (Est rfl (N.sth (f := 2) (kk := 5) (vs := [_]) (ce' := [_, _, _, _, _]) f8 rfl rfl rfl rfl rfl ae15 rfl rfl bl rfl rfl) (fun _ _ => (Ev Z3 (Emv rfl rfl (Ey rfl ((Y.add rfl rfl om om).yd) (Eas rfl rfl (Ev Z6 (Emv rfl rfl (Emv rfl rfl (Emv rfl rfl (Ey rfl ((Y.ix us_Methods ty_Method rfl ae15 rfl g rfl om).yd) (Ey rfl ((Y.fld fo_Method_3 f8 dc rfl).yd) (Est rfl (N.sth (f := 3) (kk := 5) (vs := [_]) (ce' := [_, _, _, _, _]) f8 rfl rfl rfl rfl rfl ae15 rfl rfl bl rfl rfl) (fun _ _ => (Ev Z3 (Emv rfl rfl (Ey rfl ((Y.add rfl rfl om om).yd) (Eas rfl rfl (Ev Z6 (Emv rfl rfl (Emv rfl rfl (Emv rfl rfl (Ey rfl ((Y.ix us_Methods ty_Method rfl ae15 rfl g rfl om).yd) (Ey rfl ((Y.fld fo_Method_4 f8 dc rfl).yd) (Est rfl (N.sth (f := 4) (kk := 5) (vs := [_]) (ce' := [_, _, _, _, _]) f8 rfl rfl rfl rfl rfl ae15 rfl rfl bl rfl rfl) (fun _ _ => ?_))))))))))))))))))))))))))))))))))))))))))))))))))))
  refine Eu (Ez Z3 (Emv rfl rfl (Ey rfl ((Y.add rfl rfl om om).yd) (Eas rfl rfl (En (E.bln (Et (Ez Z3 (Emv rfl rfl (Ey rfl ((Y.add rfl rfl om om).yd) (Eas rfl rfl (Eu (Ent.p1 (Ent.p1 (Ent.shut (Own.mkMethod (x := (v + (j8 B1 (a.take g) : Nat), mkL v7 J7 a[g].2.1 (v + (j8 B1 (a.take g) : Nat) + 1), (v + (j8 B1 (a.take g) : Nat) + 1) + (j8 v7 a[g].2.1 : Nat), ((v + (j8 B1 (a.take g) : Nat) + 1) + (j8 v7 a[g].2.1 : Nat) + 1), (((v + (j8 B1 (a.take g) : Nat) + 1) + (j8 v7 a[g].2.1 : Nat) + 1) + 1))) i6 Own.ow i6 i6 i6) rfl ?_)))))))))))))))
  exact E.again br (g + 1) ⟨rfl, frI om, rfl, trivial⟩ (a1s (a1r (c := B1) (m := S1) (show g < a.length by omega) rfl)) om om
 ·refine Eu (E.cf rfl (E.exit (E.the (E.the (E.blh (Et (Ew Z2 (Emv rfl rfl (Eas rfl rfl (Eu (E.ret (Ent.cv (congrArg (ow z8 [_]) (show mkL B1 S1 (a.take g) v ++ a.drop g = mkL B1 S1 a v from by first | exact U6 om | (rw [G9 om]))) ?_))))))))))))
  exact Fg rfl rfl () (by rw [show (v + (j8 B1 a : Nat)) = (v + (j8 B1 (a.take g) : Nat)) from (by first | exact U6 om | (rw [G9 om]))]; try rfl) rfl
theorem a2T : Tr Tryz.prog 55 [.slice a_a m_a c_a, .int .i64 v] (fun w L => 0 ≤ v ∧ v + ((j8 o9 a : Nat) : Int) ≤ 4611686018427387904) [ow t7 [.slice a_a m_a c_a] a] (κ := Unit) (fun k => True) (fun k => .int .i64 (v + (j8 o9 a : Nat))) (fun k => [ow t7 [.slice a_a m_a c_a] (mkL o9 E5 a v)]) := by
 refine Tr.intro Tryz.func55 rfl (n := 27) rfl (by decide +kernel) bl (fr := [(0, .slice a_a m_a c_a), (1, .int .i64 v)]) rfl fun w L hR => ?_
 obtain ⟨as0, as1⟩ := hR
 refine Ent.lenow m0 fun ea la => ?_
 subst ea
 refine Ew Z1 (Eas rfl rfl (Eu (Eq_ (Ew Z1 (Eas rfl rfl (Eu (E.block (E.loop (κ := Nat) (fun g => g ≤ a.length) (fun g => [(0, .slice a_a a.length c_a), (1, .int .i64 (v + (j8 o9 (a.take g) : Nat))), (5, .int .i64 (g : Int))]) (fun g => [ow t7 [.slice a_a a.length c_a] (mkL o9 E5 (a.take g) v ++ a.drop g)]) (fun g => a.length - g) 0 (Nat.zero_le _) ⟨rfl, frI (by simp [j8]), rfl, trivial⟩ (.refl _) (fun g pg => ?_)))))))))
 have u1 := F0 (t := o9) (l := a) (g := g)
 have u2 := F0 (t := o9) (l := a) (g := g + 1)
 have hlen : (mkL o9 E5 (a.take g) v ++ a.drop g).length = a.length := by rw [List.length_append, T7, ← List.length_append, List.take_append_drop]
 refine Eq_ (Ew Z4 (Emv rfl rfl (Emv rfl rfl (Ey rfl ((Y.len us_Accesss rfl).yd) (Ey rfl ((Y.lss rfl rfl).yd) (Ent.d (fun q9 => ?_) (fun q9 => ?_)))))))
 ·have u3 := E8 (t := o9) (show g < a.length by omega)
  have u4 : o9 a[g] = 1 + j8 v7 a[g].2 := rfl
  refine Eu (E.ct rfl (E.skipc (Et (Eq_ (E.block (Ew Z6 (Emv rfl rfl (Emv rfl rfl (Emv rfl rfl (Ent.adr m0 om fun ab15 ae15 => (Ent.open (x := a[g]) g (a1O (show g < a.length by omega)) fun ce15 => (Ent.p1 (Ent.oAccess fun oa15_1 om15_1 oc15_1 oe15 oi15_0 on15_1 => ?_)))))))))))))
  subst oe15
  subst on15_1
  refine Ey rfl ((Y.ix us_Accesss ty_Access rfl ae15 rfl g rfl om).yd) (Ey rfl ((Y.fld fo_Access_0 f8 dc rfl).yd) (Ent.p1 (Est rfl (N.sth (f := 0) (kk := 2) (vs := [_]) (ce' := [_, _]) f8 rfl rfl rfl rfl rfl ae15 rfl rfl bl rfl rfl) (fun _ _ => (Ev Z3 (Emv rfl rfl (Ey rfl ((Y.add rfl rfl om om).yd) (Eas rfl rfl (Eu (Ez Z8 (Emv rfl rfl (Emv rfl rfl (Ey rfl ((Y.ix us_Accesss ty_Access rfl ae15 rfl g rfl om).yd) (Ey rfl ((Y.fld fo_Access_1 ty_Is dc rfl).yd) (Ey rfl (Y.ld1 ty_Is rfl ((Has.hole ae15 m0).sub (cs' := [_]) 1 rfl) rfl) (Emv rfl rfl (Ent.p1 (Est rfl (N.call (pre := [_]) M0 rfl rfl rfl dc rfl (fun w Lp hA => ⟨(by first | assumption | omega), (by first | assumption | omega)⟩)) (fun _ _ => (Eas rfl rfl (En (E.bln (Et (Ez Z3 (Emv rfl rfl (Ey rfl ((Y.add rfl rfl om om).yd) (Eas rfl rfl (Eu (Ent.p1 (Ent.shut (Own.mkAccess (x := (v + (j8 o9 (a.take g) : Nat), mkL v7 J7 a[g].2 (v + (j8 o9 (a.take g) : Nat) + 1))) i6 Own.ow) rfl ?_))))))))))))))))))))))))))))))
  exact E.again br (g + 1) ⟨rfl, frI om, rfl, trivial⟩ (a1s (a1r (c := o9) (m := E5) (show g < a.length by omega) rfl)) om om
 ·refine Eu (E.cf rfl (E.exit (E.the (E.the (E.blh (Et (Ew Z2 (Emv rfl rfl (Eas rfl rfl (Eu (E.ret (Ent.cv (congrArg (ow t7 [_]) (show mkL o9 E5 (a.take g) v ++ a.drop g = mkL o9 E5 a v from by first | exact U6 om | (rw [G9 om]))) ?_))))))))))))
  exact Fg rfl rfl () (by rw [show (v + (j8 o9 a : Nat)) = (v + (j8 o9 (a.take g) : Nat)) from (by first | exact U6 om | (rw [G9 om]))]; try rfl) rfl
theorem a2W (hz : mkL o9 E5 a v = a) : Tr Tryz.prog 56 [.slice a_a m_a c_a, .int .i64 v] (fun w L => Ro w L t7 [.slice a_a m_a c_a] a ∧ 0 ≤ v ∧ v + ((j8 o9 a : Nat) : Int) ≤ 4611686018427387904) [] (κ := Unit) (fun k => True) (fun k => .int .i64 (v + (j8 o9 a : Nat))) (fun k => []) := by
 refine Tr.intro Tryz.func56 rfl (n := 31) rfl (by decide +kernel) bl (fr := [(0, .slice a_a m_a c_a), (1, .int .i64 v)]) rfl fun w L hR => ?_
 obtain ⟨ha, as0, as1⟩ := hR
 obtain ⟨rfl, la⟩ := ha.slen
 refine Ew Z1 (Eas rfl rfl (Eu (Eq_ (Ew Z1 (Eas rfl rfl (Eu (E.block (E.loop (κ := Nat) (fun g => g ≤ a.length) (fun g => [(0, .slice a_a a.length c_a), (1, .int .i64 (v + (j8 o9 (a.take g) : Nat))), (5, .int .i64 (g : Int))]) (fun g => []) (fun g => a.length - g) 0 (Nat.zero_le _) ⟨rfl, frI (by simp [j8]), rfl, trivial⟩ (.refl _) (fun g pg => ?_)))))))))
 have u1 := F0 (t := o9) (l := a) (g := g)
 have u2 := F0 (t := o9) (l := a) (g := g + 1)
 refine Eq_ (Ew Z4 (Emv rfl rfl (Emv rfl rfl (Ey rfl ((Y.len us_Accesss rfl).yd) (Ey rfl ((Y.lss rfl rfl).yd) (Ent.d (fun q9 => ?_) (fun q9 => ?_)))))))
 ·have u3 := E8 (t := o9) (show g < a.length by omega)
  have u4 : o9 a[g] = 1 + j8 v7 a[g].2 := rfl
  refine Eu (E.ct rfl (E.skipc (Et (Eq_ (E.block (Eq_ (Ew Z7 (Emv rfl rfl (Emv rfl rfl ?_)))))))))
  obtain ⟨eb14, eo14, ec14, ea14, er14, el14, eh14⟩ := ha.elem g om
  obtain ⟨xa14_0, xc14_0, rfl, ei14_0, xh14_0⟩ := Ro.pAccess er14
  have := xh14_0.slen.2
  refine Ey rfl ((Y.ix us_Accesss ty_Access rfl ea14 rfl g rfl om).yd) (Ey rfl ((Y.fld fo_Access_0 f8 dc rfl).yd) (Ey rfl (Y.ld1 f8 rfl ((eh14 _).sub (cs' := [_]) 0 rfl) rfl) (Emv rfl rfl (Ey rfl ((Y.neq rfl rfl).yd) (Ent.d (fun q18 => ?_) (fun q18 => ?_))))))
  ·exact absurd (congrArg (fun z => z.1) (a1P hz (show g < a.length by omega))).symm q18
  ·refine Eu (E.cf rfl (E.skipc (Et (Ew Z3 (Emv rfl rfl (Ey rfl ((Y.add rfl rfl om om).yd) (Eas rfl rfl (Ev Z8 (Emv rfl rfl (Emv rfl rfl (Ey rfl ((Y.ix us_Accesss ty_Access rfl ea14 rfl g rfl om).yd) (Ey rfl ((Y.fld fo_Access_1 ty_Is dc rfl).yd) (Ey rfl (Y.ld1 ty_Is rfl ((eh14 _).sub (cs' := [_]) 1 rfl) rfl) (Emv rfl rfl (Est rfl (N.call0 (a0A (congrArg (fun z => z.2) (a1P hz (show g < a.length by omega)))) rfl rfl rfl dc (fun w Lp hA => ⟨hA.ro xh14_0, (by first | assumption | omega), (by first | assumption | omega)⟩)) (fun _ _ => (Eas rfl rfl (Ev Z2 (Emv rfl rfl (Ey rfl ((Y.lss rfl rfl).yd) (Ent.d (fun q29 => ?_) (fun q29 => ?_))))))))))))))))))))))
   ·exact absurd q29 om
   ·refine Eu (E.cf rfl (E.skipc (E.bln (Et (Ez Z3 (Emv rfl rfl (Ey rfl ((Y.add rfl rfl om om).yd) (Eas rfl rfl ?_))))))))
    exact Eu (E.again br (g + 1) ⟨rfl, frI om, rfl, trivial⟩ (.refl _) om om)
 ·refine Eu (E.cf rfl (E.exit (E.the (E.the (E.blh (Et (Ew Z2 (Emv rfl rfl (Eas rfl rfl ?_)))))))))
  exact Eu (E.ret (Fg rfl rfl () (congrArg (Value.int .i64) (by rw [G9 om])) rfl))
end Go.Proofs.YtdopeopehgdccaaGreat
