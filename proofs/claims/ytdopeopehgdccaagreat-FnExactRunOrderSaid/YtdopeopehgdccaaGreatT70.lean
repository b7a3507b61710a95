import Derived.Test.YtdopeopehgdccaaGreatBs
import Derived.Test.YtdopeopehgdccaaGreatT10
import Derived.Test.YtdopeopehgdccaaGreatT17
import Derived.Test.YtdopeopehgdccaaGreatT11
import Derived.Test.YtdopeopehgdccaaGreatT13
import Derived.Test.YtdopeopehgdccaaGreatT16
import Derived.Test.YtdopeopehgdccaaGreatBd
import Derived.Test.YtdopeopehgdccaaGreatDs
import Derived.Test.YtdopeopehgdccaaGreatBh
import Derived.Test.YtdopeopehgdccaaGreatEq
namespace Go.Proofs.YtdopeopehgdccaaGreat
open Go.RowKit
set_option linter.all false
set_option maxHeartbeats 2000000
attribute [local irreducible] Nop Yd Yp Ent Has Tr FnP FnP2 Src M5 V6 Y1 a0b D2
variable {j5 x9 u8 x7 u9 : Int} {f5 K2 l2 : List Int} {s6 o3 m_bound c_bound y6 w4 : Nat} {o4 a_bound w5 : Option Addr}
theorem a3N {i : Int} {b_a : Nat} {b_bound : Nat} : Tr Tryz.prog 249 [.int .i64 i, .pointer (some ⟨b_a, 0, none⟩), .pointer (some ⟨b_bound, 0, none⟩)] (fun w L => (I64 i) ∧ RoPt w L b_a [.int .i64 j5, .slice o4 s6 o3] ∧ I64 j5 ∧ Ro w L eIs [.slice o4 s6 o3] f5 ∧ RoPt w L b_bound [.slice a_bound m_bound c_bound] ∧ Ro w L eIs [.slice a_bound m_bound c_bound] K2) [] (κ := Unit) (fun k => True) (fun k => .bool (W0 (j5, f5) K2 i)) (fun k => []) := by
 refine Tr.intro Tryz.func249 rfl (n := 30) rfl (by decide +kernel) bl (fr := [(0, .int .i64 i), (1, .pointer (some ⟨b_a, 0, none⟩)), (2, .pointer (some ⟨b_bound, 0, none⟩))]) rfl fun w L hR => ?_
 obtain ⟨i6i, hb_a, E4, v6, hb_bound, hbound⟩ := hR
 obtain ⟨rfl, K3⟩ := v6.slen
 obtain ⟨rfl, lbound⟩ := hbound.slen
 refine Ew Z1 (Eas rfl rfl (Eu (Eq_ (D.region (fun j => true) mixed (Dyp 0 rfl (Y.mv rfl) (Dyp 1 rfl (Y.fld fo_Atom_1 ty_Is dc rfl) (Dy 2 rfl (Y.ld1 ty_Is rfl ((hb_a.has).sub (cs' := [_]) 1 rfl) rfl) (Dyp 3 rfl (Y.len us_Is rfl) (Dyp 4 rfl (Y.sub rfl rfl om om) (D.st 5 rfl rfl kr (fun _ => rfl) (N.call0 E6 rfl rfl rfl dc (fun w Lp hA => trivial)) (fun _ _ => (Ent.b (fun q10 => ?_) (fun q10 => ?_)))))))))))))
 ·have jz : 0 ≤ i ∧ i ≤ (f5.length : Int) - 1 := of_decide_eq_true q10
  refine Dyp 6 rfl (Y.not (b := true) rfl) (Dyp 7 rfl (Y.mv rfl) (Dyp 8 rfl (Y.fld fo_Atom_1 ty_Is dc rfl) (Dy 9 rfl (Y.ld1 ty_Is rfl ((hb_a.has).sub (cs' := [_]) 1 rfl) rfl) (Dyp 10 rfl (Y.mv rfl) ?_))))
  obtain ⟨eb16, eo16, ea16, ei16, eh16⟩ := v6.elemI i.toNat om
  refine Dyp 11 rfl (Y.ix us_Is f8 rfl ea16 rfl i.toNat om om) (Dy 12 rfl (Y.ld1 f8 rfl (eh16 _) rfl) (D.st 13 rfl rfl kr (fun _ => rfl) (N.call0 Y7 rfl rfl rfl dc (fun w Lp hA => trivial)) (fun _ _ => (Ent.b (fun q18 => ?_) (fun q18 => ?_)))))
  ·refine Dyp 14 rfl (Y.mv rfl) (Dy 15 rfl (Y.ld1 ty_Is rfl (hb_bound.has) rfl) (Dyp 16 rfl (Y.fld fo_Atom_1 ty_Is dc rfl) (Dy 17 rfl (Y.ld1 ty_Is rfl ((hb_a.has).sub (cs' := [_]) 1 rfl) rfl) (Dyp 18 rfl (Y.mv rfl) (Dyp 19 rfl (Y.ix us_Is f8 rfl ea16 rfl i.toNat om om) (Dy 20 rfl (Y.ld1 f8 rfl (eh16 _) rfl) (D.st 21 rfl rfl kr (fun _ => rfl) (N.call0 Y3 rfl rfl rfl dc (fun w Lp hA => hA.ro hbound)) (fun _ _ => (Dyp 22 rfl (Y.not rfl) (Dyp 23 rfl (Y.pkt rfl rfl) (Dyp 24 rfl (Y.pkf rfl rfl) (Dyp 25 rfl (Y.as rfl) ?_))))))))))))
   exact D.done kr (Et (E.ret (Fb rfl rfl (by grind [W0, z7, d1, d2, t1, t2]))))
  ·refine Dyp 14 rfl (Y.mv rfl) (Dsk 15 rfl (Dsk 16 rfl (Dsk 17 rfl (Dsk 18 rfl (Dsk 19 rfl (Dsk 20 rfl (Dsk 21 rfl (Dsk 22 rfl (Dyp 23 rfl (Y.pkf rfl rfl) (Dyp 24 rfl (Y.pkf rfl rfl) (Dyp 25 rfl (Y.as rfl) ?_)))))))))))
   exact D.done kr (Et (E.ret (Fb rfl rfl (by grind [W0, z7, d1, d2, t1, t2]))))
 ·refine Dyp 6 rfl (Y.not (b := false) rfl) (Dyp 7 rfl (Y.mv rfl) (Dsk 8 rfl (Dsk 9 rfl (Dsk 10 rfl (Dsk 11 rfl (Dsk 12 rfl (Dsk 13 rfl (D.sku 14 rfl rfl dc kr (Dsk 15 rfl (Dsk 16 rfl (Dsk 17 rfl (Dsk 18 rfl (Dsk 19 rfl (Dsk 20 rfl (Dsk 21 rfl (Dsk 22 rfl (Dsk 23 rfl (Dyp 24 rfl (Y.pkt rfl rfl) (Dyp 25 rfl (Y.as rfl) ?_)))))))))))))))))))
  exact D.done kr (Et (E.ret (Fb rfl rfl (by grind [W0, z7, d1, d2, t1, t2]))))
theorem a5p : Tr Tryz.prog 178 [.agg #[.int .i64 x9, .slice w5 y6 w4, .int .i64 u8, .int .i64 x7, .int .i64 u9], .agg #[.int .i64 j5, .slice o4 s6 o3], .slice a_bound m_bound c_bound] (fun w L => I64 x9 ∧ Ro w L eIs [.slice w5 y6 w4] l2 ∧ I64 u8 ∧ I64 x7 ∧ I64 u9 ∧ I64 j5 ∧ Ro w L eIs [.slice o4 s6 o3] f5 ∧ Ro w L eIs [.slice a_bound m_bound c_bound] K2) [] (κ := Unit) (fun k => True) (fun k => .bool (S9 (x9, l2, u8, x7, u9) (j5, f5) K2)) (fun k => []) := by
 refine Tr.intro Tryz.func178 rfl (n := 19) rfl (by decide +kernel) bl (fr := [(0, .agg #[.int .i64 x9, .slice w5 y6 w4, .int .i64 u8, .int .i64 x7, .int .i64 u9]), (1, .agg #[.int .i64 j5, .slice o4 s6 o3]), (2, .slice a_bound m_bound c_bound)]) rfl fun w L hR => ?_
 obtain ⟨U5, B4, N7, R1, N8, E4, v6, hbound⟩ := hR
 obtain ⟨rfl, U7⟩ := B4.slen
 obtain ⟨rfl, K3⟩ := v6.slen
 obtain ⟨rfl, lbound⟩ := hbound.slen
 refine Ew Z4 (Est rfl (N.box (cs := [_, _, _, _, _]) rfl dc rfl) (fun b3 _ => (Est rfl (N.box (cs := [_, _]) rfl dc rfl) (fun b4 _ => (Est rfl (N.box (cs := [_]) rfl dc rfl) (fun b5 _ => (Eas rfl rfl (Ev Z13 (Ey rfl ((Y.fld fo_Method_0 f8 dc rfl).yd) (Ey rfl (Y.ld1 f8 rfl ((Has.pt (mS (mS m0))).sub (cs' := [_]) 0 rfl) rfl) (Ey rfl ((Y.fld fo_Atom_0 f8 dc rfl).yd) (Ey rfl (Y.ld1 f8 rfl ((Has.pt (mS m0)).sub (cs' := [_]) 0 rfl) rfl) (Ey rfl ((Y.eql rfl rfl).yd) (Ent.d (fun q11 => ?_) (fun q11 => ?_)))))))))))))))
 ·refine Emv rfl rfl (Ey rfl ((Y.fld fo_Method_1 ty_Is dc rfl).yd) (Ey rfl (Y.ld1 ty_Is rfl ((Has.pt (mS (mS m0))).sub (cs' := [_]) 1 rfl) rfl) (Ey rfl ((Y.fn (vs := [_, _]) rfl).yd) (Est rfl (N.call0 (O4 (f := (fun i => W0 (j5, f5) K2 i)) (D_f := (fun _ => True)) (by intros; exact trivial)) rfl rfl rfl dc (fun w Lp hA => ⟨hA.ro B4, FnP.ofI (D := (fun _ => True)) (fun hd => a3N) (fun w' hk => ⟨(hA.pt (mS m0)).keep hk, E4, (hA.ro v6).keep hk, (hA.pt m0).keep hk, (hA.ro hbound).keep hk⟩)⟩)) (fun _ _ => (Ey rfl ((Y.not rfl).yd) (Ey rfl ((Y.pkt rfl rfl).yd) (Eas rfl rfl ?_))))))))
  exact Eu (E.ret (Fb rfl rfl (by grind [S9, d1, d2, t1, t2])))
 ·refine Emv rfl rfl (Es rfl (Es rfl (Es rfl (Es rfl (Es rfl (Ey rfl ((Y.pkf rfl rfl).yd) (Eas rfl rfl ?_)))))))
  exact Eu (E.ret (Fb rfl rfl (by grind [S9, d1, d2, t1, t2])))
theorem a5E : Tr Tryz.prog 169 [.agg #[.int .i64 x9, .slice w5 y6 w4, .int .i64 u8, .int .i64 x7, .int .i64 u9], .agg #[.int .i64 j5, .slice o4 s6 o3], .slice a_bound m_bound c_bound] (fun w L => I64 x9 ∧ Ro w L eIs [.slice w5 y6 w4] l2 ∧ I64 u8 ∧ I64 x7 ∧ I64 u9 ∧ I64 j5 ∧ Ro w L eIs [.slice o4 s6 o3] f5 ∧ Ro w L eIs [.slice a_bound m_bound c_bound] K2) [] (κ := Unit) (fun k => True) (fun k => .bool (S9 (x9, l2, u8, x7, u9) (j5, f5) K2)) (fun k => []) := by
 refine Tr.intro Tryz.func169 rfl (n := 49) rfl (by decide +kernel) bl (fr := [(0, .agg #[.int .i64 x9, .slice w5 y6 w4, .int .i64 u8, .int .i64 x7, .int .i64 u9]), (1, .agg #[.int .i64 j5, .slice o4 s6 o3]), (2, .slice a_bound m_bound c_bound)]) rfl fun w L hR => ?_
 obtain ⟨U5, B4, N7, R1, N8, E4, v6, hbound⟩ := hR
 obtain ⟨rfl, U7⟩ := B4.slen
 obtain ⟨rfl, K3⟩ := v6.slen
 obtain ⟨rfl, lbound⟩ := hbound.slen
 refine Ew Z3 (Est rfl (N.box (cs := [_, _, _, _, _]) rfl dc rfl) (fun b3 _ => (Est rfl (N.box (cs := [_, _]) rfl dc rfl) (fun b4 _ => (Eas rfl rfl (Eu (Eq_ (Ew Z5 (Ey rfl ((Y.fld fo_Method_0 f8 dc rfl).yd) (Ey rfl (Y.ld1 f8 rfl ((Has.pt (mS m0)).sub (cs' := [_]) 0 rfl) rfl) (Ey rfl ((Y.fld fo_Atom_0 f8 dc rfl).yd) (Ey rfl (Y.ld1 f8 rfl ((Has.pt m0).sub (cs' := [_]) 0 rfl) rfl) (Ey rfl ((Y.neq rfl rfl).yd) (Ent.d (fun q13 => ?_) (fun q13 => ?_)))))))))))))))
 ·refine Eu (E.ct rfl (Ew Z1 (Eas rfl rfl ?_)))
  exact Eu (E.ret (E.thr (Fb rfl rfl (by grind [S9, W0, z7, d1, d2, t1, t2]))))
 ·refine Eu (E.cf rfl (E.skipc (Et (Eq_ (Ew Z1 (Eas rfl rfl (Eu (E.block (E.loop (κ := Nat) (fun g => g ≤ l2.length ∧ l2.any (W0 (j5, f5) K2) = (l2.drop g).any (W0 (j5, f5) K2)) (fun g => [(2, .slice a_bound K2.length c_bound), (3, .pointer (some ⟨b3, 0, none⟩)), (4, .pointer (some ⟨b4, 0, none⟩)), (7, .int .i64 (g : Int))]) (fun g => [pt b4 128 [.int .i64 j5, .slice o4 f5.length o3], pt b3 113 [.int .i64 x9, .slice w5 l2.length w4, .int .i64 u8, .int .i64 x7, .int .i64 u9]]) (fun g => l2.length - g) 0 ⟨Nat.zero_le _, by simp⟩ ⟨rfl, rfl, rfl, rfl, trivial⟩ (.refl _) (fun g pg => ?_))))))))))
  obtain ⟨pk, pa⟩ := pg
  refine Eq_ (Ew Z5 (Emv rfl rfl (Ey rfl ((Y.fld fo_Method_1 ty_Is dc rfl).yd) (Ey rfl (Y.ld1 ty_Is rfl ((Has.pt (mS m0)).sub (cs' := [_]) 1 rfl) rfl) (Ey rfl ((Y.len us_Is rfl).yd) (Ey rfl ((Y.lss rfl rfl).yd) (Ent.d (fun q18 => ?_) (fun q18 => ?_))))))))
  ·refine Eu (E.ct rfl (E.skipc (Et (Eq_ (E.block (Eq_ (Eq_ (D.region (fun j => true) mixed (Dyp 0 rfl (Y.fld fo_Method_1 ty_Is dc rfl) (Dy 1 rfl (Y.ld1 ty_Is rfl ((Has.pt (mS m0)).sub (cs' := [_]) 1 rfl) rfl) (Dyp 2 rfl (Y.mv rfl) ?_)))))))))))
   obtain ⟨eb24, eo24, ea24, ei24, eh24⟩ := B4.elemI g om
   refine Dyp 3 rfl (Y.ix us_Is f8 rfl ea24 rfl g rfl om) (Dy 4 rfl (Y.ld1 f8 rfl (eh24 _) rfl) (Dyp 5 rfl (Y.fld fo_Atom_1 ty_Is dc rfl) (Dy 6 rfl (Y.ld1 ty_Is rfl ((Has.pt m0).sub (cs' := [_]) 1 rfl) rfl) (Dyp 7 rfl (Y.len us_Is rfl) (Dyp 8 rfl (Y.sub rfl rfl om om) (D.st 9 rfl rfl kr (fun _ => rfl) (N.call0 D4 rfl rfl rfl dc (fun w Lp hA => trivial)) (fun _ _ => (Ent.b (fun q30 => ?_) (fun q30 => ?_)))))))))
   ·have jz : 0 ≤ l2[g] ∧ l2[g] ≤ (f5.length : Int) - 1 := of_decide_eq_true q30
    refine Dyp 10 rfl (Y.not (b := true) rfl) (D.done kr (Et (E.cf rfl (E.skipc (Et (Eq_ (D.region (fun j => true) mixed (Dyp 0 rfl (Y.fld fo_Atom_1 ty_Is dc rfl) (Dy 1 rfl (Y.ld1 ty_Is rfl ((Has.pt m0).sub (cs' := [_]) 1 rfl) rfl) (Dyp 2 rfl (Y.fld fo_Method_1 ty_Is dc rfl) (Dy 3 rfl (Y.ld1 ty_Is rfl ((Has.pt (mS m0)).sub (cs' := [_]) 1 rfl) rfl) (Dyp 4 rfl (Y.mv rfl) (Dyp 5 rfl (Y.ix us_Is f8 rfl ea24 rfl g rfl om) (Dy 6 rfl (Y.ld1 f8 rfl (eh24 _) rfl) ?_))))))))))))))
    obtain ⟨eb39, eo39, ea39, ei39, eh39⟩ := v6.elemI l2[g].toNat om
    refine Dyp 7 rfl (Y.ix us_Is f8 rfl ea39 rfl l2[g].toNat om om) (Dy 8 rfl (Y.ld1 f8 rfl (eh39 _) rfl) (Dyp 9 rfl (Y.as rfl) (D.done kr (Et (Ew Z8 (Emv rfl rfl (Est rfl (N.call0 W2 rfl rfl rfl dc (fun w Lp hA => trivial)) (fun _ _ => (Ent.b (fun q42 => ?_) (fun q42 => ?_))))))))))
    ·refine Emv rfl rfl (Emv rfl rfl (Emv rfl rfl (Est rfl (N.call0 a0D rfl rfl rfl dc (fun w Lp hA => hA.ro hbound)) (fun _ _ => (Ent.b (fun q46 => ?_) (fun q46 => ?_))))))
     ·refine Ey rfl ((Y.not (b := true) rfl).yd) (Ey rfl ((Y.pkt rfl rfl).yd) (Eu (E.cf rfl (E.skipc (E.bln (Et (Ez Z3 (Emv rfl rfl (Ey rfl ((Y.add rfl rfl om om).yd) (Eas rfl rfl (Eu (Ent.p1 (Ent.p1 ?_)))))))))))))
      exact E.again br (g + 1) rs (.refl _) ⟨by omega, by grind [W0, z7, d1, d2, t1, t2]⟩ om
     ·refine Ey rfl ((Y.not (b := false) rfl).yd) (Ey rfl ((Y.pkt rfl rfl).yd) (Eu (E.ct rfl (Ew Z1 (Eas rfl rfl ?_)))))
      exact Eu (E.ret (E.blr (E.thr (E.thr (E.blr (E.thr (Fb rfl rfl (by grind [S9, W0, z7, d1, d2, t1, t2]))))))))
    ·refine Emv rfl rfl (Es rfl (Es rfl (Es rfl (Es rfl (Ey rfl ((Y.pkf rfl rfl).yd) (Eu (E.cf rfl (E.skipc (E.bln (Et (Ez Z3 (Emv rfl rfl (Ey rfl ((Y.add rfl rfl om om).yd) (Eas rfl rfl (Eu (Ent.p1 (Ent.p1 ?_)))))))))))))))))
     exact E.again br (g + 1) rs (.refl _) ⟨by omega, by grind [W0, z7, d1, d2, t1, t2]⟩ om
   ·refine Dyp 10 rfl (Y.not (b := false) rfl) (D.done kr (Et (E.ct rfl (Ew Z1 (Eas rfl rfl ?_)))))
    exact Eu (E.ret (E.thr (E.blr (E.thr (E.thr (E.blr (E.thr (Fb rfl rfl (by grind [S9, W0, z7, d1, d2, t1, t2])))))))))
  ·refine Eu (E.cf rfl (E.exit (E.the (E.the (E.blh (Et (Ew Z1 (Eas rfl rfl ?_))))))))
   exact Eu (E.ret (Fb rfl rfl (by grind [S9, W0, z7, d1, d2, t1, t2])))
theorem a6K (hz : K2.length ≤ 1000) (ht : f5.length ≤ 3) : Tr Tryz.prog 170 [.slice a_bound m_bound c_bound, .agg #[.int .i64 j5, .slice o4 s6 o3]] (fun w L => Ro w L eIs [.slice a_bound m_bound c_bound] K2 ∧ I64 j5 ∧ Ro w L eIs [.slice o4 s6 o3] f5) [] (κ := Option Addr × Nat × Nat) (fun k => True) (fun k => .slice k.1 k.2.1 k.2.2) (fun k => [ow eIs [.slice k.1 k.2.1 k.2.2] (a0K K2 (j5, f5))]) := by
 refine Tr.intro Tryz.func170 rfl (n := 31) rfl (by decide +kernel) bl (fr := [(0, .slice a_bound m_bound c_bound), (1, .agg #[.int .i64 j5, .slice o4 s6 o3])]) rfl fun w L hR => ?_
 obtain ⟨hbound, E4, v6⟩ := hR
 obtain ⟨rfl, lbound⟩ := hbound.slen
 obtain ⟨rfl, K3⟩ := v6.slen
 refine Ew Z2 (Est rfl (N.box (cs := [_, _]) rfl dc rfl) (fun b3 _ => (Eas rfl rfl (Ev Z4 (Est rfl (N.bsl (pvs := []) (cs := []) us_Is f8 rfl dc dc (o8 rfl rfl) rfl dc) (fun b7 _ => (Ent.drop (Emv rfl rfl (Est rfl (N.pushR0 (E := Enc.int) Plain.int us_Is f8 rfl rfl rfl hbound bn bn dc) (fun p9 _ => (Eas rfl rfl (Eu (Eq_ (Ew Z1 (Eas rfl rfl (Eu (E.block (Ent.cv (congrArg (ow eIs [_]) (show K2 = ((f5.take 0).filter fun t => inR t 10 17).foldl D9 K2 from by first | rfl | (simp; done) | grind [d1, d2, t1, t2])) (E.loop (κ := Nat × Option Addr × Nat × Nat) (fun g => g.1 ≤ f5.length ∧ True) (fun g => [(3, .pointer (some ⟨b3, 0, none⟩)), (5, .slice g.2.1 g.2.2.1 g.2.2.2), (6, .int .i64 (↑g.1 : Int))]) (fun g => [ow eIs [.slice g.2.1 g.2.2.1 g.2.2.2] (((f5.take g.1).filter fun t => inR t 10 17).foldl D9 K2), pt b3 128 [.int .i64 j5, .slice o4 f5.length o3]]) (fun g => f5.length - g.1) (0, p9.1, K2.length, p9.2) ⟨Nat.zero_le _, by simp⟩ ⟨rfl, rfl, rfl, trivial⟩ (.refl _) (fun g pg => ?_))))))))))))))))))))
 obtain ⟨g, aA0_0, mA0_0, cA0_0⟩ := g
 try dsimp only at pg
 try dsimp only
 obtain ⟨pk, pa⟩ := pg
 have jf := a2N (b := K2) (t := (f5.take g).filter fun t => inR t 10 17)
 have jg := List.length_filter_le (fun t => inR t 10 17) (f5.take g)
 have jh := List.length_take_le g f5
 refine Ent.lenow m0 fun eaA0_0 laA0_0 => ?_
 subst eaA0_0
 refine Eq_ (Ew Z5 (Emv rfl rfl (Ey rfl ((Y.fld fo_Atom_1 ty_Is dc rfl).yd) (Ey rfl (Y.ld1 ty_Is rfl ((Has.pt (mS m0)).sub (cs' := [_]) 1 rfl) rfl) (Ey rfl ((Y.len us_Is rfl).yd) (Ey rfl ((Y.lss rfl rfl).yd) (Ent.d (fun q14 => ?_) (fun q14 => ?_))))))))
 ·refine Eu (E.ct rfl (E.skipc (Et (Eq_ (E.block (Ew Z6 (Ey rfl ((Y.fld fo_Atom_1 ty_Is dc rfl).yd) (Ey rfl (Y.ld1 ty_Is rfl ((Has.pt (mS m0)).sub (cs' := [_]) 1 rfl) rfl) (Emv rfl rfl ?_)))))))))
  obtain ⟨eb20, eo20, ea20, ei20, eh20⟩ := v6.elemI g om
  refine Ey rfl ((Y.ix us_Is f8 rfl ea20 rfl g rfl om).yd) (Ey rfl (Y.ld1 f8 rfl (eh20 _) rfl) (Est rfl (N.call0 W2 rfl rfl rfl dc (fun w Lp hA => trivial)) (fun _ _ => (Ent.b (fun q22 => ?_) (fun q22 => ?_)))))
  ·refine Eu (E.ct rfl (Ez Z8 (Emv rfl rfl (Ey rfl ((Y.fld fo_Atom_1 ty_Is dc rfl).yd) (Ey rfl (Y.ld1 ty_Is rfl ((Has.pt (mS m0)).sub (cs' := [_]) 1 rfl) rfl) (Emv rfl rfl (Ey rfl ((Y.ix us_Is f8 rfl ea20 rfl g rfl om).yd) (Ey rfl (Y.ld1 f8 rfl (eh20 _) rfl) (Est rfl (N.call (pre := [_]) (a2M fc) rfl rfl rfl dc rfl (fun w Lp hA => ei20)) (fun k29 _ => ?_))))))))))
   obtain ⟨a29, m29, c29⟩ := k29
   refine Ent.lenow m0 fun e29 l29 => ?_
   subst e29
   refine Eas rfl rfl (En (E.bln (Et (Ez Z3 (Emv rfl rfl (Ey rfl ((Y.add rfl rfl om om).yd) (Eas rfl rfl (Eu (Ent.cv (congrArg (ow eIs [_]) (show D9 (((f5.take g).filter fun t => inR t 10 17).foldl D9 K2) f5[g] = ((f5.take (g + 1)).filter fun t => inR t 10 17).foldl D9 K2 from by first | exact a9D om q22 | exact a9d om q22)) (Ent.p1 (Ent.p1 ?_)))))))))))
   exact Ea (g + 1, a29, (D9 (((f5.take g).filter fun t => inR t 10 17).foldl D9 K2) f5[g]).length, c29) ⟨oz, trivial⟩
  ·refine Eu (E.cf rfl (E.skipc (E.bln (Et (Ez Z3 (Emv rfl rfl (Ey rfl ((Y.add rfl rfl om om).yd) (Eas rfl rfl (Eu (Ent.cv (congrArg (ow eIs [_]) (show ((f5.take g).filter fun t => inR t 10 17).foldl D9 K2 = ((f5.take (g + 1)).filter fun t => inR t 10 17).foldl D9 K2 from by first | exact a9D om q22 | exact a9d om q22)) (Ent.p1 (Ent.p1 ?_))))))))))))
   exact Ea (g + 1, aA0_0, (((f5.take g).filter fun t => inR t 10 17).foldl D9 K2).length, cA0_0) ⟨oz, trivial⟩
 ·refine Eu (E.cf rfl (E.exit (E.the (E.the (E.blh (Et (Ew Z2 (Emv rfl rfl (Eas rfl rfl (Eu (E.ret (Ent.cv (congrArg (ow eIs [_]) (show _ = a0K K2 (j5, f5) by rw [List.take_of_length_le om]; rfl)) ?_))))))))))))
  exact Fg rfl rfl (_, _, _) rfl rfl
end Go.Proofs.YtdopeopehgdccaaGreat
