import Derived.Test.YtdopeopehgdccaaGreatBs
import Derived.Test.YtdopeopehgdccaaGreatT10
import Derived.Test.YtdopeopehgdccaaGreatT22
import Derived.Test.YtdopeopehgdccaaGreatEq
namespace Go.Proofs.YtdopeopehgdccaaGreat
open Go.RowKit
set_option linter.all false
set_option maxHeartbeats 2000000
attribute [local irreducible] Nop Yd Yp Ent Has Tr FnP FnP2 Src K9 U8 W3 X6 E0
variable {i9 y5 u8 x7 u9 : Int} {l : List (Int × List Int × Int × Int × Int)} {d7 : List (Int × List Int)} {f6 D4 r6 : List Int} {b_a s0 o8 b_bound m_bound c_bound x8 v6 m_l c_l b_is m_atoms c_atoms : Nat} {o7 a_bound v7 a_l a_atoms : Option Addr}
theorem a6D {i : Int} : Tr Tryz.prog 249 [.int .i64 i, .pointer (some ⟨b_a, 0, none⟩), .pointer (some ⟨b_bound, 0, none⟩)] (fun w L => (I64 i) ∧ RoPt w L b_a [.int .i64 i9, .slice o7 s0 o8] ∧ I64 i9 ∧ Ro w L eIs [.slice o7 s0 o8] f6 ∧ RoPt w L b_bound [.slice a_bound m_bound c_bound] ∧ Ro w L eIs [.slice a_bound m_bound c_bound] D4) [] (κ := Unit) (fun k => True) (fun k => .bool (X3 (i9, f6) D4 i)) (fun k => []) := by
 refine Tr.intro Tryz.func249 rfl (n := 30) rfl (by decide +kernel) bl (fr := [(0, .int .i64 i), (1, .pointer (some ⟨b_a, 0, none⟩)), (2, .pointer (some ⟨b_bound, 0, none⟩))]) rfl fun w L hR => ?_
 obtain ⟨i6i, hb_a, D9, s7, hb_bound, hbound⟩ := hR
 obtain ⟨rfl, I5⟩ := s7.slen
 obtain ⟨rfl, lbound⟩ := hbound.slen
 refine Ew Z1 (Eas rfl rfl (Eu (Eq_ (D.region (fun j => true) mixed (Dyp 0 rfl (Y.mv rfl) (Dyp 1 rfl (Y.fld fo_Atom_1 ty_Is dc rfl) (Dy 2 rfl (Y.ld1 ty_Is rfl ((hb_a.has).sub (cs' := [_]) 1 rfl) rfl) (Dyp 3 rfl (Y.len us_Is rfl) (Dyp 4 rfl (Y.sub rfl rfl om om) (D.st 5 rfl rfl kr (fun _ => rfl) (N.call0 I1 rfl rfl rfl dc (fun w Lp hA => trivial)) (fun _ _ => (Ent.b (fun q10 => ?_) (fun q10 => ?_)))))))))))))
 ·have jz : 0 ≤ i ∧ i ≤ (f6.length : Int) - 1 := of_decide_eq_true q10
  refine Dyp 6 rfl (Y.not (b := true) rfl) (Dyp 7 rfl (Y.mv rfl) (Dyp 8 rfl (Y.fld fo_Atom_1 ty_Is dc rfl) (Dy 9 rfl (Y.ld1 ty_Is rfl ((hb_a.has).sub (cs' := [_]) 1 rfl) rfl) (Dyp 10 rfl (Y.mv rfl) ?_))))
  obtain ⟨eb16, eo16, ea16, ei16, eh16⟩ := s7.elemI i.toNat om
  refine Dyp 11 rfl (Y.ix us_Is f8 rfl ea16 rfl i.toNat om om) (Dy 12 rfl (Y.ld1 f8 rfl (eh16 _) rfl) (D.st 13 rfl rfl kr (fun _ => rfl) (N.call0 a0t rfl rfl rfl dc (fun w Lp hA => trivial)) (fun _ _ => (Ent.b (fun q18 => ?_) (fun q18 => ?_)))))
  ·refine Dyp 14 rfl (Y.mv rfl) (Dy 15 rfl (Y.ld1 ty_Is rfl (hb_bound.has) rfl) (Dyp 16 rfl (Y.fld fo_Atom_1 ty_Is dc rfl) (Dy 17 rfl (Y.ld1 ty_Is rfl ((hb_a.has).sub (cs' := [_]) 1 rfl) rfl) (Dyp 18 rfl (Y.mv rfl) (Dyp 19 rfl (Y.ix us_Is f8 rfl ea16 rfl i.toNat om om) (Dy 20 rfl (Y.ld1 f8 rfl (eh16 _) rfl) (D.st 21 rfl rfl kr (fun _ => rfl) (N.call0 U6 rfl rfl rfl dc (fun w Lp hA => hA.ro hbound)) (fun _ _ => (Dyp 22 rfl (Y.not rfl) (Dyp 23 rfl (Y.pkt rfl rfl) (Dyp 24 rfl (Y.pkf rfl rfl) (Dyp 25 rfl (Y.as rfl) ?_))))))))))))
   exact D.done kr (Et (E.ret (Fb rfl rfl (by grind [X3, B6, d1, d2, t1, t2]))))
  ·refine Dyp 14 rfl (Y.mv rfl) (Dsk 15 rfl (Dsk 16 rfl (Dsk 17 rfl (Dsk 18 rfl (Dsk 19 rfl (Dsk 20 rfl (Dsk 21 rfl (Dsk 22 rfl (Dyp 23 rfl (Y.pkf rfl rfl) (Dyp 24 rfl (Y.pkf rfl rfl) (Dyp 25 rfl (Y.as rfl) ?_)))))))))))
   exact D.done kr (Et (E.ret (Fb rfl rfl (by grind [X3, B6, d1, d2, t1, t2]))))
 ·refine Dyp 6 rfl (Y.not (b := false) rfl) (Dyp 7 rfl (Y.mv rfl) (Dsk 8 rfl (Dsk 9 rfl (Dsk 10 rfl (Dsk 11 rfl (Dsk 12 rfl (Dsk 13 rfl (D.sku 14 rfl rfl dc kr (Dsk 15 rfl (Dsk 16 rfl (Dsk 17 rfl (Dsk 18 rfl (Dsk 19 rfl (Dsk 20 rfl (Dsk 21 rfl (Dsk 22 rfl (Dsk 23 rfl (Dyp 24 rfl (Y.pkt rfl rfl) (Dyp 25 rfl (Y.as rfl) ?_)))))))))))))))))))
  exact D.done kr (Et (E.ret (Fb rfl rfl (by grind [X3, B6, d1, d2, t1, t2]))))
theorem a8o : Tr Tryz.prog 178 [.agg #[.int .i64 y5, .slice v7 x8 v6, .int .i64 u8, .int .i64 x7, .int .i64 u9], .agg #[.int .i64 i9, .slice o7 s0 o8], .slice a_bound m_bound c_bound] (fun w L => I64 y5 ∧ Ro w L eIs [.slice v7 x8 v6] r6 ∧ I64 u8 ∧ I64 x7 ∧ I64 u9 ∧ I64 i9 ∧ Ro w L eIs [.slice o7 s0 o8] f6 ∧ Ro w L eIs [.slice a_bound m_bound c_bound] D4) [] (κ := Unit) (fun k => True) (fun k => .bool (F7 (y5, r6, u8, x7, u9) (i9, f6) D4)) (fun k => []) := by
 refine Tr.intro Tryz.func178 rfl (n := 19) rfl (by decide +kernel) bl (fr := [(0, .agg #[.int .i64 y5, .slice v7 x8 v6, .int .i64 u8, .int .i64 x7, .int .i64 u9]), (1, .agg #[.int .i64 i9, .slice o7 s0 o8]), (2, .slice a_bound m_bound c_bound)]) rfl fun w L hR => ?_
 obtain ⟨P6, z8, J4, M9, J5, D9, s7, hbound⟩ := hR
 obtain ⟨rfl, S6⟩ := z8.slen
 obtain ⟨rfl, I5⟩ := s7.slen
 obtain ⟨rfl, lbound⟩ := hbound.slen
 refine Ew Z4 (Est rfl (N.box (cs := [_, _, _, _, _]) rfl dc rfl) (fun b3 _ => (Est rfl (N.box (cs := [_, _]) rfl dc rfl) (fun b4 _ => (Est rfl (N.box (cs := [_]) rfl dc rfl) (fun b5 _ => (Eas rfl rfl (Ev Z13 (Ey rfl ((Y.fld fo_Method_0 f8 dc rfl).yd) (Ey rfl (Y.ld1 f8 rfl ((Has.pt (mS (mS m0))).sub (cs' := [_]) 0 rfl) rfl) (Ey rfl ((Y.fld fo_Atom_0 f8 dc rfl).yd) (Ey rfl (Y.ld1 f8 rfl ((Has.pt (mS m0)).sub (cs' := [_]) 0 rfl) rfl) (Ey rfl ((Y.eql rfl rfl).yd) (Ent.d (fun q11 => ?_) (fun q11 => ?_)))))))))))))))
 ·refine Emv rfl rfl (Ey rfl ((Y.fld fo_Method_1 ty_Is dc rfl).yd) (Ey rfl (Y.ld1 ty_Is rfl ((Has.pt (mS (mS m0))).sub (cs' := [_]) 1 rfl) rfl) (Ey rfl ((Y.fn (vs := [_, _]) rfl).yd) (Est rfl (N.call0 (Q7 (f := (fun i => X3 (i9, f6) D4 i)) (D_f := (fun _ => True)) (by intros; exact trivial)) rfl rfl rfl dc (fun w Lp hA => ⟨hA.ro z8, FnP.ofI (D := (fun _ => True)) (fun hd => a6D) (fun w' hk => ⟨(hA.pt (mS m0)).keep hk, D9, (hA.ro s7).keep hk, (hA.pt m0).keep hk, (hA.ro hbound).keep hk⟩)⟩)) (fun _ _ => (Ey rfl ((Y.not rfl).yd) (Ey rfl ((Y.pkt rfl rfl).yd) (Eas rfl rfl ?_))))))))
  exact Eu (E.ret (Fb rfl rfl (by grind [F7, d1, d2, t1, t2])))
 ·refine Emv rfl rfl (Es rfl (Es rfl (Es rfl (Es rfl (Es rfl (Ey rfl ((Y.pkf rfl rfl).yd) (Eas rfl rfl ?_)))))))
  exact Eu (E.ret (Fb rfl rfl (by grind [F7, d1, d2, t1, t2])))
theorem a3w : Tr Tryz.prog 169 [.agg #[.int .i64 y5, .slice v7 x8 v6, .int .i64 u8, .int .i64 x7, .int .i64 u9], .agg #[.int .i64 i9, .slice o7 s0 o8], .slice a_bound m_bound c_bound] (fun w L => I64 y5 ∧ Ro w L eIs [.slice v7 x8 v6] r6 ∧ I64 u8 ∧ I64 x7 ∧ I64 u9 ∧ I64 i9 ∧ Ro w L eIs [.slice o7 s0 o8] f6 ∧ Ro w L eIs [.slice a_bound m_bound c_bound] D4) [] (κ := Unit) (fun k => True) (fun k => .bool (F7 (y5, r6, u8, x7, u9) (i9, f6) D4)) (fun k => []) := by
 refine Tr.intro Tryz.func169 rfl (n := 49) rfl (by decide +kernel) bl (fr := [(0, .agg #[.int .i64 y5, .slice v7 x8 v6, .int .i64 u8, .int .i64 x7, .int .i64 u9]), (1, .agg #[.int .i64 i9, .slice o7 s0 o8]), (2, .slice a_bound m_bound c_bound)]) rfl fun w L hR => ?_
 obtain ⟨P6, z8, J4, M9, J5, D9, s7, hbound⟩ := hR
 obtain ⟨rfl, S6⟩ := z8.slen
 obtain ⟨rfl, I5⟩ := s7.slen
 obtain ⟨rfl, lbound⟩ := hbound.slen
 refine Ew Z3 (Est rfl (N.box (cs := [_, _, _, _, _]) rfl dc rfl) (fun b3 _ => (Est rfl (N.box (cs := [_, _]) rfl dc rfl) (fun b4 _ => (Eas rfl rfl (Eu (Eq_ (Ew Z5 (Ey rfl ((Y.fld fo_Method_0 f8 dc rfl).yd) (Ey rfl (Y.ld1 f8 rfl ((Has.pt (mS m0)).sub (cs' := [_]) 0 rfl) rfl) (Ey rfl ((Y.fld fo_Atom_0 f8 dc rfl).yd) (Ey rfl (Y.ld1 f8 rfl ((Has.pt m0).sub (cs' := [_]) 0 rfl) rfl) (Ey rfl ((Y.neq rfl rfl).yd) (Ent.d (fun q13 => ?_) (fun q13 => ?_)))))))))))))))
 ·refine Eu (E.ct rfl (Ew Z1 (Eas rfl rfl ?_)))
  exact Eu (E.ret (E.thr (Fb rfl rfl (by grind [F7, X3, B6, d1, d2, t1, t2]))))
 ·refine Eu (E.cf rfl (E.skipc (Et (Eq_ (Ew Z1 (Eas rfl rfl (Eu (E.block (E.loop (κ := Nat) (fun g => g ≤ r6.length ∧ r6.any (X3 (i9, f6) D4) = (r6.drop g).any (X3 (i9, f6) D4)) (fun g => [(2, .slice a_bound D4.length c_bound), (3, .pointer (some ⟨b3, 0, none⟩)), (4, .pointer (some ⟨b4, 0, none⟩)), (7, .int .i64 (g : Int))]) (fun g => [pt b4 128 [.int .i64 i9, .slice o7 f6.length o8], pt b3 113 [.int .i64 y5, .slice v7 r6.length v6, .int .i64 u8, .int .i64 x7, .int .i64 u9]]) (fun g => r6.length - g) 0 ⟨Nat.zero_le _, by simp⟩ ⟨rfl, rfl, rfl, rfl, trivial⟩ (.refl _) (fun g pg => ?_))))))))))
  obtain ⟨pk, pa⟩ := pg
  refine Eq_ (Ew Z5 (Emv rfl rfl (Ey rfl ((Y.fld fo_Method_1 ty_Is dc rfl).yd) (Ey rfl (Y.ld1 ty_Is rfl ((Has.pt (mS m0)).sub (cs' := [_]) 1 rfl) rfl) (Ey rfl ((Y.len us_Is rfl).yd) (Ey rfl ((Y.lss rfl rfl).yd) (Ent.d (fun q18 => ?_) (fun q18 => ?_))))))))
  ·refine Eu (E.ct rfl (E.skipc (Et (Eq_ (E.block (Eq_ (Eq_ (D.region (fun j => true) mixed (Dyp 0 rfl (Y.fld fo_Method_1 ty_Is dc rfl) (Dy 1 rfl (Y.ld1 ty_Is rfl ((Has.pt (mS m0)).sub (cs' := [_]) 1 rfl) rfl) (Dyp 2 rfl (Y.mv rfl) ?_)))))))))))
   obtain ⟨eb24, eo24, ea24, ei24, eh24⟩ := z8.elemI g om
   refine Dyp 3 rfl (Y.ix us_Is f8 rfl ea24 rfl g rfl om) (Dy 4 rfl (Y.ld1 f8 rfl (eh24 _) rfl) (Dyp 5 rfl (Y.fld fo_Atom_1 ty_Is dc rfl) (Dy 6 rfl (Y.ld1 ty_Is rfl ((Has.pt m0).sub (cs' := [_]) 1 rfl) rfl) (Dyp 7 rfl (Y.len us_Is rfl) (Dyp 8 rfl (Y.sub rfl rfl om om) (D.st 9 rfl rfl kr (fun _ => rfl) (N.call0 E7 rfl rfl rfl dc (fun w Lp hA => trivial)) (fun _ _ => (Ent.b (fun q30 => ?_) (fun q30 => ?_)))))))))
   ·have jz : 0 ≤ r6[g] ∧ r6[g] ≤ (f6.length : Int) - 1 := of_decide_eq_true q30
    refine Dyp 10 rfl (Y.not (b := true) rfl) (D.done kr (Et (E.cf rfl (E.skipc (Et (Eq_ (D.region (fun j => true) mixed (Dyp 0 rfl (Y.fld fo_Atom_1 ty_Is dc rfl) (Dy 1 rfl (Y.ld1 ty_Is rfl ((Has.pt m0).sub (cs' := [_]) 1 rfl) rfl) (Dyp 2 rfl (Y.fld fo_Method_1 ty_Is dc rfl) (Dy 3 rfl (Y.ld1 ty_Is rfl ((Has.pt (mS m0)).sub (cs' := [_]) 1 rfl) rfl) (Dyp 4 rfl (Y.mv rfl) (Dyp 5 rfl (Y.ix us_Is f8 rfl ea24 rfl g rfl om) (Dy 6 rfl (Y.ld1 f8 rfl (eh24 _) rfl) ?_))))))))))))))
    obtain ⟨eb39, eo39, ea39, ei39, eh39⟩ := s7.elemI r6[g].toNat om
    refine Dyp 7 rfl (Y.ix us_Is f8 rfl ea39 rfl r6[g].toNat om om) (Dy 8 rfl (Y.ld1 f8 rfl (eh39 _) rfl) (Dyp 9 rfl (Y.as rfl) (D.done kr (Et (Ew Z8 (Emv rfl rfl (Est rfl (N.call0 Y2 rfl rfl rfl dc (fun w Lp hA => trivial)) (fun _ _ => (Ent.b (fun q42 => ?_) (fun q42 => ?_))))))))))
    ·refine Emv rfl rfl (Emv rfl rfl (Emv rfl rfl (Est rfl (N.call0 Y1 rfl rfl rfl dc (fun w Lp hA => hA.ro hbound)) (fun _ _ => (Ent.b (fun q46 => ?_) (fun q46 => ?_))))))
     ·refine Ey rfl ((Y.not (b := true) rfl).yd) (Ey rfl ((Y.pkt rfl rfl).yd) (Eu (E.cf rfl (E.skipc (E.bln (Et (Ez Z3 (Emv rfl rfl (Ey rfl ((Y.add rfl rfl om om).yd) (Eas rfl rfl (Eu (Ent.p1 (Ent.p1 ?_)))))))))))))
      exact E.again br (g + 1) rs (.refl _) ⟨by omega, by grind [X3, B6, d1, d2, t1, t2]⟩ om
     ·refine Ey rfl ((Y.not (b := false) rfl).yd) (Ey rfl ((Y.pkt rfl rfl).yd) (Eu (E.ct rfl (Ew Z1 (Eas rfl rfl ?_)))))
      exact Eu (E.ret (E.blr (E.thr (E.thr (E.blr (E.thr (Fb rfl rfl (by grind [F7, X3, B6, d1, d2, t1, t2]))))))))
    ·refine Emv rfl rfl (Es rfl (Es rfl (Es rfl (Es rfl (Ey rfl ((Y.pkf rfl rfl).yd) (Eu (E.cf rfl (E.skipc (E.bln (Et (Ez Z3 (Emv rfl rfl (Ey rfl ((Y.add rfl rfl om om).yd) (Eas rfl rfl (Eu (Ent.p1 (Ent.p1 ?_)))))))))))))))))
     exact E.again br (g + 1) rs (.refl _) ⟨by omega, by grind [X3, B6, d1, d2, t1, t2]⟩ om
   ·refine Dyp 10 rfl (Y.not (b := false) rfl) (D.done kr (Et (E.ct rfl (Ew Z1 (Eas rfl rfl ?_)))))
    exact Eu (E.ret (E.thr (E.blr (E.thr (E.thr (E.blr (E.thr (Fb rfl rfl (by grind [F7, X3, B6, d1, d2, t1, t2])))))))))
  ·refine Eu (E.cf rfl (E.exit (E.the (E.the (E.blh (Et (Ew Z1 (Eas rfl rfl ?_))))))))
   exact Eu (E.ret (Fb rfl rfl (by grind [F7, X3, B6, d1, d2, t1, t2])))
theorem a6a {a_s : Option Addr} {m_s c_s : Nat} {s : List (Int × (Option Addr × Nat × Nat) × Int × Int × Int)} (hz : s.length ≤ 1048576) : Tr Tryz.prog 238 [.slice a_s m_s c_s] (fun w L => Ro w L D6 [.slice a_s m_s c_s] s) [] (κ := Option Addr × Nat × Nat) (fun k => True) (fun k => .slice k.1 k.2.1 k.2.2) (fun k => [ow D6 [.slice k.1 k.2.1 k.2.2] s]) := by
 refine Tr.intro Tryz.func238 rfl (n := 8) rfl (by decide +kernel) bl (fr := [(0, .slice a_s m_s c_s)]) rfl fun w L hR => ?_
 have hs := hR
 obtain ⟨rfl, ls⟩ := hs.slen
 refine Ew Z1 (Eas rfl rfl (Eu (Eq_ (Ew Z2 (Emv rfl rfl (Ey rfl ((Y.eqlN us_Methods rfl rfl).yd) (Ent.b (fun q4 => ?_) (fun q4 => ?_))))))))
 ·refine Eu (E.ct rfl (Ew Z1 (Eas rfl rfl (Eu (E.ret (E.thr (Ent.mkow (A := []) (Own.nil (E := M8) (e := a4b) (a := none)) rfl (Ent.cv (congrArg (ow D6 [_]) (show _ = s by (cases a_s with | none => exact hs.none_nil.symm | some x => cases q4))) ?_))))))))
  exact Fg rfl rfl (none, 0, 0) rfl rfl
 ·refine Eu (E.cf rfl (E.skipc (Et (Ew Z4 (Est rfl (N.bsl (pvs := []) (cs := []) us_Methods ty_Method rfl dc dc (o6 rfl rfl) rfl dc) (fun b5 _ => (Ent.drop (Emv rfl rfl (Est rfl (N.pushR0 (E := M8) b0b us_Methods ty_Method rfl rfl rfl hs bn bn dc) (fun p7 _ => (Eas rfl rfl ?_)))))))))))
  exact Eu (E.ret (Fg rfl rfl (_, _, _) rfl rfl))
theorem a5Q {l : List (Int × (Option Addr × Nat × Nat) × Int × Int × Int)} (hz : l.length ≤ 5) : Tr Tryz.prog 162 [.slice a_l m_l c_l] (fun w L => Ro w L D6 [.slice a_l m_l c_l] l) [] (κ := Option Addr × Nat × Nat) (fun k => True) (fun k => .slice k.1 k.2.1 k.2.2) (fun k => [ow D6 [.slice k.1 k.2.1 k.2.2] (exB l)]) := by
 refine Tr.intro Tryz.func162 rfl (n := 24) rfl (by decide +kernel) bl (fr := [(0, .slice a_l m_l c_l)]) rfl fun w L hR => ?_
 have hl := hR
 obtain ⟨rfl, ll⟩ := hl.slen
 refine Ew Z1 (Eas rfl rfl (Ev Z3 (Emv rfl rfl (Est rfl (N.call (a6a fc) rfl rfl rfl dc rfl (fun w Lp hA => hA.ro hl)) (fun k7 _ => ?_)))))
 obtain ⟨a7, m7, c7⟩ := k7
 refine Ent.lenow m0 fun e7 l7 => ?_
 subst e7
 refine Eas rfl rfl (Eu (Eq_ (Ew Z3 (Emv rfl rfl (Ey rfl ((Y.len us_Methods rfl).yd) (Emv rfl rfl (Eu (E.block (E.loop (κ := Nat) (fun g => g ≤ l.length) (fun g => [(3, .slice a7 (l).length c7), (8, .slice a7 (l).length c7), (9, .int .i64 (↑((l).length) : Int)), (10, .int .i64 (g : Int))]) (fun g => [ow D6 [.slice a7 (l).length c7] ((l.take g).map M3 ++ l.drop g)]) (fun g => l.length - g) 0 (Nat.zero_le _) ⟨rfl, rfl, rfl, rfl, trivial⟩ (.refl _) (fun g pg => ?_))))))))))
 have jx := b4A (l := l) (g := g)
 refine Ew Z1 (Ey rfl ((Y.lss rfl rfl).yd) (Ent.d (fun q11 => ?_) (fun q11 => ?_)))
 ·refine Eu (Eq_ (E.ct rfl (E.skipc (Et (Eq_ (E.block (Ew Z6 (Emv rfl rfl (Ent.adr m0 om fun ab13 ae13 => (Ent.open (x := l[g]) g (b5b (show g < l.length by omega)) fun ce13 => (Ent.p1 (Ent.oMethodB fun  oe13 oi13_0 oi13_2 oi13_3 oi13_4 => ?_))))))))))))
  subst oe13
  refine Ey rfl ((Y.ix us_Methods ty_Method rfl ae13 rfl g rfl om).yd) (Ey rfl (Y.ldS (cs := [_, _, _, _, _]) ty_Method rfl (Has.hole ae13 m0) rfl) (Est rfl (N.alloc ty_Method dc) (fun b5 _ => (Eas rfl rfl (Est rfl (N.sto (vs := [_, _, _, _, _]) (cs' := [_, _, _, _, _]) ty_Method rfl rfl rfl rfl rfl bl rfl) (fun _ _ => (Ev Z3 (Ey rfl ((Y.fld fo_Method_2 f8 dc rfl).yd) (Ey rfl (Y.ld1 f8 rfl ((Has.pt m0).sub (cs' := [_]) 2 rfl) rfl) (Ey rfl ((Y.neq rfl rfl).yd) (Ent.d (fun q17 => ?_) (fun q17 => ?_))))))))))))
  ·refine Eu (E.ct rfl (Ez Z5 (Emv rfl rfl (Emv rfl rfl (Ey rfl ((Y.ix us_Methods ty_Method rfl ae13 rfl g rfl om).yd) (Ey rfl ((Y.fld fo_Method_0 f8 dc rfl).yd) (Ent.p1 (Est rfl (N.sth (f := 0) (kk := 5) (vs := [_]) (ce' := [_, _, _, _, _]) f8 rfl rfl rfl rfl rfl ae13 rfl rfl bl rfl rfl) (fun _ _ => (En (E.bln (Et (Ez Z2 (Ey rfl ((Y.add rfl rfl om om).yd) (Emv rfl rfl (Eu (Ent.shut (Own.mkMethodB (x := (-1, l[g].2.1, l[g].2.2.1, l[g].2.2.2.1, l[g].2.2.2.2)) i6 oi13_2 oi13_3 oi13_4) rfl (Ent.p1 (Ent.drop ?_)))))))))))))))))))
   exact E.again br (g + 1) rs (a2J (b4e om q17)) om om
  ·refine Eu (E.cf rfl (E.skipc (E.bln (Et (Ez Z2 (Ey rfl ((Y.add rfl rfl om om).yd) (Emv rfl rfl (Eu (Ent.p1 (Ent.shut (Own.mkMethodB (x := l[g]) oi13_0 oi13_2 oi13_3 oi13_4) rfl (Ent.p1 (Ent.drop ?_))))))))))))
   exact E.again br (g + 1) rs (a2J (b3Z om q17)) om om
 ·refine Eu (Eq_ (E.cf rfl (E.exit (E.the (E.the (E.blh (Et (Ew Z2 (Emv rfl rfl (Eas rfl rfl (Eu (E.ret (Ent.cv (congrArg (ow D6 [_]) (show _ = exB l by exact b4c om)) ?_)))))))))))))
  exact Fg rfl rfl (_, _, _) rfl rfl
theorem b1G {l : List (Int × (Option Addr × Nat × Nat) × Int × Int × Int)} (hz : l.length ≤ 5) : Tr Tryz.prog 143 [.slice a_l m_l c_l] (fun w L => Ro w L D6 [.slice a_l m_l c_l] l) [] (κ := Option Addr × Nat × Nat) (fun k => True) (fun k => .slice k.1 k.2.1 k.2.2) (fun k => [ow D6 [.slice k.1 k.2.1 k.2.2] (exB l)]) := by
 refine Tr.intro Tryz.func143 rfl (n := 26) rfl (by decide +kernel) bl (fr := [(0, .slice a_l m_l c_l)]) rfl fun w L hR => ?_
 have hl := hR
 obtain ⟨rfl, ll⟩ := hl.slen
 refine Ew Z1 (Eas rfl rfl (Ev Z2 (Est rfl (N.bsl (pvs := []) (cs := []) us_Methods ty_Method rfl dc dc (o6 rfl rfl) rfl dc) (fun b6 _ => (Ent.drop (Eas rfl rfl (Eu (Eq_ (Ew Z1 (Eas rfl rfl (Eu (E.block (Ent.mkow (A := []) (Own.nil (E := M8) (e := a4b) (a := (some ⟨b6, 0, none⟩))) rfl (Ent.cv (congrArg (ow D6 [_]) (show [] = (l.take 0).map M3 from by first | rfl | (simp; done) | grind [d1, d2, t1, t2])) (E.loop (κ := Nat × Option Addr × Nat × Nat) (fun g => g.1 ≤ l.length ∧ True) (fun g => [(0, .slice a_l l.length c_l), (3, .slice g.2.1 g.2.2.1 g.2.2.2), (4, .int .i64 (↑g.1 : Int))]) (fun g => [ow D6 [.slice g.2.1 g.2.2.1 g.2.2.2] ((l.take g.1).map M3)]) (fun g => l.length - g.1) (0, (some ⟨b6, 0, none⟩), 0, 0) ⟨Nat.zero_le _, by simp⟩ ⟨rfl, rfl, rfl, trivial⟩ (.refl _) (fun g pg => ?_))))))))))))))))
 obtain ⟨g, aA0_0, mA0_0, cA0_0⟩ := g
 try dsimp only at pg
 try dsimp only
 obtain ⟨pk, pa⟩ := pg
 refine Ent.lenow m0 fun eaA0_0 laA0_0 => ?_
 subst eaA0_0
 refine Eq_ (Ew Z4 (Emv rfl rfl (Emv rfl rfl (Ey rfl ((Y.len us_Methods rfl).yd) (Ey rfl ((Y.lss rfl rfl).yd) (Ent.d (fun q10 => ?_) (fun q10 => ?_)))))))
 ·refine Eu (E.ct rfl (E.skipc (Et (Eq_ (E.block (Ew Z6 (Emv rfl rfl (Emv rfl rfl ?_))))))))
  obtain ⟨eb15, eo15, ec15, ea15, er15, el15, eh15⟩ := hl.elem g om
  obtain ⟨rfl, ei15_0, ei15_2, ei15_3, ei15_4⟩ := Ro.pMethodB er15
  refine Ey rfl ((Y.ix us_Methods ty_Method rfl ea15 rfl g rfl om).yd) (Ey rfl (Y.ldS (cs := [_, _, _, _, _]) ty_Method rfl (eh15 _) rfl) (Est rfl (N.alloc ty_Method dc) (fun b5 _ => (Est rfl (N.sto (vs := [_, _, _, _, _]) (cs' := [_, _, _, _, _]) ty_Method rfl rfl rfl rfl rfl bl rfl) (fun _ _ => (Eu (Eq_ (Ew Z3 (Ey rfl ((Y.fld fo_Method_2 f8 dc rfl).yd) (Ey rfl (Y.ld1 f8 rfl ((Has.pt m0).sub (cs' := [_]) 2 rfl) rfl) (Ey rfl ((Y.neq rfl rfl).yd) (Ent.d (fun q19 => ?_) (fun q19 => ?_)))))))))))))
  ·refine Eu (E.ct rfl (Ez Z2 (Ey rfl ((Y.fld fo_Method_0 f8 dc rfl).yd) (Est rfl (N.sto (vs := [_]) (cs' := [_, _, _, _, _]) f8 rfl rfl rfl rfl rfl bl rfl) (fun _ _ => (Eu (Ez Z5 (Emv rfl rfl (Ey rfl (Y.ldS (cs := [_, _, _, _, _]) ty_Method rfl (Has.pt m0) rfl) (Est rfl (N.bsl (pvs := [_]) (cs := [_, _, _, _, _]) us_Methods ty_Method rfl dc dc (o6 rfl rfl) rfl dc) (fun b23 _ => (Ent.p2 (Est rfl (N.push (E := M8) (ex := (-1, l[g].2.1, l[g].2.2.1, l[g].2.2.2.1, l[g].2.2.2.2)) us_Methods ty_Method rfl rfl rfl (Own.mkMethodB (x := (-1, l[g].2.1, l[g].2.2.1, l[g].2.2.2.1, l[g].2.2.2.2)) i6 ei15_2 ei15_3 ei15_4) rfl bn bn dc) (fun p24 _ => (Eas rfl rfl (En (E.bln (Et (Ez Z3 (Emv rfl rfl (Ey rfl ((Y.add rfl rfl om om).yd) (Eas rfl rfl (Eu (Ent.p1 (Ent.drop (Ent.cv (congrArg (ow D6 [_]) (show ((l.take g).map M3) ++ [(-1, l[g].2.1, l[g].2.2.1, l[g].2.2.2.1, l[g].2.2.2.2)] = (l.take (g + 1)).map M3 from by first | exact b0E om q19 | exact b0h om q19)) ?_))))))))))))))))))))))))))
   exact Ea (g + 1, p24.1, (((l.take g).map M3).length + 1), p24.2) ⟨oz, trivial⟩
  ·refine Eu (E.cf rfl (E.skipc (Et (Ez Z5 (Emv rfl rfl (Ey rfl (Y.ldS (cs := [_, _, _, _, _]) ty_Method rfl (Has.pt m0) rfl) (Est rfl (N.bsl (pvs := [_]) (cs := [_, _, _, _, _]) us_Methods ty_Method rfl dc dc (o6 rfl rfl) rfl dc) (fun b23 _ => (Ent.p2 (Est rfl (N.push (E := M8) (ex := l[g]) us_Methods ty_Method rfl rfl rfl (Own.mkMethodB (x := l[g]) ei15_0 ei15_2 ei15_3 ei15_4) rfl bn bn dc) (fun p24 _ => (Eas rfl rfl (En (E.bln (Et (Ez Z3 (Emv rfl rfl (Ey rfl ((Y.add rfl rfl om om).yd) (Eas rfl rfl (Eu (Ent.p1 (Ent.drop (Ent.cv (congrArg (ow D6 [_]) (show ((l.take g).map M3) ++ [l[g]] = (l.take (g + 1)).map M3 from by first | exact b0E om q19 | exact b0h om q19)) ?_)))))))))))))))))))))))
   exact Ea (g + 1, p24.1, (((l.take g).map M3).length + 1), p24.2) ⟨oz, trivial⟩
 ·refine Eu (E.cf rfl (E.exit (E.the (E.the (E.blh (Et (Ew Z2 (Emv rfl rfl (Eas rfl rfl (Eu (E.ret (Ent.cv (congrArg (ow D6 [_]) (show _ = exB l by exact b5l om)) ?_))))))))))))
  exact Fg rfl rfl (_, _, _) rfl rfl
theorem a7j : Tr Tryz.prog 237 [.agg #[.int .i64 y5, .slice v7 x8 v6, .int .i64 u8, .int .i64 x7, .int .i64 u9], .agg #[.int .i64 i9, .slice o7 s0 o8]] (fun w L => I64 y5 ∧ Ro w L eIs [.slice v7 x8 v6] r6 ∧ I64 u8 ∧ I64 x7 ∧ I64 u9 ∧ I64 i9 ∧ Ro w L eIs [.slice o7 s0 o8] f6) [] (κ := Unit) (fun k => True) (fun k => .bool (true)) (fun k => []) := by
 refine Tr.intro Tryz.func237 rfl (n := 5) rfl (by decide +kernel) bl (fr := [(0, .agg #[.int .i64 y5, .slice v7 x8 v6, .int .i64 u8, .int .i64 x7, .int .i64 u9]), (1, .agg #[.int .i64 i9, .slice o7 s0 o8])]) rfl fun w L hR => ?_
 obtain ⟨P6, z8, J4, M9, J5, D9, s7⟩ := hR
 obtain ⟨rfl, S6⟩ := z8.slen
 obtain ⟨rfl, I5⟩ := s7.slen
 refine Ew Z3 (Est rfl (N.box (cs := [_, _, _, _, _]) rfl dc rfl) (fun b2 _ => (Est rfl (N.box (cs := [_, _]) rfl dc rfl) (fun b3 _ => (Eas rfl rfl (Ev Z1 (Eas rfl rfl ?_)))))))
 exact Eu (E.ret (Fg rfl rfl () rfl rfl))
theorem a3j : Tr Tryz.prog 292 [.agg #[.int .i64 y5, .slice v7 x8 v6, .int .i64 u8, .int .i64 x7, .int .i64 u9], .pointer (some ⟨b_a, 0, none⟩), .pointer (some ⟨b_bound, 0, none⟩), .pointer (some ⟨b_is, 0, none⟩)] (fun w L => (I64 y5 ∧ Ro w L eIs [.slice v7 x8 v6] r6 ∧ I64 u8 ∧ I64 x7 ∧ I64 u9) ∧ RoPt w L b_a [.int .i64 i9, .slice o7 s0 o8] ∧ I64 i9 ∧ Ro w L eIs [.slice o7 s0 o8] f6 ∧ RoPt w L b_bound [.slice a_bound m_bound c_bound] ∧ Ro w L eIs [.slice a_bound m_bound c_bound] D4 ∧ RoPt w L b_is [.func (.func 237) #[] #[]]) [] (κ := Unit) (fun k => True) (fun k => .bool (F7 (y5, r6, u8, x7, u9) (i9, f6) D4)) (fun k => []) := by
 refine Tr.intro Tryz.func292 rfl (n := 16) rfl (by decide +kernel) bl (fr := [(0, .agg #[.int .i64 y5, .slice v7 x8 v6, .int .i64 u8, .int .i64 x7, .int .i64 u9]), (1, .pointer (some ⟨b_a, 0, none⟩)), (2, .pointer (some ⟨b_bound, 0, none⟩)), (3, .pointer (some ⟨b_is, 0, none⟩))]) rfl fun w L hR => ?_
 obtain ⟨⟨P6, z8, J4, M9, J5⟩, hb_a, D9, s7, hb_bound, hbound, hb_is⟩ := hR
 obtain ⟨rfl, S6⟩ := z8.slen
 obtain ⟨rfl, I5⟩ := s7.slen
 obtain ⟨rfl, lbound⟩ := hbound.slen
 refine Ew Z2 (Est rfl (N.box (cs := [_, _, _, _, _]) rfl dc rfl) (fun b4 _ => (Eas rfl rfl (Ev Z11 (Ey rfl (Y.ldS (cs := [_, _, _, _, _]) ty_Method rfl (Has.pt m0) rfl) (Ey rfl (Y.ldS (cs := [_, _]) ty_Atom rfl (hb_a.has) rfl) (Ey rfl (Y.ld1 ty_Is rfl (hb_bound.has) rfl) (Est rfl (N.call0 a8o rfl rfl rfl dc (fun w Lp hA => ⟨P6, hA.ro z8, J4, M9, J5, D9, hA.ro s7, hA.ro hbound⟩)) (fun _ _ => (Ent.b (fun q9 => ?_) (fun q9 => ?_)))))))))))
 ·refine Emv rfl rfl (Ey rfl (Y.ld1 ty_Fma rfl (hb_is.has) rfl) (Ey rfl (Y.ldS (cs := [_, _, _, _, _]) ty_Method rfl (Has.pt m0) rfl) (Ey rfl (Y.ldS (cs := [_, _]) ty_Atom rfl (hb_a.has) rfl) (Est rfl (N.call0 a7j rfl rfl rfl dc (fun w Lp hA => ⟨P6, hA.ro z8, J4, M9, J5, D9, hA.ro s7⟩)) (fun _ _ => (Ey rfl ((Y.pkt rfl rfl).yd) (Eas rfl rfl ?_)))))))
  exact Eu (E.ret (Fb rfl rfl (by grind [d1, d2, t1, t2])))
 ·refine Emv rfl rfl (Es rfl (Es rfl (Es rfl (Es rfl (Ey rfl ((Y.pkf rfl rfl).yd) (Eas rfl rfl ?_))))))
  exact Eu (E.ret (Fb rfl rfl (by grind [d1, d2, t1, t2])))
theorem a1s {b_atoms : Nat} {b_l : Nat} {b_done : Nat} {a_done : Option Addr} {m_done c_done : Nat} {done : List Bool} : Tr Tryz.prog 291 [.pointer (some ⟨b_atoms, 0, none⟩), .pointer (some ⟨b_l, 0, none⟩), .pointer (some ⟨b_bound, 0, none⟩), .pointer (some ⟨b_is, 0, none⟩), .pointer (some ⟨b_done, 0, none⟩)] (fun w L => (True) ∧ RoPt w L b_atoms [.slice a_atoms m_atoms c_atoms] ∧ Ro w L s3 [.slice a_atoms m_atoms c_atoms] d7 ∧ RoPt w L b_l [.slice a_l m_l c_l] ∧ Ro w L x9 [.slice a_l m_l c_l] l ∧ RoPt w L b_bound [.slice a_bound m_bound c_bound] ∧ Ro w L eIs [.slice a_bound m_bound c_bound] D4 ∧ RoPt w L b_is [.func (.func 237) #[] #[]] ∧ RoPt w L b_done [.slice a_done m_done c_done] ∧ Ro w L eBs [.slice a_done m_done c_done] done ∧ done.length = d7.length) [] (κ := Unit) (fun k => True) (fun k => .tuple #[.agg #[.int .i64 ((B0 l D4 d7 done 0).1), .int .i64 ((B0 l D4 d7 done 0).2.1)], .bool ((B0 l D4 d7 done 0).2.2)]) (fun k => []) := by
 refine Tr.intro Tryz.func291 rfl (n := 34) rfl (by decide +kernel) bl (fr := [(0, .pointer (some ⟨b_atoms, 0, none⟩)), (1, .pointer (some ⟨b_l, 0, none⟩)), (2, .pointer (some ⟨b_bound, 0, none⟩)), (3, .pointer (some ⟨b_is, 0, none⟩)), (4, .pointer (some ⟨b_done, 0, none⟩))]) rfl fun w L hR => ?_
 obtain ⟨_, hb_atoms, hatoms, hb_l, hl, hb_bound, hbound, hb_is, hb_done, hdone, as0⟩ := hR
 obtain ⟨rfl, latoms⟩ := hatoms.slen
 obtain ⟨rfl, ll⟩ := hl.slen
 obtain ⟨rfl, lbound⟩ := hbound.slen
 obtain ⟨rfl, ldone⟩ := hdone.slen
 refine Ew Z2 (Est rfl (N.alloc ty_Step dc) (fun b5 _ => (Eas rfl rfl (Eu (Eq_ (Ew Z3 (Ey rfl (Y.ld1 ty_Atoms rfl (hb_atoms.has) rfl) (Ey rfl ((Y.len us_Atoms rfl).yd) (Emv rfl rfl (Eu (E.block (E.loop (κ := Nat) (fun g => g ≤ d7.length ∧ B0 l D4 d7 done 0 = B0 l D4 (d7.drop g) (done.drop g) g) (fun g => [(1, .pointer (some ⟨b_l, 0, none⟩)), (2, .pointer (some ⟨b_bound, 0, none⟩)), (3, .pointer (some ⟨b_is, 0, none⟩)), (4, .pointer (some ⟨b_done, 0, none⟩)), (5, .pointer (some ⟨b5, 0, none⟩)), (10, .slice a_atoms d7.length c_atoms), (11, .int .i64 (↑d7.length : Int)), (12, .int .i64 (g : Int))]) (fun g => [pt b5 130 [.int .i64 0, .int .i64 0]]) (fun g => d7.length - g) 0 ⟨Nat.zero_le _, by simp⟩ ⟨rfl, rfl, rfl, rfl, rfl, rfl, rfl, rfl, trivial⟩ (.refl _) (fun g pg => ?_)))))))))))))
 obtain ⟨pk, pa⟩ := pg
 refine Ew Z1 (Ey rfl ((Y.lss rfl rfl).yd) (Ent.d (fun q13 => ?_) (fun q13 => ?_)))
 ·refine Eu (Eq_ (E.ct rfl (E.skipc (Et (Eq_ (E.block (Ew Z6 (Emv rfl rfl ?_))))))))
  obtain ⟨eb15, eo15, ec15, ea15, er15, el15, eh15⟩ := hatoms.elem g om
  obtain ⟨xa15_0, xc15_0, rfl, ei15_0, xh15_0⟩ := Ro.pAtom er15
  have := xh15_0.slen.2
  refine Ey rfl ((Y.ix us_Atoms ty_Atom rfl ea15 rfl g rfl om).yd) (Ey rfl (Y.ldS (cs := [_, _]) ty_Atom rfl (eh15 _) rfl) (Est rfl (N.alloc ty_Atom dc) (fun b8 _ => (Eas rfl rfl (Est rfl (N.sto (vs := [_, _]) (cs' := [_, _]) ty_Atom rfl rfl rfl rfl rfl bl rfl) (fun _ _ => (Ev Z4 (Ey rfl (Y.ld1 ty_Methods rfl (hb_l.has) rfl) (Ey rfl ((Y.fn (vs := [_, _, _]) rfl).yd) (Est rfl (N.call0 (a2m (f := (fun z => F7 z d7[g] D4)) (D_f := (fun _ => True)) (by intros; exact trivial)) rfl rfl rfl dc (fun w Lp hA => ⟨hA.ro hl, FnP.ofMethod (RR := fun w L => RoPt w L b8 [.int .i64 d7[g].1, .slice xa15_0 d7[g].2.length xc15_0] ∧ I64 d7[g].1 ∧ Ro w L eIs [.slice xa15_0 d7[g].2.length xc15_0] d7[g].2 ∧ RoPt w L b_bound [.slice a_bound D4.length c_bound] ∧ Ro w L eIs [.slice a_bound D4.length c_bound] D4 ∧ RoPt w L b_is [.func (.func 237) #[] #[]]) (D := (fun _ => True)) (fun hd => a3j) (fun w' hk => ⟨(hA.pt m0).keep hk, ei15_0, (hA.ro xh15_0).keep hk, (hA.rop hb_bound).keep hk, (hA.ro hbound).keep hk, (hA.rop hb_is).keep hk⟩)⟩)) (fun _ _ => (Eas rfl rfl (Ev Z9 (Ey rfl (Y.ld1 ty_Bs rfl (hb_done.has) rfl) (Emv rfl rfl ?_)))))))))))))))
  obtain ⟨eb22, eo22, ea22, eh22⟩ := hdone.elemB g om
  refine Ey rfl ((Y.ix us_Bs ty_B rfl ea22 rfl g rfl om).yd) (Ey rfl (Y.ld1 ty_B rfl (eh22 _) rfl) (Ent.b (fun q23 => ?_) (fun q23 => ?_)))
  ·refine Ey rfl ((Y.not (b := true) rfl).yd) (Emv rfl rfl (Es rfl (Es rfl (Ey rfl ((Y.pkf rfl rfl).yd) (Eu (E.cf rfl (E.skipc (E.bln (Et (Ez Z2 (Ey rfl ((Y.add rfl rfl om om).yd) (Emv rfl rfl (Eu (Ent.drop ?_))))))))))))))
   exact E.again br (g + 1) rs (.refl _) ⟨by omega, by exact pa.trans (a3J om om (by first | (rw [q23]; simp; done) | (unfold D5; simp [q27])))⟩ om
  ·refine Ey rfl ((Y.not (b := false) rfl).yd) (Emv rfl rfl (Emv rfl rfl (Ey rfl ((Y.geq rfl rfl).yd) (Ent.d (fun q27 => ?_) (fun q27 => ?_)))))
   ·refine Ey rfl ((Y.pkt rfl rfl).yd) (Eu (E.ct rfl (Ew Z5 (Emv rfl rfl (Emv rfl rfl (Ey rfl ((Y.bld (pvs := [_, _]) (cs := [_, _]) ty_Step pl_Step rfl rfl).yd) (Ent.p1 (Est rfl (N.sto (vs := [_, _]) (cs' := [_, _]) ty_Step rfl rfl rfl rfl rfl bl rfl) (fun _ _ => (Eas rfl rfl ?_))))))))))
    exact Eu (E.ret (E.blr (E.thr (E.thr (E.blr (E.thr (F.c2 br rfl rfl rfl m0 ty_Step rfl () trivial (by rw [show ((B0 l D4 d7 done 0).1) = ((g : Int)) from (by rw [pa, a3O om om (by rw [q23]; exact decide_eq_true q27)]; try rfl)]; rw [show ((B0 l D4 d7 done 0).2.1) = (E8 (fun z => F7 z d7[g] D4) l) from (by rw [pa, a3O om om (by rw [q23]; exact decide_eq_true q27)]; try rfl)]; rw [show ((B0 l D4 d7 done 0).2.2) = (true) from (by rw [pa, a3O om om (by rw [q23]; exact decide_eq_true q27)]; try rfl)]; try rfl) (J := _) (.refl _) (.inl rfl))))))))
   ·refine Ey rfl ((Y.pkt rfl rfl).yd) (Eu (E.cf rfl (E.skipc (E.bln (Et (Ez Z2 (Ey rfl ((Y.add rfl rfl om om).yd) (Emv rfl rfl (Eu (Ent.drop ?_))))))))))
    exact E.again br (g + 1) rs (.refl _) ⟨by omega, by exact pa.trans (a3J om om (by first | (rw [q23]; simp; done) | (unfold D5; simp [q27])))⟩ om
 ·refine Eu (Eq_ (E.cf rfl (E.exit (E.the (E.the (E.blh (Et (Ew Z3 (Ey rfl ((Y.bld (pvs := []) (cs := [_, _]) ty_Step pl_Step rfl rfl).yd) (Est rfl (N.sto (vs := [_, _]) (cs' := [_, _]) ty_Step rfl rfl rfl rfl rfl bl rfl) (fun _ _ => (Eas rfl rfl ?_))))))))))))
  exact Eu (E.ret (F.c2 br rfl rfl rfl m0 ty_Step rfl () trivial (by rw [show ((B0 l D4 d7 done 0).1) = (0) from (by rw [pa, a3K om])]; rw [show ((B0 l D4 d7 done 0).2.1) = (0) from (by rw [pa, a3K om])]; rw [show ((B0 l D4 d7 done 0).2.2) = (false) from (by rw [pa, a3K om])]; try rfl) (J := _) (.refl _) (.inl rfl)))
theorem a4Y (hl : l.length ≤ 1000) (ha : d7.length ≤ 1000) (ht : ∀ a ∈ d7, a.2.length ≤ 3) : Tr Tryz.prog 236 [.slice a_l m_l c_l, .slice a_atoms m_atoms c_atoms, .func (.func 237) #[] #[]] (fun w L => Ro w L x9 [.slice a_l m_l c_l] l ∧ Ro w L s3 [.slice a_atoms m_atoms c_atoms] d7) [] (κ := (Option Addr × Nat × Nat) × (Option Addr × Nat × Nat)) (fun k => True) (fun k => .tuple #[.slice k.1.1 k.1.2.1 k.1.2.2, .slice k.2.1 k.2.2.1 k.2.2.2]) (fun k => [ow I8 [.slice k.1.1 k.1.2.1 k.1.2.2] ((grF l d7).1), ow eBs [.slice k.2.1 k.2.2.1 k.2.2.2] ((grF l d7).2.1)]) := by
 refine Tr.intro Tryz.func236 rfl (n := 50) rfl (by decide +kernel) bl (fr := [(0, .slice a_l m_l c_l), (1, .slice a_atoms m_atoms c_atoms), (2, .func (.func 237) #[] #[])]) rfl fun w L hR => ?_
 obtain ⟨hl, hatoms⟩ := hR
 obtain ⟨rfl, ll⟩ := hl.slen
 obtain ⟨rfl, latoms⟩ := hatoms.slen
 refine Ew Z5 (Est rfl (N.box (cs := [_]) rfl dc rfl) (fun b3 _ => (Est rfl (N.box (cs := [_]) rfl dc rfl) (fun b4 _ => (Est rfl (N.box (cs := [_]) rfl dc rfl) (fun b5 _ => (Eas rfl rfl (Eas rfl rfl (Ev Z2 (Est rfl (N.bsl (pvs := []) (cs := []) us_Steps ty_Step rfl dc dc (o6 rfl rfl) rfl dc) (fun b14 _ => (Ent.drop (Eas rfl rfl (Ev Z5 (Ey rfl (Y.ld1 ty_Atoms rfl (Has.pt (mS m0)) rfl) (Ey rfl ((Y.len us_Atoms rfl).yd) (Est rfl (N.make (m := d7.length) us_Bs ty_B rfl rfl rfl mx om dc) (fun b17 _ => (Ent.mkow (A := [_]) (Own.made (E := Enc.bool) (e := tB) (zx := false) Own.bool mx) rfl (Est rfl (N.alloc ty_Bs dc) (fun b9 _ => (Est rfl (N.sto (vs := [_]) (cs' := [_]) ty_Bs rfl rfl rfl rfl rfl bl rfl) (fun _ _ => (Ev Z3 (Est rfl (N.bsl (pvs := []) (cs := []) us_Is f8 rfl dc dc (o6 rfl rfl) rfl dc) (fun b18 _ => (Ent.drop (Est rfl (N.alloc ty_Is dc) (fun b10 _ => (Est rfl (N.sto (vs := [_]) (cs' := [_]) ty_Is rfl rfl rfl rfl rfl bl rfl) (fun _ _ => (Ev Z2 (Ey rfl ((Y.fn (vs := [_, _, _, _, _]) rfl).yd) (Eas rfl rfl (Eu (Eq_ (Ew Z8 (Emv rfl rfl (Est rfl (N.call0 a1s rfl rfl rfl dc (fun w Lp hA => ⟨trivial, ⟨(hA.pt (mS (mS (mS (mS m0))))), (hA.ro hatoms), (hA.pt (mS (mS (mS (mS (mS m0)))))), (hA.ro hl), (hA.pt m0), (Ro.nilany), (hA.pt (mS (mS (mS m0)))), (hA.pt (mS m0)), (hA.ow (mS (mS m0))), (by first | exact List.length_replicate .. | exact a0s)⟩⟩)) (fun _ _ => (Emv rfl rfl (Ey rfl ((Y.ext rfl rfl).yd) (Ey rfl ((Y.ext rfl rfl).yd) (Est rfl (N.alloc ty_Step dc) (fun b12 _ => (Est rfl (N.sto (vs := [_, _]) (cs' := [_, _]) ty_Step rfl rfl rfl rfl rfl bl rfl) (fun _ _ => (Eas rfl rfl (Eu (E.block (Ent.mkow (A := []) (Own.nil (E := a1w) (e := tStep) (a := (some ⟨b14, 0, none⟩))) rfl (Ent.cv (congrArg (ow I8 [_]) (show [] = (grI l d7 0).1 from by first | rfl | simp)) (Ent.p1 (Ent.cv (congrArg (fun z => pt b12 130 [.int .i64 z, .int .i64 ((B0 l ([]) d7 (List.replicate d7.length false) 0).2.1)]) (show (B0 l ([]) d7 (List.replicate d7.length false) 0).1 = (B0 l (grI l d7 0).2.2 d7 (grI l d7 0).2.1 0).1 from by first | rfl | simp)) (Ent.cv (congrArg (fun z => pt b12 130 [.int .i64 ((B0 l (grI l d7 0).2.2 d7 (grI l d7 0).2.1 0).1), .int .i64 z]) (show (B0 l ([]) d7 (List.replicate d7.length false) 0).2.1 = (B0 l (grI l d7 0).2.2 d7 (grI l d7 0).2.1 0).2.1 from by first | rfl | simp)) (Ent.mkow (A := []) (Own.nil (E := Enc.int) (e := tI) (a := (some ⟨b18, 0, none⟩))) rfl (Ent.cv (congrArg (ow eIs [_]) (show [] = (grI l d7 0).2.2 from by first | rfl | simp)) (Ent.p5 (Ent.cv (congrArg (ow eBs [_]) (show List.replicate d7.length false = (grI l d7 0).2.1 from by first | rfl | simp)) (E.loop (κ := Nat × Option Addr × Nat × Nat × Nat × Option Addr × Nat × Nat × Option Addr × Nat × Nat) (fun g => g.1 ≤ d7.length ∧ grP l d7 g.1) (fun g => [(4, .pointer (some ⟨b4, 0, none⟩)), (8, .slice g.2.1 g.2.2.1 g.2.2.2.1), (9, .pointer (some ⟨b9, 0, none⟩)), (10, .pointer (some ⟨b10, 0, none⟩)), (11, .func (.func 291) #[] #[.pointer (some ⟨b4, 0, none⟩), .pointer (some ⟨b3, 0, none⟩), .pointer (some ⟨b10, 0, none⟩), .pointer (some ⟨b5, 0, none⟩), .pointer (some ⟨b9, 0, none⟩)]), (12, .pointer (some ⟨g.2.2.2.2.1, 0, none⟩)), (13, .bool ((B0 l (grI l d7 g.1).2.2 d7 (grI l d7 g.1).2.1 0).2.2))]) (fun g => [ow eBs [.slice g.2.2.2.2.2.2.2.2.1 g.2.2.2.2.2.2.2.2.2.1 g.2.2.2.2.2.2.2.2.2.2] ((grI l d7 g.1).2.1), ow eIs [.slice g.2.2.2.2.2.1 g.2.2.2.2.2.2.1 g.2.2.2.2.2.2.2.1] ((grI l d7 g.1).2.2), pt g.2.2.2.2.1 130 [.int .i64 ((B0 l (grI l d7 g.1).2.2 d7 (grI l d7 g.1).2.1 0).1), .int .i64 ((B0 l (grI l d7 g.1).2.2 d7 (grI l d7 g.1).2.1 0).2.1)], ow I8 [.slice g.2.1 g.2.2.1 g.2.2.2.1] ((grI l d7 g.1).1), pt b10 22 [.slice g.2.2.2.2.2.1 g.2.2.2.2.2.2.1 g.2.2.2.2.2.2.2.1], pt b9 189 [.slice g.2.2.2.2.2.2.2.2.1 g.2.2.2.2.2.2.2.2.2.1 g.2.2.2.2.2.2.2.2.2.2], pt b5 245 [.func (.func 237) #[] #[]], pt b4 59 [.slice a_atoms d7.length c_atoms], pt b3 32 [.slice a_l l.length c_l]]) (fun g => d7.length - g.1) (0, (some ⟨b14, 0, none⟩), 0, 0, b12, (some ⟨b18, 0, none⟩), 0, 0, (some ⟨b17, 0, none⟩), d7.length, d7.length) ⟨Nat.zero_le _, b1r⟩ ⟨rfl, rfl, rfl, rfl, rfl, rfl, frB (by first | rfl | simp), trivial⟩ (.refl _) (fun g pg => ?_)))))))))))))))))))))))))))))))))))))))))))))))))))))))))))))
 obtain ⟨g, aA0_0, mA0_0, cA0_0, bA0_1, aA0_3, mA0_3, cA0_3, aA0_4, mA0_4, cA0_4⟩ := g
 try dsimp only at pg
 try dsimp only
 obtain ⟨pk, pa⟩ := pg
 have jb := b4K (l := l) (d7 := d7) (n := g) ht
 have jd := a0s (l := l) (d7 := d7) (n := g)
 have js := a9w (l := l) (d7 := d7) (n := g)
 refine Ent.lenow (mS (mS (mS m0))) fun eaA0_0 laA0_0 => ?_
 subst eaA0_0
 refine Ent.lenow (mS m0) fun eaA0_3 laA0_3 => ?_
 subst eaA0_3
 refine Ent.lenow m0 fun eaA0_4 laA0_4 => ?_
 subst eaA0_4
 refine Eq_ (Ew Z1 (Emv rfl rfl (Ent.b (fun q25 => ?_) (fun q25 => ?_))))
 ·have jl := b3T pa q25
  obtain ⟨jn1, jn2, jn3, jn4⟩ := b6u (l := l) (d7 := d7) (n := g) q25
  refine Eu (E.ct rfl (E.skipc (Et (Eq_ (E.block (Ew Z5 (Ey rfl (Y.ld1 ty_Bs rfl (Has.pt (mS (mS (mS (mS (mS m0)))))) rfl) (Ey rfl ((Y.fld fo_Step_0 f8 dc rfl).yd) (Ey rfl (Y.ld1 f8 rfl ((Has.pt (mS (mS m0))).sub (cs' := [_]) 0 rfl) rfl) (Ent.adr m0 om fun ab34 ae34 => (Ey rfl ((Y.ix us_Bs ty_B rfl ae34 rfl (((B0 l (grI l d7 g).2.2 d7 (grI l d7 g).2.1 0).1).toNat) om om).yd) (Est rfl (N.set (E := Enc.bool) (j := ((B0 l (grI l d7 g).2.2 d7 (grI l d7 g).2.1 0).1).toNat) (ex := true) (ce := [_]) ty_B rfl rfl rfl rfl Own.bool ae34 (Nat.zero_add _) rfl om) (fun _ _ => (Eu (Eq_ (D.region (fun j => !(Nat.beq j 7) && !(Nat.beq j 8)) mixed (Dy 0 rfl (Y.ld1 ty_Is rfl (Has.pt (mS (mS (mS (mS m0))))) rfl) (Dy 1 rfl (Y.ld1 ty_Atoms rfl (Has.pt (mS (mS (mS (mS (mS (mS (mS m0)))))))) rfl) (Dyp 2 rfl (Y.fld fo_Step_0 f8 dc rfl) (Dy 3 rfl (Y.ld1 f8 rfl ((Has.pt (mS (mS m0))).sub (cs' := [_]) 0 rfl) rfl) ?_))))))))))))))))))))
  obtain ⟨eb39, eo39, ec39, ea39, er39, el39, eh39⟩ := hatoms.elem (((B0 l (grI l d7 g).2.2 d7 (grI l d7 g).2.1 0).1).toNat) om
  obtain ⟨xa39_0, xc39_0, rfl, ei39_0, xh39_0⟩ := Ro.pAtom er39
  have := xh39_0.slen.2
  refine Dyp 4 rfl (Y.ix us_Atoms ty_Atom rfl ea39 rfl (((B0 l (grI l d7 g).2.2 d7 (grI l d7 g).2.1 0).1).toNat) om om) (Dyp 5 rfl (Y.fld fo_Atom_1 ty_Is dc rfl) ?_)
  have jt := ht _ (List.getElem_mem (show ((B0 l (grI l d7 g).2.2 d7 (grI l d7 g).2.1 0).1).toNat < d7.length by omega))
  refine Dy 6 rfl (Y.ld1 ty_Is rfl ((eh39 _).sub (cs' := [_]) 1 rfl) rfl) (Ent.p1 (D.st 7 rfl rfl kr (fun h => by cases h) (N.pushR (E := Enc.int) Plain.int us_Is f8 rfl rfl rfl xh39_0 rfl bn bn dc) (fun p42 _ => (Ent.p4 (D.st 8 rfl rfl kr (fun h => by cases h) (N.sto (vs := [_]) (cs' := [_]) ty_Is rfl rfl rfl rfl rfl bl rfl) (fun _ _ => (D.done kr (Et (Ez Z5 (Emv rfl rfl (Ey rfl (Y.ldS (cs := [_, _]) ty_Step rfl (Has.pt (mS (mS (mS m0)))) rfl) (Est rfl (N.bsl (pvs := [_]) (cs := [_, _]) us_Steps ty_Step rfl dc dc (o6 rfl rfl) rfl dc) (fun b45 _ => (Ent.p5 (Est rfl (N.push (E := a1w) (ex := ((B0 l (grI l d7 g).2.2 d7 (grI l d7 g).2.1 0).1, (B0 l (grI l d7 g).2.2 d7 (grI l d7 g).2.1 0).2.1)) us_Steps ty_Step rfl rfl rfl (Own.mkStep (x := ((B0 l (grI l d7 g).2.2 d7 (grI l d7 g).2.1 0).1, (B0 l (grI l d7 g).2.2 d7 (grI l d7 g).2.1 0).2.1)) i6 i6) rfl bn bn dc) (fun p46 _ => (Eas rfl rfl (En (E.bln (Et (Eq_ (Ew Z1 (Ey rfl (Y.ldS (cs := [_, _]) ty_Step rfl (Has.pt (mS (mS (mS (mS m0))))) rfl) (Eu (Ez Z2 (Est rfl (N.alloc ty_Step dc) (fun b12 _ => (Est rfl (N.sto (vs := [_, _]) (cs' := [_, _]) ty_Step rfl rfl rfl rfl rfl bl rfl) (fun _ _ => (Eu (Ez Z7 (Ent.p4 (Ent.cv (congrArg (ow eBs [_]) (show ((grI l d7 g).2.1).set (((B0 l (grI l d7 g).2.2 d7 (grI l d7 g).2.1 0).1).toNat) true = (grI l d7 (g + 1)).2.1 from by exact b6h q25)) (Ent.p4 (Ent.cv (congrArg (ow eIs [_]) (show ((grI l d7 g).2.2) ++ d7[((B0 l (grI l d7 g).2.2 d7 (grI l d7 g).2.1 0).1).toNat].2 = (grI l d7 (g + 1)).2.2 from by exact b6g q25 om)) (Emv rfl rfl (Est rfl (N.call0 a1s rfl rfl rfl dc (fun w Lp hA => ⟨trivial, ⟨(hA.pt (mS (mS (mS (mS (mS (mS (mS (mS m0))))))))), (hA.ro hatoms), (hA.pt (mS (mS (mS (mS (mS (mS (mS (mS (mS m0)))))))))), (hA.ro hl), (hA.pt (mS (mS (mS (mS m0))))), (hA.ow m0), (hA.pt (mS (mS (mS (mS (mS (mS (mS m0)))))))), (hA.pt (mS (mS (mS (mS (mS (mS m0))))))), (hA.ow (mS m0)), (by first | exact List.length_replicate .. | exact a0s)⟩⟩)) (fun _ _ => (Emv rfl rfl (Ey rfl ((Y.ext rfl rfl).yd) (Ey rfl ((Y.ext rfl rfl).yd) (Ent.p2 (Est rfl (N.sto (vs := [_, _]) (cs' := [_, _]) ty_Step rfl rfl rfl rfl rfl bl rfl) (fun _ _ => (Eas rfl rfl (Eu (Ent.cv (congrArg (fun z => pt b12 130 [.int .i64 z, .int .i64 ((B0 l ((grI l d7 (g + 1)).2.2) d7 ((grI l d7 (g + 1)).2.1) 0).2.1)]) (show (B0 l ((grI l d7 (g + 1)).2.2) d7 ((grI l d7 (g + 1)).2.1) 0).1 = (B0 l (grI l d7 (g + 1)).2.2 d7 (grI l d7 (g + 1)).2.1 0).1 from by first | exact a9y q25 | rfl)) (Ent.cv (congrArg (fun z => pt b12 130 [.int .i64 ((B0 l (grI l d7 (g + 1)).2.2 d7 (grI l d7 (g + 1)).2.1 0).1), .int .i64 z]) (show (B0 l ((grI l d7 (g + 1)).2.2) d7 ((grI l d7 (g + 1)).2.1) 0).2.1 = (B0 l (grI l d7 (g + 1)).2.2 d7 (grI l d7 (g + 1)).2.1 0).2.1 from by first | exact a9y q25 | rfl)) (Ent.p5 (Ent.drop (Ent.p3 (Ent.cv (congrArg (ow I8 [_]) (show ((grI l d7 g).1) ++ [((B0 l (grI l d7 g).2.2 d7 (grI l d7 g).2.1 0).1, (B0 l (grI l d7 g).2.2 d7 (grI l d7 g).2.1 0).2.1)] = (grI l d7 (g + 1)).1 from by first | exact a9y q25 | rfl)) (Ent.p8 (Ent.p8 (Ent.p8 (Ent.p8 (Ent.p8 (Ent.p5 (Ent.p6 (Ent.p7 (Ent.p8 ?_)))))))))))))))))))))))))))))))))))))))))))))))))))))))))))))
  exact E.again br (g + 1, p46.1, (((grI l d7 g).1).length + 1), p46.2, b12, p42.1, (((grI l d7 g).2.2).length + d7[((B0 l (grI l d7 g).2.2 d7 (grI l d7 g).2.1 0).1).toNat].2.length), p42.2, aA0_4, ((grI l d7 g).2.1).length, cA0_4) ⟨rfl, rfl, rfl, rfl, rfl, rfl, frB (by first | exact a9y q25 | rfl), trivial⟩ (.refl _) ⟨oz, (show grP l d7 (g + 1) from by exact b1t pa q25)⟩ oz
 ·have jf := b5H pa q25
  refine Eu (E.cf rfl (E.exit (E.the (E.the (E.blh (Et (Eq_ (D.region (fun j => true) mixed (Dyp 0 rfl (Y.mv rfl) (Dy 1 rfl (Y.ld1 ty_Bs rfl (Has.pt (mS (mS (mS (mS (mS m0)))))) rfl) (Dyp 2 rfl (Y.as rfl) (Dyp 3 rfl (Y.as rfl) (D.done kr (Et (E.ret (Ent.cv (congrArg (ow eBs [_]) (show _ = (grF l d7).2.1 by rw [jf])) (Ent.p3 (Ent.cv (congrArg (ow I8 [_]) (show _ = (grF l d7).1 by rw [jf])) (Ent.p1 (Ent.p1 ?_))))))))))))))))))))
  exact F.r2 br rfl rfl rfl ((_, _, _), (_, _, _)) trivial rfl (J := _) (.refl _) (.inl rfl)
theorem a4q (hl : l.length ≤ 1000) (ha : d7.length ≤ 1000) (ht : ∀ a ∈ d7, a.2.length ≤ 3) : Tr Tryz.prog 161 [.slice a_l m_l c_l, .slice a_atoms m_atoms c_atoms] (fun w L => Ro w L x9 [.slice a_l m_l c_l] l ∧ Ro w L s3 [.slice a_atoms m_atoms c_atoms] d7) [] (κ := (Option Addr × Nat × Nat) × (Option Addr × Nat × Nat)) (fun k => True) (fun k => .tuple #[.slice k.1.1 k.1.2.1 k.1.2.2, .slice k.2.1 k.2.2.1 k.2.2.2]) (fun k => [ow I8 [.slice k.1.1 k.1.2.1 k.1.2.2] ((grF l d7).1), ow eBs [.slice k.2.1 k.2.2.1 k.2.2.2] ((grF l d7).2.1)]) := by
 refine Tr.intro Tryz.func161 rfl (n := 11) rfl (by decide +kernel) bl (fr := [(0, .slice a_l m_l c_l), (1, .slice a_atoms m_atoms c_atoms)]) rfl fun w L hR => ?_
 obtain ⟨hl, hatoms⟩ := hR
 obtain ⟨rfl, ll⟩ := hl.slen
 obtain ⟨rfl, latoms⟩ := hatoms.slen
 refine Ew Z2 (Eas rfl rfl (Eas rfl rfl (Ev Z7 (Emv rfl rfl (Emv rfl rfl (Est rfl (N.call (a4Y fc fc fc) rfl rfl rfl dc rfl (fun w Lp hA => ⟨hA.ro hl, hA.ro hatoms⟩)) (fun k8 _ => ?_)))))))
 obtain ⟨⟨a8_0, m8_0, c8_0⟩, ⟨a8_1, m8_1, c8_1⟩⟩ := k8
 refine Ent.lenow m0 fun e8_0 l8_0 => ?_
 subst e8_0
 refine Ent.lenow (mS m0) fun e8_1 l8_1 => ?_
 subst e8_1
 refine Ey rfl ((Y.ext rfl rfl).yd) (Ey rfl ((Y.ext rfl rfl).yd) (Eas rfl rfl (Eas rfl rfl (Eu (E.ret (Ent.p1 (Ent.p1 (Ent.p1 (Ent.p1 ?_)))))))))
 exact F.r2 br rfl rfl rfl ((_, _, _), (_, _, _)) trivial rfl (J := _) (.refl _) (.inl rfl)
theorem a7M : Tr Tryz.prog 199 [.slice a_l m_l c_l, .agg #[.int .i64 i9, .slice o7 s0 o8], .slice a_bound m_bound c_bound] (fun w L => Ro w L x9 [.slice a_l m_l c_l] l ∧ I64 i9 ∧ Ro w L eIs [.slice o7 s0 o8] f6 ∧ Ro w L eIs [.slice a_bound m_bound c_bound] D4) [] (κ := Unit) (fun k => True) (fun k => .int .i64 (D5 l (i9, f6) D4)) (fun k => []) := by
 refine Tr.intro Tryz.func199 rfl (n := 22) rfl (by decide +kernel) bl (fr := [(0, .slice a_l m_l c_l), (1, .agg #[.int .i64 i9, .slice o7 s0 o8]), (2, .slice a_bound m_bound c_bound)]) rfl fun w L hR => ?_
 obtain ⟨hl, D9, s7, hbound⟩ := hR
 obtain ⟨rfl, ll⟩ := hl.slen
 obtain ⟨rfl, I5⟩ := s7.slen
 obtain ⟨rfl, lbound⟩ := hbound.slen
 refine Ew Z2 (Est rfl (N.box (cs := [_, _]) rfl dc rfl) (fun b4 _ => (Eas rfl rfl (Eu (Eq_ (Ew Z1 (Eas rfl rfl (Eu (E.block (E.loop (κ := Nat) (fun g => g ≤ l.length ∧ ∀ x ∈ l.take g, F7 x (i9, f6) D4 = false) (fun g => [(0, .slice a_l l.length c_l), (2, .slice a_bound D4.length c_bound), (4, .pointer (some ⟨b4, 0, none⟩)), (7, .int .i64 (g : Int))]) (fun g => [pt b4 128 [.int .i64 i9, .slice o7 f6.length o8]]) (fun g => l.length - g) 0 ⟨Nat.zero_le _, by simp⟩ ⟨rfl, rfl, rfl, rfl, trivial⟩ (.refl _) (fun g pg => ?_)))))))))))
 obtain ⟨pk, pa⟩ := pg
 refine Eq_ (Ew Z4 (Emv rfl rfl (Emv rfl rfl (Ey rfl ((Y.len us_Methods rfl).yd) (Ey rfl ((Y.lss rfl rfl).yd) (Ent.d (fun q11 => ?_) (fun q11 => ?_)))))))
 ·refine Eu (E.ct rfl (E.skipc (Et (Eq_ (E.block (Eq_ (D.region (fun j => true) mixed (Dyp 0 rfl (Y.mv rfl) (Dyp 1 rfl (Y.mv rfl) ?_)))))))))
  obtain ⟨eb16, eo16, ec16, ea16, er16, el16, eh16⟩ := hl.elem g om
  obtain ⟨xa16_0, xc16_0, rfl, ei16_0, xh16_0, ei16_2, ei16_3, ei16_4⟩ := Ro.pMethod er16
  have := xh16_0.slen.2
  refine Dyp 2 rfl (Y.ix us_Methods ty_Method rfl ea16 rfl g rfl om) (Dy 3 rfl (Y.ldS (cs := [_, _, _, _, _]) ty_Method rfl (eh16 _) rfl) (Dy 4 rfl (Y.ldS (cs := [_, _]) ty_Atom rfl (Has.pt m0) rfl) (Dyp 5 rfl (Y.mv rfl) (D.st 6 rfl rfl kr (fun _ => rfl) (N.call0 a3w rfl rfl rfl dc (fun w Lp hA => ⟨ei16_0, hA.ro xh16_0, ei16_2, ei16_3, ei16_4, D9, hA.ro s7, hA.ro hbound⟩)) (fun _ _ => (Ent.b (fun q20 => ?_) (fun q20 => ?_)))))))
  ·refine D.done kr (Et (E.ct rfl (Ew Z2 (Emv rfl rfl (Eas rfl rfl ?_)))))
   exact Eu (E.ret (E.blr (E.thr (E.thr (E.blr (E.thr (Fg rfl rfl () (congrArg (Value.int .i64) (by first | exact L6 (p := fun m => F7 m (i9, f6) D4) om pa q20 | exact J2 (p := fun m => F7 m (i9, f6) D4) om pa)) rfl)))))))
  ·refine D.done kr (Et (E.cf rfl (E.skipc (E.bln (Et (Ez Z3 (Emv rfl rfl (Ey rfl ((Y.add rfl rfl om om).yd) (Eas rfl rfl ?_)))))))))
   exact Eu (E.again br (g + 1) rs (.refl _) ⟨by omega, by exact S1 (p := fun m => F7 m (i9, f6) D4) om pa q20⟩ om)
 ·refine Eu (E.cf rfl (E.exit (E.the (E.the (E.blh (Et (Ew Z1 (Eas rfl rfl ?_))))))))
  exact Eu (E.ret (Fg rfl rfl () (congrArg (Value.int .i64) (by first | exact L6 (p := fun m => F7 m (i9, f6) D4) om pa q20 | exact J2 (p := fun m => F7 m (i9, f6) D4) om pa)) rfl))
theorem a4y (hz : D4.length ≤ 1000) (ht : f6.length ≤ 3) : Tr Tryz.prog 170 [.slice a_bound m_bound c_bound, .agg #[.int .i64 i9, .slice o7 s0 o8]] (fun w L => Ro w L eIs [.slice a_bound m_bound c_bound] D4 ∧ I64 i9 ∧ Ro w L eIs [.slice o7 s0 o8] f6) [] (κ := Option Addr × Nat × Nat) (fun k => True) (fun k => .slice k.1 k.2.1 k.2.2) (fun k => [ow eIs [.slice k.1 k.2.1 k.2.2] (a0e D4 (i9, f6))]) := by
 refine Tr.intro Tryz.func170 rfl (n := 31) rfl (by decide +kernel) bl (fr := [(0, .slice a_bound m_bound c_bound), (1, .agg #[.int .i64 i9, .slice o7 s0 o8])]) rfl fun w L hR => ?_
 obtain ⟨hbound, D9, s7⟩ := hR
 obtain ⟨rfl, lbound⟩ := hbound.slen
 obtain ⟨rfl, I5⟩ := s7.slen
 refine Ew Z2 (Est rfl (N.box (cs := [_, _]) rfl dc rfl) (fun b3 _ => (Eas rfl rfl (Ev Z4 (Est rfl (N.bsl (pvs := []) (cs := []) us_Is f8 rfl dc dc (o6 rfl rfl) rfl dc) (fun b7 _ => (Ent.drop (Emv rfl rfl (Est rfl (N.pushR0 (E := Enc.int) Plain.int us_Is f8 rfl rfl rfl hbound bn bn dc) (fun p9 _ => (Eas rfl rfl (Eu (Eq_ (Ew Z1 (Eas rfl rfl (Eu (E.block (Ent.cv (congrArg (ow eIs [_]) (show D4 = ((f6.take 0).filter fun t => inR t 10 17).foldl F2 D4 from by first | rfl | (simp; done) | grind [d1, d2, t1, t2])) (E.loop (κ := Nat × Option Addr × Nat × Nat) (fun g => g.1 ≤ f6.length ∧ True) (fun g => [(3, .pointer (some ⟨b3, 0, none⟩)), (5, .slice g.2.1 g.2.2.1 g.2.2.2), (6, .int .i64 (↑g.1 : Int))]) (fun g => [ow eIs [.slice g.2.1 g.2.2.1 g.2.2.2] (((f6.take g.1).filter fun t => inR t 10 17).foldl F2 D4), pt b3 128 [.int .i64 i9, .slice o7 f6.length o8]]) (fun g => f6.length - g.1) (0, p9.1, D4.length, p9.2) ⟨Nat.zero_le _, by simp⟩ ⟨rfl, rfl, rfl, trivial⟩ (.refl _) (fun g pg => ?_))))))))))))))))))))
 obtain ⟨g, aA0_0, mA0_0, cA0_0⟩ := g
 try dsimp only at pg
 try dsimp only
 obtain ⟨pk, pa⟩ := pg
 have jf := a2P (b := D4) (t := (f6.take g).filter fun t => inR t 10 17)
 have jg := List.length_filter_le (fun t => inR t 10 17) (f6.take g)
 have jh := List.length_take_le g f6
 refine Ent.lenow m0 fun eaA0_0 laA0_0 => ?_
 subst eaA0_0
 refine Eq_ (Ew Z5 (Emv rfl rfl (Ey rfl ((Y.fld fo_Atom_1 ty_Is dc rfl).yd) (Ey rfl (Y.ld1 ty_Is rfl ((Has.pt (mS m0)).sub (cs' := [_]) 1 rfl) rfl) (Ey rfl ((Y.len us_Is rfl).yd) (Ey rfl ((Y.lss rfl rfl).yd) (Ent.d (fun q14 => ?_) (fun q14 => ?_))))))))
 ·refine Eu (E.ct rfl (E.skipc (Et (Eq_ (E.block (Ew Z6 (Ey rfl ((Y.fld fo_Atom_1 ty_Is dc rfl).yd) (Ey rfl (Y.ld1 ty_Is rfl ((Has.pt (mS m0)).sub (cs' := [_]) 1 rfl) rfl) (Emv rfl rfl ?_)))))))))
  obtain ⟨eb20, eo20, ea20, ei20, eh20⟩ := s7.elemI g om
  refine Ey rfl ((Y.ix us_Is f8 rfl ea20 rfl g rfl om).yd) (Ey rfl (Y.ld1 f8 rfl (eh20 _) rfl) (Est rfl (N.call0 Y2 rfl rfl rfl dc (fun w Lp hA => trivial)) (fun _ _ => (Ent.b (fun q22 => ?_) (fun q22 => ?_)))))
  ·refine Eu (E.ct rfl (Ez Z8 (Emv rfl rfl (Ey rfl ((Y.fld fo_Atom_1 ty_Is dc rfl).yd) (Ey rfl (Y.ld1 ty_Is rfl ((Has.pt (mS m0)).sub (cs' := [_]) 1 rfl) rfl) (Emv rfl rfl (Ey rfl ((Y.ix us_Is f8 rfl ea20 rfl g rfl om).yd) (Ey rfl (Y.ld1 f8 rfl (eh20 _) rfl) (Est rfl (N.call (pre := [_]) (a2O fc) rfl rfl rfl dc rfl (fun w Lp hA => ei20)) (fun k29 _ => ?_))))))))))
   obtain ⟨a29, m29, c29⟩ := k29
   refine Ent.lenow m0 fun e29 l29 => ?_
   subst e29
   refine Eas rfl rfl (En (E.bln (Et (Ez Z3 (Emv rfl rfl (Ey rfl ((Y.add rfl rfl om om).yd) (Eas rfl rfl (Eu (Ent.cv (congrArg (ow eIs [_]) (show F2 (((f6.take g).filter fun t => inR t 10 17).foldl F2 D4) f6[g] = ((f6.take (g + 1)).filter fun t => inR t 10 17).foldl F2 D4 from by first | exact b2F om q22 | exact b2D om q22)) (Ent.p1 (Ent.p1 ?_)))))))))))
   exact Ea (g + 1, a29, (F2 (((f6.take g).filter fun t => inR t 10 17).foldl F2 D4) f6[g]).length, c29) ⟨oz, trivial⟩
  ·refine Eu (E.cf rfl (E.skipc (E.bln (Et (Ez Z3 (Emv rfl rfl (Ey rfl ((Y.add rfl rfl om om).yd) (Eas rfl rfl (Eu (Ent.cv (congrArg (ow eIs [_]) (show ((f6.take g).filter fun t => inR t 10 17).foldl F2 D4 = ((f6.take (g + 1)).filter fun t => inR t 10 17).foldl F2 D4 from by first | exact b2F om q22 | exact b2D om q22)) (Ent.p1 (Ent.p1 ?_))))))))))))
   exact Ea (g + 1, aA0_0, (((f6.take g).filter fun t => inR t 10 17).foldl F2 D4).length, cA0_0) ⟨oz, trivial⟩
 ·refine Eu (E.cf rfl (E.exit (E.the (E.the (E.blh (Et (Ew Z2 (Emv rfl rfl (Eas rfl rfl (Eu (E.ret (Ent.cv (congrArg (ow eIs [_]) (show _ = a0e D4 (i9, f6) by rw [List.take_of_length_le om]; rfl)) ?_))))))))))))
  exact Fg rfl rfl (_, _, _) rfl rfl
theorem a2Y {l2 : Option Addr} {o1 l0 : Nat} {d9 : List Int} {j8 : Option Addr} {n9 j7 : Nat} {d4 : List (Int × List Int)} (hl : l.length ≤ 1000) (ha : d4.length ≤ 100) (ht : ∀ a ∈ d4, a.2.length ≤ 3) : Tr Tryz.prog 142 [.slice a_l m_l c_l, .agg #[.slice l2 o1 l0, .slice j8 n9 j7]] (fun w L => Ro w L x9 [.slice a_l m_l c_l] l ∧ Ro w L eIs [.slice l2 o1 l0] d9 ∧ Ro w L s3 [.slice j8 n9 j7] d4) [] (κ := Option Addr × Nat × Nat) (fun k => True) (fun k => .slice k.1 k.2.1 k.2.2) (fun k => [ow I8 [.slice k.1 k.2.1 k.2.2] ((grF l d4).1)]) := by
 refine Tr.intro Tryz.func142 rfl (n := 62) rfl (by decide +kernel) bl (fr := [(0, .slice a_l m_l c_l), (1, .agg #[.slice l2 o1 l0, .slice j8 n9 j7])]) rfl fun w L hR => ?_
 obtain ⟨hl, o3, n8⟩ := hR
 obtain ⟨rfl, ll⟩ := hl.slen
 obtain ⟨rfl, E9⟩ := o3.slen
 obtain ⟨rfl, D1⟩ := n8.slen
 refine Ew Z2 (Est rfl (N.box (cs := [_, _]) rfl dc rfl) (fun b3 _ => (Eas rfl rfl (Ev Z2 (Est rfl (N.bsl (pvs := []) (cs := []) us_Steps ty_Step rfl dc dc (o6 rfl rfl) rfl dc) (fun b11 _ => (Ent.drop (Eas rfl rfl (Ev Z2 (Est rfl (N.bsl (pvs := []) (cs := []) us_Is f8 rfl dc dc (o6 rfl rfl) rfl dc) (fun b12 _ => (Ent.drop (Eas rfl rfl (Ev Z2 (Est rfl (N.bsl (pvs := []) (cs := []) us_Is f8 rfl dc dc (o6 rfl rfl) rfl dc) (fun b13 _ => (Ent.drop (Eas rfl rfl (Eu (Eq_ (Ew Z1 (Eas rfl rfl (Eu (E.block (Ent.mkow (A := []) (Own.nil (E := a1w) (e := tStep) (a := (some ⟨b11, 0, none⟩))) rfl (Ent.cv (congrArg (ow I8 [_]) (show [] = (grI l d4 0).1 from by rfl)) (Ent.mkow (A := []) (Own.nil (E := Enc.int) (e := tI) (a := (some ⟨b12, 0, none⟩))) rfl (Ent.cv (congrArg (ow eIs [_]) (show [] = grV l d4 0 from by rfl)) (Ent.mkow (A := []) (Own.nil (E := Enc.int) (e := tI) (a := (some ⟨b13, 0, none⟩))) rfl (Ent.cv (congrArg (ow eIs [_]) (show [] = ((grI l d4 0).1).map (fun x => x.1) from by rfl)) (E.loop (κ := Nat × Option Addr × Nat × Nat × Option Addr × Nat × Nat × Option Addr × Nat × Nat) (fun r => r.1 ≤ d4.length ∧ True) (fun r => [(0, .slice a_l l.length c_l), (3, .pointer (some ⟨b3, 0, none⟩)), (5, .slice r.2.1 r.2.2.1 r.2.2.2.1), (6, .slice r.2.2.2.2.1 r.2.2.2.2.2.1 r.2.2.2.2.2.2.1), (7, .slice r.2.2.2.2.2.2.2.1 r.2.2.2.2.2.2.2.2.1 r.2.2.2.2.2.2.2.2.2), (8, .int .i64 (↑r.1 : Int))]) (fun r => [ow eIs [.slice r.2.2.2.2.2.2.2.1 r.2.2.2.2.2.2.2.2.1 r.2.2.2.2.2.2.2.2.2] (((grI l d4 r.1).1).map (fun x => x.1)), ow eIs [.slice r.2.2.2.2.1 r.2.2.2.2.2.1 r.2.2.2.2.2.2.1] (grV l d4 r.1), ow I8 [.slice r.2.1 r.2.2.1 r.2.2.2.1] ((grI l d4 r.1).1), pt b3 61 [.slice l2 d9.length l0, .slice j8 d4.length j7]]) (fun r => d4.length - r.1) (0, (some ⟨b11, 0, none⟩), 0, 0, (some ⟨b12, 0, none⟩), 0, 0, (some ⟨b13, 0, none⟩), 0, 0) ⟨Nat.zero_le _, by simp⟩ ⟨rfl, rfl, rfl, rfl, rfl, rfl, trivial⟩ (.refl _) (fun r pr => ?_))))))))))))))))))))))))))))))))
 obtain ⟨r, aA0_0, mA0_0, cA0_0, aA0_1, mA0_1, cA0_1, aA0_2, mA0_2, cA0_2⟩ := r
 try dsimp only at pr
 try dsimp only
 obtain ⟨pk, pa⟩ := pr
 have jb := b4C (l := l) (d7 := d4) (n := r) ht
 have js := a9w (l := l) (d7 := d4) (n := r)
 have ju : (((grI l d4 r).1).map fun x => x.1).length = ((grI l d4 r).1).length := List.length_map ..
 refine Ent.lenow (mS (mS m0)) fun eaA0_0 laA0_0 => ?_
 subst eaA0_0
 refine Ent.lenow (mS m0) fun eaA0_1 laA0_1 => ?_
 subst eaA0_1
 refine Ent.lenow m0 fun eaA0_2 laA0_2 => ?_
 subst eaA0_2
 refine Eq_ (Ew Z5 (Emv rfl rfl (Ey rfl ((Y.fld fo_Query_1 ty_Atoms dc rfl).yd) (Ey rfl (Y.ld1 ty_Atoms rfl ((Has.pt (mS (mS (mS m0)))).sub (cs' := [_]) 1 rfl) rfl) (Ey rfl ((Y.len us_Atoms rfl).yd) (Ey rfl ((Y.lss rfl rfl).yd) (Ent.d (fun q18 => ?_) (fun q18 => ?_))))))))
 ·refine Eu (E.ct rfl (E.skipc (Et (Eq_ (E.block (Ew Z1 (Eas rfl rfl (Eu (E.block (E.loop (κ := Nat × Option Addr × Nat × Nat × Option Addr × Nat × Nat × Option Addr × Nat × Nat) (fun g => g.1 ≤ d4.length ∧ sgI l d4 r g.1) (fun g => [(0, .slice a_l l.length c_l), (3, .pointer (some ⟨b3, 0, none⟩)), (5, .slice g.2.1 g.2.2.1 g.2.2.2.1), (6, .slice g.2.2.2.2.1 g.2.2.2.2.2.1 g.2.2.2.2.2.2.1), (7, .slice g.2.2.2.2.2.2.2.1 g.2.2.2.2.2.2.2.2.1 g.2.2.2.2.2.2.2.2.2), (8, .int .i64 (r : Int)), (9, .int .i64 (↑g.1 : Int))]) (fun g => [ow eIs [.slice g.2.2.2.2.2.2.2.1 g.2.2.2.2.2.2.2.2.1 g.2.2.2.2.2.2.2.2.2] (((grI l d4 r).1).map (fun x => x.1)), ow eIs [.slice g.2.2.2.2.1 g.2.2.2.2.2.1 g.2.2.2.2.2.2.1] (grV l d4 r), ow I8 [.slice g.2.1 g.2.2.1 g.2.2.2.1] ((grI l d4 r).1), pt b3 61 [.slice l2 d9.length l0, .slice j8 d4.length j7]]) (fun g => d4.length - g.1) (0, aA0_0, ((grI l d4 r).1).length, cA0_0, aA0_1, (grV l d4 r).length, cA0_1, aA0_2, (((grI l d4 r).1).map (fun x => x.1)).length, cA0_2) ⟨Nat.zero_le _, b4f⟩ ⟨rfl, rfl, rfl, rfl, rfl, rfl, rfl, trivial⟩ (.refl _) (fun g pg => ?_)))))))))))
  obtain ⟨g, aA1_0, mA1_0, cA1_0, aA1_1, mA1_1, cA1_1, aA1_2, mA1_2, cA1_2⟩ := g
  try dsimp only at pg
  try dsimp only
  obtain ⟨pk, pa⟩ := pg
  refine Ent.lenow (mS (mS m0)) fun eaA1_0 laA1_0 => ?_
  subst eaA1_0
  refine Ent.lenow (mS m0) fun eaA1_1 laA1_1 => ?_
  subst eaA1_1
  refine Ent.lenow m0 fun eaA1_2 laA1_2 => ?_
  subst eaA1_2
  refine Eq_ (Ew Z5 (Emv rfl rfl (Ey rfl ((Y.fld fo_Query_1 ty_Atoms dc rfl).yd) (Ey rfl (Y.ld1 ty_Atoms rfl ((Has.pt (mS (mS (mS m0)))).sub (cs' := [_]) 1 rfl) rfl) (Ey rfl ((Y.len us_Atoms rfl).yd) (Ey rfl ((Y.lss rfl rfl).yd) (Ent.d (fun q25 => ?_) (fun q25 => ?_))))))))
  ·refine Eu (E.ct rfl (E.skipc (Et (Eq_ (E.block (Ew Z9 (Emv rfl rfl (Ey rfl ((Y.fld fo_Query_1 ty_Atoms dc rfl).yd) (Ey rfl (Y.ld1 ty_Atoms rfl ((Has.pt (mS (mS (mS m0)))).sub (cs' := [_]) 1 rfl) rfl) (Emv rfl rfl ?_))))))))))
   obtain ⟨eb32, eo32, ec32, ea32, er32, el32, eh32⟩ := n8.elem g om
   obtain ⟨xa32_0, xc32_0, rfl, ei32_0, xh32_0⟩ := Ro.pAtom er32
   have := xh32_0.slen.2
   refine Ey rfl ((Y.ix us_Atoms ty_Atom rfl ea32 rfl g rfl om).yd) (Ey rfl (Y.ldS (cs := [_, _]) ty_Atom rfl (eh32 _) rfl) (Emv rfl rfl (Est rfl (N.call0 a7M rfl rfl rfl dc (fun w Lp hA => ⟨hA.ro hl, ei32_0, hA.ro xh32_0, hA.ow (mS m0)⟩)) (fun _ _ => (Eas rfl rfl (Ev Z8 (Emv rfl rfl (Ey rfl ((Y.geq rfl rfl).yd) (Ent.d (fun q37 => ?_) (fun q37 => ?_))))))))))
   ·have jm := b3B (l := l) (a := d4[g]) (b := grV l d4 r)
    refine Emv rfl rfl (Emv rfl rfl (Emv rfl rfl (Est rfl (N.call0 Y1 rfl rfl rfl dc (fun w Lp hA => hA.ow m0)) (fun _ _ => (Ent.b (fun q41 => ?_) (fun q41 => ?_))))))
    ·refine Ey rfl ((Y.not (b := true) rfl).yd) (Ey rfl ((Y.pkt rfl rfl).yd) (Eu (E.cf rfl (E.skipc (E.bln (Et (Ez Z3 (Emv rfl rfl (Ey rfl ((Y.add rfl rfl om om).yd) (Eas rfl rfl (Eu (Ent.p3 (Ent.p3 (Ent.p3 (Ent.p3 ?_)))))))))))))))
     exact Ea (g + 1, aA1_0, ((grI l d4 r).1).length, cA1_0, aA1_1, (grV l d4 r).length, cA1_1, aA1_2, (((grI l d4 r).1).map (fun x => x.1)).length, cA1_2) ⟨oz, (show sgI l d4 r (g + 1) from by first | exact b1m pa om q37 | exact b1n pa om q41)⟩
    ·refine Ey rfl ((Y.not (b := false) rfl).yd) (Ey rfl ((Y.pkt rfl rfl).yd) (Eu (E.ct rfl (Ew Z7 (Emv rfl rfl (Emv rfl rfl (Emv rfl rfl (Ey rfl ((Y.bld (pvs := [_, _]) (cs := [_, _]) ty_Step pl_Step rfl rfl).yd) (Est rfl (N.bsl (pvs := [_]) (cs := [_, _]) us_Steps ty_Step rfl dc dc (o6 rfl rfl) rfl dc) (fun b48 _ => (Ent.p3 (Est rfl (N.push (E := a1w) (ex := ((g : Int), D5 l d4[g] (grV l d4 r))) us_Steps ty_Step rfl rfl rfl (Own.mkStep (x := ((g : Int), D5 l d4[g] (grV l d4 r))) i6 i6) rfl bn bn dc) (fun p49 _ => (Eas rfl rfl (Ev Z5 (Emv rfl rfl (Emv rfl rfl (Est rfl (N.bsl (pvs := [_]) (cs := [_]) us_Is f8 rfl dc dc (o6 rfl rfl) rfl dc) (fun b52 _ => (Ent.p2 (Est rfl (N.push (E := Enc.int) (ex := (g : Int)) us_Is f8 rfl rfl rfl (Own.int i6) rfl bn bn dc) (fun p53 _ => (Eas rfl rfl (Ev Z8 (Emv rfl rfl (Ey rfl ((Y.fld fo_Query_1 ty_Atoms dc rfl).yd) (Ey rfl (Y.ld1 ty_Atoms rfl ((Has.pt (mS (mS (mS m0)))).sub (cs' := [_]) 1 rfl) rfl) (Emv rfl rfl (Ey rfl ((Y.ix us_Atoms ty_Atom rfl ea32 rfl g rfl om).yd) (Ey rfl (Y.ldS (cs := [_, _]) ty_Atom rfl (eh32 _) rfl) (Est rfl (N.call (a4y fo (ht _ (List.getElem_mem om))) rfl rfl rfl dc rfl (fun w Lp hA => ⟨hA.ow (mS (mS m0)), ei32_0, hA.ro xh32_0⟩)) (fun k60 _ => ?_))))))))))))))))))))))))))))))))
     obtain ⟨a60, m60, c60⟩ := k60
     refine Ent.lenow m0 fun e60 l60 => ?_
     subst e60
     refine Eas rfl rfl (Eu (E.exit (E.blm rfl (E.the (E.the (E.blh (E.bln (Et (Ez Z3 (Emv rfl rfl (Ey rfl ((Y.add rfl rfl om om).yd) (Eas rfl rfl (Eu (Ent.p3 (Ent.drop (Ent.p2 (Ent.cv (congrArg (ow I8 [_]) (show ((grI l d4 r).1) ++ [((g : Int), D5 l d4[g] (grV l d4 r))] = (grI l d4 (r + 1)).1 from by first | exact sg1 pa om q37 q41 | exact sg2 pa om q37 q41 | exact sg3 pa om q37 q41 | exact congrArg (fun z => z.1) (se1 pa om) | exact se2 pa om | exact congrArg (fun z => z.1.map fun x => x.1) (se1 pa om))) (Ent.p1 (Ent.cv (congrArg (ow eIs [_]) (show a0e (grV l d4 r) d4[g] = grV l d4 (r + 1) from by first | exact sg1 pa om q37 q41 | exact sg2 pa om q37 q41 | exact sg3 pa om q37 q41 | exact congrArg (fun z => z.1) (se1 pa om) | exact se2 pa om | exact congrArg (fun z => z.1.map fun x => x.1) (se1 pa om))) (Ent.p2 (Ent.cv (congrArg (ow eIs [_]) (show (((grI l d4 r).1).map (fun x => x.1)) ++ [(g : Int)] = ((grI l d4 (r + 1)).1).map (fun x => x.1) from by first | exact sg1 pa om q37 q41 | exact sg2 pa om q37 q41 | exact sg3 pa om q37 q41 | exact congrArg (fun z => z.1) (se1 pa om) | exact se2 pa om | exact congrArg (fun z => z.1.map fun x => x.1) (se1 pa om))) (Ent.p3 (Ent.p3 (Ent.p3 (Ent.p3 ?_)))))))))))))))))))))))))
     exact Ea (r + 1, p49.1, (((grI l d4 r).1).length + 1), p49.2, a60, (a0e (grV l d4 r) d4[g]).length, c60, p53.1, ((((grI l d4 r).1).map (fun x => x.1)).length + 1), p53.2) ⟨oz, trivial⟩
   ·refine Emv rfl rfl (Es rfl (Es rfl (Es rfl (Es rfl (Ey rfl ((Y.pkf rfl rfl).yd) (Eu (E.cf rfl (E.skipc (E.bln (Et (Ez Z3 (Emv rfl rfl (Ey rfl ((Y.add rfl rfl om om).yd) (Eas rfl rfl (Eu (Ent.p3 (Ent.p3 (Ent.p3 (Ent.p3 ?_)))))))))))))))))))
    exact Ea (g + 1, aA1_0, ((grI l d4 r).1).length, cA1_0, aA1_1, (grV l d4 r).length, cA1_1, aA1_2, (((grI l d4 r).1).map (fun x => x.1)).length, cA1_2) ⟨oz, (show sgI l d4 r (g + 1) from by first | exact b1m pa om q37 | exact b1n pa om q41)⟩
  ·refine Eu (E.cf rfl (E.exit (E.the (E.the (E.blh (E.bln (Et (Ez Z3 (Emv rfl rfl (Ey rfl ((Y.add rfl rfl om om).yd) (Eas rfl rfl (Eu (Ent.p2 (Ent.cv (congrArg (ow I8 [_]) (show (grI l d4 r).1 = (grI l d4 (r + 1)).1 from by first | exact sg1 pa om q37 q41 | exact sg2 pa om q37 q41 | exact sg3 pa om q37 q41 | exact congrArg (fun z => z.1) (se1 pa om) | exact se2 pa om | exact congrArg (fun z => z.1.map fun x => x.1) (se1 pa om))) (Ent.p2 (Ent.cv (congrArg (ow eIs [_]) (show grV l d4 r = grV l d4 (r + 1) from by first | exact sg1 pa om q37 q41 | exact sg2 pa om q37 q41 | exact sg3 pa om q37 q41 | exact congrArg (fun z => z.1) (se1 pa om) | exact se2 pa om | exact congrArg (fun z => z.1.map fun x => x.1) (se1 pa om))) (Ent.p2 (Ent.cv (congrArg (ow eIs [_]) (show ((grI l d4 r).1).map (fun x => x.1) = ((grI l d4 (r + 1)).1).map (fun x => x.1) from by first | exact sg1 pa om q37 q41 | exact sg2 pa om q37 q41 | exact sg3 pa om q37 q41 | exact congrArg (fun z => z.1) (se1 pa om) | exact se2 pa om | exact congrArg (fun z => z.1.map fun x => x.1) (se1 pa om))) (Ent.p3 (Ent.p3 (Ent.p3 (Ent.p3 ?_))))))))))))))))))))))
   exact Ea (r + 1, aA1_0, ((grI l d4 r).1).length, cA1_0, aA1_1, (grV l d4 r).length, cA1_1, aA1_2, (((grI l d4 r).1).map (fun x => x.1)).length, cA1_2) ⟨oz, trivial⟩
 ·refine Eu (E.cf rfl (E.exit (E.the (E.the (E.blh (Et (Ew Z2 (Emv rfl rfl (Eas rfl rfl (Eu (E.ret (Ent.p2 (Ent.cv (congrArg (ow I8 [_]) (show _ = (grF l d4).1 by rw [show r = d4.length from by omega]; rfl)) ?_)))))))))))))
  exact Fg rfl rfl (_, _, _) rfl rfl
end Go.Proofs.YtdopeopehgdccaaGreat
