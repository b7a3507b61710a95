import Derived.Test.YtdopeopehgdccaaGreatBs
import Derived.Test.YtdopeopehgdccaaGreatT6
import Derived.Test.YtdopeopehgdccaaGreatT85
namespace Go.Proofs.YtdopeopehgdccaaGreat
open Go.RowKit
set_option linter.all false
set_option maxHeartbeats 2000000
attribute [local irreducible] Nop Yd Yp Ent Has Tr FnP FnP2 Src M5 V6 Y1 a0b D2
variable {j5 method : Int} {l : List (Int × List Int × Int × Int × Int)} {log : List (Int × List Int)} {f5 j4 f9 : List Int} {s6 o3 y7 v8 o2 l3 m_l c_l m_log c_log : Nat} {o4 w3 l4 a_l a_log : Option Addr}
theorem a1u {x9 : Int} {w5 : Option Addr} {y6 w4 : Nat} {l2 : List Int} {u8 : Int} {x7 : Int} {u9 : Int} (hi : ∀ i ∈ l2, 0 ≤ i ∧ i.toNat < f5.length) (hl3 : l2.length ≤ 1000) : Tr Tryz.prog 84 [.agg #[.int .i64 x9, .slice w5 y6 w4, .int .i64 u8, .int .i64 x7, .int .i64 u9], .agg #[.int .i64 j5, .slice o4 s6 o3], .agg #[.slice w3 y7 v8, .slice l4 o2 l3]] (fun w L => I64 x9 ∧ Ro w L eIs [.slice w5 y6 w4] l2 ∧ I64 u8 ∧ I64 x7 ∧ I64 u9 ∧ I64 j5 ∧ Ro w L eIs [.slice o4 s6 o3] f5 ∧ Ro w L eIs [.slice w3 y7 v8] j4 ∧ Ro w L eIs [.slice l4 o2 l3] f9) [] (κ := Option Addr × Nat × Nat) (fun k => True) (fun k => .slice k.1 k.2.1 k.2.2) (fun k => [ow eIs [.slice k.1 k.2.1 k.2.2] (U8 (x9, l2, u8, x7, u9) (j5, f5) (j4, f9))]) := by
 refine Tr.intro Tryz.func84 rfl (n := 32) rfl (by decide +kernel) bl (fr := [(0, .agg #[.int .i64 x9, .slice w5 y6 w4, .int .i64 u8, .int .i64 x7, .int .i64 u9]), (1, .agg #[.int .i64 j5, .slice o4 s6 o3]), (2, .agg #[.slice w3 y7 v8, .slice l4 o2 l3])]) rfl fun w L hR => ?_
 obtain ⟨U5, B4, N7, R1, N8, E4, v6, B0, r6⟩ := hR
 obtain ⟨rfl, U7⟩ := B4.slen
 obtain ⟨rfl, K3⟩ := v6.slen
 obtain ⟨rfl, W3⟩ := B0.slen
 obtain ⟨rfl, G7⟩ := r6.slen
 have jv := r6.i64
 have jw := v6.i64
 refine Ew Z4 (Est rfl (N.box (cs := [_, _, _, _, _]) rfl dc rfl) (fun b3 _ => (Est rfl (N.box (cs := [_, _]) rfl dc rfl) (fun b4 _ => (Est rfl (N.box (cs := [_, _]) rfl dc rfl) (fun b5 _ => (Eas rfl rfl (Ev Z2 (Est rfl (N.bsl (pvs := []) (cs := []) us_Is f8 rfl dc dc (o8 rfl rfl) rfl dc) (fun b9 _ => (Ent.drop (Eas rfl rfl (Eu (Eq_ (Ew Z1 (Eas rfl rfl (Eu (E.block (Ent.mkow (A := []) (Own.nil (E := Enc.int) (e := tI) (a := (some ⟨b9, 0, none⟩))) rfl (Ent.cv (congrArg (ow eIs [_]) (show [] = (l2.take 0).map (fun i => B7 (j4, f9) (at0 f5 i)) from by rfl)) (E.loop (κ := Nat × Option Addr × Nat × Nat) (fun g => g.1 ≤ l2.length ∧ True) (fun g => [(3, .pointer (some ⟨b3, 0, none⟩)), (4, .pointer (some ⟨b4, 0, none⟩)), (5, .pointer (some ⟨b5, 0, none⟩)), (7, .slice g.2.1 g.2.2.1 g.2.2.2), (8, .int .i64 (↑g.1 : Int))]) (fun g => [ow eIs [.slice g.2.1 g.2.2.1 g.2.2.2] ((l2.take g.1).map (fun i => B7 (j4, f9) (at0 f5 i))), pt b5 125 [.slice w3 j4.length v8, .slice l4 f9.length l3], pt b4 128 [.int .i64 j5, .slice o4 f5.length o3], pt b3 113 [.int .i64 x9, .slice w5 l2.length w4, .int .i64 u8, .int .i64 x7, .int .i64 u9]]) (fun g => l2.length - g.1) (0, (some ⟨b9, 0, none⟩), 0, 0) ⟨Nat.zero_le _, by simp⟩ ⟨rfl, rfl, rfl, rfl, rfl, trivial⟩ (.refl _) (fun g pg => ?_))))))))))))))))))))))
 obtain ⟨g, aA0_0, mA0_0, cA0_0⟩ := g
 try dsimp only at pg
 try dsimp only
 obtain ⟨pk, pa⟩ := pg
 have jt := List.length_take_le g l2
 refine Ent.lenow m0 fun eaA0_0 laA0_0 => ?_
 subst eaA0_0
 refine Eq_ (Ew Z5 (Emv rfl rfl (Ey rfl ((Y.fld fo_Method_1 ty_Is dc rfl).yd) (Ey rfl (Y.ld1 ty_Is rfl ((Has.pt (mS (mS (mS m0)))).sub (cs' := [_]) 1 rfl) rfl) (Ey rfl ((Y.len us_Is rfl).yd) (Ey rfl ((Y.lss rfl rfl).yd) (Ent.d (fun q14 => ?_) (fun q14 => ?_))))))))
 ·refine Eu (E.ct rfl (E.skipc (Et (Eq_ (E.block (D.region (fun j => !(Nat.beq j 13)) mixed (Dyp 0 rfl (Y.mv rfl) (Dy 1 rfl (Y.ldS (cs := [_, _]) ty_Binding rfl (Has.pt (mS m0)) rfl) (Dyp 2 rfl (Y.fld fo_Atom_1 ty_Is dc rfl) (Dy 3 rfl (Y.ld1 ty_Is rfl ((Has.pt (mS (mS m0))).sub (cs' := [_]) 1 rfl) rfl) (Dyp 4 rfl (Y.fld fo_Method_1 ty_Is dc rfl) (Dy 5 rfl (Y.ld1 ty_Is rfl ((Has.pt (mS (mS (mS m0)))).sub (cs' := [_]) 1 rfl) rfl) (Dyp 6 rfl (Y.mv rfl) ?_)))))))))))))
  obtain ⟨eb24, eo24, ea24, ei24, eh24⟩ := B4.elemI g om
  refine Dyp 7 rfl (Y.ix us_Is f8 rfl ea24 rfl g rfl om) (Dy 8 rfl (Y.ld1 f8 rfl (eh24 _) rfl) ?_)
  have jx := hi _ (List.getElem_mem (show g < l2.length by omega))
  obtain ⟨eb26, eo26, ea26, ei26, eh26⟩ := v6.elemI l2[g].toNat om
  refine Dyp 9 rfl (Y.ix us_Is f8 rfl ea26 rfl l2[g].toNat om om) (Dy 10 rfl (Y.ld1 f8 rfl (eh26 _) rfl) (D.st 11 rfl rfl kr (fun _ => rfl) (N.call0 a0Q rfl rfl rfl dc (fun w Lp hA => ⟨hA.ro B0, hA.ro r6⟩)) (fun _ _ => ?_)))
  have jy := a2m (b := (j4, f9)) (jw f5[l2[g].toNat] (List.getElem_mem om)) jv
  refine D.st 12 rfl rfl kr (fun _ => rfl) (N.bsl (pvs := [_]) (cs := [_]) us_Is f8 rfl dc dc (o8 rfl rfl) rfl dc) (fun b29 _ => (Ent.p1 (D.st 13 rfl rfl kr (fun h => by cases h) (N.push (E := Enc.int) (ex := B7 (j4, f9) (f5[l2[g].toNat])) us_Is f8 rfl rfl rfl (Own.int i6) rfl bn bn dc) (fun p30 _ => (Dyp 14 rfl (Y.as rfl) (D.done kr (E.bln (Et (Ez Z3 (Emv rfl rfl (Ey rfl ((Y.add rfl rfl om om).yd) (Eas rfl rfl (Eu (Ent.cv (congrArg (ow eIs [_]) (show ((l2.take g).map (fun i => B7 (j4, f9) (at0 f5 i))) ++ [B7 (j4, f9) (f5[l2[g].toNat])] = (l2.take (g + 1)).map (fun i => B7 (j4, f9) (at0 f5 i)) from by exact a7C (a := (j5, f5)) om om)) (Ent.p3 (Ent.p3 (Ent.p3 (Ent.p3 ?_))))))))))))))))))
  exact Ea (g + 1, p30.1, (((l2.take g).map (fun i => B7 (j4, f9) (at0 f5 i))).length + 1), p30.2) ⟨oz, trivial⟩
 ·refine Eu (E.cf rfl (E.exit (E.the (E.the (E.blh (Et (Ew Z2 (Emv rfl rfl (Eas rfl rfl (Eu (E.ret (Ent.cv (congrArg (ow eIs [_]) (show _ = U8 (x9, l2, u8, x7, u9) (j5, f5) (j4, f9) by rw [show g = l2.length from by omega, List.take_length]; rfl)) ?_))))))))))))
  exact Fg rfl rfl (_, _, _) rfl rfl
theorem a1p (hm : 0 ≤ method ∧ method.toNat < l.length) (hi : ∀ i ∈ (atM l method).2.1, 0 ≤ i ∧ i.toNat < f5.length) (hl3 : (atM l method).2.1.length ≤ 1000) : Tr Tryz.prog 124 [.slice a_l m_l c_l, .int .i64 method, .agg #[.int .i64 j5, .slice o4 s6 o3], .agg #[.slice w3 y7 v8, .slice l4 o2 l3]] (fun w L => Ro w L z8 [.slice a_l m_l c_l] l ∧ I64 j5 ∧ Ro w L eIs [.slice o4 s6 o3] f5 ∧ Ro w L eIs [.slice w3 y7 v8] j4 ∧ Ro w L eIs [.slice l4 o2 l3] f9) [] (κ := Option Addr × Nat × Nat) (fun k => True) (fun k => .agg #[.int .i64 method, .slice k.1 k.2.1 k.2.2]) (fun k => [ow eIs [.slice k.1 k.2.1 k.2.2] (U8 (atM l method) (j5, f5) (j4, f9))]) := by
 refine Tr.intro Tryz.func124 rfl (n := 39) rfl (by decide +kernel) bl (fr := [(0, .slice a_l m_l c_l), (1, .int .i64 method), (2, .agg #[.int .i64 j5, .slice o4 s6 o3]), (3, .agg #[.slice w3 y7 v8, .slice l4 o2 l3])]) rfl fun w L hR => ?_
 obtain ⟨hl, E4, v6, B0, r6⟩ := hR
 obtain ⟨rfl, ll⟩ := hl.slen
 obtain ⟨rfl, K3⟩ := v6.slen
 obtain ⟨rfl, W3⟩ := B0.slen
 obtain ⟨rfl, G7⟩ := r6.slen
 have jv := r6.i64
 have jw := v6.i64
 rw [H2 hm.2] at hi hl3
 refine Ew Z3 (Est rfl (N.box (cs := [_, _]) rfl dc rfl) (fun b6 _ => (Est rfl (N.box (cs := [_, _]) rfl dc rfl) (fun b7 _ => (Est rfl (N.alloc ty_Access dc) (fun b8 _ => (Ev Z5 (Emv rfl rfl (Est rfl (N.bsl (pvs := []) (cs := []) us_Is f8 rfl dc dc (o8 rfl rfl) rfl dc) (fun b13 _ => (Ent.drop (Ey rfl ((Y.bld (pvs := [_, _]) (cs := [_, _]) ty_Access a3c rfl rfl).yd) (Est rfl (N.alloc ty_Access dc) (fun b9 _ => (Est rfl (N.sto (vs := [_, _]) (cs' := [_, _]) ty_Access rfl rfl rfl rfl rfl bl rfl) (fun _ _ => (Eu (Eq_ (Ew Z7 (Emv rfl rfl (Emv rfl rfl ?_)))))))))))))))))))))
 obtain ⟨eb17, eo17, ec17, ea17, er17, el17, eh17⟩ := hl.elem method.toNat om
 obtain ⟨xa17_0, xc17_0, rfl, ei17_0, xh17_0, ei17_2, ei17_3, ei17_4⟩ := Ro.pMethod er17
 have := xh17_0.slen.2
 refine Ey rfl ((Y.ix us_Methods ty_Method rfl ea17 rfl method.toNat om om).yd) (Ey rfl ((Y.fld fo_Method_1 ty_Is dc rfl).yd) (Ey rfl (Y.ld1 ty_Is rfl ((eh17 _).sub (cs' := [_]) 1 rfl) rfl) (Ey rfl ((Y.len us_Is rfl).yd) (Emv rfl rfl (Eu (E.block (Ent.mkow (A := []) (Own.nil (E := Enc.int) (e := tI) (a := (some ⟨b13, 0, none⟩))) rfl (Ent.cv (congrArg (ow eIs [_]) (show [] = (l[method.toNat].2.1.take 0).map (fun i => B7 (j4, f9) (at0 f5 i)) from by rfl)) (E.loop (κ := Nat × Option Addr × Nat × Nat) (fun g => g.1 ≤ l[method.toNat].2.1.length ∧ True) (fun g => [(6, .pointer (some ⟨b6, 0, none⟩)), (7, .pointer (some ⟨b7, 0, none⟩)), (8, .pointer (some ⟨b8, 0, none⟩)), (9, .pointer (some ⟨b9, 0, none⟩)), (19, .slice xa17_0 l[method.toNat].2.1.length xc17_0), (20, .int .i64 (↑l[method.toNat].2.1.length : Int)), (21, .int .i64 (↑g.1 : Int))]) (fun g => [ow eIs [.slice g.2.1 g.2.2.1 g.2.2.2] ((l[method.toNat].2.1.take g.1).map (fun i => B7 (j4, f9) (at0 f5 i))), pt b9 133 [.int .i64 method, .slice g.2.1 g.2.2.1 g.2.2.2], pt b8 133 [.int .i64 0, .slice none 0 0], pt b7 125 [.slice w3 j4.length v8, .slice l4 f9.length l3], pt b6 128 [.int .i64 j5, .slice o4 f5.length o3]]) (fun g => l[method.toNat].2.1.length - g.1) (0, (some ⟨b13, 0, none⟩), 0, 0) ⟨Nat.zero_le _, by simp⟩ ⟨rfl, rfl, rfl, rfl, rfl, rfl, rfl, trivial⟩ (.refl _) (fun g pg => ?_))))))))))
 obtain ⟨g, aA0_0, mA0_0, cA0_0⟩ := g
 try dsimp only at pg
 try dsimp only
 obtain ⟨pk, pa⟩ := pg
 have jt := List.length_take_le g l[method.toNat].2.1
 refine Ent.lenow m0 fun eaA0_0 laA0_0 => ?_
 subst eaA0_0
 refine Ew Z1 (Ey rfl ((Y.lss rfl rfl).yd) (Ent.d (fun q22 => ?_) (fun q22 => ?_)))
 ·obtain ⟨eb23, eo23, ea23, ei23, eh23⟩ := xh17_0.elemI g om
  refine Eu (Eq_ (E.ct rfl (E.skipc (Et (Eq_ (E.block (Ew Z3 (Ey rfl ((Y.ix us_Is f8 rfl ea23 rfl g rfl om).yd) (Ey rfl (Y.ld1 f8 rfl (eh23 _) rfl) (Eas rfl rfl (Eu (D.region (fun j => !(Nat.beq j 10) && !(Nat.beq j 12)) mixed (Dyp 0 rfl (Y.fld fo_Access_1 ty_Is dc rfl) (Dy 1 rfl (Y.ld1 ty_Is rfl ((Has.pt (mS m0)).sub (cs' := [_]) 1 rfl) rfl) (Dy 2 rfl (Y.ldS (cs := [_, _]) ty_Binding rfl (Has.pt (mS (mS (mS m0)))) rfl) (Dyp 3 rfl (Y.fld fo_Atom_1 ty_Is dc rfl) (Dy 4 rfl (Y.ld1 ty_Is rfl ((Has.pt (mS (mS (mS (mS m0))))).sub (cs' := [_]) 1 rfl) rfl) (Dyp 5 rfl (Y.mv rfl) ?_))))))))))))))))))
  have jx := hi _ (List.getElem_mem (show g < l[method.toNat].2.1.length by omega))
  obtain ⟨eb31, eo31, ea31, ei31, eh31⟩ := v6.elemI l[method.toNat].2.1[g].toNat om
  refine Dyp 6 rfl (Y.ix us_Is f8 rfl ea31 rfl l[method.toNat].2.1[g].toNat om om) (Dy 7 rfl (Y.ld1 f8 rfl (eh31 _) rfl) (D.st 8 rfl rfl kr (fun _ => rfl) (N.call0 V9 rfl rfl rfl dc (fun w Lp hA => ⟨hA.ro B0, hA.ro r6⟩)) (fun _ _ => ?_)))
  have jy := a2m (b := (j4, f9)) (jw f5[l[method.toNat].2.1[g].toNat] (List.getElem_mem om)) jv
  refine D.st 9 rfl rfl kr (fun _ => rfl) (N.bsl (pvs := [_]) (cs := [_]) us_Is f8 rfl dc dc (o8 rfl rfl) rfl dc) (fun b34 _ => (Ent.p1 (D.st 10 rfl rfl kr (fun h => by cases h) (N.push (E := Enc.int) (ex := B7 (j4, f9) (f5[l[method.toNat].2.1[g].toNat])) us_Is f8 rfl rfl rfl (Own.int i6) rfl bn bn dc) (fun p35 _ => (Dyp 11 rfl (Y.fld fo_Access_1 ty_Is dc rfl) (Ent.p1 (D.st 12 rfl rfl kr (fun h => by cases h) (N.sto (vs := [_]) (cs' := [_, _]) ty_Is rfl rfl rfl rfl rfl bl rfl) (fun _ _ => (D.done kr (E.bln (Et (Ez Z2 (Ey rfl ((Y.add rfl rfl om om).yd) (Emv rfl rfl (Eu (Ent.p1 (Ent.cv (congrArg (ow eIs [_]) (show ((l[method.toNat].2.1.take g).map (fun i => B7 (j4, f9) (at0 f5 i))) ++ [B7 (j4, f9) (f5[l[method.toNat].2.1[g].toNat])] = (l[method.toNat].2.1.take (g + 1)).map (fun i => B7 (j4, f9) (at0 f5 i)) from by exact a7C (a := (j5, f5)) om om)) (Ent.p4 (Ent.p4 (Ent.p4 (Ent.p4 (Ent.p4 ?_))))))))))))))))))))))
  exact Ea (g + 1, p35.1, (((l[method.toNat].2.1.take g).map (fun i => B7 (j4, f9) (at0 f5 i))).length + 1), p35.2) ⟨oz, trivial⟩
 ·refine Eu (Eq_ (E.cf rfl (E.exit (E.the (E.the (E.blh (Et (Ew Z2 (Ey rfl (Y.ldS (cs := [_, _]) ty_Access rfl (Has.pt (mS m0)) rfl) (Ent.p2 (Est rfl (N.sto (vs := [_, _]) (cs' := [_, _]) ty_Access rfl rfl rfl rfl rfl bl rfl) (fun _ _ => (Eu (E.ret (Ent.p1 (Ent.cv (congrArg (ow eIs [_]) (show _ = U8 (atM l method) (j5, f5) (j4, f9) by rw [show g = l[method.toNat].2.1.length from by omega, List.take_length, U8, H2 hm.2])) ?_))))))))))))))))
  exact F.c1 br rfl rfl (mS m0) ty_Access rfl (_, _, _) trivial rfl (J := _) (.refl _) (.inl rfl)
theorem a6z : Tr Tryz.prog 257 [.slice a_l m_l c_l, .int .i64 method] (fun w L => Ro w L z8 [.slice a_l m_l c_l] l ∧ I64 method) [] (κ := Unit) (fun k => True) (fun k => .int .i64 (V4 l method)) (fun k => []) := by
 refine Tr.intro Tryz.func257 rfl (n := 25) rfl (by decide +kernel) bl (fr := [(0, .slice a_l m_l c_l), (1, .int .i64 method)]) rfl fun w L hR => ?_
 obtain ⟨hl, i6method⟩ := hR
 obtain ⟨rfl, ll⟩ := hl.slen
 refine Ew Z1 (Eas rfl rfl (Eu (Eq_ (Ew Z15 (Emv rfl rfl (Emv rfl rfl (Ey rfl ((Y.len us_Methods rfl).yd) (Ey rfl ((Y.sub rfl rfl om om).yd) (Est rfl (N.call0 E6 rfl rfl rfl dc (fun w Lp hA => trivial)) (fun _ _ => (Ent.b (fun q9 => ?_) (fun q9 => ?_))))))))))))
 ·have zz := O1 q9
  refine Ey rfl ((Y.not (b := true) rfl).yd) (Emv rfl rfl (Emv rfl rfl (Emv rfl rfl ?_)))
  obtain ⟨eb14, eo14, ec14, ea14, er14, el14, eh14⟩ := hl.elem method.toNat om
  obtain ⟨xa14_0, xc14_0, rfl, ei14_0, xh14_0, ei14_2, ei14_3, ei14_4⟩ := Ro.pMethod er14
  have := xh14_0.slen.2
  refine Ey rfl ((Y.ix us_Methods ty_Method rfl ea14 rfl method.toNat om om).yd) (Ey rfl ((Y.fld fo_Method_3 f8 dc rfl).yd) (Ey rfl (Y.ld1 f8 rfl ((eh14 _).sub (cs' := [_]) 3 rfl) rfl) (Est rfl (N.call0 a2F rfl rfl rfl dc (fun w Lp hA => trivial)) (fun _ _ => (Ent.b (fun q17 => ?_) (fun q17 => ?_))))))
  ·refine Ey rfl ((Y.not (b := true) rfl).yd) (Ey rfl ((Y.pkf rfl rfl).yd) (Eu (E.cf rfl (E.skipc (Et (Ew Z6 (Emv rfl rfl (Emv rfl rfl (Ey rfl ((Y.ix us_Methods ty_Method rfl ea14 rfl method.toNat om om).yd) (Ey rfl ((Y.fld fo_Method_3 f8 dc rfl).yd) (Ey rfl (Y.ld1 f8 rfl ((eh14 _).sub (cs' := [_]) 3 rfl) rfl) (Eas rfl rfl ?_))))))))))))
   exact Eu (E.ret (Fg rfl rfl () (congrArg (Value.int .i64) (by exact a2h q9 om q17)) rfl))
  ·refine Ey rfl ((Y.not (b := false) rfl).yd) (Ey rfl ((Y.pkf rfl rfl).yd) (Eu (E.ct rfl (Ew Z1 (Eas rfl rfl ?_)))))
   exact Eu (E.ret (E.thr (Fg rfl rfl () (congrArg (Value.int .i64) (by exact a2l om q17)) rfl)))
 ·refine Ey rfl ((Y.not (b := false) rfl).yd) (Emv rfl rfl (Es rfl (Es rfl (Es rfl (Es rfl (Es rfl (Es rfl (Es rfl (Ey rfl ((Y.pkt rfl rfl).yd) (Eu (E.ct rfl (Ew Z1 (Eas rfl rfl ?_)))))))))))))
  exact Eu (E.ret (E.thr (Fg rfl rfl () (congrArg (Value.int .i64) (by exact a2f q9)) rfl)))
theorem a5L (hlg : log.length ≤ 1000000000000) : Tr Tryz.prog 181 [.slice a_l m_l c_l, .slice a_log m_log c_log] (fun w L => Ro w L z8 [.slice a_l m_l c_l] l ∧ Ro w L t7 [.slice a_log m_log c_log] log) [] (κ := Unit) (fun k => True) (fun k => .int .i64 (P6 l log)) (fun k => []) := by
 refine Tr.intro Tryz.func181 rfl (n := 22) rfl (by decide +kernel) bl (fr := [(0, .slice a_l m_l c_l), (1, .slice a_log m_log c_log)]) rfl fun w L hR => ?_
 obtain ⟨hl, hlog⟩ := hR
 obtain ⟨rfl, ll⟩ := hl.slen
 obtain ⟨rfl, llog⟩ := hlog.slen
 refine Ew Z1 (Eas rfl rfl (Ev Z1 (Eas rfl rfl (Eu (Eq_ (Ew Z3 (Emv rfl rfl (Ey rfl ((Y.len us_Accesss rfl).yd) (Emv rfl rfl (Eu (E.block (E.loop (κ := Nat) (fun g => g ≤ log.length ∧ True) (fun g => [(0, .slice a_l l.length c_l), (5, .int .i64 (P6 l (log.take g))), (8, .slice a_log log.length c_log), (9, .int .i64 (↑log.length : Int)), (10, .int .i64 (g : Int))]) (fun g => []) (fun g => log.length - g) (0) ⟨Nat.zero_le _, by simp⟩ ⟨rfl, frI (by rfl), rfl, rfl, rfl, trivial⟩ (.refl _) (fun g pg => ?_)))))))))))))
 try dsimp only
 obtain ⟨pk, pa⟩ := pg
 have jc := a3X (l := l) (log := log.take g)
 have jt := List.length_take_le g log
 refine Ew Z1 (Ey rfl ((Y.lss rfl rfl).yd) (Ent.d (fun q11 => ?_) (fun q11 => ?_)))
 ·obtain ⟨eb12, eo12, ec12, ea12, er12, el12, eh12⟩ := hlog.elem g om
  obtain ⟨xa12_0, xc12_0, rfl, ei12_0, xh12_0⟩ := Ro.pAccess er12
  have := xh12_0.slen.2
  refine Eu (Eq_ (E.ct rfl (E.skipc (Et (Eq_ (E.block (Ew Z4 (Ey rfl ((Y.ix us_Accesss ty_Access rfl ea12 rfl g rfl om).yd) (Ey rfl (Y.ldS (cs := [_, _]) ty_Access rfl (eh12 _) rfl) (Est rfl (N.alloc ty_Access dc) (fun b7 _ => (Est rfl (N.sto (vs := [_, _]) (cs' := [_, _]) ty_Access rfl rfl rfl rfl rfl bl rfl) (fun _ _ => (Eu (Ez Z7 (Emv rfl rfl (Emv rfl rfl (Ey rfl ((Y.fld fo_Access_0 f8 dc rfl).yd) (Ey rfl (Y.ld1 f8 rfl ((Has.pt m0).sub (cs' := [_]) 0 rfl) rfl) (Est rfl (N.call0 a6z rfl rfl rfl dc (fun w Lp hA => ⟨hA.ro hl, ei12_0⟩)) (fun _ _ => ?_)))))))))))))))))))))
  have jm := a7I (l := l) (m := log[g].1)
  refine Ey rfl ((Y.add rfl rfl om om).yd) (Eas rfl rfl (En (E.bln (Et (Ez Z2 (Ey rfl ((Y.add rfl rfl om om).yd) (Emv rfl rfl (Eu (Ent.drop ?_)))))))))
  exact E.again br (g + 1) ⟨rfl, frI (by exact a0G om), rfl, rfl, rfl, trivial⟩ (.refl _) ⟨oz, trivial⟩ oz
 ·refine Eu (Eq_ (E.cf rfl (E.exit (E.the (E.the (E.blh (Et (Ew Z2 (Emv rfl rfl (Eas rfl rfl ?_))))))))))
  exact Eu (E.ret (Fg rfl rfl () (congrArg (Value.int .i64) (by rw [List.take_of_length_le om])) rfl))
theorem a5m (hlg : log.length ≤ 1000000000000) : Tr Tryz.prog 90 [.slice a_l m_l c_l, .slice a_log m_log c_log] (fun w L => Ro w L z8 [.slice a_l m_l c_l] l ∧ Ro w L t7 [.slice a_log m_log c_log] log) [] (κ := Unit) (fun k => True) (fun k => .int .i64 (P6 l log)) (fun k => []) := by
 refine Tr.intro Tryz.func90 rfl (n := 46) rfl (by decide +kernel) bl (fr := [(0, .slice a_l m_l c_l), (1, .slice a_log m_log c_log)]) rfl fun w L hR => ?_
 obtain ⟨hl, hlog⟩ := hR
 obtain ⟨rfl, ll⟩ := hl.slen
 obtain ⟨rfl, llog⟩ := hlog.slen
 refine Ew Z1 (Eas rfl rfl (Ev Z1 (Eas rfl rfl (Eu (Eq_ (Ew Z1 (Eas rfl rfl (Eu (E.block (E.loop (κ := Nat) (fun g => g ≤ log.length ∧ True) (fun g => [(0, .slice a_l l.length c_l), (1, .slice a_log log.length c_log), (5, .int .i64 (P6 l (log.take g))), (6, .int .i64 (g : Int))]) (fun g => []) (fun g => log.length - g) (0) ⟨Nat.zero_le _, by simp⟩ ⟨rfl, rfl, frI (by rfl), rfl, trivial⟩ (.refl _) (fun g pg => ?_)))))))))))
 try dsimp only
 obtain ⟨pk, pa⟩ := pg
 have jc := a3X (l := l) (log := log.take g)
 have jt := List.length_take_le g log
 refine Eq_ (Ew Z4 (Emv rfl rfl (Emv rfl rfl (Ey rfl ((Y.len us_Accesss rfl).yd) (Ey rfl ((Y.lss rfl rfl).yd) (Ent.d (fun q10 => ?_) (fun q10 => ?_)))))))
 ·refine Eu (E.ct rfl (E.skipc (Et (Eq_ (E.block (Ew Z21 (Emv rfl rfl (Emv rfl rfl ?_))))))))
  obtain ⟨eb15, eo15, ec15, ea15, er15, el15, eh15⟩ := hlog.elem g om
  obtain ⟨xa15_0, xc15_0, rfl, ei15_0, xh15_0⟩ := Ro.pAccess er15
  have := xh15_0.slen.2
  refine Ey rfl ((Y.ix us_Accesss ty_Access rfl ea15 rfl g rfl om).yd) (Ey rfl ((Y.fld fo_Access_0 f8 dc rfl).yd) (Ey rfl (Y.ld1 f8 rfl ((eh15 _).sub (cs' := [_]) 0 rfl) rfl) (Emv rfl rfl (Ey rfl ((Y.len us_Methods rfl).yd) (Ey rfl ((Y.sub rfl rfl om om).yd) (Est rfl (N.call0 D4 rfl rfl rfl dc (fun w Lp hA => trivial)) (fun _ _ => (Ent.b (fun q21 => ?_) (fun q21 => ?_)))))))))
  ·have zz := O1 q21
   refine Emv rfl rfl (Emv rfl rfl (Emv rfl rfl (Emv rfl rfl (Ey rfl ((Y.ix us_Accesss ty_Access rfl ea15 rfl g rfl om).yd) (Ey rfl ((Y.fld fo_Access_0 f8 dc rfl).yd) (Ey rfl (Y.ld1 f8 rfl ((eh15 _).sub (cs' := [_]) 0 rfl) rfl) ?_))))))
   obtain ⟨eb29, eo29, ec29, ea29, er29, el29, eh29⟩ := hl.elem log[g].1.toNat om
   obtain ⟨xa29_0, xc29_0, rfl, ei29_0, xh29_0, ei29_2, ei29_3, ei29_4⟩ := Ro.pMethod er29
   have := xh29_0.slen.2
   refine Ey rfl ((Y.ix us_Methods ty_Method rfl ea29 rfl log[g].1.toNat om om).yd) (Ey rfl ((Y.fld fo_Method_3 f8 dc rfl).yd) (Ey rfl (Y.ld1 f8 rfl ((eh29 _).sub (cs' := [_]) 3 rfl) rfl) (Est rfl (N.call0 D4 rfl rfl rfl dc (fun w Lp hA => trivial)) (fun _ _ => (Ent.b (fun q32 => ?_) (fun q32 => ?_))))))
   ·have zy := O1 q32
    refine Ey rfl ((Y.pkt rfl rfl).yd) (Eu (E.ct rfl (Ez Z12 (Emv rfl rfl (Emv rfl rfl (Emv rfl rfl (Emv rfl rfl (Ey rfl ((Y.ix us_Accesss ty_Access rfl ea15 rfl g rfl om).yd) (Ey rfl ((Y.fld fo_Access_0 f8 dc rfl).yd) (Ey rfl (Y.ld1 f8 rfl ((eh15 _).sub (cs' := [_]) 0 rfl) rfl) (Ey rfl ((Y.ix us_Methods ty_Method rfl ea29 rfl log[g].1.toNat om om).yd) (Ey rfl ((Y.fld fo_Method_3 f8 dc rfl).yd) (Ey rfl (Y.ld1 f8 rfl ((eh29 _).sub (cs' := [_]) 3 rfl) rfl) (Ey rfl ((Y.add rfl rfl om om).yd) (Eas rfl rfl (En (E.bln (Et (Ez Z3 (Emv rfl rfl (Ey rfl ((Y.add rfl rfl om om).yd) (Eas rfl rfl ?_))))))))))))))))))))))
    exact Eu (E.again br (g + 1) ⟨rfl, rfl, frI (by first | exact a0f om (a2f q21) | exact a0f om (a2l om q32) | (rw [a2h q21 om q32]; exact a0G om)), rfl, trivial⟩ (.refl _) ⟨oz, trivial⟩ oz)
   ·refine Ey rfl ((Y.pkt rfl rfl).yd) (Eu (E.cf rfl (E.skipc (E.bln (Et (Ez Z3 (Emv rfl rfl (Ey rfl ((Y.add rfl rfl om om).yd) (Eas rfl rfl ?_)))))))))
    exact Eu (E.again br (g + 1) ⟨rfl, rfl, frI (by first | exact a0f om (a2f q21) | exact a0f om (a2l om q32) | (rw [a2h q21 om q32]; exact a0G om)), rfl, trivial⟩ (.refl _) ⟨oz, trivial⟩ oz)
  ·refine Emv rfl rfl (Es rfl (Es rfl (Es rfl (Es rfl (Es rfl (Es rfl (Es rfl (Es rfl (Es rfl (Es rfl (Ey rfl ((Y.pkf rfl rfl).yd) (Eu (E.cf rfl (E.skipc (E.bln (Et (Ez Z3 (Emv rfl rfl (Ey rfl ((Y.add rfl rfl om om).yd) (Eas rfl rfl ?_))))))))))))))))))))
   exact Eu (E.again br (g + 1) ⟨rfl, rfl, frI (by first | exact a0f om (a2f q21) | exact a0f om (a2l om q32) | (rw [a2h q21 om q32]; exact a0G om)), rfl, trivial⟩ (.refl _) ⟨oz, trivial⟩ oz)
 ·refine Eu (E.cf rfl (E.exit (E.the (E.the (E.blh (Et (Ew Z2 (Emv rfl rfl (Eas rfl rfl ?_)))))))))
  exact Eu (E.ret (Fg rfl rfl () (congrArg (Value.int .i64) (by rw [List.take_of_length_le om])) rfl))
end Go.Proofs.YtdopeopehgdccaaGreat
