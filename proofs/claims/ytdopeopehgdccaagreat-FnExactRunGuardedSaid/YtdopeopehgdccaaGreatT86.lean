import Derived.Test.YtdopeopehgdccaaGreatT85
namespace Go.Proofs.YtdopeopehgdccaaGreat
open Go.RowKit
set_option linter.all false
set_option maxHeartbeats 2000000
attribute [local irreducible] Nop Yd Yp Ent Has Tr FnP FnP2 Src R6 a0d a0I a1c H6
variable {l0 method : Int} {l : List (Int × List Int × Int × Int × Int)} {log : List (Int × List Int)} {f7 j9 f8 : List Int} {u8 s6 D5 y7 u5 s5 m_l c_l m_log c_log : Nat} {s7 y6 s4 a_l a_log : Option Addr}
theorem a2n {D7 : Int} {B2 : Option Addr} {C8 B1 : Nat} {t6 : List Int} {z6 : Int} {C9 : Int} {z7 : Int} (hi : ∀ i ∈ t6, 0 ≤ i ∧ i.toNat < f7.length) (hl3 : t6.length ≤ 1000) : Tr Tryz.prog 84 [.agg #[.int .i64 D7, .slice B2 C8 B1, .int .i64 z6, .int .i64 C9, .int .i64 z7], .agg #[.int .i64 l0, .slice s7 u8 s6], .agg #[.slice y6 D5 y7, .slice s4 u5 s5]] (fun w L => I64 D7 ∧ Ro w L eIs [.slice B2 C8 B1] t6 ∧ I64 z6 ∧ I64 C9 ∧ I64 z7 ∧ I64 l0 ∧ Ro w L eIs [.slice s7 u8 s6] f7 ∧ Ro w L eIs [.slice y6 D5 y7] j9 ∧ Ro w L eIs [.slice s4 u5 s5] f8) [] (κ := Option Addr × Nat × Nat) (fun k => True) (fun k => .slice k.1 k.2.1 k.2.2) (fun k => [ow eIs [.slice k.1 k.2.1 k.2.2] (N7 (D7, t6, z6, C9, z7) (l0, f7) (j9, f8))]) := by
 refine n9 Tryz.func84 rfl (n := 32) rfl (by decide +kernel) bl (fr := [(0, .agg #[.int .i64 D7, .slice B2 C8 B1, .int .i64 z6, .int .i64 C9, .int .i64 z7]), (1, .agg #[.int .i64 l0, .slice s7 u8 s6]), (2, .agg #[.slice y6 D5 y7, .slice s4 u5 s5])]) rfl fun w L hR => ?_
 obtain ⟨V0, E8, P8, S2, P9, G5, x6, E0, w4⟩ := hR
 obtain ⟨rfl, Y7⟩ := E8.slen
 obtain ⟨rfl, N8⟩ := x6.slen
 obtain ⟨rfl, a0u⟩ := E0.slen
 obtain ⟨rfl, O3⟩ := w4.slen
 have jv := w4.i64
 have jw := x6.i64
 refine Ew Z4 (Est rfl (N.box (cs := [_, _, _, _, _]) rfl dc rfl) (fun b3 _ => (Est rfl (N.box (cs := [_, _]) rfl dc rfl) (fun b4 _ => (Est rfl (N.box (cs := [_, _]) rfl dc rfl) (fun b5 _ => (Ei rfl (Ev Z2 (Est rfl (Nb [] [] us_Is i8 rfl rfl) (fun b9 _ => (Ent.drop (Ei rfl (Eu (Eq_ (Ew Z1 (Ei rfl (Eu (E.block (s3 (A := []) (Own.nil (E := Enc.int) (e := tI) (a := (some ⟨b9, 0, none⟩))) rfl (j6 (congrArg (ow eIs [_]) (show [] = (t6.take 0).map (fun i => F3 (j9, f8) (at0 f7 i)) from by rfl)) (E.loop (κ := Nat × Option Addr × Nat × Nat) (fun g => g.1 ≤ t6.length ∧ True) (fun g => [(3, .pointer (some ⟨b3, 0, none⟩)), (4, .pointer (some ⟨b4, 0, none⟩)), (5, .pointer (some ⟨b5, 0, none⟩)), (7, .slice g.2.1 g.2.2.1 g.2.2.2), (8, .int .i64 (↑g.1 : Int))]) (fun g => [ow eIs [.slice g.2.1 g.2.2.1 g.2.2.2] ((t6.take g.1).map (fun i => F3 (j9, f8) (at0 f7 i))), pt b5 125 [.slice y6 j9.length y7, .slice s4 f8.length s5], pt b4 128 [.int .i64 l0, .slice s7 f7.length s6], pt b3 113 [.int .i64 D7, .slice B2 t6.length B1, .int .i64 z6, .int .i64 C9, .int .i64 z7]]) (fun g => t6.length - g.1) (0, (some ⟨b9, 0, none⟩), 0, 0) ⟨Nat.zero_le _, by simp⟩ ⟨rfl, rfl, rfl, rfl, rfl, trivial⟩ (.refl _) (fun g pg => ?_))))))))))))))))))))))
 obtain ⟨g, aA0_0, mA0_0, cA0_0⟩ := g
 try dsimp only at pg
 try dsimp only
 obtain ⟨pk, pa⟩ := pg
 have jt := List.length_take_le g t6
 refine i9 m0 fun eaA0_0 laA0_0 => ?_
 subst eaA0_0
 refine Eq_ (Ew Z5 (Em rfl (Ey rfl ((j7 fo_Method_1 ty_Is dc rfl).yd) (Ey rfl (g9 ty_Is rfl (Hz (mS (mS (mS m0))) 1 rfl) rfl) (Ey rfl ((Y.len us_Is rfl).yd) (Ey rfl ((Y.lss rfl rfl).yd) (o6 (fun q14 => ?_) (fun q14 => ?_))))))))
 ·refine Eu (o2 rfl (j5 (Et (Eq_ (E.block (D.region (fun j => !(Nat.beq j 13)) mixed (Dyp 0 rfl (l3 rfl) (Dy 1 rfl (o9 (cs := [_, _]) ty_Binding rfl (Has.pt (mS m0)) rfl) (Dyp 2 rfl (j7 fo_Atom_1 ty_Is dc rfl) (Dy 3 rfl (g9 ty_Is rfl (Hz (mS (mS m0)) 1 rfl) rfl) (Dyp 4 rfl (j7 fo_Method_1 ty_Is dc rfl) (Dy 5 rfl (g9 ty_Is rfl (Hz (mS (mS (mS m0))) 1 rfl) rfl) (Dyp 6 rfl (l3 rfl) ?_)))))))))))))
  obtain ⟨eb24, eo24, ea24, ei24, eh24⟩ := E8.elemI g om
  refine Dyp 7 rfl (r7 us_Is i8 rfl ea24 rfl g rfl om) (Dy 8 rfl (g9 i8 rfl (eh24 _) rfl) ?_)
  have jx := hi _ (List.getElem_mem (show g < t6.length by omega))
  obtain ⟨eb26, eo26, ea26, ei26, eh26⟩ := x6.elemI t6[g].toNat om
  refine Dyp 9 rfl (r7 us_Is i8 rfl ea26 rfl t6[g].toNat om om) (Dy 10 rfl (g9 i8 rfl (eh26 _) rfl) (t8 11 rfl rfl kr (fun _ => rfl) (n0 a2F rfl rfl rfl dc (fun w Lp hA => ⟨hA.ro E0, hA.ro w4⟩)) (fun _ _ => ?_)))
  have jy := a6v (b := (j9, f8)) (jw f7[t6[g].toNat] (List.getElem_mem om)) jv
  refine t8 12 rfl rfl kr (fun _ => rfl) (Nb [_] [_] us_Is i8 rfl rfl) (fun b29 _ => (i7 (t8 13 rfl rfl kr (fun h => by cases h) (D6 (E := Enc.int) (ex := F3 (j9, f8) (f7[t6[g].toNat])) us_Is i8 rfl rfl rfl (Own.int i6) rfl bn bn dc) (fun p30 _ => (Dyp 14 rfl (F7 rfl) (r8 kr (t7 (Et (Ez Z3 (Em rfl (Ey rfl ((Y.add rfl rfl om om).yd) (Ei rfl (Eu (j6 (congrArg (ow eIs [_]) (show ((t6.take g).map (fun i => F3 (j9, f8) (at0 f7 i))) ++ [F3 (j9, f8) (f7[t6[g].toNat])] = (t6.take (g + 1)).map (fun i => F3 (j9, f8) (at0 f7 i)) from by exact b2Y (a := (l0, f7)) om om)) (w7 (w7 (w7 (w7 ?_))))))))))))))))))
  exact Ea (g + 1, p30.1, (((t6.take g).map (fun i => F3 (j9, f8) (at0 f7 i))).length + 1), p30.2) ⟨oz, trivial⟩
 ·refine Eu (o3 rfl (E.exit (o8 (o8 (x9 (Et (Ew Z2 (Em rfl (Ei rfl (Eu (E.ret (j6 (congrArg (ow eIs [_]) (show _ = N7 (D7, t6, z6, C9, z7) (l0, f7) (j9, f8) by rw [show g = t6.length from by omega, List.take_length]; rfl)) ?_))))))))))))
  exact Fg rfl rfl (_, _, _) rfl rfl
theorem a1V (hm : 0 ≤ method ∧ method.toNat < l.length) (hi : ∀ i ∈ (atM l method).2.1, 0 ≤ i ∧ i.toNat < f7.length) (hl3 : (atM l method).2.1.length ≤ 1000) : Tr Tryz.prog 124 [.slice a_l m_l c_l, .int .i64 method, .agg #[.int .i64 l0, .slice s7 u8 s6], .agg #[.slice y6 D5 y7, .slice s4 u5 s5]] (fun w L => Ro w L E6 [.slice a_l m_l c_l] l ∧ I64 l0 ∧ Ro w L eIs [.slice s7 u8 s6] f7 ∧ Ro w L eIs [.slice y6 D5 y7] j9 ∧ Ro w L eIs [.slice s4 u5 s5] f8) [] (κ := Option Addr × Nat × Nat) (fun k => True) (fun k => .agg #[.int .i64 method, .slice k.1 k.2.1 k.2.2]) (fun k => [ow eIs [.slice k.1 k.2.1 k.2.2] (N7 (atM l method) (l0, f7) (j9, f8))]) := by
 refine n9 Tryz.func124 rfl (n := 39) rfl (by decide +kernel) bl (fr := [(0, .slice a_l m_l c_l), (1, .int .i64 method), (2, .agg #[.int .i64 l0, .slice s7 u8 s6]), (3, .agg #[.slice y6 D5 y7, .slice s4 u5 s5])]) rfl fun w L hR => ?_
 obtain ⟨hl, G5, x6, E0, w4⟩ := hR
 obtain ⟨rfl, ll⟩ := hl.slen
 obtain ⟨rfl, N8⟩ := x6.slen
 obtain ⟨rfl, a0u⟩ := E0.slen
 obtain ⟨rfl, O3⟩ := w4.slen
 have jv := w4.i64
 have jw := x6.i64
 rw [P3 hm.2] at hi hl3
 refine Ew Z3 (Est rfl (N.box (cs := [_, _]) rfl dc rfl) (fun b6 _ => (Est rfl (N.box (cs := [_, _]) rfl dc rfl) (fun b7 _ => (Est rfl (N.alloc ty_Access dc) (fun b8 _ => (Ev Z5 (Em rfl (Est rfl (Nb [] [] us_Is i8 rfl rfl) (fun b13 _ => (Ent.drop (Ey rfl ((Q3 (pvs := [_, _]) (cs := [_, _]) ty_Access a5k rfl rfl).yd) (Est rfl (N.alloc ty_Access dc) (fun b9 _ => (Est rfl (Ns [_, _] ty_Access rfl) (fun _ _ => (Eu (Eq_ (Ew Z7 (Em rfl (Em rfl ?_)))))))))))))))))))))
 obtain ⟨eb17, eo17, ec17, ea17, er17, el17, eh17⟩ := hl.elem method.toNat om
 obtain ⟨xa17_0, xc17_0, rfl, ei17_0, xh17_0, ei17_2, ei17_3, ei17_4⟩ := J5 er17
 have := xh17_0.slen.2
 refine Ey rfl ((r7 us_Methods ty_Method rfl ea17 rfl method.toNat om om).yd) (Ey rfl ((j7 fo_Method_1 ty_Is dc rfl).yd) (Ey rfl (g9 ty_Is rfl ((eh17 _).sub (cs' := [_]) 1 rfl) rfl) (Ey rfl ((Y.len us_Is rfl).yd) (Em rfl (Eu (E.block (s3 (A := []) (Own.nil (E := Enc.int) (e := tI) (a := (some ⟨b13, 0, none⟩))) rfl (j6 (congrArg (ow eIs [_]) (show [] = (l[method.toNat].2.1.take 0).map (fun i => F3 (j9, f8) (at0 f7 i)) from by rfl)) (E.loop (κ := Nat × Option Addr × Nat × Nat) (fun g => g.1 ≤ l[method.toNat].2.1.length ∧ True) (fun g => [(6, .pointer (some ⟨b6, 0, none⟩)), (7, .pointer (some ⟨b7, 0, none⟩)), (8, .pointer (some ⟨b8, 0, none⟩)), (9, .pointer (some ⟨b9, 0, none⟩)), (19, .slice xa17_0 l[method.toNat].2.1.length xc17_0), (20, .int .i64 (↑l[method.toNat].2.1.length : Int)), (21, .int .i64 (↑g.1 : Int))]) (fun g => [ow eIs [.slice g.2.1 g.2.2.1 g.2.2.2] ((l[method.toNat].2.1.take g.1).map (fun i => F3 (j9, f8) (at0 f7 i))), pt b9 133 [.int .i64 method, .slice g.2.1 g.2.2.1 g.2.2.2], pt b8 133 [.int .i64 0, .slice none 0 0], pt b7 125 [.slice y6 j9.length y7, .slice s4 f8.length s5], pt b6 128 [.int .i64 l0, .slice s7 f7.length s6]]) (fun g => l[method.toNat].2.1.length - g.1) (0, (some ⟨b13, 0, none⟩), 0, 0) ⟨Nat.zero_le _, by simp⟩ ⟨rfl, rfl, rfl, rfl, rfl, rfl, rfl, trivial⟩ (.refl _) (fun g pg => ?_))))))))))
 obtain ⟨g, aA0_0, mA0_0, cA0_0⟩ := g
 try dsimp only at pg
 try dsimp only
 obtain ⟨pk, pa⟩ := pg
 have jt := List.length_take_le g l[method.toNat].2.1
 refine i9 m0 fun eaA0_0 laA0_0 => ?_
 subst eaA0_0
 refine Ew Z1 (Ey rfl ((Y.lss rfl rfl).yd) (o6 (fun q22 => ?_) (fun q22 => ?_)))
 ·obtain ⟨eb23, eo23, ea23, ei23, eh23⟩ := xh17_0.elemI g om
  refine Eu (Eq_ (o2 rfl (j5 (Et (Eq_ (E.block (Ew Z3 (Ey rfl ((r7 us_Is i8 rfl ea23 rfl g rfl om).yd) (Ey rfl (g9 i8 rfl (eh23 _) rfl) (Ei rfl (Eu (D.region (fun j => !(Nat.beq j 10) && !(Nat.beq j 12)) mixed (Dyp 0 rfl (j7 fo_Access_1 ty_Is dc rfl) (Dy 1 rfl (g9 ty_Is rfl (Hz (mS m0) 1 rfl) rfl) (Dy 2 rfl (o9 (cs := [_, _]) ty_Binding rfl (Has.pt (mS (mS (mS m0)))) rfl) (Dyp 3 rfl (j7 fo_Atom_1 ty_Is dc rfl) (Dy 4 rfl (g9 ty_Is rfl (Hz (mS (mS (mS (mS m0)))) 1 rfl) rfl) (Dyp 5 rfl (l3 rfl) ?_))))))))))))))))))
  have jx := hi _ (List.getElem_mem (show g < l[method.toNat].2.1.length by omega))
  obtain ⟨eb31, eo31, ea31, ei31, eh31⟩ := x6.elemI l[method.toNat].2.1[g].toNat om
  refine Dyp 6 rfl (r7 us_Is i8 rfl ea31 rfl l[method.toNat].2.1[g].toNat om om) (Dy 7 rfl (g9 i8 rfl (eh31 _) rfl) (t8 8 rfl rfl kr (fun _ => rfl) (n0 a0U rfl rfl rfl dc (fun w Lp hA => ⟨hA.ro E0, hA.ro w4⟩)) (fun _ _ => ?_)))
  have jy := a6v (b := (j9, f8)) (jw f7[l[method.toNat].2.1[g].toNat] (List.getElem_mem om)) jv
  refine t8 9 rfl rfl kr (fun _ => rfl) (Nb [_] [_] us_Is i8 rfl rfl) (fun b34 _ => (i7 (t8 10 rfl rfl kr (fun h => by cases h) (D6 (E := Enc.int) (ex := F3 (j9, f8) (f7[l[method.toNat].2.1[g].toNat])) us_Is i8 rfl rfl rfl (Own.int i6) rfl bn bn dc) (fun p35 _ => (Dyp 11 rfl (j7 fo_Access_1 ty_Is dc rfl) (i7 (t8 12 rfl rfl kr (fun h => by cases h) (Ns [_, _] ty_Is rfl) (fun _ _ => (r8 kr (t7 (Et (Ez Z2 (Ey rfl ((Y.add rfl rfl om om).yd) (Em rfl (Eu (i7 (j6 (congrArg (ow eIs [_]) (show ((l[method.toNat].2.1.take g).map (fun i => F3 (j9, f8) (at0 f7 i))) ++ [F3 (j9, f8) (f7[l[method.toNat].2.1[g].toNat])] = (l[method.toNat].2.1.take (g + 1)).map (fun i => F3 (j9, f8) (at0 f7 i)) from by exact b2Y (a := (l0, f7)) om om)) (C7 (C7 (C7 (C7 (C7 ?_))))))))))))))))))))))
  exact Ea (g + 1, p35.1, (((l[method.toNat].2.1.take g).map (fun i => F3 (j9, f8) (at0 f7 i))).length + 1), p35.2) ⟨oz, trivial⟩
 ·refine Eu (Eq_ (o3 rfl (E.exit (o8 (o8 (x9 (Et (Ew Z2 (Ey rfl (o9 (cs := [_, _]) ty_Access rfl (Has.pt (mS m0)) rfl) (r5 (Est rfl (Ns [_, _] ty_Access rfl) (fun _ _ => (Eu (E.ret (i7 (j6 (congrArg (ow eIs [_]) (show _ = N7 (atM l method) (l0, f7) (j9, f8) by rw [show g = l[method.toNat].2.1.length from by omega, List.take_length, N7, P3 hm.2])) ?_))))))))))))))))
  exact a2k br rfl rfl (mS m0) ty_Access rfl (_, _, _) trivial rfl (J := _) (.refl _) (.inl rfl)
theorem b1J : Tr Tryz.prog 257 [.slice a_l m_l c_l, .int .i64 method] (fun w L => Ro w L E6 [.slice a_l m_l c_l] l ∧ I64 method) [] (κ := Unit) (fun k => True) (fun k => .int .i64 (a1A l method)) (fun k => []) := by
 refine n9 Tryz.func257 rfl (n := 25) rfl (by decide +kernel) bl (fr := [(0, .slice a_l m_l c_l), (1, .int .i64 method)]) rfl fun w L hR => ?_
 obtain ⟨hl, i6method⟩ := hR
 obtain ⟨rfl, ll⟩ := hl.slen
 refine Ew Z1 (Ei rfl (Eu (Eq_ (Ew Z15 (Em rfl (Em rfl (Ey rfl ((Y.len us_Methods rfl).yd) (Ey rfl ((Y.sub rfl rfl om om).yd) (Est rfl (n0 Q4 rfl rfl rfl dc tv) (fun _ _ => (Ent.b (fun q9 => ?_) (fun q9 => ?_))))))))))))
 ·have zz := W2 q9
  refine Ey rfl ((Y.not (b := true) rfl).yd) (Em rfl (Em rfl (Em rfl ?_)))
  obtain ⟨eb14, eo14, ec14, ea14, er14, el14, eh14⟩ := hl.elem method.toNat om
  obtain ⟨xa14_0, xc14_0, rfl, ei14_0, xh14_0, ei14_2, ei14_3, ei14_4⟩ := J5 er14
  have := xh14_0.slen.2
  refine Ey rfl ((r7 us_Methods ty_Method rfl ea14 rfl method.toNat om om).yd) (Ey rfl ((j7 fo_Method_3 i8 dc rfl).yd) (Ey rfl (g9 i8 rfl ((eh14 _).sub (cs' := [_]) 3 rfl) rfl) (Est rfl (n0 a6L rfl rfl rfl dc tv) (fun _ _ => (Ent.b (fun q17 => ?_) (fun q17 => ?_))))))
  ·refine Ey rfl ((Y.not (b := true) rfl).yd) (Ey rfl ((u0 rfl rfl).yd) (Eu (o3 rfl (j5 (Et (Ew Z6 (Em rfl (Em rfl (Ey rfl ((r7 us_Methods ty_Method rfl ea14 rfl method.toNat om om).yd) (Ey rfl ((j7 fo_Method_3 i8 dc rfl).yd) (Ey rfl (g9 i8 rfl ((eh14 _).sub (cs' := [_]) 3 rfl) rfl) (Ei rfl ?_))))))))))))
   exact Eu (E.ret (Fg rfl rfl () (congrArg (Value.int .i64) (by exact a6e q9 om q17)) rfl))
  ·refine Ey rfl ((Y.not (b := false) rfl).yd) (Ey rfl ((u0 rfl rfl).yd) (Eu (o2 rfl (Ew Z1 (Ei rfl ?_)))))
   exact Eu (E.ret (l4 (Fg rfl rfl () (congrArg (Value.int .i64) (by exact a6w om q17)) rfl)))
 ·refine Ey rfl ((Y.not (b := false) rfl).yd) (Em rfl (Es rfl (Es rfl (Es rfl (Es rfl (Es rfl (Es rfl (Es rfl (Ey rfl ((u7 rfl rfl).yd) (Eu (o2 rfl (Ew Z1 (Ei rfl ?_)))))))))))))
  exact Eu (E.ret (l4 (Fg rfl rfl () (congrArg (Value.int .i64) (by exact a6y q9)) rfl)))
theorem b0C (hlg : log.length ≤ 1000000000000) : Tr Tryz.prog 181 [.slice a_l m_l c_l, .slice a_log m_log c_log] (fun w L => Ro w L E6 [.slice a_l m_l c_l] l ∧ Ro w L x5 [.slice a_log m_log c_log] log) [] (κ := Unit) (fun k => True) (fun k => .int .i64 (a0m l log)) (fun k => []) := by
 refine n9 Tryz.func181 rfl (n := 22) rfl (by decide +kernel) bl (fr := [(0, .slice a_l m_l c_l), (1, .slice a_log m_log c_log)]) rfl fun w L hR => ?_
 obtain ⟨hl, hlog⟩ := hR
 obtain ⟨rfl, ll⟩ := hl.slen
 obtain ⟨rfl, llog⟩ := hlog.slen
 refine Ew Z1 (Ei rfl (Ev Z1 (Ei rfl (Eu (Eq_ (Ew Z3 (Em rfl (Ey rfl ((Y.len us_Accesss rfl).yd) (Em rfl (Eu (E.block (E.loop (κ := Nat) (fun g => g ≤ log.length ∧ True) (fun g => [(0, .slice a_l l.length c_l), (5, .int .i64 (a0m l (log.take g))), (8, .slice a_log log.length c_log), (9, .int .i64 (↑log.length : Int)), (10, .int .i64 (g : Int))]) (fun g => []) (fun g => log.length - g) (0) ⟨Nat.zero_le _, by simp⟩ ⟨rfl, frI (by rfl), rfl, rfl, rfl, trivial⟩ (.refl _) (fun g pg => ?_)))))))))))))
 try dsimp only
 obtain ⟨pk, pa⟩ := pg
 have jc := b2j (l := l) (log := log.take g)
 have jt := List.length_take_le g log
 refine Ew Z1 (Ey rfl ((Y.lss rfl rfl).yd) (o6 (fun q11 => ?_) (fun q11 => ?_)))
 ·obtain ⟨eb12, eo12, ec12, ea12, er12, el12, eh12⟩ := hlog.elem g om
  obtain ⟨xa12_0, xc12_0, rfl, ei12_0, xh12_0⟩ := Y0 er12
  have := xh12_0.slen.2
  refine Eu (Eq_ (o2 rfl (j5 (Et (Eq_ (E.block (Ew Z4 (Ey rfl ((r7 us_Accesss ty_Access rfl ea12 rfl g rfl om).yd) (Ey rfl (o9 (cs := [_, _]) ty_Access rfl (eh12 _) rfl) (Est rfl (N.alloc ty_Access dc) (fun b7 _ => (Est rfl (Ns [_, _] ty_Access rfl) (fun _ _ => (Eu (Ez Z7 (Em rfl (Em rfl (Ey rfl ((j7 fo_Access_0 i8 dc rfl).yd) (Ey rfl (g9 i8 rfl (Hz m0 0 rfl) rfl) (Est rfl (n0 b1J rfl rfl rfl dc (fun w Lp hA => ⟨hA.ro hl, ei12_0⟩)) (fun _ _ => ?_)))))))))))))))))))))
  have jm := b3a (l := l) (m := log[g].1)
  refine Ey rfl ((Y.add rfl rfl om om).yd) (Ei rfl (En (t7 (Et (Ez Z2 (Ey rfl ((Y.add rfl rfl om om).yd) (Em rfl (Eu (Ent.drop ?_)))))))))
  exact v8 br (g + 1) ⟨rfl, frI (by exact a3u om), rfl, rfl, rfl, trivial⟩ (.refl _) ⟨oz, trivial⟩ oz
 ·refine Eu (Eq_ (o3 rfl (E.exit (o8 (o8 (x9 (Et (Ew Z2 (Em rfl (Ei rfl ?_))))))))))
  exact Eu (E.ret (Fg rfl rfl () (congrArg (Value.int .i64) (by rw [List.take_of_length_le om])) rfl))
theorem b0v (hlg : log.length ≤ 1000000000000) : Tr Tryz.prog 90 [.slice a_l m_l c_l, .slice a_log m_log c_log] (fun w L => Ro w L E6 [.slice a_l m_l c_l] l ∧ Ro w L x5 [.slice a_log m_log c_log] log) [] (κ := Unit) (fun k => True) (fun k => .int .i64 (a0m l log)) (fun k => []) := by
 refine n9 Tryz.func90 rfl (n := 46) rfl (by decide +kernel) bl (fr := [(0, .slice a_l m_l c_l), (1, .slice a_log m_log c_log)]) rfl fun w L hR => ?_
 obtain ⟨hl, hlog⟩ := hR
 obtain ⟨rfl, ll⟩ := hl.slen
 obtain ⟨rfl, llog⟩ := hlog.slen
 refine Ew Z1 (Ei rfl (Ev Z1 (Ei rfl (Eu (Eq_ (Ew Z1 (Ei rfl (Eu (E.block (E.loop (κ := Nat) (fun g => g ≤ log.length ∧ True) (fun g => [(0, .slice a_l l.length c_l), (1, .slice a_log log.length c_log), (5, .int .i64 (a0m l (log.take g))), (6, .int .i64 (g : Int))]) (fun g => []) (fun g => log.length - g) (0) ⟨Nat.zero_le _, by simp⟩ ⟨rfl, rfl, frI (by rfl), rfl, trivial⟩ (.refl _) (fun g pg => ?_)))))))))))
 try dsimp only
 obtain ⟨pk, pa⟩ := pg
 have jc := b2j (l := l) (log := log.take g)
 have jt := List.length_take_le g log
 refine Eq_ (Ew Z4 (Em rfl (Em rfl (Ey rfl ((Y.len us_Accesss rfl).yd) (Ey rfl ((Y.lss rfl rfl).yd) (o6 (fun q10 => ?_) (fun q10 => ?_)))))))
 ·refine Eu (o2 rfl (j5 (Et (Eq_ (E.block (Ew Z21 (Em rfl (Em rfl ?_))))))))
  obtain ⟨eb15, eo15, ec15, ea15, er15, el15, eh15⟩ := hlog.elem g om
  obtain ⟨xa15_0, xc15_0, rfl, ei15_0, xh15_0⟩ := Y0 er15
  have := xh15_0.slen.2
  refine Ey rfl ((r7 us_Accesss ty_Access rfl ea15 rfl g rfl om).yd) (Ey rfl ((j7 fo_Access_0 i8 dc rfl).yd) (Ey rfl (g9 i8 rfl ((eh15 _).sub (cs' := [_]) 0 rfl) rfl) (Em rfl (Ey rfl ((Y.len us_Methods rfl).yd) (Ey rfl ((Y.sub rfl rfl om om).yd) (Est rfl (n0 K2 rfl rfl rfl dc tv) (fun _ _ => (Ent.b (fun q21 => ?_) (fun q21 => ?_)))))))))
  ·have zz := W2 q21
   refine Em rfl (Em rfl (Em rfl (Em rfl (Ey rfl ((r7 us_Accesss ty_Access rfl ea15 rfl g rfl om).yd) (Ey rfl ((j7 fo_Access_0 i8 dc rfl).yd) (Ey rfl (g9 i8 rfl ((eh15 _).sub (cs' := [_]) 0 rfl) rfl) ?_))))))
   obtain ⟨eb29, eo29, ec29, ea29, er29, el29, eh29⟩ := hl.elem log[g].1.toNat om
   obtain ⟨xa29_0, xc29_0, rfl, ei29_0, xh29_0, ei29_2, ei29_3, ei29_4⟩ := J5 er29
   have := xh29_0.slen.2
   refine Ey rfl ((r7 us_Methods ty_Method rfl ea29 rfl log[g].1.toNat om om).yd) (Ey rfl ((j7 fo_Method_3 i8 dc rfl).yd) (Ey rfl (g9 i8 rfl ((eh29 _).sub (cs' := [_]) 3 rfl) rfl) (Est rfl (n0 K2 rfl rfl rfl dc tv) (fun _ _ => (Ent.b (fun q32 => ?_) (fun q32 => ?_))))))
   ·have zy := W2 q32
    refine Ey rfl ((u7 rfl rfl).yd) (Eu (o2 rfl (Ez Z12 (Em rfl (Em rfl (Em rfl (Em rfl (Ey rfl ((r7 us_Accesss ty_Access rfl ea15 rfl g rfl om).yd) (Ey rfl ((j7 fo_Access_0 i8 dc rfl).yd) (Ey rfl (g9 i8 rfl ((eh15 _).sub (cs' := [_]) 0 rfl) rfl) (Ey rfl ((r7 us_Methods ty_Method rfl ea29 rfl log[g].1.toNat om om).yd) (Ey rfl ((j7 fo_Method_3 i8 dc rfl).yd) (Ey rfl (g9 i8 rfl ((eh29 _).sub (cs' := [_]) 3 rfl) rfl) (Ey rfl ((Y.add rfl rfl om om).yd) (Ei rfl (En (t7 (Et (Ez Z3 (Em rfl (Ey rfl ((Y.add rfl rfl om om).yd) (Ei rfl ?_))))))))))))))))))))))
    exact Eu (v8 br (g + 1) ⟨rfl, rfl, frI (by first | exact a2E om (a6y q21) | exact a2E om (a6w om q32) | (rw [a6e q21 om q32]; exact a3u om)), rfl, trivial⟩ (.refl _) ⟨oz, trivial⟩ oz)
   ·refine Ey rfl ((u7 rfl rfl).yd) (Eu (o3 rfl (j5 (t7 (Et (Ez Z3 (Em rfl (Ey rfl ((Y.add rfl rfl om om).yd) (Ei rfl ?_)))))))))
    exact Eu (v8 br (g + 1) ⟨rfl, rfl, frI (by first | exact a2E om (a6y q21) | exact a2E om (a6w om q32) | (rw [a6e q21 om q32]; exact a3u om)), rfl, trivial⟩ (.refl _) ⟨oz, trivial⟩ oz)
  ·refine Em rfl (Es rfl (Es rfl (Es rfl (Es rfl (Es rfl (Es rfl (Es rfl (Es rfl (Es rfl (Es rfl (Ey rfl ((u0 rfl rfl).yd) (Eu (o3 rfl (j5 (t7 (Et (Ez Z3 (Em rfl (Ey rfl ((Y.add rfl rfl om om).yd) (Ei rfl ?_))))))))))))))))))))
   exact Eu (v8 br (g + 1) ⟨rfl, rfl, frI (by first | exact a2E om (a6y q21) | exact a2E om (a6w om q32) | (rw [a6e q21 om q32]; exact a3u om)), rfl, trivial⟩ (.refl _) ⟨oz, trivial⟩ oz)
 ·refine Eu (o3 rfl (E.exit (o8 (o8 (x9 (Et (Ew Z2 (Em rfl (Ei rfl ?_)))))))))
  exact Eu (E.ret (Fg rfl rfl () (congrArg (Value.int .i64) (by rw [List.take_of_length_le om])) rfl))
end Go.Proofs.YtdopeopehgdccaaGreat
