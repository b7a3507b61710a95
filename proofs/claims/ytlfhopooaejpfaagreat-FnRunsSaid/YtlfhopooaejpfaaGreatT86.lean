import Derived.Test.YtlfhopooaejpfaaGreatT85
namespace Go.Proofs.YtlfhopooaejpfaaGreat
open Go.RowKit
set_option linter.all false
set_option maxHeartbeats 2000000
attribute [local irreducible] Nop Yd Yp Ent Has Tr FnP FnP2 Src M0 S8 V1 W0 G4
variable {l2 method : Int} {l : List (Int × List Int × Int × Int × Int)} {log : List (Int × List Int)} {d9 j7 g9 : List Int} {C6 w6 E7 C9 w8 t8 m_l c_l m_log c_log : Nat} {w7 D0 u6 a_l a_log : Option Addr}
theorem a2T {D8 : Int} {D3 : Option Addr} {E3 D2 : Nat} {s8 : List Int} {C1 : Int} {D7 : Int} {C2 : Int} (hi : ∀ i ∈ s8, 0 ≤ i ∧ i.toNat < d9.length) (hl3 : s8.length ≤ 1000) : Tr Tryz.prog 49 [.agg #[.int .i64 D8, .slice D3 E3 D2, .int .i64 C1, .int .i64 D7, .int .i64 C2], .agg #[.int .i64 l2, .slice w7 C6 w6], .agg #[.slice D0 E7 C9, .slice u6 w8 t8]] (fun w L => I64 D8 ∧ Ro w L eIs [.slice D3 E3 D2] s8 ∧ I64 C1 ∧ I64 D7 ∧ I64 C2 ∧ I64 l2 ∧ Ro w L eIs [.slice w7 C6 w6] d9 ∧ Ro w L eIs [.slice D0 E7 C9] j7 ∧ Ro w L eIs [.slice u6 w8 t8] g9) [] (κ := Option Addr × Nat × Nat) (fun k => True) (fun k => .slice k.1 k.2.1 k.2.2) (fun k => [ow eIs [.slice k.1 k.2.1 k.2.2] (V7 (D8, s8, C1, D7, C2) (l2, d9) (j7, g9))]) := by
 refine Tr.intro Tryz.func49 rfl (n := 32) rfl (by decide +kernel) bl (fr := [(0, .agg #[.int .i64 D8, .slice D3 E3 D2, .int .i64 C1, .int .i64 D7, .int .i64 C2]), (1, .agg #[.int .i64 l2, .slice w7 C6 w6]), (2, .agg #[.slice D0 E7 C9, .slice u6 w8 t8])]) rfl fun w L hR => ?_
 obtain ⟨X3, F6, R9, V0, S0, M4, D6, F1, z6⟩ := hR
 obtain ⟨rfl, X8⟩ := F6.slen
 obtain ⟨rfl, T7⟩ := D6.slen
 obtain ⟨rfl, a0f⟩ := F1.slen
 obtain ⟨rfl, N9⟩ := z6.slen
 have jv := z6.i64
 have jw := D6.i64
 refine Ew Z4 (Est rfl (N.box (cs := [_, _, _, _, _]) rfl dc rfl) (fun b3 _ => (Est rfl (N.box (cs := [_, _]) rfl dc rfl) (fun b4 _ => (Est rfl (N.box (cs := [_, _]) rfl dc rfl) (fun b5 _ => (Ei rfl (Ev Z2 (Est rfl (Nb [] [] us_Is f0 rfl rfl) (fun b9 _ => (Ent.drop (Ei rfl (Eu (Eq_ (Ew Z1 (Ei rfl (Eu (E.block (n9 (A := []) (Own.nil (E := Enc.int) (e := tI) (a := (some ⟨b9, 0, none⟩))) rfl (j8 (congrArg (ow eIs [_]) (show [] = (s8.take 0).map (fun i => B1 (j7, g9) (at0 d9 i)) from by rfl)) (E.loop (κ := Nat × Option Addr × Nat × Nat) (fun g => g.1 ≤ s8.length ∧ True) (fun g => [(3, .pointer (some ⟨b3, 0, none⟩)), (4, .pointer (some ⟨b4, 0, none⟩)), (5, .pointer (some ⟨b5, 0, none⟩)), (7, .slice g.2.1 g.2.2.1 g.2.2.2), (8, .int .i64 (↑g.1 : Int))]) (fun g => [ow eIs [.slice g.2.1 g.2.2.1 g.2.2.2] ((s8.take g.1).map (fun i => B1 (j7, g9) (at0 d9 i))), pt b5 78 [.slice D0 j7.length C9, .slice u6 g9.length t8], pt b4 81 [.int .i64 l2, .slice w7 d9.length w6], pt b3 86 [.int .i64 D8, .slice D3 s8.length D2, .int .i64 C1, .int .i64 D7, .int .i64 C2]]) (fun g => s8.length - g.1) (0, (some ⟨b9, 0, none⟩), 0, 0) ⟨Nat.zero_le _, by simp⟩ ⟨rfl, rfl, rfl, rfl, rfl, trivial⟩ (.refl _) (fun g pg => ?_))))))))))))))))))))))
 obtain ⟨g, aA0_0, mA0_0, cA0_0⟩ := g
 try dsimp only at pg
 try dsimp only
 obtain ⟨pk, pa⟩ := pg
 have jt := List.length_take_le g s8
 refine i9 m0 fun eaA0_0 laA0_0 => ?_
 subst eaA0_0
 refine Eq_ (Ew Z5 (Em rfl (Ey rfl ((i7 fo_Method_1 ty_Is dc rfl).yd) (Ey rfl (f8 ty_Is rfl (Hz (mS (mS (mS m0))) 1 rfl) rfl) (Ey rfl ((Y.len us_Is rfl).yd) (Ey rfl ((Y.lss rfl rfl).yd) (n0 (fun q14 => ?_) (fun q14 => ?_))))))))
 ·refine Eu (l4 rfl (i8 (Et (Eq_ (E.block (D.region (fun j => !(Nat.beq j 13)) mixed (Dyp 0 rfl (j4 rfl) (Dy 1 rfl (o0 (cs := [_, _]) ty_Binding rfl (Has.pt (mS m0)) rfl) (Dyp 2 rfl (i7 fo_Atom_1 ty_Is dc rfl) (Dy 3 rfl (f8 ty_Is rfl (Hz (mS (mS m0)) 1 rfl) rfl) (Dyp 4 rfl (i7 fo_Method_1 ty_Is dc rfl) (Dy 5 rfl (f8 ty_Is rfl (Hz (mS (mS (mS m0))) 1 rfl) rfl) (Dyp 6 rfl (j4 rfl) ?_)))))))))))))
  obtain ⟨eb24, eo24, ea24, ei24, eh24⟩ := F6.elemI g om
  refine Dyp 7 rfl (o6 us_Is f0 rfl ea24 rfl g rfl om) (Dy 8 rfl (f8 f0 rfl (eh24 _) rfl) ?_)
  have jx := hi _ (List.getElem_mem (show g < s8.length by omega))
  obtain ⟨eb26, eo26, ea26, ei26, eh26⟩ := D6.elemI s8[g].toNat om
  refine Dyp 9 rfl (o6 us_Is f0 rfl ea26 rfl s8[g].toNat om om) (Dy 10 rfl (f8 f0 rfl (eh26 _) rfl) (u7 11 rfl rfl kr (fun _ => rfl) (k6 a1E rfl rfl rfl dc (fun w Lp hA => ⟨hA.ro F1, hA.ro z6⟩)) (fun _ _ => ?_)))
  have jy := a3T (b := (j7, g9)) (jw d9[s8[g].toNat] (List.getElem_mem om)) jv
  refine u7 12 rfl rfl kr (fun _ => rfl) (Nb [_] [_] us_Is f0 rfl rfl) (fun b29 _ => (f7 (u7 13 rfl rfl kr (fun h => by cases h) (y6 (E := Enc.int) (ex := B1 (j7, g9) (d9[s8[g].toNat])) us_Is f0 rfl rfl rfl (Own.int i6) rfl bn bn dc) (fun p30 _ => (Dyp 14 rfl (G1 rfl) (o3 kr (o4 (Et (Ez Z3 (Em rfl (Ey rfl ((Y.add rfl rfl om om).yd) (Ei rfl (Eu (j8 (congrArg (ow eIs [_]) (show ((s8.take g).map (fun i => B1 (j7, g9) (at0 d9 i))) ++ [B1 (j7, g9) (d9[s8[g].toNat])] = (s8.take (g + 1)).map (fun i => B1 (j7, g9) (at0 d9 i)) from by exact b0o (a := (l2, d9)) om om)) (m6 (m6 (m6 (m6 ?_))))))))))))))))))
  exact Ea (g + 1, p30.1, (((s8.take g).map (fun i => B1 (j7, g9) (at0 d9 i))).length + 1), p30.2) ⟨oz, trivial⟩
 ·refine Eu (l6 rfl (E.exit (n8 (n8 (w5 (Et (Ew Z2 (Em rfl (Ei rfl (Eu (E.ret (j8 (congrArg (ow eIs [_]) (show _ = V7 (D8, s8, C1, D7, C2) (l2, d9) (j7, g9) by rw [show g = s8.length from by omega, List.take_length]; rfl)) ?_))))))))))))
  exact Fg rfl rfl (_, _, _) rfl rfl
theorem a2z (hm : 0 ≤ method ∧ method.toNat < l.length) (hi : ∀ i ∈ (atM l method).2.1, 0 ≤ i ∧ i.toNat < d9.length) (hl3 : (atM l method).2.1.length ≤ 1000) : Tr Tryz.prog 120 [.slice a_l m_l c_l, .int .i64 method, .agg #[.int .i64 l2, .slice w7 C6 w6], .agg #[.slice D0 E7 C9, .slice u6 w8 t8]] (fun w L => Ro w L C8 [.slice a_l m_l c_l] l ∧ I64 l2 ∧ Ro w L eIs [.slice w7 C6 w6] d9 ∧ Ro w L eIs [.slice D0 E7 C9] j7 ∧ Ro w L eIs [.slice u6 w8 t8] g9) [] (κ := Option Addr × Nat × Nat) (fun k => True) (fun k => .agg #[.int .i64 method, .slice k.1 k.2.1 k.2.2]) (fun k => [ow eIs [.slice k.1 k.2.1 k.2.2] (V7 (atM l method) (l2, d9) (j7, g9))]) := by
 refine Tr.intro Tryz.func120 rfl (n := 39) rfl (by decide +kernel) bl (fr := [(0, .slice a_l m_l c_l), (1, .int .i64 method), (2, .agg #[.int .i64 l2, .slice w7 C6 w6]), (3, .agg #[.slice D0 E7 C9, .slice u6 w8 t8])]) rfl fun w L hR => ?_
 obtain ⟨hl, M4, D6, F1, z6⟩ := hR
 obtain ⟨rfl, ll⟩ := hl.slen
 obtain ⟨rfl, T7⟩ := D6.slen
 obtain ⟨rfl, a0f⟩ := F1.slen
 obtain ⟨rfl, N9⟩ := z6.slen
 have jv := z6.i64
 have jw := D6.i64
 rw [K8 hm.2] at hi hl3
 refine Ew Z3 (Est rfl (N.box (cs := [_, _]) rfl dc rfl) (fun b6 _ => (Est rfl (N.box (cs := [_, _]) rfl dc rfl) (fun b7 _ => (Est rfl (N.alloc ty_Access dc) (fun b8 _ => (Ev Z5 (Em rfl (Est rfl (Nb [] [] us_Is f0 rfl rfl) (fun b13 _ => (Ent.drop (Ey rfl ((I6 (pvs := [_, _]) (cs := [_, _]) ty_Access a1Z rfl rfl).yd) (Est rfl (N.alloc ty_Access dc) (fun b9 _ => (Est rfl (Ns [_, _] ty_Access rfl) (fun _ _ => (Eu (Eq_ (Ew Z7 (Em rfl (Em rfl ?_)))))))))))))))))))))
 obtain ⟨eb17, eo17, ec17, ea17, er17, el17, eh17⟩ := hl.elem method.toNat om
 obtain ⟨xa17_0, xc17_0, rfl, ei17_0, xh17_0, ei17_2, ei17_3, ei17_4⟩ := H9 er17
 have := xh17_0.slen.2
 refine Ey rfl ((o6 us_Methods ty_Method rfl ea17 rfl method.toNat om om).yd) (Ey rfl ((i7 fo_Method_1 ty_Is dc rfl).yd) (Ey rfl (f8 ty_Is rfl ((eh17 _).sub (cs' := [_]) 1 rfl) rfl) (Ey rfl ((Y.len us_Is rfl).yd) (Em rfl (Eu (E.block (n9 (A := []) (Own.nil (E := Enc.int) (e := tI) (a := (some ⟨b13, 0, none⟩))) rfl (j8 (congrArg (ow eIs [_]) (show [] = (l[method.toNat].2.1.take 0).map (fun i => B1 (j7, g9) (at0 d9 i)) from by rfl)) (E.loop (κ := Nat × Option Addr × Nat × Nat) (fun g => g.1 ≤ l[method.toNat].2.1.length ∧ True) (fun g => [(6, .pointer (some ⟨b6, 0, none⟩)), (7, .pointer (some ⟨b7, 0, none⟩)), (8, .pointer (some ⟨b8, 0, none⟩)), (9, .pointer (some ⟨b9, 0, none⟩)), (19, .slice xa17_0 l[method.toNat].2.1.length xc17_0), (20, .int .i64 (↑l[method.toNat].2.1.length : Int)), (21, .int .i64 (↑g.1 : Int))]) (fun g => [ow eIs [.slice g.2.1 g.2.2.1 g.2.2.2] ((l[method.toNat].2.1.take g.1).map (fun i => B1 (j7, g9) (at0 d9 i))), pt b9 74 [.int .i64 method, .slice g.2.1 g.2.2.1 g.2.2.2], pt b8 74 [.int .i64 0, .slice none 0 0], pt b7 78 [.slice D0 j7.length C9, .slice u6 g9.length t8], pt b6 81 [.int .i64 l2, .slice w7 d9.length w6]]) (fun g => l[method.toNat].2.1.length - g.1) (0, (some ⟨b13, 0, none⟩), 0, 0) ⟨Nat.zero_le _, by simp⟩ ⟨rfl, rfl, rfl, rfl, rfl, rfl, rfl, trivial⟩ (.refl _) (fun g pg => ?_))))))))))
 obtain ⟨g, aA0_0, mA0_0, cA0_0⟩ := g
 try dsimp only at pg
 try dsimp only
 obtain ⟨pk, pa⟩ := pg
 have jt := List.length_take_le g l[method.toNat].2.1
 refine i9 m0 fun eaA0_0 laA0_0 => ?_
 subst eaA0_0
 refine Ew Z1 (Ey rfl ((Y.lss rfl rfl).yd) (n0 (fun q22 => ?_) (fun q22 => ?_)))
 ·obtain ⟨eb23, eo23, ea23, ei23, eh23⟩ := xh17_0.elemI g om
  refine Eu (Eq_ (l4 rfl (i8 (Et (Eq_ (E.block (Ew Z3 (Ey rfl ((o6 us_Is f0 rfl ea23 rfl g rfl om).yd) (Ey rfl (f8 f0 rfl (eh23 _) rfl) (Ei rfl (Eu (D.region (fun j => !(Nat.beq j 10) && !(Nat.beq j 12)) mixed (Dyp 0 rfl (i7 fo_Access_1 ty_Is dc rfl) (Dy 1 rfl (f8 ty_Is rfl (Hz (mS m0) 1 rfl) rfl) (Dy 2 rfl (o0 (cs := [_, _]) ty_Binding rfl (Has.pt (mS (mS (mS m0)))) rfl) (Dyp 3 rfl (i7 fo_Atom_1 ty_Is dc rfl) (Dy 4 rfl (f8 ty_Is rfl (Hz (mS (mS (mS (mS m0)))) 1 rfl) rfl) (Dyp 5 rfl (j4 rfl) ?_))))))))))))))))))
  have jx := hi _ (List.getElem_mem (show g < l[method.toNat].2.1.length by omega))
  obtain ⟨eb31, eo31, ea31, ei31, eh31⟩ := D6.elemI l[method.toNat].2.1[g].toNat om
  refine Dyp 6 rfl (o6 us_Is f0 rfl ea31 rfl l[method.toNat].2.1[g].toNat om om) (Dy 7 rfl (f8 f0 rfl (eh31 _) rfl) (u7 8 rfl rfl kr (fun _ => rfl) (k6 Y8 rfl rfl rfl dc (fun w Lp hA => ⟨hA.ro F1, hA.ro z6⟩)) (fun _ _ => ?_)))
  have jy := a3T (b := (j7, g9)) (jw d9[l[method.toNat].2.1[g].toNat] (List.getElem_mem om)) jv
  refine u7 9 rfl rfl kr (fun _ => rfl) (Nb [_] [_] us_Is f0 rfl rfl) (fun b34 _ => (f7 (u7 10 rfl rfl kr (fun h => by cases h) (y6 (E := Enc.int) (ex := B1 (j7, g9) (d9[l[method.toNat].2.1[g].toNat])) us_Is f0 rfl rfl rfl (Own.int i6) rfl bn bn dc) (fun p35 _ => (Dyp 11 rfl (i7 fo_Access_1 ty_Is dc rfl) (f7 (u7 12 rfl rfl kr (fun h => by cases h) (Ns [_, _] ty_Is rfl) (fun _ _ => (o3 kr (o4 (Et (Ez Z2 (Ey rfl ((Y.add rfl rfl om om).yd) (Em rfl (Eu (f7 (j8 (congrArg (ow eIs [_]) (show ((l[method.toNat].2.1.take g).map (fun i => B1 (j7, g9) (at0 d9 i))) ++ [B1 (j7, g9) (d9[l[method.toNat].2.1[g].toNat])] = (l[method.toNat].2.1.take (g + 1)).map (fun i => B1 (j7, g9) (at0 d9 i)) from by exact b0o (a := (l2, d9)) om om)) (v7 (v7 (v7 (v7 (v7 ?_))))))))))))))))))))))
  exact Ea (g + 1, p35.1, (((l[method.toNat].2.1.take g).map (fun i => B1 (j7, g9) (at0 d9 i))).length + 1), p35.2) ⟨oz, trivial⟩
 ·refine Eu (Eq_ (l6 rfl (E.exit (n8 (n8 (w5 (Et (Ew Z2 (Ey rfl (o0 (cs := [_, _]) ty_Access rfl (Has.pt (mS m0)) rfl) (j6 (Est rfl (Ns [_, _] ty_Access rfl) (fun _ _ => (Eu (E.ret (f7 (j8 (congrArg (ow eIs [_]) (show _ = V7 (atM l method) (l2, d9) (j7, g9) by rw [show g = l[method.toNat].2.1.length from by omega, List.take_length, V7, K8 hm.2])) ?_))))))))))))))))
  exact J2 br rfl rfl (mS m0) ty_Access rfl (_, _, _) trivial rfl (J := _) (.refl _) (.inl rfl)
theorem a8T : Tr Tryz.prog 72 [.slice a_l m_l c_l, .int .i64 method] (fun w L => Ro w L C8 [.slice a_l m_l c_l] l ∧ I64 method) [] (κ := Unit) (fun k => True) (fun k => .int .i64 (Y7 l method)) (fun k => []) := by
 refine Tr.intro Tryz.func72 rfl (n := 25) rfl (by decide +kernel) bl (fr := [(0, .slice a_l m_l c_l), (1, .int .i64 method)]) rfl fun w L hR => ?_
 obtain ⟨hl, i6method⟩ := hR
 obtain ⟨rfl, ll⟩ := hl.slen
 refine Ew Z1 (Ei rfl (Eu (Eq_ (Ew Z15 (Em rfl (Em rfl (Ey rfl ((Y.len us_Methods rfl).yd) (Ey rfl ((Y.sub rfl rfl om om).yd) (Est rfl (k6 I1 rfl rfl rfl dc tv) (fun _ _ => (Ent.b (fun q9 => ?_) (fun q9 => ?_))))))))))))
 ·have zz := Q5 q9
  refine Ey rfl ((Y.not (b := true) rfl).yd) (Em rfl (Em rfl (Em rfl ?_)))
  obtain ⟨eb14, eo14, ec14, ea14, er14, el14, eh14⟩ := hl.elem method.toNat om
  obtain ⟨xa14_0, xc14_0, rfl, ei14_0, xh14_0, ei14_2, ei14_3, ei14_4⟩ := H9 er14
  have := xh14_0.slen.2
  refine Ey rfl ((o6 us_Methods ty_Method rfl ea14 rfl method.toNat om om).yd) (Ey rfl ((i7 fo_Method_3 f0 dc rfl).yd) (Ey rfl (f8 f0 rfl ((eh14 _).sub (cs' := [_]) 3 rfl) rfl) (Est rfl (k6 a4o rfl rfl rfl dc tv) (fun _ _ => (Ent.b (fun q17 => ?_) (fun q17 => ?_))))))
  ·refine Ey rfl ((Y.not (b := true) rfl).yd) (Ey rfl ((r9 rfl rfl).yd) (Eu (l6 rfl (i8 (Et (Ew Z6 (Em rfl (Em rfl (Ey rfl ((o6 us_Methods ty_Method rfl ea14 rfl method.toNat om om).yd) (Ey rfl ((i7 fo_Method_3 f0 dc rfl).yd) (Ey rfl (f8 f0 rfl ((eh14 _).sub (cs' := [_]) 3 rfl) rfl) (Ei rfl ?_))))))))))))
   exact Eu (E.ret (Fg rfl rfl () (congrArg (Value.int .i64) (by exact a3O q9 om q17)) rfl))
  ·refine Ey rfl ((Y.not (b := false) rfl).yd) (Ey rfl ((r9 rfl rfl).yd) (Eu (l4 rfl (Ew Z1 (Ei rfl ?_)))))
   exact Eu (E.ret (l0 (Fg rfl rfl () (congrArg (Value.int .i64) (by exact a4d om q17)) rfl)))
 ·refine Ey rfl ((Y.not (b := false) rfl).yd) (Em rfl (Es rfl (Es rfl (Es rfl (Es rfl (Es rfl (Es rfl (Es rfl (Ey rfl ((s6 rfl rfl).yd) (Eu (l4 rfl (Ew Z1 (Ei rfl ?_)))))))))))))
  exact Eu (E.ret (l0 (Fg rfl rfl () (congrArg (Value.int .i64) (by exact a4a q9)) rfl)))
theorem a1J (hlg : log.length ≤ 1000000000000) : Tr Tryz.prog 19 [.slice a_l m_l c_l, .slice a_log m_log c_log] (fun w L => Ro w L C8 [.slice a_l m_l c_l] l ∧ Ro w L B5 [.slice a_log m_log c_log] log) [] (κ := Unit) (fun k => True) (fun k => .int .i64 (U0 l log)) (fun k => []) := by
 refine Tr.intro Tryz.func19 rfl (n := 22) rfl (by decide +kernel) bl (fr := [(0, .slice a_l m_l c_l), (1, .slice a_log m_log c_log)]) rfl fun w L hR => ?_
 obtain ⟨hl, hlog⟩ := hR
 obtain ⟨rfl, ll⟩ := hl.slen
 obtain ⟨rfl, llog⟩ := hlog.slen
 refine Ew Z1 (Ei rfl (Ev Z1 (Ei rfl (Eu (Eq_ (Ew Z3 (Em rfl (Ey rfl ((Y.len us_Accesss rfl).yd) (Em rfl (Eu (E.block (E.loop (κ := Nat) (fun g => g ≤ log.length ∧ True) (fun g => [(0, .slice a_l l.length c_l), (5, .int .i64 (U0 l (log.take g))), (8, .slice a_log log.length c_log), (9, .int .i64 (↑log.length : Int)), (10, .int .i64 (g : Int))]) (fun g => []) (fun g => log.length - g) (0) ⟨Nat.zero_le _, by simp⟩ ⟨rfl, frI (by rfl), rfl, rfl, rfl, trivial⟩ (.refl _) (fun g pg => ?_)))))))))))))
 try dsimp only
 obtain ⟨pk, pa⟩ := pg
 have jc := a9J (l := l) (log := log.take g)
 have jt := List.length_take_le g log
 refine Ew Z1 (Ey rfl ((Y.lss rfl rfl).yd) (n0 (fun q11 => ?_) (fun q11 => ?_)))
 ·obtain ⟨eb12, eo12, ec12, ea12, er12, el12, eh12⟩ := hlog.elem g om
  obtain ⟨xa12_0, xc12_0, rfl, ei12_0, xh12_0⟩ := N0 er12
  have := xh12_0.slen.2
  refine Eu (Eq_ (l4 rfl (i8 (Et (Eq_ (E.block (Ew Z4 (Ey rfl ((o6 us_Accesss ty_Access rfl ea12 rfl g rfl om).yd) (Ey rfl (o0 (cs := [_, _]) ty_Access rfl (eh12 _) rfl) (Est rfl (N.alloc ty_Access dc) (fun b7 _ => (Est rfl (Ns [_, _] ty_Access rfl) (fun _ _ => (Eu (Ez Z7 (Em rfl (Em rfl (Ey rfl ((i7 fo_Access_0 f0 dc rfl).yd) (Ey rfl (f8 f0 rfl (Hz m0 0 rfl) rfl) (Est rfl (k6 a8T rfl rfl rfl dc (fun w Lp hA => ⟨hA.ro hl, ei12_0⟩)) (fun _ _ => ?_)))))))))))))))))))))
  have jm := b0q (l := l) (m := log[g].1)
  refine Ey rfl ((Y.add rfl rfl om om).yd) (Ei rfl (En (o4 (Et (Ez Z2 (Ey rfl ((Y.add rfl rfl om om).yd) (Em rfl (Eu (Ent.drop ?_)))))))))
  exact u9 br (g + 1) ⟨rfl, frI (by exact a1t om), rfl, rfl, rfl, trivial⟩ (.refl _) ⟨oz, trivial⟩ oz
 ·refine Eu (Eq_ (l6 rfl (E.exit (n8 (n8 (w5 (Et (Ew Z2 (Em rfl (Ei rfl ?_))))))))))
  exact Eu (E.ret (Fg rfl rfl () (congrArg (Value.int .i64) (by rw [List.take_of_length_le om])) rfl))
theorem a7r (hlg : log.length ≤ 1000000000000) : Tr Tryz.prog 55 [.slice a_l m_l c_l, .slice a_log m_log c_log] (fun w L => Ro w L C8 [.slice a_l m_l c_l] l ∧ Ro w L B5 [.slice a_log m_log c_log] log) [] (κ := Unit) (fun k => True) (fun k => .int .i64 (U0 l log)) (fun k => []) := by
 refine Tr.intro Tryz.func55 rfl (n := 46) rfl (by decide +kernel) bl (fr := [(0, .slice a_l m_l c_l), (1, .slice a_log m_log c_log)]) rfl fun w L hR => ?_
 obtain ⟨hl, hlog⟩ := hR
 obtain ⟨rfl, ll⟩ := hl.slen
 obtain ⟨rfl, llog⟩ := hlog.slen
 refine Ew Z1 (Ei rfl (Ev Z1 (Ei rfl (Eu (Eq_ (Ew Z1 (Ei rfl (Eu (E.block (E.loop (κ := Nat) (fun g => g ≤ log.length ∧ True) (fun g => [(0, .slice a_l l.length c_l), (1, .slice a_log log.length c_log), (5, .int .i64 (U0 l (log.take g))), (6, .int .i64 (g : Int))]) (fun g => []) (fun g => log.length - g) (0) ⟨Nat.zero_le _, by simp⟩ ⟨rfl, rfl, frI (by rfl), rfl, trivial⟩ (.refl _) (fun g pg => ?_)))))))))))
 try dsimp only
 obtain ⟨pk, pa⟩ := pg
 have jc := a9J (l := l) (log := log.take g)
 have jt := List.length_take_le g log
 refine Eq_ (Ew Z4 (Em rfl (Em rfl (Ey rfl ((Y.len us_Accesss rfl).yd) (Ey rfl ((Y.lss rfl rfl).yd) (n0 (fun q10 => ?_) (fun q10 => ?_)))))))
 ·refine Eu (l4 rfl (i8 (Et (Eq_ (E.block (Ew Z21 (Em rfl (Em rfl ?_))))))))
  obtain ⟨eb15, eo15, ec15, ea15, er15, el15, eh15⟩ := hlog.elem g om
  obtain ⟨xa15_0, xc15_0, rfl, ei15_0, xh15_0⟩ := N0 er15
  have := xh15_0.slen.2
  refine Ey rfl ((o6 us_Accesss ty_Access rfl ea15 rfl g rfl om).yd) (Ey rfl ((i7 fo_Access_0 f0 dc rfl).yd) (Ey rfl (f8 f0 rfl ((eh15 _).sub (cs' := [_]) 0 rfl) rfl) (Em rfl (Ey rfl ((Y.len us_Methods rfl).yd) (Ey rfl ((Y.sub rfl rfl om om).yd) (Est rfl (k6 F9 rfl rfl rfl dc tv) (fun _ _ => (Ent.b (fun q21 => ?_) (fun q21 => ?_)))))))))
  ·have zz := Q5 q21
   refine Em rfl (Em rfl (Em rfl (Em rfl (Ey rfl ((o6 us_Accesss ty_Access rfl ea15 rfl g rfl om).yd) (Ey rfl ((i7 fo_Access_0 f0 dc rfl).yd) (Ey rfl (f8 f0 rfl ((eh15 _).sub (cs' := [_]) 0 rfl) rfl) ?_))))))
   obtain ⟨eb29, eo29, ec29, ea29, er29, el29, eh29⟩ := hl.elem log[g].1.toNat om
   obtain ⟨xa29_0, xc29_0, rfl, ei29_0, xh29_0, ei29_2, ei29_3, ei29_4⟩ := H9 er29
   have := xh29_0.slen.2
   refine Ey rfl ((o6 us_Methods ty_Method rfl ea29 rfl log[g].1.toNat om om).yd) (Ey rfl ((i7 fo_Method_3 f0 dc rfl).yd) (Ey rfl (f8 f0 rfl ((eh29 _).sub (cs' := [_]) 3 rfl) rfl) (Est rfl (k6 F9 rfl rfl rfl dc tv) (fun _ _ => (Ent.b (fun q32 => ?_) (fun q32 => ?_))))))
   ·have zy := Q5 q32
    refine Ey rfl ((s6 rfl rfl).yd) (Eu (l4 rfl (Ez Z12 (Em rfl (Em rfl (Em rfl (Em rfl (Ey rfl ((o6 us_Accesss ty_Access rfl ea15 rfl g rfl om).yd) (Ey rfl ((i7 fo_Access_0 f0 dc rfl).yd) (Ey rfl (f8 f0 rfl ((eh15 _).sub (cs' := [_]) 0 rfl) rfl) (Ey rfl ((o6 us_Methods ty_Method rfl ea29 rfl log[g].1.toNat om om).yd) (Ey rfl ((i7 fo_Method_3 f0 dc rfl).yd) (Ey rfl (f8 f0 rfl ((eh29 _).sub (cs' := [_]) 3 rfl) rfl) (Ey rfl ((Y.add rfl rfl om om).yd) (Ei rfl (En (o4 (Et (Ez Z3 (Em rfl (Ey rfl ((Y.add rfl rfl om om).yd) ?_)))))))))))))))))))))
    refine Ei rfl ?_
    exact Eu (u9 br (g + 1) ⟨rfl, rfl, frI (by first | exact a0N om (a4a q21) | exact a0N om (a4d om q32) | (rw [a3O q21 om q32]; exact a1t om)), rfl, trivial⟩ (.refl _) ⟨oz, trivial⟩ oz)
   ·refine Ey rfl ((s6 rfl rfl).yd) (Eu (l6 rfl (i8 (o4 (Et (Ez Z3 (Em rfl (Ey rfl ((Y.add rfl rfl om om).yd) (Ei rfl ?_)))))))))
    exact Eu (u9 br (g + 1) ⟨rfl, rfl, frI (by first | exact a0N om (a4a q21) | exact a0N om (a4d om q32) | (rw [a3O q21 om q32]; exact a1t om)), rfl, trivial⟩ (.refl _) ⟨oz, trivial⟩ oz)
  ·refine Em rfl (Es rfl (Es rfl (Es rfl (Es rfl (Es rfl (Es rfl (Es rfl (Es rfl (Es rfl (Es rfl (Ey rfl ((r9 rfl rfl).yd) (Eu (l6 rfl (i8 (o4 (Et (Ez Z3 (Em rfl (Ey rfl ((Y.add rfl rfl om om).yd) (Ei rfl ?_))))))))))))))))))))
   exact Eu (u9 br (g + 1) ⟨rfl, rfl, frI (by first | exact a0N om (a4a q21) | exact a0N om (a4d om q32) | (rw [a3O q21 om q32]; exact a1t om)), rfl, trivial⟩ (.refl _) ⟨oz, trivial⟩ oz)
 ·refine Eu (l6 rfl (E.exit (n8 (n8 (w5 (Et (Ew Z2 (Em rfl (Ei rfl ?_)))))))))
  exact Eu (E.ret (Fg rfl rfl () (congrArg (Value.int .i64) (by rw [List.take_of_length_le om])) rfl))
end Go.Proofs.YtlfhopooaejpfaaGreat
