import Derived.Test.YtlfhopooaejpfaaGreatT18
namespace Go.Proofs.YtlfhopooaejpfaaGreat
open Go.RowKit
set_option linter.all false
set_option maxHeartbeats 2000000
attribute [local irreducible] Nop Yd Yp Ent Has Tr FnP FnP2 Src o6 d7 O0 a0h H2
variable {o3 l0 : Int} {c6 a6 : List (Int × List Int)} {l : List (List Int × List Int)} {j8 f8 f7 d9 i9 : List Int} {G7 s4 B8 y7 J6 F2 B7 y5 m_l c_l m_facts c_facts y9 u9 w9 t7 : Nat} {E3 y8 F3 y6 a_l a_facts v6 t8 : Option Addr}
theorem a7i (hb1 : j8.length ≤ 1000000) (hb2 : f8.length ≤ 1000000) : Tr Tryz.prog 230 [.agg #[.slice E3 G7 s4, .slice y8 B8 y7]] (fun w L => Ro w L eIs [.slice E3 G7 s4] j8 ∧ Ro w L eIs [.slice y8 B8 y7] f8) [] (κ := (Option Addr × Nat × Nat) × (Option Addr × Nat × Nat)) (fun k => True) (fun k => .agg #[.slice k.1.1 k.1.2.1 k.1.2.2, .slice k.2.1 k.2.2.1 k.2.2.2]) (fun k => [ow eIs [.slice k.1.1 k.1.2.1 k.1.2.2] j8, ow eIs [.slice k.2.1 k.2.2.1 k.2.2.2] f8]) := by
 refine Tr.intro Tryz.func230 rfl (n := 10) rfl (by decide +kernel) bl (fr := [(0, .agg #[.slice E3 G7 s4, .slice y8 B8 y7])]) rfl fun w L hR => ?_
 obtain ⟨G8, C6⟩ := hR
 obtain ⟨rfl, a1n⟩ := G8.slen
 obtain ⟨rfl, S9⟩ := C6.slen
 refine Ew Z2 (Est rfl (N.box (cs := [_, _]) rfl dc rfl) (fun b1 _ => (Est rfl (N.alloc ty_Binding dc) (fun b2 _ => (Eu (Eq_ (D.region (fun j => !(Nat.beq j 7)) mixed (Dyp 0 rfl (i8 fo_Binding_0 ty_Is dc rfl) (Dy 1 rfl (g9 ty_Is rfl (Hz (mS m0) 0 rfl) rfl) (Dyp 3 rfl (i8 fo_Binding_1 ty_Is dc rfl) (Dy 4 rfl (g9 ty_Is rfl (Hz (mS m0) 1 rfl) rfl) (u7 2 rfl rfl kr (fun _ => rfl) (N.call (a2l fc) rfl rfl rfl dc rfl (fun w Lp hA => hA.ro G8)) (fun k5 _ => ?_)))))))))))))
 obtain ⟨a5, m5, c5⟩ := k5
 refine d6 m0 fun e5 l5 => ?_
 subst e5
 refine u7 5 rfl rfl kr (fun _ => rfl) (N.call (a2l fc) rfl rfl rfl dc rfl (fun w Lp hA => hA.ro C6)) (fun k8 _ => ?_)
 obtain ⟨a8, m8, c8⟩ := k8
 refine d6 m0 fun e8 l8 => ?_
 subst e8
 refine Dyp 6 rfl (I3 (pvs := [_, _]) (cs := [_, _]) ty_Binding pl_Binding rfl rfl) (j7 (u7 7 rfl rfl kr (fun h => by cases h) (Ns [_, _] ty_Binding rfl) (fun _ _ => (t6 kr (Et (E.ret (d8 (j7 (d8 (d8 ?_))))))))))
 exact O7 br rfl rfl (mS (mS m0)) ty_Binding rfl ((_, _, _), (_, _, _)) trivial rfl (J := _) (.refl _) (.inl rfl)
theorem a6Q (hb1 : j8.length ≤ 1000000) (hb2 : f8.length ≤ 1000000) : Tr Tryz.prog 169 [.agg #[.slice E3 G7 s4, .slice y8 B8 y7]] (fun w L => Ro w L eIs [.slice E3 G7 s4] j8 ∧ Ro w L eIs [.slice y8 B8 y7] f8) [] (κ := (Option Addr × Nat × Nat) × (Option Addr × Nat × Nat)) (fun k => True) (fun k => .agg #[.slice k.1.1 k.1.2.1 k.1.2.2, .slice k.2.1 k.2.2.1 k.2.2.2]) (fun k => [ow eIs [.slice k.1.1 k.1.2.1 k.1.2.2] j8, ow eIs [.slice k.2.1 k.2.2.1 k.2.2.2] f8]) := by
 refine Tr.intro Tryz.func169 rfl (n := 12) rfl (by decide +kernel) bl (fr := [(0, .agg #[.slice E3 G7 s4, .slice y8 B8 y7])]) rfl fun w L hR => ?_
 obtain ⟨G8, C6⟩ := hR
 obtain ⟨rfl, a1n⟩ := G8.slen
 obtain ⟨rfl, S9⟩ := C6.slen
 refine Ew Z2 (Est rfl (N.box (cs := [_, _]) rfl dc rfl) (fun b1 _ => (Est rfl (N.alloc ty_Binding dc) (fun b2 _ => (Eu (Eq_ (a3V (κ := (Option Addr × Nat) × (Option Addr × Nat)) (fun _ => True) (fun kM => [(2, .pointer (some ⟨b2, 0, none⟩))]) (fun kM => [pt b2 78 [.slice kM.1.1 j8.length kM.1.2, .slice kM.2.1 f8.length kM.2.2], ow eIs [.slice kM.2.1 f8.length kM.2.2] f8, ow eIs [.slice kM.1.1 j8.length kM.1.2] j8, pt b1 78 [.slice E3 j8.length s4, .slice y8 f8.length y7]]) ?_ (fun kM _ => ?_))))))))
 ·refine D.region (fun j => !(Nat.beq j 9)) mixed (Dyp 1 rfl (i8 fo_Binding_0 ty_Is dc rfl) (Dy 2 rfl (g9 ty_Is rfl (Hz (mS m0) 0 rfl) rfl) (Dyp 5 rfl (i8 fo_Binding_1 ty_Is dc rfl) (Dy 6 rfl (g9 ty_Is rfl (Hz (mS m0) 1 rfl) rfl) (a2x (i := 0) (j := 4) kr ?_ ?_)))))
  ·refine a0d 0 rfl rfl (fun _ => rfl) (Nb [] [] us_Is f5 rfl rfl) (fun b3 _ => (Ent.drop (a2x (i := 3) (j := 4) kr ?_ ?_)))
   ·refine a0d 3 rfl rfl (fun _ => rfl) (P8 (E := Enc.int) Plain.int us_Is f5 rfl rfl rfl G8 bn bn dc) (fun p6 _ => (u7 4 rfl rfl kr (fun _ => rfl) (Nb [] [] us_Is f5 rfl rfl) (fun b7 _ => (Ent.drop (u7 7 rfl rfl kr (fun _ => rfl) (P8 (E := Enc.int) Plain.int us_Is f5 rfl rfl rfl C6 bn bn dc) (fun p10 _ => (Dyp 8 rfl (I3 (pvs := [_, _]) (cs := [_, _]) ty_Binding pl_Binding rfl rfl) (j7 (u7 9 rfl rfl kr (fun h => by cases h) (Ns [_, _] ty_Binding rfl) (fun _ _ => (t6 kr (o2 (o2 (o2 (o2 ?_)))))))))))))))
    exact S4 (p6, p10) trivial ⟨rfl, trivial⟩ (.refl _)
   ·refine a0d 4 rfl rfl (fun _ => rfl) (Nb [] [] us_Is f5 rfl rfl) (fun b7 _ => (Ent.drop (u7 3 rfl rfl kr (fun _ => rfl) (P8 (E := Enc.int) Plain.int us_Is f5 rfl rfl rfl G8 bn bn dc) (fun p6 _ => (u7 7 rfl rfl kr (fun _ => rfl) (P8 (E := Enc.int) Plain.int us_Is f5 rfl rfl rfl C6 bn bn dc) (fun p10 _ => (Dyp 8 rfl (I3 (pvs := [_, _]) (cs := [_, _]) ty_Binding pl_Binding rfl rfl) (j7 (u7 9 rfl rfl kr (fun h => by cases h) (Ns [_, _] ty_Binding rfl) (fun _ _ => (t6 kr (o2 (o2 (o2 (o2 ?_)))))))))))))))
    exact S4 (p6, p10) trivial ⟨rfl, trivial⟩ (.refl _)
  ·refine a0d 4 rfl rfl (fun _ => rfl) (Nb [] [] us_Is f5 rfl rfl) (fun b7 _ => (Ent.drop (u7 0 rfl rfl kr (fun _ => rfl) (Nb [] [] us_Is f5 rfl rfl) (fun b3 _ => (Ent.drop (u7 3 rfl rfl kr (fun _ => rfl) (P8 (E := Enc.int) Plain.int us_Is f5 rfl rfl rfl G8 bn bn dc) (fun p6 _ => (u7 7 rfl rfl kr (fun _ => rfl) (P8 (E := Enc.int) Plain.int us_Is f5 rfl rfl rfl C6 bn bn dc) (fun p10 _ => (Dyp 8 rfl (I3 (pvs := [_, _]) (cs := [_, _]) ty_Binding pl_Binding rfl rfl) (j7 (u7 9 rfl rfl kr (fun h => by cases h) (Ns [_, _] ty_Binding rfl) (fun _ _ => (t6 kr (o2 (o2 (o2 (o2 ?_))))))))))))))))))
   exact S4 (p6, p10) trivial ⟨rfl, trivial⟩ (.refl _)
 ·obtain ⟨p6, p10⟩ := kM
  try dsimp only
  refine Et (E.ret (d8 (j7 (d8 (d8 ?_)))))
  exact O7 br rfl rfl (mS (mS m0)) ty_Binding rfl ((_, _, _), (_, _, _)) trivial rfl (J := _) (.refl _) (.inl rfl)
theorem b0k {v : Int} : Tr Tryz.prog 195 [.agg #[.slice E3 G7 s4, .slice y8 B8 y7], .int .i64 v] (fun w L => Ro w L eIs [.slice E3 G7 s4] j8 ∧ Ro w L eIs [.slice y8 B8 y7] f8) [] (κ := Unit) (fun k => True) (fun k => .bool (!unb (j8, f8) v)) (fun k => []) := by
 refine Tr.intro Tryz.func195 rfl (n := 27) rfl (by decide +kernel) bl (fr := [(0, .agg #[.slice E3 G7 s4, .slice y8 B8 y7]), (1, .int .i64 v)]) rfl fun w L hR => ?_
 obtain ⟨G8, C6⟩ := hR
 obtain ⟨rfl, a1n⟩ := G8.slen
 obtain ⟨rfl, S9⟩ := C6.slen
 refine Ew Z2 (Est rfl (N.box (cs := [_, _]) rfl dc rfl) (fun b2 _ => (Ei rfl (Eu (Eq_ (Ew Z1 (Ei rfl (Eu (E.block (E.loop (κ := Nat) (fun g => g ≤ (min j8.length f8.length) ∧ (j8.take (min j8.length f8.length)).any (fun x => decide (x = v)) = ((j8.take (min j8.length f8.length)).drop g).any (fun x => decide (x = v))) (fun g => [(1, .int .i64 v), (2, .pointer (some ⟨b2, 0, none⟩)), (5, .int .i64 (g : Int))]) (fun g => [pt b2 78 [.slice E3 j8.length s4, .slice y8 f8.length y7]]) (fun g => (min j8.length f8.length) - g) 0 ⟨Nat.zero_le _, by simp⟩ ⟨rfl, rfl, rfl, trivial⟩ (.refl _) (fun g pg => ?_)))))))))))
 obtain ⟨pk, pa⟩ := pg
 refine Eq_ (Ew Z12 (Em rfl (Ey rfl ((i8 fo_Binding_0 ty_Is dc rfl).yd) (Ey rfl (g9 ty_Is rfl (Hz m0 0 rfl) rfl) (Ey rfl ((Y.len us_Is rfl).yd) (Ey rfl ((Y.lss rfl rfl).yd) (n9 (fun q10 => ?_) (fun q10 => ?_))))))))
 ·refine Em rfl (Em rfl (Ey rfl ((i8 fo_Binding_1 ty_Is dc rfl).yd) (Ey rfl (g9 ty_Is rfl (Hz m0 1 rfl) rfl) (Ey rfl ((Y.len us_Is rfl).yd) (Ey rfl ((Y.lss rfl rfl).yd) (n9 (fun q16 => ?_) (fun q16 => ?_)))))))
  ·refine Ey rfl ((x6 rfl rfl).yd) (Eu (o0 rfl (f9 (Et (Eq_ (E.block (Ew Z7 (Ey rfl ((i8 fo_Binding_0 ty_Is dc rfl).yd) (Ey rfl (g9 ty_Is rfl (Hz m0 0 rfl) rfl) (Em rfl ?_))))))))))
   obtain ⟨eb23, eo23, ea23, ei23, eh23⟩ := G8.elemI g om
   refine Ey rfl ((w3 us_Is f5 rfl ea23 rfl g rfl om).yd) (Ey rfl (g9 f5 rfl (eh23 _) rfl) (Em rfl (Ey rfl ((Y.eql rfl rfl).yd) (n9 (fun q26 => ?_) (fun q26 => ?_)))))
   ·refine Eu (o0 rfl (Ew Z1 (Ei rfl ?_)))
    exact Eu (E.ret (C9 (s9 (s9 (C9 (s9 (Fb rfl rfl (by grind [unb, a3m, a5B, d1, d2, t1, t2]))))))))
   ·refine Eu (n8 rfl (f9 (s8 (Et (Ez Z3 (Em rfl (Ey rfl ((Y.add rfl rfl om om).yd) (Ei rfl ?_))))))))
    exact Eu (B0 br (g + 1) rs (.refl _) ⟨by omega, by grind [a3m, d1, d2, t1, t2]⟩ om)
  ·refine Ey rfl ((x6 rfl rfl).yd) (Eu (n8 rfl (E.exit (l3 (l3 (y4 (Et (Ew Z1 (Ei rfl ?_)))))))))
   exact Eu (E.ret (Fb rfl rfl (by grind [unb, a3m, a5B, d1, d2, t1, t2])))
 ·refine Em rfl (Es rfl (Es rfl (Es rfl (Es rfl (Es rfl (Ey rfl ((z7 rfl rfl).yd) (Eu (n8 rfl (E.exit (l3 (l3 (y4 (Et (Ew Z1 (Ei rfl ?_)))))))))))))))
  exact Eu (E.ret (Fb rfl rfl (by grind [unb, a3m, a5B, d1, d2, t1, t2])))
theorem a9a (hb1 : j8.length ≤ 1000) (hb2 : f8.length ≤ 1000) (hat : f7.length ≤ 1000) : Tr Tryz.prog 190 [.agg #[.slice E3 G7 s4, .slice y8 B8 y7], .agg #[.int .i64 o3, .slice F3 J6 F2], .agg #[.int .i64 l0, .slice y6 B7 y5]] (fun w L => Ro w L eIs [.slice E3 G7 s4] j8 ∧ Ro w L eIs [.slice y8 B8 y7] f8 ∧ I64 o3 ∧ Ro w L eIs [.slice F3 J6 F2] f7 ∧ I64 l0 ∧ Ro w L eIs [.slice y6 B7 y5] d9) [] (κ := (Option Addr × Nat × Nat) × (Option Addr × Nat × Nat)) (fun k => True) (fun k => .tuple #[.agg #[.slice k.1.1 k.1.2.1 k.1.2.2, .slice k.2.1 k.2.2.1 k.2.2.2], .bool (v8 (j8, f8) (o3, f7) (l0, d9))]) (fun k => [ow eIs [.slice k.1.1 k.1.2.1 k.1.2.2] (cond (v8 (j8, f8) (o3, f7) (l0, d9)) (w8 (j8, f8) (o3, f7) (l0, d9)).1 []), ow eIs [.slice k.2.1 k.2.2.1 k.2.2.2] (cond (v8 (j8, f8) (o3, f7) (l0, d9)) (w8 (j8, f8) (o3, f7) (l0, d9)).2 [])]) := by
 refine Tr.intro Tryz.func190 rfl (n := 81) rfl (by decide +kernel) bl (fr := [(0, .agg #[.slice E3 G7 s4, .slice y8 B8 y7]), (1, .agg #[.int .i64 o3, .slice F3 J6 F2]), (2, .agg #[.int .i64 l0, .slice y6 B7 y5])]) rfl fun w L hR => ?_
 obtain ⟨G8, C6, a0y, K8, H5, B4⟩ := hR
 obtain ⟨rfl, a1n⟩ := G8.slen
 obtain ⟨rfl, S9⟩ := C6.slen
 obtain ⟨rfl, a2R⟩ := K8.slen
 obtain ⟨rfl, R4⟩ := B4.slen
 refine Ew Z5 (Est rfl (N.box (cs := [_, _]) rfl dc rfl) (fun b3 _ => (Est rfl (N.box (cs := [_, _]) rfl dc rfl) (fun b4 _ => (Est rfl (N.box (cs := [_, _]) rfl dc rfl) (fun b5 _ => (Est rfl (N.alloc ty_Binding dc) (fun b6 _ => (Ei rfl (Eu (Eq_ (Ew Z23 (Ey rfl ((i8 fo_Atom_0 f5 dc rfl).yd) (Ey rfl (g9 f5 rfl (Hz (mS (mS m0)) 0 rfl) rfl) (Ey rfl ((i8 fo_Fact_0 f5 dc rfl).yd) (Ey rfl (g9 f5 rfl (Hz (mS m0) 0 rfl) rfl) (Ey rfl ((Y.neq rfl rfl).yd) (n9 (fun q15 => ?_) (fun q15 => ?_)))))))))))))))))))
 ·refine Em rfl (Es rfl (Es rfl (Es rfl (Es rfl (Es rfl (Es rfl (Es rfl (Ey rfl ((x6 rfl rfl).yd) (Em rfl (Es rfl (Es rfl (Es rfl (Es rfl (Es rfl ?_))))))))))))))
  refine Es rfl (Es rfl (Ey rfl ((x6 rfl rfl).yd) (Eu (o0 rfl (Ew Z3 (Ey rfl ((I3 (pvs := []) (cs := [_, _]) ty_Binding pl_Binding rfl rfl).yd) (Est rfl (Ns [_, _] ty_Binding rfl) (fun _ _ => (Ei rfl (Eu (E.ret (s9 (s7 (A := []) (Own.nil (E := Enc.int) (e := tI) (a := none)) rfl (f6 (congrArg (ow eIs [_]) (show _ = cond (v8 (j8, f8) (o3, f7) (l0, d9)) (w8 (j8, f8) (o3, f7) (l0, d9)).2 [] by grind [v8, w8, C2, D8, D9, E6, F0, D7, d1, d2, t1, t2])) (s7 (A := []) (Own.nil (E := Enc.int) (e := tI) (a := none)) rfl (f6 (congrArg (ow eIs [_]) (show _ = cond (v8 (j8, f8) (o3, f7) (l0, d9)) (w8 (j8, f8) (o3, f7) (l0, d9)).1 [] by grind [v8, w8, C2, D8, D9, E6, F0, D7, d1, d2, t1, t2])) (d8 (d8 ?_))))))))))))))))))
  exact a1B br rfl rfl rfl (mS (mS m0)) ty_Binding rfl ((none, 0, 0), (none, 0, 0)) trivial (by rw [show (v8 (j8, f8) (o3, f7) (l0, d9)) = (false) from (by grind [v8, w8, C2, D8, D9, E6, F0, D7, d1, d2, t1, t2])]; try rfl) (J := _) (.refl _) (.inl rfl)
 ·refine Em rfl (Ey rfl ((i8 fo_Atom_1 ty_Is dc rfl).yd) (Ey rfl (g9 ty_Is rfl (Hz (mS (mS m0)) 1 rfl) rfl) (Ey rfl ((Y.len us_Is rfl).yd) (Ey rfl ((i8 fo_Fact_1 ty_Is dc rfl).yd) (Ey rfl (g9 ty_Is rfl (Hz (mS m0) 1 rfl) rfl) (Ey rfl ((Y.len us_Is rfl).yd) (Ey rfl ((Y.neq rfl rfl).yd) (n9 (fun q23 => ?_) (fun q23 => ?_)))))))))
  ·refine Ey rfl ((z7 rfl rfl).yd) (Em rfl (Es rfl (Es rfl (Es rfl (Es rfl (Es rfl (Es rfl (Es rfl (Ey rfl ((x6 rfl rfl).yd) (Eu (o0 rfl (Ew Z3 (Ey rfl ((I3 (pvs := []) (cs := [_, _]) ty_Binding pl_Binding rfl rfl).yd) (Est rfl (Ns [_, _] ty_Binding rfl) (fun _ _ => (Ei rfl (Eu (E.ret (s9 (s7 (A := []) (Own.nil (E := Enc.int) (e := tI) (a := none)) rfl (f6 (congrArg (ow eIs [_]) (show _ = cond (v8 (j8, f8) (o3, f7) (l0, d9)) (w8 (j8, f8) (o3, f7) (l0, d9)).2 [] by grind [v8, w8, C2, D8, D9, E6, F0, D7, d1, d2, t1, t2])) ?_)))))))))))))))))))))
   refine s7 (A := []) (Own.nil (E := Enc.int) (e := tI) (a := none)) rfl (f6 (congrArg (ow eIs [_]) (show _ = cond (v8 (j8, f8) (o3, f7) (l0, d9)) (w8 (j8, f8) (o3, f7) (l0, d9)).1 [] by grind [v8, w8, C2, D8, D9, E6, F0, D7, d1, d2, t1, t2])) (d8 (d8 ?_)))
   exact a1B br rfl rfl rfl (mS (mS m0)) ty_Binding rfl ((none, 0, 0), (none, 0, 0)) trivial (by rw [show (v8 (j8, f8) (o3, f7) (l0, d9)) = (false) from (by grind [v8, w8, C2, D8, D9, E6, F0, D7, d1, d2, t1, t2])]; try rfl) (J := _) (.refl _) (.inl rfl)
  ·refine Ey rfl ((z7 rfl rfl).yd) (Em rfl (Ey rfl ((i8 fo_Binding_0 ty_Is dc rfl).yd) (Ey rfl (g9 ty_Is rfl (Hz (mS (mS (mS m0))) 0 rfl) rfl) (Ey rfl ((Y.len us_Is rfl).yd) (Ey rfl ((i8 fo_Binding_1 ty_Is dc rfl).yd) (Ey rfl (g9 ty_Is rfl (Hz (mS (mS (mS m0))) 1 rfl) rfl) (Ey rfl ((Y.len us_Is rfl).yd) (Ey rfl ((Y.neq rfl rfl).yd) (n9 (fun q32 => ?_) (fun q32 => ?_))))))))))
   ·refine Ey rfl ((z7 rfl rfl).yd) (Eu (o0 rfl (Ew Z3 (Ey rfl ((I3 (pvs := []) (cs := [_, _]) ty_Binding pl_Binding rfl rfl).yd) (Est rfl (Ns [_, _] ty_Binding rfl) (fun _ _ => (Ei rfl (Eu (E.ret (s9 (s7 (A := []) (Own.nil (E := Enc.int) (e := tI) (a := none)) rfl (f6 (congrArg (ow eIs [_]) (show _ = cond (v8 (j8, f8) (o3, f7) (l0, d9)) (w8 (j8, f8) (o3, f7) (l0, d9)).2 [] by grind [v8, w8, C2, D8, D9, E6, F0, D7, d1, d2, t1, t2])) (s7 (A := []) (Own.nil (E := Enc.int) (e := tI) (a := none)) rfl (f6 (congrArg (ow eIs [_]) (show _ = cond (v8 (j8, f8) (o3, f7) (l0, d9)) (w8 (j8, f8) (o3, f7) (l0, d9)).1 [] by grind [v8, w8, C2, D8, D9, E6, F0, D7, d1, d2, t1, t2])) (d8 (d8 ?_))))))))))))))))
    exact a1B br rfl rfl rfl (mS (mS m0)) ty_Binding rfl ((none, 0, 0), (none, 0, 0)) trivial (by rw [show (v8 (j8, f8) (o3, f7) (l0, d9)) = (false) from (by grind [v8, w8, C2, D8, D9, E6, F0, D7, d1, d2, t1, t2])]; try rfl) (J := _) (.refl _) (.inl rfl)
   ·refine Ey rfl ((z7 rfl rfl).yd) (Eu (n8 rfl (f9 (Et (Ew Z4 (Ey rfl (r9 (cs := [_, _]) ty_Binding rfl (Has.pt (mS (mS (mS m0)))) rfl) (Est rfl (N.call (a7i fc fc) rfl rfl rfl dc rfl (fun w Lp hA => ⟨hA.ro G8, hA.ro C6⟩)) (fun k36 _ => ?_))))))))
    obtain ⟨⟨a36_0, m36_0, c36_0⟩, ⟨a36_1, m36_1, c36_1⟩⟩ := k36
    refine d6 m0 fun e36_0 l36_0 => ?_
    subst e36_0
    refine d6 (mS m0) fun e36_1 l36_1 => ?_
    subst e36_1
    refine Est rfl (N.alloc ty_Binding dc) (fun b8 _ => (Est rfl (Ns [_, _] ty_Binding rfl) (fun _ _ => (Eu (Eq_ (Ew Z4 (Ey rfl ((i8 fo_Atom_1 ty_Is dc rfl).yd) (Ey rfl (g9 ty_Is rfl ((Has.pt (mS (mS (mS (mS (mS m0)))))).sub (cs' := [_]) 1 rfl) rfl) (Ey rfl ((Y.len us_Is rfl).yd) (Em rfl (Eu (E.block (d8 (f6 (congrArg (ow eIs [_]) (show j8 = (E0 (j8, f8) ((f7.zip d9).take 0)).1 from by first | rfl | (simp; done) | grind [v8, w8, C2, D8, D9, E6, F0, D7, d1, d2, t1, t2])) (j7 (f6 (congrArg (ow eIs [_]) (show f8 = (E0 (j8, f8) ((f7.zip d9).take 0)).2 from by first | rfl | (simp; done) | grind [v8, w8, C2, D8, D9, E6, F0, D7, d1, d2, t1, t2])) (E.loop (κ := Nat × Option Addr × Nat × Nat × Option Addr × Nat × Nat) (fun g => g.1 ≤ f7.length ∧ okV (j8, f8) (f7.zip d9) = okV (E0 (j8, f8) ((f7.zip d9).take g.1)) ((f7.zip d9).drop g.1)) (fun g => [(5, .pointer (some ⟨b5, 0, none⟩)), (6, .pointer (some ⟨b6, 0, none⟩)), (8, .pointer (some ⟨b8, 0, none⟩)), (38, .slice F3 f7.length F2), (39, .int .i64 (↑f7.length : Int)), (40, .int .i64 (↑g.1 : Int))]) (fun g => [ow eIs [.slice g.2.2.2.2.1 g.2.2.2.2.2.1 g.2.2.2.2.2.2] ((E0 (j8, f8) ((f7.zip d9).take g.1)).2), ow eIs [.slice g.2.1 g.2.2.1 g.2.2.2.1] ((E0 (j8, f8) ((f7.zip d9).take g.1)).1), pt b8 78 [.slice g.2.1 g.2.2.1 g.2.2.2.1, .slice g.2.2.2.2.1 g.2.2.2.2.2.1 g.2.2.2.2.2.2], pt b6 78 [.slice none 0 0, .slice none 0 0], pt b5 91 [.int .i64 l0, .slice y6 d9.length y5], pt b4 81 [.int .i64 o3, .slice F3 f7.length F2], pt b3 78 [.slice E3 j8.length s4, .slice y8 f8.length y7]]) (fun g => f7.length - g.1) (0, a36_0, (j8).length, c36_0, a36_1, (f8).length, c36_1) ⟨Nat.zero_le _, by rfl⟩ ⟨rfl, rfl, rfl, rfl, rfl, rfl, trivial⟩ (.refl _) (fun g pg => ?_))))))))))))))))))
    obtain ⟨g, aA0_0, mA0_0, cA0_0, aA0_1, mA0_1, cA0_1⟩ := g
    try dsimp only at pg
    try dsimp only
    obtain ⟨pk, pa⟩ := pg
    have jl := b6B (b := (j8, f8)) (t := f7) (v := d9) (g := g)
    have je := a6z (l := (f7.zip d9).take g) (x := (j8, f8)) (show j8.length = f8.length by omega)
    dsimp only at jl
    refine d6 (mS m0) fun eaA0_0 laA0_0 => ?_
    subst eaA0_0
    refine d6 m0 fun eaA0_1 laA0_1 => ?_
    subst eaA0_1
    refine Ew Z1 (Ey rfl ((Y.lss rfl rfl).yd) (n9 (fun q41 => ?_) (fun q41 => ?_)))
    ·refine Eu (Eq_ (o0 rfl (f9 (Et (Eq_ (E.block (Ew Z5 (Em rfl ?_))))))))
     obtain ⟨eb43, eo43, ea43, ei43, eh43⟩ := K8.elemI g om
     refine Ey rfl ((w3 us_Is f5 rfl ea43 rfl g rfl om).yd) (Ey rfl (g9 f5 rfl (eh43 _) rfl) (Ei rfl (Ei rfl (Eu (Eq_ (Ew Z8 (Em rfl (Est rfl (o4 a3n rfl rfl rfl dc tv) (fun _ _ => (Ent.b (fun q46 => ?_) (fun q46 => ?_)))))))))))
     ·refine Em rfl (Ey rfl (r9 (cs := [_, _]) ty_Binding rfl (Has.pt (mS (mS m0))) rfl) (Em rfl (Est rfl (o4 a3l rfl rfl rfl dc (fun w Lp hA => ⟨hA.ow (mS m0), hA.ow m0⟩)) (fun _ _ => (Ey rfl ((Y.lss rfl rfl).yd) (n9 (fun q51 => ?_) (fun q51 => ?_)))))))
      ·refine Ey rfl ((x6 rfl rfl).yd) (Eu (o0 rfl (a3V (κ := (Option Addr × Nat) × (Option Addr × Nat)) (fun _ => True) (fun kM => [(5, .pointer (some ⟨b5, 0, none⟩)), (6, .pointer (some ⟨b6, 0, none⟩)), (8, .pointer (some ⟨b8, 0, none⟩)), (9, .int .i64 (g : Int)), (10, .int .i64 f7[g]), (38, .slice F3 f7.length F2), (39, .int .i64 (↑f7.length : Int)), (40, .int .i64 (g : Int))]) (fun kM => [pt b8 78 [.slice kM.1.1 (((E0 (j8, f8) ((f7.zip d9).take g)).1).length + 1) kM.1.2, .slice kM.2.1 (((E0 (j8, f8) ((f7.zip d9).take g)).2).length + 1) kM.2.2], ow eIs [.slice kM.2.1 (((E0 (j8, f8) ((f7.zip d9).take g)).2).length + 1) kM.2.2] (((E0 (j8, f8) ((f7.zip d9).take g)).2) ++ [d9[g]]), ow eIs [.slice kM.1.1 (((E0 (j8, f8) ((f7.zip d9).take g)).1).length + 1) kM.1.2] (((E0 (j8, f8) ((f7.zip d9).take g)).1) ++ [f7[g]]), pt b6 78 [.slice none 0 0, .slice none 0 0], pt b5 91 [.int .i64 l0, .slice y6 d9.length y5], pt b4 81 [.int .i64 o3, .slice F3 f7.length F2], pt b3 78 [.slice E3 j8.length s4, .slice y8 f8.length y7]]) ?_ (fun kM _ => ?_))))
       ·refine U8 [b8, b6, b5, b4, b3] (fun j => !(Nat.beq j 15) && !(Nat.beq j 17)) mixed (E9 0 rfl rfl dc (i8 fo_Binding_0 ty_Is dc rfl) kr (a1b 1 rfl rfl dc (V3 ty_Is rfl ((W6.pt (mS (mS m0)) (by simp)).sub (cs' := [_]) 0 rfl) rfl) kr (E9 2 rfl rfl dc (k6 rfl) kr (E9 5 rfl rfl dc (i8 fo_Binding_1 ty_Is dc rfl) kr (a1b 6 rfl rfl dc (V3 ty_Is rfl ((W6.pt (mS (mS m0)) (by simp)).sub (cs' := [_]) 1 rfl) rfl) kr (E9 7 rfl rfl dc (i8 fo_Fact_1 ty_Is dc rfl) kr (a1b 8 rfl rfl dc (V3 ty_Is rfl ((W6.pt (mS (mS (mS (mS m0)))) (by simp)).sub (cs' := [_]) 1 rfl) rfl) kr (E9 9 rfl rfl dc (k6 rfl) kr ?_))))))))
        obtain ⟨eb63, eo63, ea63, ei63, eh63⟩ := B4.elemI g om
        refine E9 10 rfl rfl dc (w3 us_Is f5 rfl ea63 rfl g rfl om) kr (a1b 11 rfl rfl dc (V3 f5 rfl (W6.ro eh63) rfl) kr (D4 (i := 3) (j := 12) kr ?_ ?_))
        ·refine I7 3 rfl rfl (fun _ _ => SameI.out) (Nb [_] [_] us_Is f5 rfl rfl) (fun b56 _ => (D4 (i := 4) (j := 12) kr ?_ ?_))
         ·refine j7 (I7 4 rfl rfl (fun _ _ => SameI.out) (B2 (E := Enc.int) (ex := f7[g]) us_Is f5 rfl rfl rfl (Own.int ei43) rfl bn bn dc) (fun p57 _ => (E9 14 rfl rfl dc (i8 fo_Binding_0 ty_Is dc rfl) kr (F8 12 rfl rfl kr (fun _ _ => SameI.out) (Nb [_] [_] us_Is f5 rfl rfl) (fun b65 _ => (j7 (F8 13 rfl rfl kr (fun _ _ => SameI.out) (B2 (E := Enc.int) (ex := d9[g]) us_Is f5 rfl rfl rfl (Own.int ei63) rfl bn bn dc) (fun p66 _ => (j7 (F8 15 rfl rfl kr (fun h => by cases h) (Ns [_, _] ty_Is rfl) (fun _ _ => (E9 16 rfl rfl dc (i8 fo_Binding_1 ty_Is dc rfl) kr (F8 17 rfl rfl kr (fun h => by cases h) (Ns [_, _] ty_Is rfl) (fun _ _ => (V1 kr (v7 (v7 (v7 (v7 (v7 ?_))))))))))))))))))))
          refine v7 (v7 ?_)
          exact S4 (p57, p66) trivial ⟨rfl, rfl, rfl, rfl, rfl, rfl, rfl, rfl, trivial⟩ (.refl _)
         ·refine I7 12 rfl rfl (fun _ _ => SameI.out) (Nb [_] [_] us_Is f5 rfl rfl) (fun b65 _ => (d8 (o2 (F8 4 rfl rfl kr (fun _ _ => SameI.out) (B2 (E := Enc.int) (ex := f7[g]) us_Is f5 rfl rfl rfl (Own.int ei43) rfl bn bn dc) (fun p57 _ => (E9 14 rfl rfl dc (i8 fo_Binding_0 ty_Is dc rfl) kr (d8 (j7 (F8 13 rfl rfl kr (fun _ _ => SameI.out) (B2 (E := Enc.int) (ex := d9[g]) us_Is f5 rfl rfl rfl (Own.int ei63) rfl bn bn dc) (fun p66 _ => (j7 (F8 15 rfl rfl kr (fun h => by cases h) (Ns [_, _] ty_Is rfl) (fun _ _ => (E9 16 rfl rfl dc (i8 fo_Binding_1 ty_Is dc rfl) kr (F8 17 rfl rfl kr (fun h => by cases h) (Ns [_, _] ty_Is rfl) (fun _ _ => (V1 kr (v7 (v7 (v7 ?_))))))))))))))))))))
          refine v7 (v7 (v7 (v7 ?_)))
          exact S4 (p57, p66) trivial ⟨rfl, rfl, rfl, rfl, rfl, rfl, rfl, rfl, trivial⟩ (.refl _)
        ·refine I7 12 rfl rfl (fun _ _ => SameI.out) (Nb [_] [_] us_Is f5 rfl rfl) (fun b65 _ => (F8 3 rfl rfl kr (fun _ _ => SameI.out) (Nb [_] [_] us_Is f5 rfl rfl) (fun b56 _ => (o2 (F8 4 rfl rfl kr (fun _ _ => SameI.out) (B2 (E := Enc.int) (ex := f7[g]) us_Is f5 rfl rfl rfl (Own.int ei43) rfl bn bn dc) (fun p57 _ => (E9 14 rfl rfl dc (i8 fo_Binding_0 ty_Is dc rfl) kr (d8 (j7 (F8 13 rfl rfl kr (fun _ _ => SameI.out) (B2 (E := Enc.int) (ex := d9[g]) us_Is f5 rfl rfl rfl (Own.int ei63) rfl bn bn dc) (fun p66 _ => (j7 (F8 15 rfl rfl kr (fun h => by cases h) (Ns [_, _] ty_Is rfl) (fun _ _ => (E9 16 rfl rfl dc (i8 fo_Binding_1 ty_Is dc rfl) kr (F8 17 rfl rfl kr (fun h => by cases h) (Ns [_, _] ty_Is rfl) (fun _ _ => (V1 kr (v7 (v7 (v7 ?_)))))))))))))))))))))
         refine v7 (v7 (v7 (v7 ?_)))
         exact S4 (p57, p66) trivial ⟨rfl, rfl, rfl, rfl, rfl, rfl, rfl, rfl, trivial⟩ (.refl _)
       ·obtain ⟨p57, p66⟩ := kM
        try dsimp only
        refine Et (Eq_ (D.region (fun j => true) mixed (Dy 0 rfl (r9 (cs := [_, _]) ty_Binding rfl (Has.pt m0) rfl) (Dyp 1 rfl (k6 rfl) (Dyp 3 rfl (i8 fo_Fact_1 ty_Is dc rfl) (Dy 4 rfl (g9 ty_Is rfl (Hz (mS (mS (mS (mS m0)))) 1 rfl) rfl) (Dyp 5 rfl (k6 rfl) ?_)))))))
        obtain ⟨eb75, eo75, ea75, ei75, eh75⟩ := B4.elemI g om
        refine Dyp 6 rfl (w3 us_Is f5 rfl ea75 rfl g rfl om) (Dy 7 rfl (g9 f5 rfl (eh75 _) rfl) (u7 2 rfl rfl kr (fun _ => rfl) (o4 a1j rfl rfl rfl dc (fun w Lp hA => ⟨hA.ow (mS (mS m0)), hA.ow (mS m0)⟩)) (fun _ _ => (Dyp 8 rfl (Y.neq rfl rfl) (n9 (fun q77 => ?_) (fun q77 => ?_))))))
        ·refine t6 kr (Et (o0 rfl (Ew Z3 (Ey rfl ((I3 (pvs := []) (cs := [_, _]) ty_Binding pl_Binding rfl rfl).yd) (o2 (Est rfl (Ns [_, _] ty_Binding rfl) (fun _ _ => (Ei rfl (Eu (E.ret (C9 (s9 (s9 (C9 (s9 (s7 (A := []) (Own.nil (E := Enc.int) (e := tI) (a := none)) rfl (f6 (congrArg (ow eIs [_]) (show _ = cond (v8 (j8, f8) (o3, f7) (l0, d9)) (w8 (j8, f8) (o3, f7) (l0, d9)).2 [] by grind [v8, w8, C2, D8, D9, E6, F0, D7, d1, d2, t1, t2])) (s7 (A := []) (Own.nil (E := Enc.int) (e := tI) (a := none)) rfl (f6 (congrArg (ow eIs [_]) (show _ = cond (v8 (j8, f8) (o3, f7) (l0, d9)) (w8 (j8, f8) (o3, f7) (l0, d9)).1 [] by grind [v8, w8, C2, D8, D9, E6, F0, D7, d1, d2, t1, t2])) (d8 (d8 ?_)))))))))))))))))))))
         exact a1B br rfl rfl rfl (mS (mS m0)) ty_Binding rfl ((none, 0, 0), (none, 0, 0)) trivial (by rw [show (v8 (j8, f8) (o3, f7) (l0, d9)) = (false) from (by grind [v8, w8, C2, D8, D9, E6, F0, D7, d1, d2, t1, t2])]; try rfl) (J := _) (.refl _) (.inl rfl)
        ·refine t6 kr (Et (n8 rfl (f9 (s8 (Et (Ez Z2 (Ey rfl ((Y.add rfl rfl om om).yd) (Em rfl (Eu (j7 (f6 (congrArg (ow eIs [_]) (show ((E0 (j8, f8) ((f7.zip d9).take g)).1) ++ [f7[g]] = (E0 (j8, f8) ((f7.zip d9).take (g + 1))).1 from by grind [v8, w8, C2, D8, D9, E6, F0, D7, d1, d2, t1, t2])) (j7 (f6 (congrArg (ow eIs [_]) (show ((E0 (j8, f8) ((f7.zip d9).take g)).2) ++ [d9[g]] = (E0 (j8, f8) ((f7.zip d9).take (g + 1))).2 from by grind [v8, w8, C2, D8, D9, E6, F0, D7, d1, d2, t1, t2])) (v7 (v7 (v7 (v7 (v7 (v7 (v7 ?_))))))))))))))))))))
         exact Ea (g + 1, p57.1, (((E0 (j8, f8) ((f7.zip d9).take g)).1).length + 1), p57.2, p66.1, (((E0 (j8, f8) ((f7.zip d9).take g)).2).length + 1), p66.2) ⟨oz, (show okV (j8, f8) (f7.zip d9) = okV (E0 (j8, f8) ((f7.zip d9).take (g + 1))) ((f7.zip d9).drop (g + 1)) from by grind [v8, w8, C2, D8, D9, E6, F0, D7, d1, d2, t1, t2])⟩
      ·refine Ey rfl ((x6 rfl rfl).yd) (Eu (n8 rfl (f9 (Et (Eq_ (D.region (fun j => true) mixed (Dy 0 rfl (r9 (cs := [_, _]) ty_Binding rfl (Has.pt (mS (mS m0))) rfl) (Dyp 1 rfl (k6 rfl) (Dyp 3 rfl (i8 fo_Fact_1 ty_Is dc rfl) (Dy 4 rfl (g9 ty_Is rfl (Hz (mS (mS (mS (mS m0)))) 1 rfl) rfl) (Dyp 5 rfl (k6 rfl) ?_)))))))))))
       obtain ⟨eb75, eo75, ea75, ei75, eh75⟩ := B4.elemI g om
       refine Dyp 6 rfl (w3 us_Is f5 rfl ea75 rfl g rfl om) (Dy 7 rfl (g9 f5 rfl (eh75 _) rfl) (u7 2 rfl rfl kr (fun _ => rfl) (o4 a1j rfl rfl rfl dc (fun w Lp hA => ⟨hA.ow (mS m0), hA.ow m0⟩)) (fun _ _ => (Dyp 8 rfl (Y.neq rfl rfl) (n9 (fun q77 => ?_) (fun q77 => ?_))))))
       ·refine t6 kr (Et (o0 rfl (Ew Z3 (Ey rfl ((I3 (pvs := []) (cs := [_, _]) ty_Binding pl_Binding rfl rfl).yd) (o2 (Est rfl (Ns [_, _] ty_Binding rfl) (fun _ _ => (Ei rfl (Eu (E.ret (C9 (s9 (s9 (C9 (s9 (s7 (A := []) (Own.nil (E := Enc.int) (e := tI) (a := none)) rfl (f6 (congrArg (ow eIs [_]) (show _ = cond (v8 (j8, f8) (o3, f7) (l0, d9)) (w8 (j8, f8) (o3, f7) (l0, d9)).2 [] by grind [v8, w8, C2, D8, D9, E6, F0, D7, d1, d2, t1, t2])) (s7 (A := []) (Own.nil (E := Enc.int) (e := tI) (a := none)) rfl (f6 (congrArg (ow eIs [_]) (show _ = cond (v8 (j8, f8) (o3, f7) (l0, d9)) (w8 (j8, f8) (o3, f7) (l0, d9)).1 [] by grind [v8, w8, C2, D8, D9, E6, F0, D7, d1, d2, t1, t2])) (d8 (d8 ?_)))))))))))))))))))))
        exact a1B br rfl rfl rfl (mS (mS m0)) ty_Binding rfl ((none, 0, 0), (none, 0, 0)) trivial (by rw [show (v8 (j8, f8) (o3, f7) (l0, d9)) = (false) from (by grind [v8, w8, C2, D8, D9, E6, F0, D7, d1, d2, t1, t2])]; try rfl) (J := _) (.refl _) (.inl rfl)
       ·refine t6 kr (Et (n8 rfl (f9 (s8 (Et (Ez Z2 (Ey rfl ((Y.add rfl rfl om om).yd) (Em rfl (Eu (d8 (f6 (congrArg (ow eIs [_]) (show (E0 (j8, f8) ((f7.zip d9).take g)).1 = (E0 (j8, f8) ((f7.zip d9).take (g + 1))).1 from by grind [v8, w8, C2, D8, D9, E6, F0, D7, d1, d2, t1, t2])) (d8 (f6 (congrArg (ow eIs [_]) (show (E0 (j8, f8) ((f7.zip d9).take g)).2 = (E0 (j8, f8) ((f7.zip d9).take (g + 1))).2 from by grind [v8, w8, C2, D8, D9, E6, F0, D7, d1, d2, t1, t2])) (v7 (v7 (v7 (v7 (v7 (v7 (v7 ?_))))))))))))))))))))
        exact Ea (g + 1, aA0_0, ((E0 (j8, f8) ((f7.zip d9).take g)).1).length, cA0_0, aA0_1, ((E0 (j8, f8) ((f7.zip d9).take g)).2).length, cA0_1) ⟨oz, (show okV (j8, f8) (f7.zip d9) = okV (E0 (j8, f8) ((f7.zip d9).take (g + 1))) ((f7.zip d9).drop (g + 1)) from by grind [v8, w8, C2, D8, D9, E6, F0, D7, d1, d2, t1, t2])⟩
     ·refine Em rfl (Es rfl (Es rfl (Es rfl (Es rfl (Ey rfl ((z7 rfl rfl).yd) (Eu (n8 rfl (f9 (Et (Eq_ (D.region (fun j => true) mixed (Dy 0 rfl (r9 (cs := [_, _]) ty_Binding rfl (Has.pt (mS (mS m0))) rfl) (Dyp 1 rfl (k6 rfl) (Dyp 3 rfl (i8 fo_Fact_1 ty_Is dc rfl) (Dy 4 rfl (g9 ty_Is rfl (Hz (mS (mS (mS (mS m0)))) 1 rfl) rfl) (Dyp 5 rfl (k6 rfl) ?_))))))))))))))))
      obtain ⟨eb75, eo75, ea75, ei75, eh75⟩ := B4.elemI g om
      refine Dyp 6 rfl (w3 us_Is f5 rfl ea75 rfl g rfl om) (Dy 7 rfl (g9 f5 rfl (eh75 _) rfl) (u7 2 rfl rfl kr (fun _ => rfl) (o4 a1j rfl rfl rfl dc (fun w Lp hA => ⟨hA.ow (mS m0), hA.ow m0⟩)) (fun _ _ => (Dyp 8 rfl (Y.neq rfl rfl) (n9 (fun q77 => ?_) (fun q77 => ?_))))))
      ·refine t6 kr (Et (o0 rfl (Ew Z3 (Ey rfl ((I3 (pvs := []) (cs := [_, _]) ty_Binding pl_Binding rfl rfl).yd) (o2 (Est rfl (Ns [_, _] ty_Binding rfl) (fun _ _ => (Ei rfl (Eu (E.ret (C9 (s9 (s9 (C9 (s9 (s7 (A := []) (Own.nil (E := Enc.int) (e := tI) (a := none)) rfl (f6 (congrArg (ow eIs [_]) (show _ = cond (v8 (j8, f8) (o3, f7) (l0, d9)) (w8 (j8, f8) (o3, f7) (l0, d9)).2 [] by grind [v8, w8, C2, D8, D9, E6, F0, D7, d1, d2, t1, t2])) (s7 (A := []) (Own.nil (E := Enc.int) (e := tI) (a := none)) rfl (f6 (congrArg (ow eIs [_]) (show _ = cond (v8 (j8, f8) (o3, f7) (l0, d9)) (w8 (j8, f8) (o3, f7) (l0, d9)).1 [] by grind [v8, w8, C2, D8, D9, E6, F0, D7, d1, d2, t1, t2])) (d8 (d8 ?_)))))))))))))))))))))
       exact a1B br rfl rfl rfl (mS (mS m0)) ty_Binding rfl ((none, 0, 0), (none, 0, 0)) trivial (by rw [show (v8 (j8, f8) (o3, f7) (l0, d9)) = (false) from (by grind [v8, w8, C2, D8, D9, E6, F0, D7, d1, d2, t1, t2])]; try rfl) (J := _) (.refl _) (.inl rfl)
      ·refine t6 kr (Et (n8 rfl (f9 (s8 (Et (Ez Z2 (Ey rfl ((Y.add rfl rfl om om).yd) (Em rfl (Eu (d8 (f6 (congrArg (ow eIs [_]) (show (E0 (j8, f8) ((f7.zip d9).take g)).1 = (E0 (j8, f8) ((f7.zip d9).take (g + 1))).1 from by grind [v8, w8, C2, D8, D9, E6, F0, D7, d1, d2, t1, t2])) (d8 (f6 (congrArg (ow eIs [_]) (show (E0 (j8, f8) ((f7.zip d9).take g)).2 = (E0 (j8, f8) ((f7.zip d9).take (g + 1))).2 from by grind [v8, w8, C2, D8, D9, E6, F0, D7, d1, d2, t1, t2])) (v7 (v7 (v7 (v7 (v7 (v7 (v7 ?_))))))))))))))))))))
       exact Ea (g + 1, aA0_0, ((E0 (j8, f8) ((f7.zip d9).take g)).1).length, cA0_0, aA0_1, ((E0 (j8, f8) ((f7.zip d9).take g)).2).length, cA0_1) ⟨oz, (show okV (j8, f8) (f7.zip d9) = okV (E0 (j8, f8) ((f7.zip d9).take (g + 1))) ((f7.zip d9).drop (g + 1)) from by grind [v8, w8, C2, D8, D9, E6, F0, D7, d1, d2, t1, t2])⟩
    ·refine Eu (Eq_ (n8 rfl (E.exit (l3 (l3 (y4 (Et (Ew Z3 (Ey rfl (r9 (cs := [_, _]) ty_Binding rfl (Has.pt (mS (mS m0))) rfl) (o2 (Est rfl (Ns [_, _] ty_Binding rfl) (fun _ _ => (Ei rfl (Eu (E.ret (d8 (f6 (congrArg (ow eIs [_]) (show _ = cond (v8 (j8, f8) (o3, f7) (l0, d9)) (w8 (j8, f8) (o3, f7) (l0, d9)).2 [] by grind [v8, w8, C2, D8, D9, E6, F0, D7, d1, d2, t1, t2])) (j7 (f6 (congrArg (ow eIs [_]) (show _ = cond (v8 (j8, f8) (o3, f7) (l0, d9)) (w8 (j8, f8) (o3, f7) (l0, d9)).1 [] by grind [v8, w8, C2, D8, D9, E6, F0, D7, d1, d2, t1, t2])) (d8 (d8 ?_)))))))))))))))))))))
     exact a1B br rfl rfl rfl (mS (mS m0)) ty_Binding rfl ((_, _, _), (_, _, _)) trivial (by rw [show (v8 (j8, f8) (o3, f7) (l0, d9)) = (true) from (by grind [v8, w8, C2, D8, D9, E6, F0, D7, d1, d2, t1, t2])]; try rfl) (J := _) (.refl _) (.inl rfl)
theorem a4C (hb1 : j8.length ≤ 1000) (hb2 : f8.length ≤ 1000) (hat : f7.length ≤ 1000) : Tr Tryz.prog 129 [.agg #[.slice E3 G7 s4, .slice y8 B8 y7], .agg #[.int .i64 o3, .slice F3 J6 F2], .agg #[.int .i64 l0, .slice y6 B7 y5]] (fun w L => Ro w L eIs [.slice E3 G7 s4] j8 ∧ Ro w L eIs [.slice y8 B8 y7] f8 ∧ I64 o3 ∧ Ro w L eIs [.slice F3 J6 F2] f7 ∧ I64 l0 ∧ Ro w L eIs [.slice y6 B7 y5] d9) [] (κ := (Option Addr × Nat × Nat) × (Option Addr × Nat × Nat)) (fun k => True) (fun k => .tuple #[.agg #[.slice k.1.1 k.1.2.1 k.1.2.2, .slice k.2.1 k.2.2.1 k.2.2.2], .bool (v8 (j8, f8) (o3, f7) (l0, d9))]) (fun k => [ow eIs [.slice k.1.1 k.1.2.1 k.1.2.2] (cond (v8 (j8, f8) (o3, f7) (l0, d9)) (w8 (j8, f8) (o3, f7) (l0, d9)).1 []), ow eIs [.slice k.2.1 k.2.2.1 k.2.2.2] (cond (v8 (j8, f8) (o3, f7) (l0, d9)) (w8 (j8, f8) (o3, f7) (l0, d9)).2 [])]) := by
 refine Tr.intro Tryz.func129 rfl (n := 88) rfl (by decide +kernel) bl (fr := [(0, .agg #[.slice E3 G7 s4, .slice y8 B8 y7]), (1, .agg #[.int .i64 o3, .slice F3 J6 F2]), (2, .agg #[.int .i64 l0, .slice y6 B7 y5])]) rfl fun w L hR => ?_
 obtain ⟨G8, C6, a0y, K8, H5, B4⟩ := hR
 obtain ⟨rfl, a1n⟩ := G8.slen
 obtain ⟨rfl, S9⟩ := C6.slen
 obtain ⟨rfl, a2R⟩ := K8.slen
 obtain ⟨rfl, R4⟩ := B4.slen
 refine Ew Z5 (Est rfl (N.box (cs := [_, _]) rfl dc rfl) (fun b3 _ => (Est rfl (N.box (cs := [_, _]) rfl dc rfl) (fun b4 _ => (Est rfl (N.box (cs := [_, _]) rfl dc rfl) (fun b5 _ => (Est rfl (N.alloc ty_Binding dc) (fun b6 _ => (Ei rfl (Ev Z4 (Ey rfl (r9 (cs := [_, _]) ty_Binding rfl (Has.pt (mS (mS (mS m0)))) rfl) (Est rfl (N.call (a6Q fc fc) rfl rfl rfl dc rfl (fun w Lp hA => ⟨hA.ro G8, hA.ro C6⟩)) (fun k12 _ => ?_)))))))))))))
 obtain ⟨⟨a12_0, m12_0, c12_0⟩, ⟨a12_1, m12_1, c12_1⟩⟩ := k12
 refine d6 m0 fun e12_0 l12_0 => ?_
 subst e12_0
 refine d6 (mS m0) fun e12_1 l12_1 => ?_
 subst e12_1
 refine Est rfl (N.alloc ty_Binding dc) (fun b8 _ => (Est rfl (Ns [_, _] ty_Binding rfl) (fun _ _ => (Eu (Eq_ (Ew Z23 (Ey rfl ((i8 fo_Atom_0 f5 dc rfl).yd) (Ey rfl (g9 f5 rfl ((Has.pt (mS (mS (mS (mS (mS m0)))))).sub (cs' := [_]) 0 rfl) rfl) (Ey rfl ((i8 fo_Fact_0 f5 dc rfl).yd) (Ey rfl (g9 f5 rfl (Hz (mS (mS (mS (mS m0)))) 0 rfl) rfl) (Ey rfl ((Y.neq rfl rfl).yd) (n9 (fun q17 => ?_) (fun q17 => ?_)))))))))))))
 ·refine Em rfl (Es rfl (Es rfl (Es rfl (Es rfl (Es rfl (Es rfl (Es rfl (Ey rfl ((x6 rfl rfl).yd) (Em rfl (Es rfl (Es rfl (Es rfl (Es rfl (Es rfl ?_))))))))))))))
  refine Es rfl (Es rfl (Ey rfl ((x6 rfl rfl).yd) (Eu (o0 rfl (Ew Z3 (Ey rfl ((I3 (pvs := []) (cs := [_, _]) ty_Binding pl_Binding rfl rfl).yd) (o2 (Est rfl (Ns [_, _] ty_Binding rfl) (fun _ _ => (Ei rfl (Eu (E.ret (s9 (s7 (A := []) (Own.nil (E := Enc.int) (e := tI) (a := none)) rfl (f6 (congrArg (ow eIs [_]) (show _ = cond (v8 (j8, f8) (o3, f7) (l0, d9)) (w8 (j8, f8) (o3, f7) (l0, d9)).2 [] by grind [v8, w8, C2, D8, D9, E6, F0, D7, O4, d1, d2, t1, t2])) (s7 (A := []) (Own.nil (E := Enc.int) (e := tI) (a := none)) rfl (f6 (congrArg (ow eIs [_]) (show _ = cond (v8 (j8, f8) (o3, f7) (l0, d9)) (w8 (j8, f8) (o3, f7) (l0, d9)).1 [] by grind [v8, w8, C2, D8, D9, E6, F0, D7, O4, d1, d2, t1, t2])) (d8 (d8 ?_)))))))))))))))))))
  exact a1B br rfl rfl rfl (mS (mS m0)) ty_Binding rfl ((none, 0, 0), (none, 0, 0)) trivial (by rw [show (v8 (j8, f8) (o3, f7) (l0, d9)) = (false) from (by grind [v8, w8, C2, D8, D9, E6, F0, D7, O4, d1, d2, t1, t2])]; try rfl) (J := _) (.refl _) (.inl rfl)
 ·refine Em rfl (Ey rfl ((i8 fo_Atom_1 ty_Is dc rfl).yd) (Ey rfl (g9 ty_Is rfl ((Has.pt (mS (mS (mS (mS (mS m0)))))).sub (cs' := [_]) 1 rfl) rfl) (Ey rfl ((Y.len us_Is rfl).yd) (Ey rfl ((i8 fo_Fact_1 ty_Is dc rfl).yd) (Ey rfl (g9 ty_Is rfl (Hz (mS (mS (mS (mS m0)))) 1 rfl) rfl) (Ey rfl ((Y.len us_Is rfl).yd) (Ey rfl ((Y.neq rfl rfl).yd) (n9 (fun q25 => ?_) (fun q25 => ?_)))))))))
  ·refine Ey rfl ((z7 rfl rfl).yd) (Em rfl (Es rfl (Es rfl (Es rfl (Es rfl (Es rfl (Es rfl (Es rfl (Ey rfl ((x6 rfl rfl).yd) (Eu (o0 rfl (Ew Z3 (Ey rfl ((I3 (pvs := []) (cs := [_, _]) ty_Binding pl_Binding rfl rfl).yd) (o2 (Est rfl (Ns [_, _] ty_Binding rfl) (fun _ _ => (Ei rfl (Eu (E.ret (s9 (s7 (A := []) (Own.nil (E := Enc.int) (e := tI) (a := none)) rfl ?_)))))))))))))))))))))
   refine f6 (congrArg (ow eIs [_]) (show _ = cond (v8 (j8, f8) (o3, f7) (l0, d9)) (w8 (j8, f8) (o3, f7) (l0, d9)).2 [] by grind [v8, w8, C2, D8, D9, E6, F0, D7, O4, d1, d2, t1, t2])) (s7 (A := []) (Own.nil (E := Enc.int) (e := tI) (a := none)) rfl (f6 (congrArg (ow eIs [_]) (show _ = cond (v8 (j8, f8) (o3, f7) (l0, d9)) (w8 (j8, f8) (o3, f7) (l0, d9)).1 [] by grind [v8, w8, C2, D8, D9, E6, F0, D7, O4, d1, d2, t1, t2])) (d8 (d8 ?_))))
   exact a1B br rfl rfl rfl (mS (mS m0)) ty_Binding rfl ((none, 0, 0), (none, 0, 0)) trivial (by rw [show (v8 (j8, f8) (o3, f7) (l0, d9)) = (false) from (by grind [v8, w8, C2, D8, D9, E6, F0, D7, O4, d1, d2, t1, t2])]; try rfl) (J := _) (.refl _) (.inl rfl)
  ·refine Ey rfl ((z7 rfl rfl).yd) (Em rfl (Ey rfl ((i8 fo_Binding_0 ty_Is dc rfl).yd) (Ey rfl (g9 ty_Is rfl ((Has.pt (mS (mS (mS (mS (mS (mS m0))))))).sub (cs' := [_]) 0 rfl) rfl) (Ey rfl ((Y.len us_Is rfl).yd) (Ey rfl ((i8 fo_Binding_1 ty_Is dc rfl).yd) (Ey rfl (g9 ty_Is rfl ((Has.pt (mS (mS (mS (mS (mS (mS m0))))))).sub (cs' := [_]) 1 rfl) rfl) (Ey rfl ((Y.len us_Is rfl).yd) (Ey rfl ((Y.neq rfl rfl).yd) (n9 (fun q34 => ?_) (fun q34 => ?_))))))))))
   ·refine Ey rfl ((z7 rfl rfl).yd) (Eu (o0 rfl (Ew Z3 (Ey rfl ((I3 (pvs := []) (cs := [_, _]) ty_Binding pl_Binding rfl rfl).yd) (o2 (Est rfl (Ns [_, _] ty_Binding rfl) (fun _ _ => (Ei rfl (Eu (E.ret (s9 (s7 (A := []) (Own.nil (E := Enc.int) (e := tI) (a := none)) rfl (f6 (congrArg (ow eIs [_]) (show _ = cond (v8 (j8, f8) (o3, f7) (l0, d9)) (w8 (j8, f8) (o3, f7) (l0, d9)).2 [] by grind [v8, w8, C2, D8, D9, E6, F0, D7, O4, d1, d2, t1, t2])) (s7 (A := []) (Own.nil (E := Enc.int) (e := tI) (a := none)) rfl (f6 (congrArg (ow eIs [_]) (show _ = cond (v8 (j8, f8) (o3, f7) (l0, d9)) (w8 (j8, f8) (o3, f7) (l0, d9)).1 [] by grind [v8, w8, C2, D8, D9, E6, F0, D7, O4, d1, d2, t1, t2])) (d8 (d8 ?_)))))))))))))))))
    exact a1B br rfl rfl rfl (mS (mS m0)) ty_Binding rfl ((none, 0, 0), (none, 0, 0)) trivial (by rw [show (v8 (j8, f8) (o3, f7) (l0, d9)) = (false) from (by grind [v8, w8, C2, D8, D9, E6, F0, D7, O4, d1, d2, t1, t2])]; try rfl) (J := _) (.refl _) (.inl rfl)
   ·refine Ey rfl ((z7 rfl rfl).yd) (Eu (n8 rfl (f9 (Et (Eq_ (Ew Z1 (Ei rfl (Eu (E.block (d8 (f6 (congrArg (ow eIs [_]) (show j8 = (E0 (j8, f8) ((f7.zip d9).take 0)).1 from by first | rfl | (simp; done) | grind [v8, w8, C2, D8, D9, E6, F0, D7, O4, d1, d2, t1, t2])) (j7 (f6 (congrArg (ow eIs [_]) (show f8 = (E0 (j8, f8) ((f7.zip d9).take 0)).2 from by first | rfl | (simp; done) | grind [v8, w8, C2, D8, D9, E6, F0, D7, O4, d1, d2, t1, t2])) (E.loop (κ := Nat × Option Addr × Nat × Nat × Option Addr × Nat × Nat) (fun g => g.1 ≤ f7.length ∧ okV (j8, f8) (f7.zip d9) = okV (E0 (j8, f8) ((f7.zip d9).take g.1)) ((f7.zip d9).drop g.1)) (fun g => [(4, .pointer (some ⟨b4, 0, none⟩)), (5, .pointer (some ⟨b5, 0, none⟩)), (6, .pointer (some ⟨b6, 0, none⟩)), (8, .pointer (some ⟨b8, 0, none⟩)), (9, .int .i64 (↑g.1 : Int))]) (fun g => [ow eIs [.slice g.2.2.2.2.1 g.2.2.2.2.2.1 g.2.2.2.2.2.2] ((E0 (j8, f8) ((f7.zip d9).take g.1)).2), ow eIs [.slice g.2.1 g.2.2.1 g.2.2.2.1] ((E0 (j8, f8) ((f7.zip d9).take g.1)).1), pt b8 78 [.slice g.2.1 g.2.2.1 g.2.2.2.1, .slice g.2.2.2.2.1 g.2.2.2.2.2.1 g.2.2.2.2.2.2], pt b6 78 [.slice none 0 0, .slice none 0 0], pt b5 91 [.int .i64 l0, .slice y6 d9.length y5], pt b4 81 [.int .i64 o3, .slice F3 f7.length F2], pt b3 78 [.slice E3 j8.length s4, .slice y8 f8.length y7]]) (fun g => f7.length - g.1) (0, a12_0, (j8).length, c12_0, a12_1, (f8).length, c12_1) ⟨Nat.zero_le _, by rfl⟩ ⟨rfl, rfl, rfl, rfl, rfl, trivial⟩ (.refl _) (fun g pg => ?_)))))))))))))))
    obtain ⟨g, aA0_0, mA0_0, cA0_0, aA0_1, mA0_1, cA0_1⟩ := g
    try dsimp only at pg
    try dsimp only
    obtain ⟨pk, pa⟩ := pg
    have jl := b6B (b := (j8, f8)) (t := f7) (v := d9) (g := g)
    have je := a6z (l := (f7.zip d9).take g) (x := (j8, f8)) (show j8.length = f8.length by omega)
    dsimp only at jl
    refine d6 (mS m0) fun eaA0_0 laA0_0 => ?_
    subst eaA0_0
    refine d6 m0 fun eaA0_1 laA0_1 => ?_
    subst eaA0_1
    refine Eq_ (Ew Z5 (Em rfl (Ey rfl ((i8 fo_Atom_1 ty_Is dc rfl).yd) (Ey rfl (g9 ty_Is rfl ((Has.pt (mS (mS (mS (mS (mS m0)))))).sub (cs' := [_]) 1 rfl) rfl) (Ey rfl ((Y.len us_Is rfl).yd) (Ey rfl ((Y.lss rfl rfl).yd) (n9 (fun q41 => ?_) (fun q41 => ?_))))))))
    ·refine Eu (o0 rfl (f9 (Et (Eq_ (E.block (Eq_ (D.region (fun j => true) mixed (Dy 0 rfl (r9 (cs := [_, _]) ty_Binding rfl (Has.pt (mS (mS m0))) rfl) (Dyp 1 rfl (i8 fo_Atom_1 ty_Is dc rfl) (Dy 2 rfl (g9 ty_Is rfl ((Has.pt (mS (mS (mS (mS (mS m0)))))).sub (cs' := [_]) 1 rfl) rfl) (Dyp 3 rfl (k6 rfl) ?_)))))))))))
     obtain ⟨eb48, eo48, ea48, ei48, eh48⟩ := K8.elemI g om
     refine Dyp 4 rfl (w3 us_Is f5 rfl ea48 rfl g rfl om) (Dy 5 rfl (g9 f5 rfl (eh48 _) rfl) (u7 6 rfl rfl kr (fun _ => rfl) (o4 a3K rfl rfl rfl dc (fun w Lp hA => ⟨hA.ow (mS m0), hA.ow m0⟩)) (fun _ _ => (Dyp 7 rfl (F1 rfl) (t6 kr (Et (Eq_ (D.region (fun j => true) mixed (Dyp 0 rfl (i8 fo_Atom_1 ty_Is dc rfl) (Dy 1 rfl (g9 ty_Is rfl ((Has.pt (mS (mS (mS (mS (mS m0)))))).sub (cs' := [_]) 1 rfl) rfl) (Dyp 2 rfl (k6 rfl) (Dyp 3 rfl (w3 us_Is f5 rfl ea48 rfl g rfl om) (Dy 4 rfl (g9 f5 rfl (eh48 _) rfl) (u7 5 rfl rfl kr (fun _ => rfl) (o4 a3t rfl rfl rfl dc tv) (fun _ _ => (Ent.b (fun q56 => ?_) (fun q56 => ?_)))))))))))))))))
     ·refine Dyp 6 rfl (k6 rfl) (Dy 7 rfl (r9 (cs := [_, _]) ty_Binding rfl (Has.pt (mS (mS m0))) rfl) (Dyp 8 rfl (i8 fo_Atom_1 ty_Is dc rfl) (Dy 9 rfl (g9 ty_Is rfl ((Has.pt (mS (mS (mS (mS (mS m0)))))).sub (cs' := [_]) 1 rfl) rfl) (Dyp 10 rfl (k6 rfl) (Dyp 11 rfl (w3 us_Is f5 rfl ea48 rfl g rfl om) (Dy 12 rfl (g9 f5 rfl (eh48 _) rfl) (u7 13 rfl rfl kr (fun _ => rfl) (o4 b0k rfl rfl rfl dc (fun w Lp hA => ⟨hA.ow (mS m0), hA.ow m0⟩)) (fun _ _ => (Ent.b (fun q64 => ?_) (fun q64 => ?_))))))))))
      ·refine Dyp 14 rfl (Y.not (b := true) rfl) (Dyp 15 rfl (x6 rfl rfl) (t6 kr (Et (n8 rfl (Ew Z7 (Em rfl (Ey rfl ((i8 fo_Fact_1 ty_Is dc rfl).yd) (Ey rfl (g9 ty_Is rfl (Hz (mS (mS (mS (mS m0)))) 1 rfl) rfl) (Em rfl ?_)))))))))
       obtain ⟨eb83, eo83, ea83, ei83, eh83⟩ := B4.elemI g om
       refine Ey rfl ((w3 us_Is f5 rfl ea83 rfl g rfl om).yd) (Ey rfl (g9 f5 rfl (eh83 _) rfl) (Ey rfl ((Y.neq rfl rfl).yd) (n9 (fun q85 => ?_) (fun q85 => ?_))))
       ·refine Eu (o0 rfl (Ew Z3 (Ey rfl ((I3 (pvs := []) (cs := [_, _]) ty_Binding pl_Binding rfl rfl).yd) (o2 (Est rfl (Ns [_, _] ty_Binding rfl) (fun _ _ => (Ei rfl (Eu (E.ret (C9 (s9 (s9 (C9 (s9 (s7 (A := []) (Own.nil (E := Enc.int) (e := tI) (a := none)) rfl (f6 (congrArg (ow eIs [_]) (show _ = cond (v8 (j8, f8) (o3, f7) (l0, d9)) (w8 (j8, f8) (o3, f7) (l0, d9)).2 [] by grind [v8, w8, C2, D8, D9, E6, F0, D7, O4, d1, d2, t1, t2])) (s7 (A := []) (Own.nil (E := Enc.int) (e := tI) (a := none)) rfl (f6 (congrArg (ow eIs [_]) (show _ = cond (v8 (j8, f8) (o3, f7) (l0, d9)) (w8 (j8, f8) (o3, f7) (l0, d9)).1 [] by grind [v8, w8, C2, D8, D9, E6, F0, D7, O4, d1, d2, t1, t2])) (d8 (d8 ?_))))))))))))))))))))
        exact a1B br rfl rfl rfl (mS (mS m0)) ty_Binding rfl ((none, 0, 0), (none, 0, 0)) trivial (by rw [show (v8 (j8, f8) (o3, f7) (l0, d9)) = (false) from (by grind [v8, w8, C2, D8, D9, E6, F0, D7, O4, d1, d2, t1, t2])]; try rfl) (J := _) (.refl _) (.inl rfl)
       ·refine Eu (n8 rfl (f9 (s8 (Et (Ez Z3 (Em rfl (Ey rfl ((Y.add rfl rfl om om).yd) (Ei rfl (Eu (d8 (f6 (congrArg (ow eIs [_]) (show (E0 (j8, f8) ((f7.zip d9).take g)).1 = (E0 (j8, f8) ((f7.zip d9).take (g + 1))).1 from by grind [v8, w8, C2, D8, D9, E6, F0, D7, O4, d1, d2, t1, t2])) (d8 (f6 (congrArg (ow eIs [_]) (show (E0 (j8, f8) ((f7.zip d9).take g)).2 = (E0 (j8, f8) ((f7.zip d9).take (g + 1))).2 from by grind [v8, w8, C2, D8, D9, E6, F0, D7, O4, d1, d2, t1, t2])) (v7 (v7 (v7 (v7 (v7 (v7 (v7 ?_))))))))))))))))))))
        exact Ea (g + 1, aA0_0, ((E0 (j8, f8) ((f7.zip d9).take g)).1).length, cA0_0, aA0_1, ((E0 (j8, f8) ((f7.zip d9).take g)).2).length, cA0_1) ⟨oz, (show okV (j8, f8) (f7.zip d9) = okV (E0 (j8, f8) ((f7.zip d9).take (g + 1))) ((f7.zip d9).drop (g + 1)) from by grind [v8, w8, C2, D8, D9, E6, F0, D7, O4, d1, d2, t1, t2])⟩
      ·refine Dyp 14 rfl (Y.not (b := false) rfl) (Dyp 15 rfl (x6 rfl rfl) (t6 kr (Et (o0 rfl (D.region (fun j => !(Nat.beq j 12)) mixed (Dy 0 rfl (r9 (cs := [_, _]) ty_Binding rfl (Has.pt (mS (mS m0))) rfl) (Dyp 1 rfl (i8 fo_Atom_1 ty_Is dc rfl) (Dy 2 rfl (g9 ty_Is rfl ((Has.pt (mS (mS (mS (mS (mS m0)))))).sub (cs' := [_]) 1 rfl) rfl) (Dyp 3 rfl (k6 rfl) (Dyp 4 rfl (w3 us_Is f5 rfl ea48 rfl g rfl om) (Dy 5 rfl (g9 f5 rfl (eh48 _) rfl) (Dyp 6 rfl (i8 fo_Fact_1 ty_Is dc rfl) (Dy 7 rfl (g9 ty_Is rfl (Hz (mS (mS (mS (mS m0)))) 1 rfl) rfl) (Dyp 8 rfl (k6 rfl) ?_))))))))))))))
       obtain ⟨eb76, eo76, ea76, ei76, eh76⟩ := B4.elemI g om
       refine Dyp 9 rfl (w3 us_Is f5 rfl ea76 rfl g rfl om) (Dy 10 rfl (g9 f5 rfl (eh76 _) rfl) (u7 11 rfl rfl kr (fun _ => rfl) (N.call (a6Y fc fc) rfl rfl rfl dc rfl (fun w Lp hA => ⟨hA.ow (mS m0), hA.ow m0, ei48, ei76⟩)) (fun k78 _ => ?_)))
       obtain ⟨⟨a78_0, m78_0, c78_0⟩, ⟨a78_1, m78_1, c78_1⟩⟩ := k78
       refine d6 m0 fun e78_0 l78_0 => ?_
       subst e78_0
       refine d6 (mS m0) fun e78_1 l78_1 => ?_
       subst e78_1
       refine n0 (u7 12 rfl rfl kr (fun h => by cases h) (Ns [_, _] ty_Binding rfl) (fun _ _ => (t6 kr (s8 (Et (Ez Z3 (Em rfl (Ey rfl ((Y.add rfl rfl om om).yd) (Ei rfl (Eu (o2 (Ent.drop (o2 (Ent.drop (d8 (f6 (congrArg (ow eIs [_]) (show ((E0 (j8, f8) ((f7.zip d9).take g)).1) ++ [f7[g]] = (E0 (j8, f8) ((f7.zip d9).take (g + 1))).1 from by grind [v8, w8, C2, D8, D9, E6, F0, D7, O4, d1, d2, t1, t2])) (j7 (f6 (congrArg (ow eIs [_]) (show ((E0 (j8, f8) ((f7.zip d9).take g)).2) ++ [d9[g]] = (E0 (j8, f8) ((f7.zip d9).take (g + 1))).2 from by grind [v8, w8, C2, D8, D9, E6, F0, D7, O4, d1, d2, t1, t2])) (v7 (v7 ?_))))))))))))))))))))
       refine v7 (v7 (v7 (v7 (v7 ?_))))
       exact Ea (g + 1, a78_0, (((E0 (j8, f8) ((f7.zip d9).take g)).1) ++ [f7[g]]).length, c78_0, a78_1, (((E0 (j8, f8) ((f7.zip d9).take g)).2) ++ [d9[g]]).length, c78_1) ⟨oz, (show okV (j8, f8) (f7.zip d9) = okV (E0 (j8, f8) ((f7.zip d9).take (g + 1))) ((f7.zip d9).drop (g + 1)) from by grind [v8, w8, C2, D8, D9, E6, F0, D7, O4, d1, d2, t1, t2])⟩
     ·refine Dyp 6 rfl (k6 rfl) (Dsk 7 rfl (Dsk 8 rfl (Dsk 9 rfl (Dsk 10 rfl (Dsk 11 rfl (Dsk 12 rfl (Dsk 13 rfl (Dsk 14 rfl (Dyp 15 rfl (z7 rfl rfl) (t6 kr (Et (n8 rfl (Ew Z7 (Em rfl (Ey rfl ((i8 fo_Fact_1 ty_Is dc rfl).yd) (Ey rfl (g9 ty_Is rfl (Hz (mS (mS (mS (mS m0)))) 1 rfl) rfl) (Em rfl ?_)))))))))))))))))
      obtain ⟨eb83, eo83, ea83, ei83, eh83⟩ := B4.elemI g om
      refine Ey rfl ((w3 us_Is f5 rfl ea83 rfl g rfl om).yd) (Ey rfl (g9 f5 rfl (eh83 _) rfl) (Ey rfl ((Y.neq rfl rfl).yd) (n9 (fun q85 => ?_) (fun q85 => ?_))))
      ·refine Eu (o0 rfl (Ew Z3 (Ey rfl ((I3 (pvs := []) (cs := [_, _]) ty_Binding pl_Binding rfl rfl).yd) (o2 (Est rfl (Ns [_, _] ty_Binding rfl) (fun _ _ => (Ei rfl (Eu (E.ret (C9 (s9 (s9 (C9 (s9 (s7 (A := []) (Own.nil (E := Enc.int) (e := tI) (a := none)) rfl (f6 (congrArg (ow eIs [_]) (show _ = cond (v8 (j8, f8) (o3, f7) (l0, d9)) (w8 (j8, f8) (o3, f7) (l0, d9)).2 [] by grind [v8, w8, C2, D8, D9, E6, F0, D7, O4, d1, d2, t1, t2])) (s7 (A := []) (Own.nil (E := Enc.int) (e := tI) (a := none)) rfl (f6 (congrArg (ow eIs [_]) (show _ = cond (v8 (j8, f8) (o3, f7) (l0, d9)) (w8 (j8, f8) (o3, f7) (l0, d9)).1 [] by grind [v8, w8, C2, D8, D9, E6, F0, D7, O4, d1, d2, t1, t2])) (d8 (d8 ?_))))))))))))))))))))
       exact a1B br rfl rfl rfl (mS (mS m0)) ty_Binding rfl ((none, 0, 0), (none, 0, 0)) trivial (by rw [show (v8 (j8, f8) (o3, f7) (l0, d9)) = (false) from (by grind [v8, w8, C2, D8, D9, E6, F0, D7, O4, d1, d2, t1, t2])]; try rfl) (J := _) (.refl _) (.inl rfl)
      ·refine Eu (n8 rfl (f9 (s8 (Et (Ez Z3 (Em rfl (Ey rfl ((Y.add rfl rfl om om).yd) (Ei rfl (Eu (d8 (f6 (congrArg (ow eIs [_]) (show (E0 (j8, f8) ((f7.zip d9).take g)).1 = (E0 (j8, f8) ((f7.zip d9).take (g + 1))).1 from by grind [v8, w8, C2, D8, D9, E6, F0, D7, O4, d1, d2, t1, t2])) (d8 (f6 (congrArg (ow eIs [_]) (show (E0 (j8, f8) ((f7.zip d9).take g)).2 = (E0 (j8, f8) ((f7.zip d9).take (g + 1))).2 from by grind [v8, w8, C2, D8, D9, E6, F0, D7, O4, d1, d2, t1, t2])) (v7 (v7 (v7 (v7 (v7 (v7 (v7 ?_))))))))))))))))))))
       exact Ea (g + 1, aA0_0, ((E0 (j8, f8) ((f7.zip d9).take g)).1).length, cA0_0, aA0_1, ((E0 (j8, f8) ((f7.zip d9).take g)).2).length, cA0_1) ⟨oz, (show okV (j8, f8) (f7.zip d9) = okV (E0 (j8, f8) ((f7.zip d9).take (g + 1))) ((f7.zip d9).drop (g + 1)) from by grind [v8, w8, C2, D8, D9, E6, F0, D7, O4, d1, d2, t1, t2])⟩
    ·refine Eu (n8 rfl (E.exit (l3 (l3 (y4 (Et (Ew Z3 (Ey rfl (r9 (cs := [_, _]) ty_Binding rfl (Has.pt (mS (mS m0))) rfl) (o2 (Est rfl (Ns [_, _] ty_Binding rfl) (fun _ _ => (Ei rfl (Eu (E.ret (d8 (f6 (congrArg (ow eIs [_]) (show _ = cond (v8 (j8, f8) (o3, f7) (l0, d9)) (w8 (j8, f8) (o3, f7) (l0, d9)).2 [] by grind [v8, w8, C2, D8, D9, E6, F0, D7, O4, d1, d2, t1, t2])) (j7 (f6 (congrArg (ow eIs [_]) (show _ = cond (v8 (j8, f8) (o3, f7) (l0, d9)) (w8 (j8, f8) (o3, f7) (l0, d9)).1 [] by grind [v8, w8, C2, D8, D9, E6, F0, D7, O4, d1, d2, t1, t2])) (d8 (d8 ?_))))))))))))))))))))
     exact a1B br rfl rfl rfl (mS (mS m0)) ty_Binding rfl ((_, _, _), (_, _, _)) trivial (by rw [show (v8 (j8, f8) (o3, f7) (l0, d9)) = (true) from (by grind [v8, w8, C2, D8, D9, E6, F0, D7, O4, d1, d2, t1, t2])]; try rfl) (J := _) (.refl _) (.inl rfl)
theorem a9k (hbl : ∀ b ∈ l, b.1.length ≤ 1000 ∧ b.2.length ≤ 1000) (hat : f7.length ≤ 1000) (hk : Few (o3, f7) c6) (hn : l.length * 1000 ≤ 1000000000000) : Tr Tryz.prog 123 [.slice a_l m_l c_l, .agg #[.int .i64 o3, .slice F3 J6 F2], .slice a_facts m_facts c_facts] (fun w L => Ro w L H1 [.slice a_l m_l c_l] l ∧ I64 o3 ∧ Ro w L eIs [.slice F3 J6 F2] f7 ∧ Ro w L s6 [.slice a_facts m_facts c_facts] c6) [] (κ := Option Addr × Nat × Nat) (fun k => True) (fun k => .slice k.1 k.2.1 k.2.2) (fun k => [ow H1 [.slice k.1 k.2.1 k.2.2] (I0 l (o3, f7) c6)]) := by
 refine Tr.intro Tryz.func123 rfl (n := 42) rfl (by decide +kernel) bl (fr := [(0, .slice a_l m_l c_l), (1, .agg #[.int .i64 o3, .slice F3 J6 F2]), (2, .slice a_facts m_facts c_facts)]) rfl fun w L hR => ?_
 obtain ⟨hl, a0y, K8, hfacts⟩ := hR
 obtain ⟨rfl, ll⟩ := hl.slen
 obtain ⟨rfl, a2R⟩ := K8.slen
 obtain ⟨rfl, lfacts⟩ := hfacts.slen
 refine Ew Z2 (Est rfl (N.box (cs := [_, _]) rfl dc rfl) (fun b4 _ => (Ei rfl (Ev Z2 (Est rfl (Nb [] [] us_Bindings ty_Binding rfl rfl) (fun b14 _ => (Ent.drop (Ei rfl (Eu (Eq_ (Ew Z3 (Em rfl (Ey rfl ((Y.len us_Bindings rfl).yd) (Em rfl (Eu (E.block (s7 (A := []) (Own.nil (E := a0j) (e := tBinding) (a := (some ⟨b14, 0, none⟩))) rfl (f6 (congrArg (ow H1 [_]) (show [] = I0 (l.take 0) (o3, f7) c6 from by first | rfl | (simp; done) | grind [X3, a0k, a0i, X5, d1, d2, t1, t2])) (E.loop (κ := Nat × Option Addr × Nat × Nat) (fun g => g.1 ≤ l.length ∧ True) (fun g => [(2, .slice a_facts c6.length c_facts), (4, .pointer (some ⟨b4, 0, none⟩)), (7, .slice g.2.1 g.2.2.1 g.2.2.2), (15, .slice a_l l.length c_l), (16, .int .i64 (↑l.length : Int)), (17, .int .i64 (↑g.1 : Int))]) (fun g => [ow H1 [.slice g.2.1 g.2.2.1 g.2.2.2] (I0 (l.take g.1) (o3, f7) c6), pt b4 81 [.int .i64 o3, .slice F3 f7.length F2]]) (fun g => l.length - g.1) (0, (some ⟨b14, 0, none⟩), 0, 0) ⟨Nat.zero_le _, by simp⟩ ⟨rfl, rfl, rfl, rfl, rfl, rfl, trivial⟩ (.refl _) (fun g pg => ?_))))))))))))))))))))
 obtain ⟨g, aA0_0, mA0_0, cA0_0⟩ := g
 try dsimp only at pg
 try dsimp only
 obtain ⟨pk, pa⟩ := pg
 have jn := a4S hk (l := l.take g)
 have jp := List.length_take_le g l
 refine d6 m0 fun eaA0_0 laA0_0 => ?_
 subst eaA0_0
 refine Ew Z1 (Ey rfl ((Y.lss rfl rfl).yd) (n9 (fun q18 => ?_) (fun q18 => ?_)))
 ·obtain ⟨eb19, eo19, ec19, ea19, er19, el19, eh19⟩ := hl.elem g om
  obtain ⟨xa19_0, xc19_0, xa19_1, xc19_1, rfl, xh19_0, xh19_1⟩ := a5M er19
  have := xh19_0.slen.2
  have := xh19_1.slen.2
  refine Eu (Eq_ (o0 rfl (f9 (Et (Eq_ (E.block (Ew Z4 (Ey rfl ((w3 us_Bindings ty_Binding rfl ea19 rfl g rfl om).yd) (Ey rfl (r9 (cs := [_, _]) ty_Binding rfl (eh19 _) rfl) (Est rfl (N.alloc ty_Binding dc) (fun b9 _ => (Est rfl (Ns [_, _] ty_Binding rfl) (fun _ _ => (Ev Z3 (Em rfl (Ey rfl ((Y.len us_Facts rfl).yd) (Em rfl (Eu (E.block (d8 (f6 (congrArg (ow H1 [_]) (show I0 (l.take g) (o3, f7) c6 = I0 (l.take g) (o3, f7) c6 ++ P2 l[g] (o3, f7) (c6.take 0) from by first | rfl | (simp; done) | grind [X3, a0k, a0i, X5, d1, d2, t1, t2])) (E.loop (κ := Nat × Option Addr × Nat × Nat) (fun h => h.1 ≤ c6.length ∧ True) (fun h => [(2, .slice a_facts c6.length c_facts), (4, .pointer (some ⟨b4, 0, none⟩)), (7, .slice h.2.1 h.2.2.1 h.2.2.2), (9, .pointer (some ⟨b9, 0, none⟩)), (15, .slice a_l l.length c_l), (16, .int .i64 (↑l.length : Int)), (17, .int .i64 (g : Int)), (21, .slice a_facts c6.length c_facts), (22, .int .i64 (↑c6.length : Int)), (23, .int .i64 (↑h.1 : Int))]) (fun h => [ow H1 [.slice h.2.1 h.2.2.1 h.2.2.2] (I0 (l.take g) (o3, f7) c6 ++ P2 l[g] (o3, f7) (c6.take h.1)), pt b9 78 [.slice xa19_0 l[g].1.length xc19_0, .slice xa19_1 l[g].2.length xc19_1], pt b4 81 [.int .i64 o3, .slice F3 f7.length F2]]) (fun h => c6.length - h.1) (0, aA0_0, (I0 (l.take g) (o3, f7) c6).length, cA0_0) ⟨Nat.zero_le _, by simp⟩ ⟨rfl, rfl, rfl, rfl, rfl, rfl, rfl, rfl, rfl, rfl, trivial⟩ (.refl _) (fun h ph => ?_)))))))))))))))))))))))
  obtain ⟨h, aA1_0, mA1_0, cA1_0⟩ := h
  try dsimp only at ph
  try dsimp only
  obtain ⟨pk, pa⟩ := ph
  have jo := b0W hk hn (g := g) om h
  refine d6 m0 fun eaA1_0 laA1_0 => ?_
  subst eaA1_0
  refine Ew Z1 (Ey rfl ((Y.lss rfl rfl).yd) (n9 (fun q24 => ?_) (fun q24 => ?_)))
  ·obtain ⟨eb25, eo25, ec25, ea25, er25, el25, eh25⟩ := hfacts.elem h om
   obtain ⟨xa25_0, xc25_0, rfl, ei25_0, xh25_0⟩ := R0 er25
   have := xh25_0.slen.2
   refine Eu (Eq_ (o0 rfl (f9 (Et (Eq_ (E.block (Ew Z4 (Ey rfl ((w3 us_Facts ty_Fact rfl ea25 rfl h rfl om).yd) (Ey rfl (r9 (cs := [_, _]) ty_Fact rfl (eh25 _) rfl) (Est rfl (N.alloc ty_Fact dc) (fun b11 _ => (Est rfl (Ns [_, _] ty_Fact rfl) (fun _ _ => (Ev Z10 (Ey rfl (r9 (cs := [_, _]) ty_Binding rfl (Has.pt (mS (mS m0))) rfl) (Ey rfl (r9 (cs := [_, _]) ty_Atom rfl (Has.pt (mS (mS (mS m0)))) rfl) (Ey rfl (r9 (cs := [_, _]) ty_Fact rfl (Has.pt m0) rfl) (Est rfl (N.call (a9a ((hbl _ (List.getElem_mem om)).1) ((hbl _ (List.getElem_mem om)).2) (fo)) rfl rfl rfl dc rfl (fun w Lp hA => ⟨hA.ro xh19_0, hA.ro xh19_1, a0y, hA.ro K8, ei25_0, hA.ro xh25_0⟩)) (fun k31 _ => ?_)))))))))))))))))))
   obtain ⟨⟨a31_0, m31_0, c31_0⟩, ⟨a31_1, m31_1, c31_1⟩⟩ := k31
   refine d6 m0 fun e31_0 l31_0 => ?_
   subst e31_0
   refine d6 (mS m0) fun e31_1 l31_1 => ?_
   subst e31_1
   refine Em rfl (Ey rfl ((Y.ext rfl rfl).yd) (Ey rfl ((Y.ext rfl rfl).yd) (Est rfl (N.alloc ty_Binding dc) (fun b12 _ => (Est rfl (Ns [_, _] ty_Binding rfl) (fun _ _ => (Ei rfl (Ent.b (fun q13 => ?_) (fun q13 => ?_)))))))))
   ·refine Ev Z1 (Em rfl (Eu (o0 rfl (Ez Z5 (Em rfl (Ey rfl (r9 (cs := [_, _]) ty_Binding rfl (Has.pt m0) rfl) (Est rfl (Nb [_] [_, _] us_Bindings ty_Binding rfl rfl) (fun b37 _ => (o2 (o2 (j7 (B3 (Est rfl (B2 (E := a0j) (ex := (cond (v8 l[g] (o3, f7) c6[h]) (w8 l[g] (o3, f7) c6[h]).1 [], cond (v8 l[g] (o3, f7) c6[h]) (w8 l[g] (o3, f7) c6[h]).2 [])) us_Bindings ty_Binding rfl rfl rfl (a2H (x := (cond (v8 l[g] (o3, f7) c6[h]) (w8 l[g] (o3, f7) c6[h]).1 [], cond (v8 l[g] (o3, f7) c6[h]) (w8 l[g] (o3, f7) c6[h]).2 [])) Own.ow Own.ow) rfl bn bn dc) (fun p38 _ => (Ei rfl (En (s8 (Et (Ez Z2 (Ey rfl ((Y.add rfl rfl om om).yd) (Em rfl (Eu (d8 (Ent.drop (d8 ?_)))))))))))))))))))))))))
    refine Ent.drop (f6 (congrArg (ow H1 [_]) (show (I0 (l.take g) (o3, f7) c6 ++ P2 l[g] (o3, f7) (c6.take h)) ++ [(cond (v8 l[g] (o3, f7) c6[h]) (w8 l[g] (o3, f7) c6[h]).1 [], cond (v8 l[g] (o3, f7) c6[h]) (w8 l[g] (o3, f7) c6[h]).2 [])] = I0 (l.take g) (o3, f7) c6 ++ P2 l[g] (o3, f7) (c6.take (h + 1)) from by grind [X3, a0k, a0i, X5, d1, d2, t1, t2])) (j7 (j7 (j7 ?_))))
    exact Ea (h + 1, p38.1, ((I0 (l.take g) (o3, f7) c6 ++ P2 l[g] (o3, f7) (c6.take h)).length + 1), p38.2) ⟨oz, trivial⟩
   ·refine Ev Z1 (Em rfl (Eu (n8 rfl (f9 (s8 (Et (Ez Z2 (Ey rfl ((Y.add rfl rfl om om).yd) (Em rfl (Eu (Ent.drop (Ent.drop (Ent.drop (Ent.drop (f6 (congrArg (ow H1 [_]) (show I0 (l.take g) (o3, f7) c6 ++ P2 l[g] (o3, f7) (c6.take h) = I0 (l.take g) (o3, f7) c6 ++ P2 l[g] (o3, f7) (c6.take (h + 1)) from by grind [X3, a0k, a0i, X5, d1, d2, t1, t2])) (j7 (j7 (j7 ?_))))))))))))))))))
    exact Ea (h + 1, aA1_0, (I0 (l.take g) (o3, f7) c6 ++ P2 l[g] (o3, f7) (c6.take h)).length, cA1_0) ⟨oz, trivial⟩
  ·refine Eu (Eq_ (n8 rfl (E.exit (l3 (l3 (y4 (s8 (Et (Ez Z2 (Ey rfl ((Y.add rfl rfl om om).yd) (Em rfl (Eu (d8 (Ent.drop (f6 (congrArg (ow H1 [_]) (show I0 (l.take g) (o3, f7) c6 ++ P2 l[g] (o3, f7) (c6.take h) = I0 (l.take (g + 1)) (o3, f7) c6 from by grind [X3, a0k, a0i, X5, d1, d2, t1, t2])) (d8 (d8 ?_)))))))))))))))))
   exact Ea (g + 1, aA1_0, (I0 (l.take g) (o3, f7) c6 ++ P2 l[g] (o3, f7) (c6.take h)).length, cA1_0) ⟨oz, trivial⟩
 ·refine Eu (Eq_ (n8 rfl (E.exit (l3 (l3 (y4 (Et (Ew Z2 (Em rfl (Ei rfl (Eu (E.ret (f6 (congrArg (ow H1 [_]) (show _ = I0 l (o3, f7) c6 by grind [X3, a0k, a0i, X5, d1, d2, t1, t2])) ?_)))))))))))))
  exact Fg rfl rfl (_, _, _) rfl rfl
theorem a9t (hbl : ∀ b ∈ l, b.1.length ≤ 1000 ∧ b.2.length ≤ 1000) (hat : f7.length ≤ 1000) (hk : Few (o3, f7) c6) (hn : l.length * 1000 ≤ 1000000000000) : Tr Tryz.prog 53 [.slice a_l m_l c_l, .agg #[.int .i64 o3, .slice F3 J6 F2], .slice a_facts m_facts c_facts] (fun w L => Ro w L H1 [.slice a_l m_l c_l] l ∧ I64 o3 ∧ Ro w L eIs [.slice F3 J6 F2] f7 ∧ Ro w L s6 [.slice a_facts m_facts c_facts] c6) [] (κ := Option Addr × Nat × Nat) (fun k => True) (fun k => .slice k.1 k.2.1 k.2.2) (fun k => [ow H1 [.slice k.1 k.2.1 k.2.2] (I0 l (o3, f7) c6)]) := by
 refine Tr.intro Tryz.func53 rfl (n := 44) rfl (by decide +kernel) bl (fr := [(0, .slice a_l m_l c_l), (1, .agg #[.int .i64 o3, .slice F3 J6 F2]), (2, .slice a_facts m_facts c_facts)]) rfl fun w L hR => ?_
 obtain ⟨hl, a0y, K8, hfacts⟩ := hR
 obtain ⟨rfl, ll⟩ := hl.slen
 obtain ⟨rfl, a2R⟩ := K8.slen
 obtain ⟨rfl, lfacts⟩ := hfacts.slen
 refine Ew Z2 (Est rfl (N.box (cs := [_, _]) rfl dc rfl) (fun b4 _ => (Ei rfl (Ev Z2 (Est rfl (Nb [] [] us_Bindings ty_Binding rfl rfl) (fun b12 _ => (Ent.drop (Ei rfl (Eu (Eq_ (Ew Z1 (Ei rfl (Eu (E.block (s7 (A := []) (Own.nil (E := a0j) (e := tBinding) (a := (some ⟨b12, 0, none⟩))) rfl (f6 (congrArg (ow H1 [_]) (show [] = I0 (l.take 0) (o3, f7) c6 from by first | rfl | (simp; done) | grind [X3, a0k, a0i, X5, d1, d2, t1, t2])) (E.loop (κ := Nat × Option Addr × Nat × Nat) (fun g => g.1 ≤ l.length ∧ True) (fun g => [(0, .slice a_l l.length c_l), (2, .slice a_facts c6.length c_facts), (4, .pointer (some ⟨b4, 0, none⟩)), (7, .slice g.2.1 g.2.2.1 g.2.2.2), (8, .int .i64 (↑g.1 : Int))]) (fun g => [ow H1 [.slice g.2.1 g.2.2.1 g.2.2.2] (I0 (l.take g.1) (o3, f7) c6), pt b4 81 [.int .i64 o3, .slice F3 f7.length F2]]) (fun g => l.length - g.1) (0, (some ⟨b12, 0, none⟩), 0, 0) ⟨Nat.zero_le _, by simp⟩ ⟨rfl, rfl, rfl, rfl, rfl, trivial⟩ (.refl _) (fun g pg => ?_))))))))))))))))))
 obtain ⟨g, aA0_0, mA0_0, cA0_0⟩ := g
 try dsimp only at pg
 try dsimp only
 obtain ⟨pk, pa⟩ := pg
 have jn := a4S hk (l := l.take g)
 have jp := List.length_take_le g l
 refine d6 m0 fun eaA0_0 laA0_0 => ?_
 subst eaA0_0
 refine Eq_ (Ew Z4 (Em rfl (Em rfl (Ey rfl ((Y.len us_Bindings rfl).yd) (Ey rfl ((Y.lss rfl rfl).yd) (n9 (fun q16 => ?_) (fun q16 => ?_)))))))
 ·refine Eu (o0 rfl (f9 (Et (Eq_ (E.block (Ew Z1 (Ei rfl (Eu (E.block (f6 (congrArg (ow H1 [_]) (show I0 (l.take g) (o3, f7) c6 = I0 (l.take g) (o3, f7) c6 ++ P2 l[g] (o3, f7) (c6.take 0) from by first | rfl | (simp; done) | grind [X3, a0k, a0i, X5, d1, d2, t1, t2])) (E.loop (κ := Nat × Option Addr × Nat × Nat) (fun h => h.1 ≤ c6.length ∧ True) (fun h => [(0, .slice a_l l.length c_l), (2, .slice a_facts c6.length c_facts), (4, .pointer (some ⟨b4, 0, none⟩)), (7, .slice h.2.1 h.2.2.1 h.2.2.2), (8, .int .i64 (g : Int)), (9, .int .i64 (↑h.1 : Int))]) (fun h => [ow H1 [.slice h.2.1 h.2.2.1 h.2.2.2] (I0 (l.take g) (o3, f7) c6 ++ P2 l[g] (o3, f7) (c6.take h.1)), pt b4 81 [.int .i64 o3, .slice F3 f7.length F2]]) (fun h => c6.length - h.1) (0, aA0_0, (I0 (l.take g) (o3, f7) c6).length, cA0_0) ⟨Nat.zero_le _, by simp⟩ ⟨rfl, rfl, rfl, rfl, rfl, rfl, trivial⟩ (.refl _) (fun h ph => ?_))))))))))))
  obtain ⟨h, aA1_0, mA1_0, cA1_0⟩ := h
  try dsimp only at ph
  try dsimp only
  obtain ⟨pk, pa⟩ := ph
  have jo := b0W hk hn (g := g) om h
  refine d6 m0 fun eaA1_0 laA1_0 => ?_
  subst eaA1_0
  refine Eq_ (Ew Z4 (Em rfl (Em rfl (Ey rfl ((Y.len us_Facts rfl).yd) (Ey rfl ((Y.lss rfl rfl).yd) (n9 (fun q22 => ?_) (fun q22 => ?_)))))))
  ·refine Eu (o0 rfl (f9 (Et (Eq_ (E.block (Eq_ (a3V (κ := Nat × Option Addr × Nat × Option Addr × Nat) (fun _ => True) (fun kM => [(0, .slice a_l l.length c_l), (2, .slice a_facts c6.length c_facts), (4, .pointer (some ⟨b4, 0, none⟩)), (7, .slice aA1_0 (I0 (l.take g) (o3, f7) c6 ++ P2 l[g] (o3, f7) (c6.take h)).length cA1_0), (8, .int .i64 (g : Int)), (9, .int .i64 (h : Int)), (10, .pointer (some ⟨kM.1, 0, none⟩)), (11, .bool (v8 l[g] (o3, f7) c6[h]))]) (fun kM => [pt kM.1 78 [.slice kM.2.1 (cond (v8 l[g] (o3, f7) c6[h]) (w8 l[g] (o3, f7) c6[h]).1 []).length kM.2.2.1, .slice kM.2.2.2.1 (cond (v8 l[g] (o3, f7) c6[h]) (w8 l[g] (o3, f7) c6[h]).2 []).length kM.2.2.2.2], ow eIs [.slice kM.2.1 (cond (v8 l[g] (o3, f7) c6[h]) (w8 l[g] (o3, f7) c6[h]).1 []).length kM.2.2.1] (cond (v8 l[g] (o3, f7) c6[h]) (w8 l[g] (o3, f7) c6[h]).1 []), ow eIs [.slice kM.2.2.2.1 (cond (v8 l[g] (o3, f7) c6[h]) (w8 l[g] (o3, f7) c6[h]).2 []).length kM.2.2.2.2] (cond (v8 l[g] (o3, f7) c6[h]) (w8 l[g] (o3, f7) c6[h]).2 []), ow H1 [.slice aA1_0 (I0 (l.take g) (o3, f7) c6 ++ P2 l[g] (o3, f7) (c6.take h)).length cA1_0] (I0 (l.take g) (o3, f7) c6 ++ P2 l[g] (o3, f7) (c6.take h)), pt b4 81 [.int .i64 o3, .slice F3 f7.length F2]]) ?_ (fun kM _ => ?_))))))))
   ·refine D.region (fun j => !(Nat.beq j 14)) mixed (Dyp 0 rfl (k6 rfl) (Dyp 1 rfl (k6 rfl) ?_))
    obtain ⟨eb28, eo28, ec28, ea28, er28, el28, eh28⟩ := hl.elem g om
    obtain ⟨xa28_0, xc28_0, xa28_1, xc28_1, rfl, xh28_0, xh28_1⟩ := a5M er28
    have := xh28_0.slen.2
    have := xh28_1.slen.2
    refine Dyp 2 rfl (w3 us_Bindings ty_Binding rfl ea28 rfl g rfl om) (Dy 3 rfl (r9 (cs := [_, _]) ty_Binding rfl (eh28 _) rfl) (Dy 4 rfl (r9 (cs := [_, _]) ty_Atom rfl (Has.pt (mS m0)) rfl) (Dyp 5 rfl (k6 rfl) (Dyp 6 rfl (k6 rfl) ?_))))
    obtain ⟨eb33, eo33, ec33, ea33, er33, el33, eh33⟩ := hfacts.elem h om
    obtain ⟨xa33_0, xc33_0, rfl, ei33_0, xh33_0⟩ := R0 er33
    have := xh33_0.slen.2
    refine Dyp 7 rfl (w3 us_Facts ty_Fact rfl ea33 rfl h rfl om) (Dy 8 rfl (r9 (cs := [_, _]) ty_Fact rfl (eh33 _) rfl) (a2x (i := 9) (j := 13) kr ?_ ?_))
    ·refine a0d 9 rfl rfl (fun _ => rfl) (N.call (a4C ((hbl _ (List.getElem_mem om)).1) ((hbl _ (List.getElem_mem om)).2) (fo)) rfl rfl rfl dc rfl (fun w Lp hA => ⟨hA.ro xh28_0, hA.ro xh28_1, a0y, hA.ro K8, ei33_0, hA.ro xh33_0⟩)) (fun k35 _ => ?_)
     obtain ⟨⟨a35_0, m35_0, c35_0⟩, ⟨a35_1, m35_1, c35_1⟩⟩ := k35
     refine d6 m0 fun e35_0 l35_0 => ?_
     subst e35_0
     refine d6 (mS m0) fun e35_1 l35_1 => ?_
     subst e35_1
     refine Dyp 10 rfl (k6 rfl) (Dyp 11 rfl (Y.ext rfl rfl) (Dyp 12 rfl (Y.ext rfl rfl) (u7 13 rfl rfl kr (fun _ => rfl) (N.alloc ty_Binding dc) (fun b10 _ => (u7 14 rfl rfl kr (fun h => by cases h) (Ns [_, _] ty_Binding rfl) (fun _ _ => (Dyp 15 rfl (F1 rfl) (t6 kr (n0 (n0 (n0 (n0 (n0 ?_)))))))))))))
     exact S4 (b10, a35_0, c35_0, a35_1, c35_1) trivial ⟨rfl, rfl, rfl, rfl, rfl, rfl, rfl, rfl, trivial⟩ (.refl _)
    ·refine a0d 13 rfl rfl (fun _ => rfl) (N.alloc ty_Binding dc) (fun b10 _ => (u7 9 rfl rfl kr (fun _ => rfl) (N.call (a4C ((hbl _ (List.getElem_mem om)).1) ((hbl _ (List.getElem_mem om)).2) (fo)) rfl rfl rfl dc rfl (fun w Lp hA => ⟨hA.ro xh28_0, hA.ro xh28_1, a0y, hA.ro K8, ei33_0, hA.ro xh33_0⟩)) (fun k35 _ => ?_)))
     obtain ⟨⟨a35_0, m35_0, c35_0⟩, ⟨a35_1, m35_1, c35_1⟩⟩ := k35
     refine d6 m0 fun e35_0 l35_0 => ?_
     subst e35_0
     refine d6 (mS m0) fun e35_1 l35_1 => ?_
     subst e35_1
     refine Dyp 10 rfl (k6 rfl) (Dyp 11 rfl (Y.ext rfl rfl) (Dyp 12 rfl (Y.ext rfl rfl) (j7 (u7 14 rfl rfl kr (fun h => by cases h) (Ns [_, _] ty_Binding rfl) (fun _ _ => (Dyp 15 rfl (F1 rfl) (t6 kr (n0 (n0 (n0 (n0 (n0 ?_))))))))))))
     exact S4 (b10, a35_0, c35_0, a35_1, c35_1) trivial ⟨rfl, rfl, rfl, rfl, rfl, rfl, rfl, rfl, trivial⟩ (.refl _)
   ·obtain ⟨b10, a35_0, c35_0, a35_1, c35_1⟩ := kM
    try dsimp only
    refine Et (Ew Z1 (Em rfl (Ent.b (fun q38 => ?_) (fun q38 => ?_))))
    ·refine Eu (o0 rfl (Ez Z5 (Em rfl (Ey rfl (r9 (cs := [_, _]) ty_Binding rfl (Has.pt m0) rfl) (Est rfl (Nb [_] [_, _] us_Bindings ty_Binding rfl rfl) (fun b41 _ => (o2 (o2 (j7 (n0 (Est rfl (B2 (E := a0j) (ex := (cond (v8 l[g] (o3, f7) c6[h]) (w8 l[g] (o3, f7) c6[h]).1 [], cond (v8 l[g] (o3, f7) c6[h]) (w8 l[g] (o3, f7) c6[h]).2 [])) us_Bindings ty_Binding rfl rfl rfl (a2H (x := (cond (v8 l[g] (o3, f7) c6[h]) (w8 l[g] (o3, f7) c6[h]).1 [], cond (v8 l[g] (o3, f7) c6[h]) (w8 l[g] (o3, f7) c6[h]).2 [])) Own.ow Own.ow) rfl bn bn dc) (fun p42 _ => (Ei rfl (En (s8 (Et (Ez Z3 (Em rfl (Ey rfl ((Y.add rfl rfl om om).yd) (Ei rfl (Eu (d8 (Ent.drop (f6 (congrArg (ow H1 [_]) (show (I0 (l.take g) (o3, f7) c6 ++ P2 l[g] (o3, f7) (c6.take h)) ++ [(cond (v8 l[g] (o3, f7) c6[h]) (w8 l[g] (o3, f7) c6[h]).1 [], cond (v8 l[g] (o3, f7) c6[h]) (w8 l[g] (o3, f7) c6[h]).2 [])] = I0 (l.take g) (o3, f7) c6 ++ P2 l[g] (o3, f7) (c6.take (h + 1)) from by grind [X3, a0k, a0i, X5, d1, d2, t1, t2])) ?_))))))))))))))))))))))))
     refine d8 (d8 ?_)
     exact Ea (h + 1, p42.1, ((I0 (l.take g) (o3, f7) c6 ++ P2 l[g] (o3, f7) (c6.take h)).length + 1), p42.2) ⟨oz, trivial⟩
    ·refine Eu (n8 rfl (f9 (s8 (Et (Ez Z3 (Em rfl (Ey rfl ((Y.add rfl rfl om om).yd) (Ei rfl (Eu (Ent.drop (Ent.drop (Ent.drop (f6 (congrArg (ow H1 [_]) (show I0 (l.take g) (o3, f7) c6 ++ P2 l[g] (o3, f7) (c6.take h) = I0 (l.take g) (o3, f7) c6 ++ P2 l[g] (o3, f7) (c6.take (h + 1)) from by grind [X3, a0k, a0i, X5, d1, d2, t1, t2])) (d8 (d8 ?_)))))))))))))))
     exact Ea (h + 1, aA1_0, (I0 (l.take g) (o3, f7) c6 ++ P2 l[g] (o3, f7) (c6.take h)).length, cA1_0) ⟨oz, trivial⟩
  ·refine Eu (n8 rfl (E.exit (l3 (l3 (y4 (s8 (Et (Ez Z3 (Em rfl (Ey rfl ((Y.add rfl rfl om om).yd) (Ei rfl (Eu (f6 (congrArg (ow H1 [_]) (show I0 (l.take g) (o3, f7) c6 ++ P2 l[g] (o3, f7) (c6.take h) = I0 (l.take (g + 1)) (o3, f7) c6 from by grind [X3, a0k, a0i, X5, d1, d2, t1, t2])) (d8 (d8 ?_)))))))))))))))
   exact Ea (g + 1, aA1_0, (I0 (l.take g) (o3, f7) c6 ++ P2 l[g] (o3, f7) (c6.take h)).length, cA1_0) ⟨oz, trivial⟩
 ·refine Eu (n8 rfl (E.exit (l3 (l3 (y4 (Et (Ew Z2 (Em rfl (Ei rfl (Eu (E.ret (f6 (congrArg (ow H1 [_]) (show _ = I0 l (o3, f7) c6 by grind [X3, a0k, a0i, X5, d1, d2, t1, t2])) ?_))))))))))))
  exact Fg rfl rfl (_, _, _) rfl rfl
theorem a8m (hqa : a6.length ≤ 4) (hqt : ∀ a ∈ a6, a.2.length ≤ 3) (hf : ∀ a ∈ a6, Few a c6) : Tr Tryz.prog 152 [.agg #[.slice v6 y9 u9, .slice t8 w9 t7], .slice a_facts m_facts c_facts] (fun w L => Ro w L eIs [.slice v6 y9 u9] i9 ∧ Ro w L H9 [.slice t8 w9 t7] a6 ∧ Ro w L s6 [.slice a_facts m_facts c_facts] c6) [] (κ := Option Addr × Nat × Nat) (fun k => True) (fun k => .slice k.1 k.2.1 k.2.2) (fun k => [ow H1 [.slice k.1 k.2.1 k.2.2] (z8 a6 c6)]) := by
 refine Tr.intro Tryz.func152 rfl (n := 23) rfl (by decide +kernel) bl (fr := [(0, .agg #[.slice v6 y9 u9, .slice t8 w9 t7]), (1, .slice a_facts m_facts c_facts)]) rfl fun w L hR => ?_
 obtain ⟨w7, u6, hfacts⟩ := hR
 obtain ⟨rfl, P6⟩ := w7.slen
 obtain ⟨rfl, M4⟩ := u6.slen
 obtain ⟨rfl, lfacts⟩ := hfacts.slen
 refine Ew Z2 (Est rfl (N.box (cs := [_, _]) rfl dc rfl) (fun b2 _ => (Ei rfl (Ev Z3 (Ey rfl ((I3 (pvs := []) (cs := [_, _]) ty_Binding pl_Binding rfl rfl).yd) (Est rfl (Nb [_] [_, _] us_Bindings ty_Binding rfl rfl) (fun b9 _ => (s7 (A := _ :: _) (a1A (E := a0j) (e := tBinding) (a2H (x := ([], [])) Own.nil Own.nil)) rfl (Ei rfl (Eu (Eq_ (Ew Z4 (Ey rfl ((i8 fo_Query_1 ty_Atoms dc rfl).yd) (Ey rfl (g9 ty_Atoms rfl (Hz (mS m0) 1 rfl) rfl) (Ey rfl ((Y.len us_Atoms rfl).yd) (Em rfl (Eu (E.block (f6 (congrArg (ow H1 [_]) (show [([], [])] = z8 (a6.take 0) c6 from by first | rfl | (simp; done) | grind [a1s, a0M, d1, d2, t1, t2])) (E.loop (κ := Nat × Option Addr × Nat × Nat) (fun g => g.1 ≤ a6.length ∧ True) (fun g => [(1, .slice a_facts c6.length c_facts), (5, .slice g.2.1 g.2.2.1 g.2.2.2), (11, .slice t8 a6.length t7), (12, .int .i64 (↑a6.length : Int)), (13, .int .i64 (↑g.1 : Int))]) (fun g => [ow H1 [.slice g.2.1 g.2.2.1 g.2.2.2] (z8 (a6.take g.1) c6), pt b2 28 [.slice v6 i9.length u9, .slice t8 a6.length t7]]) (fun g => a6.length - g.1) (0, (some ⟨b9, 0, none⟩), 1, 1) ⟨Nat.zero_le _, by simp⟩ ⟨rfl, rfl, rfl, rfl, rfl, trivial⟩ (.refl _) (fun g pg => ?_)))))))))))))))))))))
 obtain ⟨g, aA0_0, mA0_0, cA0_0⟩ := g
 try dsimp only at pg
 try dsimp only
 obtain ⟨pk, pa⟩ := pg
 refine d6 m0 fun eaA0_0 laA0_0 => ?_
 subst eaA0_0
 refine Ew Z1 (Ey rfl ((Y.lss rfl rfl).yd) (n9 (fun q14 => ?_) (fun q14 => ?_)))
 ·obtain ⟨eb15, eo15, ec15, ea15, er15, el15, eh15⟩ := u6.elem g om
  obtain ⟨xa15_0, xc15_0, rfl, ei15_0, xh15_0⟩ := a0m er15
  have := xh15_0.slen.2
  refine Eu (Eq_ (o0 rfl (f9 (Et (Eq_ (E.block (Ew Z4 (Ey rfl ((w3 us_Atoms ty_Atom rfl ea15 rfl g rfl om).yd) (Ey rfl (r9 (cs := [_, _]) ty_Atom rfl (eh15 _) rfl) (Est rfl (N.alloc ty_Atom dc) (fun b7 _ => (Est rfl (Ns [_, _] ty_Atom rfl) (fun _ _ => (Eu (Ez Z5 (Em rfl (Ey rfl (r9 (cs := [_, _]) ty_Atom rfl (Has.pt m0) rfl) (Em rfl (Est rfl (N.call (a9k (fun b hb => by have := (a5h (c6 := c6) hf hqa hqt (g := g) om).2 b hb; omega) (Nat.le_trans (hqt _ (List.getElem_mem om)) dc) (hf _ (List.getElem_mem om)) (a5h (c6 := c6) hf hqa hqt (g := g) om).1) rfl rfl rfl dc rfl (fun w Lp hA => ⟨hA.ow (mS m0), ei15_0, hA.ro xh15_0, hA.ro hfacts⟩)) (fun k20 _ => ?_))))))))))))))))))))
  obtain ⟨a20, m20, c20⟩ := k20
  refine d6 m0 fun e20 l20 => ?_
  subst e20
  refine Ei rfl (En (s8 (Et (Ez Z2 (Ey rfl ((Y.add rfl rfl om om).yd) (Em rfl (Eu (d8 (Ent.drop (d8 (Ent.drop (f6 (congrArg (ow H1 [_]) (show I0 (z8 (a6.take g) c6) a6[g] c6 = z8 (a6.take (g + 1)) c6 from by grind [a1s, a0M, d1, d2, t1, t2])) (d8 (d8 ?_))))))))))))))
  exact Ea (g + 1, a20, (I0 (z8 (a6.take g) c6) a6[g] c6).length, c20) ⟨oz, trivial⟩
 ·refine Eu (Eq_ (n8 rfl (E.exit (l3 (l3 (y4 (Et (Ew Z2 (Em rfl (Ei rfl (Eu (E.ret (f6 (congrArg (ow H1 [_]) (show _ = z8 a6 c6 by grind [a1s, a0M, d1, d2, t1, t2])) ?_)))))))))))))
  exact Fg rfl rfl (_, _, _) rfl rfl
theorem a8l (hqa : a6.length ≤ 4) (hqt : ∀ a ∈ a6, a.2.length ≤ 3) (hf : ∀ a ∈ a6, Few a c6) : Tr Tryz.prog 67 [.agg #[.slice v6 y9 u9, .slice t8 w9 t7], .slice a_facts m_facts c_facts] (fun w L => Ro w L eIs [.slice v6 y9 u9] i9 ∧ Ro w L H9 [.slice t8 w9 t7] a6 ∧ Ro w L s6 [.slice a_facts m_facts c_facts] c6) [] (κ := Option Addr × Nat × Nat) (fun k => True) (fun k => .slice k.1 k.2.1 k.2.2) (fun k => [ow H1 [.slice k.1 k.2.1 k.2.2] (z8 a6 c6)]) := by
 refine Tr.intro Tryz.func67 rfl (n := 25) rfl (by decide +kernel) bl (fr := [(0, .agg #[.slice v6 y9 u9, .slice t8 w9 t7]), (1, .slice a_facts m_facts c_facts)]) rfl fun w L hR => ?_
 obtain ⟨w7, u6, hfacts⟩ := hR
 obtain ⟨rfl, P6⟩ := w7.slen
 obtain ⟨rfl, M4⟩ := u6.slen
 obtain ⟨rfl, lfacts⟩ := hfacts.slen
 refine Ew Z2 (Est rfl (N.box (cs := [_, _]) rfl dc rfl) (fun b2 _ => (Ei rfl (Ev Z3 (Ey rfl ((I3 (pvs := []) (cs := [_, _]) ty_Binding pl_Binding rfl rfl).yd) (Est rfl (Nb [_] [_, _] us_Bindings ty_Binding rfl rfl) (fun b8 _ => (s7 (A := _ :: _) (a1A (E := a0j) (e := tBinding) (a2H (x := ([], [])) Own.nil Own.nil)) rfl (Ei rfl (Eu (Eq_ (Ew Z1 (Ei rfl (Eu (E.block (f6 (congrArg (ow H1 [_]) (show [([], [])] = z8 (a6.take 0) c6 from by first | rfl | (simp; done) | grind [a1s, a0M, d1, d2, t1, t2])) (E.loop (κ := Nat × Option Addr × Nat × Nat) (fun g => g.1 ≤ a6.length ∧ True) (fun g => [(1, .slice a_facts c6.length c_facts), (2, .pointer (some ⟨b2, 0, none⟩)), (5, .slice g.2.1 g.2.2.1 g.2.2.2), (6, .int .i64 (↑g.1 : Int))]) (fun g => [ow H1 [.slice g.2.1 g.2.2.1 g.2.2.2] (z8 (a6.take g.1) c6), pt b2 28 [.slice v6 i9.length u9, .slice t8 a6.length t7]]) (fun g => a6.length - g.1) (0, (some ⟨b8, 0, none⟩), 1, 1) ⟨Nat.zero_le _, by simp⟩ ⟨rfl, rfl, rfl, rfl, trivial⟩ (.refl _) (fun g pg => ?_))))))))))))))))))
 obtain ⟨g, aA0_0, mA0_0, cA0_0⟩ := g
 try dsimp only at pg
 try dsimp only
 obtain ⟨pk, pa⟩ := pg
 refine d6 m0 fun eaA0_0 laA0_0 => ?_
 subst eaA0_0
 refine Eq_ (Ew Z5 (Em rfl (Ey rfl ((i8 fo_Query_1 ty_Atoms dc rfl).yd) (Ey rfl (g9 ty_Atoms rfl (Hz (mS m0) 1 rfl) rfl) (Ey rfl ((Y.len us_Atoms rfl).yd) (Ey rfl ((Y.lss rfl rfl).yd) (n9 (fun q13 => ?_) (fun q13 => ?_))))))))
 ·refine Eu (o0 rfl (f9 (Et (Eq_ (E.block (Ez Z9 (Em rfl (Ey rfl ((i8 fo_Query_1 ty_Atoms dc rfl).yd) (Ey rfl (g9 ty_Atoms rfl (Hz (mS m0) 1 rfl) rfl) (Em rfl ?_))))))))))
  obtain ⟨eb20, eo20, ec20, ea20, er20, el20, eh20⟩ := u6.elem g om
  obtain ⟨xa20_0, xc20_0, rfl, ei20_0, xh20_0⟩ := a0m er20
  have := xh20_0.slen.2
  refine Ey rfl ((w3 us_Atoms ty_Atom rfl ea20 rfl g rfl om).yd) (Ey rfl (r9 (cs := [_, _]) ty_Atom rfl (eh20 _) rfl) (Em rfl (Est rfl (N.call (a9t (fun b hb => by have := (a5h (c6 := c6) hf hqa hqt (g := g) om).2 b hb; omega) (Nat.le_trans (hqt _ (List.getElem_mem om)) dc) (hf _ (List.getElem_mem om)) (a5h (c6 := c6) hf hqa hqt (g := g) om).1) rfl rfl rfl dc rfl (fun w Lp hA => ⟨hA.ow m0, ei20_0, hA.ro xh20_0, hA.ro hfacts⟩)) (fun k23 _ => ?_))))
  obtain ⟨a23, m23, c23⟩ := k23
  refine d6 m0 fun e23 l23 => ?_
  subst e23
  refine Ei rfl (En (s8 (Et (Ez Z3 (Em rfl (Ey rfl ((Y.add rfl rfl om om).yd) (Ei rfl (Eu (d8 (Ent.drop (f6 (congrArg (ow H1 [_]) (show I0 (z8 (a6.take g) c6) a6[g] c6 = z8 (a6.take (g + 1)) c6 from by grind [a1s, a0M, d1, d2, t1, t2])) (d8 (d8 ?_)))))))))))))
  exact Ea (g + 1, a23, (I0 (z8 (a6.take g) c6) a6[g] c6).length, c23) ⟨oz, trivial⟩
 ·refine Eu (n8 rfl (E.exit (l3 (l3 (y4 (Et (Ew Z2 (Em rfl (Ei rfl (Eu (E.ret (f6 (congrArg (ow H1 [_]) (show _ = z8 a6 c6 by grind [a1s, a0M, d1, d2, t1, t2])) ?_))))))))))))
  exact Fg rfl rfl (_, _, _) rfl rfl
end Go.Proofs.YtlfhopooaejpfaaGreat
