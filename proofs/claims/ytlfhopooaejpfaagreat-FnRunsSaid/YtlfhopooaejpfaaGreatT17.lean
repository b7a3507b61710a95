import Derived.Test.YtlfhopooaejpfaaGreatT18
namespace Go.Proofs.YtlfhopooaejpfaaGreat
open Go.RowKit
set_option linter.all false
set_option maxHeartbeats 2000000
attribute [local irreducible] Nop Yd Yp Ent Has Tr FnP FnP2 Src M0 S8 V1 W0 G4
variable {l2 l3 : Int} {d4 : List (Int × List Int)} {l : List (List Int × List Int)} {j7 g9 d9 f6 : List Int} {E7 C9 w8 t8 C6 w6 B8 x6 m_l c_l m_facts c_facts : Nat} {D0 u6 w7 y4 a_l a_facts : Option Addr}
theorem a5c (hb1 : j7.length ≤ 1000000) (hb2 : g9.length ≤ 1000000) : Tr Tryz.prog 230 [.agg #[.slice D0 E7 C9, .slice u6 w8 t8]] (fun w L => Ro w L eIs [.slice D0 E7 C9] j7 ∧ Ro w L eIs [.slice u6 w8 t8] g9) [] (κ := (Option Addr × Nat × Nat) × (Option Addr × Nat × Nat)) (fun k => True) (fun k => .agg #[.slice k.1.1 k.1.2.1 k.1.2.2, .slice k.2.1 k.2.2.1 k.2.2.2]) (fun k => [ow eIs [.slice k.1.1 k.1.2.1 k.1.2.2] j7, ow eIs [.slice k.2.1 k.2.2.1 k.2.2.2] g9]) := by
 refine Tr.intro Tryz.func230 rfl (n := 10) rfl (by decide +kernel) bl (fr := [(0, .agg #[.slice D0 E7 C9, .slice u6 w8 t8])]) rfl fun w L hR => ?_
 obtain ⟨F1, z6⟩ := hR
 obtain ⟨rfl, a0f⟩ := F1.slen
 obtain ⟨rfl, N9⟩ := z6.slen
 refine Ew Z2 (Est rfl (N.box (cs := [_, _]) rfl dc rfl) (fun b1 _ => (Est rfl (N.alloc ty_Binding dc) (fun b2 _ => (Eu (Eq_ (D.region (fun j => !(Nat.beq j 7)) mixed (Dyp 0 rfl (i7 fo_Binding_0 ty_Is dc rfl) (Dy 1 rfl (f8 ty_Is rfl (Hz (mS m0) 0 rfl) rfl) (Dyp 3 rfl (i7 fo_Binding_1 ty_Is dc rfl) (Dy 4 rfl (f8 ty_Is rfl (Hz (mS m0) 1 rfl) rfl) (u7 2 rfl rfl kr (fun _ => rfl) (N.call (a1A fc) rfl rfl rfl dc rfl (fun w Lp hA => hA.ro F1)) (fun k5 _ => ?_)))))))))))))
 obtain ⟨a5, m5, c5⟩ := k5
 refine i9 m0 fun e5 l5 => ?_
 subst e5
 refine u7 5 rfl rfl kr (fun _ => rfl) (N.call (a1A fc) rfl rfl rfl dc rfl (fun w Lp hA => hA.ro z6)) (fun k8 _ => ?_)
 obtain ⟨a8, m8, c8⟩ := k8
 refine i9 m0 fun e8 l8 => ?_
 subst e8
 refine Dyp 6 rfl (I6 (pvs := [_, _]) (cs := [_, _]) ty_Binding pl_Binding rfl rfl) (j6 (u7 7 rfl rfl kr (fun h => by cases h) (Ns [_, _] ty_Binding rfl) (fun _ _ => (o3 kr (Et (E.ret (f7 (j6 (f7 (f7 ?_))))))))))
 exact J2 br rfl rfl (mS (mS m0)) ty_Binding rfl ((_, _, _), (_, _, _)) trivial rfl (J := _) (.refl _) (.inl rfl)
theorem a8Z (hb1 : j7.length ≤ 1000000) (hb2 : g9.length ≤ 1000000) : Tr Tryz.prog 169 [.agg #[.slice D0 E7 C9, .slice u6 w8 t8]] (fun w L => Ro w L eIs [.slice D0 E7 C9] j7 ∧ Ro w L eIs [.slice u6 w8 t8] g9) [] (κ := (Option Addr × Nat × Nat) × (Option Addr × Nat × Nat)) (fun k => True) (fun k => .agg #[.slice k.1.1 k.1.2.1 k.1.2.2, .slice k.2.1 k.2.2.1 k.2.2.2]) (fun k => [ow eIs [.slice k.1.1 k.1.2.1 k.1.2.2] j7, ow eIs [.slice k.2.1 k.2.2.1 k.2.2.2] g9]) := by
 refine Tr.intro Tryz.func169 rfl (n := 12) rfl (by decide +kernel) bl (fr := [(0, .agg #[.slice D0 E7 C9, .slice u6 w8 t8])]) rfl fun w L hR => ?_
 obtain ⟨F1, z6⟩ := hR
 obtain ⟨rfl, a0f⟩ := F1.slen
 obtain ⟨rfl, N9⟩ := z6.slen
 refine Ew Z2 (Est rfl (N.box (cs := [_, _]) rfl dc rfl) (fun b1 _ => (Est rfl (N.alloc ty_Binding dc) (fun b2 _ => (Eu (Eq_ (a4l (κ := (Option Addr × Nat) × (Option Addr × Nat)) (fun _ => True) (fun kM => [(2, .pointer (some ⟨b2, 0, none⟩))]) (fun kM => [pt b2 78 [.slice kM.1.1 j7.length kM.1.2, .slice kM.2.1 g9.length kM.2.2], ow eIs [.slice kM.2.1 g9.length kM.2.2] g9, ow eIs [.slice kM.1.1 j7.length kM.1.2] j7, pt b1 78 [.slice D0 j7.length C9, .slice u6 g9.length t8]]) ?_ (fun kM _ => ?_))))))))
 ·refine D.region (fun j => !(Nat.beq j 9)) mixed (Dyp 1 rfl (i7 fo_Binding_0 ty_Is dc rfl) (Dy 2 rfl (f8 ty_Is rfl (Hz (mS m0) 0 rfl) rfl) (Dyp 5 rfl (i7 fo_Binding_1 ty_Is dc rfl) (Dy 6 rfl (f8 ty_Is rfl (Hz (mS m0) 1 rfl) rfl) (a7j (i := 0) (j := 4) kr ?_ ?_)))))
  ·refine a3j 0 rfl rfl (fun _ => rfl) (Nb [] [] us_Is f0 rfl rfl) (fun b3 _ => (Ent.drop (a7j (i := 3) (j := 4) kr ?_ ?_)))
   ·refine a3j 3 rfl rfl (fun _ => rfl) (J3 (E := Enc.int) Plain.int us_Is f0 rfl rfl rfl F1 bn bn dc) (fun p6 _ => (u7 4 rfl rfl kr (fun _ => rfl) (Nb [] [] us_Is f0 rfl rfl) (fun b7 _ => (Ent.drop (u7 7 rfl rfl kr (fun _ => rfl) (J3 (E := Enc.int) Plain.int us_Is f0 rfl rfl rfl z6 bn bn dc) (fun p10 _ => (Dyp 8 rfl (I6 (pvs := [_, _]) (cs := [_, _]) ty_Binding pl_Binding rfl rfl) (j6 (u7 9 rfl rfl kr (fun h => by cases h) (Ns [_, _] ty_Binding rfl) (fun _ _ => (o3 kr (m6 (m6 (m6 (m6 ?_)))))))))))))))
    exact a0q (p6, p10) trivial ⟨rfl, trivial⟩ (.refl _)
   ·refine a3j 4 rfl rfl (fun _ => rfl) (Nb [] [] us_Is f0 rfl rfl) (fun b7 _ => (Ent.drop (u7 3 rfl rfl kr (fun _ => rfl) (J3 (E := Enc.int) Plain.int us_Is f0 rfl rfl rfl F1 bn bn dc) (fun p6 _ => (u7 7 rfl rfl kr (fun _ => rfl) (J3 (E := Enc.int) Plain.int us_Is f0 rfl rfl rfl z6 bn bn dc) (fun p10 _ => (Dyp 8 rfl (I6 (pvs := [_, _]) (cs := [_, _]) ty_Binding pl_Binding rfl rfl) (j6 (u7 9 rfl rfl kr (fun h => by cases h) (Ns [_, _] ty_Binding rfl) (fun _ _ => (o3 kr (m6 (m6 (m6 (m6 ?_)))))))))))))))
    exact a0q (p6, p10) trivial ⟨rfl, trivial⟩ (.refl _)
  ·refine a3j 4 rfl rfl (fun _ => rfl) (Nb [] [] us_Is f0 rfl rfl) (fun b7 _ => (Ent.drop (u7 0 rfl rfl kr (fun _ => rfl) (Nb [] [] us_Is f0 rfl rfl) (fun b3 _ => (Ent.drop (u7 3 rfl rfl kr (fun _ => rfl) (J3 (E := Enc.int) Plain.int us_Is f0 rfl rfl rfl F1 bn bn dc) (fun p6 _ => (u7 7 rfl rfl kr (fun _ => rfl) (J3 (E := Enc.int) Plain.int us_Is f0 rfl rfl rfl z6 bn bn dc) (fun p10 _ => (Dyp 8 rfl (I6 (pvs := [_, _]) (cs := [_, _]) ty_Binding pl_Binding rfl rfl) (j6 (u7 9 rfl rfl kr (fun h => by cases h) (Ns [_, _] ty_Binding rfl) (fun _ _ => (o3 kr (m6 (m6 (m6 (m6 ?_))))))))))))))))))
   exact a0q (p6, p10) trivial ⟨rfl, trivial⟩ (.refl _)
 ·obtain ⟨p6, p10⟩ := kM
  try dsimp only
  refine Et (E.ret (f7 (j6 (f7 (f7 ?_)))))
  exact J2 br rfl rfl (mS (mS m0)) ty_Binding rfl ((_, _, _), (_, _, _)) trivial rfl (J := _) (.refl _) (.inl rfl)
theorem a7w {v : Int} : Tr Tryz.prog 195 [.agg #[.slice D0 E7 C9, .slice u6 w8 t8], .int .i64 v] (fun w L => Ro w L eIs [.slice D0 E7 C9] j7 ∧ Ro w L eIs [.slice u6 w8 t8] g9) [] (κ := Unit) (fun k => True) (fun k => .bool (!unb (j7, g9) v)) (fun k => []) := by
 refine Tr.intro Tryz.func195 rfl (n := 27) rfl (by decide +kernel) bl (fr := [(0, .agg #[.slice D0 E7 C9, .slice u6 w8 t8]), (1, .int .i64 v)]) rfl fun w L hR => ?_
 obtain ⟨F1, z6⟩ := hR
 obtain ⟨rfl, a0f⟩ := F1.slen
 obtain ⟨rfl, N9⟩ := z6.slen
 refine Ew Z2 (Est rfl (N.box (cs := [_, _]) rfl dc rfl) (fun b2 _ => (Ei rfl (Eu (Eq_ (Ew Z1 (Ei rfl (Eu (E.block (E.loop (κ := Nat) (fun g => g ≤ (min j7.length g9.length) ∧ (j7.take (min j7.length g9.length)).any (fun x => decide (x = v)) = ((j7.take (min j7.length g9.length)).drop g).any (fun x => decide (x = v))) (fun g => [(1, .int .i64 v), (2, .pointer (some ⟨b2, 0, none⟩)), (5, .int .i64 (g : Int))]) (fun g => [pt b2 78 [.slice D0 j7.length C9, .slice u6 g9.length t8]]) (fun g => (min j7.length g9.length) - g) 0 ⟨Nat.zero_le _, by simp⟩ ⟨rfl, rfl, rfl, trivial⟩ (.refl _) (fun g pg => ?_)))))))))))
 obtain ⟨pk, pa⟩ := pg
 refine Eq_ (Ew Z12 (Em rfl (Ey rfl ((i7 fo_Binding_0 ty_Is dc rfl).yd) (Ey rfl (f8 ty_Is rfl (Hz m0 0 rfl) rfl) (Ey rfl ((Y.len us_Is rfl).yd) (Ey rfl ((Y.lss rfl rfl).yd) (n0 (fun q10 => ?_) (fun q10 => ?_))))))))
 ·refine Em rfl (Em rfl (Ey rfl ((i7 fo_Binding_1 ty_Is dc rfl).yd) (Ey rfl (f8 ty_Is rfl (Hz m0 1 rfl) rfl) (Ey rfl ((Y.len us_Is rfl).yd) (Ey rfl ((Y.lss rfl rfl).yd) (n0 (fun q16 => ?_) (fun q16 => ?_)))))))
  ·refine Ey rfl ((s6 rfl rfl).yd) (Eu (l4 rfl (i8 (Et (Eq_ (E.block (Ew Z7 (Ey rfl ((i7 fo_Binding_0 ty_Is dc rfl).yd) (Ey rfl (f8 ty_Is rfl (Hz m0 0 rfl) rfl) (Em rfl ?_))))))))))
   obtain ⟨eb23, eo23, ea23, ei23, eh23⟩ := F1.elemI g om
   refine Ey rfl ((o6 us_Is f0 rfl ea23 rfl g rfl om).yd) (Ey rfl (f8 f0 rfl (eh23 _) rfl) (Em rfl (Ey rfl ((Y.eql rfl rfl).yd) (n0 (fun q26 => ?_) (fun q26 => ?_)))))
   ·refine Eu (l4 rfl (Ew Z1 (Ei rfl ?_)))
    exact Eu (E.ret (t7 (l0 (l0 (t7 (l0 (Fb rfl rfl (by grind [unb, a1y, a3h, d1, d2, t1, t2]))))))))
   ·refine Eu (l6 rfl (i8 (o4 (Et (Ez Z3 (Em rfl (Ey rfl ((Y.add rfl rfl om om).yd) (Ei rfl ?_))))))))
    exact Eu (u9 br (g + 1) rs (.refl _) ⟨by omega, by grind [a1y, d1, d2, t1, t2]⟩ om)
  ·refine Ey rfl ((s6 rfl rfl).yd) (Eu (l6 rfl (E.exit (n8 (n8 (w5 (Et (Ew Z1 (Ei rfl ?_)))))))))
   exact Eu (E.ret (Fb rfl rfl (by grind [unb, a1y, a3h, d1, d2, t1, t2])))
 ·refine Em rfl (Es rfl (Es rfl (Es rfl (Es rfl (Es rfl (Ey rfl ((r9 rfl rfl).yd) (Eu (l6 rfl (E.exit (n8 (n8 (w5 (Et (Ew Z1 (Ei rfl ?_)))))))))))))))
  exact Eu (E.ret (Fb rfl rfl (by grind [unb, a1y, a3h, d1, d2, t1, t2])))
theorem a6c (hb1 : j7.length ≤ 1000) (hb2 : g9.length ≤ 1000) (hat : d9.length ≤ 1000) : Tr Tryz.prog 190 [.agg #[.slice D0 E7 C9, .slice u6 w8 t8], .agg #[.int .i64 l2, .slice w7 C6 w6], .agg #[.int .i64 l3, .slice y4 B8 x6]] (fun w L => Ro w L eIs [.slice D0 E7 C9] j7 ∧ Ro w L eIs [.slice u6 w8 t8] g9 ∧ I64 l2 ∧ Ro w L eIs [.slice w7 C6 w6] d9 ∧ I64 l3 ∧ Ro w L eIs [.slice y4 B8 x6] f6) [] (κ := (Option Addr × Nat × Nat) × (Option Addr × Nat × Nat)) (fun k => True) (fun k => .tuple #[.agg #[.slice k.1.1 k.1.2.1 k.1.2.2, .slice k.2.1 k.2.2.1 k.2.2.2], .bool (r8 (j7, g9) (l2, d9) (l3, f6))]) (fun k => [ow eIs [.slice k.1.1 k.1.2.1 k.1.2.2] (cond (r8 (j7, g9) (l2, d9) (l3, f6)) (s9 (j7, g9) (l2, d9) (l3, f6)).1 []), ow eIs [.slice k.2.1 k.2.2.1 k.2.2.2] (cond (r8 (j7, g9) (l2, d9) (l3, f6)) (s9 (j7, g9) (l2, d9) (l3, f6)).2 [])]) := by
 refine Tr.intro Tryz.func190 rfl (n := 81) rfl (by decide +kernel) bl (fr := [(0, .agg #[.slice D0 E7 C9, .slice u6 w8 t8]), (1, .agg #[.int .i64 l2, .slice w7 C6 w6]), (2, .agg #[.int .i64 l3, .slice y4 B8 x6])]) rfl fun w L hR => ?_
 obtain ⟨F1, z6, M4, D6, H7, y9⟩ := hR
 obtain ⟨rfl, a0f⟩ := F1.slen
 obtain ⟨rfl, N9⟩ := z6.slen
 obtain ⟨rfl, T7⟩ := D6.slen
 obtain ⟨rfl, S1⟩ := y9.slen
 refine Ew Z5 (Est rfl (N.box (cs := [_, _]) rfl dc rfl) (fun b3 _ => (Est rfl (N.box (cs := [_, _]) rfl dc rfl) (fun b4 _ => (Est rfl (N.box (cs := [_, _]) rfl dc rfl) (fun b5 _ => (Est rfl (N.alloc ty_Binding dc) (fun b6 _ => (Ei rfl (Eu (Eq_ (Ew Z23 (Ey rfl ((i7 fo_Atom_0 f0 dc rfl).yd) (Ey rfl (f8 f0 rfl (Hz (mS (mS m0)) 0 rfl) rfl) (Ey rfl ((i7 fo_Fact_0 f0 dc rfl).yd) (Ey rfl (f8 f0 rfl (Hz (mS m0) 0 rfl) rfl) (Ey rfl ((Y.neq rfl rfl).yd) (n0 (fun q15 => ?_) (fun q15 => ?_)))))))))))))))))))
 ·refine Em rfl (Es rfl (Es rfl (Es rfl (Es rfl (Es rfl (Es rfl (Es rfl (Ey rfl ((s6 rfl rfl).yd) (Em rfl (Es rfl (Es rfl (Es rfl (Es rfl (Es rfl ?_))))))))))))))
  refine Es rfl (Es rfl (Ey rfl ((s6 rfl rfl).yd) (Eu (l4 rfl (Ew Z3 (Ey rfl ((I6 (pvs := []) (cs := [_, _]) ty_Binding pl_Binding rfl rfl).yd) (Est rfl (Ns [_, _] ty_Binding rfl) (fun _ _ => (Ei rfl (Eu (E.ret (l0 (n9 (A := []) (Own.nil (E := Enc.int) (e := tI) (a := none)) rfl (j8 (congrArg (ow eIs [_]) (show _ = cond (r8 (j7, g9) (l2, d9) (l3, f6)) (s9 (j7, g9) (l2, d9) (l3, f6)).2 [] by grind [r8, s9, y7, B3, B2, D4, D5, B4, d1, d2, t1, t2])) (n9 (A := []) (Own.nil (E := Enc.int) (e := tI) (a := none)) rfl (j8 (congrArg (ow eIs [_]) (show _ = cond (r8 (j7, g9) (l2, d9) (l3, f6)) (s9 (j7, g9) (l2, d9) (l3, f6)).1 [] by grind [r8, s9, y7, B3, B2, D4, D5, B4, d1, d2, t1, t2])) (f7 (f7 ?_))))))))))))))))))
  exact a1M br rfl rfl rfl (mS (mS m0)) ty_Binding rfl ((none, 0, 0), (none, 0, 0)) trivial (by rw [show (r8 (j7, g9) (l2, d9) (l3, f6)) = (false) from (by grind [r8, s9, y7, B3, B2, D4, D5, B4, d1, d2, t1, t2])]; try rfl) (J := _) (.refl _) (.inl rfl)
 ·refine Em rfl (Ey rfl ((i7 fo_Atom_1 ty_Is dc rfl).yd) (Ey rfl (f8 ty_Is rfl (Hz (mS (mS m0)) 1 rfl) rfl) (Ey rfl ((Y.len us_Is rfl).yd) (Ey rfl ((i7 fo_Fact_1 ty_Is dc rfl).yd) (Ey rfl (f8 ty_Is rfl (Hz (mS m0) 1 rfl) rfl) (Ey rfl ((Y.len us_Is rfl).yd) (Ey rfl ((Y.neq rfl rfl).yd) (n0 (fun q23 => ?_) (fun q23 => ?_)))))))))
  ·refine Ey rfl ((r9 rfl rfl).yd) (Em rfl (Es rfl (Es rfl (Es rfl (Es rfl (Es rfl (Es rfl (Es rfl (Ey rfl ((s6 rfl rfl).yd) (Eu (l4 rfl (Ew Z3 (Ey rfl ((I6 (pvs := []) (cs := [_, _]) ty_Binding pl_Binding rfl rfl).yd) (Est rfl (Ns [_, _] ty_Binding rfl) (fun _ _ => (Ei rfl (Eu (E.ret (l0 (n9 (A := []) (Own.nil (E := Enc.int) (e := tI) (a := none)) rfl (j8 (congrArg (ow eIs [_]) (show _ = cond (r8 (j7, g9) (l2, d9) (l3, f6)) (s9 (j7, g9) (l2, d9) (l3, f6)).2 [] by grind [r8, s9, y7, B3, B2, D4, D5, B4, d1, d2, t1, t2])) ?_)))))))))))))))))))))
   refine n9 (A := []) (Own.nil (E := Enc.int) (e := tI) (a := none)) rfl (j8 (congrArg (ow eIs [_]) (show _ = cond (r8 (j7, g9) (l2, d9) (l3, f6)) (s9 (j7, g9) (l2, d9) (l3, f6)).1 [] by grind [r8, s9, y7, B3, B2, D4, D5, B4, d1, d2, t1, t2])) (f7 (f7 ?_)))
   exact a1M br rfl rfl rfl (mS (mS m0)) ty_Binding rfl ((none, 0, 0), (none, 0, 0)) trivial (by rw [show (r8 (j7, g9) (l2, d9) (l3, f6)) = (false) from (by grind [r8, s9, y7, B3, B2, D4, D5, B4, d1, d2, t1, t2])]; try rfl) (J := _) (.refl _) (.inl rfl)
  ·refine Ey rfl ((r9 rfl rfl).yd) (Em rfl (Ey rfl ((i7 fo_Binding_0 ty_Is dc rfl).yd) (Ey rfl (f8 ty_Is rfl (Hz (mS (mS (mS m0))) 0 rfl) rfl) (Ey rfl ((Y.len us_Is rfl).yd) (Ey rfl ((i7 fo_Binding_1 ty_Is dc rfl).yd) (Ey rfl (f8 ty_Is rfl (Hz (mS (mS (mS m0))) 1 rfl) rfl) (Ey rfl ((Y.len us_Is rfl).yd) (Ey rfl ((Y.neq rfl rfl).yd) (n0 (fun q32 => ?_) (fun q32 => ?_))))))))))
   ·refine Ey rfl ((r9 rfl rfl).yd) (Eu (l4 rfl (Ew Z3 (Ey rfl ((I6 (pvs := []) (cs := [_, _]) ty_Binding pl_Binding rfl rfl).yd) (Est rfl (Ns [_, _] ty_Binding rfl) (fun _ _ => (Ei rfl (Eu (E.ret (l0 (n9 (A := []) (Own.nil (E := Enc.int) (e := tI) (a := none)) rfl (j8 (congrArg (ow eIs [_]) (show _ = cond (r8 (j7, g9) (l2, d9) (l3, f6)) (s9 (j7, g9) (l2, d9) (l3, f6)).2 [] by grind [r8, s9, y7, B3, B2, D4, D5, B4, d1, d2, t1, t2])) (n9 (A := []) (Own.nil (E := Enc.int) (e := tI) (a := none)) rfl (j8 (congrArg (ow eIs [_]) (show _ = cond (r8 (j7, g9) (l2, d9) (l3, f6)) (s9 (j7, g9) (l2, d9) (l3, f6)).1 [] by grind [r8, s9, y7, B3, B2, D4, D5, B4, d1, d2, t1, t2])) (f7 (f7 ?_))))))))))))))))
    exact a1M br rfl rfl rfl (mS (mS m0)) ty_Binding rfl ((none, 0, 0), (none, 0, 0)) trivial (by rw [show (r8 (j7, g9) (l2, d9) (l3, f6)) = (false) from (by grind [r8, s9, y7, B3, B2, D4, D5, B4, d1, d2, t1, t2])]; try rfl) (J := _) (.refl _) (.inl rfl)
   ·refine Ey rfl ((r9 rfl rfl).yd) (Eu (l6 rfl (i8 (Et (Ew Z4 (Ey rfl (o0 (cs := [_, _]) ty_Binding rfl (Has.pt (mS (mS (mS m0)))) rfl) (Est rfl (N.call (a5c fc fc) rfl rfl rfl dc rfl (fun w Lp hA => ⟨hA.ro F1, hA.ro z6⟩)) (fun k36 _ => ?_))))))))
    obtain ⟨⟨a36_0, m36_0, c36_0⟩, ⟨a36_1, m36_1, c36_1⟩⟩ := k36
    refine i9 m0 fun e36_0 l36_0 => ?_
    subst e36_0
    refine i9 (mS m0) fun e36_1 l36_1 => ?_
    subst e36_1
    refine Est rfl (N.alloc ty_Binding dc) (fun b8 _ => (Est rfl (Ns [_, _] ty_Binding rfl) (fun _ _ => (Eu (Eq_ (Ew Z4 (Ey rfl ((i7 fo_Atom_1 ty_Is dc rfl).yd) (Ey rfl (f8 ty_Is rfl ((Has.pt (mS (mS (mS (mS (mS m0)))))).sub (cs' := [_]) 1 rfl) rfl) (Ey rfl ((Y.len us_Is rfl).yd) (Em rfl (Eu (E.block (f7 (j8 (congrArg (ow eIs [_]) (show j7 = (C3 (j7, g9) ((d9.zip f6).take 0)).1 from by first | rfl | (simp; done) | grind [r8, s9, y7, B3, B2, D4, D5, B4, d1, d2, t1, t2])) (j6 (j8 (congrArg (ow eIs [_]) (show g9 = (C3 (j7, g9) ((d9.zip f6).take 0)).2 from by first | rfl | (simp; done) | grind [r8, s9, y7, B3, B2, D4, D5, B4, d1, d2, t1, t2])) (E.loop (κ := Nat × Option Addr × Nat × Nat × Option Addr × Nat × Nat) (fun g => g.1 ≤ d9.length ∧ okV (j7, g9) (d9.zip f6) = okV (C3 (j7, g9) ((d9.zip f6).take g.1)) ((d9.zip f6).drop g.1)) (fun g => [(5, .pointer (some ⟨b5, 0, none⟩)), (6, .pointer (some ⟨b6, 0, none⟩)), (8, .pointer (some ⟨b8, 0, none⟩)), (38, .slice w7 d9.length w6), (39, .int .i64 (↑d9.length : Int)), (40, .int .i64 (↑g.1 : Int))]) (fun g => [ow eIs [.slice g.2.2.2.2.1 g.2.2.2.2.2.1 g.2.2.2.2.2.2] ((C3 (j7, g9) ((d9.zip f6).take g.1)).2), ow eIs [.slice g.2.1 g.2.2.1 g.2.2.2.1] ((C3 (j7, g9) ((d9.zip f6).take g.1)).1), pt b8 78 [.slice g.2.1 g.2.2.1 g.2.2.2.1, .slice g.2.2.2.2.1 g.2.2.2.2.2.1 g.2.2.2.2.2.2], pt b6 78 [.slice none 0 0, .slice none 0 0], pt b5 91 [.int .i64 l3, .slice y4 f6.length x6], pt b4 81 [.int .i64 l2, .slice w7 d9.length w6], pt b3 78 [.slice D0 j7.length C9, .slice u6 g9.length t8]]) (fun g => d9.length - g.1) (0, a36_0, (j7).length, c36_0, a36_1, (g9).length, c36_1) ⟨Nat.zero_le _, by rfl⟩ ⟨rfl, rfl, rfl, rfl, rfl, rfl, trivial⟩ (.refl _) (fun g pg => ?_))))))))))))))))))
    obtain ⟨g, aA0_0, mA0_0, cA0_0, aA0_1, mA0_1, cA0_1⟩ := g
    try dsimp only at pg
    try dsimp only
    obtain ⟨pk, pa⟩ := pg
    have jl := b3k (b := (j7, g9)) (t := d9) (v := f6) (g := g)
    have je := a3W (l := (d9.zip f6).take g) (x := (j7, g9)) (show j7.length = g9.length by omega)
    dsimp only at jl
    refine i9 (mS m0) fun eaA0_0 laA0_0 => ?_
    subst eaA0_0
    refine i9 m0 fun eaA0_1 laA0_1 => ?_
    subst eaA0_1
    refine Ew Z1 (Ey rfl ((Y.lss rfl rfl).yd) (n0 (fun q41 => ?_) (fun q41 => ?_)))
    ·refine Eu (Eq_ (l4 rfl (i8 (Et (Eq_ (E.block (Ew Z5 (Em rfl ?_))))))))
     obtain ⟨eb43, eo43, ea43, ei43, eh43⟩ := D6.elemI g om
     refine Ey rfl ((o6 us_Is f0 rfl ea43 rfl g rfl om).yd) (Ey rfl (f8 f0 rfl (eh43 _) rfl) (Ei rfl (Ei rfl (Eu (Eq_ (Ew Z8 (Em rfl (Est rfl (k6 a0A rfl rfl rfl dc tv) (fun _ _ => (Ent.b (fun q46 => ?_) (fun q46 => ?_)))))))))))
     ·refine Em rfl (Ey rfl (o0 (cs := [_, _]) ty_Binding rfl (Has.pt (mS (mS m0))) rfl) (Em rfl (Est rfl (k6 a1z rfl rfl rfl dc (fun w Lp hA => ⟨hA.ow (mS m0), hA.ow m0⟩)) (fun _ _ => (Ey rfl ((Y.lss rfl rfl).yd) (n0 (fun q51 => ?_) (fun q51 => ?_)))))))
      ·refine Ey rfl ((s6 rfl rfl).yd) (Eu (l4 rfl (a4l (κ := (Option Addr × Nat) × (Option Addr × Nat)) (fun _ => True) (fun kM => [(5, .pointer (some ⟨b5, 0, none⟩)), (6, .pointer (some ⟨b6, 0, none⟩)), (8, .pointer (some ⟨b8, 0, none⟩)), (9, .int .i64 (g : Int)), (10, .int .i64 d9[g]), (38, .slice w7 d9.length w6), (39, .int .i64 (↑d9.length : Int)), (40, .int .i64 (g : Int))]) (fun kM => [pt b8 78 [.slice kM.1.1 (((C3 (j7, g9) ((d9.zip f6).take g)).1).length + 1) kM.1.2, .slice kM.2.1 (((C3 (j7, g9) ((d9.zip f6).take g)).2).length + 1) kM.2.2], ow eIs [.slice kM.2.1 (((C3 (j7, g9) ((d9.zip f6).take g)).2).length + 1) kM.2.2] (((C3 (j7, g9) ((d9.zip f6).take g)).2) ++ [f6[g]]), ow eIs [.slice kM.1.1 (((C3 (j7, g9) ((d9.zip f6).take g)).1).length + 1) kM.1.2] (((C3 (j7, g9) ((d9.zip f6).take g)).1) ++ [d9[g]]), pt b6 78 [.slice none 0 0, .slice none 0 0], pt b5 91 [.int .i64 l3, .slice y4 f6.length x6], pt b4 81 [.int .i64 l2, .slice w7 d9.length w6], pt b3 78 [.slice D0 j7.length C9, .slice u6 g9.length t8]]) ?_ (fun kM _ => ?_))))
       ·refine O0 [b8, b6, b5, b4, b3] (fun j => !(Nat.beq j 15) && !(Nat.beq j 17)) mixed (C0 0 rfl rfl dc (i7 fo_Binding_0 ty_Is dc rfl) kr (Y6 1 rfl rfl dc (R2 ty_Is rfl ((O9.pt (mS (mS m0)) (by simp)).sub (cs' := [_]) 0 rfl) rfl) kr (C0 2 rfl rfl dc (j4 rfl) kr (C0 5 rfl rfl dc (i7 fo_Binding_1 ty_Is dc rfl) kr (Y6 6 rfl rfl dc (R2 ty_Is rfl ((O9.pt (mS (mS m0)) (by simp)).sub (cs' := [_]) 1 rfl) rfl) kr (C0 7 rfl rfl dc (i7 fo_Fact_1 ty_Is dc rfl) kr (Y6 8 rfl rfl dc (R2 ty_Is rfl ((O9.pt (mS (mS (mS (mS m0)))) (by simp)).sub (cs' := [_]) 1 rfl) rfl) kr (C0 9 rfl rfl dc (j4 rfl) kr ?_))))))))
        obtain ⟨eb63, eo63, ea63, ei63, eh63⟩ := y9.elemI g om
        refine C0 10 rfl rfl dc (o6 us_Is f0 rfl ea63 rfl g rfl om) kr (Y6 11 rfl rfl dc (R2 f0 rfl (O9.ro eh63) rfl) kr (B0 (i := 3) (j := 12) kr ?_ ?_))
        ·refine H2 3 rfl rfl (fun _ _ => SameI.out) (Nb [_] [_] us_Is f0 rfl rfl) (fun b56 _ => (B0 (i := 4) (j := 12) kr ?_ ?_))
         ·refine j6 (H2 4 rfl rfl (fun _ _ => SameI.out) (y6 (E := Enc.int) (ex := d9[g]) us_Is f0 rfl rfl rfl (Own.int ei43) rfl bn bn dc) (fun p57 _ => (C0 14 rfl rfl dc (i7 fo_Binding_0 ty_Is dc rfl) kr (F3 12 rfl rfl kr (fun _ _ => SameI.out) (Nb [_] [_] us_Is f0 rfl rfl) (fun b65 _ => (j6 (F3 13 rfl rfl kr (fun _ _ => SameI.out) (y6 (E := Enc.int) (ex := f6[g]) us_Is f0 rfl rfl rfl (Own.int ei63) rfl bn bn dc) (fun p66 _ => (j6 (F3 15 rfl rfl kr (fun h => by cases h) (Ns [_, _] ty_Is rfl) (fun _ _ => (C0 16 rfl rfl dc (i7 fo_Binding_1 ty_Is dc rfl) kr (F3 17 rfl rfl kr (fun h => by cases h) (Ns [_, _] ty_Is rfl) (fun _ _ => (Q6 kr (v8 (v8 (v8 (v8 (v8 ?_))))))))))))))))))))
          refine v8 (v8 ?_)
          exact a0q (p57, p66) trivial ⟨rfl, rfl, rfl, rfl, rfl, rfl, rfl, rfl, trivial⟩ (.refl _)
         ·refine H2 12 rfl rfl (fun _ _ => SameI.out) (Nb [_] [_] us_Is f0 rfl rfl) (fun b65 _ => (f7 (m6 (F3 4 rfl rfl kr (fun _ _ => SameI.out) (y6 (E := Enc.int) (ex := d9[g]) us_Is f0 rfl rfl rfl (Own.int ei43) rfl bn bn dc) (fun p57 _ => (C0 14 rfl rfl dc (i7 fo_Binding_0 ty_Is dc rfl) kr (f7 (j6 (F3 13 rfl rfl kr (fun _ _ => SameI.out) (y6 (E := Enc.int) (ex := f6[g]) us_Is f0 rfl rfl rfl (Own.int ei63) rfl bn bn dc) (fun p66 _ => (j6 (F3 15 rfl rfl kr (fun h => by cases h) (Ns [_, _] ty_Is rfl) (fun _ _ => (C0 16 rfl rfl dc (i7 fo_Binding_1 ty_Is dc rfl) kr (F3 17 rfl rfl kr (fun h => by cases h) (Ns [_, _] ty_Is rfl) (fun _ _ => (Q6 kr (v8 (v8 (v8 ?_))))))))))))))))))))
          refine v8 (v8 (v8 (v8 ?_)))
          exact a0q (p57, p66) trivial ⟨rfl, rfl, rfl, rfl, rfl, rfl, rfl, rfl, trivial⟩ (.refl _)
        ·refine H2 12 rfl rfl (fun _ _ => SameI.out) (Nb [_] [_] us_Is f0 rfl rfl) (fun b65 _ => (F3 3 rfl rfl kr (fun _ _ => SameI.out) (Nb [_] [_] us_Is f0 rfl rfl) (fun b56 _ => (m6 (F3 4 rfl rfl kr (fun _ _ => SameI.out) (y6 (E := Enc.int) (ex := d9[g]) us_Is f0 rfl rfl rfl (Own.int ei43) rfl bn bn dc) (fun p57 _ => (C0 14 rfl rfl dc (i7 fo_Binding_0 ty_Is dc rfl) kr (f7 (j6 (F3 13 rfl rfl kr (fun _ _ => SameI.out) (y6 (E := Enc.int) (ex := f6[g]) us_Is f0 rfl rfl rfl (Own.int ei63) rfl bn bn dc) (fun p66 _ => (j6 (F3 15 rfl rfl kr (fun h => by cases h) (Ns [_, _] ty_Is rfl) (fun _ _ => (C0 16 rfl rfl dc (i7 fo_Binding_1 ty_Is dc rfl) kr (F3 17 rfl rfl kr (fun h => by cases h) (Ns [_, _] ty_Is rfl) (fun _ _ => (Q6 kr (v8 (v8 (v8 ?_)))))))))))))))))))))
         refine v8 (v8 (v8 (v8 ?_)))
         exact a0q (p57, p66) trivial ⟨rfl, rfl, rfl, rfl, rfl, rfl, rfl, rfl, trivial⟩ (.refl _)
       ·obtain ⟨p57, p66⟩ := kM
        try dsimp only
        refine Et (Eq_ (D.region (fun j => true) mixed (Dy 0 rfl (o0 (cs := [_, _]) ty_Binding rfl (Has.pt m0) rfl) (Dyp 1 rfl (j4 rfl) (Dyp 3 rfl (i7 fo_Fact_1 ty_Is dc rfl) (Dy 4 rfl (f8 ty_Is rfl (Hz (mS (mS (mS (mS m0)))) 1 rfl) rfl) (Dyp 5 rfl (j4 rfl) ?_)))))))
        obtain ⟨eb75, eo75, ea75, ei75, eh75⟩ := y9.elemI g om
        refine Dyp 6 rfl (o6 us_Is f0 rfl ea75 rfl g rfl om) (Dy 7 rfl (f8 f0 rfl (eh75 _) rfl) (u7 2 rfl rfl kr (fun _ => rfl) (k6 Y8 rfl rfl rfl dc (fun w Lp hA => ⟨hA.ow (mS (mS m0)), hA.ow (mS m0)⟩)) (fun _ _ => (Dyp 8 rfl (Y.neq rfl rfl) (n0 (fun q77 => ?_) (fun q77 => ?_))))))
        ·refine o3 kr (Et (l4 rfl (Ew Z3 (Ey rfl ((I6 (pvs := []) (cs := [_, _]) ty_Binding pl_Binding rfl rfl).yd) (m6 (Est rfl (Ns [_, _] ty_Binding rfl) (fun _ _ => (Ei rfl (Eu (E.ret (t7 (l0 (l0 (t7 (l0 (n9 (A := []) (Own.nil (E := Enc.int) (e := tI) (a := none)) rfl (j8 (congrArg (ow eIs [_]) (show _ = cond (r8 (j7, g9) (l2, d9) (l3, f6)) (s9 (j7, g9) (l2, d9) (l3, f6)).2 [] by grind [r8, s9, y7, B3, B2, D4, D5, B4, d1, d2, t1, t2])) (n9 (A := []) (Own.nil (E := Enc.int) (e := tI) (a := none)) rfl (j8 (congrArg (ow eIs [_]) (show _ = cond (r8 (j7, g9) (l2, d9) (l3, f6)) (s9 (j7, g9) (l2, d9) (l3, f6)).1 [] by grind [r8, s9, y7, B3, B2, D4, D5, B4, d1, d2, t1, t2])) (f7 (f7 ?_)))))))))))))))))))))
         exact a1M br rfl rfl rfl (mS (mS m0)) ty_Binding rfl ((none, 0, 0), (none, 0, 0)) trivial (by rw [show (r8 (j7, g9) (l2, d9) (l3, f6)) = (false) from (by grind [r8, s9, y7, B3, B2, D4, D5, B4, d1, d2, t1, t2])]; try rfl) (J := _) (.refl _) (.inl rfl)
        ·refine o3 kr (Et (l6 rfl (i8 (o4 (Et (Ez Z2 (Ey rfl ((Y.add rfl rfl om om).yd) (Em rfl (Eu (j6 (j8 (congrArg (ow eIs [_]) (show ((C3 (j7, g9) ((d9.zip f6).take g)).1) ++ [d9[g]] = (C3 (j7, g9) ((d9.zip f6).take (g + 1))).1 from by grind [r8, s9, y7, B3, B2, D4, D5, B4, d1, d2, t1, t2])) (j6 (j8 (congrArg (ow eIs [_]) (show ((C3 (j7, g9) ((d9.zip f6).take g)).2) ++ [f6[g]] = (C3 (j7, g9) ((d9.zip f6).take (g + 1))).2 from by grind [r8, s9, y7, B3, B2, D4, D5, B4, d1, d2, t1, t2])) (v8 (v8 (v8 (v8 (v8 (v8 (v8 ?_))))))))))))))))))))
         exact Ea (g + 1, p57.1, (((C3 (j7, g9) ((d9.zip f6).take g)).1).length + 1), p57.2, p66.1, (((C3 (j7, g9) ((d9.zip f6).take g)).2).length + 1), p66.2) ⟨oz, (show okV (j7, g9) (d9.zip f6) = okV (C3 (j7, g9) ((d9.zip f6).take (g + 1))) ((d9.zip f6).drop (g + 1)) from by grind [r8, s9, y7, B3, B2, D4, D5, B4, d1, d2, t1, t2])⟩
      ·refine Ey rfl ((s6 rfl rfl).yd) (Eu (l6 rfl (i8 (Et (Eq_ (D.region (fun j => true) mixed (Dy 0 rfl (o0 (cs := [_, _]) ty_Binding rfl (Has.pt (mS (mS m0))) rfl) (Dyp 1 rfl (j4 rfl) (Dyp 3 rfl (i7 fo_Fact_1 ty_Is dc rfl) (Dy 4 rfl (f8 ty_Is rfl (Hz (mS (mS (mS (mS m0)))) 1 rfl) rfl) (Dyp 5 rfl (j4 rfl) ?_)))))))))))
       obtain ⟨eb75, eo75, ea75, ei75, eh75⟩ := y9.elemI g om
       refine Dyp 6 rfl (o6 us_Is f0 rfl ea75 rfl g rfl om) (Dy 7 rfl (f8 f0 rfl (eh75 _) rfl) (u7 2 rfl rfl kr (fun _ => rfl) (k6 Y8 rfl rfl rfl dc (fun w Lp hA => ⟨hA.ow (mS m0), hA.ow m0⟩)) (fun _ _ => (Dyp 8 rfl (Y.neq rfl rfl) (n0 (fun q77 => ?_) (fun q77 => ?_))))))
       ·refine o3 kr (Et (l4 rfl (Ew Z3 (Ey rfl ((I6 (pvs := []) (cs := [_, _]) ty_Binding pl_Binding rfl rfl).yd) (m6 (Est rfl (Ns [_, _] ty_Binding rfl) (fun _ _ => (Ei rfl (Eu (E.ret (t7 (l0 (l0 (t7 (l0 (n9 (A := []) (Own.nil (E := Enc.int) (e := tI) (a := none)) rfl (j8 (congrArg (ow eIs [_]) (show _ = cond (r8 (j7, g9) (l2, d9) (l3, f6)) (s9 (j7, g9) (l2, d9) (l3, f6)).2 [] by grind [r8, s9, y7, B3, B2, D4, D5, B4, d1, d2, t1, t2])) (n9 (A := []) (Own.nil (E := Enc.int) (e := tI) (a := none)) rfl (j8 (congrArg (ow eIs [_]) (show _ = cond (r8 (j7, g9) (l2, d9) (l3, f6)) (s9 (j7, g9) (l2, d9) (l3, f6)).1 [] by grind [r8, s9, y7, B3, B2, D4, D5, B4, d1, d2, t1, t2])) (f7 (f7 ?_)))))))))))))))))))))
        exact a1M br rfl rfl rfl (mS (mS m0)) ty_Binding rfl ((none, 0, 0), (none, 0, 0)) trivial (by rw [show (r8 (j7, g9) (l2, d9) (l3, f6)) = (false) from (by grind [r8, s9, y7, B3, B2, D4, D5, B4, d1, d2, t1, t2])]; try rfl) (J := _) (.refl _) (.inl rfl)
       ·refine o3 kr (Et (l6 rfl (i8 (o4 (Et (Ez Z2 (Ey rfl ((Y.add rfl rfl om om).yd) (Em rfl (Eu (f7 (j8 (congrArg (ow eIs [_]) (show (C3 (j7, g9) ((d9.zip f6).take g)).1 = (C3 (j7, g9) ((d9.zip f6).take (g + 1))).1 from by grind [r8, s9, y7, B3, B2, D4, D5, B4, d1, d2, t1, t2])) (f7 (j8 (congrArg (ow eIs [_]) (show (C3 (j7, g9) ((d9.zip f6).take g)).2 = (C3 (j7, g9) ((d9.zip f6).take (g + 1))).2 from by grind [r8, s9, y7, B3, B2, D4, D5, B4, d1, d2, t1, t2])) (v8 (v8 (v8 (v8 (v8 (v8 (v8 ?_))))))))))))))))))))
        exact Ea (g + 1, aA0_0, ((C3 (j7, g9) ((d9.zip f6).take g)).1).length, cA0_0, aA0_1, ((C3 (j7, g9) ((d9.zip f6).take g)).2).length, cA0_1) ⟨oz, (show okV (j7, g9) (d9.zip f6) = okV (C3 (j7, g9) ((d9.zip f6).take (g + 1))) ((d9.zip f6).drop (g + 1)) from by grind [r8, s9, y7, B3, B2, D4, D5, B4, d1, d2, t1, t2])⟩
     ·refine Em rfl (Es rfl (Es rfl (Es rfl (Es rfl (Ey rfl ((r9 rfl rfl).yd) (Eu (l6 rfl (i8 (Et (Eq_ (D.region (fun j => true) mixed (Dy 0 rfl (o0 (cs := [_, _]) ty_Binding rfl (Has.pt (mS (mS m0))) rfl) (Dyp 1 rfl (j4 rfl) (Dyp 3 rfl (i7 fo_Fact_1 ty_Is dc rfl) (Dy 4 rfl (f8 ty_Is rfl (Hz (mS (mS (mS (mS m0)))) 1 rfl) rfl) (Dyp 5 rfl (j4 rfl) ?_))))))))))))))))
      obtain ⟨eb75, eo75, ea75, ei75, eh75⟩ := y9.elemI g om
      refine Dyp 6 rfl (o6 us_Is f0 rfl ea75 rfl g rfl om) (Dy 7 rfl (f8 f0 rfl (eh75 _) rfl) (u7 2 rfl rfl kr (fun _ => rfl) (k6 Y8 rfl rfl rfl dc (fun w Lp hA => ⟨hA.ow (mS m0), hA.ow m0⟩)) (fun _ _ => (Dyp 8 rfl (Y.neq rfl rfl) (n0 (fun q77 => ?_) (fun q77 => ?_))))))
      ·refine o3 kr (Et (l4 rfl (Ew Z3 (Ey rfl ((I6 (pvs := []) (cs := [_, _]) ty_Binding pl_Binding rfl rfl).yd) (m6 (Est rfl (Ns [_, _] ty_Binding rfl) (fun _ _ => (Ei rfl (Eu (E.ret (t7 (l0 (l0 (t7 (l0 (n9 (A := []) (Own.nil (E := Enc.int) (e := tI) (a := none)) rfl (j8 (congrArg (ow eIs [_]) (show _ = cond (r8 (j7, g9) (l2, d9) (l3, f6)) (s9 (j7, g9) (l2, d9) (l3, f6)).2 [] by grind [r8, s9, y7, B3, B2, D4, D5, B4, d1, d2, t1, t2])) (n9 (A := []) (Own.nil (E := Enc.int) (e := tI) (a := none)) rfl (j8 (congrArg (ow eIs [_]) (show _ = cond (r8 (j7, g9) (l2, d9) (l3, f6)) (s9 (j7, g9) (l2, d9) (l3, f6)).1 [] by grind [r8, s9, y7, B3, B2, D4, D5, B4, d1, d2, t1, t2])) (f7 (f7 ?_)))))))))))))))))))))
       exact a1M br rfl rfl rfl (mS (mS m0)) ty_Binding rfl ((none, 0, 0), (none, 0, 0)) trivial (by rw [show (r8 (j7, g9) (l2, d9) (l3, f6)) = (false) from (by grind [r8, s9, y7, B3, B2, D4, D5, B4, d1, d2, t1, t2])]; try rfl) (J := _) (.refl _) (.inl rfl)
      ·refine o3 kr (Et (l6 rfl (i8 (o4 (Et (Ez Z2 (Ey rfl ((Y.add rfl rfl om om).yd) (Em rfl (Eu (f7 (j8 (congrArg (ow eIs [_]) (show (C3 (j7, g9) ((d9.zip f6).take g)).1 = (C3 (j7, g9) ((d9.zip f6).take (g + 1))).1 from by grind [r8, s9, y7, B3, B2, D4, D5, B4, d1, d2, t1, t2])) (f7 (j8 (congrArg (ow eIs [_]) (show (C3 (j7, g9) ((d9.zip f6).take g)).2 = (C3 (j7, g9) ((d9.zip f6).take (g + 1))).2 from by grind [r8, s9, y7, B3, B2, D4, D5, B4, d1, d2, t1, t2])) (v8 (v8 (v8 (v8 (v8 (v8 (v8 ?_))))))))))))))))))))
       exact Ea (g + 1, aA0_0, ((C3 (j7, g9) ((d9.zip f6).take g)).1).length, cA0_0, aA0_1, ((C3 (j7, g9) ((d9.zip f6).take g)).2).length, cA0_1) ⟨oz, (show okV (j7, g9) (d9.zip f6) = okV (C3 (j7, g9) ((d9.zip f6).take (g + 1))) ((d9.zip f6).drop (g + 1)) from by grind [r8, s9, y7, B3, B2, D4, D5, B4, d1, d2, t1, t2])⟩
    ·refine Eu (Eq_ (l6 rfl (E.exit (n8 (n8 (w5 (Et (Ew Z3 (Ey rfl (o0 (cs := [_, _]) ty_Binding rfl (Has.pt (mS (mS m0))) rfl) (m6 (Est rfl (Ns [_, _] ty_Binding rfl) (fun _ _ => (Ei rfl (Eu (E.ret (f7 (j8 (congrArg (ow eIs [_]) (show _ = cond (r8 (j7, g9) (l2, d9) (l3, f6)) (s9 (j7, g9) (l2, d9) (l3, f6)).2 [] by grind [r8, s9, y7, B3, B2, D4, D5, B4, d1, d2, t1, t2])) (j6 (j8 (congrArg (ow eIs [_]) (show _ = cond (r8 (j7, g9) (l2, d9) (l3, f6)) (s9 (j7, g9) (l2, d9) (l3, f6)).1 [] by grind [r8, s9, y7, B3, B2, D4, D5, B4, d1, d2, t1, t2])) (f7 (f7 ?_)))))))))))))))))))))
     exact a1M br rfl rfl rfl (mS (mS m0)) ty_Binding rfl ((_, _, _), (_, _, _)) trivial (by rw [show (r8 (j7, g9) (l2, d9) (l3, f6)) = (true) from (by grind [r8, s9, y7, B3, B2, D4, D5, B4, d1, d2, t1, t2])]; try rfl) (J := _) (.refl _) (.inl rfl)
theorem a2s (hb1 : j7.length ≤ 1000) (hb2 : g9.length ≤ 1000) (hat : d9.length ≤ 1000) : Tr Tryz.prog 129 [.agg #[.slice D0 E7 C9, .slice u6 w8 t8], .agg #[.int .i64 l2, .slice w7 C6 w6], .agg #[.int .i64 l3, .slice y4 B8 x6]] (fun w L => Ro w L eIs [.slice D0 E7 C9] j7 ∧ Ro w L eIs [.slice u6 w8 t8] g9 ∧ I64 l2 ∧ Ro w L eIs [.slice w7 C6 w6] d9 ∧ I64 l3 ∧ Ro w L eIs [.slice y4 B8 x6] f6) [] (κ := (Option Addr × Nat × Nat) × (Option Addr × Nat × Nat)) (fun k => True) (fun k => .tuple #[.agg #[.slice k.1.1 k.1.2.1 k.1.2.2, .slice k.2.1 k.2.2.1 k.2.2.2], .bool (r8 (j7, g9) (l2, d9) (l3, f6))]) (fun k => [ow eIs [.slice k.1.1 k.1.2.1 k.1.2.2] (cond (r8 (j7, g9) (l2, d9) (l3, f6)) (s9 (j7, g9) (l2, d9) (l3, f6)).1 []), ow eIs [.slice k.2.1 k.2.2.1 k.2.2.2] (cond (r8 (j7, g9) (l2, d9) (l3, f6)) (s9 (j7, g9) (l2, d9) (l3, f6)).2 [])]) := by
 refine Tr.intro Tryz.func129 rfl (n := 88) rfl (by decide +kernel) bl (fr := [(0, .agg #[.slice D0 E7 C9, .slice u6 w8 t8]), (1, .agg #[.int .i64 l2, .slice w7 C6 w6]), (2, .agg #[.int .i64 l3, .slice y4 B8 x6])]) rfl fun w L hR => ?_
 obtain ⟨F1, z6, M4, D6, H7, y9⟩ := hR
 obtain ⟨rfl, a0f⟩ := F1.slen
 obtain ⟨rfl, N9⟩ := z6.slen
 obtain ⟨rfl, T7⟩ := D6.slen
 obtain ⟨rfl, S1⟩ := y9.slen
 refine Ew Z5 (Est rfl (N.box (cs := [_, _]) rfl dc rfl) (fun b3 _ => (Est rfl (N.box (cs := [_, _]) rfl dc rfl) (fun b4 _ => (Est rfl (N.box (cs := [_, _]) rfl dc rfl) (fun b5 _ => (Est rfl (N.alloc ty_Binding dc) (fun b6 _ => (Ei rfl (Ev Z4 (Ey rfl (o0 (cs := [_, _]) ty_Binding rfl (Has.pt (mS (mS (mS m0)))) rfl) (Est rfl (N.call (a8Z fc fc) rfl rfl rfl dc rfl (fun w Lp hA => ⟨hA.ro F1, hA.ro z6⟩)) (fun k12 _ => ?_)))))))))))))
 obtain ⟨⟨a12_0, m12_0, c12_0⟩, ⟨a12_1, m12_1, c12_1⟩⟩ := k12
 refine i9 m0 fun e12_0 l12_0 => ?_
 subst e12_0
 refine i9 (mS m0) fun e12_1 l12_1 => ?_
 subst e12_1
 refine Est rfl (N.alloc ty_Binding dc) (fun b8 _ => (Est rfl (Ns [_, _] ty_Binding rfl) (fun _ _ => (Eu (Eq_ (Ew Z23 (Ey rfl ((i7 fo_Atom_0 f0 dc rfl).yd) (Ey rfl (f8 f0 rfl ((Has.pt (mS (mS (mS (mS (mS m0)))))).sub (cs' := [_]) 0 rfl) rfl) (Ey rfl ((i7 fo_Fact_0 f0 dc rfl).yd) (Ey rfl (f8 f0 rfl (Hz (mS (mS (mS (mS m0)))) 0 rfl) rfl) (Ey rfl ((Y.neq rfl rfl).yd) (n0 (fun q17 => ?_) (fun q17 => ?_)))))))))))))
 ·refine Em rfl (Es rfl (Es rfl (Es rfl (Es rfl (Es rfl (Es rfl (Es rfl (Ey rfl ((s6 rfl rfl).yd) (Em rfl (Es rfl (Es rfl (Es rfl (Es rfl (Es rfl ?_))))))))))))))
  refine Es rfl (Es rfl (Ey rfl ((s6 rfl rfl).yd) (Eu (l4 rfl (Ew Z3 (Ey rfl ((I6 (pvs := []) (cs := [_, _]) ty_Binding pl_Binding rfl rfl).yd) (m6 (Est rfl (Ns [_, _] ty_Binding rfl) (fun _ _ => (Ei rfl (Eu (E.ret (l0 (n9 (A := []) (Own.nil (E := Enc.int) (e := tI) (a := none)) rfl (j8 (congrArg (ow eIs [_]) (show _ = cond (r8 (j7, g9) (l2, d9) (l3, f6)) (s9 (j7, g9) (l2, d9) (l3, f6)).2 [] by grind [r8, s9, y7, B3, B2, D4, D5, B4, J9, d1, d2, t1, t2])) (n9 (A := []) (Own.nil (E := Enc.int) (e := tI) (a := none)) rfl (j8 (congrArg (ow eIs [_]) (show _ = cond (r8 (j7, g9) (l2, d9) (l3, f6)) (s9 (j7, g9) (l2, d9) (l3, f6)).1 [] by grind [r8, s9, y7, B3, B2, D4, D5, B4, J9, d1, d2, t1, t2])) (f7 (f7 ?_)))))))))))))))))))
  exact a1M br rfl rfl rfl (mS (mS m0)) ty_Binding rfl ((none, 0, 0), (none, 0, 0)) trivial (by rw [show (r8 (j7, g9) (l2, d9) (l3, f6)) = (false) from (by grind [r8, s9, y7, B3, B2, D4, D5, B4, J9, d1, d2, t1, t2])]; try rfl) (J := _) (.refl _) (.inl rfl)
 ·refine Em rfl (Ey rfl ((i7 fo_Atom_1 ty_Is dc rfl).yd) (Ey rfl (f8 ty_Is rfl ((Has.pt (mS (mS (mS (mS (mS m0)))))).sub (cs' := [_]) 1 rfl) rfl) (Ey rfl ((Y.len us_Is rfl).yd) (Ey rfl ((i7 fo_Fact_1 ty_Is dc rfl).yd) (Ey rfl (f8 ty_Is rfl (Hz (mS (mS (mS (mS m0)))) 1 rfl) rfl) (Ey rfl ((Y.len us_Is rfl).yd) (Ey rfl ((Y.neq rfl rfl).yd) (n0 (fun q25 => ?_) (fun q25 => ?_)))))))))
  ·refine Ey rfl ((r9 rfl rfl).yd) (Em rfl (Es rfl (Es rfl (Es rfl (Es rfl (Es rfl (Es rfl (Es rfl (Ey rfl ((s6 rfl rfl).yd) (Eu (l4 rfl (Ew Z3 (Ey rfl ((I6 (pvs := []) (cs := [_, _]) ty_Binding pl_Binding rfl rfl).yd) (m6 (Est rfl (Ns [_, _] ty_Binding rfl) (fun _ _ => (Ei rfl (Eu (E.ret (l0 (n9 (A := []) (Own.nil (E := Enc.int) (e := tI) (a := none)) rfl ?_)))))))))))))))))))))
   refine j8 (congrArg (ow eIs [_]) (show _ = cond (r8 (j7, g9) (l2, d9) (l3, f6)) (s9 (j7, g9) (l2, d9) (l3, f6)).2 [] by grind [r8, s9, y7, B3, B2, D4, D5, B4, J9, d1, d2, t1, t2])) (n9 (A := []) (Own.nil (E := Enc.int) (e := tI) (a := none)) rfl (j8 (congrArg (ow eIs [_]) (show _ = cond (r8 (j7, g9) (l2, d9) (l3, f6)) (s9 (j7, g9) (l2, d9) (l3, f6)).1 [] by grind [r8, s9, y7, B3, B2, D4, D5, B4, J9, d1, d2, t1, t2])) (f7 (f7 ?_))))
   exact a1M br rfl rfl rfl (mS (mS m0)) ty_Binding rfl ((none, 0, 0), (none, 0, 0)) trivial (by rw [show (r8 (j7, g9) (l2, d9) (l3, f6)) = (false) from (by grind [r8, s9, y7, B3, B2, D4, D5, B4, J9, d1, d2, t1, t2])]; try rfl) (J := _) (.refl _) (.inl rfl)
  ·refine Ey rfl ((r9 rfl rfl).yd) (Em rfl (Ey rfl ((i7 fo_Binding_0 ty_Is dc rfl).yd) (Ey rfl (f8 ty_Is rfl ((Has.pt (mS (mS (mS (mS (mS (mS m0))))))).sub (cs' := [_]) 0 rfl) rfl) (Ey rfl ((Y.len us_Is rfl).yd) (Ey rfl ((i7 fo_Binding_1 ty_Is dc rfl).yd) (Ey rfl (f8 ty_Is rfl ((Has.pt (mS (mS (mS (mS (mS (mS m0))))))).sub (cs' := [_]) 1 rfl) rfl) (Ey rfl ((Y.len us_Is rfl).yd) (Ey rfl ((Y.neq rfl rfl).yd) (n0 (fun q34 => ?_) (fun q34 => ?_))))))))))
   ·refine Ey rfl ((r9 rfl rfl).yd) (Eu (l4 rfl (Ew Z3 (Ey rfl ((I6 (pvs := []) (cs := [_, _]) ty_Binding pl_Binding rfl rfl).yd) (m6 (Est rfl (Ns [_, _] ty_Binding rfl) (fun _ _ => (Ei rfl (Eu (E.ret (l0 (n9 (A := []) (Own.nil (E := Enc.int) (e := tI) (a := none)) rfl (j8 (congrArg (ow eIs [_]) (show _ = cond (r8 (j7, g9) (l2, d9) (l3, f6)) (s9 (j7, g9) (l2, d9) (l3, f6)).2 [] by grind [r8, s9, y7, B3, B2, D4, D5, B4, J9, d1, d2, t1, t2])) (n9 (A := []) (Own.nil (E := Enc.int) (e := tI) (a := none)) rfl (j8 (congrArg (ow eIs [_]) (show _ = cond (r8 (j7, g9) (l2, d9) (l3, f6)) (s9 (j7, g9) (l2, d9) (l3, f6)).1 [] by grind [r8, s9, y7, B3, B2, D4, D5, B4, J9, d1, d2, t1, t2])) (f7 (f7 ?_)))))))))))))))))
    exact a1M br rfl rfl rfl (mS (mS m0)) ty_Binding rfl ((none, 0, 0), (none, 0, 0)) trivial (by rw [show (r8 (j7, g9) (l2, d9) (l3, f6)) = (false) from (by grind [r8, s9, y7, B3, B2, D4, D5, B4, J9, d1, d2, t1, t2])]; try rfl) (J := _) (.refl _) (.inl rfl)
   ·refine Ey rfl ((r9 rfl rfl).yd) (Eu (l6 rfl (i8 (Et (Eq_ (Ew Z1 (Ei rfl (Eu (E.block (f7 (j8 (congrArg (ow eIs [_]) (show j7 = (C3 (j7, g9) ((d9.zip f6).take 0)).1 from by first | rfl | (simp; done) | grind [r8, s9, y7, B3, B2, D4, D5, B4, J9, d1, d2, t1, t2])) (j6 (j8 (congrArg (ow eIs [_]) (show g9 = (C3 (j7, g9) ((d9.zip f6).take 0)).2 from by first | rfl | (simp; done) | grind [r8, s9, y7, B3, B2, D4, D5, B4, J9, d1, d2, t1, t2])) (E.loop (κ := Nat × Option Addr × Nat × Nat × Option Addr × Nat × Nat) (fun g => g.1 ≤ d9.length ∧ okV (j7, g9) (d9.zip f6) = okV (C3 (j7, g9) ((d9.zip f6).take g.1)) ((d9.zip f6).drop g.1)) (fun g => [(4, .pointer (some ⟨b4, 0, none⟩)), (5, .pointer (some ⟨b5, 0, none⟩)), (6, .pointer (some ⟨b6, 0, none⟩)), (8, .pointer (some ⟨b8, 0, none⟩)), (9, .int .i64 (↑g.1 : Int))]) (fun g => [ow eIs [.slice g.2.2.2.2.1 g.2.2.2.2.2.1 g.2.2.2.2.2.2] ((C3 (j7, g9) ((d9.zip f6).take g.1)).2), ow eIs [.slice g.2.1 g.2.2.1 g.2.2.2.1] ((C3 (j7, g9) ((d9.zip f6).take g.1)).1), pt b8 78 [.slice g.2.1 g.2.2.1 g.2.2.2.1, .slice g.2.2.2.2.1 g.2.2.2.2.2.1 g.2.2.2.2.2.2], pt b6 78 [.slice none 0 0, .slice none 0 0], pt b5 91 [.int .i64 l3, .slice y4 f6.length x6], pt b4 81 [.int .i64 l2, .slice w7 d9.length w6], pt b3 78 [.slice D0 j7.length C9, .slice u6 g9.length t8]]) (fun g => d9.length - g.1) (0, a12_0, (j7).length, c12_0, a12_1, (g9).length, c12_1) ⟨Nat.zero_le _, by rfl⟩ ⟨rfl, rfl, rfl, rfl, rfl, trivial⟩ (.refl _) (fun g pg => ?_)))))))))))))))
    obtain ⟨g, aA0_0, mA0_0, cA0_0, aA0_1, mA0_1, cA0_1⟩ := g
    try dsimp only at pg
    try dsimp only
    obtain ⟨pk, pa⟩ := pg
    have jl := b3k (b := (j7, g9)) (t := d9) (v := f6) (g := g)
    have je := a3W (l := (d9.zip f6).take g) (x := (j7, g9)) (show j7.length = g9.length by omega)
    dsimp only at jl
    refine i9 (mS m0) fun eaA0_0 laA0_0 => ?_
    subst eaA0_0
    refine i9 m0 fun eaA0_1 laA0_1 => ?_
    subst eaA0_1
    refine Eq_ (Ew Z5 (Em rfl (Ey rfl ((i7 fo_Atom_1 ty_Is dc rfl).yd) (Ey rfl (f8 ty_Is rfl ((Has.pt (mS (mS (mS (mS (mS m0)))))).sub (cs' := [_]) 1 rfl) rfl) (Ey rfl ((Y.len us_Is rfl).yd) (Ey rfl ((Y.lss rfl rfl).yd) (n0 (fun q41 => ?_) (fun q41 => ?_))))))))
    ·refine Eu (l4 rfl (i8 (Et (Eq_ (E.block (Eq_ (D.region (fun j => true) mixed (Dy 0 rfl (o0 (cs := [_, _]) ty_Binding rfl (Has.pt (mS (mS m0))) rfl) (Dyp 1 rfl (i7 fo_Atom_1 ty_Is dc rfl) (Dy 2 rfl (f8 ty_Is rfl ((Has.pt (mS (mS (mS (mS (mS m0)))))).sub (cs' := [_]) 1 rfl) rfl) (Dyp 3 rfl (j4 rfl) ?_)))))))))))
     obtain ⟨eb48, eo48, ea48, ei48, eh48⟩ := D6.elemI g om
     refine Dyp 4 rfl (o6 us_Is f0 rfl ea48 rfl g rfl om) (Dy 5 rfl (f8 f0 rfl (eh48 _) rfl) (u7 6 rfl rfl kr (fun _ => rfl) (k6 a1E rfl rfl rfl dc (fun w Lp hA => ⟨hA.ow (mS m0), hA.ow m0⟩)) (fun _ _ => (Dyp 7 rfl (G1 rfl) (o3 kr (Et (Eq_ (D.region (fun j => true) mixed (Dyp 0 rfl (i7 fo_Atom_1 ty_Is dc rfl) (Dy 1 rfl (f8 ty_Is rfl ((Has.pt (mS (mS (mS (mS (mS m0)))))).sub (cs' := [_]) 1 rfl) rfl) (Dyp 2 rfl (j4 rfl) (Dyp 3 rfl (o6 us_Is f0 rfl ea48 rfl g rfl om) (Dy 4 rfl (f8 f0 rfl (eh48 _) rfl) (u7 5 rfl rfl kr (fun _ => rfl) (k6 a0e rfl rfl rfl dc tv) (fun _ _ => (Ent.b (fun q56 => ?_) (fun q56 => ?_)))))))))))))))))
     ·refine Dyp 6 rfl (j4 rfl) (Dy 7 rfl (o0 (cs := [_, _]) ty_Binding rfl (Has.pt (mS (mS m0))) rfl) (Dyp 8 rfl (i7 fo_Atom_1 ty_Is dc rfl) (Dy 9 rfl (f8 ty_Is rfl ((Has.pt (mS (mS (mS (mS (mS m0)))))).sub (cs' := [_]) 1 rfl) rfl) (Dyp 10 rfl (j4 rfl) (Dyp 11 rfl (o6 us_Is f0 rfl ea48 rfl g rfl om) (Dy 12 rfl (f8 f0 rfl (eh48 _) rfl) (u7 13 rfl rfl kr (fun _ => rfl) (k6 a7w rfl rfl rfl dc (fun w Lp hA => ⟨hA.ow (mS m0), hA.ow m0⟩)) (fun _ _ => (Ent.b (fun q64 => ?_) (fun q64 => ?_))))))))))
      ·refine Dyp 14 rfl (Y.not (b := true) rfl) (Dyp 15 rfl (s6 rfl rfl) (o3 kr (Et (l6 rfl (Ew Z7 (Em rfl (Ey rfl ((i7 fo_Fact_1 ty_Is dc rfl).yd) (Ey rfl (f8 ty_Is rfl (Hz (mS (mS (mS (mS m0)))) 1 rfl) rfl) (Em rfl ?_)))))))))
       obtain ⟨eb83, eo83, ea83, ei83, eh83⟩ := y9.elemI g om
       refine Ey rfl ((o6 us_Is f0 rfl ea83 rfl g rfl om).yd) (Ey rfl (f8 f0 rfl (eh83 _) rfl) (Ey rfl ((Y.neq rfl rfl).yd) (n0 (fun q85 => ?_) (fun q85 => ?_))))
       ·refine Eu (l4 rfl (Ew Z3 (Ey rfl ((I6 (pvs := []) (cs := [_, _]) ty_Binding pl_Binding rfl rfl).yd) (m6 (Est rfl (Ns [_, _] ty_Binding rfl) (fun _ _ => (Ei rfl (Eu (E.ret (t7 (l0 (l0 (t7 (l0 (n9 (A := []) (Own.nil (E := Enc.int) (e := tI) (a := none)) rfl (j8 (congrArg (ow eIs [_]) (show _ = cond (r8 (j7, g9) (l2, d9) (l3, f6)) (s9 (j7, g9) (l2, d9) (l3, f6)).2 [] by grind [r8, s9, y7, B3, B2, D4, D5, B4, J9, d1, d2, t1, t2])) (n9 (A := []) (Own.nil (E := Enc.int) (e := tI) (a := none)) rfl (j8 (congrArg (ow eIs [_]) (show _ = cond (r8 (j7, g9) (l2, d9) (l3, f6)) (s9 (j7, g9) (l2, d9) (l3, f6)).1 [] by grind [r8, s9, y7, B3, B2, D4, D5, B4, J9, d1, d2, t1, t2])) (f7 (f7 ?_))))))))))))))))))))
        exact a1M br rfl rfl rfl (mS (mS m0)) ty_Binding rfl ((none, 0, 0), (none, 0, 0)) trivial (by rw [show (r8 (j7, g9) (l2, d9) (l3, f6)) = (false) from (by grind [r8, s9, y7, B3, B2, D4, D5, B4, J9, d1, d2, t1, t2])]; try rfl) (J := _) (.refl _) (.inl rfl)
       ·refine Eu (l6 rfl (i8 (o4 (Et (Ez Z3 (Em rfl (Ey rfl ((Y.add rfl rfl om om).yd) (Ei rfl (Eu (f7 (j8 (congrArg (ow eIs [_]) (show (C3 (j7, g9) ((d9.zip f6).take g)).1 = (C3 (j7, g9) ((d9.zip f6).take (g + 1))).1 from by grind [r8, s9, y7, B3, B2, D4, D5, B4, J9, d1, d2, t1, t2])) (f7 (j8 (congrArg (ow eIs [_]) (show (C3 (j7, g9) ((d9.zip f6).take g)).2 = (C3 (j7, g9) ((d9.zip f6).take (g + 1))).2 from by grind [r8, s9, y7, B3, B2, D4, D5, B4, J9, d1, d2, t1, t2])) (v8 (v8 (v8 (v8 (v8 (v8 (v8 ?_))))))))))))))))))))
        exact Ea (g + 1, aA0_0, ((C3 (j7, g9) ((d9.zip f6).take g)).1).length, cA0_0, aA0_1, ((C3 (j7, g9) ((d9.zip f6).take g)).2).length, cA0_1) ⟨oz, (show okV (j7, g9) (d9.zip f6) = okV (C3 (j7, g9) ((d9.zip f6).take (g + 1))) ((d9.zip f6).drop (g + 1)) from by grind [r8, s9, y7, B3, B2, D4, D5, B4, J9, d1, d2, t1, t2])⟩
      ·refine Dyp 14 rfl (Y.not (b := false) rfl) (Dyp 15 rfl (s6 rfl rfl) (o3 kr (Et (l4 rfl (D.region (fun j => !(Nat.beq j 12)) mixed (Dy 0 rfl (o0 (cs := [_, _]) ty_Binding rfl (Has.pt (mS (mS m0))) rfl) (Dyp 1 rfl (i7 fo_Atom_1 ty_Is dc rfl) (Dy 2 rfl (f8 ty_Is rfl ((Has.pt (mS (mS (mS (mS (mS m0)))))).sub (cs' := [_]) 1 rfl) rfl) (Dyp 3 rfl (j4 rfl) (Dyp 4 rfl (o6 us_Is f0 rfl ea48 rfl g rfl om) (Dy 5 rfl (f8 f0 rfl (eh48 _) rfl) (Dyp 6 rfl (i7 fo_Fact_1 ty_Is dc rfl) (Dy 7 rfl (f8 ty_Is rfl (Hz (mS (mS (mS (mS m0)))) 1 rfl) rfl) (Dyp 8 rfl (j4 rfl) ?_))))))))))))))
       obtain ⟨eb76, eo76, ea76, ei76, eh76⟩ := y9.elemI g om
       refine Dyp 9 rfl (o6 us_Is f0 rfl ea76 rfl g rfl om) (Dy 10 rfl (f8 f0 rfl (eh76 _) rfl) (u7 11 rfl rfl kr (fun _ => rfl) (N.call (a8W fc fc) rfl rfl rfl dc rfl (fun w Lp hA => ⟨hA.ow (mS m0), hA.ow m0, ei48, ei76⟩)) (fun k78 _ => ?_)))
       obtain ⟨⟨a78_0, m78_0, c78_0⟩, ⟨a78_1, m78_1, c78_1⟩⟩ := k78
       refine i9 m0 fun e78_0 l78_0 => ?_
       subst e78_0
       refine i9 (mS m0) fun e78_1 l78_1 => ?_
       subst e78_1
       refine v7 (u7 12 rfl rfl kr (fun h => by cases h) (Ns [_, _] ty_Binding rfl) (fun _ _ => (o3 kr (o4 (Et (Ez Z3 (Em rfl (Ey rfl ((Y.add rfl rfl om om).yd) (Ei rfl (Eu (m6 (Ent.drop (m6 (Ent.drop (f7 (j8 (congrArg (ow eIs [_]) (show ((C3 (j7, g9) ((d9.zip f6).take g)).1) ++ [d9[g]] = (C3 (j7, g9) ((d9.zip f6).take (g + 1))).1 from by grind [r8, s9, y7, B3, B2, D4, D5, B4, J9, d1, d2, t1, t2])) (j6 (j8 (congrArg (ow eIs [_]) (show ((C3 (j7, g9) ((d9.zip f6).take g)).2) ++ [f6[g]] = (C3 (j7, g9) ((d9.zip f6).take (g + 1))).2 from by grind [r8, s9, y7, B3, B2, D4, D5, B4, J9, d1, d2, t1, t2])) (v8 (v8 ?_))))))))))))))))))))
       refine v8 (v8 (v8 (v8 (v8 ?_))))
       exact Ea (g + 1, a78_0, (((C3 (j7, g9) ((d9.zip f6).take g)).1) ++ [d9[g]]).length, c78_0, a78_1, (((C3 (j7, g9) ((d9.zip f6).take g)).2) ++ [f6[g]]).length, c78_1) ⟨oz, (show okV (j7, g9) (d9.zip f6) = okV (C3 (j7, g9) ((d9.zip f6).take (g + 1))) ((d9.zip f6).drop (g + 1)) from by grind [r8, s9, y7, B3, B2, D4, D5, B4, J9, d1, d2, t1, t2])⟩
     ·refine Dyp 6 rfl (j4 rfl) (Dsk 7 rfl (Dsk 8 rfl (Dsk 9 rfl (Dsk 10 rfl (Dsk 11 rfl (Dsk 12 rfl (Dsk 13 rfl (Dsk 14 rfl (Dyp 15 rfl (r9 rfl rfl) (o3 kr (Et (l6 rfl (Ew Z7 (Em rfl (Ey rfl ((i7 fo_Fact_1 ty_Is dc rfl).yd) (Ey rfl (f8 ty_Is rfl (Hz (mS (mS (mS (mS m0)))) 1 rfl) rfl) (Em rfl ?_)))))))))))))))))
      obtain ⟨eb83, eo83, ea83, ei83, eh83⟩ := y9.elemI g om
      refine Ey rfl ((o6 us_Is f0 rfl ea83 rfl g rfl om).yd) (Ey rfl (f8 f0 rfl (eh83 _) rfl) (Ey rfl ((Y.neq rfl rfl).yd) (n0 (fun q85 => ?_) (fun q85 => ?_))))
      ·refine Eu (l4 rfl (Ew Z3 (Ey rfl ((I6 (pvs := []) (cs := [_, _]) ty_Binding pl_Binding rfl rfl).yd) (m6 (Est rfl (Ns [_, _] ty_Binding rfl) (fun _ _ => (Ei rfl (Eu (E.ret (t7 (l0 (l0 (t7 (l0 (n9 (A := []) (Own.nil (E := Enc.int) (e := tI) (a := none)) rfl (j8 (congrArg (ow eIs [_]) (show _ = cond (r8 (j7, g9) (l2, d9) (l3, f6)) (s9 (j7, g9) (l2, d9) (l3, f6)).2 [] by grind [r8, s9, y7, B3, B2, D4, D5, B4, J9, d1, d2, t1, t2])) (n9 (A := []) (Own.nil (E := Enc.int) (e := tI) (a := none)) rfl (j8 (congrArg (ow eIs [_]) (show _ = cond (r8 (j7, g9) (l2, d9) (l3, f6)) (s9 (j7, g9) (l2, d9) (l3, f6)).1 [] by grind [r8, s9, y7, B3, B2, D4, D5, B4, J9, d1, d2, t1, t2])) (f7 (f7 ?_))))))))))))))))))))
       exact a1M br rfl rfl rfl (mS (mS m0)) ty_Binding rfl ((none, 0, 0), (none, 0, 0)) trivial (by rw [show (r8 (j7, g9) (l2, d9) (l3, f6)) = (false) from (by grind [r8, s9, y7, B3, B2, D4, D5, B4, J9, d1, d2, t1, t2])]; try rfl) (J := _) (.refl _) (.inl rfl)
      ·refine Eu (l6 rfl (i8 (o4 (Et (Ez Z3 (Em rfl (Ey rfl ((Y.add rfl rfl om om).yd) (Ei rfl (Eu (f7 (j8 (congrArg (ow eIs [_]) (show (C3 (j7, g9) ((d9.zip f6).take g)).1 = (C3 (j7, g9) ((d9.zip f6).take (g + 1))).1 from by grind [r8, s9, y7, B3, B2, D4, D5, B4, J9, d1, d2, t1, t2])) (f7 (j8 (congrArg (ow eIs [_]) (show (C3 (j7, g9) ((d9.zip f6).take g)).2 = (C3 (j7, g9) ((d9.zip f6).take (g + 1))).2 from by grind [r8, s9, y7, B3, B2, D4, D5, B4, J9, d1, d2, t1, t2])) (v8 (v8 (v8 (v8 (v8 (v8 (v8 ?_))))))))))))))))))))
       exact Ea (g + 1, aA0_0, ((C3 (j7, g9) ((d9.zip f6).take g)).1).length, cA0_0, aA0_1, ((C3 (j7, g9) ((d9.zip f6).take g)).2).length, cA0_1) ⟨oz, (show okV (j7, g9) (d9.zip f6) = okV (C3 (j7, g9) ((d9.zip f6).take (g + 1))) ((d9.zip f6).drop (g + 1)) from by grind [r8, s9, y7, B3, B2, D4, D5, B4, J9, d1, d2, t1, t2])⟩
    ·refine Eu (l6 rfl (E.exit (n8 (n8 (w5 (Et (Ew Z3 (Ey rfl (o0 (cs := [_, _]) ty_Binding rfl (Has.pt (mS (mS m0))) rfl) (m6 (Est rfl (Ns [_, _] ty_Binding rfl) (fun _ _ => (Ei rfl (Eu (E.ret (f7 (j8 (congrArg (ow eIs [_]) (show _ = cond (r8 (j7, g9) (l2, d9) (l3, f6)) (s9 (j7, g9) (l2, d9) (l3, f6)).2 [] by grind [r8, s9, y7, B3, B2, D4, D5, B4, J9, d1, d2, t1, t2])) (j6 (j8 (congrArg (ow eIs [_]) (show _ = cond (r8 (j7, g9) (l2, d9) (l3, f6)) (s9 (j7, g9) (l2, d9) (l3, f6)).1 [] by grind [r8, s9, y7, B3, B2, D4, D5, B4, J9, d1, d2, t1, t2])) (f7 (f7 ?_))))))))))))))))))))
     exact a1M br rfl rfl rfl (mS (mS m0)) ty_Binding rfl ((_, _, _), (_, _, _)) trivial (by rw [show (r8 (j7, g9) (l2, d9) (l3, f6)) = (true) from (by grind [r8, s9, y7, B3, B2, D4, D5, B4, J9, d1, d2, t1, t2])]; try rfl) (J := _) (.refl _) (.inl rfl)
theorem a2V (hbl : ∀ b ∈ l, b.1.length ≤ 1000 ∧ b.2.length ≤ 1000) (hat : d9.length ≤ 1000) (hk : Few (l2, d9) d4) (hn : l.length * 1000 ≤ 1000000000000) : Tr Tryz.prog 123 [.slice a_l m_l c_l, .agg #[.int .i64 l2, .slice w7 C6 w6], .slice a_facts m_facts c_facts] (fun w L => Ro w L B6 [.slice a_l m_l c_l] l ∧ I64 l2 ∧ Ro w L eIs [.slice w7 C6 w6] d9 ∧ Ro w L r7 [.slice a_facts m_facts c_facts] d4) [] (κ := Option Addr × Nat × Nat) (fun k => True) (fun k => .slice k.1 k.2.1 k.2.2) (fun k => [ow B6 [.slice k.1 k.2.1 k.2.2] (E5 l (l2, d9) d4)]) := by
 refine Tr.intro Tryz.func123 rfl (n := 42) rfl (by decide +kernel) bl (fr := [(0, .slice a_l m_l c_l), (1, .agg #[.int .i64 l2, .slice w7 C6 w6]), (2, .slice a_facts m_facts c_facts)]) rfl fun w L hR => ?_
 obtain ⟨hl, M4, D6, hfacts⟩ := hR
 obtain ⟨rfl, ll⟩ := hl.slen
 obtain ⟨rfl, T7⟩ := D6.slen
 obtain ⟨rfl, lfacts⟩ := hfacts.slen
 refine Ew Z2 (Est rfl (N.box (cs := [_, _]) rfl dc rfl) (fun b4 _ => (Ei rfl (Ev Z2 (Est rfl (Nb [] [] us_Bindings ty_Binding rfl rfl) (fun b14 _ => (Ent.drop (Ei rfl (Eu (Eq_ (Ew Z3 (Em rfl (Ey rfl ((Y.len us_Bindings rfl).yd) (Em rfl (Eu (E.block (n9 (A := []) (Own.nil (E := H8) (e := tBinding) (a := (some ⟨b14, 0, none⟩))) rfl (j8 (congrArg (ow B6 [_]) (show [] = E5 (l.take 0) (l2, d9) d4 from by first | rfl | (simp; done) | grind [R8, U7, U8, R7, d1, d2, t1, t2])) (E.loop (κ := Nat × Option Addr × Nat × Nat) (fun g => g.1 ≤ l.length ∧ True) (fun g => [(2, .slice a_facts d4.length c_facts), (4, .pointer (some ⟨b4, 0, none⟩)), (7, .slice g.2.1 g.2.2.1 g.2.2.2), (15, .slice a_l l.length c_l), (16, .int .i64 (↑l.length : Int)), (17, .int .i64 (↑g.1 : Int))]) (fun g => [ow B6 [.slice g.2.1 g.2.2.1 g.2.2.2] (E5 (l.take g.1) (l2, d9) d4), pt b4 81 [.int .i64 l2, .slice w7 d9.length w6]]) (fun g => l.length - g.1) (0, (some ⟨b14, 0, none⟩), 0, 0) ⟨Nat.zero_le _, by simp⟩ ⟨rfl, rfl, rfl, rfl, rfl, rfl, trivial⟩ (.refl _) (fun g pg => ?_))))))))))))))))))))
 obtain ⟨g, aA0_0, mA0_0, cA0_0⟩ := g
 try dsimp only at pg
 try dsimp only
 obtain ⟨pk, pa⟩ := pg
 have jn := a2q hk (l := l.take g)
 have jp := List.length_take_le g l
 refine i9 m0 fun eaA0_0 laA0_0 => ?_
 subst eaA0_0
 refine Ew Z1 (Ey rfl ((Y.lss rfl rfl).yd) (n0 (fun q18 => ?_) (fun q18 => ?_)))
 ·obtain ⟨eb19, eo19, ec19, ea19, er19, el19, eh19⟩ := hl.elem g om
  obtain ⟨xa19_0, xc19_0, xa19_1, xc19_1, rfl, xh19_0, xh19_1⟩ := a1S er19
  have := xh19_0.slen.2
  have := xh19_1.slen.2
  refine Eu (Eq_ (l4 rfl (i8 (Et (Eq_ (E.block (Ew Z4 (Ey rfl ((o6 us_Bindings ty_Binding rfl ea19 rfl g rfl om).yd) (Ey rfl (o0 (cs := [_, _]) ty_Binding rfl (eh19 _) rfl) (Est rfl (N.alloc ty_Binding dc) (fun b9 _ => (Est rfl (Ns [_, _] ty_Binding rfl) (fun _ _ => (Ev Z3 (Em rfl (Ey rfl ((Y.len us_Facts rfl).yd) (Em rfl (Eu (E.block (f7 (j8 (congrArg (ow B6 [_]) (show E5 (l.take g) (l2, d9) d4 = E5 (l.take g) (l2, d9) d4 ++ K7 l[g] (l2, d9) (d4.take 0) from by first | rfl | (simp; done) | grind [R8, U7, U8, R7, d1, d2, t1, t2])) (E.loop (κ := Nat × Option Addr × Nat × Nat) (fun h => h.1 ≤ d4.length ∧ True) (fun h => [(2, .slice a_facts d4.length c_facts), (4, .pointer (some ⟨b4, 0, none⟩)), (7, .slice h.2.1 h.2.2.1 h.2.2.2), (9, .pointer (some ⟨b9, 0, none⟩)), (15, .slice a_l l.length c_l), (16, .int .i64 (↑l.length : Int)), (17, .int .i64 (g : Int)), (21, .slice a_facts d4.length c_facts), (22, .int .i64 (↑d4.length : Int)), (23, .int .i64 (↑h.1 : Int))]) (fun h => [ow B6 [.slice h.2.1 h.2.2.1 h.2.2.2] (E5 (l.take g) (l2, d9) d4 ++ K7 l[g] (l2, d9) (d4.take h.1)), pt b9 78 [.slice xa19_0 l[g].1.length xc19_0, .slice xa19_1 l[g].2.length xc19_1], pt b4 81 [.int .i64 l2, .slice w7 d9.length w6]]) (fun h => d4.length - h.1) (0, aA0_0, (E5 (l.take g) (l2, d9) d4).length, cA0_0) ⟨Nat.zero_le _, by simp⟩ ⟨rfl, rfl, rfl, rfl, rfl, rfl, rfl, rfl, rfl, rfl, trivial⟩ (.refl _) (fun h ph => ?_)))))))))))))))))))))))
  obtain ⟨h, aA1_0, mA1_0, cA1_0⟩ := h
  try dsimp only at ph
  try dsimp only
  obtain ⟨pk, pa⟩ := ph
  have jo := a8l hk hn (g := g) om h
  refine i9 m0 fun eaA1_0 laA1_0 => ?_
  subst eaA1_0
  refine Ew Z1 (Ey rfl ((Y.lss rfl rfl).yd) (n0 (fun q24 => ?_) (fun q24 => ?_)))
  ·obtain ⟨eb25, eo25, ec25, ea25, er25, el25, eh25⟩ := hfacts.elem h om
   obtain ⟨xa25_0, xc25_0, rfl, ei25_0, xh25_0⟩ := L4 er25
   have := xh25_0.slen.2
   refine Eu (Eq_ (l4 rfl (i8 (Et (Eq_ (E.block (Ew Z4 (Ey rfl ((o6 us_Facts ty_Fact rfl ea25 rfl h rfl om).yd) (Ey rfl (o0 (cs := [_, _]) ty_Fact rfl (eh25 _) rfl) (Est rfl (N.alloc ty_Fact dc) (fun b11 _ => (Est rfl (Ns [_, _] ty_Fact rfl) (fun _ _ => (Ev Z10 (Ey rfl (o0 (cs := [_, _]) ty_Binding rfl (Has.pt (mS (mS m0))) rfl) (Ey rfl (o0 (cs := [_, _]) ty_Atom rfl (Has.pt (mS (mS (mS m0)))) rfl) (Ey rfl (o0 (cs := [_, _]) ty_Fact rfl (Has.pt m0) rfl) (Est rfl (N.call (a6c ((hbl _ (List.getElem_mem om)).1) ((hbl _ (List.getElem_mem om)).2) (fo)) rfl rfl rfl dc rfl (fun w Lp hA => ⟨hA.ro xh19_0, hA.ro xh19_1, M4, hA.ro D6, ei25_0, hA.ro xh25_0⟩)) (fun k31 _ => ?_)))))))))))))))))))
   obtain ⟨⟨a31_0, m31_0, c31_0⟩, ⟨a31_1, m31_1, c31_1⟩⟩ := k31
   refine i9 m0 fun e31_0 l31_0 => ?_
   subst e31_0
   refine i9 (mS m0) fun e31_1 l31_1 => ?_
   subst e31_1
   refine Em rfl (Ey rfl ((Y.ext rfl rfl).yd) (Ey rfl ((Y.ext rfl rfl).yd) (Est rfl (N.alloc ty_Binding dc) (fun b12 _ => (Est rfl (Ns [_, _] ty_Binding rfl) (fun _ _ => (Ei rfl (Ent.b (fun q13 => ?_) (fun q13 => ?_)))))))))
   ·refine Ev Z1 (Em rfl (Eu (l4 rfl (Ez Z5 (Em rfl (Ey rfl (o0 (cs := [_, _]) ty_Binding rfl (Has.pt m0) rfl) (Est rfl (Nb [_] [_, _] us_Bindings ty_Binding rfl rfl) (fun b37 _ => (m6 (m6 (j6 (w9 (Est rfl (y6 (E := H8) (ex := (cond (r8 l[g] (l2, d9) d4[h]) (s9 l[g] (l2, d9) d4[h]).1 [], cond (r8 l[g] (l2, d9) d4[h]) (s9 l[g] (l2, d9) d4[h]).2 [])) us_Bindings ty_Binding rfl rfl rfl (P5 (x := (cond (r8 l[g] (l2, d9) d4[h]) (s9 l[g] (l2, d9) d4[h]).1 [], cond (r8 l[g] (l2, d9) d4[h]) (s9 l[g] (l2, d9) d4[h]).2 [])) Own.ow Own.ow) rfl bn bn dc) (fun p38 _ => (Ei rfl (En (o4 (Et (Ez Z2 (Ey rfl ((Y.add rfl rfl om om).yd) (Em rfl (Eu (f7 (Ent.drop (f7 ?_)))))))))))))))))))))))))
    refine Ent.drop (j8 (congrArg (ow B6 [_]) (show (E5 (l.take g) (l2, d9) d4 ++ K7 l[g] (l2, d9) (d4.take h)) ++ [(cond (r8 l[g] (l2, d9) d4[h]) (s9 l[g] (l2, d9) d4[h]).1 [], cond (r8 l[g] (l2, d9) d4[h]) (s9 l[g] (l2, d9) d4[h]).2 [])] = E5 (l.take g) (l2, d9) d4 ++ K7 l[g] (l2, d9) (d4.take (h + 1)) from by grind [R8, U7, U8, R7, d1, d2, t1, t2])) (j6 (j6 (j6 ?_))))
    exact Ea (h + 1, p38.1, ((E5 (l.take g) (l2, d9) d4 ++ K7 l[g] (l2, d9) (d4.take h)).length + 1), p38.2) ⟨oz, trivial⟩
   ·refine Ev Z1 (Em rfl (Eu (l6 rfl (i8 (o4 (Et (Ez Z2 (Ey rfl ((Y.add rfl rfl om om).yd) (Em rfl (Eu (Ent.drop (Ent.drop (Ent.drop (Ent.drop (j8 (congrArg (ow B6 [_]) (show E5 (l.take g) (l2, d9) d4 ++ K7 l[g] (l2, d9) (d4.take h) = E5 (l.take g) (l2, d9) d4 ++ K7 l[g] (l2, d9) (d4.take (h + 1)) from by grind [R8, U7, U8, R7, d1, d2, t1, t2])) (j6 (j6 (j6 ?_))))))))))))))))))
    exact Ea (h + 1, aA1_0, (E5 (l.take g) (l2, d9) d4 ++ K7 l[g] (l2, d9) (d4.take h)).length, cA1_0) ⟨oz, trivial⟩
  ·refine Eu (Eq_ (l6 rfl (E.exit (n8 (n8 (w5 (o4 (Et (Ez Z2 (Ey rfl ((Y.add rfl rfl om om).yd) (Em rfl (Eu (f7 (Ent.drop (j8 (congrArg (ow B6 [_]) (show E5 (l.take g) (l2, d9) d4 ++ K7 l[g] (l2, d9) (d4.take h) = E5 (l.take (g + 1)) (l2, d9) d4 from by grind [R8, U7, U8, R7, d1, d2, t1, t2])) (f7 (f7 ?_)))))))))))))))))
   exact Ea (g + 1, aA1_0, (E5 (l.take g) (l2, d9) d4 ++ K7 l[g] (l2, d9) (d4.take h)).length, cA1_0) ⟨oz, trivial⟩
 ·refine Eu (Eq_ (l6 rfl (E.exit (n8 (n8 (w5 (Et (Ew Z2 (Em rfl (Ei rfl (Eu (E.ret (j8 (congrArg (ow B6 [_]) (show _ = E5 l (l2, d9) d4 by grind [R8, U7, U8, R7, d1, d2, t1, t2])) ?_)))))))))))))
  exact Fg rfl rfl (_, _, _) rfl rfl
theorem a1r (hbl : ∀ b ∈ l, b.1.length ≤ 1000 ∧ b.2.length ≤ 1000) (hat : d9.length ≤ 1000) (hk : Few (l2, d9) d4) (hn : l.length * 1000 ≤ 1000000000000) : Tr Tryz.prog 53 [.slice a_l m_l c_l, .agg #[.int .i64 l2, .slice w7 C6 w6], .slice a_facts m_facts c_facts] (fun w L => Ro w L B6 [.slice a_l m_l c_l] l ∧ I64 l2 ∧ Ro w L eIs [.slice w7 C6 w6] d9 ∧ Ro w L r7 [.slice a_facts m_facts c_facts] d4) [] (κ := Option Addr × Nat × Nat) (fun k => True) (fun k => .slice k.1 k.2.1 k.2.2) (fun k => [ow B6 [.slice k.1 k.2.1 k.2.2] (E5 l (l2, d9) d4)]) := by
 refine Tr.intro Tryz.func53 rfl (n := 44) rfl (by decide +kernel) bl (fr := [(0, .slice a_l m_l c_l), (1, .agg #[.int .i64 l2, .slice w7 C6 w6]), (2, .slice a_facts m_facts c_facts)]) rfl fun w L hR => ?_
 obtain ⟨hl, M4, D6, hfacts⟩ := hR
 obtain ⟨rfl, ll⟩ := hl.slen
 obtain ⟨rfl, T7⟩ := D6.slen
 obtain ⟨rfl, lfacts⟩ := hfacts.slen
 refine Ew Z2 (Est rfl (N.box (cs := [_, _]) rfl dc rfl) (fun b4 _ => (Ei rfl (Ev Z2 (Est rfl (Nb [] [] us_Bindings ty_Binding rfl rfl) (fun b12 _ => (Ent.drop (Ei rfl (Eu (Eq_ (Ew Z1 (Ei rfl (Eu (E.block (n9 (A := []) (Own.nil (E := H8) (e := tBinding) (a := (some ⟨b12, 0, none⟩))) rfl (j8 (congrArg (ow B6 [_]) (show [] = E5 (l.take 0) (l2, d9) d4 from by first | rfl | (simp; done) | grind [R8, U7, U8, R7, d1, d2, t1, t2])) (E.loop (κ := Nat × Option Addr × Nat × Nat) (fun g => g.1 ≤ l.length ∧ True) (fun g => [(0, .slice a_l l.length c_l), (2, .slice a_facts d4.length c_facts), (4, .pointer (some ⟨b4, 0, none⟩)), (7, .slice g.2.1 g.2.2.1 g.2.2.2), (8, .int .i64 (↑g.1 : Int))]) (fun g => [ow B6 [.slice g.2.1 g.2.2.1 g.2.2.2] (E5 (l.take g.1) (l2, d9) d4), pt b4 81 [.int .i64 l2, .slice w7 d9.length w6]]) (fun g => l.length - g.1) (0, (some ⟨b12, 0, none⟩), 0, 0) ⟨Nat.zero_le _, by simp⟩ ⟨rfl, rfl, rfl, rfl, rfl, trivial⟩ (.refl _) (fun g pg => ?_))))))))))))))))))
 obtain ⟨g, aA0_0, mA0_0, cA0_0⟩ := g
 try dsimp only at pg
 try dsimp only
 obtain ⟨pk, pa⟩ := pg
 have jn := a2q hk (l := l.take g)
 have jp := List.length_take_le g l
 refine i9 m0 fun eaA0_0 laA0_0 => ?_
 subst eaA0_0
 refine Eq_ (Ew Z4 (Em rfl (Em rfl (Ey rfl ((Y.len us_Bindings rfl).yd) (Ey rfl ((Y.lss rfl rfl).yd) (n0 (fun q16 => ?_) (fun q16 => ?_)))))))
 ·refine Eu (l4 rfl (i8 (Et (Eq_ (E.block (Ew Z1 (Ei rfl (Eu (E.block (j8 (congrArg (ow B6 [_]) (show E5 (l.take g) (l2, d9) d4 = E5 (l.take g) (l2, d9) d4 ++ K7 l[g] (l2, d9) (d4.take 0) from by first | rfl | (simp; done) | grind [R8, U7, U8, R7, d1, d2, t1, t2])) (E.loop (κ := Nat × Option Addr × Nat × Nat) (fun h => h.1 ≤ d4.length ∧ True) (fun h => [(0, .slice a_l l.length c_l), (2, .slice a_facts d4.length c_facts), (4, .pointer (some ⟨b4, 0, none⟩)), (7, .slice h.2.1 h.2.2.1 h.2.2.2), (8, .int .i64 (g : Int)), (9, .int .i64 (↑h.1 : Int))]) (fun h => [ow B6 [.slice h.2.1 h.2.2.1 h.2.2.2] (E5 (l.take g) (l2, d9) d4 ++ K7 l[g] (l2, d9) (d4.take h.1)), pt b4 81 [.int .i64 l2, .slice w7 d9.length w6]]) (fun h => d4.length - h.1) (0, aA0_0, (E5 (l.take g) (l2, d9) d4).length, cA0_0) ⟨Nat.zero_le _, by simp⟩ ⟨rfl, rfl, rfl, rfl, rfl, rfl, trivial⟩ (.refl _) (fun h ph => ?_))))))))))))
  obtain ⟨h, aA1_0, mA1_0, cA1_0⟩ := h
  try dsimp only at ph
  try dsimp only
  obtain ⟨pk, pa⟩ := ph
  have jo := a8l hk hn (g := g) om h
  refine i9 m0 fun eaA1_0 laA1_0 => ?_
  subst eaA1_0
  refine Eq_ (Ew Z4 (Em rfl (Em rfl (Ey rfl ((Y.len us_Facts rfl).yd) (Ey rfl ((Y.lss rfl rfl).yd) (n0 (fun q22 => ?_) (fun q22 => ?_)))))))
  ·refine Eu (l4 rfl (i8 (Et (Eq_ (E.block (Eq_ (a4l (κ := Nat × Option Addr × Nat × Option Addr × Nat) (fun _ => True) (fun kM => [(0, .slice a_l l.length c_l), (2, .slice a_facts d4.length c_facts), (4, .pointer (some ⟨b4, 0, none⟩)), (7, .slice aA1_0 (E5 (l.take g) (l2, d9) d4 ++ K7 l[g] (l2, d9) (d4.take h)).length cA1_0), (8, .int .i64 (g : Int)), (9, .int .i64 (h : Int)), (10, .pointer (some ⟨kM.1, 0, none⟩)), (11, .bool (r8 l[g] (l2, d9) d4[h]))]) (fun kM => [pt kM.1 78 [.slice kM.2.1 (cond (r8 l[g] (l2, d9) d4[h]) (s9 l[g] (l2, d9) d4[h]).1 []).length kM.2.2.1, .slice kM.2.2.2.1 (cond (r8 l[g] (l2, d9) d4[h]) (s9 l[g] (l2, d9) d4[h]).2 []).length kM.2.2.2.2], ow eIs [.slice kM.2.1 (cond (r8 l[g] (l2, d9) d4[h]) (s9 l[g] (l2, d9) d4[h]).1 []).length kM.2.2.1] (cond (r8 l[g] (l2, d9) d4[h]) (s9 l[g] (l2, d9) d4[h]).1 []), ow eIs [.slice kM.2.2.2.1 (cond (r8 l[g] (l2, d9) d4[h]) (s9 l[g] (l2, d9) d4[h]).2 []).length kM.2.2.2.2] (cond (r8 l[g] (l2, d9) d4[h]) (s9 l[g] (l2, d9) d4[h]).2 []), ow B6 [.slice aA1_0 (E5 (l.take g) (l2, d9) d4 ++ K7 l[g] (l2, d9) (d4.take h)).length cA1_0] (E5 (l.take g) (l2, d9) d4 ++ K7 l[g] (l2, d9) (d4.take h)), pt b4 81 [.int .i64 l2, .slice w7 d9.length w6]]) ?_ (fun kM _ => ?_))))))))
   ·refine D.region (fun j => !(Nat.beq j 14)) mixed (Dyp 0 rfl (j4 rfl) (Dyp 1 rfl (j4 rfl) ?_))
    obtain ⟨eb28, eo28, ec28, ea28, er28, el28, eh28⟩ := hl.elem g om
    obtain ⟨xa28_0, xc28_0, xa28_1, xc28_1, rfl, xh28_0, xh28_1⟩ := a1S er28
    have := xh28_0.slen.2
    have := xh28_1.slen.2
    refine Dyp 2 rfl (o6 us_Bindings ty_Binding rfl ea28 rfl g rfl om) (Dy 3 rfl (o0 (cs := [_, _]) ty_Binding rfl (eh28 _) rfl) (Dy 4 rfl (o0 (cs := [_, _]) ty_Atom rfl (Has.pt (mS m0)) rfl) (Dyp 5 rfl (j4 rfl) (Dyp 6 rfl (j4 rfl) ?_))))
    obtain ⟨eb33, eo33, ec33, ea33, er33, el33, eh33⟩ := hfacts.elem h om
    obtain ⟨xa33_0, xc33_0, rfl, ei33_0, xh33_0⟩ := L4 er33
    have := xh33_0.slen.2
    refine Dyp 7 rfl (o6 us_Facts ty_Fact rfl ea33 rfl h rfl om) (Dy 8 rfl (o0 (cs := [_, _]) ty_Fact rfl (eh33 _) rfl) (a7j (i := 9) (j := 13) kr ?_ ?_))
    ·refine a3j 9 rfl rfl (fun _ => rfl) (N.call (a2s ((hbl _ (List.getElem_mem om)).1) ((hbl _ (List.getElem_mem om)).2) (fo)) rfl rfl rfl dc rfl (fun w Lp hA => ⟨hA.ro xh28_0, hA.ro xh28_1, M4, hA.ro D6, ei33_0, hA.ro xh33_0⟩)) (fun k35 _ => ?_)
     obtain ⟨⟨a35_0, m35_0, c35_0⟩, ⟨a35_1, m35_1, c35_1⟩⟩ := k35
     refine i9 m0 fun e35_0 l35_0 => ?_
     subst e35_0
     refine i9 (mS m0) fun e35_1 l35_1 => ?_
     subst e35_1
     refine Dyp 10 rfl (j4 rfl) (Dyp 11 rfl (Y.ext rfl rfl) (Dyp 12 rfl (Y.ext rfl rfl) (u7 13 rfl rfl kr (fun _ => rfl) (N.alloc ty_Binding dc) (fun b10 _ => (u7 14 rfl rfl kr (fun h => by cases h) (Ns [_, _] ty_Binding rfl) (fun _ _ => (Dyp 15 rfl (G1 rfl) (o3 kr (v7 (v7 (v7 (v7 (v7 ?_)))))))))))))
     exact a0q (b10, a35_0, c35_0, a35_1, c35_1) trivial ⟨rfl, rfl, rfl, rfl, rfl, rfl, rfl, rfl, trivial⟩ (.refl _)
    ·refine a3j 13 rfl rfl (fun _ => rfl) (N.alloc ty_Binding dc) (fun b10 _ => (u7 9 rfl rfl kr (fun _ => rfl) (N.call (a2s ((hbl _ (List.getElem_mem om)).1) ((hbl _ (List.getElem_mem om)).2) (fo)) rfl rfl rfl dc rfl (fun w Lp hA => ⟨hA.ro xh28_0, hA.ro xh28_1, M4, hA.ro D6, ei33_0, hA.ro xh33_0⟩)) (fun k35 _ => ?_)))
     obtain ⟨⟨a35_0, m35_0, c35_0⟩, ⟨a35_1, m35_1, c35_1⟩⟩ := k35
     refine i9 m0 fun e35_0 l35_0 => ?_
     subst e35_0
     refine i9 (mS m0) fun e35_1 l35_1 => ?_
     subst e35_1
     refine Dyp 10 rfl (j4 rfl) (Dyp 11 rfl (Y.ext rfl rfl) (Dyp 12 rfl (Y.ext rfl rfl) (j6 (u7 14 rfl rfl kr (fun h => by cases h) (Ns [_, _] ty_Binding rfl) (fun _ _ => (Dyp 15 rfl (G1 rfl) (o3 kr (v7 (v7 (v7 (v7 (v7 ?_))))))))))))
     exact a0q (b10, a35_0, c35_0, a35_1, c35_1) trivial ⟨rfl, rfl, rfl, rfl, rfl, rfl, rfl, rfl, trivial⟩ (.refl _)
   ·obtain ⟨b10, a35_0, c35_0, a35_1, c35_1⟩ := kM
    try dsimp only
    refine Et (Ew Z1 (Em rfl (Ent.b (fun q38 => ?_) (fun q38 => ?_))))
    ·refine Eu (l4 rfl (Ez Z5 (Em rfl (Ey rfl (o0 (cs := [_, _]) ty_Binding rfl (Has.pt m0) rfl) (Est rfl (Nb [_] [_, _] us_Bindings ty_Binding rfl rfl) (fun b41 _ => (m6 (m6 (j6 (v7 (Est rfl (y6 (E := H8) (ex := (cond (r8 l[g] (l2, d9) d4[h]) (s9 l[g] (l2, d9) d4[h]).1 [], cond (r8 l[g] (l2, d9) d4[h]) (s9 l[g] (l2, d9) d4[h]).2 [])) us_Bindings ty_Binding rfl rfl rfl (P5 (x := (cond (r8 l[g] (l2, d9) d4[h]) (s9 l[g] (l2, d9) d4[h]).1 [], cond (r8 l[g] (l2, d9) d4[h]) (s9 l[g] (l2, d9) d4[h]).2 [])) Own.ow Own.ow) rfl bn bn dc) (fun p42 _ => (Ei rfl (En (o4 (Et (Ez Z3 (Em rfl (Ey rfl ((Y.add rfl rfl om om).yd) (Ei rfl (Eu (f7 (Ent.drop (j8 (congrArg (ow B6 [_]) (show (E5 (l.take g) (l2, d9) d4 ++ K7 l[g] (l2, d9) (d4.take h)) ++ [(cond (r8 l[g] (l2, d9) d4[h]) (s9 l[g] (l2, d9) d4[h]).1 [], cond (r8 l[g] (l2, d9) d4[h]) (s9 l[g] (l2, d9) d4[h]).2 [])] = E5 (l.take g) (l2, d9) d4 ++ K7 l[g] (l2, d9) (d4.take (h + 1)) from by grind [R8, U7, U8, R7, d1, d2, t1, t2])) ?_))))))))))))))))))))))))
     refine f7 (f7 ?_)
     exact Ea (h + 1, p42.1, ((E5 (l.take g) (l2, d9) d4 ++ K7 l[g] (l2, d9) (d4.take h)).length + 1), p42.2) ⟨oz, trivial⟩
    ·refine Eu (l6 rfl (i8 (o4 (Et (Ez Z3 (Em rfl (Ey rfl ((Y.add rfl rfl om om).yd) (Ei rfl (Eu (Ent.drop (Ent.drop (Ent.drop (j8 (congrArg (ow B6 [_]) (show E5 (l.take g) (l2, d9) d4 ++ K7 l[g] (l2, d9) (d4.take h) = E5 (l.take g) (l2, d9) d4 ++ K7 l[g] (l2, d9) (d4.take (h + 1)) from by grind [R8, U7, U8, R7, d1, d2, t1, t2])) (f7 (f7 ?_)))))))))))))))
     exact Ea (h + 1, aA1_0, (E5 (l.take g) (l2, d9) d4 ++ K7 l[g] (l2, d9) (d4.take h)).length, cA1_0) ⟨oz, trivial⟩
  ·refine Eu (l6 rfl (E.exit (n8 (n8 (w5 (o4 (Et (Ez Z3 (Em rfl (Ey rfl ((Y.add rfl rfl om om).yd) (Ei rfl (Eu (j8 (congrArg (ow B6 [_]) (show E5 (l.take g) (l2, d9) d4 ++ K7 l[g] (l2, d9) (d4.take h) = E5 (l.take (g + 1)) (l2, d9) d4 from by grind [R8, U7, U8, R7, d1, d2, t1, t2])) (f7 (f7 ?_)))))))))))))))
   exact Ea (g + 1, aA1_0, (E5 (l.take g) (l2, d9) d4 ++ K7 l[g] (l2, d9) (d4.take h)).length, cA1_0) ⟨oz, trivial⟩
 ·refine Eu (l6 rfl (E.exit (n8 (n8 (w5 (Et (Ew Z2 (Em rfl (Ei rfl (Eu (E.ret (j8 (congrArg (ow B6 [_]) (show _ = E5 l (l2, d9) d4 by grind [R8, U7, U8, R7, d1, d2, t1, t2])) ?_))))))))))))
  exact Fg rfl rfl (_, _, _) rfl rfl
theorem a5z {r6 : Option Addr} {t6 r5 : Nat} {f9 : List Int} {o2 : Option Addr} {s7 o1 : Nat} {a6 : List (Int × List Int)} (hqa : a6.length ≤ 4) (hqt : ∀ a ∈ a6, a.2.length ≤ 3) (hf : ∀ a ∈ a6, Few a d4) : Tr Tryz.prog 67 [.agg #[.slice r6 t6 r5, .slice o2 s7 o1], .slice a_facts m_facts c_facts] (fun w L => Ro w L eIs [.slice r6 t6 r5] f9 ∧ Ro w L G8 [.slice o2 s7 o1] a6 ∧ Ro w L r7 [.slice a_facts m_facts c_facts] d4) [] (κ := Option Addr × Nat × Nat) (fun k => True) (fun k => .slice k.1 k.2.1 k.2.2) (fun k => [ow B6 [.slice k.1 k.2.1 k.2.2] (J8 a6 d4)]) := by
 refine Tr.intro Tryz.func67 rfl (n := 25) rfl (by decide +kernel) bl (fr := [(0, .agg #[.slice r6 t6 r5, .slice o2 s7 o1]), (1, .slice a_facts m_facts c_facts)]) rfl fun w L hR => ?_
 obtain ⟨y8, v6, hfacts⟩ := hR
 obtain ⟨rfl, N5⟩ := y8.slen
 obtain ⟨rfl, K9⟩ := v6.slen
 obtain ⟨rfl, lfacts⟩ := hfacts.slen
 refine Ew Z2 (Est rfl (N.box (cs := [_, _]) rfl dc rfl) (fun b2 _ => (Ei rfl (Ev Z3 (Ey rfl ((I6 (pvs := []) (cs := [_, _]) ty_Binding pl_Binding rfl rfl).yd) (Est rfl (Nb [_] [_, _] us_Bindings ty_Binding rfl rfl) (fun b8 _ => (n9 (A := _ :: _) (R3 (E := H8) (e := tBinding) (P5 (x := ([], [])) Own.nil Own.nil)) rfl (Ei rfl (Eu (Eq_ (Ew Z1 (Ei rfl (Eu (E.block (j8 (congrArg (ow B6 [_]) (show [([], [])] = J8 (a6.take 0) d4 from by first | rfl | (simp; done) | grind [a1X, a1v, d1, d2, t1, t2])) (E.loop (κ := Nat × Option Addr × Nat × Nat) (fun g => g.1 ≤ a6.length ∧ True) (fun g => [(1, .slice a_facts d4.length c_facts), (2, .pointer (some ⟨b2, 0, none⟩)), (5, .slice g.2.1 g.2.2.1 g.2.2.2), (6, .int .i64 (↑g.1 : Int))]) (fun g => [ow B6 [.slice g.2.1 g.2.2.1 g.2.2.2] (J8 (a6.take g.1) d4), pt b2 28 [.slice r6 f9.length r5, .slice o2 a6.length o1]]) (fun g => a6.length - g.1) (0, (some ⟨b8, 0, none⟩), 1, 1) ⟨Nat.zero_le _, by simp⟩ ⟨rfl, rfl, rfl, rfl, trivial⟩ (.refl _) (fun g pg => ?_))))))))))))))))))
 obtain ⟨g, aA0_0, mA0_0, cA0_0⟩ := g
 try dsimp only at pg
 try dsimp only
 obtain ⟨pk, pa⟩ := pg
 refine i9 m0 fun eaA0_0 laA0_0 => ?_
 subst eaA0_0
 refine Eq_ (Ew Z5 (Em rfl (Ey rfl ((i7 fo_Query_1 ty_Atoms dc rfl).yd) (Ey rfl (f8 ty_Atoms rfl (Hz (mS m0) 1 rfl) rfl) (Ey rfl ((Y.len us_Atoms rfl).yd) (Ey rfl ((Y.lss rfl rfl).yd) (n0 (fun q13 => ?_) (fun q13 => ?_))))))))
 ·refine Eu (l4 rfl (i8 (Et (Eq_ (E.block (Ez Z9 (Em rfl (Ey rfl ((i7 fo_Query_1 ty_Atoms dc rfl).yd) (Ey rfl (f8 ty_Atoms rfl (Hz (mS m0) 1 rfl) rfl) (Em rfl ?_))))))))))
  obtain ⟨eb20, eo20, ec20, ea20, er20, el20, eh20⟩ := v6.elem g om
  obtain ⟨xa20_0, xc20_0, rfl, ei20_0, xh20_0⟩ := P1 er20
  have := xh20_0.slen.2
  refine Ey rfl ((o6 us_Atoms ty_Atom rfl ea20 rfl g rfl om).yd) (Ey rfl (o0 (cs := [_, _]) ty_Atom rfl (eh20 _) rfl) (Em rfl (Est rfl (N.call (a1r (fun b hb => by have := (a8q (d4 := d4) hf hqa hqt (g := g) om).2 b hb; omega) (Nat.le_trans (hqt _ (List.getElem_mem om)) dc) (hf _ (List.getElem_mem om)) (a8q (d4 := d4) hf hqa hqt (g := g) om).1) rfl rfl rfl dc rfl (fun w Lp hA => ⟨hA.ow m0, ei20_0, hA.ro xh20_0, hA.ro hfacts⟩)) (fun k23 _ => ?_))))
  obtain ⟨a23, m23, c23⟩ := k23
  refine i9 m0 fun e23 l23 => ?_
  subst e23
  refine Ei rfl (En (o4 (Et (Ez Z3 (Em rfl (Ey rfl ((Y.add rfl rfl om om).yd) (Ei rfl (Eu (f7 (Ent.drop (j8 (congrArg (ow B6 [_]) (show E5 (J8 (a6.take g) d4) a6[g] d4 = J8 (a6.take (g + 1)) d4 from by grind [a1X, a1v, d1, d2, t1, t2])) (f7 (f7 ?_)))))))))))))
  exact Ea (g + 1, a23, (E5 (J8 (a6.take g) d4) a6[g] d4).length, c23) ⟨oz, trivial⟩
 ·refine Eu (l6 rfl (E.exit (n8 (n8 (w5 (Et (Ew Z2 (Em rfl (Ei rfl (Eu (E.ret (j8 (congrArg (ow B6 [_]) (show _ = J8 a6 d4 by grind [a1X, a1v, d1, d2, t1, t2])) ?_))))))))))))
  exact Fg rfl rfl (_, _, _) rfl rfl
end Go.Proofs.YtlfhopooaejpfaaGreat
