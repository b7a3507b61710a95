import Derived.Test.YtbedienpleiamaaGreatT18
namespace Go.Proofs.YtbedienpleiamaaGreat
open Go.RowKit
set_option linter.all false
set_option maxHeartbeats 2000000
attribute [local irreducible] Nop Yd Yp Ent Has Tr FnP FnP2 Src O1 S7 W5 X5 I0
variable {j4 j5 : Int} {f0 a6 : List (Int × List Int)} {l : List (List Int × List Int)} {f7 d9 d8 d6 f5 : List Int} {B1 w6 u4 s5 C8 y6 C3 z7 m_l c_l m_facts c_facts r5 k6 o1 j0 : Nat} {w7 s6 y7 z8 a_l a_facts l0 j3 : Option Addr}
theorem a2Z (hb1 : f7.length ≤ 1000000) (hb2 : d9.length ≤ 1000000) : Tr Tryz.prog 210 [.agg #[.slice w7 B1 w6, .slice s6 u4 s5]] (fun w L => Ro w L eIs [.slice w7 B1 w6] f7 ∧ Ro w L eIs [.slice s6 u4 s5] d9) [] (κ := (Option Addr × Nat × Nat) × (Option Addr × Nat × Nat)) (fun k => True) (fun k => .agg #[.slice k.1.1 k.1.2.1 k.1.2.2, .slice k.2.1 k.2.2.1 k.2.2.2]) (fun k => [ow eIs [.slice k.1.1 k.1.2.1 k.1.2.2] f7, ow eIs [.slice k.2.1 k.2.2.1 k.2.2.2] d9]) := by
 refine Tr.intro Tryz.func210 rfl (n := 10) rfl (by decide +kernel) bl (fr := [(0, .agg #[.slice w7 B1 w6, .slice s6 u4 s5])]) rfl fun w L hR => ?_
 obtain ⟨y8, u9⟩ := hR
 obtain ⟨rfl, P1⟩ := y8.slen
 obtain ⟨rfl, I7⟩ := u9.slen
 refine Ew Z2 (Est rfl (N.box (cs := [_, _]) rfl dc rfl) (fun b1 _ => (Est rfl (N.alloc ty_Binding dc) (fun b2 _ => (Eu (Eq_ (D.region (fun j => !(Nat.beq j 7)) mixed (Dyp 0 rfl (i0 fo_Binding_0 ty_Is dc rfl) (Dy 1 rfl (f9 ty_Is rfl (Hz (mS m0) 0 rfl) rfl) (Dyp 3 rfl (i0 fo_Binding_1 ty_Is dc rfl) (Dy 4 rfl (f9 ty_Is rfl (Hz (mS m0) 1 rfl) rfl) (r8 2 rfl rfl kr (fun _ => rfl) (N.call (a0k fc) rfl rfl rfl dc rfl (fun w Lp hA => hA.ro y8)) (fun k5 _ => ?_)))))))))))))
 obtain ⟨a5, m5, c5⟩ := k5
 refine d4 m0 fun e5 l5 => ?_
 subst e5
 refine r8 5 rfl rfl kr (fun _ => rfl) (N.call (a0k fc) rfl rfl rfl dc rfl (fun w Lp hA => hA.ro u9)) (fun k8 _ => ?_)
 obtain ⟨a8, m8, c8⟩ := k8
 refine d4 m0 fun e8 l8 => ?_
 subst e8
 refine Dyp 6 rfl (E9 (pvs := [_, _]) (cs := [_, _]) ty_Binding pl_Binding rfl rfl) (g9 (r8 7 rfl rfl kr (fun h => by cases h) (Ns [_, _] ty_Binding rfl) (fun _ _ => (r7 kr (Et (E.ret (d7 (g9 (d7 (d7 ?_))))))))))
 exact H8 br rfl rfl (mS (mS m0)) ty_Binding rfl ((_, _, _), (_, _, _)) trivial rfl (J := _) (.refl _) (.inl rfl)
theorem a2U (hb1 : f7.length ≤ 1000000) (hb2 : d9.length ≤ 1000000) : Tr Tryz.prog 86 [.agg #[.slice w7 B1 w6, .slice s6 u4 s5]] (fun w L => Ro w L eIs [.slice w7 B1 w6] f7 ∧ Ro w L eIs [.slice s6 u4 s5] d9) [] (κ := (Option Addr × Nat × Nat) × (Option Addr × Nat × Nat)) (fun k => True) (fun k => .agg #[.slice k.1.1 k.1.2.1 k.1.2.2, .slice k.2.1 k.2.2.1 k.2.2.2]) (fun k => [ow eIs [.slice k.1.1 k.1.2.1 k.1.2.2] f7, ow eIs [.slice k.2.1 k.2.2.1 k.2.2.2] d9]) := by
 refine Tr.intro Tryz.func86 rfl (n := 12) rfl (by decide +kernel) bl (fr := [(0, .agg #[.slice w7 B1 w6, .slice s6 u4 s5])]) rfl fun w L hR => ?_
 obtain ⟨y8, u9⟩ := hR
 obtain ⟨rfl, P1⟩ := y8.slen
 obtain ⟨rfl, I7⟩ := u9.slen
 refine Ew Z2 (Est rfl (N.box (cs := [_, _]) rfl dc rfl) (fun b1 _ => (Est rfl (N.alloc ty_Binding dc) (fun b2 _ => (Eu (Eq_ (L5 (κ := (Option Addr × Nat) × (Option Addr × Nat)) (fun _ => True) (fun kM => [(2, .pointer (some ⟨b2, 0, none⟩))]) (fun kM => [pt b2 39 [.slice kM.1.1 f7.length kM.1.2, .slice kM.2.1 d9.length kM.2.2], ow eIs [.slice kM.2.1 d9.length kM.2.2] d9, ow eIs [.slice kM.1.1 f7.length kM.1.2] f7, pt b1 39 [.slice w7 f7.length w6, .slice s6 d9.length s5]]) ?_ (fun kM _ => ?_))))))))
 ·refine D.region (fun j => !(Nat.beq j 9)) mixed (Dyp 1 rfl (i0 fo_Binding_0 ty_Is dc rfl) (Dy 2 rfl (f9 ty_Is rfl (Hz (mS m0) 0 rfl) rfl) (Dyp 5 rfl (i0 fo_Binding_1 ty_Is dc rfl) (Dy 6 rfl (f9 ty_Is rfl (Hz (mS m0) 1 rfl) rfl) (X8 (i := 0) (j := 4) kr ?_ ?_)))))
  ·refine Q4 0 rfl rfl (fun _ => rfl) (Nb [] [] us_Is f6 rfl rfl) (fun b3 _ => (Ent.drop (X8 (i := 3) (j := 4) kr ?_ ?_)))
   ·refine Q4 3 rfl rfl (fun _ => rfl) (G9 (E := Enc.int) Plain.int us_Is f6 rfl rfl rfl y8 bn bn dc) (fun p6 _ => (r8 4 rfl rfl kr (fun _ => rfl) (Nb [] [] us_Is f6 rfl rfl) (fun b7 _ => (Ent.drop (r8 7 rfl rfl kr (fun _ => rfl) (G9 (E := Enc.int) Plain.int us_Is f6 rfl rfl rfl u9 bn bn dc) (fun p10 _ => (Dyp 8 rfl (E9 (pvs := [_, _]) (cs := [_, _]) ty_Binding pl_Binding rfl rfl) (g9 (r8 9 rfl rfl kr (fun h => by cases h) (Ns [_, _] ty_Binding rfl) (fun _ _ => (r7 kr (l3 (l3 (l3 (l3 ?_)))))))))))))))
    exact E3 (p6, p10) trivial ⟨rfl, trivial⟩ (.refl _)
   ·refine Q4 4 rfl rfl (fun _ => rfl) (Nb [] [] us_Is f6 rfl rfl) (fun b7 _ => (Ent.drop (r8 3 rfl rfl kr (fun _ => rfl) (G9 (E := Enc.int) Plain.int us_Is f6 rfl rfl rfl y8 bn bn dc) (fun p6 _ => (r8 7 rfl rfl kr (fun _ => rfl) (G9 (E := Enc.int) Plain.int us_Is f6 rfl rfl rfl u9 bn bn dc) (fun p10 _ => (Dyp 8 rfl (E9 (pvs := [_, _]) (cs := [_, _]) ty_Binding pl_Binding rfl rfl) (g9 (r8 9 rfl rfl kr (fun h => by cases h) (Ns [_, _] ty_Binding rfl) (fun _ _ => (r7 kr (l3 (l3 (l3 (l3 ?_)))))))))))))))
    exact E3 (p6, p10) trivial ⟨rfl, trivial⟩ (.refl _)
  ·refine Q4 4 rfl rfl (fun _ => rfl) (Nb [] [] us_Is f6 rfl rfl) (fun b7 _ => (Ent.drop (r8 0 rfl rfl kr (fun _ => rfl) (Nb [] [] us_Is f6 rfl rfl) (fun b3 _ => (Ent.drop (r8 3 rfl rfl kr (fun _ => rfl) (G9 (E := Enc.int) Plain.int us_Is f6 rfl rfl rfl y8 bn bn dc) (fun p6 _ => (r8 7 rfl rfl kr (fun _ => rfl) (G9 (E := Enc.int) Plain.int us_Is f6 rfl rfl rfl u9 bn bn dc) (fun p10 _ => (Dyp 8 rfl (E9 (pvs := [_, _]) (cs := [_, _]) ty_Binding pl_Binding rfl rfl) (g9 (r8 9 rfl rfl kr (fun h => by cases h) (Ns [_, _] ty_Binding rfl) (fun _ _ => (r7 kr (l3 (l3 (l3 (l3 ?_))))))))))))))))))
   exact E3 (p6, p10) trivial ⟨rfl, trivial⟩ (.refl _)
 ·obtain ⟨p6, p10⟩ := kM
  try dsimp only
  refine Et (E.ret (d7 (g9 (d7 (d7 ?_)))))
  exact H8 br rfl rfl (mS (mS m0)) ty_Binding rfl ((_, _, _), (_, _, _)) trivial rfl (J := _) (.refl _) (.inl rfl)
theorem a5h {v : Int} : Tr Tryz.prog 199 [.agg #[.slice w7 B1 w6, .slice s6 u4 s5], .int .i64 v] (fun w L => Ro w L eIs [.slice w7 B1 w6] f7 ∧ Ro w L eIs [.slice s6 u4 s5] d9) [] (κ := Unit) (fun k => True) (fun k => .bool (!unb (f7, d9) v)) (fun k => []) := by
 refine Tr.intro Tryz.func199 rfl (n := 27) rfl (by decide +kernel) bl (fr := [(0, .agg #[.slice w7 B1 w6, .slice s6 u4 s5]), (1, .int .i64 v)]) rfl fun w L hR => ?_
 obtain ⟨y8, u9⟩ := hR
 obtain ⟨rfl, P1⟩ := y8.slen
 obtain ⟨rfl, I7⟩ := u9.slen
 refine Ew Z2 (Est rfl (N.box (cs := [_, _]) rfl dc rfl) (fun b2 _ => (Ei rfl (Eu (Eq_ (Ew Z1 (Ei rfl (Eu (E.block (E.loop (κ := Nat) (fun g => g ≤ (min f7.length d9.length) ∧ (f7.take (min f7.length d9.length)).any (fun x => decide (x = v)) = ((f7.take (min f7.length d9.length)).drop g).any (fun x => decide (x = v))) (fun g => [(1, .int .i64 v), (2, .pointer (some ⟨b2, 0, none⟩)), (5, .int .i64 (g : Int))]) (fun g => [pt b2 39 [.slice w7 f7.length w6, .slice s6 d9.length s5]]) (fun g => (min f7.length d9.length) - g) 0 ⟨Nat.zero_le _, by simp⟩ ⟨rfl, rfl, rfl, trivial⟩ (.refl _) (fun g pg => ?_)))))))))))
 obtain ⟨pk, pa⟩ := pg
 refine Eq_ (Ew Z12 (Em rfl (Ey rfl ((i0 fo_Binding_0 ty_Is dc rfl).yd) (Ey rfl (f9 ty_Is rfl (Hz m0 0 rfl) rfl) (Ey rfl ((Y.len us_Is rfl).yd) (Ey rfl ((Y.lss rfl rfl).yd) (n9 (fun q10 => ?_) (fun q10 => ?_))))))))
 ·refine Em rfl (Em rfl (Ey rfl ((i0 fo_Binding_1 ty_Is dc rfl).yd) (Ey rfl (f9 ty_Is rfl (Hz m0 1 rfl) rfl) (Ey rfl ((Y.len us_Is rfl).yd) (Ey rfl ((Y.lss rfl rfl).yd) (n9 (fun q16 => ?_) (fun q16 => ?_)))))))
  ·refine Ey rfl ((v8 rfl rfl).yd) (Eu (o0 rfl (f8 (Et (Eq_ (E.block (Ew Z7 (Ey rfl ((i0 fo_Binding_0 ty_Is dc rfl).yd) (Ey rfl (f9 ty_Is rfl (Hz m0 0 rfl) rfl) (Em rfl ?_))))))))))
   obtain ⟨eb23, eo23, ea23, ei23, eh23⟩ := y8.elemI g om
   refine Ey rfl ((t6 us_Is f6 rfl ea23 rfl g rfl om).yd) (Ey rfl (f9 f6 rfl (eh23 _) rfl) (Em rfl (Ey rfl ((Y.eql rfl rfl).yd) (n9 (fun q26 => ?_) (fun q26 => ?_)))))
   ·refine Eu (o0 rfl (Ew Z1 (Ei rfl ?_)))
    exact Eu (E.ret (B0 (o4 (o4 (B0 (o4 (Fb rfl rfl (by grind [unb, a0b, a1U, d1, d2, t1, t2]))))))))
   ·refine Eu (n0 rfl (f8 (s4 (Et (Ez Z3 (Em rfl (Ey rfl ((Y.add rfl rfl om om).yd) (Ei rfl ?_))))))))
    exact Eu (x3 br (g + 1) rs (.refl _) ⟨by omega, by grind [a0b, d1, d2, t1, t2]⟩ om)
  ·refine Ey rfl ((v8 rfl rfl).yd) (Eu (n0 rfl (E.exit (o3 (o3 (x5 (Et (Ew Z1 (Ei rfl ?_)))))))))
   exact Eu (E.ret (Fb rfl rfl (by grind [unb, a0b, a1U, d1, d2, t1, t2])))
 ·refine Em rfl (Es rfl (Es rfl (Es rfl (Es rfl (Es rfl (Ey rfl ((u7 rfl rfl).yd) (Eu (n0 rfl (E.exit (o3 (o3 (x5 (Et (Ew Z1 (Ei rfl ?_)))))))))))))))
  exact Eu (E.ret (Fb rfl rfl (by grind [unb, a0b, a1U, d1, d2, t1, t2])))
theorem a4k (hb1 : f7.length ≤ 1000) (hb2 : d9.length ≤ 1000) (hat : d8.length ≤ 1000) : Tr Tryz.prog 185 [.agg #[.slice w7 B1 w6, .slice s6 u4 s5], .agg #[.int .i64 j4, .slice y7 C8 y6], .agg #[.int .i64 j5, .slice z8 C3 z7]] (fun w L => Ro w L eIs [.slice w7 B1 w6] f7 ∧ Ro w L eIs [.slice s6 u4 s5] d9 ∧ I64 j4 ∧ Ro w L eIs [.slice y7 C8 y6] d8 ∧ I64 j5 ∧ Ro w L eIs [.slice z8 C3 z7] d6) [] (κ := (Option Addr × Nat × Nat) × (Option Addr × Nat × Nat)) (fun k => True) (fun k => .tuple #[.agg #[.slice k.1.1 k.1.2.1 k.1.2.2, .slice k.2.1 k.2.2.1 k.2.2.2], .bool (r6 (f7, d9) (j4, d8) (j5, d6))]) (fun k => [ow eIs [.slice k.1.1 k.1.2.1 k.1.2.2] (cond (r6 (f7, d9) (j4, d8) (j5, d6)) (r9 (f7, d9) (j4, d8) (j5, d6)).1 []), ow eIs [.slice k.2.1 k.2.2.1 k.2.2.2] (cond (r6 (f7, d9) (j4, d8) (j5, d6)) (r9 (f7, d9) (j4, d8) (j5, d6)).2 [])]) := by
 refine Tr.intro Tryz.func185 rfl (n := 81) rfl (by decide +kernel) bl (fr := [(0, .agg #[.slice w7 B1 w6, .slice s6 u4 s5]), (1, .agg #[.int .i64 j4, .slice y7 C8 y6]), (2, .agg #[.int .i64 j5, .slice z8 C3 z7])]) rfl fun w L hR => ?_
 obtain ⟨y8, u9, N5, D8, F3, y9⟩ := hR
 obtain ⟨rfl, P1⟩ := y8.slen
 obtain ⟨rfl, I7⟩ := u9.slen
 obtain ⟨rfl, U5⟩ := D8.slen
 obtain ⟨rfl, R9⟩ := y9.slen
 refine Ew Z5 (Est rfl (N.box (cs := [_, _]) rfl dc rfl) (fun b3 _ => (Est rfl (N.box (cs := [_, _]) rfl dc rfl) (fun b4 _ => (Est rfl (N.box (cs := [_, _]) rfl dc rfl) (fun b5 _ => (Est rfl (N.alloc ty_Binding dc) (fun b6 _ => (Ei rfl (Eu (Eq_ (Ew Z23 (Ey rfl ((i0 fo_Atom_0 f6 dc rfl).yd) (Ey rfl (f9 f6 rfl (Hz (mS (mS m0)) 0 rfl) rfl) (Ey rfl ((i0 fo_Fact_0 f6 dc rfl).yd) (Ey rfl (f9 f6 rfl (Hz (mS m0) 0 rfl) rfl) (Ey rfl ((Y.neq rfl rfl).yd) (n9 (fun q15 => ?_) (fun q15 => ?_)))))))))))))))))))
 ·refine Em rfl (Es rfl (Es rfl (Es rfl (Es rfl (Es rfl (Es rfl (Es rfl (Ey rfl ((v8 rfl rfl).yd) (Em rfl (Es rfl (Es rfl (Es rfl (Es rfl (Es rfl (Es rfl (Es rfl (Ey rfl ((v8 rfl rfl).yd) (Eu (o0 rfl (Ew Z3 (Ey rfl ((E9 (pvs := []) (cs := [_, _]) ty_Binding pl_Binding rfl rfl).yd) (Est rfl (Ns [_, _] ty_Binding rfl) (fun _ _ => (Ei rfl (Eu (E.ret (o4 (o2 (A := []) (Own.nil (E := Enc.int) (e := tI) (a := none)) rfl (i9 (congrArg (ow eIs [_]) (show _ = cond (r6 (f7, d9) (j4, d8) (j5, d6)) (r9 (f7, d9) (j4, d8) (j5, d6)).2 [] by grind [r6, r9, w4, y5, x6, B5, B7, y4, d1, d2, t1, t2])) (o2 (A := []) (Own.nil (E := Enc.int) (e := tI) (a := none)) rfl (i9 (congrArg (ow eIs [_]) (show _ = cond (r6 (f7, d9) (j4, d8) (j5, d6)) (r9 (f7, d9) (j4, d8) (j5, d6)).1 [] by grind [r6, r9, w4, y5, x6, B5, B7, y4, d1, d2, t1, t2])) (d7 (d7 ?_)))))))))))))))))))))))))))))))))
  exact W8 br rfl rfl rfl (mS (mS m0)) ty_Binding rfl ((none, 0, 0), (none, 0, 0)) trivial (by rw [show (r6 (f7, d9) (j4, d8) (j5, d6)) = (false) from (by grind [r6, r9, w4, y5, x6, B5, B7, y4, d1, d2, t1, t2])]; try rfl) (J := _) (.refl _) (.inl rfl)
 ·refine Em rfl (Ey rfl ((i0 fo_Atom_1 ty_Is dc rfl).yd) (Ey rfl (f9 ty_Is rfl (Hz (mS (mS m0)) 1 rfl) rfl) (Ey rfl ((Y.len us_Is rfl).yd) (Ey rfl ((i0 fo_Fact_1 ty_Is dc rfl).yd) (Ey rfl (f9 ty_Is rfl (Hz (mS m0) 1 rfl) rfl) (Ey rfl ((Y.len us_Is rfl).yd) (Ey rfl ((Y.neq rfl rfl).yd) (n9 (fun q23 => ?_) (fun q23 => ?_)))))))))
  ·refine Ey rfl ((u7 rfl rfl).yd) (Em rfl (Es rfl (Es rfl (Es rfl (Es rfl (Es rfl (Es rfl (Es rfl (Ey rfl ((v8 rfl rfl).yd) (Eu (o0 rfl (Ew Z3 (Ey rfl ((E9 (pvs := []) (cs := [_, _]) ty_Binding pl_Binding rfl rfl).yd) (Est rfl (Ns [_, _] ty_Binding rfl) (fun _ _ => (Ei rfl (Eu (E.ret (o4 (o2 (A := []) (Own.nil (E := Enc.int) (e := tI) (a := none)) rfl (i9 (congrArg (ow eIs [_]) (show _ = cond (r6 (f7, d9) (j4, d8) (j5, d6)) (r9 (f7, d9) (j4, d8) (j5, d6)).2 [] by grind [r6, r9, w4, y5, x6, B5, B7, y4, d1, d2, t1, t2])) (o2 (A := []) (Own.nil (E := Enc.int) (e := tI) (a := none)) rfl (i9 (congrArg (ow eIs [_]) (show _ = cond (r6 (f7, d9) (j4, d8) (j5, d6)) (r9 (f7, d9) (j4, d8) (j5, d6)).1 [] by grind [r6, r9, w4, y5, x6, B5, B7, y4, d1, d2, t1, t2])) (d7 (d7 ?_)))))))))))))))))))))))))
   exact W8 br rfl rfl rfl (mS (mS m0)) ty_Binding rfl ((none, 0, 0), (none, 0, 0)) trivial (by rw [show (r6 (f7, d9) (j4, d8) (j5, d6)) = (false) from (by grind [r6, r9, w4, y5, x6, B5, B7, y4, d1, d2, t1, t2])]; try rfl) (J := _) (.refl _) (.inl rfl)
  ·refine Ey rfl ((u7 rfl rfl).yd) (Em rfl (Ey rfl ((i0 fo_Binding_0 ty_Is dc rfl).yd) (Ey rfl (f9 ty_Is rfl (Hz (mS (mS (mS m0))) 0 rfl) rfl) (Ey rfl ((Y.len us_Is rfl).yd) (Ey rfl ((i0 fo_Binding_1 ty_Is dc rfl).yd) (Ey rfl (f9 ty_Is rfl (Hz (mS (mS (mS m0))) 1 rfl) rfl) (Ey rfl ((Y.len us_Is rfl).yd) (Ey rfl ((Y.neq rfl rfl).yd) (n9 (fun q32 => ?_) (fun q32 => ?_))))))))))
   ·refine Ey rfl ((u7 rfl rfl).yd) (Eu (o0 rfl (Ew Z3 (Ey rfl ((E9 (pvs := []) (cs := [_, _]) ty_Binding pl_Binding rfl rfl).yd) (Est rfl (Ns [_, _] ty_Binding rfl) (fun _ _ => (Ei rfl (Eu (E.ret (o4 (o2 (A := []) (Own.nil (E := Enc.int) (e := tI) (a := none)) rfl (i9 (congrArg (ow eIs [_]) (show _ = cond (r6 (f7, d9) (j4, d8) (j5, d6)) (r9 (f7, d9) (j4, d8) (j5, d6)).2 [] by grind [r6, r9, w4, y5, x6, B5, B7, y4, d1, d2, t1, t2])) (o2 (A := []) (Own.nil (E := Enc.int) (e := tI) (a := none)) rfl (i9 (congrArg (ow eIs [_]) (show _ = cond (r6 (f7, d9) (j4, d8) (j5, d6)) (r9 (f7, d9) (j4, d8) (j5, d6)).1 [] by grind [r6, r9, w4, y5, x6, B5, B7, y4, d1, d2, t1, t2])) (d7 (d7 ?_))))))))))))))))
    exact W8 br rfl rfl rfl (mS (mS m0)) ty_Binding rfl ((none, 0, 0), (none, 0, 0)) trivial (by rw [show (r6 (f7, d9) (j4, d8) (j5, d6)) = (false) from (by grind [r6, r9, w4, y5, x6, B5, B7, y4, d1, d2, t1, t2])]; try rfl) (J := _) (.refl _) (.inl rfl)
   ·refine Ey rfl ((u7 rfl rfl).yd) (Eu (n0 rfl (f8 (Et (Ew Z4 (Ey rfl (j6 (cs := [_, _]) ty_Binding rfl (Has.pt (mS (mS (mS m0)))) rfl) (Est rfl (N.call (a2Z fc fc) rfl rfl rfl dc rfl (fun w Lp hA => ⟨hA.ro y8, hA.ro u9⟩)) (fun k36 _ => ?_))))))))
    obtain ⟨⟨a36_0, m36_0, c36_0⟩, ⟨a36_1, m36_1, c36_1⟩⟩ := k36
    refine d4 m0 fun e36_0 l36_0 => ?_
    subst e36_0
    refine d4 (mS m0) fun e36_1 l36_1 => ?_
    subst e36_1
    refine Est rfl (N.alloc ty_Binding dc) (fun b8 _ => (Est rfl (Ns [_, _] ty_Binding rfl) (fun _ _ => (Eu (Eq_ (Ew Z4 (Ey rfl ((i0 fo_Atom_1 ty_Is dc rfl).yd) (Ey rfl (f9 ty_Is rfl ((Has.pt (mS (mS (mS (mS (mS m0)))))).sub (cs' := [_]) 1 rfl) rfl) (Ey rfl ((Y.len us_Is rfl).yd) (Em rfl (Eu (E.block (d7 (i9 (congrArg (ow eIs [_]) (show f7 = (z6 (f7, d9) ((d8.zip d6).take 0)).1 from by first | rfl | (simp; done) | grind [r6, r9, w4, y5, x6, B5, B7, y4, d1, d2, t1, t2])) (g9 (i9 (congrArg (ow eIs [_]) (show d9 = (z6 (f7, d9) ((d8.zip d6).take 0)).2 from by first | rfl | (simp; done) | grind [r6, r9, w4, y5, x6, B5, B7, y4, d1, d2, t1, t2])) (E.loop (κ := Nat × Option Addr × Nat × Nat × Option Addr × Nat × Nat) (fun g => g.1 ≤ d8.length ∧ okV (f7, d9) (d8.zip d6) = okV (z6 (f7, d9) ((d8.zip d6).take g.1)) ((d8.zip d6).drop g.1)) (fun g => [(5, .pointer (some ⟨b5, 0, none⟩)), (6, .pointer (some ⟨b6, 0, none⟩)), (8, .pointer (some ⟨b8, 0, none⟩)), (38, .slice y7 d8.length y6), (39, .int .i64 (↑d8.length : Int)), (40, .int .i64 (↑g.1 : Int))]) (fun g => [ow eIs [.slice g.2.2.2.2.1 g.2.2.2.2.2.1 g.2.2.2.2.2.2] ((z6 (f7, d9) ((d8.zip d6).take g.1)).2), ow eIs [.slice g.2.1 g.2.2.1 g.2.2.2.1] ((z6 (f7, d9) ((d8.zip d6).take g.1)).1), pt b8 39 [.slice g.2.1 g.2.2.1 g.2.2.2.1, .slice g.2.2.2.2.1 g.2.2.2.2.2.1 g.2.2.2.2.2.2], pt b6 39 [.slice none 0 0, .slice none 0 0], pt b5 83 [.int .i64 j5, .slice z8 d6.length z7], pt b4 94 [.int .i64 j4, .slice y7 d8.length y6], pt b3 39 [.slice w7 f7.length w6, .slice s6 d9.length s5]]) (fun g => d8.length - g.1) (0, a36_0, (f7).length, c36_0, a36_1, (d9).length, c36_1) ⟨Nat.zero_le _, by rfl⟩ ⟨rfl, rfl, rfl, rfl, rfl, rfl, trivial⟩ (.refl _) (fun g pg => ?_))))))))))))))))))
    obtain ⟨g, aA0_0, mA0_0, cA0_0, aA0_1, mA0_1, cA0_1⟩ := g
    try dsimp only at pg
    try dsimp only
    obtain ⟨pk, pa⟩ := pg
    have jl := a8x (b := (f7, d9)) (t := d8) (v := d6) (g := g)
    have je := a2r (l := (d8.zip d6).take g) (x := (f7, d9)) (show f7.length = d9.length by omega)
    dsimp only at jl
    refine d4 (mS m0) fun eaA0_0 laA0_0 => ?_
    subst eaA0_0
    refine d4 m0 fun eaA0_1 laA0_1 => ?_
    subst eaA0_1
    refine Ew Z1 (Ey rfl ((Y.lss rfl rfl).yd) (n9 (fun q41 => ?_) (fun q41 => ?_)))
    ·refine Eu (Eq_ (o0 rfl (f8 (Et (Eq_ (E.block (Ew Z5 (Em rfl ?_))))))))
     obtain ⟨eb43, eo43, ea43, ei43, eh43⟩ := D8.elemI g om
     refine Ey rfl ((t6 us_Is f6 rfl ea43 rfl g rfl om).yd) (Ey rfl (f9 f6 rfl (eh43 _) rfl) (Ei rfl (Ei rfl (Eu (Eq_ (Ew Z8 (Em rfl (Est rfl (m6 a0h rfl rfl rfl dc tv) (fun _ _ => (t7 (fun q46 => ?_) (fun q46 => ?_)))))))))))
     ·refine Em rfl (Ey rfl (j6 (cs := [_, _]) ty_Binding rfl (Has.pt (mS (mS m0))) rfl) (Em rfl (Est rfl (m6 a0a rfl rfl rfl dc (fun w Lp hA => ⟨hA.ow (mS m0), hA.ow m0⟩)) (fun _ _ => (Ey rfl ((Y.lss rfl rfl).yd) (n9 (fun q51 => ?_) (fun q51 => ?_)))))))
      ·refine Ey rfl ((v8 rfl rfl).yd) (Eu (o0 rfl (L5 (κ := (Option Addr × Nat) × (Option Addr × Nat)) (fun _ => True) (fun kM => [(5, .pointer (some ⟨b5, 0, none⟩)), (6, .pointer (some ⟨b6, 0, none⟩)), (8, .pointer (some ⟨b8, 0, none⟩)), (9, .int .i64 (g : Int)), (10, .int .i64 d8[g]), (38, .slice y7 d8.length y6), (39, .int .i64 (↑d8.length : Int)), (40, .int .i64 (g : Int))]) (fun kM => [pt b8 39 [.slice kM.1.1 (((z6 (f7, d9) ((d8.zip d6).take g)).1).length + 1) kM.1.2, .slice kM.2.1 (((z6 (f7, d9) ((d8.zip d6).take g)).2).length + 1) kM.2.2], ow eIs [.slice kM.2.1 (((z6 (f7, d9) ((d8.zip d6).take g)).2).length + 1) kM.2.2] (((z6 (f7, d9) ((d8.zip d6).take g)).2) ++ [d6[g]]), ow eIs [.slice kM.1.1 (((z6 (f7, d9) ((d8.zip d6).take g)).1).length + 1) kM.1.2] (((z6 (f7, d9) ((d8.zip d6).take g)).1) ++ [d8[g]]), pt b6 39 [.slice none 0 0, .slice none 0 0], pt b5 83 [.int .i64 j5, .slice z8 d6.length z7], pt b4 94 [.int .i64 j4, .slice y7 d8.length y6], pt b3 39 [.slice w7 f7.length w6, .slice s6 d9.length s5]]) ?_ (fun kM _ => ?_))))
       ·refine D5 [b8, b6, b5, b4, b3] (fun j => !(Nat.beq j 15) && !(Nat.beq j 17)) mixed (t8 0 rfl rfl dc (i0 fo_Binding_0 ty_Is dc rfl) kr (G1 1 rfl rfl dc (K4 ty_Is rfl ((D7.pt (mS (mS m0)) (by simp)).sub (cs' := [_]) 0 rfl) rfl) kr (t8 2 rfl rfl dc (i8 rfl) kr (t8 5 rfl rfl dc (i0 fo_Binding_1 ty_Is dc rfl) kr (G1 6 rfl rfl dc (K4 ty_Is rfl ((D7.pt (mS (mS m0)) (by simp)).sub (cs' := [_]) 1 rfl) rfl) kr (t8 7 rfl rfl dc (i0 fo_Fact_1 ty_Is dc rfl) kr (G1 8 rfl rfl dc (K4 ty_Is rfl ((D7.pt (mS (mS (mS (mS m0)))) (by simp)).sub (cs' := [_]) 1 rfl) rfl) kr (t8 9 rfl rfl dc (i8 rfl) kr ?_))))))))
        obtain ⟨eb63, eo63, ea63, ei63, eh63⟩ := y9.elemI g om
        refine t8 10 rfl rfl dc (t6 us_Is f6 rfl ea63 rfl g rfl om) kr (G1 11 rfl rfl dc (K4 f6 rfl (D7.ro eh63) rfl) kr (x4 (i := 3) (j := 12) kr ?_ ?_))
        ·refine D3 3 rfl rfl (fun _ _ => SameI.out) (Nb [_] [_] us_Is f6 rfl rfl) (fun b56 _ => (x4 (i := 4) (j := 12) kr ?_ ?_))
         ·refine g9 (D3 4 rfl rfl (fun _ _ => SameI.out) (v7 (E := Enc.int) (ex := d8[g]) us_Is f6 rfl rfl rfl (Own.int ei43) rfl bn bn dc) (fun p57 _ => (t8 14 rfl rfl dc (i0 fo_Binding_0 ty_Is dc rfl) kr (x2 12 rfl rfl kr (fun _ _ => SameI.out) (Nb [_] [_] us_Is f6 rfl rfl) (fun b65 _ => (g9 (x2 13 rfl rfl kr (fun _ _ => SameI.out) (v7 (E := Enc.int) (ex := d6[g]) us_Is f6 rfl rfl rfl (Own.int ei63) rfl bn bn dc) (fun p66 _ => (g9 (x2 15 rfl rfl kr (fun h => by cases h) (Ns [_, _] ty_Is rfl) (fun _ _ => (t8 16 rfl rfl dc (i0 fo_Binding_1 ty_Is dc rfl) kr (x2 17 rfl rfl kr (fun h => by cases h) (Ns [_, _] ty_Is rfl) (fun _ _ => (E8 kr (v6 (v6 (v6 (v6 (v6 (v6 (v6 ?_))))))))))))))))))))))
          exact E3 (p57, p66) trivial ⟨rfl, rfl, rfl, rfl, rfl, rfl, rfl, rfl, trivial⟩ (.refl _)
         ·refine D3 12 rfl rfl (fun _ _ => SameI.out) (Nb [_] [_] us_Is f6 rfl rfl) (fun b65 _ => (d7 (l3 (x2 4 rfl rfl kr (fun _ _ => SameI.out) (v7 (E := Enc.int) (ex := d8[g]) us_Is f6 rfl rfl rfl (Own.int ei43) rfl bn bn dc) (fun p57 _ => (t8 14 rfl rfl dc (i0 fo_Binding_0 ty_Is dc rfl) kr (d7 (g9 (x2 13 rfl rfl kr (fun _ _ => SameI.out) (v7 (E := Enc.int) (ex := d6[g]) us_Is f6 rfl rfl rfl (Own.int ei63) rfl bn bn dc) (fun p66 _ => (g9 (x2 15 rfl rfl kr (fun h => by cases h) (Ns [_, _] ty_Is rfl) (fun _ _ => (t8 16 rfl rfl dc (i0 fo_Binding_1 ty_Is dc rfl) kr (x2 17 rfl rfl kr (fun h => by cases h) (Ns [_, _] ty_Is rfl) (fun _ _ => (E8 kr (v6 (v6 (v6 (v6 (v6 (v6 (v6 ?_))))))))))))))))))))))))
          exact E3 (p57, p66) trivial ⟨rfl, rfl, rfl, rfl, rfl, rfl, rfl, rfl, trivial⟩ (.refl _)
        ·refine D3 12 rfl rfl (fun _ _ => SameI.out) (Nb [_] [_] us_Is f6 rfl rfl) (fun b65 _ => (x2 3 rfl rfl kr (fun _ _ => SameI.out) (Nb [_] [_] us_Is f6 rfl rfl) (fun b56 _ => (l3 (x2 4 rfl rfl kr (fun _ _ => SameI.out) (v7 (E := Enc.int) (ex := d8[g]) us_Is f6 rfl rfl rfl (Own.int ei43) rfl bn bn dc) (fun p57 _ => (t8 14 rfl rfl dc (i0 fo_Binding_0 ty_Is dc rfl) kr (d7 (g9 (x2 13 rfl rfl kr (fun _ _ => SameI.out) (v7 (E := Enc.int) (ex := d6[g]) us_Is f6 rfl rfl rfl (Own.int ei63) rfl bn bn dc) (fun p66 _ => (g9 (x2 15 rfl rfl kr (fun h => by cases h) (Ns [_, _] ty_Is rfl) (fun _ _ => (t8 16 rfl rfl dc (i0 fo_Binding_1 ty_Is dc rfl) kr (x2 17 rfl rfl kr (fun h => by cases h) (Ns [_, _] ty_Is rfl) (fun _ _ => (E8 kr (v6 (v6 (v6 (v6 (v6 (v6 (v6 ?_)))))))))))))))))))))))))
         exact E3 (p57, p66) trivial ⟨rfl, rfl, rfl, rfl, rfl, rfl, rfl, rfl, trivial⟩ (.refl _)
       ·obtain ⟨p57, p66⟩ := kM
        try dsimp only
        refine Et (Eq_ (D.region (fun j => true) mixed (Dy 0 rfl (j6 (cs := [_, _]) ty_Binding rfl (Has.pt m0) rfl) (Dyp 1 rfl (i8 rfl) (Dyp 3 rfl (i0 fo_Fact_1 ty_Is dc rfl) (Dy 4 rfl (f9 ty_Is rfl (Hz (mS (mS (mS (mS m0)))) 1 rfl) rfl) (Dyp 5 rfl (i8 rfl) ?_)))))))
        obtain ⟨eb75, eo75, ea75, ei75, eh75⟩ := y9.elemI g om
        refine Dyp 6 rfl (t6 us_Is f6 rfl ea75 rfl g rfl om) (Dy 7 rfl (f9 f6 rfl (eh75 _) rfl) (r8 2 rfl rfl kr (fun _ => rfl) (m6 S5 rfl rfl rfl dc (fun w Lp hA => ⟨hA.ow (mS (mS m0)), hA.ow (mS m0)⟩)) (fun _ _ => (Dyp 8 rfl (Y.neq rfl rfl) (n9 (fun q77 => ?_) (fun q77 => ?_))))))
        ·refine r7 kr (Et (o0 rfl (Ew Z3 (Ey rfl ((E9 (pvs := []) (cs := [_, _]) ty_Binding pl_Binding rfl rfl).yd) (l3 (Est rfl (Ns [_, _] ty_Binding rfl) (fun _ _ => (Ei rfl (Eu (E.ret (B0 (o4 (o4 (B0 (o4 (o2 (A := []) (Own.nil (E := Enc.int) (e := tI) (a := none)) rfl (i9 (congrArg (ow eIs [_]) (show _ = cond (r6 (f7, d9) (j4, d8) (j5, d6)) (r9 (f7, d9) (j4, d8) (j5, d6)).2 [] by grind [r6, r9, w4, y5, x6, B5, B7, y4, d1, d2, t1, t2])) (o2 (A := []) (Own.nil (E := Enc.int) (e := tI) (a := none)) rfl (i9 (congrArg (ow eIs [_]) (show _ = cond (r6 (f7, d9) (j4, d8) (j5, d6)) (r9 (f7, d9) (j4, d8) (j5, d6)).1 [] by grind [r6, r9, w4, y5, x6, B5, B7, y4, d1, d2, t1, t2])) (d7 (d7 ?_)))))))))))))))))))))
         exact W8 br rfl rfl rfl (mS (mS m0)) ty_Binding rfl ((none, 0, 0), (none, 0, 0)) trivial (by rw [show (r6 (f7, d9) (j4, d8) (j5, d6)) = (false) from (by grind [r6, r9, w4, y5, x6, B5, B7, y4, d1, d2, t1, t2])]; try rfl) (J := _) (.refl _) (.inl rfl)
        ·refine r7 kr (Et (n0 rfl (f8 (s4 (Et (Ez Z2 (Ey rfl ((Y.add rfl rfl om om).yd) (Em rfl (Eu (g9 (i9 (congrArg (ow eIs [_]) (show ((z6 (f7, d9) ((d8.zip d6).take g)).1) ++ [d8[g]] = (z6 (f7, d9) ((d8.zip d6).take (g + 1))).1 from by grind [r6, r9, w4, y5, x6, B5, B7, y4, d1, d2, t1, t2])) (g9 (i9 (congrArg (ow eIs [_]) (show ((z6 (f7, d9) ((d8.zip d6).take g)).2) ++ [d6[g]] = (z6 (f7, d9) ((d8.zip d6).take (g + 1))).2 from by grind [r6, r9, w4, y5, x6, B5, B7, y4, d1, d2, t1, t2])) (v6 (v6 (v6 (v6 (v6 (v6 (v6 ?_))))))))))))))))))))
         exact Ea (g + 1, p57.1, (((z6 (f7, d9) ((d8.zip d6).take g)).1).length + 1), p57.2, p66.1, (((z6 (f7, d9) ((d8.zip d6).take g)).2).length + 1), p66.2) ⟨oz, (show okV (f7, d9) (d8.zip d6) = okV (z6 (f7, d9) ((d8.zip d6).take (g + 1))) ((d8.zip d6).drop (g + 1)) from by grind [r6, r9, w4, y5, x6, B5, B7, y4, d1, d2, t1, t2])⟩
      ·refine Ey rfl ((v8 rfl rfl).yd) (Eu (n0 rfl (f8 (Et (Eq_ (D.region (fun j => true) mixed (Dy 0 rfl (j6 (cs := [_, _]) ty_Binding rfl (Has.pt (mS (mS m0))) rfl) (Dyp 1 rfl (i8 rfl) (Dyp 3 rfl (i0 fo_Fact_1 ty_Is dc rfl) (Dy 4 rfl (f9 ty_Is rfl (Hz (mS (mS (mS (mS m0)))) 1 rfl) rfl) (Dyp 5 rfl (i8 rfl) ?_)))))))))))
       obtain ⟨eb75, eo75, ea75, ei75, eh75⟩ := y9.elemI g om
       refine Dyp 6 rfl (t6 us_Is f6 rfl ea75 rfl g rfl om) (Dy 7 rfl (f9 f6 rfl (eh75 _) rfl) (r8 2 rfl rfl kr (fun _ => rfl) (m6 S5 rfl rfl rfl dc (fun w Lp hA => ⟨hA.ow (mS m0), hA.ow m0⟩)) (fun _ _ => (Dyp 8 rfl (Y.neq rfl rfl) (n9 (fun q77 => ?_) (fun q77 => ?_))))))
       ·refine r7 kr (Et (o0 rfl (Ew Z3 (Ey rfl ((E9 (pvs := []) (cs := [_, _]) ty_Binding pl_Binding rfl rfl).yd) (l3 (Est rfl (Ns [_, _] ty_Binding rfl) (fun _ _ => (Ei rfl (Eu (E.ret (B0 (o4 (o4 (B0 (o4 (o2 (A := []) (Own.nil (E := Enc.int) (e := tI) (a := none)) rfl (i9 (congrArg (ow eIs [_]) (show _ = cond (r6 (f7, d9) (j4, d8) (j5, d6)) (r9 (f7, d9) (j4, d8) (j5, d6)).2 [] by grind [r6, r9, w4, y5, x6, B5, B7, y4, d1, d2, t1, t2])) (o2 (A := []) (Own.nil (E := Enc.int) (e := tI) (a := none)) rfl (i9 (congrArg (ow eIs [_]) (show _ = cond (r6 (f7, d9) (j4, d8) (j5, d6)) (r9 (f7, d9) (j4, d8) (j5, d6)).1 [] by grind [r6, r9, w4, y5, x6, B5, B7, y4, d1, d2, t1, t2])) (d7 (d7 ?_)))))))))))))))))))))
        exact W8 br rfl rfl rfl (mS (mS m0)) ty_Binding rfl ((none, 0, 0), (none, 0, 0)) trivial (by rw [show (r6 (f7, d9) (j4, d8) (j5, d6)) = (false) from (by grind [r6, r9, w4, y5, x6, B5, B7, y4, d1, d2, t1, t2])]; try rfl) (J := _) (.refl _) (.inl rfl)
       ·refine r7 kr (Et (n0 rfl (f8 (s4 (Et (Ez Z2 (Ey rfl ((Y.add rfl rfl om om).yd) (Em rfl (Eu (d7 (i9 (congrArg (ow eIs [_]) (show (z6 (f7, d9) ((d8.zip d6).take g)).1 = (z6 (f7, d9) ((d8.zip d6).take (g + 1))).1 from by grind [r6, r9, w4, y5, x6, B5, B7, y4, d1, d2, t1, t2])) (d7 (i9 (congrArg (ow eIs [_]) (show (z6 (f7, d9) ((d8.zip d6).take g)).2 = (z6 (f7, d9) ((d8.zip d6).take (g + 1))).2 from by grind [r6, r9, w4, y5, x6, B5, B7, y4, d1, d2, t1, t2])) (v6 (v6 (v6 (v6 (v6 (v6 (v6 ?_))))))))))))))))))))
        exact Ea (g + 1, aA0_0, ((z6 (f7, d9) ((d8.zip d6).take g)).1).length, cA0_0, aA0_1, ((z6 (f7, d9) ((d8.zip d6).take g)).2).length, cA0_1) ⟨oz, (show okV (f7, d9) (d8.zip d6) = okV (z6 (f7, d9) ((d8.zip d6).take (g + 1))) ((d8.zip d6).drop (g + 1)) from by grind [r6, r9, w4, y5, x6, B5, B7, y4, d1, d2, t1, t2])⟩
     ·refine Em rfl (Es rfl (Es rfl (Es rfl (Es rfl (Ey rfl ((u7 rfl rfl).yd) (Eu (n0 rfl (f8 (Et (Eq_ (D.region (fun j => true) mixed (Dy 0 rfl (j6 (cs := [_, _]) ty_Binding rfl (Has.pt (mS (mS m0))) rfl) (Dyp 1 rfl (i8 rfl) (Dyp 3 rfl (i0 fo_Fact_1 ty_Is dc rfl) (Dy 4 rfl (f9 ty_Is rfl (Hz (mS (mS (mS (mS m0)))) 1 rfl) rfl) (Dyp 5 rfl (i8 rfl) ?_))))))))))))))))
      obtain ⟨eb75, eo75, ea75, ei75, eh75⟩ := y9.elemI g om
      refine Dyp 6 rfl (t6 us_Is f6 rfl ea75 rfl g rfl om) (Dy 7 rfl (f9 f6 rfl (eh75 _) rfl) (r8 2 rfl rfl kr (fun _ => rfl) (m6 S5 rfl rfl rfl dc (fun w Lp hA => ⟨hA.ow (mS m0), hA.ow m0⟩)) (fun _ _ => (Dyp 8 rfl (Y.neq rfl rfl) (n9 (fun q77 => ?_) (fun q77 => ?_))))))
      ·refine r7 kr (Et (o0 rfl (Ew Z3 (Ey rfl ((E9 (pvs := []) (cs := [_, _]) ty_Binding pl_Binding rfl rfl).yd) (l3 (Est rfl (Ns [_, _] ty_Binding rfl) (fun _ _ => (Ei rfl (Eu (E.ret (B0 (o4 (o4 (B0 (o4 (o2 (A := []) (Own.nil (E := Enc.int) (e := tI) (a := none)) rfl (i9 (congrArg (ow eIs [_]) (show _ = cond (r6 (f7, d9) (j4, d8) (j5, d6)) (r9 (f7, d9) (j4, d8) (j5, d6)).2 [] by grind [r6, r9, w4, y5, x6, B5, B7, y4, d1, d2, t1, t2])) (o2 (A := []) (Own.nil (E := Enc.int) (e := tI) (a := none)) rfl (i9 (congrArg (ow eIs [_]) (show _ = cond (r6 (f7, d9) (j4, d8) (j5, d6)) (r9 (f7, d9) (j4, d8) (j5, d6)).1 [] by grind [r6, r9, w4, y5, x6, B5, B7, y4, d1, d2, t1, t2])) (d7 (d7 ?_)))))))))))))))))))))
       exact W8 br rfl rfl rfl (mS (mS m0)) ty_Binding rfl ((none, 0, 0), (none, 0, 0)) trivial (by rw [show (r6 (f7, d9) (j4, d8) (j5, d6)) = (false) from (by grind [r6, r9, w4, y5, x6, B5, B7, y4, d1, d2, t1, t2])]; try rfl) (J := _) (.refl _) (.inl rfl)
      ·refine r7 kr (Et (n0 rfl (f8 (s4 (Et (Ez Z2 (Ey rfl ((Y.add rfl rfl om om).yd) (Em rfl (Eu (d7 (i9 (congrArg (ow eIs [_]) (show (z6 (f7, d9) ((d8.zip d6).take g)).1 = (z6 (f7, d9) ((d8.zip d6).take (g + 1))).1 from by grind [r6, r9, w4, y5, x6, B5, B7, y4, d1, d2, t1, t2])) (d7 (i9 (congrArg (ow eIs [_]) (show (z6 (f7, d9) ((d8.zip d6).take g)).2 = (z6 (f7, d9) ((d8.zip d6).take (g + 1))).2 from by grind [r6, r9, w4, y5, x6, B5, B7, y4, d1, d2, t1, t2])) (v6 (v6 (v6 (v6 (v6 (v6 (v6 ?_))))))))))))))))))))
       exact Ea (g + 1, aA0_0, ((z6 (f7, d9) ((d8.zip d6).take g)).1).length, cA0_0, aA0_1, ((z6 (f7, d9) ((d8.zip d6).take g)).2).length, cA0_1) ⟨oz, (show okV (f7, d9) (d8.zip d6) = okV (z6 (f7, d9) ((d8.zip d6).take (g + 1))) ((d8.zip d6).drop (g + 1)) from by grind [r6, r9, w4, y5, x6, B5, B7, y4, d1, d2, t1, t2])⟩
    ·refine Eu (Eq_ (n0 rfl (E.exit (o3 (o3 (x5 (Et (Ew Z3 (Ey rfl (j6 (cs := [_, _]) ty_Binding rfl (Has.pt (mS (mS m0))) rfl) (l3 (Est rfl (Ns [_, _] ty_Binding rfl) (fun _ _ => (Ei rfl (Eu (E.ret (d7 (i9 (congrArg (ow eIs [_]) (show _ = cond (r6 (f7, d9) (j4, d8) (j5, d6)) (r9 (f7, d9) (j4, d8) (j5, d6)).2 [] by grind [r6, r9, w4, y5, x6, B5, B7, y4, d1, d2, t1, t2])) (g9 (i9 (congrArg (ow eIs [_]) (show _ = cond (r6 (f7, d9) (j4, d8) (j5, d6)) (r9 (f7, d9) (j4, d8) (j5, d6)).1 [] by grind [r6, r9, w4, y5, x6, B5, B7, y4, d1, d2, t1, t2])) (d7 (d7 ?_)))))))))))))))))))))
     exact W8 br rfl rfl rfl (mS (mS m0)) ty_Binding rfl ((_, _, _), (_, _, _)) trivial (by rw [show (r6 (f7, d9) (j4, d8) (j5, d6)) = (true) from (by grind [r6, r9, w4, y5, x6, B5, B7, y4, d1, d2, t1, t2])]; try rfl) (J := _) (.refl _) (.inl rfl)
theorem a1l (hb1 : f7.length ≤ 1000) (hb2 : d9.length ≤ 1000) (hat : d8.length ≤ 1000) : Tr Tryz.prog 159 [.agg #[.slice w7 B1 w6, .slice s6 u4 s5], .agg #[.int .i64 j4, .slice y7 C8 y6], .agg #[.int .i64 j5, .slice z8 C3 z7]] (fun w L => Ro w L eIs [.slice w7 B1 w6] f7 ∧ Ro w L eIs [.slice s6 u4 s5] d9 ∧ I64 j4 ∧ Ro w L eIs [.slice y7 C8 y6] d8 ∧ I64 j5 ∧ Ro w L eIs [.slice z8 C3 z7] d6) [] (κ := (Option Addr × Nat × Nat) × (Option Addr × Nat × Nat)) (fun k => True) (fun k => .tuple #[.agg #[.slice k.1.1 k.1.2.1 k.1.2.2, .slice k.2.1 k.2.2.1 k.2.2.2], .bool (r6 (f7, d9) (j4, d8) (j5, d6))]) (fun k => [ow eIs [.slice k.1.1 k.1.2.1 k.1.2.2] (cond (r6 (f7, d9) (j4, d8) (j5, d6)) (r9 (f7, d9) (j4, d8) (j5, d6)).1 []), ow eIs [.slice k.2.1 k.2.2.1 k.2.2.2] (cond (r6 (f7, d9) (j4, d8) (j5, d6)) (r9 (f7, d9) (j4, d8) (j5, d6)).2 [])]) := by
 refine Tr.intro Tryz.func159 rfl (n := 88) rfl (by decide +kernel) bl (fr := [(0, .agg #[.slice w7 B1 w6, .slice s6 u4 s5]), (1, .agg #[.int .i64 j4, .slice y7 C8 y6]), (2, .agg #[.int .i64 j5, .slice z8 C3 z7])]) rfl fun w L hR => ?_
 obtain ⟨y8, u9, N5, D8, F3, y9⟩ := hR
 obtain ⟨rfl, P1⟩ := y8.slen
 obtain ⟨rfl, I7⟩ := u9.slen
 obtain ⟨rfl, U5⟩ := D8.slen
 obtain ⟨rfl, R9⟩ := y9.slen
 refine Ew Z5 (Est rfl (N.box (cs := [_, _]) rfl dc rfl) (fun b3 _ => (Est rfl (N.box (cs := [_, _]) rfl dc rfl) (fun b4 _ => (Est rfl (N.box (cs := [_, _]) rfl dc rfl) (fun b5 _ => (Est rfl (N.alloc ty_Binding dc) (fun b6 _ => (Ei rfl (Ev Z4 (Ey rfl (j6 (cs := [_, _]) ty_Binding rfl (Has.pt (mS (mS (mS m0)))) rfl) (Est rfl (N.call (a2U fc fc) rfl rfl rfl dc rfl (fun w Lp hA => ⟨hA.ro y8, hA.ro u9⟩)) (fun k12 _ => ?_)))))))))))))
 obtain ⟨⟨a12_0, m12_0, c12_0⟩, ⟨a12_1, m12_1, c12_1⟩⟩ := k12
 refine d4 m0 fun e12_0 l12_0 => ?_
 subst e12_0
 refine d4 (mS m0) fun e12_1 l12_1 => ?_
 subst e12_1
 refine Est rfl (N.alloc ty_Binding dc) (fun b8 _ => (Est rfl (Ns [_, _] ty_Binding rfl) (fun _ _ => (Eu (Eq_ (Ew Z23 (Ey rfl ((i0 fo_Atom_0 f6 dc rfl).yd) (Ey rfl (f9 f6 rfl ((Has.pt (mS (mS (mS (mS (mS m0)))))).sub (cs' := [_]) 0 rfl) rfl) (Ey rfl ((i0 fo_Fact_0 f6 dc rfl).yd) (Ey rfl (f9 f6 rfl (Hz (mS (mS (mS (mS m0)))) 0 rfl) rfl) (Ey rfl ((Y.neq rfl rfl).yd) (n9 (fun q17 => ?_) (fun q17 => ?_)))))))))))))
 ·refine Em rfl (Es rfl (Es rfl (Es rfl (Es rfl (Es rfl (Es rfl (Es rfl (Ey rfl ((v8 rfl rfl).yd) (Em rfl (Es rfl (Es rfl (Es rfl (Es rfl (Es rfl (Es rfl (Es rfl (Ey rfl ((v8 rfl rfl).yd) (Eu (o0 rfl (Ew Z3 (Ey rfl ((E9 (pvs := []) (cs := [_, _]) ty_Binding pl_Binding rfl rfl).yd) (l3 (Est rfl (Ns [_, _] ty_Binding rfl) (fun _ _ => (Ei rfl (Eu (E.ret (o4 (o2 (A := []) (Own.nil (E := Enc.int) (e := tI) (a := none)) rfl (i9 (congrArg (ow eIs [_]) (show _ = cond (r6 (f7, d9) (j4, d8) (j5, d6)) (r9 (f7, d9) (j4, d8) (j5, d6)).2 [] by grind [r6, r9, w4, y5, x6, B5, B7, y4, H1, d1, d2, t1, t2])) (o2 (A := []) (Own.nil (E := Enc.int) (e := tI) (a := none)) rfl (i9 (congrArg (ow eIs [_]) (show _ = cond (r6 (f7, d9) (j4, d8) (j5, d6)) (r9 (f7, d9) (j4, d8) (j5, d6)).1 [] by grind [r6, r9, w4, y5, x6, B5, B7, y4, H1, d1, d2, t1, t2])) (d7 (d7 ?_))))))))))))))))))))))))))))))))))
  exact W8 br rfl rfl rfl (mS (mS m0)) ty_Binding rfl ((none, 0, 0), (none, 0, 0)) trivial (by rw [show (r6 (f7, d9) (j4, d8) (j5, d6)) = (false) from (by grind [r6, r9, w4, y5, x6, B5, B7, y4, H1, d1, d2, t1, t2])]; try rfl) (J := _) (.refl _) (.inl rfl)
 ·refine Em rfl (Ey rfl ((i0 fo_Atom_1 ty_Is dc rfl).yd) (Ey rfl (f9 ty_Is rfl ((Has.pt (mS (mS (mS (mS (mS m0)))))).sub (cs' := [_]) 1 rfl) rfl) (Ey rfl ((Y.len us_Is rfl).yd) (Ey rfl ((i0 fo_Fact_1 ty_Is dc rfl).yd) (Ey rfl (f9 ty_Is rfl (Hz (mS (mS (mS (mS m0)))) 1 rfl) rfl) (Ey rfl ((Y.len us_Is rfl).yd) (Ey rfl ((Y.neq rfl rfl).yd) (n9 (fun q25 => ?_) (fun q25 => ?_)))))))))
  ·refine Ey rfl ((u7 rfl rfl).yd) (Em rfl (Es rfl (Es rfl (Es rfl (Es rfl (Es rfl (Es rfl (Es rfl (Ey rfl ((v8 rfl rfl).yd) (Eu (o0 rfl (Ew Z3 (Ey rfl ((E9 (pvs := []) (cs := [_, _]) ty_Binding pl_Binding rfl rfl).yd) (l3 (Est rfl (Ns [_, _] ty_Binding rfl) (fun _ _ => (Ei rfl (Eu (E.ret (o4 (o2 (A := []) (Own.nil (E := Enc.int) (e := tI) (a := none)) rfl (i9 (congrArg (ow eIs [_]) (show _ = cond (r6 (f7, d9) (j4, d8) (j5, d6)) (r9 (f7, d9) (j4, d8) (j5, d6)).2 [] by grind [r6, r9, w4, y5, x6, B5, B7, y4, H1, d1, d2, t1, t2])) (o2 (A := []) (Own.nil (E := Enc.int) (e := tI) (a := none)) rfl (i9 (congrArg (ow eIs [_]) (show _ = cond (r6 (f7, d9) (j4, d8) (j5, d6)) (r9 (f7, d9) (j4, d8) (j5, d6)).1 [] by grind [r6, r9, w4, y5, x6, B5, B7, y4, H1, d1, d2, t1, t2])) (d7 (d7 ?_))))))))))))))))))))))))))
   exact W8 br rfl rfl rfl (mS (mS m0)) ty_Binding rfl ((none, 0, 0), (none, 0, 0)) trivial (by rw [show (r6 (f7, d9) (j4, d8) (j5, d6)) = (false) from (by grind [r6, r9, w4, y5, x6, B5, B7, y4, H1, d1, d2, t1, t2])]; try rfl) (J := _) (.refl _) (.inl rfl)
  ·refine Ey rfl ((u7 rfl rfl).yd) (Em rfl (Ey rfl ((i0 fo_Binding_0 ty_Is dc rfl).yd) (Ey rfl (f9 ty_Is rfl ((Has.pt (mS (mS (mS (mS (mS (mS m0))))))).sub (cs' := [_]) 0 rfl) rfl) (Ey rfl ((Y.len us_Is rfl).yd) (Ey rfl ((i0 fo_Binding_1 ty_Is dc rfl).yd) (Ey rfl (f9 ty_Is rfl ((Has.pt (mS (mS (mS (mS (mS (mS m0))))))).sub (cs' := [_]) 1 rfl) rfl) (Ey rfl ((Y.len us_Is rfl).yd) (Ey rfl ((Y.neq rfl rfl).yd) (n9 (fun q34 => ?_) (fun q34 => ?_))))))))))
   ·refine Ey rfl ((u7 rfl rfl).yd) (Eu (o0 rfl (Ew Z3 (Ey rfl ((E9 (pvs := []) (cs := [_, _]) ty_Binding pl_Binding rfl rfl).yd) (l3 (Est rfl (Ns [_, _] ty_Binding rfl) (fun _ _ => (Ei rfl (Eu (E.ret (o4 (o2 (A := []) (Own.nil (E := Enc.int) (e := tI) (a := none)) rfl (i9 (congrArg (ow eIs [_]) (show _ = cond (r6 (f7, d9) (j4, d8) (j5, d6)) (r9 (f7, d9) (j4, d8) (j5, d6)).2 [] by grind [r6, r9, w4, y5, x6, B5, B7, y4, H1, d1, d2, t1, t2])) (o2 (A := []) (Own.nil (E := Enc.int) (e := tI) (a := none)) rfl (i9 (congrArg (ow eIs [_]) (show _ = cond (r6 (f7, d9) (j4, d8) (j5, d6)) (r9 (f7, d9) (j4, d8) (j5, d6)).1 [] by grind [r6, r9, w4, y5, x6, B5, B7, y4, H1, d1, d2, t1, t2])) (d7 (d7 ?_)))))))))))))))))
    exact W8 br rfl rfl rfl (mS (mS m0)) ty_Binding rfl ((none, 0, 0), (none, 0, 0)) trivial (by rw [show (r6 (f7, d9) (j4, d8) (j5, d6)) = (false) from (by grind [r6, r9, w4, y5, x6, B5, B7, y4, H1, d1, d2, t1, t2])]; try rfl) (J := _) (.refl _) (.inl rfl)
   ·refine Ey rfl ((u7 rfl rfl).yd) (Eu (n0 rfl (f8 (Et (Eq_ (Ew Z1 (Ei rfl (Eu (E.block (d7 (i9 (congrArg (ow eIs [_]) (show f7 = (z6 (f7, d9) ((d8.zip d6).take 0)).1 from by first | rfl | (simp; done) | grind [r6, r9, w4, y5, x6, B5, B7, y4, H1, d1, d2, t1, t2])) (g9 (i9 (congrArg (ow eIs [_]) (show d9 = (z6 (f7, d9) ((d8.zip d6).take 0)).2 from by first | rfl | (simp; done) | grind [r6, r9, w4, y5, x6, B5, B7, y4, H1, d1, d2, t1, t2])) (E.loop (κ := Nat × Option Addr × Nat × Nat × Option Addr × Nat × Nat) (fun g => g.1 ≤ d8.length ∧ okV (f7, d9) (d8.zip d6) = okV (z6 (f7, d9) ((d8.zip d6).take g.1)) ((d8.zip d6).drop g.1)) (fun g => [(4, .pointer (some ⟨b4, 0, none⟩)), (5, .pointer (some ⟨b5, 0, none⟩)), (6, .pointer (some ⟨b6, 0, none⟩)), (8, .pointer (some ⟨b8, 0, none⟩)), (9, .int .i64 (↑g.1 : Int))]) (fun g => [ow eIs [.slice g.2.2.2.2.1 g.2.2.2.2.2.1 g.2.2.2.2.2.2] ((z6 (f7, d9) ((d8.zip d6).take g.1)).2), ow eIs [.slice g.2.1 g.2.2.1 g.2.2.2.1] ((z6 (f7, d9) ((d8.zip d6).take g.1)).1), pt b8 39 [.slice g.2.1 g.2.2.1 g.2.2.2.1, .slice g.2.2.2.2.1 g.2.2.2.2.2.1 g.2.2.2.2.2.2], pt b6 39 [.slice none 0 0, .slice none 0 0], pt b5 83 [.int .i64 j5, .slice z8 d6.length z7], pt b4 94 [.int .i64 j4, .slice y7 d8.length y6], pt b3 39 [.slice w7 f7.length w6, .slice s6 d9.length s5]]) (fun g => d8.length - g.1) (0, a12_0, (f7).length, c12_0, a12_1, (d9).length, c12_1) ⟨Nat.zero_le _, by rfl⟩ ⟨rfl, rfl, rfl, rfl, rfl, trivial⟩ (.refl _) (fun g pg => ?_)))))))))))))))
    obtain ⟨g, aA0_0, mA0_0, cA0_0, aA0_1, mA0_1, cA0_1⟩ := g
    try dsimp only at pg
    try dsimp only
    obtain ⟨pk, pa⟩ := pg
    have jl := a8x (b := (f7, d9)) (t := d8) (v := d6) (g := g)
    have je := a2r (l := (d8.zip d6).take g) (x := (f7, d9)) (show f7.length = d9.length by omega)
    dsimp only at jl
    refine d4 (mS m0) fun eaA0_0 laA0_0 => ?_
    subst eaA0_0
    refine d4 m0 fun eaA0_1 laA0_1 => ?_
    subst eaA0_1
    refine Eq_ (Ew Z5 (Em rfl (Ey rfl ((i0 fo_Atom_1 ty_Is dc rfl).yd) (Ey rfl (f9 ty_Is rfl ((Has.pt (mS (mS (mS (mS (mS m0)))))).sub (cs' := [_]) 1 rfl) rfl) (Ey rfl ((Y.len us_Is rfl).yd) (Ey rfl ((Y.lss rfl rfl).yd) (n9 (fun q41 => ?_) (fun q41 => ?_))))))))
    ·refine Eu (o0 rfl (f8 (Et (Eq_ (E.block (Eq_ (D.region (fun j => true) mixed (Dy 0 rfl (j6 (cs := [_, _]) ty_Binding rfl (Has.pt (mS (mS m0))) rfl) (Dyp 1 rfl (i0 fo_Atom_1 ty_Is dc rfl) (Dy 2 rfl (f9 ty_Is rfl ((Has.pt (mS (mS (mS (mS (mS m0)))))).sub (cs' := [_]) 1 rfl) rfl) (Dyp 3 rfl (i8 rfl) ?_)))))))))))
     obtain ⟨eb48, eo48, ea48, ei48, eh48⟩ := D8.elemI g om
     refine Dyp 4 rfl (t6 us_Is f6 rfl ea48 rfl g rfl om) (Dy 5 rfl (f9 f6 rfl (eh48 _) rfl) (r8 6 rfl rfl kr (fun _ => rfl) (m6 T4 rfl rfl rfl dc (fun w Lp hA => ⟨hA.ow (mS m0), hA.ow m0⟩)) (fun _ _ => (Dyp 7 rfl (C0 rfl) (r7 kr (Et (Eq_ (D.region (fun j => true) mixed (Dyp 0 rfl (i0 fo_Atom_1 ty_Is dc rfl) (Dy 1 rfl (f9 ty_Is rfl ((Has.pt (mS (mS (mS (mS (mS m0)))))).sub (cs' := [_]) 1 rfl) rfl) (Dyp 2 rfl (i8 rfl) (Dyp 3 rfl (t6 us_Is f6 rfl ea48 rfl g rfl om) (Dy 4 rfl (f9 f6 rfl (eh48 _) rfl) (r8 5 rfl rfl kr (fun _ => rfl) (m6 a0j rfl rfl rfl dc tv) (fun _ _ => (t7 (fun q56 => ?_) (fun q56 => ?_)))))))))))))))))
     ·refine Dyp 6 rfl (i8 rfl) (Dy 7 rfl (j6 (cs := [_, _]) ty_Binding rfl (Has.pt (mS (mS m0))) rfl) (Dyp 8 rfl (i0 fo_Atom_1 ty_Is dc rfl) (Dy 9 rfl (f9 ty_Is rfl ((Has.pt (mS (mS (mS (mS (mS m0)))))).sub (cs' := [_]) 1 rfl) rfl) (Dyp 10 rfl (i8 rfl) (Dyp 11 rfl (t6 us_Is f6 rfl ea48 rfl g rfl om) (Dy 12 rfl (f9 f6 rfl (eh48 _) rfl) (r8 13 rfl rfl kr (fun _ => rfl) (m6 a5h rfl rfl rfl dc (fun w Lp hA => ⟨hA.ow (mS m0), hA.ow m0⟩)) (fun _ _ => (t7 (fun q64 => ?_) (fun q64 => ?_))))))))))
      ·refine Dyp 14 rfl (Y.not (b := true) rfl) (Dyp 15 rfl (v8 rfl rfl) (r7 kr (Et (n0 rfl (Ew Z7 (Em rfl (Ey rfl ((i0 fo_Fact_1 ty_Is dc rfl).yd) (Ey rfl (f9 ty_Is rfl (Hz (mS (mS (mS (mS m0)))) 1 rfl) rfl) (Em rfl ?_)))))))))
       obtain ⟨eb83, eo83, ea83, ei83, eh83⟩ := y9.elemI g om
       refine Ey rfl ((t6 us_Is f6 rfl ea83 rfl g rfl om).yd) (Ey rfl (f9 f6 rfl (eh83 _) rfl) (Ey rfl ((Y.neq rfl rfl).yd) (n9 (fun q85 => ?_) (fun q85 => ?_))))
       ·refine Eu (o0 rfl (Ew Z3 (Ey rfl ((E9 (pvs := []) (cs := [_, _]) ty_Binding pl_Binding rfl rfl).yd) (l3 (Est rfl (Ns [_, _] ty_Binding rfl) (fun _ _ => (Ei rfl (Eu (E.ret (B0 (o4 (o4 (B0 (o4 (o2 (A := []) (Own.nil (E := Enc.int) (e := tI) (a := none)) rfl (i9 (congrArg (ow eIs [_]) (show _ = cond (r6 (f7, d9) (j4, d8) (j5, d6)) (r9 (f7, d9) (j4, d8) (j5, d6)).2 [] by grind [r6, r9, w4, y5, x6, B5, B7, y4, H1, d1, d2, t1, t2])) (o2 (A := []) (Own.nil (E := Enc.int) (e := tI) (a := none)) rfl (i9 (congrArg (ow eIs [_]) (show _ = cond (r6 (f7, d9) (j4, d8) (j5, d6)) (r9 (f7, d9) (j4, d8) (j5, d6)).1 [] by grind [r6, r9, w4, y5, x6, B5, B7, y4, H1, d1, d2, t1, t2])) (d7 (d7 ?_))))))))))))))))))))
        exact W8 br rfl rfl rfl (mS (mS m0)) ty_Binding rfl ((none, 0, 0), (none, 0, 0)) trivial (by rw [show (r6 (f7, d9) (j4, d8) (j5, d6)) = (false) from (by grind [r6, r9, w4, y5, x6, B5, B7, y4, H1, d1, d2, t1, t2])]; try rfl) (J := _) (.refl _) (.inl rfl)
       ·refine Eu (n0 rfl (f8 (s4 (Et (Ez Z3 (Em rfl (Ey rfl ((Y.add rfl rfl om om).yd) (Ei rfl (Eu (d7 (i9 (congrArg (ow eIs [_]) (show (z6 (f7, d9) ((d8.zip d6).take g)).1 = (z6 (f7, d9) ((d8.zip d6).take (g + 1))).1 from by grind [r6, r9, w4, y5, x6, B5, B7, y4, H1, d1, d2, t1, t2])) (d7 (i9 (congrArg (ow eIs [_]) (show (z6 (f7, d9) ((d8.zip d6).take g)).2 = (z6 (f7, d9) ((d8.zip d6).take (g + 1))).2 from by grind [r6, r9, w4, y5, x6, B5, B7, y4, H1, d1, d2, t1, t2])) (v6 (v6 (v6 (v6 (v6 (v6 (v6 ?_))))))))))))))))))))
        exact Ea (g + 1, aA0_0, ((z6 (f7, d9) ((d8.zip d6).take g)).1).length, cA0_0, aA0_1, ((z6 (f7, d9) ((d8.zip d6).take g)).2).length, cA0_1) ⟨oz, (show okV (f7, d9) (d8.zip d6) = okV (z6 (f7, d9) ((d8.zip d6).take (g + 1))) ((d8.zip d6).drop (g + 1)) from by grind [r6, r9, w4, y5, x6, B5, B7, y4, H1, d1, d2, t1, t2])⟩
      ·refine Dyp 14 rfl (Y.not (b := false) rfl) (Dyp 15 rfl (v8 rfl rfl) (r7 kr (Et (o0 rfl (D.region (fun j => !(Nat.beq j 12)) mixed (Dy 0 rfl (j6 (cs := [_, _]) ty_Binding rfl (Has.pt (mS (mS m0))) rfl) (Dyp 1 rfl (i0 fo_Atom_1 ty_Is dc rfl) (Dy 2 rfl (f9 ty_Is rfl ((Has.pt (mS (mS (mS (mS (mS m0)))))).sub (cs' := [_]) 1 rfl) rfl) (Dyp 3 rfl (i8 rfl) (Dyp 4 rfl (t6 us_Is f6 rfl ea48 rfl g rfl om) (Dy 5 rfl (f9 f6 rfl (eh48 _) rfl) (Dyp 6 rfl (i0 fo_Fact_1 ty_Is dc rfl) (Dy 7 rfl (f9 ty_Is rfl (Hz (mS (mS (mS (mS m0)))) 1 rfl) rfl) (Dyp 8 rfl (i8 rfl) ?_))))))))))))))
       obtain ⟨eb76, eo76, ea76, ei76, eh76⟩ := y9.elemI g om
       refine Dyp 9 rfl (t6 us_Is f6 rfl ea76 rfl g rfl om) (Dy 10 rfl (f9 f6 rfl (eh76 _) rfl) (r8 11 rfl rfl kr (fun _ => rfl) (N.call (a2N fc fc) rfl rfl rfl dc rfl (fun w Lp hA => ⟨hA.ow (mS m0), hA.ow m0, ei48, ei76⟩)) (fun k78 _ => ?_)))
       obtain ⟨⟨a78_0, m78_0, c78_0⟩, ⟨a78_1, m78_1, c78_1⟩⟩ := k78
       refine d4 m0 fun e78_0 l78_0 => ?_
       subst e78_0
       refine d4 (mS m0) fun e78_1 l78_1 => ?_
       subst e78_1
       refine i7 (r8 12 rfl rfl kr (fun h => by cases h) (Ns [_, _] ty_Binding rfl) (fun _ _ => (r7 kr (s4 (Et (Ez Z3 (Em rfl (Ey rfl ((Y.add rfl rfl om om).yd) (Ei rfl (Eu (l3 (Ent.drop (l3 (Ent.drop (d7 (i9 (congrArg (ow eIs [_]) (show ((z6 (f7, d9) ((d8.zip d6).take g)).1) ++ [d8[g]] = (z6 (f7, d9) ((d8.zip d6).take (g + 1))).1 from by grind [r6, r9, w4, y5, x6, B5, B7, y4, H1, d1, d2, t1, t2])) (g9 (i9 (congrArg (ow eIs [_]) (show ((z6 (f7, d9) ((d8.zip d6).take g)).2) ++ [d6[g]] = (z6 (f7, d9) ((d8.zip d6).take (g + 1))).2 from by grind [r6, r9, w4, y5, x6, B5, B7, y4, H1, d1, d2, t1, t2])) (v6 (v6 (v6 (v6 (v6 (v6 (v6 ?_)))))))))))))))))))))))))
       exact Ea (g + 1, a78_0, (((z6 (f7, d9) ((d8.zip d6).take g)).1) ++ [d8[g]]).length, c78_0, a78_1, (((z6 (f7, d9) ((d8.zip d6).take g)).2) ++ [d6[g]]).length, c78_1) ⟨oz, (show okV (f7, d9) (d8.zip d6) = okV (z6 (f7, d9) ((d8.zip d6).take (g + 1))) ((d8.zip d6).drop (g + 1)) from by grind [r6, r9, w4, y5, x6, B5, B7, y4, H1, d1, d2, t1, t2])⟩
     ·refine Dyp 6 rfl (i8 rfl) (Dsk 7 rfl (Dsk 8 rfl (Dsk 9 rfl (Dsk 10 rfl (Dsk 11 rfl (Dsk 12 rfl (Dsk 13 rfl (Dsk 14 rfl (Dyp 15 rfl (u7 rfl rfl) (r7 kr (Et (n0 rfl (Ew Z7 (Em rfl (Ey rfl ((i0 fo_Fact_1 ty_Is dc rfl).yd) (Ey rfl (f9 ty_Is rfl (Hz (mS (mS (mS (mS m0)))) 1 rfl) rfl) (Em rfl ?_)))))))))))))))))
      obtain ⟨eb83, eo83, ea83, ei83, eh83⟩ := y9.elemI g om
      refine Ey rfl ((t6 us_Is f6 rfl ea83 rfl g rfl om).yd) (Ey rfl (f9 f6 rfl (eh83 _) rfl) (Ey rfl ((Y.neq rfl rfl).yd) (n9 (fun q85 => ?_) (fun q85 => ?_))))
      ·refine Eu (o0 rfl (Ew Z3 (Ey rfl ((E9 (pvs := []) (cs := [_, _]) ty_Binding pl_Binding rfl rfl).yd) (l3 (Est rfl (Ns [_, _] ty_Binding rfl) (fun _ _ => (Ei rfl (Eu (E.ret (B0 (o4 (o4 (B0 (o4 (o2 (A := []) (Own.nil (E := Enc.int) (e := tI) (a := none)) rfl (i9 (congrArg (ow eIs [_]) (show _ = cond (r6 (f7, d9) (j4, d8) (j5, d6)) (r9 (f7, d9) (j4, d8) (j5, d6)).2 [] by grind [r6, r9, w4, y5, x6, B5, B7, y4, H1, d1, d2, t1, t2])) (o2 (A := []) (Own.nil (E := Enc.int) (e := tI) (a := none)) rfl (i9 (congrArg (ow eIs [_]) (show _ = cond (r6 (f7, d9) (j4, d8) (j5, d6)) (r9 (f7, d9) (j4, d8) (j5, d6)).1 [] by grind [r6, r9, w4, y5, x6, B5, B7, y4, H1, d1, d2, t1, t2])) (d7 (d7 ?_))))))))))))))))))))
       exact W8 br rfl rfl rfl (mS (mS m0)) ty_Binding rfl ((none, 0, 0), (none, 0, 0)) trivial (by rw [show (r6 (f7, d9) (j4, d8) (j5, d6)) = (false) from (by grind [r6, r9, w4, y5, x6, B5, B7, y4, H1, d1, d2, t1, t2])]; try rfl) (J := _) (.refl _) (.inl rfl)
      ·refine Eu (n0 rfl (f8 (s4 (Et (Ez Z3 (Em rfl (Ey rfl ((Y.add rfl rfl om om).yd) (Ei rfl (Eu (d7 (i9 (congrArg (ow eIs [_]) (show (z6 (f7, d9) ((d8.zip d6).take g)).1 = (z6 (f7, d9) ((d8.zip d6).take (g + 1))).1 from by grind [r6, r9, w4, y5, x6, B5, B7, y4, H1, d1, d2, t1, t2])) (d7 (i9 (congrArg (ow eIs [_]) (show (z6 (f7, d9) ((d8.zip d6).take g)).2 = (z6 (f7, d9) ((d8.zip d6).take (g + 1))).2 from by grind [r6, r9, w4, y5, x6, B5, B7, y4, H1, d1, d2, t1, t2])) (v6 (v6 (v6 (v6 (v6 (v6 (v6 ?_))))))))))))))))))))
       exact Ea (g + 1, aA0_0, ((z6 (f7, d9) ((d8.zip d6).take g)).1).length, cA0_0, aA0_1, ((z6 (f7, d9) ((d8.zip d6).take g)).2).length, cA0_1) ⟨oz, (show okV (f7, d9) (d8.zip d6) = okV (z6 (f7, d9) ((d8.zip d6).take (g + 1))) ((d8.zip d6).drop (g + 1)) from by grind [r6, r9, w4, y5, x6, B5, B7, y4, H1, d1, d2, t1, t2])⟩
    ·refine Eu (n0 rfl (E.exit (o3 (o3 (x5 (Et (Ew Z3 (Ey rfl (j6 (cs := [_, _]) ty_Binding rfl (Has.pt (mS (mS m0))) rfl) (l3 (Est rfl (Ns [_, _] ty_Binding rfl) (fun _ _ => (Ei rfl (Eu (E.ret (d7 (i9 (congrArg (ow eIs [_]) (show _ = cond (r6 (f7, d9) (j4, d8) (j5, d6)) (r9 (f7, d9) (j4, d8) (j5, d6)).2 [] by grind [r6, r9, w4, y5, x6, B5, B7, y4, H1, d1, d2, t1, t2])) (g9 (i9 (congrArg (ow eIs [_]) (show _ = cond (r6 (f7, d9) (j4, d8) (j5, d6)) (r9 (f7, d9) (j4, d8) (j5, d6)).1 [] by grind [r6, r9, w4, y5, x6, B5, B7, y4, H1, d1, d2, t1, t2])) (d7 (d7 ?_))))))))))))))))))))
     exact W8 br rfl rfl rfl (mS (mS m0)) ty_Binding rfl ((_, _, _), (_, _, _)) trivial (by rw [show (r6 (f7, d9) (j4, d8) (j5, d6)) = (true) from (by grind [r6, r9, w4, y5, x6, B5, B7, y4, H1, d1, d2, t1, t2])]; try rfl) (J := _) (.refl _) (.inl rfl)
theorem a4D (hbl : ∀ b ∈ l, b.1.length ≤ 1000 ∧ b.2.length ≤ 1000) (hat : d8.length ≤ 1000) (hk : Few (j4, d8) f0) (hn : l.length * 1000 ≤ 1000000000000) : Tr Tryz.prog 144 [.slice a_l m_l c_l, .agg #[.int .i64 j4, .slice y7 C8 y6], .slice a_facts m_facts c_facts] (fun w L => Ro w L C1 [.slice a_l m_l c_l] l ∧ I64 j4 ∧ Ro w L eIs [.slice y7 C8 y6] d8 ∧ Ro w L u5 [.slice a_facts m_facts c_facts] f0) [] (κ := Option Addr × Nat × Nat) (fun k => True) (fun k => .slice k.1 k.2.1 k.2.2) (fun k => [ow C1 [.slice k.1 k.2.1 k.2.2] (E5 l (j4, d8) f0)]) := by
 refine Tr.intro Tryz.func144 rfl (n := 42) rfl (by decide +kernel) bl (fr := [(0, .slice a_l m_l c_l), (1, .agg #[.int .i64 j4, .slice y7 C8 y6]), (2, .slice a_facts m_facts c_facts)]) rfl fun w L hR => ?_
 obtain ⟨hl, N5, D8, hfacts⟩ := hR
 obtain ⟨rfl, ll⟩ := hl.slen
 obtain ⟨rfl, U5⟩ := D8.slen
 obtain ⟨rfl, lfacts⟩ := hfacts.slen
 refine Ew Z2 (Est rfl (N.box (cs := [_, _]) rfl dc rfl) (fun b4 _ => (Ei rfl (Ev Z2 (Est rfl (Nb [] [] us_Bindings ty_Binding rfl rfl) (fun b14 _ => (Ent.drop (Ei rfl (Eu (Eq_ (Ew Z3 (Em rfl (Ey rfl ((Y.len us_Bindings rfl).yd) (Em rfl (Eu (E.block (o2 (A := []) (Own.nil (E := P9) (e := tBinding) (a := (some ⟨b14, 0, none⟩))) rfl (i9 (congrArg (ow C1 [_]) (show [] = E5 (l.take 0) (j4, d8) f0 from by first | rfl | (simp; done) | grind [N7, P6, P7, N6, d1, d2, t1, t2])) (E.loop (κ := Nat × Option Addr × Nat × Nat) (fun g => g.1 ≤ l.length ∧ True) (fun g => [(2, .slice a_facts f0.length c_facts), (4, .pointer (some ⟨b4, 0, none⟩)), (7, .slice g.2.1 g.2.2.1 g.2.2.2), (15, .slice a_l l.length c_l), (16, .int .i64 (↑l.length : Int)), (17, .int .i64 (↑g.1 : Int))]) (fun g => [ow C1 [.slice g.2.1 g.2.2.1 g.2.2.2] (E5 (l.take g.1) (j4, d8) f0), pt b4 94 [.int .i64 j4, .slice y7 d8.length y6]]) (fun g => l.length - g.1) (0, (some ⟨b14, 0, none⟩), 0, 0) ⟨Nat.zero_le _, by simp⟩ ⟨rfl, rfl, rfl, rfl, rfl, rfl, trivial⟩ (.refl _) (fun g pg => ?_))))))))))))))))))))
 obtain ⟨g, aA0_0, mA0_0, cA0_0⟩ := g
 try dsimp only at pg
 try dsimp only
 obtain ⟨pk, pa⟩ := pg
 have jn := a1k hk (l := l.take g)
 have jp := List.length_take_le g l
 refine d4 m0 fun eaA0_0 laA0_0 => ?_
 subst eaA0_0
 refine Ew Z1 (Ey rfl ((Y.lss rfl rfl).yd) (n9 (fun q18 => ?_) (fun q18 => ?_)))
 ·obtain ⟨eb19, eo19, ec19, ea19, er19, el19, eh19⟩ := hl.elem g om
  obtain ⟨xa19_0, xc19_0, xa19_1, xc19_1, rfl, xh19_0, xh19_1⟩ := a0G er19
  have := xh19_0.slen.2
  have := xh19_1.slen.2
  refine Eu (Eq_ (o0 rfl (f8 (Et (Eq_ (E.block (Ew Z4 (Ey rfl ((t6 us_Bindings ty_Binding rfl ea19 rfl g rfl om).yd) (Ey rfl (j6 (cs := [_, _]) ty_Binding rfl (eh19 _) rfl) (Est rfl (N.alloc ty_Binding dc) (fun b9 _ => (Est rfl (Ns [_, _] ty_Binding rfl) (fun _ _ => (Ev Z3 (Em rfl (Ey rfl ((Y.len us_Facts rfl).yd) (Em rfl (Eu (E.block (d7 (i9 (congrArg (ow C1 [_]) (show E5 (l.take g) (j4, d8) f0 = E5 (l.take g) (j4, d8) f0 ++ I5 l[g] (j4, d8) (f0.take 0) from by first | rfl | (simp; done) | grind [N7, P6, P7, N6, d1, d2, t1, t2])) (E.loop (κ := Nat × Option Addr × Nat × Nat) (fun h => h.1 ≤ f0.length ∧ True) (fun h => [(2, .slice a_facts f0.length c_facts), (4, .pointer (some ⟨b4, 0, none⟩)), (7, .slice h.2.1 h.2.2.1 h.2.2.2), (9, .pointer (some ⟨b9, 0, none⟩)), (15, .slice a_l l.length c_l), (16, .int .i64 (↑l.length : Int)), (17, .int .i64 (g : Int)), (21, .slice a_facts f0.length c_facts), (22, .int .i64 (↑f0.length : Int)), (23, .int .i64 (↑h.1 : Int))]) (fun h => [ow C1 [.slice h.2.1 h.2.2.1 h.2.2.2] (E5 (l.take g) (j4, d8) f0 ++ I5 l[g] (j4, d8) (f0.take h.1)), pt b9 39 [.slice xa19_0 l[g].1.length xc19_0, .slice xa19_1 l[g].2.length xc19_1], pt b4 94 [.int .i64 j4, .slice y7 d8.length y6]]) (fun h => f0.length - h.1) (0, aA0_0, (E5 (l.take g) (j4, d8) f0).length, cA0_0) ⟨Nat.zero_le _, by simp⟩ ⟨rfl, rfl, rfl, rfl, rfl, rfl, rfl, rfl, rfl, rfl, trivial⟩ (.refl _) (fun h ph => ?_)))))))))))))))))))))))
  obtain ⟨h, aA1_0, mA1_0, cA1_0⟩ := h
  try dsimp only at ph
  try dsimp only
  obtain ⟨pk, pa⟩ := ph
  have jo := a5H hk hn (g := g) om h
  refine d4 m0 fun eaA1_0 laA1_0 => ?_
  subst eaA1_0
  refine Ew Z1 (Ey rfl ((Y.lss rfl rfl).yd) (n9 (fun q24 => ?_) (fun q24 => ?_)))
  ·obtain ⟨eb25, eo25, ec25, ea25, er25, el25, eh25⟩ := hfacts.elem h om
   obtain ⟨xa25_0, xc25_0, rfl, ei25_0, xh25_0⟩ := M4 er25
   have := xh25_0.slen.2
   refine Eu (Eq_ (o0 rfl (f8 (Et (Eq_ (E.block (Ew Z4 (Ey rfl ((t6 us_Facts ty_Fact rfl ea25 rfl h rfl om).yd) (Ey rfl (j6 (cs := [_, _]) ty_Fact rfl (eh25 _) rfl) (Est rfl (N.alloc ty_Fact dc) (fun b11 _ => (Est rfl (Ns [_, _] ty_Fact rfl) (fun _ _ => (Ev Z10 (Ey rfl (j6 (cs := [_, _]) ty_Binding rfl (Has.pt (mS (mS m0))) rfl) (Ey rfl (j6 (cs := [_, _]) ty_Atom rfl (Has.pt (mS (mS (mS m0)))) rfl) (Ey rfl (j6 (cs := [_, _]) ty_Fact rfl (Has.pt m0) rfl) (Est rfl (N.call (a4k ((hbl _ (List.getElem_mem om)).1) ((hbl _ (List.getElem_mem om)).2) (fo)) rfl rfl rfl dc rfl (fun w Lp hA => ⟨hA.ro xh19_0, hA.ro xh19_1, N5, hA.ro D8, ei25_0, hA.ro xh25_0⟩)) (fun k31 _ => ?_)))))))))))))))))))
   obtain ⟨⟨a31_0, m31_0, c31_0⟩, ⟨a31_1, m31_1, c31_1⟩⟩ := k31
   refine d4 m0 fun e31_0 l31_0 => ?_
   subst e31_0
   refine d4 (mS m0) fun e31_1 l31_1 => ?_
   subst e31_1
   refine Em rfl (Ey rfl ((Y.ext rfl rfl).yd) (Ey rfl ((Y.ext rfl rfl).yd) (Est rfl (N.alloc ty_Binding dc) (fun b12 _ => (Est rfl (Ns [_, _] ty_Binding rfl) (fun _ _ => (Ei rfl (t7 (fun q13 => ?_) (fun q13 => ?_)))))))))
   ·refine Ev Z1 (Em rfl (Eu (o0 rfl (Ez Z5 (Em rfl (Ey rfl (j6 (cs := [_, _]) ty_Binding rfl (Has.pt m0) rfl) (Est rfl (Nb [_] [_, _] us_Bindings ty_Binding rfl rfl) (fun b37 _ => (l3 (l3 (g9 (n8 (Est rfl (v7 (E := P9) (ex := (cond (r6 l[g] (j4, d8) f0[h]) (r9 l[g] (j4, d8) f0[h]).1 [], cond (r6 l[g] (j4, d8) f0[h]) (r9 l[g] (j4, d8) f0[h]).2 [])) us_Bindings ty_Binding rfl rfl rfl (X9 (x := (cond (r6 l[g] (j4, d8) f0[h]) (r9 l[g] (j4, d8) f0[h]).1 [], cond (r6 l[g] (j4, d8) f0[h]) (r9 l[g] (j4, d8) f0[h]).2 [])) Own.ow Own.ow) rfl bn bn dc) (fun p38 _ => (Ei rfl (En (s4 (Et (Ez Z2 (Ey rfl ((Y.add rfl rfl om om).yd) (Em rfl (Eu (d7 (Ent.drop (d7 (Ent.drop (i9 (congrArg (ow C1 [_]) (show (E5 (l.take g) (j4, d8) f0 ++ I5 l[g] (j4, d8) (f0.take h)) ++ [(cond (r6 l[g] (j4, d8) f0[h]) (r9 l[g] (j4, d8) f0[h]).1 [], cond (r6 l[g] (j4, d8) f0[h]) (r9 l[g] (j4, d8) f0[h]).2 [])] = E5 (l.take g) (j4, d8) f0 ++ I5 l[g] (j4, d8) (f0.take (h + 1)) from by grind [N7, P6, P7, N6, d1, d2, t1, t2])) (g9 (g9 (g9 ?_))))))))))))))))))))))))))))))
    exact Ea (h + 1, p38.1, ((E5 (l.take g) (j4, d8) f0 ++ I5 l[g] (j4, d8) (f0.take h)).length + 1), p38.2) ⟨oz, trivial⟩
   ·refine Ev Z1 (Em rfl (Eu (n0 rfl (f8 (s4 (Et (Ez Z2 (Ey rfl ((Y.add rfl rfl om om).yd) (Em rfl (Eu (Ent.drop (Ent.drop (Ent.drop (Ent.drop (i9 (congrArg (ow C1 [_]) (show E5 (l.take g) (j4, d8) f0 ++ I5 l[g] (j4, d8) (f0.take h) = E5 (l.take g) (j4, d8) f0 ++ I5 l[g] (j4, d8) (f0.take (h + 1)) from by grind [N7, P6, P7, N6, d1, d2, t1, t2])) (g9 (g9 (g9 ?_))))))))))))))))))
    exact Ea (h + 1, aA1_0, (E5 (l.take g) (j4, d8) f0 ++ I5 l[g] (j4, d8) (f0.take h)).length, cA1_0) ⟨oz, trivial⟩
  ·refine Eu (Eq_ (n0 rfl (E.exit (o3 (o3 (x5 (s4 (Et (Ez Z2 (Ey rfl ((Y.add rfl rfl om om).yd) (Em rfl (Eu (d7 (Ent.drop (i9 (congrArg (ow C1 [_]) (show E5 (l.take g) (j4, d8) f0 ++ I5 l[g] (j4, d8) (f0.take h) = E5 (l.take (g + 1)) (j4, d8) f0 from by grind [N7, P6, P7, N6, d1, d2, t1, t2])) (d7 (d7 ?_)))))))))))))))))
   exact Ea (g + 1, aA1_0, (E5 (l.take g) (j4, d8) f0 ++ I5 l[g] (j4, d8) (f0.take h)).length, cA1_0) ⟨oz, trivial⟩
 ·refine Eu (Eq_ (n0 rfl (E.exit (o3 (o3 (x5 (Et (Ew Z2 (Em rfl (Ei rfl (Eu (E.ret (i9 (congrArg (ow C1 [_]) (show _ = E5 l (j4, d8) f0 by grind [N7, P6, P7, N6, d1, d2, t1, t2])) ?_)))))))))))))
  exact Fg rfl rfl (_, _, _) rfl rfl
theorem a4C (hbl : ∀ b ∈ l, b.1.length ≤ 1000 ∧ b.2.length ≤ 1000) (hat : d8.length ≤ 1000) (hk : Few (j4, d8) f0) (hn : l.length * 1000 ≤ 1000000000000) : Tr Tryz.prog 101 [.slice a_l m_l c_l, .agg #[.int .i64 j4, .slice y7 C8 y6], .slice a_facts m_facts c_facts] (fun w L => Ro w L C1 [.slice a_l m_l c_l] l ∧ I64 j4 ∧ Ro w L eIs [.slice y7 C8 y6] d8 ∧ Ro w L u5 [.slice a_facts m_facts c_facts] f0) [] (κ := Option Addr × Nat × Nat) (fun k => True) (fun k => .slice k.1 k.2.1 k.2.2) (fun k => [ow C1 [.slice k.1 k.2.1 k.2.2] (E5 l (j4, d8) f0)]) := by
 refine Tr.intro Tryz.func101 rfl (n := 44) rfl (by decide +kernel) bl (fr := [(0, .slice a_l m_l c_l), (1, .agg #[.int .i64 j4, .slice y7 C8 y6]), (2, .slice a_facts m_facts c_facts)]) rfl fun w L hR => ?_
 obtain ⟨hl, N5, D8, hfacts⟩ := hR
 obtain ⟨rfl, ll⟩ := hl.slen
 obtain ⟨rfl, U5⟩ := D8.slen
 obtain ⟨rfl, lfacts⟩ := hfacts.slen
 refine Ew Z2 (Est rfl (N.box (cs := [_, _]) rfl dc rfl) (fun b4 _ => (Ei rfl (Ev Z2 (Est rfl (Nb [] [] us_Bindings ty_Binding rfl rfl) (fun b12 _ => (Ent.drop (Ei rfl (Eu (Eq_ (Ew Z1 (Ei rfl (Eu (E.block (o2 (A := []) (Own.nil (E := P9) (e := tBinding) (a := (some ⟨b12, 0, none⟩))) rfl (i9 (congrArg (ow C1 [_]) (show [] = E5 (l.take 0) (j4, d8) f0 from by first | rfl | (simp; done) | grind [N7, P6, P7, N6, d1, d2, t1, t2])) (E.loop (κ := Nat × Option Addr × Nat × Nat) (fun g => g.1 ≤ l.length ∧ True) (fun g => [(0, .slice a_l l.length c_l), (2, .slice a_facts f0.length c_facts), (4, .pointer (some ⟨b4, 0, none⟩)), (7, .slice g.2.1 g.2.2.1 g.2.2.2), (8, .int .i64 (↑g.1 : Int))]) (fun g => [ow C1 [.slice g.2.1 g.2.2.1 g.2.2.2] (E5 (l.take g.1) (j4, d8) f0), pt b4 94 [.int .i64 j4, .slice y7 d8.length y6]]) (fun g => l.length - g.1) (0, (some ⟨b12, 0, none⟩), 0, 0) ⟨Nat.zero_le _, by simp⟩ ⟨rfl, rfl, rfl, rfl, rfl, trivial⟩ (.refl _) (fun g pg => ?_))))))))))))))))))
 obtain ⟨g, aA0_0, mA0_0, cA0_0⟩ := g
 try dsimp only at pg
 try dsimp only
 obtain ⟨pk, pa⟩ := pg
 have jn := a1k hk (l := l.take g)
 have jp := List.length_take_le g l
 refine d4 m0 fun eaA0_0 laA0_0 => ?_
 subst eaA0_0
 refine Eq_ (Ew Z4 (Em rfl (Em rfl (Ey rfl ((Y.len us_Bindings rfl).yd) (Ey rfl ((Y.lss rfl rfl).yd) (n9 (fun q16 => ?_) (fun q16 => ?_)))))))
 ·refine Eu (o0 rfl (f8 (Et (Eq_ (E.block (Ew Z1 (Ei rfl (Eu (E.block (i9 (congrArg (ow C1 [_]) (show E5 (l.take g) (j4, d8) f0 = E5 (l.take g) (j4, d8) f0 ++ I5 l[g] (j4, d8) (f0.take 0) from by first | rfl | (simp; done) | grind [N7, P6, P7, N6, d1, d2, t1, t2])) (E.loop (κ := Nat × Option Addr × Nat × Nat) (fun h => h.1 ≤ f0.length ∧ True) (fun h => [(0, .slice a_l l.length c_l), (2, .slice a_facts f0.length c_facts), (4, .pointer (some ⟨b4, 0, none⟩)), (7, .slice h.2.1 h.2.2.1 h.2.2.2), (8, .int .i64 (g : Int)), (9, .int .i64 (↑h.1 : Int))]) (fun h => [ow C1 [.slice h.2.1 h.2.2.1 h.2.2.2] (E5 (l.take g) (j4, d8) f0 ++ I5 l[g] (j4, d8) (f0.take h.1)), pt b4 94 [.int .i64 j4, .slice y7 d8.length y6]]) (fun h => f0.length - h.1) (0, aA0_0, (E5 (l.take g) (j4, d8) f0).length, cA0_0) ⟨Nat.zero_le _, by simp⟩ ⟨rfl, rfl, rfl, rfl, rfl, rfl, trivial⟩ (.refl _) (fun h ph => ?_))))))))))))
  obtain ⟨h, aA1_0, mA1_0, cA1_0⟩ := h
  try dsimp only at ph
  try dsimp only
  obtain ⟨pk, pa⟩ := ph
  have jo := a5H hk hn (g := g) om h
  refine d4 m0 fun eaA1_0 laA1_0 => ?_
  subst eaA1_0
  refine Eq_ (Ew Z4 (Em rfl (Em rfl (Ey rfl ((Y.len us_Facts rfl).yd) (Ey rfl ((Y.lss rfl rfl).yd) (n9 (fun q22 => ?_) (fun q22 => ?_)))))))
  ·refine Eu (o0 rfl (f8 (Et (Eq_ (E.block (Eq_ (L5 (κ := Nat × Option Addr × Nat × Option Addr × Nat) (fun _ => True) (fun kM => [(0, .slice a_l l.length c_l), (2, .slice a_facts f0.length c_facts), (4, .pointer (some ⟨b4, 0, none⟩)), (7, .slice aA1_0 (E5 (l.take g) (j4, d8) f0 ++ I5 l[g] (j4, d8) (f0.take h)).length cA1_0), (8, .int .i64 (g : Int)), (9, .int .i64 (h : Int)), (10, .pointer (some ⟨kM.1, 0, none⟩)), (11, .bool (r6 l[g] (j4, d8) f0[h]))]) (fun kM => [pt kM.1 39 [.slice kM.2.1 (cond (r6 l[g] (j4, d8) f0[h]) (r9 l[g] (j4, d8) f0[h]).1 []).length kM.2.2.1, .slice kM.2.2.2.1 (cond (r6 l[g] (j4, d8) f0[h]) (r9 l[g] (j4, d8) f0[h]).2 []).length kM.2.2.2.2], ow eIs [.slice kM.2.1 (cond (r6 l[g] (j4, d8) f0[h]) (r9 l[g] (j4, d8) f0[h]).1 []).length kM.2.2.1] (cond (r6 l[g] (j4, d8) f0[h]) (r9 l[g] (j4, d8) f0[h]).1 []), ow eIs [.slice kM.2.2.2.1 (cond (r6 l[g] (j4, d8) f0[h]) (r9 l[g] (j4, d8) f0[h]).2 []).length kM.2.2.2.2] (cond (r6 l[g] (j4, d8) f0[h]) (r9 l[g] (j4, d8) f0[h]).2 []), ow C1 [.slice aA1_0 (E5 (l.take g) (j4, d8) f0 ++ I5 l[g] (j4, d8) (f0.take h)).length cA1_0] (E5 (l.take g) (j4, d8) f0 ++ I5 l[g] (j4, d8) (f0.take h)), pt b4 94 [.int .i64 j4, .slice y7 d8.length y6]]) ?_ (fun kM _ => ?_))))))))
   ·refine D.region (fun j => !(Nat.beq j 14)) mixed (Dyp 0 rfl (i8 rfl) (Dyp 1 rfl (i8 rfl) ?_))
    obtain ⟨eb28, eo28, ec28, ea28, er28, el28, eh28⟩ := hl.elem g om
    obtain ⟨xa28_0, xc28_0, xa28_1, xc28_1, rfl, xh28_0, xh28_1⟩ := a0G er28
    have := xh28_0.slen.2
    have := xh28_1.slen.2
    refine Dyp 2 rfl (t6 us_Bindings ty_Binding rfl ea28 rfl g rfl om) (Dy 3 rfl (j6 (cs := [_, _]) ty_Binding rfl (eh28 _) rfl) (Dy 4 rfl (j6 (cs := [_, _]) ty_Atom rfl (Has.pt (mS m0)) rfl) (Dyp 5 rfl (i8 rfl) (Dyp 6 rfl (i8 rfl) ?_))))
    obtain ⟨eb33, eo33, ec33, ea33, er33, el33, eh33⟩ := hfacts.elem h om
    obtain ⟨xa33_0, xc33_0, rfl, ei33_0, xh33_0⟩ := M4 er33
    have := xh33_0.slen.2
    refine Dyp 7 rfl (t6 us_Facts ty_Fact rfl ea33 rfl h rfl om) (Dy 8 rfl (j6 (cs := [_, _]) ty_Fact rfl (eh33 _) rfl) (X8 (i := 9) (j := 13) kr ?_ ?_))
    ·refine Q4 9 rfl rfl (fun _ => rfl) (N.call (a1l ((hbl _ (List.getElem_mem om)).1) ((hbl _ (List.getElem_mem om)).2) (fo)) rfl rfl rfl dc rfl (fun w Lp hA => ⟨hA.ro xh28_0, hA.ro xh28_1, N5, hA.ro D8, ei33_0, hA.ro xh33_0⟩)) (fun k35 _ => ?_)
     obtain ⟨⟨a35_0, m35_0, c35_0⟩, ⟨a35_1, m35_1, c35_1⟩⟩ := k35
     refine d4 m0 fun e35_0 l35_0 => ?_
     subst e35_0
     refine d4 (mS m0) fun e35_1 l35_1 => ?_
     subst e35_1
     refine Dyp 10 rfl (i8 rfl) (Dyp 11 rfl (Y.ext rfl rfl) (Dyp 12 rfl (Y.ext rfl rfl) (r8 13 rfl rfl kr (fun _ => rfl) (N.alloc ty_Binding dc) (fun b10 _ => (r8 14 rfl rfl kr (fun h => by cases h) (Ns [_, _] ty_Binding rfl) (fun _ _ => (Dyp 15 rfl (C0 rfl) (r7 kr (i7 (i7 (i7 (i7 (i7 ?_)))))))))))))
     exact E3 (b10, a35_0, c35_0, a35_1, c35_1) trivial ⟨rfl, rfl, rfl, rfl, rfl, rfl, rfl, rfl, trivial⟩ (.refl _)
    ·refine Q4 13 rfl rfl (fun _ => rfl) (N.alloc ty_Binding dc) (fun b10 _ => (r8 9 rfl rfl kr (fun _ => rfl) (N.call (a1l ((hbl _ (List.getElem_mem om)).1) ((hbl _ (List.getElem_mem om)).2) (fo)) rfl rfl rfl dc rfl (fun w Lp hA => ⟨hA.ro xh28_0, hA.ro xh28_1, N5, hA.ro D8, ei33_0, hA.ro xh33_0⟩)) (fun k35 _ => ?_)))
     obtain ⟨⟨a35_0, m35_0, c35_0⟩, ⟨a35_1, m35_1, c35_1⟩⟩ := k35
     refine d4 m0 fun e35_0 l35_0 => ?_
     subst e35_0
     refine d4 (mS m0) fun e35_1 l35_1 => ?_
     subst e35_1
     refine Dyp 10 rfl (i8 rfl) (Dyp 11 rfl (Y.ext rfl rfl) (Dyp 12 rfl (Y.ext rfl rfl) (g9 (r8 14 rfl rfl kr (fun h => by cases h) (Ns [_, _] ty_Binding rfl) (fun _ _ => (Dyp 15 rfl (C0 rfl) (r7 kr (i7 (i7 (i7 (i7 (i7 ?_))))))))))))
     exact E3 (b10, a35_0, c35_0, a35_1, c35_1) trivial ⟨rfl, rfl, rfl, rfl, rfl, rfl, rfl, rfl, trivial⟩ (.refl _)
   ·obtain ⟨b10, a35_0, c35_0, a35_1, c35_1⟩ := kM
    try dsimp only
    refine Et (Ew Z1 (Em rfl (t7 (fun q38 => ?_) (fun q38 => ?_))))
    ·refine Eu (o0 rfl (Ez Z5 (Em rfl (Ey rfl (j6 (cs := [_, _]) ty_Binding rfl (Has.pt m0) rfl) (Est rfl (Nb [_] [_, _] us_Bindings ty_Binding rfl rfl) (fun b41 _ => (l3 (l3 (g9 (i7 (Est rfl (v7 (E := P9) (ex := (cond (r6 l[g] (j4, d8) f0[h]) (r9 l[g] (j4, d8) f0[h]).1 [], cond (r6 l[g] (j4, d8) f0[h]) (r9 l[g] (j4, d8) f0[h]).2 [])) us_Bindings ty_Binding rfl rfl rfl (X9 (x := (cond (r6 l[g] (j4, d8) f0[h]) (r9 l[g] (j4, d8) f0[h]).1 [], cond (r6 l[g] (j4, d8) f0[h]) (r9 l[g] (j4, d8) f0[h]).2 [])) Own.ow Own.ow) rfl bn bn dc) (fun p42 _ => (Ei rfl (En (s4 (Et (Ez Z3 (Em rfl (Ey rfl ((Y.add rfl rfl om om).yd) (Ei rfl (Eu (d7 (Ent.drop (i9 (congrArg (ow C1 [_]) (show (E5 (l.take g) (j4, d8) f0 ++ I5 l[g] (j4, d8) (f0.take h)) ++ [(cond (r6 l[g] (j4, d8) f0[h]) (r9 l[g] (j4, d8) f0[h]).1 [], cond (r6 l[g] (j4, d8) f0[h]) (r9 l[g] (j4, d8) f0[h]).2 [])] = E5 (l.take g) (j4, d8) f0 ++ I5 l[g] (j4, d8) (f0.take (h + 1)) from by grind [N7, P6, P7, N6, d1, d2, t1, t2])) (d7 (d7 ?_))))))))))))))))))))))))))
     exact Ea (h + 1, p42.1, ((E5 (l.take g) (j4, d8) f0 ++ I5 l[g] (j4, d8) (f0.take h)).length + 1), p42.2) ⟨oz, trivial⟩
    ·refine Eu (n0 rfl (f8 (s4 (Et (Ez Z3 (Em rfl (Ey rfl ((Y.add rfl rfl om om).yd) (Ei rfl (Eu (Ent.drop (Ent.drop (Ent.drop (i9 (congrArg (ow C1 [_]) (show E5 (l.take g) (j4, d8) f0 ++ I5 l[g] (j4, d8) (f0.take h) = E5 (l.take g) (j4, d8) f0 ++ I5 l[g] (j4, d8) (f0.take (h + 1)) from by grind [N7, P6, P7, N6, d1, d2, t1, t2])) (d7 (d7 ?_)))))))))))))))
     exact Ea (h + 1, aA1_0, (E5 (l.take g) (j4, d8) f0 ++ I5 l[g] (j4, d8) (f0.take h)).length, cA1_0) ⟨oz, trivial⟩
  ·refine Eu (n0 rfl (E.exit (o3 (o3 (x5 (s4 (Et (Ez Z3 (Em rfl (Ey rfl ((Y.add rfl rfl om om).yd) (Ei rfl (Eu (i9 (congrArg (ow C1 [_]) (show E5 (l.take g) (j4, d8) f0 ++ I5 l[g] (j4, d8) (f0.take h) = E5 (l.take (g + 1)) (j4, d8) f0 from by grind [N7, P6, P7, N6, d1, d2, t1, t2])) (d7 (d7 ?_)))))))))))))))
   exact Ea (g + 1, aA1_0, (E5 (l.take g) (j4, d8) f0 ++ I5 l[g] (j4, d8) (f0.take h)).length, cA1_0) ⟨oz, trivial⟩
 ·refine Eu (n0 rfl (E.exit (o3 (o3 (x5 (Et (Ew Z2 (Em rfl (Ei rfl (Eu (E.ret (i9 (congrArg (ow C1 [_]) (show _ = E5 l (j4, d8) f0 by grind [N7, P6, P7, N6, d1, d2, t1, t2])) ?_))))))))))))
  exact Fg rfl rfl (_, _, _) rfl rfl
theorem a3M (hqa : a6.length ≤ 4) (hqt : ∀ a ∈ a6, a.2.length ≤ 3) (hf : ∀ a ∈ a6, Few a f0) : Tr Tryz.prog 85 [.agg #[.slice l0 r5 k6, .slice j3 o1 j0], .slice a_facts m_facts c_facts] (fun w L => Ro w L eIs [.slice l0 r5 k6] f5 ∧ Ro w L j8 [.slice j3 o1 j0] a6 ∧ Ro w L u5 [.slice a_facts m_facts c_facts] f0) [] (κ := Option Addr × Nat × Nat) (fun k => True) (fun k => .slice k.1 k.2.1 k.2.2) (fun k => [ow C1 [.slice k.1 k.2.1 k.2.2] (j7 a6 f0)]) := by
 refine Tr.intro Tryz.func85 rfl (n := 23) rfl (by decide +kernel) bl (fr := [(0, .agg #[.slice l0 r5 k6, .slice j3 o1 j0]), (1, .slice a_facts m_facts c_facts)]) rfl fun w L hR => ?_
 obtain ⟨o6, l4, hfacts⟩ := hR
 obtain ⟨rfl, F2⟩ := o6.slen
 obtain ⟨rfl, E0⟩ := l4.slen
 obtain ⟨rfl, lfacts⟩ := hfacts.slen
 refine Ew Z2 (Est rfl (N.box (cs := [_, _]) rfl dc rfl) (fun b2 _ => (Ei rfl (Ev Z3 (Ey rfl ((E9 (pvs := []) (cs := [_, _]) ty_Binding pl_Binding rfl rfl).yd) (Est rfl (Nb [_] [_, _] us_Bindings ty_Binding rfl rfl) (fun b9 _ => (o2 (A := _ :: _) (W7 (E := P9) (e := tBinding) (X9 (x := ([], [])) Own.nil Own.nil)) rfl (Ei rfl (Eu (Eq_ (Ew Z4 (Ey rfl ((i0 fo_Query_1 ty_Atoms dc rfl).yd) (Ey rfl (f9 ty_Atoms rfl (Hz (mS m0) 1 rfl) rfl) (Ey rfl ((Y.len us_Atoms rfl).yd) (Em rfl (Eu (E.block (i9 (congrArg (ow C1 [_]) (show [([], [])] = j7 (a6.take 0) f0 from by first | rfl | (simp; done) | grind [U2, R7, d1, d2, t1, t2])) (E.loop (κ := Nat × Option Addr × Nat × Nat) (fun g => g.1 ≤ a6.length ∧ True) (fun g => [(1, .slice a_facts f0.length c_facts), (5, .slice g.2.1 g.2.2.1 g.2.2.2), (11, .slice j3 a6.length j0), (12, .int .i64 (↑a6.length : Int)), (13, .int .i64 (↑g.1 : Int))]) (fun g => [ow C1 [.slice g.2.1 g.2.2.1 g.2.2.2] (j7 (a6.take g.1) f0), pt b2 27 [.slice l0 f5.length k6, .slice j3 a6.length j0]]) (fun g => a6.length - g.1) (0, (some ⟨b9, 0, none⟩), 1, 1) ⟨Nat.zero_le _, by simp⟩ ⟨rfl, rfl, rfl, rfl, rfl, trivial⟩ (.refl _) (fun g pg => ?_)))))))))))))))))))))
 obtain ⟨g, aA0_0, mA0_0, cA0_0⟩ := g
 try dsimp only at pg
 try dsimp only
 obtain ⟨pk, pa⟩ := pg
 refine d4 m0 fun eaA0_0 laA0_0 => ?_
 subst eaA0_0
 refine Ew Z1 (Ey rfl ((Y.lss rfl rfl).yd) (n9 (fun q14 => ?_) (fun q14 => ?_)))
 ·obtain ⟨eb15, eo15, ec15, ea15, er15, el15, eh15⟩ := l4.elem g om
  obtain ⟨xa15_0, xc15_0, rfl, ei15_0, xh15_0⟩ := J0 er15
  have := xh15_0.slen.2
  refine Eu (Eq_ (o0 rfl (f8 (Et (Eq_ (E.block (Ew Z4 (Ey rfl ((t6 us_Atoms ty_Atom rfl ea15 rfl g rfl om).yd) (Ey rfl (j6 (cs := [_, _]) ty_Atom rfl (eh15 _) rfl) (Est rfl (N.alloc ty_Atom dc) (fun b7 _ => (Est rfl (Ns [_, _] ty_Atom rfl) (fun _ _ => (Eu (Ez Z5 (Em rfl (Ey rfl (j6 (cs := [_, _]) ty_Atom rfl (Has.pt m0) rfl) (Em rfl (Est rfl (N.call (a4D (fun b hb => by have := (a1C (f0 := f0) hf hqa hqt (g := g) om).2 b hb; omega) (Nat.le_trans (hqt _ (List.getElem_mem om)) dc) (hf _ (List.getElem_mem om)) (a1C (f0 := f0) hf hqa hqt (g := g) om).1) rfl rfl rfl dc rfl (fun w Lp hA => ⟨hA.ow (mS m0), ei15_0, hA.ro xh15_0, hA.ro hfacts⟩)) (fun k20 _ => ?_))))))))))))))))))))
  obtain ⟨a20, m20, c20⟩ := k20
  refine d4 m0 fun e20 l20 => ?_
  subst e20
  refine Ei rfl (En (s4 (Et (Ez Z2 (Ey rfl ((Y.add rfl rfl om om).yd) (Em rfl (Eu (d7 (Ent.drop (d7 (Ent.drop (i9 (congrArg (ow C1 [_]) (show E5 (j7 (a6.take g) f0) a6[g] f0 = j7 (a6.take (g + 1)) f0 from by grind [U2, R7, d1, d2, t1, t2])) (d7 (d7 ?_))))))))))))))
  exact Ea (g + 1, a20, (E5 (j7 (a6.take g) f0) a6[g] f0).length, c20) ⟨oz, trivial⟩
 ·refine Eu (Eq_ (n0 rfl (E.exit (o3 (o3 (x5 (Et (Ew Z2 (Em rfl (Ei rfl (Eu (E.ret (i9 (congrArg (ow C1 [_]) (show _ = j7 a6 f0 by grind [U2, R7, d1, d2, t1, t2])) ?_)))))))))))))
  exact Fg rfl rfl (_, _, _) rfl rfl
theorem X6 (hqa : a6.length ≤ 4) (hqt : ∀ a ∈ a6, a.2.length ≤ 3) (hf : ∀ a ∈ a6, Few a f0) : Tr Tryz.prog 58 [.agg #[.slice l0 r5 k6, .slice j3 o1 j0], .slice a_facts m_facts c_facts] (fun w L => Ro w L eIs [.slice l0 r5 k6] f5 ∧ Ro w L j8 [.slice j3 o1 j0] a6 ∧ Ro w L u5 [.slice a_facts m_facts c_facts] f0) [] (κ := Option Addr × Nat × Nat) (fun k => True) (fun k => .slice k.1 k.2.1 k.2.2) (fun k => [ow C1 [.slice k.1 k.2.1 k.2.2] (j7 a6 f0)]) := by
 refine Tr.intro Tryz.func58 rfl (n := 25) rfl (by decide +kernel) bl (fr := [(0, .agg #[.slice l0 r5 k6, .slice j3 o1 j0]), (1, .slice a_facts m_facts c_facts)]) rfl fun w L hR => ?_
 obtain ⟨o6, l4, hfacts⟩ := hR
 obtain ⟨rfl, F2⟩ := o6.slen
 obtain ⟨rfl, E0⟩ := l4.slen
 obtain ⟨rfl, lfacts⟩ := hfacts.slen
 refine Ew Z2 (Est rfl (N.box (cs := [_, _]) rfl dc rfl) (fun b2 _ => (Ei rfl (Ev Z3 (Ey rfl ((E9 (pvs := []) (cs := [_, _]) ty_Binding pl_Binding rfl rfl).yd) (Est rfl (Nb [_] [_, _] us_Bindings ty_Binding rfl rfl) (fun b8 _ => (o2 (A := _ :: _) (W7 (E := P9) (e := tBinding) (X9 (x := ([], [])) Own.nil Own.nil)) rfl (Ei rfl (Eu (Eq_ (Ew Z1 (Ei rfl (Eu (E.block (i9 (congrArg (ow C1 [_]) (show [([], [])] = j7 (a6.take 0) f0 from by first | rfl | (simp; done) | grind [U2, R7, d1, d2, t1, t2])) (E.loop (κ := Nat × Option Addr × Nat × Nat) (fun g => g.1 ≤ a6.length ∧ True) (fun g => [(1, .slice a_facts f0.length c_facts), (2, .pointer (some ⟨b2, 0, none⟩)), (5, .slice g.2.1 g.2.2.1 g.2.2.2), (6, .int .i64 (↑g.1 : Int))]) (fun g => [ow C1 [.slice g.2.1 g.2.2.1 g.2.2.2] (j7 (a6.take g.1) f0), pt b2 27 [.slice l0 f5.length k6, .slice j3 a6.length j0]]) (fun g => a6.length - g.1) (0, (some ⟨b8, 0, none⟩), 1, 1) ⟨Nat.zero_le _, by simp⟩ ⟨rfl, rfl, rfl, rfl, trivial⟩ (.refl _) (fun g pg => ?_))))))))))))))))))
 obtain ⟨g, aA0_0, mA0_0, cA0_0⟩ := g
 try dsimp only at pg
 try dsimp only
 obtain ⟨pk, pa⟩ := pg
 refine d4 m0 fun eaA0_0 laA0_0 => ?_
 subst eaA0_0
 refine Eq_ (Ew Z5 (Em rfl (Ey rfl ((i0 fo_Query_1 ty_Atoms dc rfl).yd) (Ey rfl (f9 ty_Atoms rfl (Hz (mS m0) 1 rfl) rfl) (Ey rfl ((Y.len us_Atoms rfl).yd) (Ey rfl ((Y.lss rfl rfl).yd) (n9 (fun q13 => ?_) (fun q13 => ?_))))))))
 ·refine Eu (o0 rfl (f8 (Et (Eq_ (E.block (Ez Z9 (Em rfl (Ey rfl ((i0 fo_Query_1 ty_Atoms dc rfl).yd) (Ey rfl (f9 ty_Atoms rfl (Hz (mS m0) 1 rfl) rfl) (Em rfl ?_))))))))))
  obtain ⟨eb20, eo20, ec20, ea20, er20, el20, eh20⟩ := l4.elem g om
  obtain ⟨xa20_0, xc20_0, rfl, ei20_0, xh20_0⟩ := J0 er20
  have := xh20_0.slen.2
  refine Ey rfl ((t6 us_Atoms ty_Atom rfl ea20 rfl g rfl om).yd) (Ey rfl (j6 (cs := [_, _]) ty_Atom rfl (eh20 _) rfl) (Em rfl (Est rfl (N.call (a4C (fun b hb => by have := (a1C (f0 := f0) hf hqa hqt (g := g) om).2 b hb; omega) (Nat.le_trans (hqt _ (List.getElem_mem om)) dc) (hf _ (List.getElem_mem om)) (a1C (f0 := f0) hf hqa hqt (g := g) om).1) rfl rfl rfl dc rfl (fun w Lp hA => ⟨hA.ow m0, ei20_0, hA.ro xh20_0, hA.ro hfacts⟩)) (fun k23 _ => ?_))))
  obtain ⟨a23, m23, c23⟩ := k23
  refine d4 m0 fun e23 l23 => ?_
  subst e23
  refine Ei rfl (En (s4 (Et (Ez Z3 (Em rfl (Ey rfl ((Y.add rfl rfl om om).yd) (Ei rfl (Eu (d7 (Ent.drop (i9 (congrArg (ow C1 [_]) (show E5 (j7 (a6.take g) f0) a6[g] f0 = j7 (a6.take (g + 1)) f0 from by grind [U2, R7, d1, d2, t1, t2])) (d7 (d7 ?_)))))))))))))
  exact Ea (g + 1, a23, (E5 (j7 (a6.take g) f0) a6[g] f0).length, c23) ⟨oz, trivial⟩
 ·refine Eu (n0 rfl (E.exit (o3 (o3 (x5 (Et (Ew Z2 (Em rfl (Ei rfl (Eu (E.ret (i9 (congrArg (ow C1 [_]) (show _ = j7 a6 f0 by grind [U2, R7, d1, d2, t1, t2])) ?_))))))))))))
  exact Fg rfl rfl (_, _, _) rfl rfl
end Go.Proofs.YtbedienpleiamaaGreat
