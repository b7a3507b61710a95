import Derived.Test.YtfnbilpemdgkkaaGreatDoorT18
namespace Go.Proofs.YtfnbilpemdgkkaaGreatDoor
open Go.RowKit
set_option linter.all false
set_option maxHeartbeats 2000000
attribute [local irreducible] Nop Yd Yp Ent Has Tr FnP FnP2 Src J8 P6 S7 U6 E7
variable {f7 f8 : Int} {c7 f4 : List (Int × List Int)} {l : List (List Int × List Int)} {d8 d4 d6 a7 i7 : List Int} {y5 u7 r7 n0 C7 y9 C4 B0 m_l c_l m_facts c_facts s9 o2 r6 l7 : Nat} {u9 n8 z6 z8 a_l a_facts o3 m7 : Option Addr}
theorem a1p (hb1 : d8.length ≤ 1000000) (hb2 : d4.length ≤ 1000000) : Tr Tryz.prog 74 [.agg #[.slice u9 y5 u7, .slice n8 r7 n0]] (fun w L => Ro w L eIs [.slice u9 y5 u7] d8 ∧ Ro w L eIs [.slice n8 r7 n0] d4) [] (κ := (Option Addr × Nat × Nat) × (Option Addr × Nat × Nat)) (fun k => True) (fun k => .agg #[.slice k.1.1 k.1.2.1 k.1.2.2, .slice k.2.1 k.2.2.1 k.2.2.2]) (fun k => [ow eIs [.slice k.1.1 k.1.2.1 k.1.2.2] d8, ow eIs [.slice k.2.1 k.2.2.1 k.2.2.2] d4]) := by
 refine Tr.intro Tryz.func74 rfl (n := 10) rfl (by decide +kernel) bl (fr := [(0, .agg #[.slice u9 y5 u7, .slice n8 r7 n0])]) rfl fun w L hR => ?_
 obtain ⟨y4, t6⟩ := hR
 obtain ⟨rfl, N9⟩ := y4.slen
 obtain ⟨rfl, H0⟩ := t6.slen
 refine Ew Z2 (Est rfl (N.box (cs := [_, _]) rfl dc rfl) (fun b1 _ => (Est rfl (N.alloc ty_Binding dc) (fun b2 _ => (Eu (Eq_ (D.region (fun j => !(Nat.beq j 7)) mixed (Dyp 0 rfl (f9 fo_Binding_0 ty_Is dc rfl) (Dy 1 rfl (f6 ty_Is rfl (Hz (mS m0) 0 rfl) rfl) (Dyp 3 rfl (f9 fo_Binding_1 ty_Is dc rfl) (Dy 4 rfl (f6 ty_Is rfl (Hz (mS m0) 1 rfl) rfl) (t7 2 rfl rfl kr (fun _ => rfl) (N.call (V1 fc) rfl rfl rfl dc rfl (fun w Lp hA => hA.ro y4)) (fun k5 _ => ?_)))))))))))))
 obtain ⟨a5, m5, c5⟩ := k5
 refine f0 m0 fun e5 l5 => ?_
 subst e5
 refine t7 5 rfl rfl kr (fun _ => rfl) (N.call (V1 fc) rfl rfl rfl dc rfl (fun w Lp hA => hA.ro t6)) (fun k8 _ => ?_)
 obtain ⟨a8, m8, c8⟩ := k8
 refine f0 m0 fun e8 l8 => ?_
 subst e8
 refine Dyp 6 rfl (E3 (pvs := [_, _]) (cs := [_, _]) ty_Binding pl_Binding rfl rfl) (g9 (t7 7 rfl rfl kr (fun h => by cases h) (Ns [_, _] ty_Binding rfl) (fun _ _ => (o0 kr (Et (E.ret (d7 (g9 (d7 (d7 ?_))))))))))
 exact J7 br rfl rfl (mS (mS m0)) ty_Binding rfl ((_, _, _), (_, _, _)) trivial rfl (J := _) (.refl _) (.inl rfl)
theorem a4n (hb1 : d8.length ≤ 1000000) (hb2 : d4.length ≤ 1000000) : Tr Tryz.prog 77 [.agg #[.slice u9 y5 u7, .slice n8 r7 n0]] (fun w L => Ro w L eIs [.slice u9 y5 u7] d8 ∧ Ro w L eIs [.slice n8 r7 n0] d4) [] (κ := (Option Addr × Nat × Nat) × (Option Addr × Nat × Nat)) (fun k => True) (fun k => .agg #[.slice k.1.1 k.1.2.1 k.1.2.2, .slice k.2.1 k.2.2.1 k.2.2.2]) (fun k => [ow eIs [.slice k.1.1 k.1.2.1 k.1.2.2] d8, ow eIs [.slice k.2.1 k.2.2.1 k.2.2.2] d4]) := by
 refine Tr.intro Tryz.func77 rfl (n := 12) rfl (by decide +kernel) bl (fr := [(0, .agg #[.slice u9 y5 u7, .slice n8 r7 n0])]) rfl fun w L hR => ?_
 obtain ⟨y4, t6⟩ := hR
 obtain ⟨rfl, N9⟩ := y4.slen
 obtain ⟨rfl, H0⟩ := t6.slen
 refine Ew Z2 (Est rfl (N.box (cs := [_, _]) rfl dc rfl) (fun b1 _ => (Est rfl (N.alloc ty_Binding dc) (fun b2 _ => (Eu (Eq_ (a1M (κ := (Option Addr × Nat) × (Option Addr × Nat)) (fun _ => True) (fun kM => [(2, .pointer (some ⟨b2, 0, none⟩))]) (fun kM => [pt b2 36 [.slice kM.1.1 d8.length kM.1.2, .slice kM.2.1 d4.length kM.2.2], ow eIs [.slice kM.2.1 d4.length kM.2.2] d4, ow eIs [.slice kM.1.1 d8.length kM.1.2] d8, pt b1 36 [.slice u9 d8.length u7, .slice n8 d4.length n0]]) ?_ (fun kM _ => ?_))))))))
 ·refine D.region (fun j => !(Nat.beq j 9)) mixed (Dyp 1 rfl (f9 fo_Binding_0 ty_Is dc rfl) (Dy 2 rfl (f6 ty_Is rfl (Hz (mS m0) 0 rfl) rfl) (Dyp 5 rfl (f9 fo_Binding_1 ty_Is dc rfl) (Dy 6 rfl (f6 ty_Is rfl (Hz (mS m0) 1 rfl) rfl) (a4y (i := 0) (j := 4) kr ?_ ?_)))))
  ·refine a1x 0 rfl rfl (fun _ => rfl) (Nb [] [] us_Is d9 rfl rfl) (fun b3 _ => (Ent.drop (a4y (i := 3) (j := 4) kr ?_ ?_)))
   ·refine a1x 3 rfl rfl (fun _ => rfl) (E0 (E := Enc.int) Plain.int us_Is d9 rfl rfl rfl y4 bn bn dc) (fun p6 _ => (t7 4 rfl rfl kr (fun _ => rfl) (Nb [] [] us_Is d9 rfl rfl) (fun b7 _ => (Ent.drop (t7 7 rfl rfl kr (fun _ => rfl) (E0 (E := Enc.int) Plain.int us_Is d9 rfl rfl rfl t6 bn bn dc) (fun p10 _ => (Dyp 8 rfl (E3 (pvs := [_, _]) (cs := [_, _]) ty_Binding pl_Binding rfl rfl) (g9 (t7 9 rfl rfl kr (fun h => by cases h) (Ns [_, _] ty_Binding rfl) (fun _ _ => (o0 kr (l4 (l4 (l4 (l4 ?_)))))))))))))))
    exact P8 (p6, p10) trivial ⟨rfl, trivial⟩ (.refl _)
   ·refine a1x 4 rfl rfl (fun _ => rfl) (Nb [] [] us_Is d9 rfl rfl) (fun b7 _ => (Ent.drop (t7 3 rfl rfl kr (fun _ => rfl) (E0 (E := Enc.int) Plain.int us_Is d9 rfl rfl rfl y4 bn bn dc) (fun p6 _ => (t7 7 rfl rfl kr (fun _ => rfl) (E0 (E := Enc.int) Plain.int us_Is d9 rfl rfl rfl t6 bn bn dc) (fun p10 _ => (Dyp 8 rfl (E3 (pvs := [_, _]) (cs := [_, _]) ty_Binding pl_Binding rfl rfl) (g9 (t7 9 rfl rfl kr (fun h => by cases h) (Ns [_, _] ty_Binding rfl) (fun _ _ => (o0 kr (l4 (l4 (l4 (l4 ?_)))))))))))))))
    exact P8 (p6, p10) trivial ⟨rfl, trivial⟩ (.refl _)
  ·refine a1x 4 rfl rfl (fun _ => rfl) (Nb [] [] us_Is d9 rfl rfl) (fun b7 _ => (Ent.drop (t7 0 rfl rfl kr (fun _ => rfl) (Nb [] [] us_Is d9 rfl rfl) (fun b3 _ => (Ent.drop (t7 3 rfl rfl kr (fun _ => rfl) (E0 (E := Enc.int) Plain.int us_Is d9 rfl rfl rfl y4 bn bn dc) (fun p6 _ => (t7 7 rfl rfl kr (fun _ => rfl) (E0 (E := Enc.int) Plain.int us_Is d9 rfl rfl rfl t6 bn bn dc) (fun p10 _ => (Dyp 8 rfl (E3 (pvs := [_, _]) (cs := [_, _]) ty_Binding pl_Binding rfl rfl) (g9 (t7 9 rfl rfl kr (fun h => by cases h) (Ns [_, _] ty_Binding rfl) (fun _ _ => (o0 kr (l4 (l4 (l4 (l4 ?_))))))))))))))))))
   exact P8 (p6, p10) trivial ⟨rfl, trivial⟩ (.refl _)
 ·obtain ⟨p6, p10⟩ := kM
  try dsimp only
  refine Et (E.ret (d7 (g9 (d7 (d7 ?_)))))
  exact J7 br rfl rfl (mS (mS m0)) ty_Binding rfl ((_, _, _), (_, _, _)) trivial rfl (J := _) (.refl _) (.inl rfl)
theorem a3e {v : Int} : Tr Tryz.prog 79 [.agg #[.slice u9 y5 u7, .slice n8 r7 n0], .int .i64 v] (fun w L => Ro w L eIs [.slice u9 y5 u7] d8 ∧ Ro w L eIs [.slice n8 r7 n0] d4) [] (κ := Unit) (fun k => True) (fun k => .bool (!unb (d8, d4) v)) (fun k => []) := by
 refine Tr.intro Tryz.func79 rfl (n := 27) rfl (by decide +kernel) bl (fr := [(0, .agg #[.slice u9 y5 u7, .slice n8 r7 n0]), (1, .int .i64 v)]) rfl fun w L hR => ?_
 obtain ⟨y4, t6⟩ := hR
 obtain ⟨rfl, N9⟩ := y4.slen
 obtain ⟨rfl, H0⟩ := t6.slen
 refine Ew Z2 (Est rfl (N.box (cs := [_, _]) rfl dc rfl) (fun b2 _ => (Ei rfl (Eu (Eq_ (Ew Z1 (Ei rfl (Eu (E.block (E.loop (κ := Nat) (fun g => g ≤ (min d8.length d4.length) ∧ (d8.take (min d8.length d4.length)).any (fun x => decide (x = v)) = ((d8.take (min d8.length d4.length)).drop g).any (fun x => decide (x = v))) (fun g => [(1, .int .i64 v), (2, .pointer (some ⟨b2, 0, none⟩)), (5, .int .i64 (g : Int))]) (fun g => [pt b2 36 [.slice u9 d8.length u7, .slice n8 d4.length n0]]) (fun g => (min d8.length d4.length) - g) 0 ⟨Nat.zero_le _, by simp⟩ ⟨rfl, rfl, rfl, trivial⟩ (.refl _) (fun g pg => ?_)))))))))))
 obtain ⟨pk, pa⟩ := pg
 refine Eq_ (Ew Z12 (Em rfl (Ey rfl ((f9 fo_Binding_0 ty_Is dc rfl).yd) (Ey rfl (f6 ty_Is rfl (Hz m0 0 rfl) rfl) (Ey rfl ((Y.len us_Is rfl).yd) (Ey rfl ((Y.lss rfl rfl).yd) (j4 (fun q10 => ?_) (fun q10 => ?_))))))))
 ·refine Em rfl (Em rfl (Ey rfl ((f9 fo_Binding_1 ty_Is dc rfl).yd) (Ey rfl (f6 ty_Is rfl (Hz m0 1 rfl) rfl) (Ey rfl ((Y.len us_Is rfl).yd) (Ey rfl ((Y.lss rfl rfl).yd) (j4 (fun q16 => ?_) (fun q16 => ?_)))))))
  ·refine Ey rfl ((v6 rfl rfl).yd) (Eu (j9 rfl (f5 (Et (Eq_ (E.block (Ew Z7 (Ey rfl ((f9 fo_Binding_0 ty_Is dc rfl).yd) (Ey rfl (f6 ty_Is rfl (Hz m0 0 rfl) rfl) (Em rfl ?_))))))))))
   obtain ⟨eb23, eo23, ea23, ei23, eh23⟩ := y4.elemI g om
   refine Ey rfl ((o6 us_Is d9 rfl ea23 rfl g rfl om).yd) (Ey rfl (f6 d9 rfl (eh23 _) rfl) (Em rfl (Ey rfl ((Y.eql rfl rfl).yd) (j4 (fun q26 => ?_) (fun q26 => ?_)))))
   ·refine Eu (j9 rfl (Ew Z1 (Ei rfl ?_)))
    exact Eu (E.ret (w9 (j5 (j5 (w9 (j5 (Fb rfl rfl (by grind [unb, U4, a0r, d1, d2, t1, t2]))))))))
   ·refine Eu (j8 rfl (f5 (n9 (Et (Ez Z3 (Em rfl (Ey rfl ((Y.add rfl rfl om om).yd) (Ei rfl ?_))))))))
    exact Eu (t8 br (g + 1) rs (.refl _) ⟨by omega, by grind [U4, d1, d2, t1, t2]⟩ om)
  ·refine Ey rfl ((v6 rfl rfl).yd) (Eu (j8 rfl (E.exit (l2 (l2 (w8 (Et (Ew Z1 (Ei rfl ?_)))))))))
   exact Eu (E.ret (Fb rfl rfl (by grind [unb, U4, a0r, d1, d2, t1, t2])))
 ·refine Em rfl (Es rfl (Es rfl (Es rfl (Es rfl (Es rfl (Ey rfl ((w7 rfl rfl).yd) (Eu (j8 rfl (E.exit (l2 (l2 (w8 (Et (Ew Z1 (Ei rfl ?_)))))))))))))))
  exact Eu (E.ret (Fb rfl rfl (by grind [unb, U4, a0r, d1, d2, t1, t2])))
theorem a0a (hb1 : d8.length ≤ 1000) (hb2 : d4.length ≤ 1000) (hat : d6.length ≤ 1000) : Tr Tryz.prog 17 [.agg #[.slice u9 y5 u7, .slice n8 r7 n0], .agg #[.int .i64 f7, .slice z6 C7 y9], .agg #[.int .i64 f8, .slice z8 C4 B0]] (fun w L => Ro w L eIs [.slice u9 y5 u7] d8 ∧ Ro w L eIs [.slice n8 r7 n0] d4 ∧ I64 f7 ∧ Ro w L eIs [.slice z6 C7 y9] d6 ∧ I64 f8 ∧ Ro w L eIs [.slice z8 C4 B0] a7) [] (κ := (Option Addr × Nat × Nat) × (Option Addr × Nat × Nat)) (fun k => True) (fun k => .tuple #[.agg #[.slice k.1.1 k.1.2.1 k.1.2.2, .slice k.2.1 k.2.2.1 k.2.2.2], .bool (j0 (d8, d4) (f7, d6) (f8, a7))]) (fun k => [ow eIs [.slice k.1.1 k.1.2.1 k.1.2.2] (cond (j0 (d8, d4) (f7, d6) (f8, a7)) (k7 (d8, d4) (f7, d6) (f8, a7)).1 []), ow eIs [.slice k.2.1 k.2.2.1 k.2.2.2] (cond (j0 (d8, d4) (f7, d6) (f8, a7)) (k7 (d8, d4) (f7, d6) (f8, a7)).2 [])]) := by
 refine Tr.intro Tryz.func17 rfl (n := 81) rfl (by decide +kernel) bl (fr := [(0, .agg #[.slice u9 y5 u7, .slice n8 r7 n0]), (1, .agg #[.int .i64 f7, .slice z6 C7 y9]), (2, .agg #[.int .i64 f8, .slice z8 C4 B0])]) rfl fun w L hR => ?_
 obtain ⟨y4, t6, M0, D6, G9, B4⟩ := hR
 obtain ⟨rfl, N9⟩ := y4.slen
 obtain ⟨rfl, H0⟩ := t6.slen
 obtain ⟨rfl, V8⟩ := D6.slen
 obtain ⟨rfl, W8⟩ := B4.slen
 refine Ew Z5 (Est rfl (N.box (cs := [_, _]) rfl dc rfl) (fun b3 _ => (Est rfl (N.box (cs := [_, _]) rfl dc rfl) (fun b4 _ => (Est rfl (N.box (cs := [_, _]) rfl dc rfl) (fun b5 _ => (Est rfl (N.alloc ty_Binding dc) (fun b6 _ => (Ei rfl (Eu (Eq_ (Ew Z23 (Ey rfl ((f9 fo_Atom_0 d9 dc rfl).yd) (Ey rfl (f6 d9 rfl (Hz (mS (mS m0)) 0 rfl) rfl) (Ey rfl ((f9 fo_Fact_0 d9 dc rfl).yd) (Ey rfl (f6 d9 rfl (Hz (mS m0) 0 rfl) rfl) (Ey rfl ((Y.neq rfl rfl).yd) (j4 (fun q15 => ?_) (fun q15 => ?_)))))))))))))))))))
 ·refine Em rfl (Es rfl (Es rfl (Es rfl (Es rfl (Es rfl (Es rfl (Es rfl (Ey rfl ((v6 rfl rfl).yd) (Em rfl (Es rfl (Es rfl (Es rfl (Es rfl (Es rfl ?_))))))))))))))
  refine Es rfl (Es rfl (Ey rfl ((v6 rfl rfl).yd) (Eu (j9 rfl (Ew Z3 (Ey rfl ((E3 (pvs := []) (cs := [_, _]) ty_Binding pl_Binding rfl rfl).yd) (Est rfl (Ns [_, _] ty_Binding rfl) (fun _ _ => (Ei rfl (Eu (E.ret (j5 (l3 (A := []) (Own.nil (E := Enc.int) (e := tI) (a := none)) rfl (i9 (congrArg (ow eIs [_]) (show _ = cond (j0 (d8, d4) (f7, d6) (f8, a7)) (k7 (d8, d4) (f7, d6) (f8, a7)).2 [] by grind [j0, k7, r5, s6, s7, w6, x4, s8, d1, d2, t1, t2])) (l3 (A := []) (Own.nil (E := Enc.int) (e := tI) (a := none)) rfl (i9 (congrArg (ow eIs [_]) (show _ = cond (j0 (d8, d4) (f7, d6) (f8, a7)) (k7 (d8, d4) (f7, d6) (f8, a7)).1 [] by grind [j0, k7, r5, s6, s7, w6, x4, s8, d1, d2, t1, t2])) (d7 (d7 ?_))))))))))))))))))
  exact R1 br rfl rfl rfl (mS (mS m0)) ty_Binding rfl ((none, 0, 0), (none, 0, 0)) trivial (by rw [show (j0 (d8, d4) (f7, d6) (f8, a7)) = (false) from (by grind [j0, k7, r5, s6, s7, w6, x4, s8, d1, d2, t1, t2])]; try rfl) (J := _) (.refl _) (.inl rfl)
 ·refine Em rfl (Ey rfl ((f9 fo_Atom_1 ty_Is dc rfl).yd) (Ey rfl (f6 ty_Is rfl (Hz (mS (mS m0)) 1 rfl) rfl) (Ey rfl ((Y.len us_Is rfl).yd) (Ey rfl ((f9 fo_Fact_1 ty_Is dc rfl).yd) (Ey rfl (f6 ty_Is rfl (Hz (mS m0) 1 rfl) rfl) (Ey rfl ((Y.len us_Is rfl).yd) (Ey rfl ((Y.neq rfl rfl).yd) (j4 (fun q23 => ?_) (fun q23 => ?_)))))))))
  ·refine Ey rfl ((w7 rfl rfl).yd) (Em rfl (Es rfl (Es rfl (Es rfl (Es rfl (Es rfl (Es rfl (Es rfl (Ey rfl ((v6 rfl rfl).yd) (Eu (j9 rfl (Ew Z3 (Ey rfl ((E3 (pvs := []) (cs := [_, _]) ty_Binding pl_Binding rfl rfl).yd) (Est rfl (Ns [_, _] ty_Binding rfl) (fun _ _ => (Ei rfl (Eu (E.ret (j5 (l3 (A := []) (Own.nil (E := Enc.int) (e := tI) (a := none)) rfl (i9 (congrArg (ow eIs [_]) (show _ = cond (j0 (d8, d4) (f7, d6) (f8, a7)) (k7 (d8, d4) (f7, d6) (f8, a7)).2 [] by grind [j0, k7, r5, s6, s7, w6, x4, s8, d1, d2, t1, t2])) ?_)))))))))))))))))))))
   refine l3 (A := []) (Own.nil (E := Enc.int) (e := tI) (a := none)) rfl (i9 (congrArg (ow eIs [_]) (show _ = cond (j0 (d8, d4) (f7, d6) (f8, a7)) (k7 (d8, d4) (f7, d6) (f8, a7)).1 [] by grind [j0, k7, r5, s6, s7, w6, x4, s8, d1, d2, t1, t2])) (d7 (d7 ?_)))
   exact R1 br rfl rfl rfl (mS (mS m0)) ty_Binding rfl ((none, 0, 0), (none, 0, 0)) trivial (by rw [show (j0 (d8, d4) (f7, d6) (f8, a7)) = (false) from (by grind [j0, k7, r5, s6, s7, w6, x4, s8, d1, d2, t1, t2])]; try rfl) (J := _) (.refl _) (.inl rfl)
  ·refine Ey rfl ((w7 rfl rfl).yd) (Em rfl (Ey rfl ((f9 fo_Binding_0 ty_Is dc rfl).yd) (Ey rfl (f6 ty_Is rfl (Hz (mS (mS (mS m0))) 0 rfl) rfl) (Ey rfl ((Y.len us_Is rfl).yd) (Ey rfl ((f9 fo_Binding_1 ty_Is dc rfl).yd) (Ey rfl (f6 ty_Is rfl (Hz (mS (mS (mS m0))) 1 rfl) rfl) (Ey rfl ((Y.len us_Is rfl).yd) (Ey rfl ((Y.neq rfl rfl).yd) (j4 (fun q32 => ?_) (fun q32 => ?_))))))))))
   ·refine Ey rfl ((w7 rfl rfl).yd) (Eu (j9 rfl (Ew Z3 (Ey rfl ((E3 (pvs := []) (cs := [_, _]) ty_Binding pl_Binding rfl rfl).yd) (Est rfl (Ns [_, _] ty_Binding rfl) (fun _ _ => (Ei rfl (Eu (E.ret (j5 (l3 (A := []) (Own.nil (E := Enc.int) (e := tI) (a := none)) rfl (i9 (congrArg (ow eIs [_]) (show _ = cond (j0 (d8, d4) (f7, d6) (f8, a7)) (k7 (d8, d4) (f7, d6) (f8, a7)).2 [] by grind [j0, k7, r5, s6, s7, w6, x4, s8, d1, d2, t1, t2])) (l3 (A := []) (Own.nil (E := Enc.int) (e := tI) (a := none)) rfl (i9 (congrArg (ow eIs [_]) (show _ = cond (j0 (d8, d4) (f7, d6) (f8, a7)) (k7 (d8, d4) (f7, d6) (f8, a7)).1 [] by grind [j0, k7, r5, s6, s7, w6, x4, s8, d1, d2, t1, t2])) (d7 (d7 ?_))))))))))))))))
    exact R1 br rfl rfl rfl (mS (mS m0)) ty_Binding rfl ((none, 0, 0), (none, 0, 0)) trivial (by rw [show (j0 (d8, d4) (f7, d6) (f8, a7)) = (false) from (by grind [j0, k7, r5, s6, s7, w6, x4, s8, d1, d2, t1, t2])]; try rfl) (J := _) (.refl _) (.inl rfl)
   ·refine Ey rfl ((w7 rfl rfl).yd) (Eu (j8 rfl (f5 (Et (Ew Z4 (Ey rfl (o1 (cs := [_, _]) ty_Binding rfl (Has.pt (mS (mS (mS m0)))) rfl) (Est rfl (N.call (a1p fc fc) rfl rfl rfl dc rfl (fun w Lp hA => ⟨hA.ro y4, hA.ro t6⟩)) (fun k36 _ => ?_))))))))
    obtain ⟨⟨a36_0, m36_0, c36_0⟩, ⟨a36_1, m36_1, c36_1⟩⟩ := k36
    refine f0 m0 fun e36_0 l36_0 => ?_
    subst e36_0
    refine f0 (mS m0) fun e36_1 l36_1 => ?_
    subst e36_1
    refine Est rfl (N.alloc ty_Binding dc) (fun b8 _ => (Est rfl (Ns [_, _] ty_Binding rfl) (fun _ _ => (Eu (Eq_ (Ew Z4 (Ey rfl ((f9 fo_Atom_1 ty_Is dc rfl).yd) (Ey rfl (f6 ty_Is rfl ((Has.pt (mS (mS (mS (mS (mS m0)))))).sub (cs' := [_]) 1 rfl) rfl) (Ey rfl ((Y.len us_Is rfl).yd) (Em rfl (Eu (E.block (d7 (i9 (congrArg (ow eIs [_]) (show d8 = (v7 (d8, d4) ((d6.zip a7).take 0)).1 from by first | rfl | (simp; done) | grind [j0, k7, r5, s6, s7, w6, x4, s8, d1, d2, t1, t2])) (g9 (i9 (congrArg (ow eIs [_]) (show d4 = (v7 (d8, d4) ((d6.zip a7).take 0)).2 from by first | rfl | (simp; done) | grind [j0, k7, r5, s6, s7, w6, x4, s8, d1, d2, t1, t2])) (E.loop (κ := Nat × Option Addr × Nat × Nat × Option Addr × Nat × Nat) (fun g => g.1 ≤ d6.length ∧ okV (d8, d4) (d6.zip a7) = okV (v7 (d8, d4) ((d6.zip a7).take g.1)) ((d6.zip a7).drop g.1)) (fun g => [(5, .pointer (some ⟨b5, 0, none⟩)), (6, .pointer (some ⟨b6, 0, none⟩)), (8, .pointer (some ⟨b8, 0, none⟩)), (38, .slice z6 d6.length y9), (39, .int .i64 (↑d6.length : Int)), (40, .int .i64 (↑g.1 : Int))]) (fun g => [ow eIs [.slice g.2.2.2.2.1 g.2.2.2.2.2.1 g.2.2.2.2.2.2] ((v7 (d8, d4) ((d6.zip a7).take g.1)).2), ow eIs [.slice g.2.1 g.2.2.1 g.2.2.2.1] ((v7 (d8, d4) ((d6.zip a7).take g.1)).1), pt b8 36 [.slice g.2.1 g.2.2.1 g.2.2.2.1, .slice g.2.2.2.2.1 g.2.2.2.2.2.1 g.2.2.2.2.2.2], pt b6 36 [.slice none 0 0, .slice none 0 0], pt b5 44 [.int .i64 f8, .slice z8 a7.length B0], pt b4 42 [.int .i64 f7, .slice z6 d6.length y9], pt b3 36 [.slice u9 d8.length u7, .slice n8 d4.length n0]]) (fun g => d6.length - g.1) (0, a36_0, (d8).length, c36_0, a36_1, (d4).length, c36_1) ⟨Nat.zero_le _, by rfl⟩ ⟨rfl, rfl, rfl, rfl, rfl, rfl, trivial⟩ (.refl _) (fun g pg => ?_))))))))))))))))))
    obtain ⟨g, aA0_0, mA0_0, cA0_0, aA0_1, mA0_1, cA0_1⟩ := g
    try dsimp only at pg
    try dsimp only
    obtain ⟨pk, pa⟩ := pg
    have jl := a6K (b := (d8, d4)) (t := d6) (v := a7) (g := g)
    have je := a0K (l := (d6.zip a7).take g) (x := (d8, d4)) (show d8.length = d4.length by omega)
    dsimp only at jl
    refine f0 (mS m0) fun eaA0_0 laA0_0 => ?_
    subst eaA0_0
    refine f0 m0 fun eaA0_1 laA0_1 => ?_
    subst eaA0_1
    refine Ew Z1 (Ey rfl ((Y.lss rfl rfl).yd) (j4 (fun q41 => ?_) (fun q41 => ?_)))
    ·refine Eu (Eq_ (j9 rfl (f5 (Et (Eq_ (E.block (Ew Z5 (Em rfl ?_))))))))
     obtain ⟨eb43, eo43, ea43, ei43, eh43⟩ := D6.elemI g om
     refine Ey rfl ((o6 us_Is d9 rfl ea43 rfl g rfl om).yd) (Ey rfl (f6 d9 rfl (eh43 _) rfl) (Ei rfl (Ei rfl (Eu (Eq_ (Ew Z8 (Em rfl (Est rfl (i8 V0 rfl rfl rfl dc tv) (fun _ _ => (u5 (fun q46 => ?_) (fun q46 => ?_)))))))))))
     ·refine Em rfl (Ey rfl (o1 (cs := [_, _]) ty_Binding rfl (Has.pt (mS (mS m0))) rfl) (Em rfl (Est rfl (i8 U5 rfl rfl rfl dc (fun w Lp hA => ⟨hA.ow (mS m0), hA.ow m0⟩)) (fun _ _ => (Ey rfl ((Y.lss rfl rfl).yd) (j4 (fun q51 => ?_) (fun q51 => ?_)))))))
      ·refine Ey rfl ((v6 rfl rfl).yd) (Eu (j9 rfl (a1M (κ := (Option Addr × Nat) × (Option Addr × Nat)) (fun _ => True) (fun kM => [(5, .pointer (some ⟨b5, 0, none⟩)), (6, .pointer (some ⟨b6, 0, none⟩)), (8, .pointer (some ⟨b8, 0, none⟩)), (9, .int .i64 (g : Int)), (10, .int .i64 d6[g]), (38, .slice z6 d6.length y9), (39, .int .i64 (↑d6.length : Int)), (40, .int .i64 (g : Int))]) (fun kM => [pt b8 36 [.slice kM.1.1 (((v7 (d8, d4) ((d6.zip a7).take g)).1).length + 1) kM.1.2, .slice kM.2.1 (((v7 (d8, d4) ((d6.zip a7).take g)).2).length + 1) kM.2.2], ow eIs [.slice kM.2.1 (((v7 (d8, d4) ((d6.zip a7).take g)).2).length + 1) kM.2.2] (((v7 (d8, d4) ((d6.zip a7).take g)).2) ++ [a7[g]]), ow eIs [.slice kM.1.1 (((v7 (d8, d4) ((d6.zip a7).take g)).1).length + 1) kM.1.2] (((v7 (d8, d4) ((d6.zip a7).take g)).1) ++ [d6[g]]), pt b6 36 [.slice none 0 0, .slice none 0 0], pt b5 44 [.int .i64 f8, .slice z8 a7.length B0], pt b4 42 [.int .i64 f7, .slice z6 d6.length y9], pt b3 36 [.slice u9 d8.length u7, .slice n8 d4.length n0]]) ?_ (fun kM _ => ?_))))
       ·refine H1 [b8, b6, b5, b4, b3] (fun j => !(Nat.beq j 15) && !(Nat.beq j 17)) mixed (B1 0 rfl rfl dc (f9 fo_Binding_0 ty_Is dc rfl) kr (O1 1 rfl rfl dc (I7 ty_Is rfl ((F6.pt (mS (mS m0)) (by simp)).sub (cs' := [_]) 0 rfl) rfl) kr (B1 2 rfl rfl dc (i0 rfl) kr (B1 5 rfl rfl dc (f9 fo_Binding_1 ty_Is dc rfl) kr (O1 6 rfl rfl dc (I7 ty_Is rfl ((F6.pt (mS (mS m0)) (by simp)).sub (cs' := [_]) 1 rfl) rfl) kr (B1 7 rfl rfl dc (f9 fo_Fact_1 ty_Is dc rfl) kr (O1 8 rfl rfl dc (I7 ty_Is rfl ((F6.pt (mS (mS (mS (mS m0)))) (by simp)).sub (cs' := [_]) 1 rfl) rfl) kr (B1 9 rfl rfl dc (i0 rfl) kr ?_))))))))
        obtain ⟨eb63, eo63, ea63, ei63, eh63⟩ := B4.elemI g om
        refine B1 10 rfl rfl dc (o6 us_Is d9 rfl ea63 rfl g rfl om) kr (O1 11 rfl rfl dc (I7 d9 rfl (F6.ro eh63) rfl) kr (r9 (i := 3) (j := 12) kr ?_ ?_))
        ·refine B8 3 rfl rfl (fun _ _ => SameI.out) (Nb [_] [_] us_Is d9 rfl rfl) (fun b56 _ => (r9 (i := 4) (j := 12) kr ?_ ?_))
         ·refine g9 (B8 4 rfl rfl (fun _ _ => SameI.out) (u4 (E := Enc.int) (ex := d6[g]) us_Is d9 rfl rfl rfl (Own.int ei43) rfl bn bn dc) (fun p57 _ => (B1 14 rfl rfl dc (f9 fo_Binding_0 ty_Is dc rfl) kr (B6 12 rfl rfl kr (fun _ _ => SameI.out) (Nb [_] [_] us_Is d9 rfl rfl) (fun b65 _ => (g9 (B6 13 rfl rfl kr (fun _ _ => SameI.out) (u4 (E := Enc.int) (ex := a7[g]) us_Is d9 rfl rfl rfl (Own.int ei63) rfl bn bn dc) (fun p66 _ => (g9 (B6 15 rfl rfl kr (fun h => by cases h) (Ns [_, _] ty_Is rfl) (fun _ _ => (B1 16 rfl rfl dc (f9 fo_Binding_1 ty_Is dc rfl) kr (B6 17 rfl rfl kr (fun h => by cases h) (Ns [_, _] ty_Is rfl) (fun _ _ => (I5 kr (p9 (p9 (p9 (p9 (p9 ?_))))))))))))))))))))
          refine p9 (p9 ?_)
          exact P8 (p57, p66) trivial ⟨rfl, rfl, rfl, rfl, rfl, rfl, rfl, rfl, trivial⟩ (.refl _)
         ·refine B8 12 rfl rfl (fun _ _ => SameI.out) (Nb [_] [_] us_Is d9 rfl rfl) (fun b65 _ => (d7 (l4 (B6 4 rfl rfl kr (fun _ _ => SameI.out) (u4 (E := Enc.int) (ex := d6[g]) us_Is d9 rfl rfl rfl (Own.int ei43) rfl bn bn dc) (fun p57 _ => (B1 14 rfl rfl dc (f9 fo_Binding_0 ty_Is dc rfl) kr (d7 (g9 (B6 13 rfl rfl kr (fun _ _ => SameI.out) (u4 (E := Enc.int) (ex := a7[g]) us_Is d9 rfl rfl rfl (Own.int ei63) rfl bn bn dc) (fun p66 _ => (g9 (B6 15 rfl rfl kr (fun h => by cases h) (Ns [_, _] ty_Is rfl) (fun _ _ => (B1 16 rfl rfl dc (f9 fo_Binding_1 ty_Is dc rfl) kr (B6 17 rfl rfl kr (fun h => by cases h) (Ns [_, _] ty_Is rfl) (fun _ _ => (I5 kr (p9 (p9 (p9 ?_))))))))))))))))))))
          refine p9 (p9 (p9 (p9 ?_)))
          exact P8 (p57, p66) trivial ⟨rfl, rfl, rfl, rfl, rfl, rfl, rfl, rfl, trivial⟩ (.refl _)
        ·refine B8 12 rfl rfl (fun _ _ => SameI.out) (Nb [_] [_] us_Is d9 rfl rfl) (fun b65 _ => (B6 3 rfl rfl kr (fun _ _ => SameI.out) (Nb [_] [_] us_Is d9 rfl rfl) (fun b56 _ => (l4 (B6 4 rfl rfl kr (fun _ _ => SameI.out) (u4 (E := Enc.int) (ex := d6[g]) us_Is d9 rfl rfl rfl (Own.int ei43) rfl bn bn dc) (fun p57 _ => (B1 14 rfl rfl dc (f9 fo_Binding_0 ty_Is dc rfl) kr (d7 (g9 (B6 13 rfl rfl kr (fun _ _ => SameI.out) (u4 (E := Enc.int) (ex := a7[g]) us_Is d9 rfl rfl rfl (Own.int ei63) rfl bn bn dc) (fun p66 _ => (g9 (B6 15 rfl rfl kr (fun h => by cases h) (Ns [_, _] ty_Is rfl) (fun _ _ => (B1 16 rfl rfl dc (f9 fo_Binding_1 ty_Is dc rfl) kr (B6 17 rfl rfl kr (fun h => by cases h) (Ns [_, _] ty_Is rfl) (fun _ _ => (I5 kr (p9 (p9 (p9 ?_)))))))))))))))))))))
         refine p9 (p9 (p9 (p9 ?_)))
         exact P8 (p57, p66) trivial ⟨rfl, rfl, rfl, rfl, rfl, rfl, rfl, rfl, trivial⟩ (.refl _)
       ·obtain ⟨p57, p66⟩ := kM
        try dsimp only
        refine Et (Eq_ (D.region (fun j => true) mixed (Dy 0 rfl (o1 (cs := [_, _]) ty_Binding rfl (Has.pt m0) rfl) (Dyp 1 rfl (i0 rfl) (Dyp 3 rfl (f9 fo_Fact_1 ty_Is dc rfl) (Dy 4 rfl (f6 ty_Is rfl (Hz (mS (mS (mS (mS m0)))) 1 rfl) rfl) (Dyp 5 rfl (i0 rfl) ?_)))))))
        obtain ⟨eb75, eo75, ea75, ei75, eh75⟩ := B4.elemI g om
        refine Dyp 6 rfl (o6 us_Is d9 rfl ea75 rfl g rfl om) (Dy 7 rfl (f6 d9 rfl (eh75 _) rfl) (t7 2 rfl rfl kr (fun _ => rfl) (i8 N0 rfl rfl rfl dc (fun w Lp hA => ⟨hA.ow (mS (mS m0)), hA.ow (mS m0)⟩)) (fun _ _ => (Dyp 8 rfl (Y.neq rfl rfl) (j4 (fun q77 => ?_) (fun q77 => ?_))))))
        ·refine o0 kr (Et (j9 rfl (Ew Z3 (Ey rfl ((E3 (pvs := []) (cs := [_, _]) ty_Binding pl_Binding rfl rfl).yd) (l4 (Est rfl (Ns [_, _] ty_Binding rfl) (fun _ _ => (Ei rfl (Eu (E.ret (w9 (j5 (j5 (w9 (j5 (l3 (A := []) (Own.nil (E := Enc.int) (e := tI) (a := none)) rfl (i9 (congrArg (ow eIs [_]) (show _ = cond (j0 (d8, d4) (f7, d6) (f8, a7)) (k7 (d8, d4) (f7, d6) (f8, a7)).2 [] by grind [j0, k7, r5, s6, s7, w6, x4, s8, d1, d2, t1, t2])) (l3 (A := []) (Own.nil (E := Enc.int) (e := tI) (a := none)) rfl (i9 (congrArg (ow eIs [_]) (show _ = cond (j0 (d8, d4) (f7, d6) (f8, a7)) (k7 (d8, d4) (f7, d6) (f8, a7)).1 [] by grind [j0, k7, r5, s6, s7, w6, x4, s8, d1, d2, t1, t2])) (d7 (d7 ?_)))))))))))))))))))))
         exact R1 br rfl rfl rfl (mS (mS m0)) ty_Binding rfl ((none, 0, 0), (none, 0, 0)) trivial (by rw [show (j0 (d8, d4) (f7, d6) (f8, a7)) = (false) from (by grind [j0, k7, r5, s6, s7, w6, x4, s8, d1, d2, t1, t2])]; try rfl) (J := _) (.refl _) (.inl rfl)
        ·refine o0 kr (Et (j8 rfl (f5 (n9 (Et (Ez Z2 (Ey rfl ((Y.add rfl rfl om om).yd) (Em rfl (Eu (g9 (i9 (congrArg (ow eIs [_]) (show ((v7 (d8, d4) ((d6.zip a7).take g)).1) ++ [d6[g]] = (v7 (d8, d4) ((d6.zip a7).take (g + 1))).1 from by grind [j0, k7, r5, s6, s7, w6, x4, s8, d1, d2, t1, t2])) (g9 (i9 (congrArg (ow eIs [_]) (show ((v7 (d8, d4) ((d6.zip a7).take g)).2) ++ [a7[g]] = (v7 (d8, d4) ((d6.zip a7).take (g + 1))).2 from by grind [j0, k7, r5, s6, s7, w6, x4, s8, d1, d2, t1, t2])) (p9 (p9 (p9 (p9 (p9 (p9 (p9 ?_))))))))))))))))))))
         exact Ea (g + 1, p57.1, (((v7 (d8, d4) ((d6.zip a7).take g)).1).length + 1), p57.2, p66.1, (((v7 (d8, d4) ((d6.zip a7).take g)).2).length + 1), p66.2) ⟨oz, (show okV (d8, d4) (d6.zip a7) = okV (v7 (d8, d4) ((d6.zip a7).take (g + 1))) ((d6.zip a7).drop (g + 1)) from by grind [j0, k7, r5, s6, s7, w6, x4, s8, d1, d2, t1, t2])⟩
      ·refine Ey rfl ((v6 rfl rfl).yd) (Eu (j8 rfl (f5 (Et (Eq_ (D.region (fun j => true) mixed (Dy 0 rfl (o1 (cs := [_, _]) ty_Binding rfl (Has.pt (mS (mS m0))) rfl) (Dyp 1 rfl (i0 rfl) (Dyp 3 rfl (f9 fo_Fact_1 ty_Is dc rfl) (Dy 4 rfl (f6 ty_Is rfl (Hz (mS (mS (mS (mS m0)))) 1 rfl) rfl) (Dyp 5 rfl (i0 rfl) ?_)))))))))))
       obtain ⟨eb75, eo75, ea75, ei75, eh75⟩ := B4.elemI g om
       refine Dyp 6 rfl (o6 us_Is d9 rfl ea75 rfl g rfl om) (Dy 7 rfl (f6 d9 rfl (eh75 _) rfl) (t7 2 rfl rfl kr (fun _ => rfl) (i8 N0 rfl rfl rfl dc (fun w Lp hA => ⟨hA.ow (mS m0), hA.ow m0⟩)) (fun _ _ => (Dyp 8 rfl (Y.neq rfl rfl) (j4 (fun q77 => ?_) (fun q77 => ?_))))))
       ·refine o0 kr (Et (j9 rfl (Ew Z3 (Ey rfl ((E3 (pvs := []) (cs := [_, _]) ty_Binding pl_Binding rfl rfl).yd) (l4 (Est rfl (Ns [_, _] ty_Binding rfl) (fun _ _ => (Ei rfl (Eu (E.ret (w9 (j5 (j5 (w9 (j5 (l3 (A := []) (Own.nil (E := Enc.int) (e := tI) (a := none)) rfl (i9 (congrArg (ow eIs [_]) (show _ = cond (j0 (d8, d4) (f7, d6) (f8, a7)) (k7 (d8, d4) (f7, d6) (f8, a7)).2 [] by grind [j0, k7, r5, s6, s7, w6, x4, s8, d1, d2, t1, t2])) (l3 (A := []) (Own.nil (E := Enc.int) (e := tI) (a := none)) rfl (i9 (congrArg (ow eIs [_]) (show _ = cond (j0 (d8, d4) (f7, d6) (f8, a7)) (k7 (d8, d4) (f7, d6) (f8, a7)).1 [] by grind [j0, k7, r5, s6, s7, w6, x4, s8, d1, d2, t1, t2])) (d7 (d7 ?_)))))))))))))))))))))
        exact R1 br rfl rfl rfl (mS (mS m0)) ty_Binding rfl ((none, 0, 0), (none, 0, 0)) trivial (by rw [show (j0 (d8, d4) (f7, d6) (f8, a7)) = (false) from (by grind [j0, k7, r5, s6, s7, w6, x4, s8, d1, d2, t1, t2])]; try rfl) (J := _) (.refl _) (.inl rfl)
       ·refine o0 kr (Et (j8 rfl (f5 (n9 (Et (Ez Z2 (Ey rfl ((Y.add rfl rfl om om).yd) (Em rfl (Eu (d7 (i9 (congrArg (ow eIs [_]) (show (v7 (d8, d4) ((d6.zip a7).take g)).1 = (v7 (d8, d4) ((d6.zip a7).take (g + 1))).1 from by grind [j0, k7, r5, s6, s7, w6, x4, s8, d1, d2, t1, t2])) (d7 (i9 (congrArg (ow eIs [_]) (show (v7 (d8, d4) ((d6.zip a7).take g)).2 = (v7 (d8, d4) ((d6.zip a7).take (g + 1))).2 from by grind [j0, k7, r5, s6, s7, w6, x4, s8, d1, d2, t1, t2])) (p9 (p9 (p9 (p9 (p9 (p9 (p9 ?_))))))))))))))))))))
        exact Ea (g + 1, aA0_0, ((v7 (d8, d4) ((d6.zip a7).take g)).1).length, cA0_0, aA0_1, ((v7 (d8, d4) ((d6.zip a7).take g)).2).length, cA0_1) ⟨oz, (show okV (d8, d4) (d6.zip a7) = okV (v7 (d8, d4) ((d6.zip a7).take (g + 1))) ((d6.zip a7).drop (g + 1)) from by grind [j0, k7, r5, s6, s7, w6, x4, s8, d1, d2, t1, t2])⟩
     ·refine Em rfl (Es rfl (Es rfl (Es rfl (Es rfl (Ey rfl ((w7 rfl rfl).yd) (Eu (j8 rfl (f5 (Et (Eq_ (D.region (fun j => true) mixed (Dy 0 rfl (o1 (cs := [_, _]) ty_Binding rfl (Has.pt (mS (mS m0))) rfl) (Dyp 1 rfl (i0 rfl) (Dyp 3 rfl (f9 fo_Fact_1 ty_Is dc rfl) (Dy 4 rfl (f6 ty_Is rfl (Hz (mS (mS (mS (mS m0)))) 1 rfl) rfl) (Dyp 5 rfl (i0 rfl) ?_))))))))))))))))
      obtain ⟨eb75, eo75, ea75, ei75, eh75⟩ := B4.elemI g om
      refine Dyp 6 rfl (o6 us_Is d9 rfl ea75 rfl g rfl om) (Dy 7 rfl (f6 d9 rfl (eh75 _) rfl) (t7 2 rfl rfl kr (fun _ => rfl) (i8 N0 rfl rfl rfl dc (fun w Lp hA => ⟨hA.ow (mS m0), hA.ow m0⟩)) (fun _ _ => (Dyp 8 rfl (Y.neq rfl rfl) (j4 (fun q77 => ?_) (fun q77 => ?_))))))
      ·refine o0 kr (Et (j9 rfl (Ew Z3 (Ey rfl ((E3 (pvs := []) (cs := [_, _]) ty_Binding pl_Binding rfl rfl).yd) (l4 (Est rfl (Ns [_, _] ty_Binding rfl) (fun _ _ => (Ei rfl (Eu (E.ret (w9 (j5 (j5 (w9 (j5 (l3 (A := []) (Own.nil (E := Enc.int) (e := tI) (a := none)) rfl (i9 (congrArg (ow eIs [_]) (show _ = cond (j0 (d8, d4) (f7, d6) (f8, a7)) (k7 (d8, d4) (f7, d6) (f8, a7)).2 [] by grind [j0, k7, r5, s6, s7, w6, x4, s8, d1, d2, t1, t2])) (l3 (A := []) (Own.nil (E := Enc.int) (e := tI) (a := none)) rfl (i9 (congrArg (ow eIs [_]) (show _ = cond (j0 (d8, d4) (f7, d6) (f8, a7)) (k7 (d8, d4) (f7, d6) (f8, a7)).1 [] by grind [j0, k7, r5, s6, s7, w6, x4, s8, d1, d2, t1, t2])) (d7 (d7 ?_)))))))))))))))))))))
       exact R1 br rfl rfl rfl (mS (mS m0)) ty_Binding rfl ((none, 0, 0), (none, 0, 0)) trivial (by rw [show (j0 (d8, d4) (f7, d6) (f8, a7)) = (false) from (by grind [j0, k7, r5, s6, s7, w6, x4, s8, d1, d2, t1, t2])]; try rfl) (J := _) (.refl _) (.inl rfl)
      ·refine o0 kr (Et (j8 rfl (f5 (n9 (Et (Ez Z2 (Ey rfl ((Y.add rfl rfl om om).yd) (Em rfl (Eu (d7 (i9 (congrArg (ow eIs [_]) (show (v7 (d8, d4) ((d6.zip a7).take g)).1 = (v7 (d8, d4) ((d6.zip a7).take (g + 1))).1 from by grind [j0, k7, r5, s6, s7, w6, x4, s8, d1, d2, t1, t2])) (d7 (i9 (congrArg (ow eIs [_]) (show (v7 (d8, d4) ((d6.zip a7).take g)).2 = (v7 (d8, d4) ((d6.zip a7).take (g + 1))).2 from by grind [j0, k7, r5, s6, s7, w6, x4, s8, d1, d2, t1, t2])) (p9 (p9 (p9 (p9 (p9 (p9 (p9 ?_))))))))))))))))))))
       exact Ea (g + 1, aA0_0, ((v7 (d8, d4) ((d6.zip a7).take g)).1).length, cA0_0, aA0_1, ((v7 (d8, d4) ((d6.zip a7).take g)).2).length, cA0_1) ⟨oz, (show okV (d8, d4) (d6.zip a7) = okV (v7 (d8, d4) ((d6.zip a7).take (g + 1))) ((d6.zip a7).drop (g + 1)) from by grind [j0, k7, r5, s6, s7, w6, x4, s8, d1, d2, t1, t2])⟩
    ·refine Eu (Eq_ (j8 rfl (E.exit (l2 (l2 (w8 (Et (Ew Z3 (Ey rfl (o1 (cs := [_, _]) ty_Binding rfl (Has.pt (mS (mS m0))) rfl) (l4 (Est rfl (Ns [_, _] ty_Binding rfl) (fun _ _ => (Ei rfl (Eu (E.ret (d7 (i9 (congrArg (ow eIs [_]) (show _ = cond (j0 (d8, d4) (f7, d6) (f8, a7)) (k7 (d8, d4) (f7, d6) (f8, a7)).2 [] by grind [j0, k7, r5, s6, s7, w6, x4, s8, d1, d2, t1, t2])) (g9 (i9 (congrArg (ow eIs [_]) (show _ = cond (j0 (d8, d4) (f7, d6) (f8, a7)) (k7 (d8, d4) (f7, d6) (f8, a7)).1 [] by grind [j0, k7, r5, s6, s7, w6, x4, s8, d1, d2, t1, t2])) (d7 (d7 ?_)))))))))))))))))))))
     exact R1 br rfl rfl rfl (mS (mS m0)) ty_Binding rfl ((_, _, _), (_, _, _)) trivial (by rw [show (j0 (d8, d4) (f7, d6) (f8, a7)) = (true) from (by grind [j0, k7, r5, s6, s7, w6, x4, s8, d1, d2, t1, t2])]; try rfl) (J := _) (.refl _) (.inl rfl)
theorem S2 (hb1 : d8.length ≤ 1000) (hb2 : d4.length ≤ 1000) (hat : d6.length ≤ 1000) : Tr Tryz.prog 18 [.agg #[.slice u9 y5 u7, .slice n8 r7 n0], .agg #[.int .i64 f7, .slice z6 C7 y9], .agg #[.int .i64 f8, .slice z8 C4 B0]] (fun w L => Ro w L eIs [.slice u9 y5 u7] d8 ∧ Ro w L eIs [.slice n8 r7 n0] d4 ∧ I64 f7 ∧ Ro w L eIs [.slice z6 C7 y9] d6 ∧ I64 f8 ∧ Ro w L eIs [.slice z8 C4 B0] a7) [] (κ := (Option Addr × Nat × Nat) × (Option Addr × Nat × Nat)) (fun k => True) (fun k => .tuple #[.agg #[.slice k.1.1 k.1.2.1 k.1.2.2, .slice k.2.1 k.2.2.1 k.2.2.2], .bool (j0 (d8, d4) (f7, d6) (f8, a7))]) (fun k => [ow eIs [.slice k.1.1 k.1.2.1 k.1.2.2] (cond (j0 (d8, d4) (f7, d6) (f8, a7)) (k7 (d8, d4) (f7, d6) (f8, a7)).1 []), ow eIs [.slice k.2.1 k.2.2.1 k.2.2.2] (cond (j0 (d8, d4) (f7, d6) (f8, a7)) (k7 (d8, d4) (f7, d6) (f8, a7)).2 [])]) := by
 refine Tr.intro Tryz.func18 rfl (n := 88) rfl (by decide +kernel) bl (fr := [(0, .agg #[.slice u9 y5 u7, .slice n8 r7 n0]), (1, .agg #[.int .i64 f7, .slice z6 C7 y9]), (2, .agg #[.int .i64 f8, .slice z8 C4 B0])]) rfl fun w L hR => ?_
 obtain ⟨y4, t6, M0, D6, G9, B4⟩ := hR
 obtain ⟨rfl, N9⟩ := y4.slen
 obtain ⟨rfl, H0⟩ := t6.slen
 obtain ⟨rfl, V8⟩ := D6.slen
 obtain ⟨rfl, W8⟩ := B4.slen
 refine Ew Z5 (Est rfl (N.box (cs := [_, _]) rfl dc rfl) (fun b3 _ => (Est rfl (N.box (cs := [_, _]) rfl dc rfl) (fun b4 _ => (Est rfl (N.box (cs := [_, _]) rfl dc rfl) (fun b5 _ => (Est rfl (N.alloc ty_Binding dc) (fun b6 _ => (Ei rfl (Ev Z4 (Ey rfl (o1 (cs := [_, _]) ty_Binding rfl (Has.pt (mS (mS (mS m0)))) rfl) (Est rfl (N.call (a4n fc fc) rfl rfl rfl dc rfl (fun w Lp hA => ⟨hA.ro y4, hA.ro t6⟩)) (fun k12 _ => ?_)))))))))))))
 obtain ⟨⟨a12_0, m12_0, c12_0⟩, ⟨a12_1, m12_1, c12_1⟩⟩ := k12
 refine f0 m0 fun e12_0 l12_0 => ?_
 subst e12_0
 refine f0 (mS m0) fun e12_1 l12_1 => ?_
 subst e12_1
 refine Est rfl (N.alloc ty_Binding dc) (fun b8 _ => (Est rfl (Ns [_, _] ty_Binding rfl) (fun _ _ => (Eu (Eq_ (Ew Z23 (Ey rfl ((f9 fo_Atom_0 d9 dc rfl).yd) (Ey rfl (f6 d9 rfl ((Has.pt (mS (mS (mS (mS (mS m0)))))).sub (cs' := [_]) 0 rfl) rfl) (Ey rfl ((f9 fo_Fact_0 d9 dc rfl).yd) (Ey rfl (f6 d9 rfl (Hz (mS (mS (mS (mS m0)))) 0 rfl) rfl) (Ey rfl ((Y.neq rfl rfl).yd) (j4 (fun q17 => ?_) (fun q17 => ?_)))))))))))))
 ·refine Em rfl (Es rfl (Es rfl (Es rfl (Es rfl (Es rfl (Es rfl (Es rfl (Ey rfl ((v6 rfl rfl).yd) (Em rfl (Es rfl (Es rfl (Es rfl (Es rfl (Es rfl ?_))))))))))))))
  refine Es rfl (Es rfl (Ey rfl ((v6 rfl rfl).yd) (Eu (j9 rfl (Ew Z3 (Ey rfl ((E3 (pvs := []) (cs := [_, _]) ty_Binding pl_Binding rfl rfl).yd) (l4 (Est rfl (Ns [_, _] ty_Binding rfl) (fun _ _ => (Ei rfl (Eu (E.ret (j5 (l3 (A := []) (Own.nil (E := Enc.int) (e := tI) (a := none)) rfl (i9 (congrArg (ow eIs [_]) (show _ = cond (j0 (d8, d4) (f7, d6) (f8, a7)) (k7 (d8, d4) (f7, d6) (f8, a7)).2 [] by grind [j0, k7, r5, s6, s7, w6, x4, s8, D3, d1, d2, t1, t2])) (l3 (A := []) (Own.nil (E := Enc.int) (e := tI) (a := none)) rfl (i9 (congrArg (ow eIs [_]) (show _ = cond (j0 (d8, d4) (f7, d6) (f8, a7)) (k7 (d8, d4) (f7, d6) (f8, a7)).1 [] by grind [j0, k7, r5, s6, s7, w6, x4, s8, D3, d1, d2, t1, t2])) (d7 (d7 ?_)))))))))))))))))))
  exact R1 br rfl rfl rfl (mS (mS m0)) ty_Binding rfl ((none, 0, 0), (none, 0, 0)) trivial (by rw [show (j0 (d8, d4) (f7, d6) (f8, a7)) = (false) from (by grind [j0, k7, r5, s6, s7, w6, x4, s8, D3, d1, d2, t1, t2])]; try rfl) (J := _) (.refl _) (.inl rfl)
 ·refine Em rfl (Ey rfl ((f9 fo_Atom_1 ty_Is dc rfl).yd) (Ey rfl (f6 ty_Is rfl ((Has.pt (mS (mS (mS (mS (mS m0)))))).sub (cs' := [_]) 1 rfl) rfl) (Ey rfl ((Y.len us_Is rfl).yd) (Ey rfl ((f9 fo_Fact_1 ty_Is dc rfl).yd) (Ey rfl (f6 ty_Is rfl (Hz (mS (mS (mS (mS m0)))) 1 rfl) rfl) (Ey rfl ((Y.len us_Is rfl).yd) (Ey rfl ((Y.neq rfl rfl).yd) (j4 (fun q25 => ?_) (fun q25 => ?_)))))))))
  ·refine Ey rfl ((w7 rfl rfl).yd) (Em rfl (Es rfl (Es rfl (Es rfl (Es rfl (Es rfl (Es rfl (Es rfl (Ey rfl ((v6 rfl rfl).yd) (Eu (j9 rfl (Ew Z3 (Ey rfl ((E3 (pvs := []) (cs := [_, _]) ty_Binding pl_Binding rfl rfl).yd) (l4 (Est rfl (Ns [_, _] ty_Binding rfl) (fun _ _ => (Ei rfl (Eu (E.ret (j5 (l3 (A := []) (Own.nil (E := Enc.int) (e := tI) (a := none)) rfl ?_)))))))))))))))))))))
   refine i9 (congrArg (ow eIs [_]) (show _ = cond (j0 (d8, d4) (f7, d6) (f8, a7)) (k7 (d8, d4) (f7, d6) (f8, a7)).2 [] by grind [j0, k7, r5, s6, s7, w6, x4, s8, D3, d1, d2, t1, t2])) (l3 (A := []) (Own.nil (E := Enc.int) (e := tI) (a := none)) rfl (i9 (congrArg (ow eIs [_]) (show _ = cond (j0 (d8, d4) (f7, d6) (f8, a7)) (k7 (d8, d4) (f7, d6) (f8, a7)).1 [] by grind [j0, k7, r5, s6, s7, w6, x4, s8, D3, d1, d2, t1, t2])) (d7 (d7 ?_))))
   exact R1 br rfl rfl rfl (mS (mS m0)) ty_Binding rfl ((none, 0, 0), (none, 0, 0)) trivial (by rw [show (j0 (d8, d4) (f7, d6) (f8, a7)) = (false) from (by grind [j0, k7, r5, s6, s7, w6, x4, s8, D3, d1, d2, t1, t2])]; try rfl) (J := _) (.refl _) (.inl rfl)
  ·refine Ey rfl ((w7 rfl rfl).yd) (Em rfl (Ey rfl ((f9 fo_Binding_0 ty_Is dc rfl).yd) (Ey rfl (f6 ty_Is rfl ((Has.pt (mS (mS (mS (mS (mS (mS m0))))))).sub (cs' := [_]) 0 rfl) rfl) (Ey rfl ((Y.len us_Is rfl).yd) (Ey rfl ((f9 fo_Binding_1 ty_Is dc rfl).yd) (Ey rfl (f6 ty_Is rfl ((Has.pt (mS (mS (mS (mS (mS (mS m0))))))).sub (cs' := [_]) 1 rfl) rfl) (Ey rfl ((Y.len us_Is rfl).yd) (Ey rfl ((Y.neq rfl rfl).yd) (j4 (fun q34 => ?_) (fun q34 => ?_))))))))))
   ·refine Ey rfl ((w7 rfl rfl).yd) (Eu (j9 rfl (Ew Z3 (Ey rfl ((E3 (pvs := []) (cs := [_, _]) ty_Binding pl_Binding rfl rfl).yd) (l4 (Est rfl (Ns [_, _] ty_Binding rfl) (fun _ _ => (Ei rfl (Eu (E.ret (j5 (l3 (A := []) (Own.nil (E := Enc.int) (e := tI) (a := none)) rfl (i9 (congrArg (ow eIs [_]) (show _ = cond (j0 (d8, d4) (f7, d6) (f8, a7)) (k7 (d8, d4) (f7, d6) (f8, a7)).2 [] by grind [j0, k7, r5, s6, s7, w6, x4, s8, D3, d1, d2, t1, t2])) (l3 (A := []) (Own.nil (E := Enc.int) (e := tI) (a := none)) rfl (i9 (congrArg (ow eIs [_]) (show _ = cond (j0 (d8, d4) (f7, d6) (f8, a7)) (k7 (d8, d4) (f7, d6) (f8, a7)).1 [] by grind [j0, k7, r5, s6, s7, w6, x4, s8, D3, d1, d2, t1, t2])) (d7 (d7 ?_)))))))))))))))))
    exact R1 br rfl rfl rfl (mS (mS m0)) ty_Binding rfl ((none, 0, 0), (none, 0, 0)) trivial (by rw [show (j0 (d8, d4) (f7, d6) (f8, a7)) = (false) from (by grind [j0, k7, r5, s6, s7, w6, x4, s8, D3, d1, d2, t1, t2])]; try rfl) (J := _) (.refl _) (.inl rfl)
   ·refine Ey rfl ((w7 rfl rfl).yd) (Eu (j8 rfl (f5 (Et (Eq_ (Ew Z1 (Ei rfl (Eu (E.block (d7 (i9 (congrArg (ow eIs [_]) (show d8 = (v7 (d8, d4) ((d6.zip a7).take 0)).1 from by first | rfl | (simp; done) | grind [j0, k7, r5, s6, s7, w6, x4, s8, D3, d1, d2, t1, t2])) (g9 (i9 (congrArg (ow eIs [_]) (show d4 = (v7 (d8, d4) ((d6.zip a7).take 0)).2 from by first | rfl | (simp; done) | grind [j0, k7, r5, s6, s7, w6, x4, s8, D3, d1, d2, t1, t2])) (E.loop (κ := Nat × Option Addr × Nat × Nat × Option Addr × Nat × Nat) (fun g => g.1 ≤ d6.length ∧ okV (d8, d4) (d6.zip a7) = okV (v7 (d8, d4) ((d6.zip a7).take g.1)) ((d6.zip a7).drop g.1)) (fun g => [(4, .pointer (some ⟨b4, 0, none⟩)), (5, .pointer (some ⟨b5, 0, none⟩)), (6, .pointer (some ⟨b6, 0, none⟩)), (8, .pointer (some ⟨b8, 0, none⟩)), (9, .int .i64 (↑g.1 : Int))]) (fun g => [ow eIs [.slice g.2.2.2.2.1 g.2.2.2.2.2.1 g.2.2.2.2.2.2] ((v7 (d8, d4) ((d6.zip a7).take g.1)).2), ow eIs [.slice g.2.1 g.2.2.1 g.2.2.2.1] ((v7 (d8, d4) ((d6.zip a7).take g.1)).1), pt b8 36 [.slice g.2.1 g.2.2.1 g.2.2.2.1, .slice g.2.2.2.2.1 g.2.2.2.2.2.1 g.2.2.2.2.2.2], pt b6 36 [.slice none 0 0, .slice none 0 0], pt b5 44 [.int .i64 f8, .slice z8 a7.length B0], pt b4 42 [.int .i64 f7, .slice z6 d6.length y9], pt b3 36 [.slice u9 d8.length u7, .slice n8 d4.length n0]]) (fun g => d6.length - g.1) (0, a12_0, (d8).length, c12_0, a12_1, (d4).length, c12_1) ⟨Nat.zero_le _, by rfl⟩ ⟨rfl, rfl, rfl, rfl, rfl, trivial⟩ (.refl _) (fun g pg => ?_)))))))))))))))
    obtain ⟨g, aA0_0, mA0_0, cA0_0, aA0_1, mA0_1, cA0_1⟩ := g
    try dsimp only at pg
    try dsimp only
    obtain ⟨pk, pa⟩ := pg
    have jl := a6K (b := (d8, d4)) (t := d6) (v := a7) (g := g)
    have je := a0K (l := (d6.zip a7).take g) (x := (d8, d4)) (show d8.length = d4.length by omega)
    dsimp only at jl
    refine f0 (mS m0) fun eaA0_0 laA0_0 => ?_
    subst eaA0_0
    refine f0 m0 fun eaA0_1 laA0_1 => ?_
    subst eaA0_1
    refine Eq_ (Ew Z5 (Em rfl (Ey rfl ((f9 fo_Atom_1 ty_Is dc rfl).yd) (Ey rfl (f6 ty_Is rfl ((Has.pt (mS (mS (mS (mS (mS m0)))))).sub (cs' := [_]) 1 rfl) rfl) (Ey rfl ((Y.len us_Is rfl).yd) (Ey rfl ((Y.lss rfl rfl).yd) (j4 (fun q41 => ?_) (fun q41 => ?_))))))))
    ·refine Eu (j9 rfl (f5 (Et (Eq_ (E.block (Eq_ (D.region (fun j => true) mixed (Dy 0 rfl (o1 (cs := [_, _]) ty_Binding rfl (Has.pt (mS (mS m0))) rfl) (Dyp 1 rfl (f9 fo_Atom_1 ty_Is dc rfl) (Dy 2 rfl (f6 ty_Is rfl ((Has.pt (mS (mS (mS (mS (mS m0)))))).sub (cs' := [_]) 1 rfl) rfl) (Dyp 3 rfl (i0 rfl) ?_)))))))))))
     obtain ⟨eb48, eo48, ea48, ei48, eh48⟩ := D6.elemI g om
     refine Dyp 4 rfl (o6 us_Is d9 rfl ea48 rfl g rfl om) (Dy 5 rfl (f6 d9 rfl (eh48 _) rfl) (t7 6 rfl rfl kr (fun _ => rfl) (i8 M9 rfl rfl rfl dc (fun w Lp hA => ⟨hA.ow (mS m0), hA.ow m0⟩)) (fun _ _ => (Dyp 7 rfl (D8 rfl) (o0 kr (Et (Eq_ (D.region (fun j => true) mixed (Dyp 0 rfl (f9 fo_Atom_1 ty_Is dc rfl) (Dy 1 rfl (f6 ty_Is rfl ((Has.pt (mS (mS (mS (mS (mS m0)))))).sub (cs' := [_]) 1 rfl) rfl) (Dyp 2 rfl (i0 rfl) (Dyp 3 rfl (o6 us_Is d9 rfl ea48 rfl g rfl om) (Dy 4 rfl (f6 d9 rfl (eh48 _) rfl) (t7 5 rfl rfl kr (fun _ => rfl) (i8 U2 rfl rfl rfl dc tv) (fun _ _ => (u5 (fun q56 => ?_) (fun q56 => ?_)))))))))))))))))
     ·refine Dyp 6 rfl (i0 rfl) (Dy 7 rfl (o1 (cs := [_, _]) ty_Binding rfl (Has.pt (mS (mS m0))) rfl) (Dyp 8 rfl (f9 fo_Atom_1 ty_Is dc rfl) (Dy 9 rfl (f6 ty_Is rfl ((Has.pt (mS (mS (mS (mS (mS m0)))))).sub (cs' := [_]) 1 rfl) rfl) (Dyp 10 rfl (i0 rfl) (Dyp 11 rfl (o6 us_Is d9 rfl ea48 rfl g rfl om) (Dy 12 rfl (f6 d9 rfl (eh48 _) rfl) (t7 13 rfl rfl kr (fun _ => rfl) (i8 a3e rfl rfl rfl dc (fun w Lp hA => ⟨hA.ow (mS m0), hA.ow m0⟩)) (fun _ _ => (u5 (fun q64 => ?_) (fun q64 => ?_))))))))))
      ·refine Dyp 14 rfl (Y.not (b := true) rfl) (Dyp 15 rfl (v6 rfl rfl) (o0 kr (Et (j8 rfl (Ew Z7 (Em rfl (Ey rfl ((f9 fo_Fact_1 ty_Is dc rfl).yd) (Ey rfl (f6 ty_Is rfl (Hz (mS (mS (mS (mS m0)))) 1 rfl) rfl) (Em rfl ?_)))))))))
       obtain ⟨eb83, eo83, ea83, ei83, eh83⟩ := B4.elemI g om
       refine Ey rfl ((o6 us_Is d9 rfl ea83 rfl g rfl om).yd) (Ey rfl (f6 d9 rfl (eh83 _) rfl) (Ey rfl ((Y.neq rfl rfl).yd) (j4 (fun q85 => ?_) (fun q85 => ?_))))
       ·refine Eu (j9 rfl (Ew Z3 (Ey rfl ((E3 (pvs := []) (cs := [_, _]) ty_Binding pl_Binding rfl rfl).yd) (l4 (Est rfl (Ns [_, _] ty_Binding rfl) (fun _ _ => (Ei rfl (Eu (E.ret (w9 (j5 (j5 (w9 (j5 (l3 (A := []) (Own.nil (E := Enc.int) (e := tI) (a := none)) rfl (i9 (congrArg (ow eIs [_]) (show _ = cond (j0 (d8, d4) (f7, d6) (f8, a7)) (k7 (d8, d4) (f7, d6) (f8, a7)).2 [] by grind [j0, k7, r5, s6, s7, w6, x4, s8, D3, d1, d2, t1, t2])) (l3 (A := []) (Own.nil (E := Enc.int) (e := tI) (a := none)) rfl (i9 (congrArg (ow eIs [_]) (show _ = cond (j0 (d8, d4) (f7, d6) (f8, a7)) (k7 (d8, d4) (f7, d6) (f8, a7)).1 [] by grind [j0, k7, r5, s6, s7, w6, x4, s8, D3, d1, d2, t1, t2])) (d7 (d7 ?_))))))))))))))))))))
        exact R1 br rfl rfl rfl (mS (mS m0)) ty_Binding rfl ((none, 0, 0), (none, 0, 0)) trivial (by rw [show (j0 (d8, d4) (f7, d6) (f8, a7)) = (false) from (by grind [j0, k7, r5, s6, s7, w6, x4, s8, D3, d1, d2, t1, t2])]; try rfl) (J := _) (.refl _) (.inl rfl)
       ·refine Eu (j8 rfl (f5 (n9 (Et (Ez Z3 (Em rfl (Ey rfl ((Y.add rfl rfl om om).yd) (Ei rfl (Eu (d7 (i9 (congrArg (ow eIs [_]) (show (v7 (d8, d4) ((d6.zip a7).take g)).1 = (v7 (d8, d4) ((d6.zip a7).take (g + 1))).1 from by grind [j0, k7, r5, s6, s7, w6, x4, s8, D3, d1, d2, t1, t2])) (d7 (i9 (congrArg (ow eIs [_]) (show (v7 (d8, d4) ((d6.zip a7).take g)).2 = (v7 (d8, d4) ((d6.zip a7).take (g + 1))).2 from by grind [j0, k7, r5, s6, s7, w6, x4, s8, D3, d1, d2, t1, t2])) (p9 (p9 (p9 (p9 (p9 (p9 (p9 ?_))))))))))))))))))))
        exact Ea (g + 1, aA0_0, ((v7 (d8, d4) ((d6.zip a7).take g)).1).length, cA0_0, aA0_1, ((v7 (d8, d4) ((d6.zip a7).take g)).2).length, cA0_1) ⟨oz, (show okV (d8, d4) (d6.zip a7) = okV (v7 (d8, d4) ((d6.zip a7).take (g + 1))) ((d6.zip a7).drop (g + 1)) from by grind [j0, k7, r5, s6, s7, w6, x4, s8, D3, d1, d2, t1, t2])⟩
      ·refine Dyp 14 rfl (Y.not (b := false) rfl) (Dyp 15 rfl (v6 rfl rfl) (o0 kr (Et (j9 rfl (D.region (fun j => !(Nat.beq j 12)) mixed (Dy 0 rfl (o1 (cs := [_, _]) ty_Binding rfl (Has.pt (mS (mS m0))) rfl) (Dyp 1 rfl (f9 fo_Atom_1 ty_Is dc rfl) (Dy 2 rfl (f6 ty_Is rfl ((Has.pt (mS (mS (mS (mS (mS m0)))))).sub (cs' := [_]) 1 rfl) rfl) (Dyp 3 rfl (i0 rfl) (Dyp 4 rfl (o6 us_Is d9 rfl ea48 rfl g rfl om) (Dy 5 rfl (f6 d9 rfl (eh48 _) rfl) (Dyp 6 rfl (f9 fo_Fact_1 ty_Is dc rfl) (Dy 7 rfl (f6 ty_Is rfl (Hz (mS (mS (mS (mS m0)))) 1 rfl) rfl) (Dyp 8 rfl (i0 rfl) ?_))))))))))))))
       obtain ⟨eb76, eo76, ea76, ei76, eh76⟩ := B4.elemI g om
       refine Dyp 9 rfl (o6 us_Is d9 rfl ea76 rfl g rfl om) (Dy 10 rfl (f6 d9 rfl (eh76 _) rfl) (t7 11 rfl rfl kr (fun _ => rfl) (N.call (a4e fc fc) rfl rfl rfl dc rfl (fun w Lp hA => ⟨hA.ow (mS m0), hA.ow m0, ei48, ei76⟩)) (fun k78 _ => ?_)))
       obtain ⟨⟨a78_0, m78_0, c78_0⟩, ⟨a78_1, m78_1, c78_1⟩⟩ := k78
       refine f0 m0 fun e78_0 l78_0 => ?_
       subst e78_0
       refine f0 (mS m0) fun e78_1 l78_1 => ?_
       subst e78_1
       refine o4 (t7 12 rfl rfl kr (fun h => by cases h) (Ns [_, _] ty_Binding rfl) (fun _ _ => (o0 kr (n9 (Et (Ez Z3 (Em rfl (Ey rfl ((Y.add rfl rfl om om).yd) (Ei rfl (Eu (l4 (Ent.drop (l4 (Ent.drop (d7 (i9 (congrArg (ow eIs [_]) (show ((v7 (d8, d4) ((d6.zip a7).take g)).1) ++ [d6[g]] = (v7 (d8, d4) ((d6.zip a7).take (g + 1))).1 from by grind [j0, k7, r5, s6, s7, w6, x4, s8, D3, d1, d2, t1, t2])) (g9 (i9 (congrArg (ow eIs [_]) (show ((v7 (d8, d4) ((d6.zip a7).take g)).2) ++ [a7[g]] = (v7 (d8, d4) ((d6.zip a7).take (g + 1))).2 from by grind [j0, k7, r5, s6, s7, w6, x4, s8, D3, d1, d2, t1, t2])) (p9 (p9 ?_))))))))))))))))))))
       refine p9 (p9 (p9 (p9 (p9 ?_))))
       exact Ea (g + 1, a78_0, (((v7 (d8, d4) ((d6.zip a7).take g)).1) ++ [d6[g]]).length, c78_0, a78_1, (((v7 (d8, d4) ((d6.zip a7).take g)).2) ++ [a7[g]]).length, c78_1) ⟨oz, (show okV (d8, d4) (d6.zip a7) = okV (v7 (d8, d4) ((d6.zip a7).take (g + 1))) ((d6.zip a7).drop (g + 1)) from by grind [j0, k7, r5, s6, s7, w6, x4, s8, D3, d1, d2, t1, t2])⟩
     ·refine Dyp 6 rfl (i0 rfl) (Dsk 7 rfl (Dsk 8 rfl (Dsk 9 rfl (Dsk 10 rfl (Dsk 11 rfl (Dsk 12 rfl (Dsk 13 rfl (Dsk 14 rfl (Dyp 15 rfl (w7 rfl rfl) (o0 kr (Et (j8 rfl (Ew Z7 (Em rfl (Ey rfl ((f9 fo_Fact_1 ty_Is dc rfl).yd) (Ey rfl (f6 ty_Is rfl (Hz (mS (mS (mS (mS m0)))) 1 rfl) rfl) (Em rfl ?_)))))))))))))))))
      obtain ⟨eb83, eo83, ea83, ei83, eh83⟩ := B4.elemI g om
      refine Ey rfl ((o6 us_Is d9 rfl ea83 rfl g rfl om).yd) (Ey rfl (f6 d9 rfl (eh83 _) rfl) (Ey rfl ((Y.neq rfl rfl).yd) (j4 (fun q85 => ?_) (fun q85 => ?_))))
      ·refine Eu (j9 rfl (Ew Z3 (Ey rfl ((E3 (pvs := []) (cs := [_, _]) ty_Binding pl_Binding rfl rfl).yd) (l4 (Est rfl (Ns [_, _] ty_Binding rfl) (fun _ _ => (Ei rfl (Eu (E.ret (w9 (j5 (j5 (w9 (j5 (l3 (A := []) (Own.nil (E := Enc.int) (e := tI) (a := none)) rfl (i9 (congrArg (ow eIs [_]) (show _ = cond (j0 (d8, d4) (f7, d6) (f8, a7)) (k7 (d8, d4) (f7, d6) (f8, a7)).2 [] by grind [j0, k7, r5, s6, s7, w6, x4, s8, D3, d1, d2, t1, t2])) (l3 (A := []) (Own.nil (E := Enc.int) (e := tI) (a := none)) rfl (i9 (congrArg (ow eIs [_]) (show _ = cond (j0 (d8, d4) (f7, d6) (f8, a7)) (k7 (d8, d4) (f7, d6) (f8, a7)).1 [] by grind [j0, k7, r5, s6, s7, w6, x4, s8, D3, d1, d2, t1, t2])) (d7 (d7 ?_))))))))))))))))))))
       exact R1 br rfl rfl rfl (mS (mS m0)) ty_Binding rfl ((none, 0, 0), (none, 0, 0)) trivial (by rw [show (j0 (d8, d4) (f7, d6) (f8, a7)) = (false) from (by grind [j0, k7, r5, s6, s7, w6, x4, s8, D3, d1, d2, t1, t2])]; try rfl) (J := _) (.refl _) (.inl rfl)
      ·refine Eu (j8 rfl (f5 (n9 (Et (Ez Z3 (Em rfl (Ey rfl ((Y.add rfl rfl om om).yd) (Ei rfl (Eu (d7 (i9 (congrArg (ow eIs [_]) (show (v7 (d8, d4) ((d6.zip a7).take g)).1 = (v7 (d8, d4) ((d6.zip a7).take (g + 1))).1 from by grind [j0, k7, r5, s6, s7, w6, x4, s8, D3, d1, d2, t1, t2])) (d7 (i9 (congrArg (ow eIs [_]) (show (v7 (d8, d4) ((d6.zip a7).take g)).2 = (v7 (d8, d4) ((d6.zip a7).take (g + 1))).2 from by grind [j0, k7, r5, s6, s7, w6, x4, s8, D3, d1, d2, t1, t2])) (p9 (p9 (p9 (p9 (p9 (p9 (p9 ?_))))))))))))))))))))
       exact Ea (g + 1, aA0_0, ((v7 (d8, d4) ((d6.zip a7).take g)).1).length, cA0_0, aA0_1, ((v7 (d8, d4) ((d6.zip a7).take g)).2).length, cA0_1) ⟨oz, (show okV (d8, d4) (d6.zip a7) = okV (v7 (d8, d4) ((d6.zip a7).take (g + 1))) ((d6.zip a7).drop (g + 1)) from by grind [j0, k7, r5, s6, s7, w6, x4, s8, D3, d1, d2, t1, t2])⟩
    ·refine Eu (j8 rfl (E.exit (l2 (l2 (w8 (Et (Ew Z3 (Ey rfl (o1 (cs := [_, _]) ty_Binding rfl (Has.pt (mS (mS m0))) rfl) (l4 (Est rfl (Ns [_, _] ty_Binding rfl) (fun _ _ => (Ei rfl (Eu (E.ret (d7 (i9 (congrArg (ow eIs [_]) (show _ = cond (j0 (d8, d4) (f7, d6) (f8, a7)) (k7 (d8, d4) (f7, d6) (f8, a7)).2 [] by grind [j0, k7, r5, s6, s7, w6, x4, s8, D3, d1, d2, t1, t2])) (g9 (i9 (congrArg (ow eIs [_]) (show _ = cond (j0 (d8, d4) (f7, d6) (f8, a7)) (k7 (d8, d4) (f7, d6) (f8, a7)).1 [] by grind [j0, k7, r5, s6, s7, w6, x4, s8, D3, d1, d2, t1, t2])) (d7 (d7 ?_))))))))))))))))))))
     exact R1 br rfl rfl rfl (mS (mS m0)) ty_Binding rfl ((_, _, _), (_, _, _)) trivial (by rw [show (j0 (d8, d4) (f7, d6) (f8, a7)) = (true) from (by grind [j0, k7, r5, s6, s7, w6, x4, s8, D3, d1, d2, t1, t2])]; try rfl) (J := _) (.refl _) (.inl rfl)
theorem a2F (hbl : ∀ b ∈ l, b.1.length ≤ 1000 ∧ b.2.length ≤ 1000) (hat : d6.length ≤ 1000) (hk : Few (f7, d6) c7) (hn : l.length * 1000 ≤ 1000000000000) : Tr Tryz.prog 88 [.slice a_l m_l c_l, .agg #[.int .i64 f7, .slice z6 C7 y9], .slice a_facts m_facts c_facts] (fun w L => Ro w L y8 [.slice a_l m_l c_l] l ∧ I64 f7 ∧ Ro w L eIs [.slice z6 C7 y9] d6 ∧ Ro w L B9 [.slice a_facts m_facts c_facts] c7) [] (κ := Option Addr × Nat × Nat) (fun k => True) (fun k => .slice k.1 k.2.1 k.2.2) (fun k => [ow y8 [.slice k.1 k.2.1 k.2.2] (B5 l (f7, d6) c7)]) := by
 refine Tr.intro Tryz.func88 rfl (n := 42) rfl (by decide +kernel) bl (fr := [(0, .slice a_l m_l c_l), (1, .agg #[.int .i64 f7, .slice z6 C7 y9]), (2, .slice a_facts m_facts c_facts)]) rfl fun w L hR => ?_
 obtain ⟨hl, M0, D6, hfacts⟩ := hR
 obtain ⟨rfl, ll⟩ := hl.slen
 obtain ⟨rfl, V8⟩ := D6.slen
 obtain ⟨rfl, lfacts⟩ := hfacts.slen
 refine Ew Z2 (Est rfl (N.box (cs := [_, _]) rfl dc rfl) (fun b4 _ => (Ei rfl (Ev Z2 (Est rfl (Nb [] [] us_Bindings ty_Binding rfl rfl) (fun b14 _ => (Ent.drop (Ei rfl (Eu (Eq_ (Ew Z3 (Em rfl (Ey rfl ((Y.len us_Bindings rfl).yd) (Em rfl (Eu (E.block (l3 (A := []) (Own.nil (E := J5) (e := tBinding) (a := (some ⟨b14, 0, none⟩))) rfl (i9 (congrArg (ow y8 [_]) (show [] = B5 (l.take 0) (f7, d6) c7 from by first | rfl | (simp; done) | grind [H7, J4, J6, H9, d1, d2, t1, t2])) (E.loop (κ := Nat × Option Addr × Nat × Nat) (fun g => g.1 ≤ l.length ∧ True) (fun g => [(2, .slice a_facts c7.length c_facts), (4, .pointer (some ⟨b4, 0, none⟩)), (7, .slice g.2.1 g.2.2.1 g.2.2.2), (15, .slice a_l l.length c_l), (16, .int .i64 (↑l.length : Int)), (17, .int .i64 (↑g.1 : Int))]) (fun g => [ow y8 [.slice g.2.1 g.2.2.1 g.2.2.2] (B5 (l.take g.1) (f7, d6) c7), pt b4 42 [.int .i64 f7, .slice z6 d6.length y9]]) (fun g => l.length - g.1) (0, (some ⟨b14, 0, none⟩), 0, 0) ⟨Nat.zero_le _, by simp⟩ ⟨rfl, rfl, rfl, rfl, rfl, rfl, trivial⟩ (.refl _) (fun g pg => ?_))))))))))))))))))))
 obtain ⟨g, aA0_0, mA0_0, cA0_0⟩ := g
 try dsimp only at pg
 try dsimp only
 obtain ⟨pk, pa⟩ := pg
 have jn := a0b hk (l := l.take g)
 have jp := List.length_take_le g l
 refine f0 m0 fun eaA0_0 laA0_0 => ?_
 subst eaA0_0
 refine Ew Z1 (Ey rfl ((Y.lss rfl rfl).yd) (j4 (fun q18 => ?_) (fun q18 => ?_)))
 ·obtain ⟨eb19, eo19, ec19, ea19, er19, el19, eh19⟩ := hl.elem g om
  obtain ⟨xa19_0, xc19_0, xa19_1, xc19_1, rfl, xh19_0, xh19_1⟩ := W4 er19
  have := xh19_0.slen.2
  have := xh19_1.slen.2
  refine Eu (Eq_ (j9 rfl (f5 (Et (Eq_ (E.block (Ew Z4 (Ey rfl ((o6 us_Bindings ty_Binding rfl ea19 rfl g rfl om).yd) (Ey rfl (o1 (cs := [_, _]) ty_Binding rfl (eh19 _) rfl) (Est rfl (N.alloc ty_Binding dc) (fun b9 _ => (Est rfl (Ns [_, _] ty_Binding rfl) (fun _ _ => (Ev Z3 (Em rfl (Ey rfl ((Y.len us_Facts rfl).yd) (Em rfl (Eu (E.block (d7 (i9 (congrArg (ow y8 [_]) (show B5 (l.take g) (f7, d6) c7 = B5 (l.take g) (f7, d6) c7 ++ E1 l[g] (f7, d6) (c7.take 0) from by first | rfl | (simp; done) | grind [H7, J4, J6, H9, d1, d2, t1, t2])) (E.loop (κ := Nat × Option Addr × Nat × Nat) (fun h => h.1 ≤ c7.length ∧ True) (fun h => [(2, .slice a_facts c7.length c_facts), (4, .pointer (some ⟨b4, 0, none⟩)), (7, .slice h.2.1 h.2.2.1 h.2.2.2), (9, .pointer (some ⟨b9, 0, none⟩)), (15, .slice a_l l.length c_l), (16, .int .i64 (↑l.length : Int)), (17, .int .i64 (g : Int)), (21, .slice a_facts c7.length c_facts), (22, .int .i64 (↑c7.length : Int)), (23, .int .i64 (↑h.1 : Int))]) (fun h => [ow y8 [.slice h.2.1 h.2.2.1 h.2.2.2] (B5 (l.take g) (f7, d6) c7 ++ E1 l[g] (f7, d6) (c7.take h.1)), pt b9 36 [.slice xa19_0 l[g].1.length xc19_0, .slice xa19_1 l[g].2.length xc19_1], pt b4 42 [.int .i64 f7, .slice z6 d6.length y9]]) (fun h => c7.length - h.1) (0, aA0_0, (B5 (l.take g) (f7, d6) c7).length, cA0_0) ⟨Nat.zero_le _, by simp⟩ ⟨rfl, rfl, rfl, rfl, rfl, rfl, rfl, rfl, rfl, rfl, trivial⟩ (.refl _) (fun h ph => ?_)))))))))))))))))))))))
  obtain ⟨h, aA1_0, mA1_0, cA1_0⟩ := h
  try dsimp only at ph
  try dsimp only
  obtain ⟨pk, pa⟩ := ph
  have jo := a3D hk hn (g := g) om h
  refine f0 m0 fun eaA1_0 laA1_0 => ?_
  subst eaA1_0
  refine Ew Z1 (Ey rfl ((Y.lss rfl rfl).yd) (j4 (fun q24 => ?_) (fun q24 => ?_)))
  ·obtain ⟨eb25, eo25, ec25, ea25, er25, el25, eh25⟩ := hfacts.elem h om
   obtain ⟨xa25_0, xc25_0, rfl, ei25_0, xh25_0⟩ := K7 er25
   have := xh25_0.slen.2
   refine Eu (Eq_ (j9 rfl (f5 (Et (Eq_ (E.block (Ew Z4 (Ey rfl ((o6 us_Facts ty_Fact rfl ea25 rfl h rfl om).yd) (Ey rfl (o1 (cs := [_, _]) ty_Fact rfl (eh25 _) rfl) (Est rfl (N.alloc ty_Fact dc) (fun b11 _ => (Est rfl (Ns [_, _] ty_Fact rfl) (fun _ _ => (Ev Z10 (Ey rfl (o1 (cs := [_, _]) ty_Binding rfl (Has.pt (mS (mS m0))) rfl) (Ey rfl (o1 (cs := [_, _]) ty_Atom rfl (Has.pt (mS (mS (mS m0)))) rfl) (Ey rfl (o1 (cs := [_, _]) ty_Fact rfl (Has.pt m0) rfl) (Est rfl (N.call (a0a ((hbl _ (List.getElem_mem om)).1) ((hbl _ (List.getElem_mem om)).2) (fo)) rfl rfl rfl dc rfl (fun w Lp hA => ⟨hA.ro xh19_0, hA.ro xh19_1, M0, hA.ro D6, ei25_0, hA.ro xh25_0⟩)) (fun k31 _ => ?_)))))))))))))))))))
   obtain ⟨⟨a31_0, m31_0, c31_0⟩, ⟨a31_1, m31_1, c31_1⟩⟩ := k31
   refine f0 m0 fun e31_0 l31_0 => ?_
   subst e31_0
   refine f0 (mS m0) fun e31_1 l31_1 => ?_
   subst e31_1
   refine Em rfl (Ey rfl ((Y.ext rfl rfl).yd) (Ey rfl ((Y.ext rfl rfl).yd) (Est rfl (N.alloc ty_Binding dc) (fun b12 _ => (Est rfl (Ns [_, _] ty_Binding rfl) (fun _ _ => (Ei rfl (u5 (fun q13 => ?_) (fun q13 => ?_)))))))))
   ·refine Ev Z1 (Em rfl (Eu (j9 rfl (Ez Z5 (Em rfl (Ey rfl (o1 (cs := [_, _]) ty_Binding rfl (Has.pt m0) rfl) (Est rfl (Nb [_] [_, _] us_Bindings ty_Binding rfl rfl) (fun b37 _ => (l4 (l4 (g9 (B7 (Est rfl (u4 (E := J5) (ex := (cond (j0 l[g] (f7, d6) c7[h]) (k7 l[g] (f7, d6) c7[h]).1 [], cond (j0 l[g] (f7, d6) c7[h]) (k7 l[g] (f7, d6) c7[h]).2 [])) us_Bindings ty_Binding rfl rfl rfl (S0 (x := (cond (j0 l[g] (f7, d6) c7[h]) (k7 l[g] (f7, d6) c7[h]).1 [], cond (j0 l[g] (f7, d6) c7[h]) (k7 l[g] (f7, d6) c7[h]).2 [])) Own.ow Own.ow) rfl bn bn dc) (fun p38 _ => (Ei rfl (En (n9 (Et (Ez Z2 (Ey rfl ((Y.add rfl rfl om om).yd) (Em rfl (Eu (d7 (Ent.drop (d7 ?_)))))))))))))))))))))))))
    refine Ent.drop (i9 (congrArg (ow y8 [_]) (show (B5 (l.take g) (f7, d6) c7 ++ E1 l[g] (f7, d6) (c7.take h)) ++ [(cond (j0 l[g] (f7, d6) c7[h]) (k7 l[g] (f7, d6) c7[h]).1 [], cond (j0 l[g] (f7, d6) c7[h]) (k7 l[g] (f7, d6) c7[h]).2 [])] = B5 (l.take g) (f7, d6) c7 ++ E1 l[g] (f7, d6) (c7.take (h + 1)) from by grind [H7, J4, J6, H9, d1, d2, t1, t2])) (g9 (g9 (g9 ?_))))
    exact Ea (h + 1, p38.1, ((B5 (l.take g) (f7, d6) c7 ++ E1 l[g] (f7, d6) (c7.take h)).length + 1), p38.2) ⟨oz, trivial⟩
   ·refine Ev Z1 (Em rfl (Eu (j8 rfl (f5 (n9 (Et (Ez Z2 (Ey rfl ((Y.add rfl rfl om om).yd) (Em rfl (Eu (Ent.drop (Ent.drop (Ent.drop (Ent.drop (i9 (congrArg (ow y8 [_]) (show B5 (l.take g) (f7, d6) c7 ++ E1 l[g] (f7, d6) (c7.take h) = B5 (l.take g) (f7, d6) c7 ++ E1 l[g] (f7, d6) (c7.take (h + 1)) from by grind [H7, J4, J6, H9, d1, d2, t1, t2])) (g9 (g9 (g9 ?_))))))))))))))))))
    exact Ea (h + 1, aA1_0, (B5 (l.take g) (f7, d6) c7 ++ E1 l[g] (f7, d6) (c7.take h)).length, cA1_0) ⟨oz, trivial⟩
  ·refine Eu (Eq_ (j8 rfl (E.exit (l2 (l2 (w8 (n9 (Et (Ez Z2 (Ey rfl ((Y.add rfl rfl om om).yd) (Em rfl (Eu (d7 (Ent.drop (i9 (congrArg (ow y8 [_]) (show B5 (l.take g) (f7, d6) c7 ++ E1 l[g] (f7, d6) (c7.take h) = B5 (l.take (g + 1)) (f7, d6) c7 from by grind [H7, J4, J6, H9, d1, d2, t1, t2])) (d7 (d7 ?_)))))))))))))))))
   exact Ea (g + 1, aA1_0, (B5 (l.take g) (f7, d6) c7 ++ E1 l[g] (f7, d6) (c7.take h)).length, cA1_0) ⟨oz, trivial⟩
 ·refine Eu (Eq_ (j8 rfl (E.exit (l2 (l2 (w8 (Et (Ew Z2 (Em rfl (Ei rfl (Eu (E.ret (i9 (congrArg (ow y8 [_]) (show _ = B5 l (f7, d6) c7 by grind [H7, J4, J6, H9, d1, d2, t1, t2])) ?_)))))))))))))
  exact Fg rfl rfl (_, _, _) rfl rfl
theorem a2A (hbl : ∀ b ∈ l, b.1.length ≤ 1000 ∧ b.2.length ≤ 1000) (hat : d6.length ≤ 1000) (hk : Few (f7, d6) c7) (hn : l.length * 1000 ≤ 1000000000000) : Tr Tryz.prog 89 [.slice a_l m_l c_l, .agg #[.int .i64 f7, .slice z6 C7 y9], .slice a_facts m_facts c_facts] (fun w L => Ro w L y8 [.slice a_l m_l c_l] l ∧ I64 f7 ∧ Ro w L eIs [.slice z6 C7 y9] d6 ∧ Ro w L B9 [.slice a_facts m_facts c_facts] c7) [] (κ := Option Addr × Nat × Nat) (fun k => True) (fun k => .slice k.1 k.2.1 k.2.2) (fun k => [ow y8 [.slice k.1 k.2.1 k.2.2] (B5 l (f7, d6) c7)]) := by
 refine Tr.intro Tryz.func89 rfl (n := 44) rfl (by decide +kernel) bl (fr := [(0, .slice a_l m_l c_l), (1, .agg #[.int .i64 f7, .slice z6 C7 y9]), (2, .slice a_facts m_facts c_facts)]) rfl fun w L hR => ?_
 obtain ⟨hl, M0, D6, hfacts⟩ := hR
 obtain ⟨rfl, ll⟩ := hl.slen
 obtain ⟨rfl, V8⟩ := D6.slen
 obtain ⟨rfl, lfacts⟩ := hfacts.slen
 refine Ew Z2 (Est rfl (N.box (cs := [_, _]) rfl dc rfl) (fun b4 _ => (Ei rfl (Ev Z2 (Est rfl (Nb [] [] us_Bindings ty_Binding rfl rfl) (fun b12 _ => (Ent.drop (Ei rfl (Eu (Eq_ (Ew Z1 (Ei rfl (Eu (E.block (l3 (A := []) (Own.nil (E := J5) (e := tBinding) (a := (some ⟨b12, 0, none⟩))) rfl (i9 (congrArg (ow y8 [_]) (show [] = B5 (l.take 0) (f7, d6) c7 from by first | rfl | (simp; done) | grind [H7, J4, J6, H9, d1, d2, t1, t2])) (E.loop (κ := Nat × Option Addr × Nat × Nat) (fun g => g.1 ≤ l.length ∧ True) (fun g => [(0, .slice a_l l.length c_l), (2, .slice a_facts c7.length c_facts), (4, .pointer (some ⟨b4, 0, none⟩)), (7, .slice g.2.1 g.2.2.1 g.2.2.2), (8, .int .i64 (↑g.1 : Int))]) (fun g => [ow y8 [.slice g.2.1 g.2.2.1 g.2.2.2] (B5 (l.take g.1) (f7, d6) c7), pt b4 42 [.int .i64 f7, .slice z6 d6.length y9]]) (fun g => l.length - g.1) (0, (some ⟨b12, 0, none⟩), 0, 0) ⟨Nat.zero_le _, by simp⟩ ⟨rfl, rfl, rfl, rfl, rfl, trivial⟩ (.refl _) (fun g pg => ?_))))))))))))))))))
 obtain ⟨g, aA0_0, mA0_0, cA0_0⟩ := g
 try dsimp only at pg
 try dsimp only
 obtain ⟨pk, pa⟩ := pg
 have jn := a0b hk (l := l.take g)
 have jp := List.length_take_le g l
 refine f0 m0 fun eaA0_0 laA0_0 => ?_
 subst eaA0_0
 refine Eq_ (Ew Z4 (Em rfl (Em rfl (Ey rfl ((Y.len us_Bindings rfl).yd) (Ey rfl ((Y.lss rfl rfl).yd) (j4 (fun q16 => ?_) (fun q16 => ?_)))))))
 ·refine Eu (j9 rfl (f5 (Et (Eq_ (E.block (Ew Z1 (Ei rfl (Eu (E.block (i9 (congrArg (ow y8 [_]) (show B5 (l.take g) (f7, d6) c7 = B5 (l.take g) (f7, d6) c7 ++ E1 l[g] (f7, d6) (c7.take 0) from by first | rfl | (simp; done) | grind [H7, J4, J6, H9, d1, d2, t1, t2])) (E.loop (κ := Nat × Option Addr × Nat × Nat) (fun h => h.1 ≤ c7.length ∧ True) (fun h => [(0, .slice a_l l.length c_l), (2, .slice a_facts c7.length c_facts), (4, .pointer (some ⟨b4, 0, none⟩)), (7, .slice h.2.1 h.2.2.1 h.2.2.2), (8, .int .i64 (g : Int)), (9, .int .i64 (↑h.1 : Int))]) (fun h => [ow y8 [.slice h.2.1 h.2.2.1 h.2.2.2] (B5 (l.take g) (f7, d6) c7 ++ E1 l[g] (f7, d6) (c7.take h.1)), pt b4 42 [.int .i64 f7, .slice z6 d6.length y9]]) (fun h => c7.length - h.1) (0, aA0_0, (B5 (l.take g) (f7, d6) c7).length, cA0_0) ⟨Nat.zero_le _, by simp⟩ ⟨rfl, rfl, rfl, rfl, rfl, rfl, trivial⟩ (.refl _) (fun h ph => ?_))))))))))))
  obtain ⟨h, aA1_0, mA1_0, cA1_0⟩ := h
  try dsimp only at ph
  try dsimp only
  obtain ⟨pk, pa⟩ := ph
  have jo := a3D hk hn (g := g) om h
  refine f0 m0 fun eaA1_0 laA1_0 => ?_
  subst eaA1_0
  refine Eq_ (Ew Z4 (Em rfl (Em rfl (Ey rfl ((Y.len us_Facts rfl).yd) (Ey rfl ((Y.lss rfl rfl).yd) (j4 (fun q22 => ?_) (fun q22 => ?_)))))))
  ·refine Eu (j9 rfl (f5 (Et (Eq_ (E.block (Eq_ (a1M (κ := Nat × Option Addr × Nat × Option Addr × Nat) (fun _ => True) (fun kM => [(0, .slice a_l l.length c_l), (2, .slice a_facts c7.length c_facts), (4, .pointer (some ⟨b4, 0, none⟩)), (7, .slice aA1_0 (B5 (l.take g) (f7, d6) c7 ++ E1 l[g] (f7, d6) (c7.take h)).length cA1_0), (8, .int .i64 (g : Int)), (9, .int .i64 (h : Int)), (10, .pointer (some ⟨kM.1, 0, none⟩)), (11, .bool (j0 l[g] (f7, d6) c7[h]))]) (fun kM => [pt kM.1 36 [.slice kM.2.1 (cond (j0 l[g] (f7, d6) c7[h]) (k7 l[g] (f7, d6) c7[h]).1 []).length kM.2.2.1, .slice kM.2.2.2.1 (cond (j0 l[g] (f7, d6) c7[h]) (k7 l[g] (f7, d6) c7[h]).2 []).length kM.2.2.2.2], ow eIs [.slice kM.2.1 (cond (j0 l[g] (f7, d6) c7[h]) (k7 l[g] (f7, d6) c7[h]).1 []).length kM.2.2.1] (cond (j0 l[g] (f7, d6) c7[h]) (k7 l[g] (f7, d6) c7[h]).1 []), ow eIs [.slice kM.2.2.2.1 (cond (j0 l[g] (f7, d6) c7[h]) (k7 l[g] (f7, d6) c7[h]).2 []).length kM.2.2.2.2] (cond (j0 l[g] (f7, d6) c7[h]) (k7 l[g] (f7, d6) c7[h]).2 []), ow y8 [.slice aA1_0 (B5 (l.take g) (f7, d6) c7 ++ E1 l[g] (f7, d6) (c7.take h)).length cA1_0] (B5 (l.take g) (f7, d6) c7 ++ E1 l[g] (f7, d6) (c7.take h)), pt b4 42 [.int .i64 f7, .slice z6 d6.length y9]]) ?_ (fun kM _ => ?_))))))))
   ·refine D.region (fun j => !(Nat.beq j 14)) mixed (Dyp 0 rfl (i0 rfl) (Dyp 1 rfl (i0 rfl) ?_))
    obtain ⟨eb28, eo28, ec28, ea28, er28, el28, eh28⟩ := hl.elem g om
    obtain ⟨xa28_0, xc28_0, xa28_1, xc28_1, rfl, xh28_0, xh28_1⟩ := W4 er28
    have := xh28_0.slen.2
    have := xh28_1.slen.2
    refine Dyp 2 rfl (o6 us_Bindings ty_Binding rfl ea28 rfl g rfl om) (Dy 3 rfl (o1 (cs := [_, _]) ty_Binding rfl (eh28 _) rfl) (Dy 4 rfl (o1 (cs := [_, _]) ty_Atom rfl (Has.pt (mS m0)) rfl) (Dyp 5 rfl (i0 rfl) (Dyp 6 rfl (i0 rfl) ?_))))
    obtain ⟨eb33, eo33, ec33, ea33, er33, el33, eh33⟩ := hfacts.elem h om
    obtain ⟨xa33_0, xc33_0, rfl, ei33_0, xh33_0⟩ := K7 er33
    have := xh33_0.slen.2
    refine Dyp 7 rfl (o6 us_Facts ty_Fact rfl ea33 rfl h rfl om) (Dy 8 rfl (o1 (cs := [_, _]) ty_Fact rfl (eh33 _) rfl) (a4y (i := 9) (j := 13) kr ?_ ?_))
    ·refine a1x 9 rfl rfl (fun _ => rfl) (N.call (S2 ((hbl _ (List.getElem_mem om)).1) ((hbl _ (List.getElem_mem om)).2) (fo)) rfl rfl rfl dc rfl (fun w Lp hA => ⟨hA.ro xh28_0, hA.ro xh28_1, M0, hA.ro D6, ei33_0, hA.ro xh33_0⟩)) (fun k35 _ => ?_)
     obtain ⟨⟨a35_0, m35_0, c35_0⟩, ⟨a35_1, m35_1, c35_1⟩⟩ := k35
     refine f0 m0 fun e35_0 l35_0 => ?_
     subst e35_0
     refine f0 (mS m0) fun e35_1 l35_1 => ?_
     subst e35_1
     refine Dyp 10 rfl (i0 rfl) (Dyp 11 rfl (Y.ext rfl rfl) (Dyp 12 rfl (Y.ext rfl rfl) (t7 13 rfl rfl kr (fun _ => rfl) (N.alloc ty_Binding dc) (fun b10 _ => (t7 14 rfl rfl kr (fun h => by cases h) (Ns [_, _] ty_Binding rfl) (fun _ _ => (Dyp 15 rfl (D8 rfl) (o0 kr (o4 (o4 (o4 (o4 (o4 ?_)))))))))))))
     exact P8 (b10, a35_0, c35_0, a35_1, c35_1) trivial ⟨rfl, rfl, rfl, rfl, rfl, rfl, rfl, rfl, trivial⟩ (.refl _)
    ·refine a1x 13 rfl rfl (fun _ => rfl) (N.alloc ty_Binding dc) (fun b10 _ => (t7 9 rfl rfl kr (fun _ => rfl) (N.call (S2 ((hbl _ (List.getElem_mem om)).1) ((hbl _ (List.getElem_mem om)).2) (fo)) rfl rfl rfl dc rfl (fun w Lp hA => ⟨hA.ro xh28_0, hA.ro xh28_1, M0, hA.ro D6, ei33_0, hA.ro xh33_0⟩)) (fun k35 _ => ?_)))
     obtain ⟨⟨a35_0, m35_0, c35_0⟩, ⟨a35_1, m35_1, c35_1⟩⟩ := k35
     refine f0 m0 fun e35_0 l35_0 => ?_
     subst e35_0
     refine f0 (mS m0) fun e35_1 l35_1 => ?_
     subst e35_1
     refine Dyp 10 rfl (i0 rfl) (Dyp 11 rfl (Y.ext rfl rfl) (Dyp 12 rfl (Y.ext rfl rfl) (g9 (t7 14 rfl rfl kr (fun h => by cases h) (Ns [_, _] ty_Binding rfl) (fun _ _ => (Dyp 15 rfl (D8 rfl) (o0 kr (o4 (o4 (o4 (o4 (o4 ?_))))))))))))
     exact P8 (b10, a35_0, c35_0, a35_1, c35_1) trivial ⟨rfl, rfl, rfl, rfl, rfl, rfl, rfl, rfl, trivial⟩ (.refl _)
   ·obtain ⟨b10, a35_0, c35_0, a35_1, c35_1⟩ := kM
    try dsimp only
    refine Et (Ew Z1 (Em rfl (u5 (fun q38 => ?_) (fun q38 => ?_))))
    ·refine Eu (j9 rfl (Ez Z5 (Em rfl (Ey rfl (o1 (cs := [_, _]) ty_Binding rfl (Has.pt m0) rfl) (Est rfl (Nb [_] [_, _] us_Bindings ty_Binding rfl rfl) (fun b41 _ => (l4 (l4 (g9 (o4 (Est rfl (u4 (E := J5) (ex := (cond (j0 l[g] (f7, d6) c7[h]) (k7 l[g] (f7, d6) c7[h]).1 [], cond (j0 l[g] (f7, d6) c7[h]) (k7 l[g] (f7, d6) c7[h]).2 [])) us_Bindings ty_Binding rfl rfl rfl (S0 (x := (cond (j0 l[g] (f7, d6) c7[h]) (k7 l[g] (f7, d6) c7[h]).1 [], cond (j0 l[g] (f7, d6) c7[h]) (k7 l[g] (f7, d6) c7[h]).2 [])) Own.ow Own.ow) rfl bn bn dc) (fun p42 _ => (Ei rfl (En (n9 (Et (Ez Z3 (Em rfl (Ey rfl ((Y.add rfl rfl om om).yd) (Ei rfl (Eu (d7 (Ent.drop (i9 (congrArg (ow y8 [_]) (show (B5 (l.take g) (f7, d6) c7 ++ E1 l[g] (f7, d6) (c7.take h)) ++ [(cond (j0 l[g] (f7, d6) c7[h]) (k7 l[g] (f7, d6) c7[h]).1 [], cond (j0 l[g] (f7, d6) c7[h]) (k7 l[g] (f7, d6) c7[h]).2 [])] = B5 (l.take g) (f7, d6) c7 ++ E1 l[g] (f7, d6) (c7.take (h + 1)) from by grind [H7, J4, J6, H9, d1, d2, t1, t2])) ?_))))))))))))))))))))))))
     refine d7 (d7 ?_)
     exact Ea (h + 1, p42.1, ((B5 (l.take g) (f7, d6) c7 ++ E1 l[g] (f7, d6) (c7.take h)).length + 1), p42.2) ⟨oz, trivial⟩
    ·refine Eu (j8 rfl (f5 (n9 (Et (Ez Z3 (Em rfl (Ey rfl ((Y.add rfl rfl om om).yd) (Ei rfl (Eu (Ent.drop (Ent.drop (Ent.drop (i9 (congrArg (ow y8 [_]) (show B5 (l.take g) (f7, d6) c7 ++ E1 l[g] (f7, d6) (c7.take h) = B5 (l.take g) (f7, d6) c7 ++ E1 l[g] (f7, d6) (c7.take (h + 1)) from by grind [H7, J4, J6, H9, d1, d2, t1, t2])) (d7 (d7 ?_)))))))))))))))
     exact Ea (h + 1, aA1_0, (B5 (l.take g) (f7, d6) c7 ++ E1 l[g] (f7, d6) (c7.take h)).length, cA1_0) ⟨oz, trivial⟩
  ·refine Eu (j8 rfl (E.exit (l2 (l2 (w8 (n9 (Et (Ez Z3 (Em rfl (Ey rfl ((Y.add rfl rfl om om).yd) (Ei rfl (Eu (i9 (congrArg (ow y8 [_]) (show B5 (l.take g) (f7, d6) c7 ++ E1 l[g] (f7, d6) (c7.take h) = B5 (l.take (g + 1)) (f7, d6) c7 from by grind [H7, J4, J6, H9, d1, d2, t1, t2])) (d7 (d7 ?_)))))))))))))))
   exact Ea (g + 1, aA1_0, (B5 (l.take g) (f7, d6) c7 ++ E1 l[g] (f7, d6) (c7.take h)).length, cA1_0) ⟨oz, trivial⟩
 ·refine Eu (j8 rfl (E.exit (l2 (l2 (w8 (Et (Ew Z2 (Em rfl (Ei rfl (Eu (E.ret (i9 (congrArg (ow y8 [_]) (show _ = B5 l (f7, d6) c7 by grind [H7, J4, J6, H9, d1, d2, t1, t2])) ?_))))))))))))
  exact Fg rfl rfl (_, _, _) rfl rfl
theorem R7 (hqa : f4.length ≤ 4) (hqt : ∀ a ∈ f4, a.2.length ≤ 3) (hf : ∀ a ∈ f4, Few a c7) : Tr Tryz.prog 27 [.agg #[.slice o3 s9 o2, .slice m7 r6 l7], .slice a_facts m_facts c_facts] (fun w L => Ro w L eIs [.slice o3 s9 o2] i7 ∧ Ro w L C2 [.slice m7 r6 l7] f4 ∧ Ro w L B9 [.slice a_facts m_facts c_facts] c7) [] (κ := Option Addr × Nat × Nat) (fun k => True) (fun k => .slice k.1 k.2.1 k.2.2) (fun k => [ow y8 [.slice k.1 k.2.1 k.2.2] (r8 f4 c7)]) := by
 refine Tr.intro Tryz.func27 rfl (n := 23) rfl (by decide +kernel) bl (fr := [(0, .agg #[.slice o3 s9 o2, .slice m7 r6 l7]), (1, .slice a_facts m_facts c_facts)]) rfl fun w L hR => ?_
 obtain ⟨w4, s5, hfacts⟩ := hR
 obtain ⟨rfl, I4⟩ := w4.slen
 obtain ⟨rfl, G5⟩ := s5.slen
 obtain ⟨rfl, lfacts⟩ := hfacts.slen
 refine Ew Z2 (Est rfl (N.box (cs := [_, _]) rfl dc rfl) (fun b2 _ => (Ei rfl (Ev Z3 (Ey rfl ((E3 (pvs := []) (cs := [_, _]) ty_Binding pl_Binding rfl rfl).yd) (Est rfl (Nb [_] [_, _] us_Bindings ty_Binding rfl rfl) (fun b9 _ => (l3 (A := _ :: _) (S8 (E := J5) (e := tBinding) (S0 (x := ([], [])) Own.nil Own.nil)) rfl (Ei rfl (Eu (Eq_ (Ew Z4 (Ey rfl ((f9 fo_Query_1 ty_Atoms dc rfl).yd) (Ey rfl (f6 ty_Atoms rfl (Hz (mS m0) 1 rfl) rfl) (Ey rfl ((Y.len us_Atoms rfl).yd) (Em rfl (Eu (E.block (i9 (congrArg (ow y8 [_]) (show [([], [])] = r8 (f4.take 0) c7 from by first | rfl | (simp; done) | grind [O3, M3, d1, d2, t1, t2])) (E.loop (κ := Nat × Option Addr × Nat × Nat) (fun g => g.1 ≤ f4.length ∧ True) (fun g => [(1, .slice a_facts c7.length c_facts), (5, .slice g.2.1 g.2.2.1 g.2.2.2), (11, .slice m7 f4.length l7), (12, .int .i64 (↑f4.length : Int)), (13, .int .i64 (↑g.1 : Int))]) (fun g => [ow y8 [.slice g.2.1 g.2.2.1 g.2.2.2] (r8 (f4.take g.1) c7), pt b2 27 [.slice o3 i7.length o2, .slice m7 f4.length l7]]) (fun g => f4.length - g.1) (0, (some ⟨b9, 0, none⟩), 1, 1) ⟨Nat.zero_le _, by simp⟩ ⟨rfl, rfl, rfl, rfl, rfl, trivial⟩ (.refl _) (fun g pg => ?_)))))))))))))))))))))
 obtain ⟨g, aA0_0, mA0_0, cA0_0⟩ := g
 try dsimp only at pg
 try dsimp only
 obtain ⟨pk, pa⟩ := pg
 refine f0 m0 fun eaA0_0 laA0_0 => ?_
 subst eaA0_0
 refine Ew Z1 (Ey rfl ((Y.lss rfl rfl).yd) (j4 (fun q14 => ?_) (fun q14 => ?_)))
 ·obtain ⟨eb15, eo15, ec15, ea15, er15, el15, eh15⟩ := s5.elem g om
  obtain ⟨xa15_0, xc15_0, rfl, ei15_0, xh15_0⟩ := M8 er15
  have := xh15_0.slen.2
  refine Eu (Eq_ (j9 rfl (f5 (Et (Eq_ (E.block (Ew Z4 (Ey rfl ((o6 us_Atoms ty_Atom rfl ea15 rfl g rfl om).yd) (Ey rfl (o1 (cs := [_, _]) ty_Atom rfl (eh15 _) rfl) (Est rfl (N.alloc ty_Atom dc) (fun b7 _ => (Est rfl (Ns [_, _] ty_Atom rfl) (fun _ _ => (Eu (Ez Z5 (Em rfl (Ey rfl (o1 (cs := [_, _]) ty_Atom rfl (Has.pt m0) rfl) (Em rfl (Est rfl (N.call (a2F (fun b hb => by have := (a0l (c7 := c7) hf hqa hqt (g := g) om).2 b hb; omega) (Nat.le_trans (hqt _ (List.getElem_mem om)) dc) (hf _ (List.getElem_mem om)) (a0l (c7 := c7) hf hqa hqt (g := g) om).1) rfl rfl rfl dc rfl (fun w Lp hA => ⟨hA.ow (mS m0), ei15_0, hA.ro xh15_0, hA.ro hfacts⟩)) (fun k20 _ => ?_))))))))))))))))))))
  obtain ⟨a20, m20, c20⟩ := k20
  refine f0 m0 fun e20 l20 => ?_
  subst e20
  refine Ei rfl (En (n9 (Et (Ez Z2 (Ey rfl ((Y.add rfl rfl om om).yd) (Em rfl (Eu (d7 (Ent.drop (d7 (Ent.drop (i9 (congrArg (ow y8 [_]) (show B5 (r8 (f4.take g) c7) f4[g] c7 = r8 (f4.take (g + 1)) c7 from by grind [O3, M3, d1, d2, t1, t2])) (d7 (d7 ?_))))))))))))))
  exact Ea (g + 1, a20, (B5 (r8 (f4.take g) c7) f4[g] c7).length, c20) ⟨oz, trivial⟩
 ·refine Eu (Eq_ (j8 rfl (E.exit (l2 (l2 (w8 (Et (Ew Z2 (Em rfl (Ei rfl (Eu (E.ret (i9 (congrArg (ow y8 [_]) (show _ = r8 f4 c7 by grind [O3, M3, d1, d2, t1, t2])) ?_)))))))))))))
  exact Fg rfl rfl (_, _, _) rfl rfl
theorem X4 (hqa : f4.length ≤ 4) (hqt : ∀ a ∈ f4, a.2.length ≤ 3) (hf : ∀ a ∈ f4, Few a c7) : Tr Tryz.prog 28 [.agg #[.slice o3 s9 o2, .slice m7 r6 l7], .slice a_facts m_facts c_facts] (fun w L => Ro w L eIs [.slice o3 s9 o2] i7 ∧ Ro w L C2 [.slice m7 r6 l7] f4 ∧ Ro w L B9 [.slice a_facts m_facts c_facts] c7) [] (κ := Option Addr × Nat × Nat) (fun k => True) (fun k => .slice k.1 k.2.1 k.2.2) (fun k => [ow y8 [.slice k.1 k.2.1 k.2.2] (r8 f4 c7)]) := by
 refine Tr.intro Tryz.func28 rfl (n := 25) rfl (by decide +kernel) bl (fr := [(0, .agg #[.slice o3 s9 o2, .slice m7 r6 l7]), (1, .slice a_facts m_facts c_facts)]) rfl fun w L hR => ?_
 obtain ⟨w4, s5, hfacts⟩ := hR
 obtain ⟨rfl, I4⟩ := w4.slen
 obtain ⟨rfl, G5⟩ := s5.slen
 obtain ⟨rfl, lfacts⟩ := hfacts.slen
 refine Ew Z2 (Est rfl (N.box (cs := [_, _]) rfl dc rfl) (fun b2 _ => (Ei rfl (Ev Z3 (Ey rfl ((E3 (pvs := []) (cs := [_, _]) ty_Binding pl_Binding rfl rfl).yd) (Est rfl (Nb [_] [_, _] us_Bindings ty_Binding rfl rfl) (fun b8 _ => (l3 (A := _ :: _) (S8 (E := J5) (e := tBinding) (S0 (x := ([], [])) Own.nil Own.nil)) rfl (Ei rfl (Eu (Eq_ (Ew Z1 (Ei rfl (Eu (E.block (i9 (congrArg (ow y8 [_]) (show [([], [])] = r8 (f4.take 0) c7 from by first | rfl | (simp; done) | grind [O3, M3, d1, d2, t1, t2])) (E.loop (κ := Nat × Option Addr × Nat × Nat) (fun g => g.1 ≤ f4.length ∧ True) (fun g => [(1, .slice a_facts c7.length c_facts), (2, .pointer (some ⟨b2, 0, none⟩)), (5, .slice g.2.1 g.2.2.1 g.2.2.2), (6, .int .i64 (↑g.1 : Int))]) (fun g => [ow y8 [.slice g.2.1 g.2.2.1 g.2.2.2] (r8 (f4.take g.1) c7), pt b2 27 [.slice o3 i7.length o2, .slice m7 f4.length l7]]) (fun g => f4.length - g.1) (0, (some ⟨b8, 0, none⟩), 1, 1) ⟨Nat.zero_le _, by simp⟩ ⟨rfl, rfl, rfl, rfl, trivial⟩ (.refl _) (fun g pg => ?_))))))))))))))))))
 obtain ⟨g, aA0_0, mA0_0, cA0_0⟩ := g
 try dsimp only at pg
 try dsimp only
 obtain ⟨pk, pa⟩ := pg
 refine f0 m0 fun eaA0_0 laA0_0 => ?_
 subst eaA0_0
 refine Eq_ (Ew Z5 (Em rfl (Ey rfl ((f9 fo_Query_1 ty_Atoms dc rfl).yd) (Ey rfl (f6 ty_Atoms rfl (Hz (mS m0) 1 rfl) rfl) (Ey rfl ((Y.len us_Atoms rfl).yd) (Ey rfl ((Y.lss rfl rfl).yd) (j4 (fun q13 => ?_) (fun q13 => ?_))))))))
 ·refine Eu (j9 rfl (f5 (Et (Eq_ (E.block (Ez Z9 (Em rfl (Ey rfl ((f9 fo_Query_1 ty_Atoms dc rfl).yd) (Ey rfl (f6 ty_Atoms rfl (Hz (mS m0) 1 rfl) rfl) (Em rfl ?_))))))))))
  obtain ⟨eb20, eo20, ec20, ea20, er20, el20, eh20⟩ := s5.elem g om
  obtain ⟨xa20_0, xc20_0, rfl, ei20_0, xh20_0⟩ := M8 er20
  have := xh20_0.slen.2
  refine Ey rfl ((o6 us_Atoms ty_Atom rfl ea20 rfl g rfl om).yd) (Ey rfl (o1 (cs := [_, _]) ty_Atom rfl (eh20 _) rfl) (Em rfl (Est rfl (N.call (a2A (fun b hb => by have := (a0l (c7 := c7) hf hqa hqt (g := g) om).2 b hb; omega) (Nat.le_trans (hqt _ (List.getElem_mem om)) dc) (hf _ (List.getElem_mem om)) (a0l (c7 := c7) hf hqa hqt (g := g) om).1) rfl rfl rfl dc rfl (fun w Lp hA => ⟨hA.ow m0, ei20_0, hA.ro xh20_0, hA.ro hfacts⟩)) (fun k23 _ => ?_))))
  obtain ⟨a23, m23, c23⟩ := k23
  refine f0 m0 fun e23 l23 => ?_
  subst e23
  refine Ei rfl (En (n9 (Et (Ez Z3 (Em rfl (Ey rfl ((Y.add rfl rfl om om).yd) (Ei rfl (Eu (d7 (Ent.drop (i9 (congrArg (ow y8 [_]) (show B5 (r8 (f4.take g) c7) f4[g] c7 = r8 (f4.take (g + 1)) c7 from by grind [O3, M3, d1, d2, t1, t2])) (d7 (d7 ?_)))))))))))))
  exact Ea (g + 1, a23, (B5 (r8 (f4.take g) c7) f4[g] c7).length, c23) ⟨oz, trivial⟩
 ·refine Eu (j8 rfl (E.exit (l2 (l2 (w8 (Et (Ew Z2 (Em rfl (Ei rfl (Eu (E.ret (i9 (congrArg (ow y8 [_]) (show _ = r8 f4 c7 by grind [O3, M3, d1, d2, t1, t2])) ?_))))))))))))
  exact Fg rfl rfl (_, _, _) rfl rfl
end Go.Proofs.YtfnbilpemdgkkaaGreatDoor
