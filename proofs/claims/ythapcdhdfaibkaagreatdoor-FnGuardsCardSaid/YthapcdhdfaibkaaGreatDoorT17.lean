import Derived.Test.YthapcdhdfaibkaaGreatDoorT18
namespace Go.Proofs.YthapcdhdfaibkaaGreatDoor
open Go.RowKit
set_option linter.all false
set_option maxHeartbeats 2000000
attribute [local irreducible] Nop Yd Yp Ent Has Tr FnP FnP2 Src M5 U1 V6 W3 G3
variable {l0 n8 : Int} {d6 d4 : List IL} {l : List (List Int × List Int)} {j9 f8 f6 f9 j8 : List Int} {H1 D5 B6 y5 B5 w5 I1 E1 m_l c_l m_facts c_facts D9 y8 C6 v6 : Nat} {D4 y4 w6 E3 a_l a_facts y9 v7 : Option Addr}
theorem a7o (hb1 : j9.length ≤ 1000000) (hb2 : f8.length ≤ 1000000) : Tr Tryz.prog 346 [.agg #[.slice D4 H1 D5, .slice y4 B6 y5]] (fun w L => Ro w L eIs [.slice D4 H1 D5] j9 ∧ Ro w L eIs [.slice y4 B6 y5] f8) [] (κ := (SL) × (SL)) (fun k => True) (fun k => .agg #[.slice k.1.1 k.1.2.1 k.1.2.2, .slice k.2.1 k.2.2.1 k.2.2.2]) (fun k => [ow eIs [.slice k.1.1 k.1.2.1 k.1.2.2] j9, ow eIs [.slice k.2.1 k.2.2.1 k.2.2.2] f8]) := by
 refine Ti1 Tryz.func346 10 rfl fun w L hR => ?_
 obtain ⟨C7, w9⟩ := hR
 obtain ⟨rfl, a0f⟩ := C7.slen
 obtain ⟨rfl, Q7⟩ := w9.slen
 refine Ew Z2<|Est rfl (N.box (cs := [_, _]) rfl dc rfl)<|fun b1 _ => Est rfl (N.alloc ty_Binding dc)<|fun b2 _ => Eu<|Eq_<|D.region (fun j => !(Nat.beq j 7)) mixed<|Df 0 1 fo_Binding_0 ty_Is rfl (Hz (mS m0) 0 rfl)<|Df 3 4 fo_Binding_1 ty_Is rfl (Hz (mS m0) 1 rfl)<|Dl 2 rfl (a3q fc) rfl (fun hA => hA.ro C7)<|fun a5 c5 l5 => Dl 5 rfl (a3q fc) rfl (fun hA => hA.ro w9)<|fun a8 c8 l8 => Dyp 6 rfl (M4 (pvs := [_, _]) (cs := [_, _]) ty_Binding pl_Binding rfl rfl)<|i8<|E7 7 rfl rfl kr (fun h => by cases h) (Ns [_, _] ty_Binding rfl)<|fun _ _ => n9 kr<|Et<|E.ret<|f5<|i8<|f5<|f5<|S0 br rfl rfl (mS<|mS m0) ty_Binding rfl ((_, _, _), (_, _, _)) trivial rfl (J := _) (.refl _)<|.inl rfl
theorem b1F (hb1 : j9.length ≤ 1000000) (hb2 : f8.length ≤ 1000000) : Tr Tryz.prog 322 [.agg #[.slice D4 H1 D5, .slice y4 B6 y5]] (fun w L => Ro w L eIs [.slice D4 H1 D5] j9 ∧ Ro w L eIs [.slice y4 B6 y5] f8) [] (κ := (SL) × (SL)) (fun k => True) (fun k => .agg #[.slice k.1.1 k.1.2.1 k.1.2.2, .slice k.2.1 k.2.2.1 k.2.2.2]) (fun k => [ow eIs [.slice k.1.1 k.1.2.1 k.1.2.2] j9, ow eIs [.slice k.2.1 k.2.2.1 k.2.2.2] f8]) := by
 refine Ti1 Tryz.func322 12 rfl fun w L hR => ?_
 obtain ⟨C7, w9⟩ := hR
 obtain ⟨rfl, a0f⟩ := C7.slen
 obtain ⟨rfl, Q7⟩ := w9.slen
 refine Ew Z2<|Est rfl (N.box (cs := [_, _]) rfl dc rfl)<|fun b1 _ => Est rfl (N.alloc ty_Binding dc)<|fun b2 _ => Eu<|Eq_<|a1X (κ := (Option Addr × Nat) × (Option Addr × Nat)) (fun _ => True) (fun kM => [(2, .pointer<|some ⟨b2, 0, none⟩)]) (fun kM => [pt b2 114 [.slice kM.1.1 j9.length kM.1.2, .slice kM.2.1 f8.length kM.2.2], ow eIs [.slice kM.2.1 f8.length kM.2.2] f8, ow eIs [.slice kM.1.1 j9.length kM.1.2] j9, pt b1 114 [.slice D4 j9.length D5, .slice y4 f8.length y5]]) ?_<|fun kM _ => ?_
 ·refine D.region (fun j => !(Nat.beq j 9)) mixed<|Df 1 2 fo_Binding_0 ty_Is rfl (Hz (mS m0) 0 rfl)<|Df 5 6 fo_Binding_1 ty_Is rfl (Hz (mS m0) 1 rfl)<|a4c (i := 0) (j := 4) kr ?_ ?_
  ·refine a1R 0 rfl rfl (fun _ => rfl) (Nb [] [] us_Is i7 rfl rfl)<|fun b3 _ => Ent.drop<|a4c (i := 3) (j := 4) kr ?_ ?_
   ·refine a1R 3 rfl rfl (fun _ => rfl) (R1 (E := Enc.int) Plain.int us_Is i7 rfl rfl rfl C7 bn bn dc)<|fun p6 _ => E7 4 rfl rfl kr (fun _ => rfl) (Nb [] [] us_Is i7 rfl rfl)<|fun b7 _ => Ent.drop<|E7 7 rfl rfl kr (fun _ => rfl) (R1 (E := Enc.int) Plain.int us_Is i7 rfl rfl rfl w9 bn bn dc)<|fun p10 _ => Dyp 8 rfl (M4 (pvs := [_, _]) (cs := [_, _]) ty_Binding pl_Binding rfl rfl)<|i8<|E7 9 rfl rfl kr (fun h => by cases h) (Ns [_, _] ty_Binding rfl)<|fun _ _ => n9 kr<|a4G<|a4G<|a4G<|a4G<|U4 (p6, p10) trivial ⟨rfl, trivial⟩<|.refl _
   ·refine a1R 4 rfl rfl (fun _ => rfl) (Nb [] [] us_Is i7 rfl rfl)<|fun b7 _ => Ent.drop<|E7 3 rfl rfl kr (fun _ => rfl) (R1 (E := Enc.int) Plain.int us_Is i7 rfl rfl rfl C7 bn bn dc)<|fun p6 _ => E7 7 rfl rfl kr (fun _ => rfl) (R1 (E := Enc.int) Plain.int us_Is i7 rfl rfl rfl w9 bn bn dc)<|fun p10 _ => Dyp 8 rfl (M4 (pvs := [_, _]) (cs := [_, _]) ty_Binding pl_Binding rfl rfl)<|i8<|E7 9 rfl rfl kr (fun h => by cases h) (Ns [_, _] ty_Binding rfl)<|fun _ _ => n9 kr<|a4G<|a4G<|a4G<|a4G<|U4 (p6, p10) trivial ⟨rfl, trivial⟩<|.refl _
  ·refine a1R 4 rfl rfl (fun _ => rfl) (Nb [] [] us_Is i7 rfl rfl)<|fun b7 _ => Ent.drop<|E7 0 rfl rfl kr (fun _ => rfl) (Nb [] [] us_Is i7 rfl rfl)<|fun b3 _ => Ent.drop<|E7 3 rfl rfl kr (fun _ => rfl) (R1 (E := Enc.int) Plain.int us_Is i7 rfl rfl rfl C7 bn bn dc)<|fun p6 _ => E7 7 rfl rfl kr (fun _ => rfl) (R1 (E := Enc.int) Plain.int us_Is i7 rfl rfl rfl w9 bn bn dc)<|fun p10 _ => Dyp 8 rfl (M4 (pvs := [_, _]) (cs := [_, _]) ty_Binding pl_Binding rfl rfl)<|i8<|E7 9 rfl rfl kr (fun h => by cases h) (Ns [_, _] ty_Binding rfl)<|fun _ _ => n9 kr<|a4G<|a4G<|a4G<|a4G<|U4 (p6, p10) trivial ⟨rfl, trivial⟩<|.refl _
 ·obtain ⟨p6, p10⟩ := kM
  try dsimp only
  refine Et<|E.ret<|f5<|i8<|f5<|f5<|S0 br rfl rfl (mS<|mS m0) ty_Binding rfl ((_, _, _), (_, _, _)) trivial rfl (J := _) (.refl _)<|.inl rfl
theorem b0k {v : Int} : TB Tryz.prog 350 [.agg #[.slice D4 H1 D5, .slice y4 B6 y5], .int .i64 v] (fun w L => Ro w L eIs [.slice D4 H1 D5] j9 ∧ Ro w L eIs [.slice y4 B6 y5] f8) (!unb (j9, f8) v) := by
 refine Ti2 Tryz.func350 27 rfl fun w L hR => ?_
 obtain ⟨C7, w9⟩ := hR
 obtain ⟨rfl, a0f⟩ := C7.slen
 obtain ⟨rfl, Q7⟩ := w9.slen
 refine Ew Z2<|Est rfl (N.box (cs := [_, _]) rfl dc rfl)<|fun b2 _ => Ei rfl<|Eu<|Eq_<|Ew Z1<|Ei rfl<|Eu<|E.block<|Lo (κ := Nat) (fun g => g ≤ (min j9.length f8.length) ∧ (j9.take<|min j9.length f8.length).any (fun x => decide (x = v)) = ((j9.take<|min j9.length f8.length).drop g).any (fun x => decide (x = v))) (fun g => [(1, .int .i64 v), (2, .pointer<|some ⟨b2, 0, none⟩), (5, .int .i64 (g : Int))]) (fun g => [pt b2 114 [.slice D4 j9.length D5, .slice y4 f8.length y5]]) (fun g => (min j9.length f8.length) - g) 0 ⟨Nat.zero_le _, by simp⟩<|fun g pg => ?_
 obtain ⟨pk, pa⟩ := pg
 refine Eq_<|Ew Z12<|Em rfl<|Lz fo_Binding_0 ty_Is rfl m0 rfl<|Yln us_Is rfl<|Ylt rfl<|l3 (fun q10 => ?_)<|fun q10 => ?_
 ·refine Em rfl<|Em rfl<|Lz fo_Binding_1 ty_Is rfl m0 rfl<|Yln us_Is rfl<|Ylt rfl<|l3 (fun q16 => ?_)<|fun q16 => ?_
  ·refine Ypt rfl<|Eu<|Ct<|Eq_<|E.block<|Ew Z7<|Lz fo_Binding_0 ty_Is rfl m0 rfl<|Em rfl ?_
   obtain ⟨eb23, eo23, ea23, ei23, eh23⟩ := C7.elemI g om
   refine Il us_Is i7 rfl ea23 g rfl om rfl (eh23 _)<|Em rfl<|Yeq rfl<|l3 (fun q26 => ?_)<|fun q26 => ?_
   ·refine Eu<|r6 rfl<|Ew Z1<|Ei rfl<|Eu<|E.ret<|u6<|i9<|i9<|u6<|i9<|Fb rfl rfl (by grind [unb, a3p, a5p, d1, d2, t1, t2])
   ·refine Eu<|r7 rfl<|v8<|o6<|Et<|Ez Z3<|Em rfl<|Yad rfl om om<|Ei rfl ?_
    exact Eu<|t7 br (g + 1) rs (.refl _) ⟨by omega, by grind [a3p, d1, d2, t1, t2]⟩ om
  ·refine Ypt rfl<|Eu<|r7 rfl<|E.exit<|l4<|l4<|w8<|Et<|Ew Z1<|Ei rfl<|Eu<|E.ret<|Fb rfl rfl (by grind [unb, a3p, a5p, d1, d2, t1, t2])
 ·refine Em rfl<|Es rfl<|Es rfl<|Es rfl<|Es rfl<|Es rfl<|Ypf rfl<|Eu<|r7 rfl<|E.exit<|l4<|l4<|w8<|Et<|Ew Z1<|Ei rfl<|Eu<|E.ret<|Fb rfl rfl (by grind [unb, a3p, a5p, d1, d2, t1, t2])
theorem a8Q (hb1 : j9.length ≤ 1000) (hb2 : f8.length ≤ 1000) (hat : f6.length ≤ 1000) : Tr Tryz.prog 295 [.agg #[.slice D4 H1 D5, .slice y4 B6 y5], .agg #[.int .i64 l0, .slice w6 B5 w5], .agg #[.int .i64 n8, .slice E3 I1 E1]] (fun w L => Ro w L eIs [.slice D4 H1 D5] j9 ∧ Ro w L eIs [.slice y4 B6 y5] f8 ∧ I64 l0 ∧ Ro w L eIs [.slice w6 B5 w5] f6 ∧ I64 n8 ∧ Ro w L eIs [.slice E3 I1 E1] f9) [] (κ := (SL) × (SL)) (fun k => True) (fun k => .tuple #[.agg #[.slice k.1.1 k.1.2.1 k.1.2.2, .slice k.2.1 k.2.2.1 k.2.2.2], .bool (s7 (j9, f8) (l0, f6) (n8, f9))]) (fun k => [ow eIs [.slice k.1.1 k.1.2.1 k.1.2.2] (cond (s7 (j9, f8) (l0, f6) (n8, f9)) (u9 (j9, f8) (l0, f6) (n8, f9)).1 []), ow eIs [.slice k.2.1 k.2.2.1 k.2.2.2] (cond (s7 (j9, f8) (l0, f6) (n8, f9)) (u9 (j9, f8) (l0, f6) (n8, f9)).2 [])]) := by
 refine Ti3 Tryz.func295 81 rfl fun w L hR => ?_
 obtain ⟨C7, w9, J4, y6, M3, C3⟩ := hR
 obtain ⟨rfl, a0f⟩ := C7.slen
 obtain ⟨rfl, Q7⟩ := w9.slen
 obtain ⟨rfl, Q5⟩ := y6.slen
 obtain ⟨rfl, a0l⟩ := C3.slen
 refine Ew Z5<|Est rfl (N.box (cs := [_, _]) rfl dc rfl)<|fun b3 _ => Est rfl (N.box (cs := [_, _]) rfl dc rfl)<|fun b4 _ => Est rfl (N.box (cs := [_, _]) rfl dc rfl)<|fun b5 _ => Est rfl (N.alloc ty_Binding dc)<|fun b6 _ => Ei rfl<|Eu<|Eq_<|Ew Z23<|Lz fo_Atom_0 i7 rfl (mS<|mS m0) rfl<|Lz fo_Fact_0 i7 rfl (mS m0) rfl<|Ey rfl ((Y.neq rfl rfl).yd)<|l3 (fun q15 => ?_)<|fun q15 => ?_
 ·refine Em rfl<|Es rfl<|Es rfl<|Es rfl<|Es rfl<|Es rfl<|Es rfl<|Es rfl<|Ypt rfl<|Em rfl<|Es rfl<|Es rfl<|Es rfl<|Es rfl<|Es rfl<|Es rfl<|Es rfl<|Ypt rfl<|Eu<|r6 rfl<|Ew Z3<|Ey rfl ((M4 (pvs := []) (cs := [_, _]) ty_Binding pl_Binding rfl rfl).yd)<|Est rfl (Ns [_, _] ty_Binding rfl)<|fun _ _ => Ei rfl<|Eu<|E.ret<|i9<|l6 (A := []) (Own.nil (E := Enc.int) (e := tI) (a := none)) rfl<|g9 (congrArg (ow eIs [_]) (show _ = cond (s7 (j9, f8) (l0, f6) (n8, f9)) (u9 (j9, f8) (l0, f6) (n8, f9)).2 [] by grind [s7, u9, B8, D2, D3, F0, F5, D1, d1, d2, t1, t2]))<|l6 (A := []) (Own.nil (E := Enc.int) (e := tI) (a := none)) rfl<|g9 (congrArg (ow eIs [_]) (show _ = cond (s7 (j9, f8) (l0, f6) (n8, f9)) (u9 (j9, f8) (l0, f6) (n8, f9)).1 [] by grind [s7, u9, B8, D2, D3, F0, F5, D1, d1, d2, t1, t2]))<|f5<|f5 ?_
  exact a2P br rfl rfl rfl (mS<|mS m0) ty_Binding rfl ((none, 0, 0), (none, 0, 0)) trivial (by rw [show (s7 (j9, f8) (l0, f6) (n8, f9)) = (false) from (by grind [s7, u9, B8, D2, D3, F0, F5, D1, d1, d2, t1, t2])]; try rfl) (J := _) (.refl _)<|.inl rfl
 ·refine Em rfl<|Lz fo_Atom_1 ty_Is rfl (mS<|mS m0) rfl<|Yln us_Is rfl<|Lz fo_Fact_1 ty_Is rfl (mS m0) rfl<|Yln us_Is rfl<|Ey rfl ((Y.neq rfl rfl).yd)<|l3 (fun q23 => ?_)<|fun q23 => ?_
  ·refine Ypf rfl<|Em rfl<|Es rfl<|Es rfl<|Es rfl<|Es rfl<|Es rfl<|Es rfl<|Es rfl<|Ypt rfl<|Eu<|r6 rfl<|Ew Z3<|Ey rfl ((M4 (pvs := []) (cs := [_, _]) ty_Binding pl_Binding rfl rfl).yd)<|Est rfl (Ns [_, _] ty_Binding rfl)<|fun _ _ => Ei rfl<|Eu<|E.ret<|i9<|l6 (A := []) (Own.nil (E := Enc.int) (e := tI) (a := none)) rfl<|g9 (congrArg (ow eIs [_]) (show _ = cond (s7 (j9, f8) (l0, f6) (n8, f9)) (u9 (j9, f8) (l0, f6) (n8, f9)).2 [] by grind [s7, u9, B8, D2, D3, F0, F5, D1, d1, d2, t1, t2]))<|l6 (A := []) (Own.nil (E := Enc.int) (e := tI) (a := none)) rfl<|g9 (congrArg (ow eIs [_]) (show _ = cond (s7 (j9, f8) (l0, f6) (n8, f9)) (u9 (j9, f8) (l0, f6) (n8, f9)).1 [] by grind [s7, u9, B8, D2, D3, F0, F5, D1, d1, d2, t1, t2]))<|f5<|f5 ?_
   exact a2P br rfl rfl rfl (mS<|mS m0) ty_Binding rfl ((none, 0, 0), (none, 0, 0)) trivial (by rw [show (s7 (j9, f8) (l0, f6) (n8, f9)) = (false) from (by grind [s7, u9, B8, D2, D3, F0, F5, D1, d1, d2, t1, t2])]; try rfl) (J := _) (.refl _)<|.inl rfl
  ·refine Ypf rfl<|Em rfl<|Lz fo_Binding_0 ty_Is rfl (mS<|mS<|mS m0) rfl<|Yln us_Is rfl<|Lz fo_Binding_1 ty_Is rfl (mS<|mS<|mS m0) rfl<|Yln us_Is rfl<|Ey rfl ((Y.neq rfl rfl).yd)<|l3 (fun q32 => ?_)<|fun q32 => ?_
   ·refine Ypf rfl<|Eu<|r6 rfl<|Ew Z3<|Ey rfl ((M4 (pvs := []) (cs := [_, _]) ty_Binding pl_Binding rfl rfl).yd)<|Est rfl (Ns [_, _] ty_Binding rfl)<|fun _ _ => Ei rfl<|Eu<|E.ret<|i9<|l6 (A := []) (Own.nil (E := Enc.int) (e := tI) (a := none)) rfl<|g9 (congrArg (ow eIs [_]) (show _ = cond (s7 (j9, f8) (l0, f6) (n8, f9)) (u9 (j9, f8) (l0, f6) (n8, f9)).2 [] by grind [s7, u9, B8, D2, D3, F0, F5, D1, d1, d2, t1, t2]))<|l6 (A := []) (Own.nil (E := Enc.int) (e := tI) (a := none)) rfl<|g9 (congrArg (ow eIs [_]) (show _ = cond (s7 (j9, f8) (l0, f6) (n8, f9)) (u9 (j9, f8) (l0, f6) (n8, f9)).1 [] by grind [s7, u9, B8, D2, D3, F0, F5, D1, d1, d2, t1, t2]))<|f5<|f5 ?_
    exact a2P br rfl rfl rfl (mS<|mS m0) ty_Binding rfl ((none, 0, 0), (none, 0, 0)) trivial (by rw [show (s7 (j9, f8) (l0, f6) (n8, f9)) = (false) from (by grind [s7, u9, B8, D2, D3, F0, F5, D1, d1, d2, t1, t2])]; try rfl) (J := _) (.refl _)<|.inl rfl
   ·refine Ypf rfl<|Eu<|Cf<|Ew Z4<|Ey rfl (k7 (cs := [_, _]) ty_Binding rfl (Has.pt<|mS<|mS<|mS m0) rfl)<|Est rfl (N.call (a7o fc fc) rfl rfl rfl dc rfl<|fun w Lp hA => ⟨hA.ro C7, hA.ro w9⟩)<|fun k36 _ => ?_
    obtain ⟨⟨a36_0, m36_0, c36_0⟩, ⟨a36_1, m36_1, c36_1⟩⟩ := k36
    refine r8 m0 ?_
    rintro rfl l36_0
    refine r8 (mS m0) ?_
    rintro rfl l36_1
    refine Est rfl (N.alloc ty_Binding dc)<|fun b8 _ => Est rfl (Ns [_, _] ty_Binding rfl)<|fun _ _ => Eu<|Eq_<|Ew Z4<|Lf fo_Atom_1 ty_Is rfl (Hs (Has.pt<|mS<|mS<|mS<|mS<|mS m0) 1 rfl)<|Yln us_Is rfl<|Em rfl<|Eu<|E.block<|f5<|g9 (congrArg (ow eIs [_]) (show _ = (I6 (j9, f8)<|(f6.zip f9).take 0).1 from by first | rfl | (simp; done) | grind [s7, u9, B8, D2, D3, F0, F5, D1, d1, d2, t1, t2]))<|i8<|g9 (congrArg (ow eIs [_]) (show _ = (I6 (j9, f8)<|(f6.zip f9).take 0).2 from by first | rfl | (simp; done) | grind [s7, u9, B8, D2, D3, F0, F5, D1, d1, d2, t1, t2]))<|Lo (κ := Nat × Option Addr × Nat × Nat × SL) (fun g => g.1 ≤ f6.length ∧ okV (j9, f8) (f6.zip f9) = okV (I6 (j9, f8)<|(f6.zip f9).take g.1) ((f6.zip f9).drop g.1)) (fun g => [(5, .pointer<|some ⟨b5, 0, none⟩), (6, .pointer<|some ⟨b6, 0, none⟩), (8, .pointer<|some ⟨b8, 0, none⟩), (38, .slice w6 f6.length w5), (39, .int .i64 (↑f6.length : Int)), (40, .int .i64 (↑g.1 : Int))]) (fun g => [ow eIs [.slice g.2.2.2.2.1 g.2.2.2.2.2.1 g.2.2.2.2.2.2]<|(I6 (j9, f8)<|(f6.zip f9).take g.1).2, ow eIs [.slice g.2.1 g.2.2.1 g.2.2.2.1]<|(I6 (j9, f8)<|(f6.zip f9).take g.1).1, pt b8 114 [.slice g.2.1 g.2.2.1 g.2.2.2.1, .slice g.2.2.2.2.1 g.2.2.2.2.2.1 g.2.2.2.2.2.2], pt b6 114 [.slice none 0 0, .slice none 0 0], pt b5 85 [.int .i64 n8, .slice E3 f9.length E1], pt b4 111 [.int .i64 l0, .slice w6 f6.length w5], pt b3 114 [.slice D4 j9.length D5, .slice y4 f8.length y5]]) (fun g => f6.length - g.1) (0, a36_0, (j9).length, c36_0, a36_1, (f8).length, c36_1) ⟨Nat.zero_le _, by rfl⟩<|fun g pg => ?_
    obtain ⟨g, aA0_0, mA0_0, cA0_0, aA0_1, mA0_1, cA0_1⟩ := g
    try dsimp only at pg
    try dsimp only
    obtain ⟨pk, pa⟩ := pg
    have jl := b5f (b := (j9, f8)) (t := f6) (v := f9) (g := g)
    have je := a6b (l := (f6.zip f9).take g) (x := (j9, f8)) (show j9.length = f8.length by omega)
    try dsimp only at jl
    refine r8 (mS m0) ?_
    rintro rfl laA0_0
    refine r8 m0 ?_
    rintro rfl laA0_1
    refine Ew Z1<|Ylt rfl<|l3 (fun q41 => ?_)<|fun q41 => ?_
    ·refine Eu<|Eq_<|Ct<|Eq_<|E.block<|Ew Z5<|Em rfl ?_
     obtain ⟨eb43, eo43, ea43, ei43, eh43⟩ := y6.elemI g om
     refine Il us_Is i7 rfl ea43 g rfl om rfl (eh43 _)<|Ei rfl<|Ei rfl<|Eu<|Eq_<|Ew Z8<|Em rfl<|E0 rfl a0Q rfl (fun _ => trivial)<|Ent.b (fun q46 => ?_)<|fun q46 => ?_
     ·refine Em rfl<|Ey rfl (k7 (cs := [_, _]) ty_Binding rfl (Has.pt<|mS<|mS m0) rfl)<|Em rfl<|E0 rfl a3e rfl (fun hA => ⟨hA.ow<|mS m0, hA.ow m0⟩)<|Ylt rfl<|l3 (fun q51 => ?_)<|fun q51 => ?_
      ·refine Ypt rfl<|Eu<|r6 rfl<|a1X (κ := (Option Addr × Nat) × (Option Addr × Nat)) (fun _ => True) (fun kM => [(5, .pointer<|some ⟨b5, 0, none⟩), (6, .pointer<|some ⟨b6, 0, none⟩), (8, .pointer<|some ⟨b8, 0, none⟩), (9, .int .i64 (g : Int)), (10, .int .i64 f6[g]), (38, .slice w6 f6.length w5), (39, .int .i64 (↑f6.length : Int)), (40, .int .i64 (g : Int))]) (fun kM => [pt b8 114 [.slice kM.1.1 (((I6 (j9, f8)<|(f6.zip f9).take g).1).length + 1) kM.1.2, .slice kM.2.1 (((I6 (j9, f8)<|(f6.zip f9).take g).2).length + 1) kM.2.2], ow eIs [.slice kM.2.1 (((I6 (j9, f8)<|(f6.zip f9).take g).2).length + 1) kM.2.2]<|((I6 (j9, f8)<|(f6.zip f9).take g).2) ++ [f9[g]], ow eIs [.slice kM.1.1 (((I6 (j9, f8)<|(f6.zip f9).take g).1).length + 1) kM.1.2]<|((I6 (j9, f8)<|(f6.zip f9).take g).1) ++ [f6[g]], pt b6 114 [.slice none 0 0, .slice none 0 0], pt b5 85 [.int .i64 n8, .slice E3 f9.length E1], pt b4 111 [.int .i64 l0, .slice w6 f6.length w5], pt b3 114 [.slice D4 j9.length D5, .slice y4 f8.length y5]]) ?_<|fun kM _ => ?_
       ·refine S7 [b8, b6, b5, b4, b3] (fun j => !(Nat.beq j 15) && !(Nat.beq j 17)) mixed<|C1 0 rfl rfl dc (C2 fo_Binding_0 ty_Is dc rfl) kr<|a0a 1 rfl rfl dc (W9 ty_Is rfl ((S3.pt (mS<|mS m0) (by simp)).sub (cs' := [_]) 0 rfl) rfl) kr<|C1 2 rfl rfl dc (O5 rfl) kr<|C1 5 rfl rfl dc (C2 fo_Binding_1 ty_Is dc rfl) kr<|a0a 6 rfl rfl dc (W9 ty_Is rfl ((S3.pt (mS<|mS m0) (by simp)).sub (cs' := [_]) 1 rfl) rfl) kr<|C1 7 rfl rfl dc (C2 fo_Fact_1 ty_Is dc rfl) kr<|a0a 8 rfl rfl dc (W9 ty_Is rfl ((S3.pt (mS<|mS<|mS<|mS m0) (by simp)).sub (cs' := [_]) 1 rfl) rfl) kr<|C1 9 rfl rfl dc (O5 rfl) kr ?_
        obtain ⟨eb63, eo63, ea63, ei63, eh63⟩ := C3.elemI g om
        refine C1 10 rfl rfl dc (z8 us_Is i7 rfl ea63 rfl g rfl om) kr<|a0a 11 rfl rfl dc (W9 i7 rfl (S3.ro eh63) rfl) kr<|C5 (i := 3) (j := 12) kr ?_ ?_
        ·refine K6 3 rfl rfl (fun _ _ => SameI.out) (Nb [_] [_] us_Is i7 rfl rfl)<|fun b56 _ => C5 (i := 4) (j := 12) kr ?_ ?_
         ·refine i8<|K6 4 rfl rfl (fun _ _ => SameI.out) (B0 (E := Enc.int) (ex := f6[g]) us_Is i7 rfl rfl rfl (Own.int ei43) rfl bn bn dc)<|fun p57 _ => C1 14 rfl rfl dc (C2 fo_Binding_0 ty_Is dc rfl) kr<|G2 12 rfl rfl kr (fun _ _ => SameI.out) (Nb [_] [_] us_Is i7 rfl rfl)<|fun b65 _ => i8<|G2 13 rfl rfl kr (fun _ _ => SameI.out) (B0 (E := Enc.int) (ex := f9[g]) us_Is i7 rfl rfl rfl (Own.int ei63) rfl bn bn dc)<|fun p66 _ => i8<|G2 15 rfl rfl kr (fun h => by cases h) (Ns [_, _] ty_Is rfl)<|fun _ _ => C1 16 rfl rfl dc (C2 fo_Binding_1 ty_Is dc rfl) kr<|G2 17 rfl rfl kr (fun h => by cases h) (Ns [_, _] ty_Is rfl)<|fun _ _ => U6 kr<|w7<|w7<|w7<|w7<|w7<|w7<|w7<|U4 (p57, p66) trivial ⟨rfl, rfl, rfl, rfl, rfl, rfl, rfl, rfl, trivial⟩<|.refl _
         ·refine K6 12 rfl rfl (fun _ _ => SameI.out) (Nb [_] [_] us_Is i7 rfl rfl)<|fun b65 _ => f5<|a4G<|G2 4 rfl rfl kr (fun _ _ => SameI.out) (B0 (E := Enc.int) (ex := f6[g]) us_Is i7 rfl rfl rfl (Own.int ei43) rfl bn bn dc)<|fun p57 _ => C1 14 rfl rfl dc (C2 fo_Binding_0 ty_Is dc rfl) kr<|f5<|i8<|G2 13 rfl rfl kr (fun _ _ => SameI.out) (B0 (E := Enc.int) (ex := f9[g]) us_Is i7 rfl rfl rfl (Own.int ei63) rfl bn bn dc)<|fun p66 _ => i8<|G2 15 rfl rfl kr (fun h => by cases h) (Ns [_, _] ty_Is rfl)<|fun _ _ => C1 16 rfl rfl dc (C2 fo_Binding_1 ty_Is dc rfl) kr<|G2 17 rfl rfl kr (fun h => by cases h) (Ns [_, _] ty_Is rfl)<|fun _ _ => U6 kr<|w7<|w7<|w7<|w7<|w7<|w7<|w7<|U4 (p57, p66) trivial ⟨rfl, rfl, rfl, rfl, rfl, rfl, rfl, rfl, trivial⟩<|.refl _
        ·refine K6 12 rfl rfl (fun _ _ => SameI.out) (Nb [_] [_] us_Is i7 rfl rfl)<|fun b65 _ => G2 3 rfl rfl kr (fun _ _ => SameI.out) (Nb [_] [_] us_Is i7 rfl rfl)<|fun b56 _ => a4G<|G2 4 rfl rfl kr (fun _ _ => SameI.out) (B0 (E := Enc.int) (ex := f6[g]) us_Is i7 rfl rfl rfl (Own.int ei43) rfl bn bn dc)<|fun p57 _ => C1 14 rfl rfl dc (C2 fo_Binding_0 ty_Is dc rfl) kr<|f5<|i8<|G2 13 rfl rfl kr (fun _ _ => SameI.out) (B0 (E := Enc.int) (ex := f9[g]) us_Is i7 rfl rfl rfl (Own.int ei63) rfl bn bn dc)<|fun p66 _ => i8<|G2 15 rfl rfl kr (fun h => by cases h) (Ns [_, _] ty_Is rfl)<|fun _ _ => C1 16 rfl rfl dc (C2 fo_Binding_1 ty_Is dc rfl) kr<|G2 17 rfl rfl kr (fun h => by cases h) (Ns [_, _] ty_Is rfl)<|fun _ _ => U6 kr<|w7<|w7<|w7<|w7<|w7<|w7<|w7<|U4 (p57, p66) trivial ⟨rfl, rfl, rfl, rfl, rfl, rfl, rfl, rfl, trivial⟩<|.refl _
       ·obtain ⟨p57, p66⟩ := kM
        try dsimp only
        refine Et<|Eq_<|D.region (fun j => true) mixed<|Dy 0 rfl (k7 (cs := [_, _]) ty_Binding rfl (Has.pt m0) rfl)<|Dm 1 rfl<|Df 3 4 fo_Fact_1 ty_Is rfl (Hz (mS<|mS<|mS<|mS m0) 1 rfl)<|Dm 5 rfl ?_
        obtain ⟨eb75, eo75, ea75, ei75, eh75⟩ := C3.elemI g om
        refine Dyp 6 rfl (z8 us_Is i7 rfl ea75 rfl g rfl om)<|Dy 7 rfl (B4 i7 rfl (eh75 _) rfl)<|D0 2 rfl a0L rfl (fun hA => ⟨hA.ow<|mS<|mS m0, hA.ow<|mS m0⟩)<|Dyp 8 rfl (Y.neq rfl rfl)<|l3 (fun q77 => ?_)<|fun q77 => ?_
        ·refine n9 kr<|Et<|r6 rfl<|Ew Z3<|Ey rfl ((M4 (pvs := []) (cs := [_, _]) ty_Binding pl_Binding rfl rfl).yd)<|a4G<|Est rfl (Ns [_, _] ty_Binding rfl)<|fun _ _ => Ei rfl<|Eu<|E.ret<|u6<|i9<|i9<|u6<|i9<|l6 (A := []) (Own.nil (E := Enc.int) (e := tI) (a := none)) rfl<|g9 (congrArg (ow eIs [_]) (show _ = cond (s7 (j9, f8) (l0, f6) (n8, f9)) (u9 (j9, f8) (l0, f6) (n8, f9)).2 [] by grind [s7, u9, B8, D2, D3, F0, F5, D1, d1, d2, t1, t2]))<|l6 (A := []) (Own.nil (E := Enc.int) (e := tI) (a := none)) rfl<|g9 (congrArg (ow eIs [_]) (show _ = cond (s7 (j9, f8) (l0, f6) (n8, f9)) (u9 (j9, f8) (l0, f6) (n8, f9)).1 [] by grind [s7, u9, B8, D2, D3, F0, F5, D1, d1, d2, t1, t2]))<|f5<|f5 ?_
         exact a2P br rfl rfl rfl (mS<|mS m0) ty_Binding rfl ((none, 0, 0), (none, 0, 0)) trivial (by rw [show (s7 (j9, f8) (l0, f6) (n8, f9)) = (false) from (by grind [s7, u9, B8, D2, D3, F0, F5, D1, d1, d2, t1, t2])]; try rfl) (J := _) (.refl _)<|.inl rfl
        ·refine n9 kr<|Et<|r7 rfl<|v8<|o6<|Et<|Ez Z2<|Yad rfl om om<|Em rfl<|Eu<|i8<|g9 (congrArg (ow eIs [_]) (show _ = (I6 (j9, f8)<|(f6.zip f9).take (g + 1)).1 from by grind [s7, u9, B8, D2, D3, F0, F5, D1, d1, d2, t1, t2]))<|i8<|g9 (congrArg (ow eIs [_]) (show _ = (I6 (j9, f8)<|(f6.zip f9).take (g + 1)).2 from by grind [s7, u9, B8, D2, D3, F0, F5, D1, d1, d2, t1, t2]))<|w7<|w7<|w7<|w7<|w7<|w7<|w7 ?_
         exact Ea (g + 1, p57.1, (((I6 (j9, f8)<|(f6.zip f9).take g).1).length + 1), p57.2, p66.1, (((I6 (j9, f8)<|(f6.zip f9).take g).2).length + 1), p66.2) ⟨oz, (show okV (j9, f8) (f6.zip f9) = okV (I6 (j9, f8)<|(f6.zip f9).take (g + 1)) ((f6.zip f9).drop (g + 1)) from by grind [s7, u9, B8, D2, D3, F0, F5, D1, d1, d2, t1, t2])⟩
      ·refine Ypt rfl<|Eu<|Cf<|Eq_<|D.region (fun j => true) mixed<|Dy 0 rfl (k7 (cs := [_, _]) ty_Binding rfl (Has.pt<|mS<|mS m0) rfl)<|Dm 1 rfl<|Df 3 4 fo_Fact_1 ty_Is rfl (Hz (mS<|mS<|mS<|mS m0) 1 rfl)<|Dm 5 rfl ?_
       obtain ⟨eb75, eo75, ea75, ei75, eh75⟩ := C3.elemI g om
       refine Dyp 6 rfl (z8 us_Is i7 rfl ea75 rfl g rfl om)<|Dy 7 rfl (B4 i7 rfl (eh75 _) rfl)<|D0 2 rfl a0L rfl (fun hA => ⟨hA.ow<|mS m0, hA.ow m0⟩)<|Dyp 8 rfl (Y.neq rfl rfl)<|l3 (fun q77 => ?_)<|fun q77 => ?_
       ·refine n9 kr<|Et<|r6 rfl<|Ew Z3<|Ey rfl ((M4 (pvs := []) (cs := [_, _]) ty_Binding pl_Binding rfl rfl).yd)<|a4G<|Est rfl (Ns [_, _] ty_Binding rfl)<|fun _ _ => Ei rfl<|Eu<|E.ret<|u6<|i9<|i9<|u6<|i9<|l6 (A := []) (Own.nil (E := Enc.int) (e := tI) (a := none)) rfl<|g9 (congrArg (ow eIs [_]) (show _ = cond (s7 (j9, f8) (l0, f6) (n8, f9)) (u9 (j9, f8) (l0, f6) (n8, f9)).2 [] by grind [s7, u9, B8, D2, D3, F0, F5, D1, d1, d2, t1, t2]))<|l6 (A := []) (Own.nil (E := Enc.int) (e := tI) (a := none)) rfl<|g9 (congrArg (ow eIs [_]) (show _ = cond (s7 (j9, f8) (l0, f6) (n8, f9)) (u9 (j9, f8) (l0, f6) (n8, f9)).1 [] by grind [s7, u9, B8, D2, D3, F0, F5, D1, d1, d2, t1, t2]))<|f5<|f5 ?_
        exact a2P br rfl rfl rfl (mS<|mS m0) ty_Binding rfl ((none, 0, 0), (none, 0, 0)) trivial (by rw [show (s7 (j9, f8) (l0, f6) (n8, f9)) = (false) from (by grind [s7, u9, B8, D2, D3, F0, F5, D1, d1, d2, t1, t2])]; try rfl) (J := _) (.refl _)<|.inl rfl
       ·refine n9 kr<|Et<|r7 rfl<|v8<|o6<|Et<|Ez Z2<|Yad rfl om om<|Em rfl<|Eu<|f5<|g9 (congrArg (ow eIs [_]) (show _ = (I6 (j9, f8)<|(f6.zip f9).take (g + 1)).1 from by grind [s7, u9, B8, D2, D3, F0, F5, D1, d1, d2, t1, t2]))<|f5<|g9 (congrArg (ow eIs [_]) (show _ = (I6 (j9, f8)<|(f6.zip f9).take (g + 1)).2 from by grind [s7, u9, B8, D2, D3, F0, F5, D1, d1, d2, t1, t2]))<|w7<|w7<|w7<|w7<|w7<|w7<|w7 ?_
        exact Ea (g + 1, aA0_0, _, cA0_0, aA0_1, _, cA0_1) ⟨oz, (show okV (j9, f8) (f6.zip f9) = okV (I6 (j9, f8)<|(f6.zip f9).take (g + 1)) ((f6.zip f9).drop (g + 1)) from by grind [s7, u9, B8, D2, D3, F0, F5, D1, d1, d2, t1, t2])⟩
     ·refine Em rfl<|Es rfl<|Es rfl<|Es rfl<|Es rfl<|Ypf rfl<|Eu<|Cf<|Eq_<|D.region (fun j => true) mixed<|Dy 0 rfl (k7 (cs := [_, _]) ty_Binding rfl (Has.pt<|mS<|mS m0) rfl)<|Dm 1 rfl<|Df 3 4 fo_Fact_1 ty_Is rfl (Hz (mS<|mS<|mS<|mS m0) 1 rfl)<|Dm 5 rfl ?_
      obtain ⟨eb75, eo75, ea75, ei75, eh75⟩ := C3.elemI g om
      refine Dyp 6 rfl (z8 us_Is i7 rfl ea75 rfl g rfl om)<|Dy 7 rfl (B4 i7 rfl (eh75 _) rfl)<|D0 2 rfl a0L rfl (fun hA => ⟨hA.ow<|mS m0, hA.ow m0⟩)<|Dyp 8 rfl (Y.neq rfl rfl)<|l3 (fun q77 => ?_)<|fun q77 => ?_
      ·refine n9 kr<|Et<|r6 rfl<|Ew Z3<|Ey rfl ((M4 (pvs := []) (cs := [_, _]) ty_Binding pl_Binding rfl rfl).yd)<|a4G<|Est rfl (Ns [_, _] ty_Binding rfl)<|fun _ _ => Ei rfl<|Eu<|E.ret<|u6<|i9<|i9<|u6<|i9<|l6 (A := []) (Own.nil (E := Enc.int) (e := tI) (a := none)) rfl<|g9 (congrArg (ow eIs [_]) (show _ = cond (s7 (j9, f8) (l0, f6) (n8, f9)) (u9 (j9, f8) (l0, f6) (n8, f9)).2 [] by grind [s7, u9, B8, D2, D3, F0, F5, D1, d1, d2, t1, t2]))<|l6 (A := []) (Own.nil (E := Enc.int) (e := tI) (a := none)) rfl<|g9 (congrArg (ow eIs [_]) (show _ = cond (s7 (j9, f8) (l0, f6) (n8, f9)) (u9 (j9, f8) (l0, f6) (n8, f9)).1 [] by grind [s7, u9, B8, D2, D3, F0, F5, D1, d1, d2, t1, t2]))<|f5<|f5 ?_
       exact a2P br rfl rfl rfl (mS<|mS m0) ty_Binding rfl ((none, 0, 0), (none, 0, 0)) trivial (by rw [show (s7 (j9, f8) (l0, f6) (n8, f9)) = (false) from (by grind [s7, u9, B8, D2, D3, F0, F5, D1, d1, d2, t1, t2])]; try rfl) (J := _) (.refl _)<|.inl rfl
      ·refine n9 kr<|Et<|r7 rfl<|v8<|o6<|Et<|Ez Z2<|Yad rfl om om<|Em rfl<|Eu<|f5<|g9 (congrArg (ow eIs [_]) (show _ = (I6 (j9, f8)<|(f6.zip f9).take (g + 1)).1 from by grind [s7, u9, B8, D2, D3, F0, F5, D1, d1, d2, t1, t2]))<|f5<|g9 (congrArg (ow eIs [_]) (show _ = (I6 (j9, f8)<|(f6.zip f9).take (g + 1)).2 from by grind [s7, u9, B8, D2, D3, F0, F5, D1, d1, d2, t1, t2]))<|w7<|w7<|w7<|w7<|w7<|w7<|w7 ?_
       exact Ea (g + 1, aA0_0, _, cA0_0, aA0_1, _, cA0_1) ⟨oz, (show okV (j9, f8) (f6.zip f9) = okV (I6 (j9, f8)<|(f6.zip f9).take (g + 1)) ((f6.zip f9).drop (g + 1)) from by grind [s7, u9, B8, D2, D3, F0, F5, D1, d1, d2, t1, t2])⟩
    ·refine Eu<|Eq_<|r7 rfl<|E.exit<|l4<|l4<|w8<|Et<|Ew Z3<|Ey rfl (k7 (cs := [_, _]) ty_Binding rfl (Has.pt<|mS<|mS m0) rfl)<|a4G<|Est rfl (Ns [_, _] ty_Binding rfl)<|fun _ _ => Ei rfl<|Eu<|E.ret<|f5<|g9 (congrArg (ow eIs [_]) (show _ = cond (s7 (j9, f8) (l0, f6) (n8, f9)) (u9 (j9, f8) (l0, f6) (n8, f9)).2 [] by grind [s7, u9, B8, D2, D3, F0, F5, D1, d1, d2, t1, t2]))<|i8<|g9 (congrArg (ow eIs [_]) (show _ = cond (s7 (j9, f8) (l0, f6) (n8, f9)) (u9 (j9, f8) (l0, f6) (n8, f9)).1 [] by grind [s7, u9, B8, D2, D3, F0, F5, D1, d1, d2, t1, t2]))<|f5<|f5 ?_
     exact a2P br rfl rfl rfl (mS<|mS m0) ty_Binding rfl ((_, _, _), (_, _, _)) trivial (by rw [show (s7 (j9, f8) (l0, f6) (n8, f9)) = (true) from (by grind [s7, u9, B8, D2, D3, F0, F5, D1, d1, d2, t1, t2])]; try rfl) (J := _) (.refl _)<|.inl rfl
theorem a4w (hb1 : j9.length ≤ 1000) (hb2 : f8.length ≤ 1000) (hat : f6.length ≤ 1000) : Tr Tryz.prog 303 [.agg #[.slice D4 H1 D5, .slice y4 B6 y5], .agg #[.int .i64 l0, .slice w6 B5 w5], .agg #[.int .i64 n8, .slice E3 I1 E1]] (fun w L => Ro w L eIs [.slice D4 H1 D5] j9 ∧ Ro w L eIs [.slice y4 B6 y5] f8 ∧ I64 l0 ∧ Ro w L eIs [.slice w6 B5 w5] f6 ∧ I64 n8 ∧ Ro w L eIs [.slice E3 I1 E1] f9) [] (κ := (SL) × (SL)) (fun k => True) (fun k => .tuple #[.agg #[.slice k.1.1 k.1.2.1 k.1.2.2, .slice k.2.1 k.2.2.1 k.2.2.2], .bool (s7 (j9, f8) (l0, f6) (n8, f9))]) (fun k => [ow eIs [.slice k.1.1 k.1.2.1 k.1.2.2] (cond (s7 (j9, f8) (l0, f6) (n8, f9)) (u9 (j9, f8) (l0, f6) (n8, f9)).1 []), ow eIs [.slice k.2.1 k.2.2.1 k.2.2.2] (cond (s7 (j9, f8) (l0, f6) (n8, f9)) (u9 (j9, f8) (l0, f6) (n8, f9)).2 [])]) := by
 refine Ti3 Tryz.func303 88 rfl fun w L hR => ?_
 obtain ⟨C7, w9, J4, y6, M3, C3⟩ := hR
 obtain ⟨rfl, a0f⟩ := C7.slen
 obtain ⟨rfl, Q7⟩ := w9.slen
 obtain ⟨rfl, Q5⟩ := y6.slen
 obtain ⟨rfl, a0l⟩ := C3.slen
 refine Ew Z5<|Est rfl (N.box (cs := [_, _]) rfl dc rfl)<|fun b3 _ => Est rfl (N.box (cs := [_, _]) rfl dc rfl)<|fun b4 _ => Est rfl (N.box (cs := [_, _]) rfl dc rfl)<|fun b5 _ => Est rfl (N.alloc ty_Binding dc)<|fun b6 _ => Ei rfl<|Ev Z4<|Ey rfl (k7 (cs := [_, _]) ty_Binding rfl (Has.pt<|mS<|mS<|mS m0) rfl)<|Est rfl (N.call (b1F fc fc) rfl rfl rfl dc rfl<|fun w Lp hA => ⟨hA.ro C7, hA.ro w9⟩)<|fun k12 _ => ?_
 obtain ⟨⟨a12_0, m12_0, c12_0⟩, ⟨a12_1, m12_1, c12_1⟩⟩ := k12
 refine r8 m0 ?_
 rintro rfl l12_0
 refine r8 (mS m0) ?_
 rintro rfl l12_1
 refine Est rfl (N.alloc ty_Binding dc)<|fun b8 _ => Est rfl (Ns [_, _] ty_Binding rfl)<|fun _ _ => Eu<|Eq_<|Ew Z23<|Lf fo_Atom_0 i7 rfl (Hs (Has.pt<|mS<|mS<|mS<|mS<|mS m0) 0 rfl)<|Lz fo_Fact_0 i7 rfl (mS<|mS<|mS<|mS m0) rfl<|Ey rfl ((Y.neq rfl rfl).yd)<|l3 (fun q17 => ?_)<|fun q17 => ?_
 ·refine Em rfl<|Es rfl<|Es rfl<|Es rfl<|Es rfl<|Es rfl<|Es rfl<|Es rfl<|Ypt rfl<|Em rfl<|Es rfl<|Es rfl<|Es rfl<|Es rfl<|Es rfl<|Es rfl<|Es rfl<|Ypt rfl<|Eu<|r6 rfl<|Ew Z3<|Ey rfl ((M4 (pvs := []) (cs := [_, _]) ty_Binding pl_Binding rfl rfl).yd)<|a4G<|Est rfl (Ns [_, _] ty_Binding rfl)<|fun _ _ => Ei rfl<|Eu<|E.ret<|i9<|l6 (A := []) (Own.nil (E := Enc.int) (e := tI) (a := none)) rfl<|g9 (congrArg (ow eIs [_]) (show _ = cond (s7 (j9, f8) (l0, f6) (n8, f9)) (u9 (j9, f8) (l0, f6) (n8, f9)).2 [] by grind [s7, u9, B8, D2, D3, F0, F5, D1, R7, d1, d2, t1, t2]))<|l6 (A := []) (Own.nil (E := Enc.int) (e := tI) (a := none)) rfl<|g9 (congrArg (ow eIs [_]) (show _ = cond (s7 (j9, f8) (l0, f6) (n8, f9)) (u9 (j9, f8) (l0, f6) (n8, f9)).1 [] by grind [s7, u9, B8, D2, D3, F0, F5, D1, R7, d1, d2, t1, t2]))<|f5<|f5 ?_
  exact a2P br rfl rfl rfl (mS<|mS m0) ty_Binding rfl ((none, 0, 0), (none, 0, 0)) trivial (by rw [show (s7 (j9, f8) (l0, f6) (n8, f9)) = (false) from (by grind [s7, u9, B8, D2, D3, F0, F5, D1, R7, d1, d2, t1, t2])]; try rfl) (J := _) (.refl _)<|.inl rfl
 ·refine Em rfl<|Lf fo_Atom_1 ty_Is rfl (Hs (Has.pt<|mS<|mS<|mS<|mS<|mS m0) 1 rfl)<|Yln us_Is rfl<|Lz fo_Fact_1 ty_Is rfl (mS<|mS<|mS<|mS m0) rfl<|Yln us_Is rfl<|Ey rfl ((Y.neq rfl rfl).yd)<|l3 (fun q25 => ?_)<|fun q25 => ?_
  ·refine Ypf rfl<|Em rfl<|Es rfl<|Es rfl<|Es rfl<|Es rfl<|Es rfl<|Es rfl<|Es rfl<|Ypt rfl<|Eu<|r6 rfl<|Ew Z3<|Ey rfl ((M4 (pvs := []) (cs := [_, _]) ty_Binding pl_Binding rfl rfl).yd)<|a4G<|Est rfl (Ns [_, _] ty_Binding rfl)<|fun _ _ => Ei rfl<|Eu<|E.ret<|i9<|l6 (A := []) (Own.nil (E := Enc.int) (e := tI) (a := none)) rfl<|g9 (congrArg (ow eIs [_]) (show _ = cond (s7 (j9, f8) (l0, f6) (n8, f9)) (u9 (j9, f8) (l0, f6) (n8, f9)).2 [] by grind [s7, u9, B8, D2, D3, F0, F5, D1, R7, d1, d2, t1, t2]))<|l6 (A := []) (Own.nil (E := Enc.int) (e := tI) (a := none)) rfl<|g9 (congrArg (ow eIs [_]) (show _ = cond (s7 (j9, f8) (l0, f6) (n8, f9)) (u9 (j9, f8) (l0, f6) (n8, f9)).1 [] by grind [s7, u9, B8, D2, D3, F0, F5, D1, R7, d1, d2, t1, t2]))<|f5<|f5 ?_
   exact a2P br rfl rfl rfl (mS<|mS m0) ty_Binding rfl ((none, 0, 0), (none, 0, 0)) trivial (by rw [show (s7 (j9, f8) (l0, f6) (n8, f9)) = (false) from (by grind [s7, u9, B8, D2, D3, F0, F5, D1, R7, d1, d2, t1, t2])]; try rfl) (J := _) (.refl _)<|.inl rfl
  ·refine Ypf rfl<|Em rfl<|Lf fo_Binding_0 ty_Is rfl (Hs (Has.pt<|mS<|mS<|mS<|mS<|mS<|mS m0) 0 rfl)<|Yln us_Is rfl<|Lf fo_Binding_1 ty_Is rfl (Hs (Has.pt<|mS<|mS<|mS<|mS<|mS<|mS m0) 1 rfl)<|Yln us_Is rfl<|Ey rfl ((Y.neq rfl rfl).yd)<|l3 (fun q34 => ?_)<|fun q34 => ?_
   ·refine Ypf rfl<|Eu<|r6 rfl<|Ew Z3<|Ey rfl ((M4 (pvs := []) (cs := [_, _]) ty_Binding pl_Binding rfl rfl).yd)<|a4G<|Est rfl (Ns [_, _] ty_Binding rfl)<|fun _ _ => Ei rfl<|Eu<|E.ret<|i9<|l6 (A := []) (Own.nil (E := Enc.int) (e := tI) (a := none)) rfl<|g9 (congrArg (ow eIs [_]) (show _ = cond (s7 (j9, f8) (l0, f6) (n8, f9)) (u9 (j9, f8) (l0, f6) (n8, f9)).2 [] by grind [s7, u9, B8, D2, D3, F0, F5, D1, R7, d1, d2, t1, t2]))<|l6 (A := []) (Own.nil (E := Enc.int) (e := tI) (a := none)) rfl<|g9 (congrArg (ow eIs [_]) (show _ = cond (s7 (j9, f8) (l0, f6) (n8, f9)) (u9 (j9, f8) (l0, f6) (n8, f9)).1 [] by grind [s7, u9, B8, D2, D3, F0, F5, D1, R7, d1, d2, t1, t2]))<|f5<|f5 ?_
    exact a2P br rfl rfl rfl (mS<|mS m0) ty_Binding rfl ((none, 0, 0), (none, 0, 0)) trivial (by rw [show (s7 (j9, f8) (l0, f6) (n8, f9)) = (false) from (by grind [s7, u9, B8, D2, D3, F0, F5, D1, R7, d1, d2, t1, t2])]; try rfl) (J := _) (.refl _)<|.inl rfl
   ·refine Ypf rfl<|Eu<|Cf<|Eq_<|Ew Z1<|Ei rfl<|Eu<|E.block<|f5<|g9 (congrArg (ow eIs [_]) (show _ = (I6 (j9, f8)<|(f6.zip f9).take 0).1 from by first | rfl | (simp; done) | grind [s7, u9, B8, D2, D3, F0, F5, D1, R7, d1, d2, t1, t2]))<|i8<|g9 (congrArg (ow eIs [_]) (show _ = (I6 (j9, f8)<|(f6.zip f9).take 0).2 from by first | rfl | (simp; done) | grind [s7, u9, B8, D2, D3, F0, F5, D1, R7, d1, d2, t1, t2]))<|Lo (κ := Nat × Option Addr × Nat × Nat × SL) (fun g => g.1 ≤ f6.length ∧ okV (j9, f8) (f6.zip f9) = okV (I6 (j9, f8)<|(f6.zip f9).take g.1) ((f6.zip f9).drop g.1)) (fun g => [(4, .pointer<|some ⟨b4, 0, none⟩), (5, .pointer<|some ⟨b5, 0, none⟩), (6, .pointer<|some ⟨b6, 0, none⟩), (8, .pointer<|some ⟨b8, 0, none⟩), (9, .int .i64 (↑g.1 : Int))]) (fun g => [ow eIs [.slice g.2.2.2.2.1 g.2.2.2.2.2.1 g.2.2.2.2.2.2]<|(I6 (j9, f8)<|(f6.zip f9).take g.1).2, ow eIs [.slice g.2.1 g.2.2.1 g.2.2.2.1]<|(I6 (j9, f8)<|(f6.zip f9).take g.1).1, pt b8 114 [.slice g.2.1 g.2.2.1 g.2.2.2.1, .slice g.2.2.2.2.1 g.2.2.2.2.2.1 g.2.2.2.2.2.2], pt b6 114 [.slice none 0 0, .slice none 0 0], pt b5 85 [.int .i64 n8, .slice E3 f9.length E1], pt b4 111 [.int .i64 l0, .slice w6 f6.length w5], pt b3 114 [.slice D4 j9.length D5, .slice y4 f8.length y5]]) (fun g => f6.length - g.1) (0, a12_0, (j9).length, c12_0, a12_1, (f8).length, c12_1) ⟨Nat.zero_le _, by rfl⟩<|fun g pg => ?_
    obtain ⟨g, aA0_0, mA0_0, cA0_0, aA0_1, mA0_1, cA0_1⟩ := g
    try dsimp only at pg
    try dsimp only
    obtain ⟨pk, pa⟩ := pg
    have jl := b5f (b := (j9, f8)) (t := f6) (v := f9) (g := g)
    have je := a6b (l := (f6.zip f9).take g) (x := (j9, f8)) (show j9.length = f8.length by omega)
    try dsimp only at jl
    refine r8 (mS m0) ?_
    rintro rfl laA0_0
    refine r8 m0 ?_
    rintro rfl laA0_1
    refine Eq_<|Ew Z5<|Em rfl<|Lf fo_Atom_1 ty_Is rfl (Hs (Has.pt<|mS<|mS<|mS<|mS<|mS m0) 1 rfl)<|Yln us_Is rfl<|Ylt rfl<|l3 (fun q41 => ?_)<|fun q41 => ?_
    ·refine Eu<|Ct<|Eq_<|E.block<|Eq_<|D.region (fun j => true) mixed<|Dy 0 rfl (k7 (cs := [_, _]) ty_Binding rfl (Has.pt<|mS<|mS m0) rfl)<|Df 1 2 fo_Atom_1 ty_Is rfl (Hs (Has.pt<|mS<|mS<|mS<|mS<|mS m0) 1 rfl)<|Dm 3 rfl ?_
     obtain ⟨eb48, eo48, ea48, ei48, eh48⟩ := y6.elemI g om
     refine Dyp 4 rfl (z8 us_Is i7 rfl ea48 rfl g rfl om)<|Dy 5 rfl (B4 i7 rfl (eh48 _) rfl)<|D0 6 rfl a2l rfl (fun hA => ⟨hA.ow<|mS m0, hA.ow m0⟩)<|Dyp 7 rfl (G7 rfl)<|n9 kr<|Et<|Eq_<|D.region (fun j => true) mixed<|Df 0 1 fo_Atom_1 ty_Is rfl (Hs (Has.pt<|mS<|mS<|mS<|mS<|mS m0) 1 rfl)<|Dm 2 rfl<|Dyp 3 rfl (z8 us_Is i7 rfl ea48 rfl g rfl om)<|Dy 4 rfl (B4 i7 rfl (eh48 _) rfl)<|D0 5 rfl Z0 rfl (fun _ => trivial)<|Ent.b (fun q56 => ?_)<|fun q56 => ?_
     ·refine Dm 6 rfl<|Dy 7 rfl (k7 (cs := [_, _]) ty_Binding rfl (Has.pt<|mS<|mS m0) rfl)<|Df 8 9 fo_Atom_1 ty_Is rfl (Hs (Has.pt<|mS<|mS<|mS<|mS<|mS m0) 1 rfl)<|Dm 10 rfl<|Dyp 11 rfl (z8 us_Is i7 rfl ea48 rfl g rfl om)<|Dy 12 rfl (B4 i7 rfl (eh48 _) rfl)<|D0 13 rfl b0k rfl (fun hA => ⟨hA.ow<|mS m0, hA.ow m0⟩)<|Ent.b (fun q64 => ?_)<|fun q64 => ?_
      ·refine Dyp 14 rfl (Y.not (b := true) rfl)<|Dyp 15 rfl (K7 rfl rfl)<|n9 kr<|Et<|r7 rfl<|Ew Z7<|Em rfl<|Lz fo_Fact_1 ty_Is rfl (mS<|mS<|mS<|mS m0) rfl<|Em rfl ?_
       obtain ⟨eb83, eo83, ea83, ei83, eh83⟩ := C3.elemI g om
       refine Il us_Is i7 rfl ea83 g rfl om rfl (eh83 _)<|Ey rfl ((Y.neq rfl rfl).yd)<|l3 (fun q85 => ?_)<|fun q85 => ?_
       ·refine Eu<|r6 rfl<|Ew Z3<|Ey rfl ((M4 (pvs := []) (cs := [_, _]) ty_Binding pl_Binding rfl rfl).yd)<|a4G<|Est rfl (Ns [_, _] ty_Binding rfl)<|fun _ _ => Ei rfl<|Eu<|E.ret<|u6<|i9<|i9<|u6<|i9<|l6 (A := []) (Own.nil (E := Enc.int) (e := tI) (a := none)) rfl<|g9 (congrArg (ow eIs [_]) (show _ = cond (s7 (j9, f8) (l0, f6) (n8, f9)) (u9 (j9, f8) (l0, f6) (n8, f9)).2 [] by grind [s7, u9, B8, D2, D3, F0, F5, D1, R7, d1, d2, t1, t2]))<|l6 (A := []) (Own.nil (E := Enc.int) (e := tI) (a := none)) rfl<|g9 (congrArg (ow eIs [_]) (show _ = cond (s7 (j9, f8) (l0, f6) (n8, f9)) (u9 (j9, f8) (l0, f6) (n8, f9)).1 [] by grind [s7, u9, B8, D2, D3, F0, F5, D1, R7, d1, d2, t1, t2]))<|f5<|f5 ?_
        exact a2P br rfl rfl rfl (mS<|mS m0) ty_Binding rfl ((none, 0, 0), (none, 0, 0)) trivial (by rw [show (s7 (j9, f8) (l0, f6) (n8, f9)) = (false) from (by grind [s7, u9, B8, D2, D3, F0, F5, D1, R7, d1, d2, t1, t2])]; try rfl) (J := _) (.refl _)<|.inl rfl
       ·refine Eu<|r7 rfl<|v8<|o6<|Et<|Ez Z3<|Em rfl<|Yad rfl om om<|Ei rfl<|Eu<|f5<|g9 (congrArg (ow eIs [_]) (show _ = (I6 (j9, f8)<|(f6.zip f9).take (g + 1)).1 from by grind [s7, u9, B8, D2, D3, F0, F5, D1, R7, d1, d2, t1, t2]))<|f5<|g9 (congrArg (ow eIs [_]) (show _ = (I6 (j9, f8)<|(f6.zip f9).take (g + 1)).2 from by grind [s7, u9, B8, D2, D3, F0, F5, D1, R7, d1, d2, t1, t2]))<|w7<|w7<|w7<|w7<|w7<|w7<|w7 ?_
        exact Ea (g + 1, aA0_0, _, cA0_0, aA0_1, _, cA0_1) ⟨oz, (show okV (j9, f8) (f6.zip f9) = okV (I6 (j9, f8)<|(f6.zip f9).take (g + 1)) ((f6.zip f9).drop (g + 1)) from by grind [s7, u9, B8, D2, D3, F0, F5, D1, R7, d1, d2, t1, t2])⟩
      ·refine Dyp 14 rfl (Y.not (b := false) rfl)<|Dyp 15 rfl (K7 rfl rfl)<|n9 kr<|Et<|r6 rfl<|D.region (fun j => !(Nat.beq j 12)) mixed<|Dy 0 rfl (k7 (cs := [_, _]) ty_Binding rfl (Has.pt<|mS<|mS m0) rfl)<|Df 1 2 fo_Atom_1 ty_Is rfl (Hs (Has.pt<|mS<|mS<|mS<|mS<|mS m0) 1 rfl)<|Dm 3 rfl<|Dyp 4 rfl (z8 us_Is i7 rfl ea48 rfl g rfl om)<|Dy 5 rfl (B4 i7 rfl (eh48 _) rfl)<|Df 6 7 fo_Fact_1 ty_Is rfl (Hz (mS<|mS<|mS<|mS m0) 1 rfl)<|Dm 8 rfl ?_
       obtain ⟨eb76, eo76, ea76, ei76, eh76⟩ := C3.elemI g om
       refine Dyp 9 rfl (z8 us_Is i7 rfl ea76 rfl g rfl om)<|Dy 10 rfl (B4 i7 rfl (eh76 _) rfl)<|E7 11 rfl rfl kr (fun _ => rfl) (N.call (b1D fc fc) rfl rfl rfl dc rfl<|fun w Lp hA => ⟨hA.ow<|mS m0, hA.ow m0, ei48, ei76⟩)<|fun k78 _ => ?_
       obtain ⟨⟨a78_0, m78_0, c78_0⟩, ⟨a78_1, m78_1, c78_1⟩⟩ := k78
       refine r8 m0 ?_
       rintro rfl l78_0
       refine r8 (mS m0) ?_
       rintro rfl l78_1
       refine s4<|E7 12 rfl rfl kr (fun h => by cases h) (Ns [_, _] ty_Binding rfl)<|fun _ _ => n9 kr<|o6<|Et<|Ez Z3<|Em rfl<|Yad rfl om om<|Ei rfl<|Eu<|a4G<|Ent.drop<|a4G<|Ent.drop<|f5<|g9 (congrArg (ow eIs [_]) (show _ = (I6 (j9, f8)<|(f6.zip f9).take (g + 1)).1 from by grind [s7, u9, B8, D2, D3, F0, F5, D1, R7, d1, d2, t1, t2]))<|i8<|g9 (congrArg (ow eIs [_]) (show _ = (I6 (j9, f8)<|(f6.zip f9).take (g + 1)).2 from by grind [s7, u9, B8, D2, D3, F0, F5, D1, R7, d1, d2, t1, t2]))<|w7<|w7<|w7<|w7<|w7<|w7<|w7 ?_
       exact Ea (g + 1, a78_0, _, c78_0, a78_1, _, c78_1) ⟨oz, (show okV (j9, f8) (f6.zip f9) = okV (I6 (j9, f8)<|(f6.zip f9).take (g + 1)) ((f6.zip f9).drop (g + 1)) from by grind [s7, u9, B8, D2, D3, F0, F5, D1, R7, d1, d2, t1, t2])⟩
     ·refine Dm 6 rfl<|Dsk 7 rfl<|Dsk 8 rfl<|Dsk 9 rfl<|Dsk 10 rfl<|Dsk 11 rfl<|Dsk 12 rfl<|Dsk 13 rfl<|Dsk 14 rfl<|Dyp 15 rfl (L8 rfl rfl)<|n9 kr<|Et<|r7 rfl<|Ew Z7<|Em rfl<|Lz fo_Fact_1 ty_Is rfl (mS<|mS<|mS<|mS m0) rfl<|Em rfl ?_
      obtain ⟨eb83, eo83, ea83, ei83, eh83⟩ := C3.elemI g om
      refine Il us_Is i7 rfl ea83 g rfl om rfl (eh83 _)<|Ey rfl ((Y.neq rfl rfl).yd)<|l3 (fun q85 => ?_)<|fun q85 => ?_
      ·refine Eu<|r6 rfl<|Ew Z3<|Ey rfl ((M4 (pvs := []) (cs := [_, _]) ty_Binding pl_Binding rfl rfl).yd)<|a4G<|Est rfl (Ns [_, _] ty_Binding rfl)<|fun _ _ => Ei rfl<|Eu<|E.ret<|u6<|i9<|i9<|u6<|i9<|l6 (A := []) (Own.nil (E := Enc.int) (e := tI) (a := none)) rfl<|g9 (congrArg (ow eIs [_]) (show _ = cond (s7 (j9, f8) (l0, f6) (n8, f9)) (u9 (j9, f8) (l0, f6) (n8, f9)).2 [] by grind [s7, u9, B8, D2, D3, F0, F5, D1, R7, d1, d2, t1, t2]))<|l6 (A := []) (Own.nil (E := Enc.int) (e := tI) (a := none)) rfl<|g9 (congrArg (ow eIs [_]) (show _ = cond (s7 (j9, f8) (l0, f6) (n8, f9)) (u9 (j9, f8) (l0, f6) (n8, f9)).1 [] by grind [s7, u9, B8, D2, D3, F0, F5, D1, R7, d1, d2, t1, t2]))<|f5<|f5 ?_
       exact a2P br rfl rfl rfl (mS<|mS m0) ty_Binding rfl ((none, 0, 0), (none, 0, 0)) trivial (by rw [show (s7 (j9, f8) (l0, f6) (n8, f9)) = (false) from (by grind [s7, u9, B8, D2, D3, F0, F5, D1, R7, d1, d2, t1, t2])]; try rfl) (J := _) (.refl _)<|.inl rfl
      ·refine Eu<|r7 rfl<|v8<|o6<|Et<|Ez Z3<|Em rfl<|Yad rfl om om<|Ei rfl<|Eu<|f5<|g9 (congrArg (ow eIs [_]) (show _ = (I6 (j9, f8)<|(f6.zip f9).take (g + 1)).1 from by grind [s7, u9, B8, D2, D3, F0, F5, D1, R7, d1, d2, t1, t2]))<|f5<|g9 (congrArg (ow eIs [_]) (show _ = (I6 (j9, f8)<|(f6.zip f9).take (g + 1)).2 from by grind [s7, u9, B8, D2, D3, F0, F5, D1, R7, d1, d2, t1, t2]))<|w7<|w7<|w7<|w7<|w7<|w7<|w7 ?_
       exact Ea (g + 1, aA0_0, _, cA0_0, aA0_1, _, cA0_1) ⟨oz, (show okV (j9, f8) (f6.zip f9) = okV (I6 (j9, f8)<|(f6.zip f9).take (g + 1)) ((f6.zip f9).drop (g + 1)) from by grind [s7, u9, B8, D2, D3, F0, F5, D1, R7, d1, d2, t1, t2])⟩
    ·refine Eu<|r7 rfl<|E.exit<|l4<|l4<|w8<|Et<|Ew Z3<|Ey rfl (k7 (cs := [_, _]) ty_Binding rfl (Has.pt<|mS<|mS m0) rfl)<|a4G<|Est rfl (Ns [_, _] ty_Binding rfl)<|fun _ _ => Ei rfl<|Eu<|E.ret<|f5<|g9 (congrArg (ow eIs [_]) (show _ = cond (s7 (j9, f8) (l0, f6) (n8, f9)) (u9 (j9, f8) (l0, f6) (n8, f9)).2 [] by grind [s7, u9, B8, D2, D3, F0, F5, D1, R7, d1, d2, t1, t2]))<|i8<|g9 (congrArg (ow eIs [_]) (show _ = cond (s7 (j9, f8) (l0, f6) (n8, f9)) (u9 (j9, f8) (l0, f6) (n8, f9)).1 [] by grind [s7, u9, B8, D2, D3, F0, F5, D1, R7, d1, d2, t1, t2]))<|f5<|f5 ?_
     exact a2P br rfl rfl rfl (mS<|mS m0) ty_Binding rfl ((_, _, _), (_, _, _)) trivial (by rw [show (s7 (j9, f8) (l0, f6) (n8, f9)) = (true) from (by grind [s7, u9, B8, D2, D3, F0, F5, D1, R7, d1, d2, t1, t2])]; try rfl) (J := _) (.refl _)<|.inl rfl
theorem a3l (hbl : ∀ b ∈ l, b.1.length ≤ 1000 ∧ b.2.length ≤ 1000) (hat : f6.length ≤ 1000) (hk : Few (l0, f6) d6) (hn : l.length * 1000 ≤ 1000000000000) : TL Tryz.prog 190 [.slice a_l m_l c_l, .agg #[.int .i64 l0, .slice w6 B5 w5], .slice a_facts m_facts c_facts] (fun w L => Ro w L s9 [.slice a_l m_l c_l] l ∧ I64 l0 ∧ Ro w L eIs [.slice w6 B5 w5] f6 ∧ Ro w L s5 [.slice a_facts m_facts c_facts] d6) s9 (J6 l (l0, f6) d6) := by
 refine Ti3 Tryz.func190 42 rfl fun w L hR => ?_
 obtain ⟨hl, J4, y6, hfacts⟩ := hR
 obtain ⟨rfl, ll⟩ := hl.slen
 obtain ⟨rfl, Q5⟩ := y6.slen
 obtain ⟨rfl, lfacts⟩ := hfacts.slen
 refine Ew Z2<|Est rfl (N.box (cs := [_, _]) rfl dc rfl)<|fun b4 _ => Ei rfl<|Ev Z2<|Est rfl (Nb [] [] us_Bindings ty_Binding rfl rfl)<|fun b14 _ => Ent.drop<|Ei rfl<|Eu<|Eq_<|Ew Z3<|Em rfl<|Yln us_Bindings rfl<|Em rfl<|Eu<|E.block<|l6 (A := []) (Own.nil (E := B7) (e := tBinding) (a := (some ⟨b14, 0, none⟩))) rfl<|g9 (congrArg (ow s9 [_]) (show _ = J6 (l.take 0) (l0, f6) d6 from by first | rfl | (simp; done) | grind [a0i, a0z, a0y, a0h, d1, d2, t1, t2]))<|Lo (κ := Nat × SL) (fun g => g.1 ≤ l.length ∧ True) (fun g => [(2, .slice a_facts d6.length c_facts), (4, .pointer<|some ⟨b4, 0, none⟩), (7, .slice g.2.1 g.2.2.1 g.2.2.2), (15, .slice a_l l.length c_l), (16, .int .i64 (↑l.length : Int)), (17, .int .i64 (↑g.1 : Int))]) (fun g => [ow s9 [.slice g.2.1 g.2.2.1 g.2.2.2]<|J6 (l.take g.1) (l0, f6) d6, pt b4 111 [.int .i64 l0, .slice w6 f6.length w5]]) (fun g => l.length - g.1) (0, (some ⟨b14, 0, none⟩), 0, 0) ⟨Nat.zero_le _, by simp⟩<|fun g pg => ?_
 obtain ⟨g, aA0_0, mA0_0, cA0_0⟩ := g
 try dsimp only at pg
 try dsimp only
 obtain ⟨pk, pa⟩ := pg
 have jn := a4k hk (l := l.take g)
 have jp := List.length_take_le g l
 refine r8 m0 ?_
 rintro rfl laA0_0
 refine Ew Z1<|Ylt rfl<|l3 (fun q18 => ?_)<|fun q18 => ?_
 ·obtain ⟨eb19, eo19, ec19, ea19, er19, el19, eh19⟩ := hl.elem g om
  obtain ⟨xa19_0, xc19_0, xa19_1, xc19_1, rfl, xh19_0, xh19_1⟩ := a0K er19
  have := xh19_0.slen.2
  have := xh19_1.slen.2
  refine Eu<|Eq_<|Ct<|Eq_<|E.block<|Ew Z4<|Ix us_Bindings ty_Binding rfl ea19 g rfl om<|Ey rfl (k7 (cs := [_, _]) ty_Binding rfl (eh19 _) rfl)<|Est rfl (N.alloc ty_Binding dc)<|fun b9 _ => Est rfl (Ns [_, _] ty_Binding rfl)<|fun _ _ => Ev Z3<|Em rfl<|Yln us_Facts rfl<|Em rfl<|Eu<|E.block<|f5<|g9 (congrArg (ow s9 [_]) (show _ = J6 (l.take g) (l0, f6) d6 ++ Y0 l[g] (l0, f6) (d6.take 0) from by first | rfl | (simp; done) | grind [a0i, a0z, a0y, a0h, d1, d2, t1, t2]))<|Lo (κ := Nat × SL) (fun h => h.1 ≤ d6.length ∧ True) (fun h => [(2, .slice a_facts d6.length c_facts), (4, .pointer<|some ⟨b4, 0, none⟩), (7, .slice h.2.1 h.2.2.1 h.2.2.2), (9, .pointer<|some ⟨b9, 0, none⟩), (15, .slice a_l l.length c_l), (16, .int .i64 (↑l.length : Int)), (17, .int .i64 (g : Int)), (21, .slice a_facts d6.length c_facts), (22, .int .i64 (↑d6.length : Int)), (23, .int .i64 (↑h.1 : Int))]) (fun h => [ow s9 [.slice h.2.1 h.2.2.1 h.2.2.2]<|J6 (l.take g) (l0, f6) d6 ++ Y0 l[g] (l0, f6) (d6.take h.1), pt b9 114 [.slice xa19_0 l[g].1.length xc19_0, .slice xa19_1 l[g].2.length xc19_1], pt b4 111 [.int .i64 l0, .slice w6 f6.length w5]]) (fun h => d6.length - h.1) (0, aA0_0, (J6 (l.take g) (l0, f6) d6).length, cA0_0) ⟨Nat.zero_le _, by simp⟩<|fun h ph => ?_
  obtain ⟨h, aA1_0, mA1_0, cA1_0⟩ := h
  try dsimp only at ph
  try dsimp only
  obtain ⟨pk, pa⟩ := ph
  have jo := b0T hk hn (g := g) om h
  refine r8 m0 ?_
  rintro rfl laA1_0
  refine Ew Z1<|Ylt rfl<|l3 (fun q24 => ?_)<|fun q24 => ?_
  ·obtain ⟨eb25, eo25, ec25, ea25, er25, el25, eh25⟩ := hfacts.elem h om
   obtain ⟨xa25_0, xc25_0, rfl, ei25_0, xh25_0⟩ := W4 er25
   have := xh25_0.slen.2
   refine Eu<|Eq_<|Ct<|Eq_<|E.block<|Ew Z4<|Ix us_Facts ty_Fact rfl ea25 h rfl om<|Ey rfl (k7 (cs := [_, _]) ty_Fact rfl (eh25 _) rfl)<|Est rfl (N.alloc ty_Fact dc)<|fun b11 _ => Est rfl (Ns [_, _] ty_Fact rfl)<|fun _ _ => Ev Z10<|Ey rfl (k7 (cs := [_, _]) ty_Binding rfl (Has.pt<|mS<|mS m0) rfl)<|Ey rfl (k7 (cs := [_, _]) ty_Atom rfl (Has.pt<|mS<|mS<|mS m0) rfl)<|Ey rfl (k7 (cs := [_, _]) ty_Fact rfl (Has.pt m0) rfl)<|Est rfl (N.call (a8Q ((hbl _<|List.getElem_mem om).1) ((hbl _<|List.getElem_mem om).2)<|fo) rfl rfl rfl dc rfl<|fun w Lp hA => ⟨hA.ro xh19_0, hA.ro xh19_1, J4, hA.ro y6, ei25_0, hA.ro xh25_0⟩)<|fun k31 _ => ?_
   obtain ⟨⟨a31_0, m31_0, c31_0⟩, ⟨a31_1, m31_1, c31_1⟩⟩ := k31
   refine r8 m0 ?_
   rintro rfl l31_0
   refine r8 (mS m0) ?_
   rintro rfl l31_1
   refine Em rfl<|Ey rfl ((Y.ext rfl rfl).yd)<|Ey rfl ((Y.ext rfl rfl).yd)<|Est rfl (N.alloc ty_Binding dc)<|fun b12 _ => Est rfl (Ns [_, _] ty_Binding rfl)<|fun _ _ => Ei rfl<|Ent.b (fun q13 => ?_)<|fun q13 => ?_
   ·refine Ev Z1<|Em rfl<|Eu<|r6 rfl<|Ez Z5<|Em rfl<|Ey rfl (k7 (cs := [_, _]) ty_Binding rfl (Has.pt m0) rfl)<|Est rfl (Nb [_] [_, _] us_Bindings ty_Binding rfl rfl)<|fun b37 _ => a4G<|a4G<|i8<|y7<|Est rfl (B0 (E := B7) (ex := (cond (s7 l[g] (l0, f6) d6[h]) (u9 l[g] (l0, f6) d6[h]).1 [], cond (s7 l[g] (l0, f6) d6[h]) (u9 l[g] (l0, f6) d6[h]).2 [])) us_Bindings ty_Binding rfl rfl rfl (R4 (x := (cond (s7 l[g] (l0, f6) d6[h]) (u9 l[g] (l0, f6) d6[h]).1 [], cond (s7 l[g] (l0, f6) d6[h]) (u9 l[g] (l0, f6) d6[h]).2 [])) Own.ow Own.ow) rfl bn bn dc)<|fun p38 _ => Ei rfl<|En<|o6<|Et<|Ez Z2<|Yad rfl om om<|Em rfl<|Eu<|f5<|Ent.drop<|f5<|Ent.drop<|g9 (congrArg (ow s9 [_]) (show _ = J6 (l.take g) (l0, f6) d6 ++ Y0 l[g] (l0, f6) (d6.take<|h + 1) from by grind [a0i, a0z, a0y, a0h, d1, d2, t1, t2]))<|i8<|i8<|i8 ?_
    exact Ea (h + 1, p38.1, ((J6 (l.take g) (l0, f6) d6 ++ Y0 l[g] (l0, f6) (d6.take h)).length + 1), p38.2) ⟨oz, trivial⟩
   ·refine Ev Z1<|Em rfl<|Eu<|r7 rfl<|v8<|o6<|Et<|Ez Z2<|Yad rfl om om<|Em rfl<|Eu<|Ent.drop<|Ent.drop<|Ent.drop<|Ent.drop<|g9 (congrArg (ow s9 [_]) (show _ = J6 (l.take g) (l0, f6) d6 ++ Y0 l[g] (l0, f6) (d6.take<|h + 1) from by grind [a0i, a0z, a0y, a0h, d1, d2, t1, t2]))<|i8<|i8<|i8 ?_
    exact Ea (h + 1, aA1_0, _, cA1_0) ⟨oz, trivial⟩
  ·refine Eu<|Eq_<|r7 rfl<|E.exit<|l4<|l4<|w8<|o6<|Et<|Ez Z2<|Yad rfl om om<|Em rfl<|Eu<|f5<|Ent.drop<|g9 (congrArg (ow s9 [_]) (show _ = J6 (l.take<|g + 1) (l0, f6) d6 from by grind [a0i, a0z, a0y, a0h, d1, d2, t1, t2]))<|f5<|f5 ?_
   exact Ea (g + 1, aA1_0, _, cA1_0) ⟨oz, trivial⟩
 ·refine Eu<|Eq_<|r7 rfl<|E.exit<|l4<|l4<|w8<|Et<|Ew Z2<|Em rfl<|Ei rfl<|Eu<|E.ret<|g9 (congrArg (ow s9 [_]) (show _ = J6 l (l0, f6) d6 by grind [a0i, a0z, a0y, a0h, d1, d2, t1, t2]))<|Fg rfl rfl (_, _, _) rfl rfl
theorem a3b (hbl : ∀ b ∈ l, b.1.length ≤ 1000 ∧ b.2.length ≤ 1000) (hat : f6.length ≤ 1000) (hk : Few (l0, f6) d6) (hn : l.length * 1000 ≤ 1000000000000) : TL Tryz.prog 205 [.slice a_l m_l c_l, .agg #[.int .i64 l0, .slice w6 B5 w5], .slice a_facts m_facts c_facts] (fun w L => Ro w L s9 [.slice a_l m_l c_l] l ∧ I64 l0 ∧ Ro w L eIs [.slice w6 B5 w5] f6 ∧ Ro w L s5 [.slice a_facts m_facts c_facts] d6) s9 (J6 l (l0, f6) d6) := by
 refine Ti3 Tryz.func205 44 rfl fun w L hR => ?_
 obtain ⟨hl, J4, y6, hfacts⟩ := hR
 obtain ⟨rfl, ll⟩ := hl.slen
 obtain ⟨rfl, Q5⟩ := y6.slen
 obtain ⟨rfl, lfacts⟩ := hfacts.slen
 refine Ew Z2<|Est rfl (N.box (cs := [_, _]) rfl dc rfl)<|fun b4 _ => Ei rfl<|Ev Z2<|Est rfl (Nb [] [] us_Bindings ty_Binding rfl rfl)<|fun b12 _ => Ent.drop<|Ei rfl<|Eu<|Eq_<|Ew Z1<|Ei rfl<|Eu<|E.block<|l6 (A := []) (Own.nil (E := B7) (e := tBinding) (a := (some ⟨b12, 0, none⟩))) rfl<|g9 (congrArg (ow s9 [_]) (show _ = J6 (l.take 0) (l0, f6) d6 from by first | rfl | (simp; done) | grind [a0i, a0z, a0y, a0h, d1, d2, t1, t2]))<|Lo (κ := Nat × SL) (fun g => g.1 ≤ l.length ∧ True) (fun g => [(0, .slice a_l l.length c_l), (2, .slice a_facts d6.length c_facts), (4, .pointer<|some ⟨b4, 0, none⟩), (7, .slice g.2.1 g.2.2.1 g.2.2.2), (8, .int .i64 (↑g.1 : Int))]) (fun g => [ow s9 [.slice g.2.1 g.2.2.1 g.2.2.2]<|J6 (l.take g.1) (l0, f6) d6, pt b4 111 [.int .i64 l0, .slice w6 f6.length w5]]) (fun g => l.length - g.1) (0, (some ⟨b12, 0, none⟩), 0, 0) ⟨Nat.zero_le _, by simp⟩<|fun g pg => ?_
 obtain ⟨g, aA0_0, mA0_0, cA0_0⟩ := g
 try dsimp only at pg
 try dsimp only
 obtain ⟨pk, pa⟩ := pg
 have jn := a4k hk (l := l.take g)
 have jp := List.length_take_le g l
 refine r8 m0 ?_
 rintro rfl laA0_0
 refine Eq_<|Ew Z4<|Em rfl<|Em rfl<|Yln us_Bindings rfl<|Ylt rfl<|l3 (fun q16 => ?_)<|fun q16 => ?_
 ·refine Eu<|Ct<|Eq_<|E.block<|Ew Z1<|Ei rfl<|Eu<|E.block<|g9 (congrArg (ow s9 [_]) (show _ = J6 (l.take g) (l0, f6) d6 ++ Y0 l[g] (l0, f6) (d6.take 0) from by first | rfl | (simp; done) | grind [a0i, a0z, a0y, a0h, d1, d2, t1, t2]))<|Lo (κ := Nat × SL) (fun h => h.1 ≤ d6.length ∧ True) (fun h => [(0, .slice a_l l.length c_l), (2, .slice a_facts d6.length c_facts), (4, .pointer<|some ⟨b4, 0, none⟩), (7, .slice h.2.1 h.2.2.1 h.2.2.2), (8, .int .i64 (g : Int)), (9, .int .i64 (↑h.1 : Int))]) (fun h => [ow s9 [.slice h.2.1 h.2.2.1 h.2.2.2]<|J6 (l.take g) (l0, f6) d6 ++ Y0 l[g] (l0, f6) (d6.take h.1), pt b4 111 [.int .i64 l0, .slice w6 f6.length w5]]) (fun h => d6.length - h.1) (0, aA0_0, (J6 (l.take g) (l0, f6) d6).length, cA0_0) ⟨Nat.zero_le _, by simp⟩<|fun h ph => ?_
  obtain ⟨h, aA1_0, mA1_0, cA1_0⟩ := h
  try dsimp only at ph
  try dsimp only
  obtain ⟨pk, pa⟩ := ph
  have jo := b0T hk hn (g := g) om h
  refine r8 m0 ?_
  rintro rfl laA1_0
  refine Eq_<|Ew Z4<|Em rfl<|Em rfl<|Yln us_Facts rfl<|Ylt rfl<|l3 (fun q22 => ?_)<|fun q22 => ?_
  ·refine Eu<|Ct<|Eq_<|E.block<|Eq_<|a1X (κ := Nat × Option Addr × Nat × Option Addr × Nat) (fun _ => True) (fun kM => [(0, .slice a_l l.length c_l), (2, .slice a_facts d6.length c_facts), (4, .pointer<|some ⟨b4, 0, none⟩), (7, .slice aA1_0 (J6 (l.take g) (l0, f6) d6 ++ Y0 l[g] (l0, f6) (d6.take h)).length cA1_0), (8, .int .i64 (g : Int)), (9, .int .i64 (h : Int)), (10, .pointer<|some ⟨kM.1, 0, none⟩), (11, .bool<|s7 l[g] (l0, f6) d6[h])]) (fun kM => [pt kM.1 114 [.slice kM.2.1 (cond (s7 l[g] (l0, f6) d6[h]) (u9 l[g] (l0, f6) d6[h]).1 []).length kM.2.2.1, .slice kM.2.2.2.1 (cond (s7 l[g] (l0, f6) d6[h]) (u9 l[g] (l0, f6) d6[h]).2 []).length kM.2.2.2.2], ow eIs [.slice kM.2.1 (cond (s7 l[g] (l0, f6) d6[h]) (u9 l[g] (l0, f6) d6[h]).1 []).length kM.2.2.1]<|cond (s7 l[g] (l0, f6) d6[h]) (u9 l[g] (l0, f6) d6[h]).1 [], ow eIs [.slice kM.2.2.2.1 (cond (s7 l[g] (l0, f6) d6[h]) (u9 l[g] (l0, f6) d6[h]).2 []).length kM.2.2.2.2]<|cond (s7 l[g] (l0, f6) d6[h]) (u9 l[g] (l0, f6) d6[h]).2 [], ow s9 [.slice aA1_0 (J6 (l.take g) (l0, f6) d6 ++ Y0 l[g] (l0, f6) (d6.take h)).length cA1_0]<|J6 (l.take g) (l0, f6) d6 ++ Y0 l[g] (l0, f6) (d6.take h), pt b4 111 [.int .i64 l0, .slice w6 f6.length w5]]) ?_<|fun kM _ => ?_
   ·refine D.region (fun j => !(Nat.beq j 14)) mixed<|Dm 0 rfl<|Dm 1 rfl ?_
    obtain ⟨eb28, eo28, ec28, ea28, er28, el28, eh28⟩ := hl.elem g om
    obtain ⟨xa28_0, xc28_0, xa28_1, xc28_1, rfl, xh28_0, xh28_1⟩ := a0K er28
    have := xh28_0.slen.2
    have := xh28_1.slen.2
    refine Dyp 2 rfl (z8 us_Bindings ty_Binding rfl ea28 rfl g rfl om)<|Dy 3 rfl (k7 (cs := [_, _]) ty_Binding rfl (eh28 _) rfl)<|Dy 4 rfl (k7 (cs := [_, _]) ty_Atom rfl (Has.pt<|mS m0) rfl)<|Dm 5 rfl<|Dm 6 rfl ?_
    obtain ⟨eb33, eo33, ec33, ea33, er33, el33, eh33⟩ := hfacts.elem h om
    obtain ⟨xa33_0, xc33_0, rfl, ei33_0, xh33_0⟩ := W4 er33
    have := xh33_0.slen.2
    refine Dyp 7 rfl (z8 us_Facts ty_Fact rfl ea33 rfl h rfl om)<|Dy 8 rfl (k7 (cs := [_, _]) ty_Fact rfl (eh33 _) rfl)<|a4c (i := 9) (j := 13) kr ?_ ?_
    ·refine a1R 9 rfl rfl (fun _ => rfl) (N.call (a4w ((hbl _<|List.getElem_mem om).1) ((hbl _<|List.getElem_mem om).2)<|fo) rfl rfl rfl dc rfl<|fun w Lp hA => ⟨hA.ro xh28_0, hA.ro xh28_1, J4, hA.ro y6, ei33_0, hA.ro xh33_0⟩)<|fun k35 _ => ?_
     obtain ⟨⟨a35_0, m35_0, c35_0⟩, ⟨a35_1, m35_1, c35_1⟩⟩ := k35
     refine r8 m0 ?_
     rintro rfl l35_0
     refine r8 (mS m0) ?_
     rintro rfl l35_1
     refine Dm 10 rfl<|Dyp 11 rfl (Y.ext rfl rfl)<|Dyp 12 rfl (Y.ext rfl rfl)<|E7 13 rfl rfl kr (fun _ => rfl) (N.alloc ty_Binding dc)<|fun b10 _ => E7 14 rfl rfl kr (fun h => by cases h) (Ns [_, _] ty_Binding rfl)<|fun _ _ => Dyp 15 rfl (G7 rfl)<|n9 kr<|s4<|s4<|s4<|s4<|s4<|U4 (b10, a35_0, c35_0, a35_1, c35_1) trivial ⟨rfl, rfl, rfl, rfl, rfl, rfl, rfl, rfl, trivial⟩<|.refl _
    ·refine a1R 13 rfl rfl (fun _ => rfl) (N.alloc ty_Binding dc)<|fun b10 _ => E7 9 rfl rfl kr (fun _ => rfl) (N.call (a4w ((hbl _<|List.getElem_mem om).1) ((hbl _<|List.getElem_mem om).2)<|fo) rfl rfl rfl dc rfl<|fun w Lp hA => ⟨hA.ro xh28_0, hA.ro xh28_1, J4, hA.ro y6, ei33_0, hA.ro xh33_0⟩)<|fun k35 _ => ?_
     obtain ⟨⟨a35_0, m35_0, c35_0⟩, ⟨a35_1, m35_1, c35_1⟩⟩ := k35
     refine r8 m0 ?_
     rintro rfl l35_0
     refine r8 (mS m0) ?_
     rintro rfl l35_1
     refine Dm 10 rfl<|Dyp 11 rfl (Y.ext rfl rfl)<|Dyp 12 rfl (Y.ext rfl rfl)<|i8<|E7 14 rfl rfl kr (fun h => by cases h) (Ns [_, _] ty_Binding rfl)<|fun _ _ => Dyp 15 rfl (G7 rfl)<|n9 kr<|s4<|s4<|s4<|s4<|s4<|U4 (b10, a35_0, c35_0, a35_1, c35_1) trivial ⟨rfl, rfl, rfl, rfl, rfl, rfl, rfl, rfl, trivial⟩<|.refl _
   ·obtain ⟨b10, a35_0, c35_0, a35_1, c35_1⟩ := kM
    try dsimp only
    refine Et<|Ew Z1<|Em rfl<|Ent.b (fun q38 => ?_)<|fun q38 => ?_
    ·refine Eu<|r6 rfl<|Ez Z5<|Em rfl<|Ey rfl (k7 (cs := [_, _]) ty_Binding rfl (Has.pt m0) rfl)<|Est rfl (Nb [_] [_, _] us_Bindings ty_Binding rfl rfl)<|fun b41 _ => a4G<|a4G<|i8<|s4<|Est rfl (B0 (E := B7) (ex := (cond (s7 l[g] (l0, f6) d6[h]) (u9 l[g] (l0, f6) d6[h]).1 [], cond (s7 l[g] (l0, f6) d6[h]) (u9 l[g] (l0, f6) d6[h]).2 [])) us_Bindings ty_Binding rfl rfl rfl (R4 (x := (cond (s7 l[g] (l0, f6) d6[h]) (u9 l[g] (l0, f6) d6[h]).1 [], cond (s7 l[g] (l0, f6) d6[h]) (u9 l[g] (l0, f6) d6[h]).2 [])) Own.ow Own.ow) rfl bn bn dc)<|fun p42 _ => Ei rfl<|En<|o6<|Et<|Ez Z3<|Em rfl<|Yad rfl om om<|Ei rfl<|Eu<|f5<|Ent.drop<|g9 (congrArg (ow s9 [_]) (show _ = J6 (l.take g) (l0, f6) d6 ++ Y0 l[g] (l0, f6) (d6.take<|h + 1) from by grind [a0i, a0z, a0y, a0h, d1, d2, t1, t2]))<|f5<|f5 ?_
     exact Ea (h + 1, p42.1, ((J6 (l.take g) (l0, f6) d6 ++ Y0 l[g] (l0, f6) (d6.take h)).length + 1), p42.2) ⟨oz, trivial⟩
    ·refine Eu<|r7 rfl<|v8<|o6<|Et<|Ez Z3<|Em rfl<|Yad rfl om om<|Ei rfl<|Eu<|Ent.drop<|Ent.drop<|Ent.drop<|g9 (congrArg (ow s9 [_]) (show _ = J6 (l.take g) (l0, f6) d6 ++ Y0 l[g] (l0, f6) (d6.take<|h + 1) from by grind [a0i, a0z, a0y, a0h, d1, d2, t1, t2]))<|f5<|f5 ?_
     exact Ea (h + 1, aA1_0, _, cA1_0) ⟨oz, trivial⟩
  ·refine Eu<|r7 rfl<|E.exit<|l4<|l4<|w8<|o6<|Et<|Ez Z3<|Em rfl<|Yad rfl om om<|Ei rfl<|Eu<|g9 (congrArg (ow s9 [_]) (show _ = J6 (l.take<|g + 1) (l0, f6) d6 from by grind [a0i, a0z, a0y, a0h, d1, d2, t1, t2]))<|f5<|f5 ?_
   exact Ea (g + 1, aA1_0, _, cA1_0) ⟨oz, trivial⟩
 ·refine Eu<|r7 rfl<|E.exit<|l4<|l4<|w8<|Et<|Ew Z2<|Em rfl<|Ei rfl<|Eu<|E.ret<|g9 (congrArg (ow s9 [_]) (show _ = J6 l (l0, f6) d6 by grind [a0i, a0z, a0y, a0h, d1, d2, t1, t2]))<|Fg rfl rfl (_, _, _) rfl rfl
theorem a2u (hqa : d4.length ≤ 4) (hqt : ∀ a ∈ d4, a.2.length ≤ 3) (hf : ∀ a ∈ d4, Few a d6) : TL Tryz.prog 73 [.agg #[.slice y9 D9 y8, .slice v7 C6 v6], .slice a_facts m_facts c_facts] (fun w L => Ro w L eIs [.slice y9 D9 y8] j8 ∧ Ro w L B1 [.slice v7 C6 v6] d4 ∧ Ro w L s5 [.slice a_facts m_facts c_facts] d6) s9 (H6 d4 d6) := by
 refine Ti2 Tryz.func73 23 rfl fun w L hR => ?_
 obtain ⟨C0, z7, hfacts⟩ := hR
 obtain ⟨rfl, W8⟩ := C0.slen
 obtain ⟨rfl, U3⟩ := z7.slen
 obtain ⟨rfl, lfacts⟩ := hfacts.slen
 refine Ew Z2<|Est rfl (N.box (cs := [_, _]) rfl dc rfl)<|fun b2 _ => Ei rfl<|Ev Z3<|Ey rfl ((M4 (pvs := []) (cs := [_, _]) ty_Binding pl_Binding rfl rfl).yd)<|Est rfl (Nb [_] [_, _] us_Bindings ty_Binding rfl rfl)<|fun b9 _ => l6 (A := _ :: _) (U5 (E := B7) (e := tBinding)<|R4 (x := ([], [])) Own.nil Own.nil) rfl<|Ei rfl<|Eu<|Eq_<|Ew Z4<|Lz fo_Query_1 ty_Atoms rfl (mS m0) rfl<|Yln us_Atoms rfl<|Em rfl<|Eu<|E.block<|g9 (congrArg (ow s9 [_]) (show _ = H6 (d4.take 0) d6 from by first | rfl | (simp; done) | grind [a1v, a1c, d1, d2, t1, t2]))<|Lo (κ := Nat × SL) (fun g => g.1 ≤ d4.length ∧ True) (fun g => [(1, .slice a_facts d6.length c_facts), (5, .slice g.2.1 g.2.2.1 g.2.2.2), (11, .slice v7 d4.length v6), (12, .int .i64 (↑d4.length : Int)), (13, .int .i64 (↑g.1 : Int))]) (fun g => [ow s9 [.slice g.2.1 g.2.2.1 g.2.2.2]<|H6 (d4.take g.1) d6, pt b2 28 [.slice y9 j8.length y8, .slice v7 d4.length v6]]) (fun g => d4.length - g.1) (0, (some ⟨b9, 0, none⟩), 1, 1) ⟨Nat.zero_le _, by simp⟩<|fun g pg => ?_
 obtain ⟨g, aA0_0, mA0_0, cA0_0⟩ := g
 try dsimp only at pg
 try dsimp only
 obtain ⟨pk, pa⟩ := pg
 refine r8 m0 ?_
 rintro rfl laA0_0
 refine Ew Z1<|Ylt rfl<|l3 (fun q14 => ?_)<|fun q14 => ?_
 ·obtain ⟨eb15, eo15, ec15, ea15, er15, el15, eh15⟩ := z7.elem g om
  obtain ⟨xa15_0, xc15_0, rfl, ei15_0, xh15_0⟩ := L5 er15
  have := xh15_0.slen.2
  refine Eu<|Eq_<|Ct<|Eq_<|E.block<|Ew Z4<|Ix us_Atoms ty_Atom rfl ea15 g rfl om<|Ey rfl (k7 (cs := [_, _]) ty_Atom rfl (eh15 _) rfl)<|Est rfl (N.alloc ty_Atom dc)<|fun b7 _ => Est rfl (Ns [_, _] ty_Atom rfl)<|fun _ _ => Eu<|Ez Z5<|Em rfl<|Ey rfl (k7 (cs := [_, _]) ty_Atom rfl (Has.pt m0) rfl)<|Em rfl<|El rfl (a3l (fun b hb => by have := (a4L (d6 := d6) hf hqa hqt (g := g) om).2 b hb; omega) (Nat.le_trans (hqt _<|List.getElem_mem om) dc) (hf _<|List.getElem_mem om) (a4L (d6 := d6) hf hqa hqt (g := g) om).1) rfl (fun hA => ⟨hA.ow<|mS m0, ei15_0, hA.ro xh15_0, hA.ro hfacts⟩)<|fun a20 c20 l20 => Ei rfl<|En<|o6<|Et<|Ez Z2<|Yad rfl om om<|Em rfl<|Eu<|f5<|Ent.drop<|f5<|Ent.drop<|g9 (congrArg (ow s9 [_]) (show _ = H6 (d4.take<|g + 1) d6 from by grind [a1v, a1c, d1, d2, t1, t2]))<|f5<|f5 ?_
  exact Ea (g + 1, a20, _, c20) ⟨oz, trivial⟩
 ·refine Eu<|Eq_<|r7 rfl<|E.exit<|l4<|l4<|w8<|Et<|Ew Z2<|Em rfl<|Ei rfl<|Eu<|E.ret<|g9 (congrArg (ow s9 [_]) (show _ = H6 d4 d6 by grind [a1v, a1c, d1, d2, t1, t2]))<|Fg rfl rfl (_, _, _) rfl rfl
theorem a2v (hqa : d4.length ≤ 4) (hqt : ∀ a ∈ d4, a.2.length ≤ 3) (hf : ∀ a ∈ d4, Few a d6) : TL Tryz.prog 82 [.agg #[.slice y9 D9 y8, .slice v7 C6 v6], .slice a_facts m_facts c_facts] (fun w L => Ro w L eIs [.slice y9 D9 y8] j8 ∧ Ro w L B1 [.slice v7 C6 v6] d4 ∧ Ro w L s5 [.slice a_facts m_facts c_facts] d6) s9 (H6 d4 d6) := by
 refine Ti2 Tryz.func82 25 rfl fun w L hR => ?_
 obtain ⟨C0, z7, hfacts⟩ := hR
 obtain ⟨rfl, W8⟩ := C0.slen
 obtain ⟨rfl, U3⟩ := z7.slen
 obtain ⟨rfl, lfacts⟩ := hfacts.slen
 refine Ew Z2<|Est rfl (N.box (cs := [_, _]) rfl dc rfl)<|fun b2 _ => Ei rfl<|Ev Z3<|Ey rfl ((M4 (pvs := []) (cs := [_, _]) ty_Binding pl_Binding rfl rfl).yd)<|Est rfl (Nb [_] [_, _] us_Bindings ty_Binding rfl rfl)<|fun b8 _ => l6 (A := _ :: _) (U5 (E := B7) (e := tBinding)<|R4 (x := ([], [])) Own.nil Own.nil) rfl<|Ei rfl<|Eu<|Eq_<|Ew Z1<|Ei rfl<|Eu<|E.block<|g9 (congrArg (ow s9 [_]) (show _ = H6 (d4.take 0) d6 from by first | rfl | (simp; done) | grind [a1v, a1c, d1, d2, t1, t2]))<|Lo (κ := Nat × SL) (fun g => g.1 ≤ d4.length ∧ True) (fun g => [(1, .slice a_facts d6.length c_facts), (2, .pointer<|some ⟨b2, 0, none⟩), (5, .slice g.2.1 g.2.2.1 g.2.2.2), (6, .int .i64 (↑g.1 : Int))]) (fun g => [ow s9 [.slice g.2.1 g.2.2.1 g.2.2.2]<|H6 (d4.take g.1) d6, pt b2 28 [.slice y9 j8.length y8, .slice v7 d4.length v6]]) (fun g => d4.length - g.1) (0, (some ⟨b8, 0, none⟩), 1, 1) ⟨Nat.zero_le _, by simp⟩<|fun g pg => ?_
 obtain ⟨g, aA0_0, mA0_0, cA0_0⟩ := g
 try dsimp only at pg
 try dsimp only
 obtain ⟨pk, pa⟩ := pg
 refine r8 m0 ?_
 rintro rfl laA0_0
 refine Eq_<|Ew Z5<|Em rfl<|Lz fo_Query_1 ty_Atoms rfl (mS m0) rfl<|Yln us_Atoms rfl<|Ylt rfl<|l3 (fun q13 => ?_)<|fun q13 => ?_
 ·refine Eu<|Ct<|Eq_<|E.block<|Ez Z9<|Em rfl<|Lz fo_Query_1 ty_Atoms rfl (mS m0) rfl<|Em rfl ?_
  obtain ⟨eb20, eo20, ec20, ea20, er20, el20, eh20⟩ := z7.elem g om
  obtain ⟨xa20_0, xc20_0, rfl, ei20_0, xh20_0⟩ := L5 er20
  have := xh20_0.slen.2
  refine Ix us_Atoms ty_Atom rfl ea20 g rfl om<|Ey rfl (k7 (cs := [_, _]) ty_Atom rfl (eh20 _) rfl)<|Em rfl<|El rfl (a3b (fun b hb => by have := (a4L (d6 := d6) hf hqa hqt (g := g) om).2 b hb; omega) (Nat.le_trans (hqt _<|List.getElem_mem om) dc) (hf _<|List.getElem_mem om) (a4L (d6 := d6) hf hqa hqt (g := g) om).1) rfl (fun hA => ⟨hA.ow m0, ei20_0, hA.ro xh20_0, hA.ro hfacts⟩)<|fun a23 c23 l23 => Ei rfl<|En<|o6<|Et<|Ez Z3<|Em rfl<|Yad rfl om om<|Ei rfl<|Eu<|f5<|Ent.drop<|g9 (congrArg (ow s9 [_]) (show _ = H6 (d4.take<|g + 1) d6 from by grind [a1v, a1c, d1, d2, t1, t2]))<|f5<|f5 ?_
  exact Ea (g + 1, a23, _, c23) ⟨oz, trivial⟩
 ·refine Eu<|r7 rfl<|E.exit<|l4<|l4<|w8<|Et<|Ew Z2<|Em rfl<|Ei rfl<|Eu<|E.ret<|g9 (congrArg (ow s9 [_]) (show _ = H6 d4 d6 by grind [a1v, a1c, d1, d2, t1, t2]))<|Fg rfl rfl (_, _, _) rfl rfl
end Go.Proofs.YthapcdhdfaibkaaGreatDoor
