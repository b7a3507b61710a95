import Derived.Test.YtdopeopehgdccaaGreatT8
import Derived.Test.YtdopeopehgdccaaGreatT6
namespace Go.Proofs.YtdopeopehgdccaaGreat
open Go.RowKit
set_option linter.all false
set_option maxHeartbeats 2000000
attribute [local irreducible] Nop Yd Yp Ent Has Tr FnP FnP2 Src
variable {o5 : Int} {l : List (Int × List Int)} {f9 : List Int} {D3 y8 m_l c_l : Nat} {y9 a_l : Option Addr}
theorem a9b {a4t : Int} {X7 : Option Addr} {X8 X9 : Nat} {a2w : List Int} {b_f : Nat} : Tr Tryz.prog 214 [.agg #[.int .i64 a4t, .slice X7 X8 X9], .pointer (some ⟨b_f, 0, none⟩)] (fun w L => (I64 a4t ∧ Ro w L eIs [.slice X7 X8 X9] a2w) ∧ RoPt w L b_f [.int .i64 o5, .slice y9 D3 y8] ∧ I64 o5 ∧ Ro w L eIs [.slice y9 D3 y8] f9) [] (κ := Unit) (fun k => True) (fun k => .bool (decide (R4 (a4t, a2w) (o5, f9) = 0))) (fun k => []) := by
 refine n9 Tryz.func214 rfl (n := 8) rfl (by decide +kernel) bl (fr := [(0, .agg #[.int .i64 a4t, .slice X7 X8 X9]), (1, .pointer (some ⟨b_f, 0, none⟩))]) rfl fun w L hR => ?_
 obtain ⟨⟨b0M, a1T⟩, hb_f, J6, B4⟩ := hR
 obtain ⟨rfl, b1r⟩ := a1T.slen
 obtain ⟨rfl, Y9⟩ := B4.slen
 refine Ew Z2 (Est rfl (N.box (cs := [_, _]) rfl dc rfl) (fun b2 _ => (Ei rfl (Ev Z5 (Ey rfl (o9 (cs := [_, _]) ty_Fact rfl (Has.pt m0) rfl) (Ey rfl (o9 (cs := [_, _]) ty_Fact rfl (hb_f.has) rfl) (Est rfl (n0 a2j rfl rfl rfl dc (fun w Lp hA => ⟨b0M, hA.ro a1T, J6, hA.ro B4⟩)) (fun _ _ => (Ey rfl ((Y.eql rfl rfl).yd) (Ei rfl ?_))))))))))
 exact Eu (E.ret (Fg rfl rfl () rfl rfl))
theorem a3L : Tr Tryz.prog 126 [.slice a_l m_l c_l, .agg #[.int .i64 o5, .slice y9 D3 y8]] (fun w L => Ro w L s8 [.slice a_l m_l c_l] l ∧ I64 o5 ∧ Ro w L eIs [.slice y9 D3 y8] f9) [] (κ := Unit) (fun k => True) (fun k => .bool (K6 l (o5, f9))) (fun k => []) := by
 refine n9 Tryz.func126 rfl (n := 8) rfl (by decide +kernel) bl (fr := [(0, .slice a_l m_l c_l), (1, .agg #[.int .i64 o5, .slice y9 D3 y8])]) rfl fun w L hR => ?_
 obtain ⟨hl, J6, B4⟩ := hR
 obtain ⟨rfl, ll⟩ := hl.slen
 obtain ⟨rfl, Y9⟩ := B4.slen
 refine Ew Z2 (Est rfl (N.box (cs := [_, _]) rfl dc rfl) (fun b3 _ => (Ei rfl (Ev Z4 (Em rfl (Ey rfl ((Y.fn (vs := [_]) rfl).yd) (Est rfl (n0 (a6X (f := (fun z => decide (R4 z (o5, f9) = 0))) (D_f := (fun _ => True)) (by intros; exact trivial)) rfl rfl rfl dc (fun w Lp hA => ⟨hA.ro hl, a6G (D := (fun _ => True)) (fun hd => a9b) (fun w' hk => ⟨(hA.pt m0).keep hk, J6, (hA.ro B4).keep hk⟩)⟩)) (fun _ _ => (Ei rfl ?_)))))))))
 exact Eu (E.ret (Fb rfl rfl (by rfl)))
theorem a3O : Tr Tryz.prog 115 [.slice a_l m_l c_l, .agg #[.int .i64 o5, .slice y9 D3 y8]] (fun w L => Ro w L s8 [.slice a_l m_l c_l] l ∧ I64 o5 ∧ Ro w L eIs [.slice y9 D3 y8] f9) [] (κ := Unit) (fun k => True) (fun k => .bool (K6 l (o5, f9))) (fun k => []) := by
 refine n9 Tryz.func115 rfl (n := 19) rfl (by decide +kernel) bl (fr := [(0, .slice a_l m_l c_l), (1, .agg #[.int .i64 o5, .slice y9 D3 y8])]) rfl fun w L hR => ?_
 obtain ⟨hl, J6, B4⟩ := hR
 obtain ⟨rfl, ll⟩ := hl.slen
 obtain ⟨rfl, Y9⟩ := B4.slen
 refine Ew Z2 (Est rfl (N.box (cs := [_, _]) rfl dc rfl) (fun b3 _ => (Ei rfl (Eu (Eq_ (Ew Z1 (Ei rfl (Eu (E.block (E.loop (κ := Nat) (fun g => g ≤ l.length ∧ K6 l (o5, f9) = K6 (l.drop g) (o5, f9)) (fun g => [(0, .slice a_l l.length c_l), (3, .pointer (some ⟨b3, 0, none⟩)), (5, .int .i64 (g : Int))]) (fun g => [pt b3 115 [.int .i64 o5, .slice y9 f9.length y8]]) (fun g => l.length - g) 0 ⟨Nat.zero_le _, by simp⟩ ⟨rfl, rfl, rfl, trivial⟩ (.refl _) (fun g pg => ?_)))))))))))
 obtain ⟨pk, pa⟩ := pg
 refine Eq_ (Ew Z4 (Em rfl (Em rfl (Ey rfl ((Y.len us_Facts rfl).yd) (Ey rfl ((Y.lss rfl rfl).yd) (o6 (fun q9 => ?_) (fun q9 => ?_)))))))
 ·refine Eu (o2 rfl (j5 (Et (Eq_ (E.block (Eq_ (D.region (fun j => true) mixed (Dyp 0 rfl (l3 rfl) (Dyp 1 rfl (l3 rfl) ?_)))))))))
  obtain ⟨eb14, eo14, ec14, ea14, er14, el14, eh14⟩ := hl.elem g om
  obtain ⟨xa14_0, xc14_0, rfl, ei14_0, xh14_0⟩ := P2 er14
  have := xh14_0.slen.2
  refine Dyp 2 rfl (r7 us_Facts ty_Fact rfl ea14 rfl g rfl om) (Dy 3 rfl (o9 (cs := [_, _]) ty_Fact rfl (eh14 _) rfl) (Dy 4 rfl (o9 (cs := [_, _]) ty_Fact rfl (Has.pt m0) rfl) (t8 5 rfl rfl kr (fun _ => rfl) (n0 a1k rfl rfl rfl dc (fun w Lp hA => ⟨ei14_0, hA.ro xh14_0, J6, hA.ro B4⟩)) (fun _ _ => (Dyp 6 rfl (Y.eql rfl rfl) (o6 (fun q18 => ?_) (fun q18 => ?_)))))))
  ·refine r8 kr (Et (o2 rfl (Ew Z1 (Ei rfl ?_))))
   exact Eu (E.ret (w5 (l4 (l4 (w5 (l4 (Fb rfl rfl (by grind [K6, d1, d2, t1, t2]))))))))
  ·refine r8 kr (Et (o3 rfl (j5 (t7 (Et (Ez Z3 (Em rfl (Ey rfl ((Y.add rfl rfl om om).yd) (Ei rfl ?_)))))))))
   exact Eu (v8 br (g + 1) rs (.refl _) ⟨by omega, by grind [K6, d1, d2, t1, t2]⟩ om)
 ·refine Eu (o3 rfl (E.exit (o8 (o8 (x9 (Et (Ew Z1 (Ei rfl ?_))))))))
  exact Eu (E.ret (Fb rfl rfl (by grind [K6, d1, d2, t1, t2])))
theorem a6H {l0 : Int} {s7 : Option Addr} {u8 s6 : Nat} {f7 : List Int} {y6 : Option Addr} {D5 y7 : Nat} {j9 : List Int} {s4 : Option Addr} {u5 s5 : Nat} {f8 : List Int} (hz : f7.length ≤ 1048576) : Tr Tryz.prog 127 [.agg #[.int .i64 l0, .slice s7 u8 s6], .agg #[.slice y6 D5 y7, .slice s4 u5 s5]] (fun w L => I64 l0 ∧ Ro w L eIs [.slice s7 u8 s6] f7 ∧ Ro w L eIs [.slice y6 D5 y7] j9 ∧ Ro w L eIs [.slice s4 u5 s5] f8) [] (κ := Option Addr × Nat × Nat) (fun k => True) (fun k => .agg #[.int .i64 ((S9 (l0, f7) (j9, f8)).1), .slice k.1 k.2.1 k.2.2]) (fun k => [ow eIs [.slice k.1 k.2.1 k.2.2] ((S9 (l0, f7) (j9, f8)).2)]) := by
 refine n9 Tryz.func127 rfl (n := 29) rfl (by decide +kernel) bl (fr := [(0, .agg #[.int .i64 l0, .slice s7 u8 s6]), (1, .agg #[.slice y6 D5 y7, .slice s4 u5 s5])]) rfl fun w L hR => ?_
 obtain ⟨G5, x6, E0, w4⟩ := hR
 obtain ⟨rfl, N8⟩ := x6.slen
 obtain ⟨rfl, a0u⟩ := E0.slen
 obtain ⟨rfl, O3⟩ := w4.slen
 have jv := a7x (b := (j9, f8)) (l := f7) x6.i64 E0.i64 w4.i64
 refine Ew Z3 (Est rfl (N.box (cs := [_, _]) rfl dc rfl) (fun b2 _ => (Est rfl (N.box (cs := [_, _]) rfl dc rfl) (fun b3 _ => (Est rfl (N.alloc ty_Fact dc) (fun b4 _ => (Ev Z6 (Ey rfl ((j7 fo_Atom_0 i8 dc rfl).yd) (Ey rfl (g9 i8 rfl (Hz (mS (mS m0)) 0 rfl) rfl) (Est rfl (Nb [] [] us_Is i8 rfl rfl) (fun b10 _ => (Ent.drop (Ey rfl ((Q3 (pvs := [_, _]) (cs := [_, _]) ty_Fact a7S rfl rfl).yd) (Est rfl (N.alloc ty_Fact dc) (fun b5 _ => (Est rfl (Ns [_, _] ty_Fact rfl) (fun _ _ => (Eu (Eq_ (Ew Z4 (Ey rfl ((j7 fo_Atom_1 ty_Is dc rfl).yd) (Ey rfl (g9 ty_Is rfl (Hz (mS (mS (mS m0))) 1 rfl) rfl) (Ey rfl ((Y.len us_Is rfl).yd) (Em rfl (Eu (E.block (s3 (A := []) (Own.nil (E := Enc.int) (e := tI) (a := (some ⟨b10, 0, none⟩))) rfl (j6 (congrArg (ow eIs [_]) (show [] = (f7.take 0).map (F3 (j9, f8)) from by first | rfl | (simp; done) | grind [S9, d1, d2, t1, t2])) (E.loop (κ := Nat × Option Addr × Nat × Nat) (fun g => g.1 ≤ f7.length ∧ True) (fun g => [(3, .pointer (some ⟨b3, 0, none⟩)), (4, .pointer (some ⟨b4, 0, none⟩)), (5, .pointer (some ⟨b5, 0, none⟩)), (13, .slice s7 f7.length s6), (14, .int .i64 (↑f7.length : Int)), (15, .int .i64 (↑g.1 : Int))]) (fun g => [ow eIs [.slice g.2.1 g.2.2.1 g.2.2.2] ((f7.take g.1).map (F3 (j9, f8))), pt b5 115 [.int .i64 l0, .slice g.2.1 g.2.2.1 g.2.2.2], pt b4 115 [.int .i64 0, .slice none 0 0], pt b3 125 [.slice y6 j9.length y7, .slice s4 f8.length s5], pt b2 128 [.int .i64 l0, .slice s7 f7.length s6]]) (fun g => f7.length - g.1) (0, (some ⟨b10, 0, none⟩), 0, 0) ⟨Nat.zero_le _, by simp⟩ ⟨rfl, rfl, rfl, rfl, rfl, rfl, trivial⟩ (.refl _) (fun g pg => ?_))))))))))))))))))))))))))))))
 obtain ⟨g, aA0_0, mA0_0, cA0_0⟩ := g
 try dsimp only at pg
 try dsimp only
 obtain ⟨pk, pa⟩ := pg
 refine i9 m0 fun eaA0_0 laA0_0 => ?_
 subst eaA0_0
 refine Ew Z1 (Ey rfl ((Y.lss rfl rfl).yd) (o6 (fun q16 => ?_) (fun q16 => ?_)))
 ·obtain ⟨eb17, eo17, ea17, ei17, eh17⟩ := x6.elemI g om
  refine Eu (Eq_ (o2 rfl (j5 (Et (Eq_ (E.block (Ew Z3 (Ey rfl ((r7 us_Is i8 rfl ea17 rfl g rfl om).yd) (Ey rfl (g9 i8 rfl (eh17 _) rfl) (Ei rfl (Eu (D.region (fun j => !(Nat.beq j 6) && !(Nat.beq j 8)) mixed (Dyp 0 rfl (j7 fo_Fact_1 ty_Is dc rfl) (Dy 1 rfl (g9 ty_Is rfl (Hz (mS m0) 1 rfl) rfl) (Dy 2 rfl (o9 (cs := [_, _]) ty_Binding rfl (Has.pt (mS (mS (mS m0)))) rfl) (Dyp 3 rfl (l3 rfl) (t8 4 rfl rfl kr (fun _ => rfl) (n0 a0U rfl rfl rfl dc (fun w Lp hA => ⟨hA.ro E0, hA.ro w4⟩)) (fun _ _ => (t8 5 rfl rfl kr (fun _ => rfl) (Nb [_] [_] us_Is i8 rfl rfl) (fun b24 _ => (i7 (t8 6 rfl rfl kr (fun h => by cases h) (D6 (E := Enc.int) (ex := F3 (j9, f8) f7[g]) us_Is i8 rfl rfl rfl (Own.int i6) rfl bn bn dc) (fun p25 _ => (Dyp 7 rfl (j7 fo_Fact_1 ty_Is dc rfl) (i7 (t8 8 rfl rfl kr (fun h => by cases h) (Ns [_, _] ty_Is rfl) (fun _ _ => (r8 kr (t7 (Et (Ez Z2 (Ey rfl ((Y.add rfl rfl om om).yd) (Em rfl (Eu (i7 (j6 (congrArg (ow eIs [_]) (show ((f7.take g).map (F3 (j9, f8))) ++ [F3 (j9, f8) f7[g]] = (f7.take (g + 1)).map (F3 (j9, f8)) from by grind [S9, d1, d2, t1, t2])) (C7 (C7 (C7 (C7 (C7 ?_)))))))))))))))))))))))))))))))))))))))))
  exact Ea (g + 1, p25.1, (((f7.take g).map (F3 (j9, f8))).length + 1), p25.2) ⟨oz, trivial⟩
 ·refine Eu (Eq_ (o3 rfl (E.exit (o8 (o8 (x9 (Et (Ew Z2 (Ey rfl (o9 (cs := [_, _]) ty_Fact rfl (Has.pt (mS m0)) rfl) (r5 (Est rfl (Ns [_, _] ty_Fact rfl) (fun _ _ => (Eu (E.ret (i7 (j6 (congrArg (ow eIs [_]) (show _ = (S9 (l0, f7) (j9, f8)).2 by grind [S9, d1, d2, t1, t2])) ?_))))))))))))))))
  exact a2k br rfl rfl (mS m0) ty_Fact rfl (_, _, _) trivial (by rw [show ((S9 (l0, f7) (j9, f8)).1) = (l0) from (by grind [S9, d1, d2, t1, t2])]; try rfl) (J := _) (.refl _) (.inl rfl)
end Go.Proofs.YtdopeopehgdccaaGreat
