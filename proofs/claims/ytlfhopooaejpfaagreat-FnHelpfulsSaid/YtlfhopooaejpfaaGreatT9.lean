import Derived.Test.YtlfhopooaejpfaaGreatT8
import Derived.Test.YtlfhopooaejpfaaGreatT6
namespace Go.Proofs.YtlfhopooaejpfaaGreat
open Go.RowKit
set_option linter.all false
set_option maxHeartbeats 2000000
attribute [local irreducible] Nop Yd Yp Ent Has Tr FnP FnP2 Src
variable {l0 : Int} {l : List (Int × List Int)} {d9 : List Int} {B7 y5 m_l c_l : Nat} {y6 a_l : Option Addr}
theorem a8K {a1y : Int} {Q7 : Option Addr} {Q8 Q9 : Nat} {a0l : List Int} {b_f : Nat} : Tr Tryz.prog 227 [.agg #[.int .i64 a1y, .slice Q7 Q8 Q9], .pointer (some ⟨b_f, 0, none⟩)] (fun w L => (I64 a1y ∧ Ro w L eIs [.slice Q7 Q8 Q9] a0l) ∧ RoPt w L b_f [.int .i64 l0, .slice y6 B7 y5] ∧ I64 l0 ∧ Ro w L eIs [.slice y6 B7 y5] d9) [] (κ := Unit) (fun k => True) (fun k => .bool (decide (Q0 (a1y, a0l) (l0, d9) = 0))) (fun k => []) := by
 refine Tr.intro Tryz.func227 rfl (n := 8) rfl (by decide +kernel) bl (fr := [(0, .agg #[.int .i64 a1y, .slice Q7 Q8 Q9]), (1, .pointer (some ⟨b_f, 0, none⟩))]) rfl fun w L hR => ?_
 obtain ⟨⟨a6h, a0c⟩, hb_f, H5, B4⟩ := hR
 obtain ⟨rfl, a7S⟩ := a0c.slen
 obtain ⟨rfl, R4⟩ := B4.slen
 refine Ew Z2 (Est rfl (N.box (cs := [_, _]) rfl dc rfl) (fun b2 _ => (Ei rfl (Ev Z5 (Ey rfl (r9 (cs := [_, _]) ty_Fact rfl (Has.pt m0) rfl) (Ey rfl (r9 (cs := [_, _]) ty_Fact rfl (hb_f.has) rfl) (Est rfl (o4 a1P rfl rfl rfl dc (fun w Lp hA => ⟨a6h, hA.ro a0c, H5, hA.ro B4⟩)) (fun _ _ => (Ey rfl ((Y.eql rfl rfl).yd) (Ei rfl ?_))))))))))
 exact Eu (E.ret (Fg rfl rfl () rfl rfl))
theorem a3L : Tr Tryz.prog 185 [.slice a_l m_l c_l, .agg #[.int .i64 l0, .slice y6 B7 y5]] (fun w L => Ro w L s6 [.slice a_l m_l c_l] l ∧ I64 l0 ∧ Ro w L eIs [.slice y6 B7 y5] d9) [] (κ := Unit) (fun k => True) (fun k => .bool (I5 l (l0, d9))) (fun k => []) := by
 refine Tr.intro Tryz.func185 rfl (n := 8) rfl (by decide +kernel) bl (fr := [(0, .slice a_l m_l c_l), (1, .agg #[.int .i64 l0, .slice y6 B7 y5])]) rfl fun w L hR => ?_
 obtain ⟨hl, H5, B4⟩ := hR
 obtain ⟨rfl, ll⟩ := hl.slen
 obtain ⟨rfl, R4⟩ := B4.slen
 refine Ew Z2 (Est rfl (N.box (cs := [_, _]) rfl dc rfl) (fun b3 _ => (Ei rfl (Ev Z4 (Em rfl (Ey rfl ((Y.fn (vs := [_]) rfl).yd) (Est rfl (o4 (a3F (f := (fun z => decide (Q0 z (l0, d9) = 0))) (D_f := (fun _ => True)) (by intros; exact trivial)) rfl rfl rfl dc (fun w Lp hA => ⟨hA.ro hl, a4r (D := (fun _ => True)) (fun hd => a8K) (fun w' hk => ⟨(hA.pt m0).keep hk, H5, (hA.ro B4).keep hk⟩)⟩)) (fun _ _ => (Ei rfl ?_)))))))))
 exact Eu (E.ret (Fb rfl rfl (by rfl)))
theorem a3M : Tr Tryz.prog 71 [.slice a_l m_l c_l, .agg #[.int .i64 l0, .slice y6 B7 y5]] (fun w L => Ro w L s6 [.slice a_l m_l c_l] l ∧ I64 l0 ∧ Ro w L eIs [.slice y6 B7 y5] d9) [] (κ := Unit) (fun k => True) (fun k => .bool (I5 l (l0, d9))) (fun k => []) := by
 refine Tr.intro Tryz.func71 rfl (n := 19) rfl (by decide +kernel) bl (fr := [(0, .slice a_l m_l c_l), (1, .agg #[.int .i64 l0, .slice y6 B7 y5])]) rfl fun w L hR => ?_
 obtain ⟨hl, H5, B4⟩ := hR
 obtain ⟨rfl, ll⟩ := hl.slen
 obtain ⟨rfl, R4⟩ := B4.slen
 refine Ew Z2 (Est rfl (N.box (cs := [_, _]) rfl dc rfl) (fun b3 _ => (Ei rfl (Eu (Eq_ (Ew Z1 (Ei rfl (Eu (E.block (E.loop (κ := Nat) (fun g => g ≤ l.length ∧ I5 l (l0, d9) = I5 (l.drop g) (l0, d9)) (fun g => [(0, .slice a_l l.length c_l), (3, .pointer (some ⟨b3, 0, none⟩)), (5, .int .i64 (g : Int))]) (fun g => [pt b3 91 [.int .i64 l0, .slice y6 d9.length y5]]) (fun g => l.length - g) 0 ⟨Nat.zero_le _, by simp⟩ ⟨rfl, rfl, rfl, trivial⟩ (.refl _) (fun g pg => ?_)))))))))))
 obtain ⟨pk, pa⟩ := pg
 refine Eq_ (Ew Z4 (Em rfl (Em rfl (Ey rfl ((Y.len us_Facts rfl).yd) (Ey rfl ((Y.lss rfl rfl).yd) (n9 (fun q9 => ?_) (fun q9 => ?_)))))))
 ·refine Eu (o0 rfl (f9 (Et (Eq_ (E.block (Eq_ (D.region (fun j => true) mixed (Dyp 0 rfl (k6 rfl) (Dyp 1 rfl (k6 rfl) ?_)))))))))
  obtain ⟨eb14, eo14, ec14, ea14, er14, el14, eh14⟩ := hl.elem g om
  obtain ⟨xa14_0, xc14_0, rfl, ei14_0, xh14_0⟩ := R0 er14
  have := xh14_0.slen.2
  refine Dyp 2 rfl (w3 us_Facts ty_Fact rfl ea14 rfl g rfl om) (Dy 3 rfl (r9 (cs := [_, _]) ty_Fact rfl (eh14 _) rfl) (Dy 4 rfl (r9 (cs := [_, _]) ty_Fact rfl (Has.pt m0) rfl) (u7 5 rfl rfl kr (fun _ => rfl) (o4 a0H rfl rfl rfl dc (fun w Lp hA => ⟨ei14_0, hA.ro xh14_0, H5, hA.ro B4⟩)) (fun _ _ => (Dyp 6 rfl (Y.eql rfl rfl) (n9 (fun q18 => ?_) (fun q18 => ?_)))))))
  ·refine t6 kr (Et (o0 rfl (Ew Z1 (Ei rfl ?_))))
   exact Eu (E.ret (C9 (s9 (s9 (C9 (s9 (Fb rfl rfl (by grind [I5, d1, d2, t1, t2]))))))))
  ·refine t6 kr (Et (n8 rfl (f9 (s8 (Et (Ez Z3 (Em rfl (Ey rfl ((Y.add rfl rfl om om).yd) (Ei rfl ?_)))))))))
   exact Eu (B0 br (g + 1) rs (.refl _) ⟨by omega, by grind [I5, d1, d2, t1, t2]⟩ om)
 ·refine Eu (n8 rfl (E.exit (l3 (l3 (y4 (Et (Ew Z1 (Ei rfl ?_))))))))
  exact Eu (E.ret (Fb rfl rfl (by grind [I5, d1, d2, t1, t2])))
theorem b1T {o3 : Int} {F3 : Option Addr} {J6 F2 : Nat} {f7 : List Int} {E3 : Option Addr} {G7 s4 : Nat} {j8 : List Int} {y8 : Option Addr} {B8 y7 : Nat} {f8 : List Int} (hz : f7.length ≤ 1048576) : Tr Tryz.prog 209 [.agg #[.int .i64 o3, .slice F3 J6 F2], .agg #[.slice E3 G7 s4, .slice y8 B8 y7]] (fun w L => I64 o3 ∧ Ro w L eIs [.slice F3 J6 F2] f7 ∧ Ro w L eIs [.slice E3 G7 s4] j8 ∧ Ro w L eIs [.slice y8 B8 y7] f8) [] (κ := Option Addr × Nat × Nat) (fun k => True) (fun k => .agg #[.int .i64 ((G6 (o3, f7) (j8, f8)).1), .slice k.1 k.2.1 k.2.2]) (fun k => [ow eIs [.slice k.1 k.2.1 k.2.2] ((G6 (o3, f7) (j8, f8)).2)]) := by
 refine Tr.intro Tryz.func209 rfl (n := 29) rfl (by decide +kernel) bl (fr := [(0, .agg #[.int .i64 o3, .slice F3 J6 F2]), (1, .agg #[.slice E3 G7 s4, .slice y8 B8 y7])]) rfl fun w L hR => ?_
 obtain ⟨a0y, K8, G8, C6⟩ := hR
 obtain ⟨rfl, a2R⟩ := K8.slen
 obtain ⟨rfl, a1n⟩ := G8.slen
 obtain ⟨rfl, S9⟩ := C6.slen
 have jv := a7P (b := (j8, f8)) (l := f7) K8.i64 G8.i64 C6.i64
 refine Ew Z3 (Est rfl (N.box (cs := [_, _]) rfl dc rfl) (fun b2 _ => (Est rfl (N.box (cs := [_, _]) rfl dc rfl) (fun b3 _ => (Est rfl (N.alloc ty_Fact dc) (fun b4 _ => (Ev Z6 (Ey rfl ((i8 fo_Atom_0 f5 dc rfl).yd) (Ey rfl (g9 f5 rfl (Hz (mS (mS m0)) 0 rfl) rfl) (Est rfl (Nb [] [] us_Is f5 rfl rfl) (fun b10 _ => (Ent.drop (Ey rfl ((I3 (pvs := [_, _]) (cs := [_, _]) ty_Fact a3Q rfl rfl).yd) (Est rfl (N.alloc ty_Fact dc) (fun b5 _ => (Est rfl (Ns [_, _] ty_Fact rfl) (fun _ _ => (Eu (Eq_ (Ew Z4 (Ey rfl ((i8 fo_Atom_1 ty_Is dc rfl).yd) (Ey rfl (g9 ty_Is rfl (Hz (mS (mS (mS m0))) 1 rfl) rfl) (Ey rfl ((Y.len us_Is rfl).yd) (Em rfl (Eu (E.block (s7 (A := []) (Own.nil (E := Enc.int) (e := tI) (a := (some ⟨b10, 0, none⟩))) rfl ?_)))))))))))))))))))))))))))
 refine f6 (congrArg (ow eIs [_]) (show [] = (f7.take 0).map (C1 (j8, f8)) from by first | rfl | (simp; done) | grind [G6, d1, d2, t1, t2])) (E.loop (κ := Nat × Option Addr × Nat × Nat) (fun g => g.1 ≤ f7.length ∧ True) (fun g => [(3, .pointer (some ⟨b3, 0, none⟩)), (4, .pointer (some ⟨b4, 0, none⟩)), (5, .pointer (some ⟨b5, 0, none⟩)), (13, .slice F3 f7.length F2), (14, .int .i64 (↑f7.length : Int)), (15, .int .i64 (↑g.1 : Int))]) (fun g => [ow eIs [.slice g.2.1 g.2.2.1 g.2.2.2] ((f7.take g.1).map (C1 (j8, f8))), pt b5 91 [.int .i64 o3, .slice g.2.1 g.2.2.1 g.2.2.2], pt b4 91 [.int .i64 0, .slice none 0 0], pt b3 78 [.slice E3 j8.length s4, .slice y8 f8.length y7], pt b2 81 [.int .i64 o3, .slice F3 f7.length F2]]) (fun g => f7.length - g.1) (0, (some ⟨b10, 0, none⟩), 0, 0) ⟨Nat.zero_le _, by simp⟩ ⟨rfl, rfl, rfl, rfl, rfl, rfl, trivial⟩ (.refl _) (fun g pg => ?_))
 obtain ⟨g, aA0_0, mA0_0, cA0_0⟩ := g
 try dsimp only at pg
 try dsimp only
 obtain ⟨pk, pa⟩ := pg
 refine d6 m0 fun eaA0_0 laA0_0 => ?_
 subst eaA0_0
 refine Ew Z1 (Ey rfl ((Y.lss rfl rfl).yd) (n9 (fun q16 => ?_) (fun q16 => ?_)))
 ·obtain ⟨eb17, eo17, ea17, ei17, eh17⟩ := K8.elemI g om
  refine Eu (Eq_ (o0 rfl (f9 (Et (Eq_ (E.block (Ew Z3 (Ey rfl ((w3 us_Is f5 rfl ea17 rfl g rfl om).yd) (Ey rfl (g9 f5 rfl (eh17 _) rfl) (Ei rfl (Eu (D.region (fun j => !(Nat.beq j 6) && !(Nat.beq j 8)) mixed (Dyp 0 rfl (i8 fo_Fact_1 ty_Is dc rfl) (Dy 1 rfl (g9 ty_Is rfl (Hz (mS m0) 1 rfl) rfl) (Dy 2 rfl (r9 (cs := [_, _]) ty_Binding rfl (Has.pt (mS (mS (mS m0)))) rfl) (Dyp 3 rfl (k6 rfl) (u7 4 rfl rfl kr (fun _ => rfl) (o4 a1j rfl rfl rfl dc (fun w Lp hA => ⟨hA.ro G8, hA.ro C6⟩)) (fun _ _ => (u7 5 rfl rfl kr (fun _ => rfl) (Nb [_] [_] us_Is f5 rfl rfl) (fun b24 _ => (d8 (u7 6 rfl rfl kr (fun h => by cases h) (B2 (E := Enc.int) (ex := C1 (j8, f8) f7[g]) us_Is f5 rfl rfl rfl (Own.int i6) rfl bn bn dc) (fun p25 _ => (Dyp 7 rfl (i8 fo_Fact_1 ty_Is dc rfl) (d8 (u7 8 rfl rfl kr (fun h => by cases h) (Ns [_, _] ty_Is rfl) (fun _ _ => (t6 kr (s8 (Et (Ez Z2 (Ey rfl ((Y.add rfl rfl om om).yd) ?_))))))))))))))))))))))))))))))))
  refine Em rfl (Eu (d8 (f6 (congrArg (ow eIs [_]) (show ((f7.take g).map (C1 (j8, f8))) ++ [C1 (j8, f8) f7[g]] = (f7.take (g + 1)).map (C1 (j8, f8)) from by grind [G6, d1, d2, t1, t2])) (n0 (n0 (n0 (n0 (n0 ?_))))))))
  exact Ea (g + 1, p25.1, (((f7.take g).map (C1 (j8, f8))).length + 1), p25.2) ⟨oz, trivial⟩
 ·refine Eu (Eq_ (n8 rfl (E.exit (l3 (l3 (y4 (Et (Ew Z2 (Ey rfl (r9 (cs := [_, _]) ty_Fact rfl (Has.pt (mS m0)) rfl) (j7 (Est rfl (Ns [_, _] ty_Fact rfl) (fun _ _ => (Eu (E.ret (d8 (f6 (congrArg (ow eIs [_]) (show _ = (G6 (o3, f7) (j8, f8)).2 by grind [G6, d1, d2, t1, t2])) ?_))))))))))))))))
  exact O7 br rfl rfl (mS m0) ty_Fact rfl (_, _, _) trivial (by rw [show ((G6 (o3, f7) (j8, f8)).1) = (o3) from (by grind [G6, d1, d2, t1, t2])]; try rfl) (J := _) (.refl _) (.inl rfl)
end Go.Proofs.YtlfhopooaejpfaaGreat
