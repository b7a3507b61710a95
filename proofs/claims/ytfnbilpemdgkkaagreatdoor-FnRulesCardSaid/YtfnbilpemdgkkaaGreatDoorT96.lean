import Derived.Test.YtfnbilpemdgkkaaGreatDoorT13
import Derived.Test.YtfnbilpemdgkkaaGreatDoorGf
import Derived.Test.YtfnbilpemdgkkaaGreatDoorBv
import Derived.Test.YtfnbilpemdgkkaaGreatDoorBx
namespace Go.Proofs.YtfnbilpemdgkkaaGreatDoor
open Go.RowKit
set_option linter.all false
set_option maxHeartbeats 2000000
attribute [local irreducible] Nop Yd Yp Ent Has Tr FnP FnP2 Src J1 P8 U7 W9 E0 wyI wyK wyR wyB dvI dvF
variable {f_g : FuncId} {d6 : Int} {s : List ((Int × List Int) × List Int)} {c8 : List Int} {f_c : List Value} {m_s c_s m8 j9 : Nat} {a_s k6 : Option Addr}
theorem a4f {D_f : ((Int × List Int) × List Int) → Prop} {f : ((Int × List Int) × List Int) → Bool} (hD_f : ∀ x ∈ s, D_f x) : Tr Tryz.prog 182 [.slice a_s m_s c_s, .func (.func f_g) #[] f_c.toArray] (fun w L => Ro w L a2D [.slice a_s m_s c_s] s ∧ FnP Tryz.prog w L f_g f_c E8 a1h D_f f) [] (κ := Unit) (fun k => True) (fun k => .int .i64 (H2 f s)) (fun k => []) := by
 refine f8 Tryz.func182 rfl (n := 19) rfl (by decide +kernel) bl (fr := [(0, .slice a_s m_s c_s), (1, .func (.func f_g) #[] f_c.toArray)]) rfl fun w L hR => ?_
 obtain ⟨hs, hf⟩ := hR
 obtain ⟨rfl, ls⟩ := hs.slen
 refine Ew Z1 (Ei rfl (Eu (Eq_ (Ew Z3 (Em rfl (Ey rfl ((Y.len us_ways rfl).yd) (Em rfl (Eu (E.block (E.loop (κ := Nat) (fun g => g ≤ s.length ∧ ∀ x ∈ s.take g, f x = false) (fun g => [(0, .slice a_s s.length c_s), (1, .func (.func f_g) #[] f_c.toArray), (7, .int .i64 (↑s.length : Int)), (8, .int .i64 (g : Int))]) (fun g => []) (fun g => s.length - g) 0 ⟨by omega, by simp⟩ ⟨rfl, rfl, rfl, rfl, trivial⟩ (.refl _) (fun g pg => ?_)))))))))))
 obtain ⟨pk, pa⟩ := pg
 refine Ew Z1 (Ey rfl ((Y.lss rfl rfl).yd) (j8 (fun q9 => ?_) (fun q9 => ?_)))
 ·refine Eu (Eq_ (l3 rfl (d9 (Et (Eq_ (E.block (Ew Z2 (Em rfl (Ei rfl (Ev Z6 (Em rfl (Em rfl (Em rfl ?_)))))))))))))
  obtain ⟨eb14, eo14, ec14, ea14, er14, el14, eh14⟩ := hs.elem g om
  obtain ⟨xa14_0, xc14_0, xa14_1, xc14_1, rfl, ei14_0, xh14_0, xh14_1⟩ := a5a er14
  have := xh14_0.slen.2
  have := xh14_1.slen.2
  refine Ey rfl ((r8 us_ways ty_way rfl ea14 rfl g rfl om).yd) (Ey rfl (l8 (cs := [_, _, _]) ty_way rfl (eh14 _) rfl) (Est rfl (N.fn (cs := [_, _, _]) hf rfl rfl rfl dc (fun w Lp hA => a7n (x := s[g]) ei14_0 (hA.ro xh14_0) (hA.ro xh14_1)) (hD_f _ (List.getElem_mem om))) (fun _ _ => (r5 (fun q16 => ?_) (fun q16 => ?_)))))
  ·refine Eu (l3 rfl (Ew Z2 (Em rfl (Ei rfl ?_))))
   exact Eu (E.ret (w8 (j0 (j0 (w8 (j0 (Fg rfl rfl () (congrArg (Value.int .i64) (by first | exact N4 om pa q16 | exact M8 om pa)) rfl)))))))
  ·refine Eu (l4 rfl (d9 (o2 (Et (Ez Z2 (Ey rfl ((Y.add rfl rfl om om).yd) (Em rfl ?_)))))))
   exact Eu (u7 br (g + 1) rs (.refl _) ⟨by omega, K8 om pa q16⟩ om)
 ·refine Eu (Eq_ (l4 rfl (E.exit (n8 (n8 (w7 (Et (Ew Z1 (Ei rfl ?_)))))))))
  exact Eu (E.ret (Fg rfl rfl () (congrArg (Value.int .i64) (by first | exact N4 om pa q16 | exact M8 om pa)) rfl))
theorem a2s {D_f : ((Int × List Int) × List Int) → Prop} {f : ((Int × List Int) × List Int) → Bool} (hD_f : ∀ x ∈ s, D_f x) : Tr Tryz.prog 148 [.slice a_s m_s c_s, .func (.func f_g) #[] f_c.toArray] (fun w L => Ro w L a2D [.slice a_s m_s c_s] s ∧ FnP Tryz.prog w L f_g f_c E8 a1h D_f f) [] (κ := Unit) (fun k => True) (fun k => .bool (s.any f)) (fun k => []) := by
 refine f8 Tryz.func148 rfl (n := 9) rfl (by decide +kernel) bl (fr := [(0, .slice a_s m_s c_s), (1, .func (.func f_g) #[] f_c.toArray)]) rfl fun w L hR => ?_
 obtain ⟨hs, hf⟩ := hR
 obtain ⟨rfl, ls⟩ := hs.slen
 refine Ew Z1 (Ei rfl (Ev Z5 (Em rfl (Em rfl (Est rfl (f5 (a4f (f := f) (D_f := D_f) hD_f) rfl rfl rfl dc (fun w Lp hA => ⟨hA.ro hs, hA.fn hf⟩)) (fun _ _ => (Ey rfl ((Y.geq rfl rfl).yd) (Ei rfl ?_))))))))
 exact Eu (E.ret (Fb rfl rfl (by exact X3)))
theorem a4L {a0m : Int} {V1 : Option Addr} {V2 V3 : Nat} {a2d : List Int} {a_y_rules : Option Addr} {m_y_rules c_y_rules : Nat} {y_rules : List Int} {b_f : Nat} : Tr Tryz.prog 149 [.agg #[.int .i64 a0m, .slice V1 V2 V3, .slice a_y_rules m_y_rules c_y_rules], .pointer (some ⟨b_f, 0, none⟩)] (fun w L => (I64 a0m ∧ Ro w L eIs [.slice V1 V2 V3] a2d ∧ Ro w L eIs [.slice a_y_rules m_y_rules c_y_rules] y_rules) ∧ RoPt w L b_f [.int .i64 d6, .slice k6 m8 j9] ∧ I64 d6 ∧ Ro w L eIs [.slice k6 m8 j9] c8) [] (κ := Unit) (fun k => True) (fun k => .bool (decide (C0 (a0m, a2d) (d6, c8) = 0))) (fun k => []) := by
 refine f8 Tryz.func149 rfl (n := 9) rfl (by decide +kernel) bl (fr := [(0, .agg #[.int .i64 a0m, .slice V1 V2 V3, .slice a_y_rules m_y_rules c_y_rules]), (1, .pointer (some ⟨b_f, 0, none⟩))]) rfl fun w L hR => ?_
 obtain ⟨⟨a7k, a1C, hy_rules⟩, hb_f, t8, m6⟩ := hR
 obtain ⟨rfl, b2W⟩ := a1C.slen
 obtain ⟨rfl, ly_rules⟩ := hy_rules.slen
 obtain ⟨rfl, D3⟩ := m6.slen
 refine Ew Z2 (Est rfl (N.box (cs := [_, _, _]) rfl dc rfl) (fun b2 _ => (Ei rfl (Ev Z6 (Ey rfl ((g9 fo_way_0 ty_Fact dc rfl).yd) (Ey rfl (l8 (cs := [_, _]) ty_Fact rfl ((Has.pt m0).sub (cs' := [_, _]) 0 rfl) rfl) (Ey rfl (l8 (cs := [_, _]) ty_Fact rfl (hb_f.has) rfl) (Est rfl (f5 G2 rfl rfl rfl dc (fun w Lp hA => ⟨a7k, hA.ro a1C, t8, hA.ro m6⟩)) (fun _ _ => (Ey rfl ((Y.eql rfl rfl).yd) (Ei rfl ?_)))))))))))
 exact Eu (E.ret (Fg rfl rfl () rfl rfl))
theorem a6C {a_l : Option Addr} {m_l c_l : Nat} {l : List (Int × Int × List Int)} {d4 : Int} {s9 : Option Addr} {L9 t6 : Nat} {a8 : List Int} {s : List Int} (hr : o4 s l = true) (hf : u6 s (d4, a8) = true) : Tr Tryz.prog 96 [.slice a_l m_l c_l, .agg #[.int .i64 d4, .slice s9 L9 t6], .agg #[.int .i64 d6, .slice k6 m8 j9]] (fun w L => Ro w L D0 [.slice a_l m_l c_l] l ∧ I64 d4 ∧ Ro w L eIs [.slice s9 L9 t6] a8 ∧ I64 d6 ∧ Ro w L eIs [.slice k6 m8 j9] c8) [] (κ := Option Addr × Nat × Nat) (fun k => True) (fun k => .tuple #[.slice k.1 k.2.1 k.2.2, .bool (wyB l (d4, a8) (d6, c8))]) (fun k => [ow eIs [.slice k.1 k.2.1 k.2.2] (wyR l (d4, a8) (d6, c8))]) := by
 refine f8 Tryz.func96 rfl (n := 69) rfl (by decide +kernel) bl (fr := [(0, .slice a_l m_l c_l), (1, .agg #[.int .i64 d4, .slice s9 L9 t6]), (2, .agg #[.int .i64 d6, .slice k6 m8 j9])]) rfl fun w L hR => ?_
 obtain ⟨hl, a0P, V0, t8, m6⟩ := hR
 obtain ⟨rfl, ll⟩ := hl.slen
 obtain ⟨rfl, a8U⟩ := V0.slen
 obtain ⟨rfl, D3⟩ := m6.slen
 refine Ew Z4 (Est rfl (N.box (cs := [_, _]) rfl dc rfl) (fun b4 _ => (Est rfl (N.box (cs := [_, _]) rfl dc rfl) (fun b5 _ => (Ei rfl (Ei rfl (Ev Z5 (Ey rfl (l8 (cs := [_, _]) ty_Fact rfl (Has.pt (mS m0)) rfl) (Est rfl (Nb [] [] us_Is f4 rfl rfl) (fun b16 _ => (Ent.drop (Ey rfl ((F5 (pvs := [_, _]) (cs := [_, _, _]) ty_way pl_way rfl rfl).yd) (Est rfl (Nb [_] [_, _, _] us_ways ty_way rfl rfl) (fun b18 _ => (o1 (A := _ :: _) (J8 (E := P2) (e := a2O) (a0n (x := ((d4, (s9, a8.length, t6)), ((some ⟨b16, 0, none⟩), 0, 0))) a0P)) rfl (Ei rfl ?_))))))))))))))))
 have jw0 : Ro w L E8 (D8 ((d4, (s9, a8.length, t6)), ((some ⟨b16, 0, none⟩), 0, 0))) ((d4, a8), []) := a7n (x := ((d4, a8), [])) a0P V0 b0t
 refine Eu (Eq_ (Ew Z1 (b1F (d7 (a4X (y0 := ((d4, (s9, a8.length, t6)), ((some ⟨b16, 0, none⟩), 0, 0))) (x0 := ((d4, a8), [])) (P := fun _ => True) (ys := []) (X := [((d4, a8), [])]) trivial rfl rfl (Ei rfl (Eu (E.block (f9 (congrArg (ow (H5 ((d4, (s9, a8.length, t6)), ((some ⟨b16, 0, none⟩), 0, 0)) ((d4, a8), []) (fun _ => True)) [_]) (show [((d4, a8), [])] = (wyI l (d4, a8) 0) from by exact b4v)) (E.loop (κ := Nat × Option Addr × Nat × Nat) (fun g => g.1 ≤ 6000 ∧ ∀ y ∈ (wyI l (d4, a8) g.1).take g.1, wyP (d6, c8) y = false) (fun g => [(0, .slice a_l l.length c_l), (5, .pointer (some ⟨b5, 0, none⟩)), (8, .slice g.2.1 g.2.2.1 g.2.2.2), (9, .int .i64 (↑g.1 : Int))]) (fun g => [ow (H5 ((d4, (s9, a8.length, t6)), ((some ⟨b16, 0, none⟩), 0, 0)) ((d4, a8), []) (fun _ => True)) [.slice g.2.1 g.2.2.1 g.2.2.2] (wyI l (d4, a8) g.1), pt b5 44 [.int .i64 d6, .slice k6 c8.length j9], pt b4 44 [.int .i64 d4, .slice s9 a8.length t6]]) (fun g => 6000 - g.1) (0, (some ⟨b18, 0, none⟩), 1, 1) ⟨Nat.zero_le _, by simp⟩ ⟨rfl, rfl, rfl, rfl, trivial⟩ (.refl _) (fun g pg => ?_)))))))))))
 obtain ⟨g, aA0_0, mA0_0, cA0_0⟩ := g
 try dsimp only at pg
 try dsimp only
 obtain ⟨pk, pa⟩ := pg
 have po := pa
 have hw := a0p (i := g) hr hf
 have jl : (wyI l (d4, a8) g).length ≤ 5324 := hw.len
 refine a7p m0 fun eaA0_0 laA0_0 => ?_
 subst eaA0_0
 refine Eq_ (Ew Z4 (Em rfl (Em rfl (Ey rfl ((Y.len us_ways rfl).yd) (Ey rfl ((Y.lss rfl rfl).yd) (j8 (fun q22 => ?_) (fun q22 => ?_)))))))
 ·have jx := hw.le2 (show g < (wyI l (d4, a8) g).length by omega)
  have jxo := hw.ok _ (List.getElem_mem (show g < (wyI l (d4, a8) g).length by omega))
  have jxl := K6 jxo
  refine a4Y fun ys jP jr jz => ?_
  have jx0 : ((wyI l (d4, a8) g))[g]? = some (wyI l (d4, a8) g)[g] := List.getElem?_eq_getElem om
  obtain ⟨yv, yl, hyx⟩ := b2C jr jx0
  refine Eu (l3 rfl (d9 (Et (Eq_ (E.block (Ew Z6 (Em rfl (Em rfl (M5 m0 om fun ab27 ae27 => (S4 (x := (((wyI l (d4, a8) g)[g].1.1, yv), yl)) g (hyx) fun ce27 => (d7 (b0g fun  oe27 oi27_0 => ?_))))))))))))
  subst oe27
  refine Ey rfl ((r8 us_ways ty_way rfl ae27 rfl g rfl om).yd) (Ey rfl (l8 (cs := [_, _, _]) ty_way rfl (Has.hole ae27 m0) rfl) (Est rfl (N.alloc ty_way dc) (fun b10 _ => (Est rfl (Ns [_, _, _] ty_way rfl) (fun _ _ => (Eu (Eq_ (Ew Z5 (d7 (S1 (a0n (x := (((wyI l (d4, a8) g)[g].1.1, yv), yl)) oi27_0) rfl (f9 (congrArg (ow a2w [_]) (V8 (hyx))) (l6 (d7 (a4X (P := fun ys => (((d4, (s9, a8.length, t6)), ((some ⟨b16, 0, none⟩), 0, 0)) :: ys)[g]? = some (((wyI l (d4, a8) g)[g].1.1, yv), yl)) hyx jr jz ?_))))))))))))))
  have i6x : I64 (wyI l (d4, a8) g)[g].1.1 := oi27_0
  refine Ey rfl ((g9 fo_way_0 ty_FactB dc rfl).yd) (Ey rfl (l8 (cs := [_, _]) ty_Fact rfl ((Has.pt (mS m0)).sub (cs' := [_, _]) 0 rfl) rfl) (Ey rfl (l8 (cs := [_, _]) ty_Fact rfl (Has.pt (mS (mS m0))) rfl) (Est rfl (f5 G2 rfl rfl rfl dc (fun w Lp hA => ⟨i6x, (hA.wlx jw0 m0 (fun _ h => h) jx0).1, t8, hA.ro m6⟩)) (fun _ _ => (Ey rfl ((Y.eql rfl rfl).yd) (j8 (fun q33 => ?_) (fun q33 => ?_)))))))
  ·refine Eu (l3 rfl (Ew Z4 (b0f (fun _ h => h) jx0 rfl rfl (Ey rfl ((g9 fo_way_1 ty_rsl dc rfl).yd) (Ey rfl (f7 ty_Is rfl (Hz (mS m0) 2 rfl) rfl) (Ei rfl (Ei rfl (Eu (E.ret (j0 (w8 (j0 (j0 (w8 (j0 (f9 (congrArg (ow eIs [_]) (show _ = wyR l (d4, a8) (d6, c8) by first | exact (I5 om om po (decide_eq_true q33)).1 | exact (I5 om om po (decide_eq_true q33)).2 | exact (I5 om om po (decide_eq_true q33)).1.symm | exact (I5 om om po (decide_eq_true q33)).2.symm)) ?_))))))))))))))))
   exact S2 br rfl rfl rfl (_, _, _) trivial (by rw [show (wyB l (d4, a8) (d6, c8)) = (true) from (by first | exact (I5 om om po (decide_eq_true q33)).1 | exact (I5 om om po (decide_eq_true q33)).2 | exact (I5 om om po (decide_eq_true q33)).1.symm | exact (I5 om om po (decide_eq_true q33)).2.symm)]; try rfl) (J := _) (.refl _) (.inl rfl)
  ·refine Eu (l4 rfl (d9 (Et (Ew Z3 (Em rfl (Ey rfl ((Y.len us_Rules rfl).yd) (Em rfl (Eu (E.block (f9 (congrArg (ow (H5 ((d4, (s9, a8.length, t6)), ((some ⟨b16, 0, none⟩), 0, 0)) ((d4, a8), []) (fun ys => (((d4, (s9, a8.length, t6)), ((some ⟨b16, 0, none⟩), 0, 0)) :: ys)[g]? = some (((wyI l (d4, a8) g)[g].1.1, yv), yl))) [_]) (show (wyI l (d4, a8) g) = (wyK l (wyI l (d4, a8) g)[g] (wyI l (d4, a8) g) 0) from by exact b3p)) (E.loop (κ := Nat × Option Addr × Nat × Nat) (fun k => k.1 ≤ l.length ∧ True) (fun k => [(0, .slice a_l l.length c_l), (5, .pointer (some ⟨b5, 0, none⟩)), (8, .slice k.2.1 k.2.2.1 k.2.2.2), (9, .int .i64 (g : Int)), (10, .pointer (some ⟨b10, 0, none⟩)), (36, .slice a_l l.length c_l), (37, .int .i64 (↑l.length : Int)), (38, .int .i64 (↑k.1 : Int))]) (fun k => [ow (H5 ((d4, (s9, a8.length, t6)), ((some ⟨b16, 0, none⟩), 0, 0)) ((d4, a8), []) (fun ys => (((d4, (s9, a8.length, t6)), ((some ⟨b16, 0, none⟩), 0, 0)) :: ys)[g]? = some (((wyI l (d4, a8) g)[g].1.1, yv), yl))) [.slice k.2.1 k.2.2.1 k.2.2.2] (wyK l (wyI l (d4, a8) g)[g] (wyI l (d4, a8) g) k.1), pt b10 161 [.int .i64 ((wyI l (d4, a8) g)[g].1.1), .slice yv.1 yv.2.1 yv.2.2, .slice yl.1 yl.2.1 yl.2.2], pt b5 44 [.int .i64 d6, .slice k6 c8.length j9], pt b4 44 [.int .i64 d4, .slice s9 a8.length t6]]) (fun k => l.length - k.1) (0, aA0_0, ((wyI l (d4, a8) g)).length, cA0_0) ⟨Nat.zero_le _, by simp⟩ ⟨rfl, rfl, rfl, rfl, rfl, rfl, rfl, rfl, trivial⟩ (.refl _) (fun k pk => ?_))))))))))))
   obtain ⟨k, aA1_0, mA1_0, cA1_0⟩ := k
   try dsimp only at pk
   try dsimp only
   obtain ⟨pk, pa⟩ := pk
   have jxk : ((wyK l (wyI l (d4, a8) g)[g] (wyI l (d4, a8) g) k))[g]? = some (wyI l (d4, a8) g)[g] := a0q jx0
   have hk := a1v (k := k) hr hw jx0 om
   have jlk : (wyK l (wyI l (d4, a8) g)[g] (wyI l (d4, a8) g) k).length ≤ 5324 := hk.len
   refine a7p m0 fun eaA1_0 laA1_0 => ?_
   subst eaA1_0
   refine Ew Z1 (Ey rfl ((Y.lss rfl rfl).yd) (j8 (fun q39 => ?_) (fun q39 => ?_)))
   ·refine Eu (Eq_ (l3 rfl (d9 (Et (Eq_ (E.block (Ew Z6 (Em rfl ?_))))))))
    obtain ⟨eb41, eo41, ec41, ea41, er41, el41, eh41⟩ := hl.elem k om
    obtain ⟨xa41_0, xc41_0, rfl, ei41_0, ei41_1, xh41_0⟩ := P9 er41
    have := xh41_0.slen.2
    refine Ey rfl ((r8 us_Rules ty_Rule rfl ea41 rfl k rfl om).yd) ?_
    have jr4 := (F2 hr).2.1
    have jro := (F2 hr).2.2 _ (List.getElem_mem (show k < l.length by omega))
    have jrl := W8 jro
    refine Ey rfl (l8 (cs := [_, _, _]) ty_Rule rfl (eh41 _) rfl) (Est rfl (N.alloc ty_Rule dc) (fun b12 _ => (Ei rfl (Est rfl (Ns [_, _, _] ty_Rule rfl) (fun _ _ => (Ev Z10 (Ey rfl (l8 (cs := [_, _, _]) ty_Rule rfl (Has.pt m0) rfl) (Ey rfl ((g9 fo_way_0 ty_FactB dc rfl).yd) (Ey rfl (l8 (cs := [_, _]) ty_Fact rfl ((Has.pt (mS (mS m0))).sub (cs' := [_, _]) 0 rfl) rfl) (Est rfl (N.call (P0 (fun e => S6 jro jxo e) (Nat.le_trans jrl dc)) rfl rfl rfl dc rfl (fun w Lp hA => ⟨ei41_0, ei41_1, hA.ro xh41_0, i6x, (hA.wlx jw0 (mS m0) (fun _ h => h) jxk).1⟩)) (fun k47 _ => ?_)))))))))))
    obtain ⟨a47, m47, c47⟩ := k47
    refine d8 m0 fun e47 l47 => ?_
    subst e47
    refine Em rfl (Ey rfl ((Y.ext rfl rfl).yd) (Ey rfl ((Y.ext rfl rfl).yd) (Est rfl (N.alloc ty_Fact dc) (fun b13 _ => (Est rfl (Ns [_, _] ty_Fact rfl) (fun _ _ => (Ei rfl (r5 (fun q14 => ?_) (fun q14 => ?_)))))))))
    ·refine Ev Z7 (Em rfl (Em rfl (Em rfl (Ey rfl ((Y.fn (vs := [_]) rfl).yd) (Est rfl (f5 (a2s (f := (fun z => decide (C0 z.1 ((cond (decide (((wyI l (d4, a8) g)[g].1.1) = l[k].1)) l[k].2.1 0), (cond (decide (((wyI l (d4, a8) g)[g].1.1) = l[k].1)) (u9 l[k].2.2 ((wyI l (d4, a8) g)[g].1.2)) [])) = 0))) (D_f := (fun _ => True)) (by intros; exact trivial)) rfl rfl rfl dc (fun w Lp hA => ⟨hA.wls jw0 (mS (mS (mS m0))), b0o (RR := fun w L => RoPt w L b13 [.int .i64 (cond (decide (((wyI l (d4, a8) g)[g].1.1) = l[k].1)) l[k].2.1 0), .slice a47 (cond (decide (((wyI l (d4, a8) g)[g].1.1) = l[k].1)) (u9 l[k].2.2 ((wyI l (d4, a8) g)[g].1.2)) []).length c47] ∧ I64 (cond (decide (((wyI l (d4, a8) g)[g].1.1) = l[k].1)) l[k].2.1 0) ∧ Ro w L eIs [.slice a47 (cond (decide (((wyI l (d4, a8) g)[g].1.1) = l[k].1)) (u9 l[k].2.2 ((wyI l (d4, a8) g)[g].1.2)) []).length c47] (cond (decide (((wyI l (d4, a8) g)[g].1.1) = l[k].1)) (u9 l[k].2.2 ((wyI l (d4, a8) g)[g].1.2)) [])) (D := (fun _ => True)) (fun hd => a4L) (fun w' hk => ⟨(hA.pt m0).keep hk, i6, (hA.ow (mS m0)).keep hk⟩)⟩)) (fun _ _ => (r5 (fun q54 => ?_) (fun q54 => ?_))))))))
     ·refine Ey rfl ((Y.not (b := true) rfl).yd) (Ey rfl ((o0 rfl rfl).yd) (Eu (l4 rfl (d9 (o2 (Et (Ez Z2 (Ey rfl ((Y.add rfl rfl om om).yd) (Em rfl (Eu (Ent.drop (Ent.drop (Ent.drop (f9 (congrArg (ow (H5 ((d4, (s9, a8.length, t6)), ((some ⟨b16, 0, none⟩), 0, 0)) ((d4, a8), []) (fun ys => (((d4, (s9, a8.length, t6)), ((some ⟨b16, 0, none⟩), 0, 0)) :: ys)[g]? = some (((wyI l (d4, a8) g)[g].1.1, yv), yl))) [_]) (show (wyK l (wyI l (d4, a8) g)[g] (wyI l (d4, a8) g) k) = (wyK l (wyI l (d4, a8) g)[g] (wyI l (d4, a8) g) (k + 1)) from by first | exact a7e om q14 q54 | exact a4B om q14 | exact a4F om q14 q54)) (i8 (i8 (i8 (i8 ?_))))))))))))))))))
      exact Ea (k + 1, aA1_0, ((wyK l (wyI l (d4, a8) g)[g] (wyI l (d4, a8) g) k)).length, cA1_0) ⟨oz, trivial⟩
     ·refine i8 (a4Y fun ys2 jP2 jr2 jz2 => (Ey rfl ((Y.not (b := false) rfl).yd) (Ey rfl ((o0 rfl rfl).yd) (Eu (l3 rfl (a4n (κ := (Option Addr × Nat) × (Option Addr × Nat)) (fun _ => True) (fun kM => [(0, .slice a_l l.length c_l), (5, .pointer (some ⟨b5, 0, none⟩)), (8, .slice kM.1.1 (((wyK l (wyI l (d4, a8) g)[g] (wyI l (d4, a8) g) k)).length + 1) kM.1.2), (9, .int .i64 (g : Int)), (10, .pointer (some ⟨b10, 0, none⟩)), (36, .slice a_l l.length c_l), (37, .int .i64 (↑l.length : Int)), (38, .int .i64 (k : Int))]) (fun kM => [ow a2w [.slice kM.1.1 (((wyK l (wyI l (d4, a8) g)[g] (wyI l (d4, a8) g) k)).length + 1) kM.1.2] ((((d4, (s9, a8.length, t6)), ((some ⟨b16, 0, none⟩), 0, 0)) :: ys2) ++ [((cond (decide (((wyI l (d4, a8) g)[g].1.1) = l[k].1)) l[k].2.1 0, (a47, (cond (decide (((wyI l (d4, a8) g)[g].1.1) = l[k].1)) (u9 l[k].2.2 ((wyI l (d4, a8) g)[g].1.2)) []).length, c47)), (kM.2.1, ((((wyI l (d4, a8) g)[g].2)).length + 1), kM.2.2))]), ow eIs [.slice kM.2.1 ((((wyI l (d4, a8) g)[g].2)).length + 1) kM.2.2] (((wyI l (d4, a8) g)[g].2) ++ [(k : Int)]), els E8 (ys2.flatMap D8) ((wyK l (wyI l (d4, a8) g)[g] (wyI l (d4, a8) g) k)).tail, pt b13 44 [.int .i64 (cond (decide (((wyI l (d4, a8) g)[g].1.1) = l[k].1)) l[k].2.1 0), .slice a47 (cond (decide (((wyI l (d4, a8) g)[g].1.1) = l[k].1)) (u9 l[k].2.2 ((wyI l (d4, a8) g)[g].1.2)) []).length c47], ow eIs [.slice a47 (cond (decide (((wyI l (d4, a8) g)[g].1.1) = l[k].1)) (u9 l[k].2.2 ((wyI l (d4, a8) g)[g].1.2)) []).length c47] (cond (decide (((wyI l (d4, a8) g)[g].1.1) = l[k].1)) (u9 l[k].2.2 ((wyI l (d4, a8) g)[g].1.2)) []), pt b12 73 [.int .i64 l[k].1, .int .i64 l[k].2.1, .slice xa41_0 l[k].2.2.length xc41_0], pt b10 161 [.int .i64 ((wyI l (d4, a8) g)[g].1.1), .slice yv.1 yv.2.1 yv.2.2, .slice yl.1 yl.2.1 yl.2.2], pt b5 44 [.int .i64 d6, .slice k6 c8.length j9], pt b4 44 [.int .i64 d4, .slice s9 a8.length t6]]) ?_ (fun kM _ => ?_)))))))
      ·refine N3 [b13, b12, b10, b5, b4] (fun j => true) mixed (B1 0 rfl rfl dc (g0 rfl) kr (a2x 1 rfl rfl dc (b0e (cs := [_, _]) ty_Fact rfl (M4.pt (mS (mS m0)) (by simp)) rfl) kr (B1 2 rfl rfl dc (g9 fo_way_1 ty_rsl dc rfl) kr (a2x 3 rfl rfl dc (a1D ty_Is rfl ((M4.pt (mS (mS (mS (mS (mS m0))))) (by simp)).sub (cs' := [_]) 2 rfl) rfl) kr (B1 5 rfl rfl dc (g0 rfl) kr (b3R (i := 4) (j := 6) kr ?_ ?_))))))
       ·refine b2g 4 rfl rfl (fun _ _ => SameI.out) (N.call (a1L om) rfl rfl rfl dc rfl (fun w Lp hA => (hA.wayx jw0 jr2 jz2 (mS m0) jP2 jxk).2)) (fun k61 _ => ?_)
        obtain ⟨a61, m61, c61⟩ := k61
        refine d8 m0 fun e61 l61 => ?_
        subst e61
        refine C8 6 rfl rfl kr (fun _ _ => SameI.out) (Nb [_] [_] us_Is f4 rfl rfl) (fun b63 _ => (d7 (C8 7 rfl rfl kr (fun _ _ => SameI.out) (N.push (E := Enc.int) (ex := (k : Int)) us_Is f4 rfl rfl rfl (Own.int i6) rfl bn bn dc) (fun p64 _ => (B1 8 rfl rfl dc (F5 (pvs := [_, _]) (cs := [_, _, _]) ty_way pl_way rfl rfl) kr (C8 9 rfl rfl kr (fun _ _ => SameI.out) (Nb [_] [_, _, _] us_ways ty_way rfl rfl) (fun b66 _ => (l6 (C8 10 rfl rfl kr (fun _ _ => SameI.out) (N.push (E := P2) (ex := ((cond (decide (((wyI l (d4, a8) g)[g].1.1) = l[k].1)) l[k].2.1 0, (a47, (cond (decide (((wyI l (d4, a8) g)[g].1.1) = l[k].1)) (u9 l[k].2.2 ((wyI l (d4, a8) g)[g].1.2)) []).length, c47)), (p64.1, ((((wyI l (d4, a8) g)[g].2)).length + 1), p64.2))) us_ways ty_way rfl rfl rfl (a0n (x := ((cond (decide (((wyI l (d4, a8) g)[g].1.1) = l[k].1)) l[k].2.1 0, (a47, (cond (decide (((wyI l (d4, a8) g)[g].1.1) = l[k].1)) (u9 l[k].2.2 ((wyI l (d4, a8) g)[g].1.2)) []).length, c47)), (p64.1, ((((wyI l (d4, a8) g)[g].2)).length + 1), p64.2))) i6) rfl bn bn dc) (fun p67 _ => (B1 11 rfl rfl dc (F1 rfl) kr (R0 kr (G3 (G3 (G3 (G3 (G3 (G3 (G3 ?_)))))))))))))))))))
        refine G3 (G3 ?_)
        exact V4 (p67, p64) trivial ⟨rfl, rfl, rfl, rfl, rfl, rfl, rfl, rfl, trivial⟩ (.refl _)
       ·refine b2g 6 rfl rfl (fun _ _ => SameI.out) (Nb [_] [_] us_Is f4 rfl rfl) (fun b63 _ => (C8 4 rfl rfl kr (fun _ _ => SameI.out) (N.call (a1L om) rfl rfl rfl dc rfl (fun w Lp hA => (hA.wayx jw0 jr2 jz2 (mS (mS m0)) jP2 jxk).2)) (fun k61 _ => ?_)))
        obtain ⟨a61, m61, c61⟩ := k61
        refine d8 m0 fun e61 l61 => ?_
        subst e61
        refine d7 (d7 (C8 7 rfl rfl kr (fun _ _ => SameI.out) (N.push (E := Enc.int) (ex := (k : Int)) us_Is f4 rfl rfl rfl (Own.int i6) rfl bn bn dc) (fun p64 _ => (B1 8 rfl rfl dc (F5 (pvs := [_, _]) (cs := [_, _, _]) ty_way pl_way rfl rfl) kr (C8 9 rfl rfl kr (fun _ _ => SameI.out) (Nb [_] [_, _, _] us_ways ty_way rfl rfl) (fun b66 _ => (l6 (C8 10 rfl rfl kr (fun _ _ => SameI.out) (N.push (E := P2) (ex := ((cond (decide (((wyI l (d4, a8) g)[g].1.1) = l[k].1)) l[k].2.1 0, (a47, (cond (decide (((wyI l (d4, a8) g)[g].1.1) = l[k].1)) (u9 l[k].2.2 ((wyI l (d4, a8) g)[g].1.2)) []).length, c47)), (p64.1, ((((wyI l (d4, a8) g)[g].2)).length + 1), p64.2))) us_ways ty_way rfl rfl rfl (a0n (x := ((cond (decide (((wyI l (d4, a8) g)[g].1.1) = l[k].1)) l[k].2.1 0, (a47, (cond (decide (((wyI l (d4, a8) g)[g].1.1) = l[k].1)) (u9 l[k].2.2 ((wyI l (d4, a8) g)[g].1.2)) []).length, c47)), (p64.1, ((((wyI l (d4, a8) g)[g].2)).length + 1), p64.2))) i6) rfl bn bn dc) (fun p67 _ => (B1 11 rfl rfl dc (F1 rfl) kr (R0 kr (G3 (G3 (G3 (G3 (G3 (G3 (G3 ?_))))))))))))))))))
        refine G3 (G3 ?_)
        exact V4 (p67, p64) trivial ⟨rfl, rfl, rfl, rfl, rfl, rfl, rfl, rfl, trivial⟩ (.refl _)
      ·obtain ⟨p67, p64⟩ := kM
       try dsimp only
       refine o2 (Et (Ez Z2 (d7 (B0 (o1 (E := E8) (b0r (x := ((cond (decide (((wyI l (d4, a8) g)[g].1.1) = l[k].1)) l[k].2.1 0, cond (decide (((wyI l (d4, a8) g)[g].1.1) = l[k].1)) (u9 l[k].2.2 ((wyI l (d4, a8) g)[g].1.2)) []), ((wyI l (d4, a8) g)[g].2) ++ [(k : Int)])) i6 Own.ow Own.ow) rfl (b2Z (l6 (b1C (f9 (congrArg (fun z => els E8 z _) (b0H (v := ((cond (decide (((wyI l (d4, a8) g)[g].1.1) = l[k].1)) l[k].2.1 0, (a47, (cond (decide (((wyI l (d4, a8) g)[g].1.1) = l[k].1)) (u9 l[k].2.2 ((wyI l (d4, a8) g)[g].1.2)) []).length, c47)), (p64.1, ((((wyI l (d4, a8) g)[g].2)).length + 1), p64.2))))) (f9 (congrArg (els E8 _) (b1n jz2)) (d7 (a4X (ys := ys2 ++ [((cond (decide (((wyI l (d4, a8) g)[g].1.1) = l[k].1)) l[k].2.1 0, (a47, (cond (decide (((wyI l (d4, a8) g)[g].1.1) = l[k].1)) (u9 l[k].2.2 ((wyI l (d4, a8) g)[g].1.2)) []).length, c47)), (p64.1, ((((wyI l (d4, a8) g)[g].2)).length + 1), p64.2))]) (P := fun ys => (((d4, (s9, a8.length, t6)), ((some ⟨b16, 0, none⟩), 0, 0)) :: ys)[g]? = some (((wyI l (d4, a8) g)[g].1.1, yv), yl)) (b1t jP2) (b0P jr2 rfl) (b3n jz2) (Ey rfl ((Y.add rfl rfl om om).yd) (Em rfl (Eu (d7 (Ent.drop (d7 (Ent.drop (f9 (congrArg (ow (H5 ((d4, (s9, a8.length, t6)), ((some ⟨b16, 0, none⟩), 0, 0)) ((d4, a8), []) (fun ys => (((d4, (s9, a8.length, t6)), ((some ⟨b16, 0, none⟩), 0, 0)) :: ys)[g]? = some (((wyI l (d4, a8) g)[g].1.1, yv), yl))) [_]) (show (wyK l (wyI l (d4, a8) g)[g] (wyI l (d4, a8) g) k) ++ [((cond (decide (((wyI l (d4, a8) g)[g].1.1) = l[k].1)) l[k].2.1 0, cond (decide (((wyI l (d4, a8) g)[g].1.1) = l[k].1)) (u9 l[k].2.2 ((wyI l (d4, a8) g)[g].1.2)) []), ((wyI l (d4, a8) g)[g].2) ++ [(k : Int)])] = (wyK l (wyI l (d4, a8) g)[g] (wyI l (d4, a8) g) (k + 1)) from by first | exact a7e om q14 q54 | exact a4B om q14 | exact a4F om q14 q54)) (i8 ?_)))))))))))))))))))))
       refine i8 (i8 (i8 ?_))
       exact Ea (k + 1, p67.1, (((wyK l (wyI l (d4, a8) g)[g] (wyI l (d4, a8) g) k)).length + 1), p67.2) ⟨oz, trivial⟩
    ·refine Ev Z7 (Em rfl (Em rfl (Es rfl (Es rfl (Es rfl (Es rfl (Ey rfl ((o6 rfl rfl).yd) (Eu (l4 rfl (d9 (o2 (Et (Ez Z2 (Ey rfl ((Y.add rfl rfl om om).yd) (Em rfl (Eu (Ent.drop (Ent.drop (Ent.drop (f9 (congrArg (ow (H5 ((d4, (s9, a8.length, t6)), ((some ⟨b16, 0, none⟩), 0, 0)) ((d4, a8), []) (fun ys => (((d4, (s9, a8.length, t6)), ((some ⟨b16, 0, none⟩), 0, 0)) :: ys)[g]? = some (((wyI l (d4, a8) g)[g].1.1, yv), yl))) [_]) (show (wyK l (wyI l (d4, a8) g)[g] (wyI l (d4, a8) g) k) = (wyK l (wyI l (d4, a8) g)[g] (wyI l (d4, a8) g) (k + 1)) from by first | exact a7e om q14 q54 | exact a4B om q14 | exact a4F om q14 q54)) (i8 (i8 ?_))))))))))))))))))))))
     refine i8 (i8 ?_)
     exact Ea (k + 1, aA1_0, ((wyK l (wyI l (d4, a8) g)[g] (wyI l (d4, a8) g) k)).length, cA1_0) ⟨oz, trivial⟩
   ·refine Eu (Eq_ (l4 rfl (E.exit (n8 (n8 (w7 (o2 (Et (Ez Z3 (b2X (P' := fun _ => True) (fun _ _ => trivial) (Em rfl (Ey rfl ((Y.add rfl rfl om om).yd) (Ei rfl (Eu (d7 (Ent.drop (f9 (congrArg (ow (H5 ((d4, (s9, a8.length, t6)), ((some ⟨b16, 0, none⟩), 0, 0)) ((d4, a8), []) (fun _ => True)) [_]) (show (wyK l (wyI l (d4, a8) g)[g] (wyI l (d4, a8) g) k) = (wyI l (d4, a8) (g + 1)) from by exact a4q om om om)) (l6 (l6 (l6 ?_))))))))))))))))))))
    exact Ea (g + 1, aA1_0, ((wyK l (wyI l (d4, a8) g)[g] (wyI l (d4, a8) g) k)).length, cA1_0) ⟨oz, (show ∀ y ∈ (wyI l (d4, a8) (g + 1)).take (g + 1), wyP (d6, c8) y = false from by exact a7y om po (decide_eq_false q33))⟩
 ·refine Eu (l4 rfl (E.exit (n8 (n8 (w7 (Et (Ew Z2 (Ei rfl (Ei rfl (Eu (E.ret (o1 (A := []) (Own.nil (E := Enc.int) (e := tI) (a := none)) rfl (f9 (congrArg (ow eIs [_]) (show _ = wyR l (d4, a8) (d6, c8) by first | exact (I3 om om po).1 | exact (I3 om om po).2 | exact (I3 om om po).1.symm | exact (I3 om om po).2.symm)) ?_)))))))))))))
  exact S2 br rfl rfl rfl (none, 0, 0) trivial (by rw [show (wyB l (d4, a8) (d6, c8)) = (false) from (by first | exact (I3 om om po).1 | exact (I3 om om po).2 | exact (I3 om om po).1.symm | exact (I3 om om po).2.symm)]; try rfl) (J := _) (.refl _) (.inl rfl)
end Go.Proofs.YtfnbilpemdgkkaaGreatDoor
