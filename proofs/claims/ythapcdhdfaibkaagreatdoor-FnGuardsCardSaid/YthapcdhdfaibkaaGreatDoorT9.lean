import Derived.Test.YthapcdhdfaibkaaGreatDoorT8
namespace Go.Proofs.YthapcdhdfaibkaaGreatDoor
open Go.RowKit
set_option linter.all false
set_option maxHeartbeats 2000000
attribute [local irreducible] Nop Yd Yp Ent Has Tr FnP FnP2 Src
variable {n8 : Int} {l : List IL} {f9 : List Int} {I1 E1 m_l c_l : Nat} {E3 a_l : Option Addr}
theorem a8T {a6x : Int} {a1g : Option Addr} {a1h a1i : Nat} {a2g : List Int} {b_f : Nat} : TB Tryz.prog 200 [.agg #[.int .i64 a6x, .slice a1g a1h a1i], .pointer (some ⟨b_f, 0, none⟩)] (fun w L => (I64 a6x ∧ Ro w L eIs [.slice a1g a1h a1i] a2g) ∧ RoPt w L b_f [.int .i64 n8, .slice E3 I1 E1] ∧ I64 n8 ∧ Ro w L eIs [.slice E3 I1 E1] f9) (decide (T7 (a6x, a2g) (n8, f9) = 0)) := by
 refine Ti2 Tryz.func200 8 rfl fun w L hR => ?_
 obtain ⟨⟨b0E, a1y⟩, hb_f, M3, C3⟩ := hR
 obtain ⟨rfl, b1r⟩ := a1y.slen
 obtain ⟨rfl, a0l⟩ := C3.slen
 refine Ew Z2<|Est rfl (N.box (cs := [_, _]) rfl dc rfl)<|fun b2 _ => Ei rfl<|Ev Z5<|Ey rfl (k7 (cs := [_, _]) ty_Fact rfl (Has.pt m0) rfl)<|Ey rfl (k7 (cs := [_, _]) ty_Fact rfl (hb_f.has) rfl)<|E0 rfl a1Q rfl (fun hA => ⟨b0E, hA.ro a1y, M3, hA.ro C3⟩)<|Yeq rfl<|Ei rfl<|Eu<|E.ret<|Fg rfl rfl () rfl rfl
theorem a2k : TB Tryz.prog 78 [.slice a_l m_l c_l, .agg #[.int .i64 n8, .slice E3 I1 E1]] (fun w L => Ro w L s5 [.slice a_l m_l c_l] l ∧ I64 n8 ∧ Ro w L eIs [.slice E3 I1 E1] f9) (N9 l (n8, f9)) := by
 refine Ti2 Tryz.func78 8 rfl fun w L hR => ?_
 obtain ⟨hl, M3, C3⟩ := hR
 obtain ⟨rfl, ll⟩ := hl.slen
 obtain ⟨rfl, a0l⟩ := C3.slen
 refine Ew Z2<|Est rfl (N.box (cs := [_, _]) rfl dc rfl)<|fun b3 _ => Ei rfl<|Ev Z4<|Em rfl<|Ey rfl ((Y.fn (vs := [_]) rfl).yd)<|E0 rfl (a6R (f := (fun z => decide (T7 z (n8, f9) = 0))) (D_f := (fun _ => True)) (by intros; exact trivial)) rfl (fun hA => ⟨hA.ro hl, a6y (D := (fun _ => True)) (fun hd => a8T)<|fun w' hk => ⟨(hA.pt m0).keep hk, M3, (hA.ro C3).keep hk⟩⟩)<|Ei rfl<|Eu<|E.ret<|Fb rfl rfl (by rfl)
theorem a2j : TB Tryz.prog 63 [.slice a_l m_l c_l, .agg #[.int .i64 n8, .slice E3 I1 E1]] (fun w L => Ro w L s5 [.slice a_l m_l c_l] l ∧ I64 n8 ∧ Ro w L eIs [.slice E3 I1 E1] f9) (N9 l (n8, f9)) := by
 refine Ti2 Tryz.func63 19 rfl fun w L hR => ?_
 obtain ⟨hl, M3, C3⟩ := hR
 obtain ⟨rfl, ll⟩ := hl.slen
 obtain ⟨rfl, a0l⟩ := C3.slen
 refine Ew Z2<|Est rfl (N.box (cs := [_, _]) rfl dc rfl)<|fun b3 _ => Ei rfl<|Eu<|Eq_<|Ew Z1<|Ei rfl<|Eu<|E.block<|Lo (κ := Nat) (fun g => g ≤ l.length ∧ N9 l (n8, f9) = N9 (l.drop g) (n8, f9)) (fun g => [(0, .slice a_l l.length c_l), (3, .pointer<|some ⟨b3, 0, none⟩), (5, .int .i64 (g : Int))]) (fun g => [pt b3 85 [.int .i64 n8, .slice E3 f9.length E1]]) (fun g => l.length - g) 0 ⟨Nat.zero_le _, by simp⟩<|fun g pg => ?_
 obtain ⟨pk, pa⟩ := pg
 refine Eq_<|Ew Z4<|Em rfl<|Em rfl<|Yln us_Facts rfl<|Ylt rfl<|l3 (fun q9 => ?_)<|fun q9 => ?_
 ·refine Eu<|Ct<|Eq_<|E.block<|Eq_<|D.region (fun j => true) mixed<|Dm 0 rfl<|Dm 1 rfl ?_
  obtain ⟨eb14, eo14, ec14, ea14, er14, el14, eh14⟩ := hl.elem g om
  obtain ⟨xa14_0, xc14_0, rfl, ei14_0, xh14_0⟩ := W4 er14
  have := xh14_0.slen.2
  refine Dyp 2 rfl (z8 us_Facts ty_Fact rfl ea14 rfl g rfl om)<|Dy 3 rfl (k7 (cs := [_, _]) ty_Fact rfl (eh14 _) rfl)<|Dy 4 rfl (k7 (cs := [_, _]) ty_Fact rfl (Has.pt m0) rfl)<|D0 5 rfl a0S rfl (fun hA => ⟨ei14_0, hA.ro xh14_0, M3, hA.ro C3⟩)<|Dyp 6 rfl (Y.eql rfl rfl)<|l3 (fun q18 => ?_)<|fun q18 => ?_
  ·refine n9 kr<|Et<|r6 rfl<|Ew Z1<|Ei rfl<|Eu<|E.ret<|u6<|i9<|i9<|u6<|i9<|Fb rfl rfl (by grind [N9, d1, d2, t1, t2])
  ·refine n9 kr<|Et<|r7 rfl<|v8<|o6<|Et<|Ez Z3<|Em rfl<|Yad rfl om om<|Ei rfl ?_
   exact Eu<|t7 br (g + 1) rs (.refl _) ⟨by omega, by grind [N9, d1, d2, t1, t2]⟩ om
 ·refine Eu<|r7 rfl<|E.exit<|l4<|l4<|w8<|Et<|Ew Z1<|Ei rfl<|Eu<|E.ret<|Fb rfl rfl (by grind [N9, d1, d2, t1, t2])
theorem a3S {l0 : Int} {w6 : Option Addr} {B5 w5 : Nat} {f6 : List Int} {D4 : Option Addr} {H1 D5 : Nat} {j9 : List Int} {y4 : Option Addr} {B6 y5 : Nat} {f8 : List Int} (hz : f6.length ≤ 1048576) : Tr Tryz.prog 79 [.agg #[.int .i64 l0, .slice w6 B5 w5], .agg #[.slice D4 H1 D5, .slice y4 B6 y5]] (fun w L => I64 l0 ∧ Ro w L eIs [.slice w6 B5 w5] f6 ∧ Ro w L eIs [.slice D4 H1 D5] j9 ∧ Ro w L eIs [.slice y4 B6 y5] f8) [] (κ := SL) (fun k => True) (fun k => .agg #[.int .i64 ((O8 (l0, f6) (j9, f8)).1), .slice k.1 k.2.1 k.2.2]) (fun k => [ow eIs [.slice k.1 k.2.1 k.2.2] ((O8 (l0, f6) (j9, f8)).2)]) := by
 refine Ti2 Tryz.func79 29 rfl fun w L hR => ?_
 obtain ⟨J4, y6, C7, w9⟩ := hR
 obtain ⟨rfl, Q5⟩ := y6.slen
 obtain ⟨rfl, a0f⟩ := C7.slen
 obtain ⟨rfl, Q7⟩ := w9.slen
 have jv := a7h (b := (j9, f8)) (l := f6) y6.i64 C7.i64 w9.i64
 refine Ew Z3<|Est rfl (N.box (cs := [_, _]) rfl dc rfl)<|fun b2 _ => Est rfl (N.box (cs := [_, _]) rfl dc rfl)<|fun b3 _ => Est rfl (N.alloc ty_Fact dc)<|fun b4 _ => Ev Z6<|Lz fo_Atom_0 i7 rfl (mS<|mS m0) rfl<|Est rfl (Nb [] [] us_Is i7 rfl rfl)<|fun b10 _ => Ent.drop<|Ey rfl ((M4 (pvs := [_, _]) (cs := [_, _]) ty_Fact a4h rfl rfl).yd)<|Est rfl (N.alloc ty_Fact dc)<|fun b5 _ => Est rfl (Ns [_, _] ty_Fact rfl)<|fun _ _ => Eu<|Eq_<|Ew Z4<|Lz fo_Atom_1 ty_Is rfl (mS<|mS<|mS m0) rfl<|Yln us_Is rfl<|Em rfl<|Eu<|E.block<|l6 (A := []) (Own.nil (E := Enc.int) (e := tI) (a := (some ⟨b10, 0, none⟩))) rfl<|g9 (congrArg (ow eIs [_]) (show _ = (f6.take 0).map (F6 (j9, f8)) from by first | rfl | (simp; done) | grind [O8, d1, d2, t1, t2]))<|Lo (κ := Nat × SL) (fun g => g.1 ≤ f6.length ∧ True) (fun g => [(3, .pointer<|some ⟨b3, 0, none⟩), (4, .pointer<|some ⟨b4, 0, none⟩), (5, .pointer<|some ⟨b5, 0, none⟩), (13, .slice w6 f6.length w5), (14, .int .i64 (↑f6.length : Int)), (15, .int .i64 (↑g.1 : Int))]) (fun g => [ow eIs [.slice g.2.1 g.2.2.1 g.2.2.2]<|(f6.take g.1).map (F6 (j9, f8)), pt b5 85 [.int .i64 l0, .slice g.2.1 g.2.2.1 g.2.2.2], pt b4 85 [.int .i64 0, .slice none 0 0], pt b3 114 [.slice D4 j9.length D5, .slice y4 f8.length y5], pt b2 111 [.int .i64 l0, .slice w6 f6.length w5]]) (fun g => f6.length - g.1) (0, (some ⟨b10, 0, none⟩), 0, 0) ⟨Nat.zero_le _, by simp⟩<|fun g pg => ?_
 obtain ⟨g, aA0_0, mA0_0, cA0_0⟩ := g
 try dsimp only at pg
 try dsimp only
 obtain ⟨pk, pa⟩ := pg
 refine r8 m0 ?_
 rintro rfl laA0_0
 refine Ew Z1<|Ylt rfl<|l3 (fun q16 => ?_)<|fun q16 => ?_
 ·obtain ⟨eb17, eo17, ea17, ei17, eh17⟩ := y6.elemI g om
  refine Eu<|Eq_<|Ct<|Eq_<|E.block<|Ew Z3<|Il us_Is i7 rfl ea17 g rfl om rfl (eh17 _)<|Ei rfl<|Eu<|D.region (fun j => !(Nat.beq j 6) && !(Nat.beq j 8)) mixed<|Df 0 1 fo_Fact_1 ty_Is rfl (Hz (mS m0) 1 rfl)<|Dy 2 rfl (k7 (cs := [_, _]) ty_Binding rfl (Has.pt<|mS<|mS<|mS m0) rfl)<|Dm 3 rfl<|D0 4 rfl a0L rfl (fun hA => ⟨hA.ro C7, hA.ro w9⟩)<|E7 5 rfl rfl kr (fun _ => rfl) (Nb [_] [_] us_Is i7 rfl rfl)<|fun b24 _ => f5<|E7 6 rfl rfl kr (fun h => by cases h) (B0 (E := Enc.int) (ex := F6 (j9, f8) f6[g]) us_Is i7 rfl rfl rfl (Own.int i6) rfl bn bn dc)<|fun p25 _ => Dyp 7 rfl (C2 fo_Fact_1 ty_Is dc rfl)<|f5<|E7 8 rfl rfl kr (fun h => by cases h) (Ns [_, _] ty_Is rfl)<|fun _ _ => n9 kr<|o6<|Et<|Ez Z2<|Yad rfl om om<|Em rfl<|Eu<|f5<|g9 (congrArg (ow eIs [_]) (show _ = (f6.take<|g + 1).map (F6 (j9, f8)) from by grind [O8, d1, d2, t1, t2]))<|s4<|s4<|s4<|s4<|s4 ?_
  exact Ea (g + 1, p25.1, (((f6.take g).map (F6 (j9, f8))).length + 1), p25.2) ⟨oz, trivial⟩
 ·refine Eu<|Eq_<|r7 rfl<|E.exit<|l4<|l4<|w8<|Et<|Ew Z2<|Ey rfl (k7 (cs := [_, _]) ty_Fact rfl (Has.pt<|mS m0) rfl)<|i8<|Est rfl (Ns [_, _] ty_Fact rfl)<|fun _ _ => Eu<|E.ret<|f5<|g9 (congrArg (ow eIs [_]) (show _ = (O8 (l0, f6) (j9, f8)).2 by grind [O8, d1, d2, t1, t2])) ?_
  exact S0 br rfl rfl (mS m0) ty_Fact rfl (_, _, _) trivial (by rw [show ((O8 (l0, f6) (j9, f8)).1) = (l0) from (by grind [O8, d1, d2, t1, t2])]; try rfl) (J := _) (.refl _)<|.inl rfl
end Go.Proofs.YthapcdhdfaibkaaGreatDoor
