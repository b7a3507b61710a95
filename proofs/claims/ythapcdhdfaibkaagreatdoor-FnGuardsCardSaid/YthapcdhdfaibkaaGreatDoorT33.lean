import Derived.Test.YthapcdhdfaibkaaGreatDoorT19
section
namespace Go.Proofs.YthapcdhdfaibkaaGreatDoor
open Go.RowKit
instance c1A {b : Nat} {T : TypeId} {cs : List Value} {A H : List HP} [h : PtIn b T cs H] : PtIn b T cs (List.append A H) := ⟨List.mem_append.2 (.inr h.out)⟩
end Go.Proofs.YthapcdhdfaibkaaGreatDoor
end
section
namespace Go.Proofs.YthapcdhdfaibkaaGreatDoor
open Go.RowKit
set_option linter.all false
set_option maxHeartbeats 2000000
attribute [local irreducible] Nop Yd Yp Ent Has Tr FnP FnP2 Src M5 U1 V6 W3 G3
variable {l0 : Int} {d6 a6 d8 : List IL} {f6 j9 f8 c6 s : List Int} {B5 w5 H1 D5 B6 y5 b_facts m_facts c_facts B9 w4 B3 u4 L7 F9 m_s c_s : Nat} {w6 D4 y4 a_facts w3 t8 F8 a_s : Option Addr}
theorem a3z (hz : f6.length ≤ 1048576) : Tr Tryz.prog 88 [.agg #[.int .i64 l0, .slice w6 B5 w5], .agg #[.slice D4 H1 D5, .slice y4 B6 y5]] (fun w L => I64 l0 ∧ Ro w L eIs [.slice w6 B5 w5] f6 ∧ Ro w L eIs [.slice D4 H1 D5] j9 ∧ Ro w L eIs [.slice y4 B6 y5] f8) [] (κ := SL) (fun k => True) (fun k => .agg #[.int .i64 ((O8 (l0, f6) (j9, f8)).1), .slice k.1 k.2.1 k.2.2]) (fun k => [ow eIs [.slice k.1 k.2.1 k.2.2] ((O8 (l0, f6) (j9, f8)).2)]) := by
 refine Ti2 Tryz.func88 30 rfl fun w L hR => ?_
 obtain ⟨J4, y6, C7, w9⟩ := hR
 obtain ⟨rfl, Q5⟩ := y6.slen
 obtain ⟨rfl, a0f⟩ := C7.slen
 obtain ⟨rfl, Q7⟩ := w9.slen
 have jv := a7h (b := (j9, f8)) (l := f6) y6.i64 C7.i64 w9.i64
 refine Ew Z3<|Est rfl (N.box (cs := [_, _]) rfl dc rfl)<|fun b2 _ => Est rfl (N.box (cs := [_, _]) rfl dc rfl)<|fun b3 _ => Est rfl (N.alloc ty_Fact dc)<|fun b4 _ => Ev Z5<|Lz fo_Atom_0 i7 rfl (mS<|mS m0) rfl<|Ey rfl ((M4 (pvs := [_]) (cs := [_, _]) ty_Fact a4h rfl rfl).yd)<|Est rfl (N.alloc ty_Fact dc)<|fun b5 _ => Est rfl (Ns [_, _] ty_Fact rfl)<|fun _ _ => Eu<|Eq_<|Ew Z1<|Ei rfl<|Eu<|E.block<|l6 (A := []) (Own.nil (E := Enc.int) (e := tI) (a := none)) rfl<|g9 (congrArg (ow eIs [_]) (show _ = (f6.take 0).map (F6 (j9, f8)) from by first | rfl | (simp; done) | grind [O8, d1, d2, t1, t2]))<|Lo (κ := Nat × SL) (fun g => g.1 ≤ f6.length ∧ True) (fun g => [(2, .pointer<|some ⟨b2, 0, none⟩), (3, .pointer<|some ⟨b3, 0, none⟩), (4, .pointer<|some ⟨b4, 0, none⟩), (5, .pointer<|some ⟨b5, 0, none⟩), (6, .int .i64 (↑g.1 : Int))]) (fun g => [ow eIs [.slice g.2.1 g.2.2.1 g.2.2.2]<|(f6.take g.1).map (F6 (j9, f8)), pt b5 85 [.int .i64 l0, .slice g.2.1 g.2.2.1 g.2.2.2], pt b4 85 [.int .i64 0, .slice none 0 0], pt b3 114 [.slice D4 j9.length D5, .slice y4 f8.length y5], pt b2 111 [.int .i64 l0, .slice w6 f6.length w5]]) (fun g => f6.length - g.1) (0, none, 0, 0) ⟨Nat.zero_le _, by simp⟩<|fun g pg => ?_
 obtain ⟨g, aA0_0, mA0_0, cA0_0⟩ := g
 try dsimp only at pg
 try dsimp only
 obtain ⟨pk, pa⟩ := pg
 refine r8 m0 ?_
 rintro rfl laA0_0
 refine Eq_<|Ew Z5<|Em rfl<|Lz fo_Atom_1 ty_Is rfl (mS<|mS<|mS<|mS m0) rfl<|Yln us_Is rfl<|Ylt rfl<|l3 (fun q14 => ?_)<|fun q14 => ?_
 ·refine Eu<|Ct<|Eq_<|E.block<|D.region (fun j => !(Nat.beq j 10) && !(Nat.beq j 12)) mixed<|Df 0 1 fo_Fact_1 ty_Is rfl (Hz (mS m0) 1 rfl)<|Dy 2 rfl (k7 (cs := [_, _]) ty_Binding rfl (Has.pt<|mS<|mS<|mS m0) rfl)<|Df 3 4 fo_Atom_1 ty_Is rfl (Hz (mS<|mS<|mS<|mS m0) 1 rfl)<|Dm 5 rfl ?_
  obtain ⟨eb23, eo23, ea23, ei23, eh23⟩ := y6.elemI g om
  refine Dyp 6 rfl (z8 us_Is i7 rfl ea23 rfl g rfl om)<|Dy 7 rfl (B4 i7 rfl (eh23 _) rfl)<|D0 8 rfl a2l rfl (fun hA => ⟨hA.ro C7, hA.ro w9⟩)<|E7 9 rfl rfl kr (fun _ => rfl) (Nb [_] [_] us_Is i7 rfl rfl)<|fun b26 _ => f5<|E7 10 rfl rfl kr (fun h => by cases h) (B0 (E := Enc.int) (ex := F6 (j9, f8) f6[g]) us_Is i7 rfl rfl rfl (Own.int i6) rfl bn bn dc)<|fun p27 _ => Dyp 11 rfl (C2 fo_Fact_1 ty_Is dc rfl)<|f5<|E7 12 rfl rfl kr (fun h => by cases h) (Ns [_, _] ty_Is rfl)<|fun _ _ => n9 kr<|o6<|Et<|Ez Z3<|Em rfl<|Yad rfl om om<|Ei rfl<|Eu<|f5<|g9 (congrArg (ow eIs [_]) (show _ = (f6.take<|g + 1).map (F6 (j9, f8)) from by grind [O8, d1, d2, t1, t2]))<|s4<|s4<|s4<|s4<|s4 ?_
  exact Ea (g + 1, p27.1, (((f6.take g).map (F6 (j9, f8))).length + 1), p27.2) ⟨oz, trivial⟩
 ·refine Eu<|r7 rfl<|E.exit<|l4<|l4<|w8<|Et<|Ew Z2<|Ey rfl (k7 (cs := [_, _]) ty_Fact rfl (Has.pt<|mS m0) rfl)<|i8<|Est rfl (Ns [_, _] ty_Fact rfl)<|fun _ _ => Eu<|E.ret<|f5<|g9 (congrArg (ow eIs [_]) (show _ = (O8 (l0, f6) (j9, f8)).2 by grind [O8, d1, d2, t1, t2])) ?_
  exact S0 br rfl rfl (mS m0) ty_Fact rfl (_, _, _) trivial (by rw [show ((O8 (l0, f6) (j9, f8)).1) = (l0) from (by grind [O8, d1, d2, t1, t2])]; try rfl) (J := _) (.refl _)<|.inl rfl
theorem a4a {b_b : Nat} (hz : f6.length ≤ 1048576) : TB Tryz.prog 92 [.agg #[.int .i64 l0, .slice w6 B5 w5], .pointer (some ⟨b_facts, 0, none⟩), .pointer (some ⟨b_b, 0, none⟩)] (fun w L => (I64 l0 ∧ Ro w L eIs [.slice w6 B5 w5] f6) ∧ RoPt w L b_facts [.slice a_facts m_facts c_facts] ∧ Ro w L s5 [.slice a_facts m_facts c_facts] d6 ∧ RoPt w L b_b [.slice D4 H1 D5, .slice y4 B6 y5] ∧ Ro w L eIs [.slice D4 H1 D5] j9 ∧ Ro w L eIs [.slice y4 B6 y5] f8) (N9 d6 (O8 (l0, f6) (j9, f8))) := by
 refine Ti3 Tryz.func92 10 rfl fun w L hR => ?_
 obtain ⟨⟨J4, y6⟩, hb_facts, hfacts, hb_b, C7, w9⟩ := hR
 obtain ⟨rfl, Q5⟩ := y6.slen
 obtain ⟨rfl, lfacts⟩ := hfacts.slen
 obtain ⟨rfl, a0f⟩ := C7.slen
 obtain ⟨rfl, Q7⟩ := w9.slen
 refine Ew Z2<|Est rfl (N.box (cs := [_, _]) rfl dc rfl)<|fun b3 _ => Ei rfl<|Eu<|Eq_<|D.region (fun j => true) mixed<|Dy 0 rfl (B4 ty_Facts rfl (hb_facts.has) rfl)<|Dy 1 rfl (k7 (cs := [_, _]) ty_Atom rfl (Has.pt m0) rfl)<|Dy 2 rfl (k7 (cs := [_, _]) ty_Binding rfl (hb_b.has) rfl)<|E7 3 rfl rfl kr (fun _ => rfl) (N.call (a3S fc) rfl rfl rfl dc rfl<|fun w Lp hA => ⟨J4, hA.ro y6, hA.ro C7, hA.ro w9⟩)<|fun k8 _ => ?_
 obtain ⟨a8, m8, c8⟩ := k8
 refine r8 m0 ?_
 rintro rfl l8
 refine D0 4 rfl a2k rfl (fun hA => ⟨hA.ro hfacts, i6, hA.ow m0⟩)<|Dyp 5 rfl (G7 rfl)<|n9 kr<|Et<|E.ret<|Fb rfl rfl (by grind [d1, d2, t1, t2])
theorem a4K {b_g : Nat} (hgn : ∀ a ∈ d8, a.2.length ≤ 1048576) : TB Tryz.prog 90 [.agg #[.slice D4 H1 D5, .slice y4 B6 y5], .pointer (some ⟨b_g, 0, none⟩), .pointer (some ⟨b_facts, 0, none⟩)] (fun w L => (Ro w L eIs [.slice D4 H1 D5] j9 ∧ Ro w L eIs [.slice y4 B6 y5] f8) ∧ RoPt w L b_g [.slice w3 B9 w4, .slice t8 B3 u4, .slice F8 L7 F9] ∧ Ro w L eIs [.slice w3 B9 w4] c6 ∧ Ro w L B1 [.slice t8 B3 u4] a6 ∧ Ro w L B1 [.slice F8 L7 F9] d8 ∧ RoPt w L b_facts [.slice a_facts m_facts c_facts] ∧ Ro w L s5 [.slice a_facts m_facts c_facts] d6) (X9 d6 d8 (j9, f8)) := by
 refine Ti3 Tryz.func90 9 rfl fun w L hR => ?_
 obtain ⟨⟨C7, w9⟩, hb_g, s8, r9, H7, hb_facts, hfacts⟩ := hR
 obtain ⟨rfl, a0f⟩ := C7.slen
 obtain ⟨rfl, Q7⟩ := w9.slen
 obtain ⟨rfl, R3⟩ := s8.slen
 obtain ⟨rfl, Q3⟩ := r9.slen
 obtain ⟨rfl, a1r⟩ := H7.slen
 obtain ⟨rfl, lfacts⟩ := hfacts.slen
 refine Ew Z2<|Est rfl (N.box (cs := [_, _]) rfl dc rfl)<|fun b3 _ => Ei rfl<|Ev Z5<|Lf fo_Guarded_1 ty_Atoms rfl (Hs (hb_g.has) 2 rfl)<|Ey rfl ((Y.fn (vs := [_, _]) rfl).yd)<|E0 rfl (a1O (f := (fun z => N9 d6<|O8 z (j9, f8))) (D_f := (fun z => z.2.length ≤ 1048576)) (by grind)) rfl (fun hA => ⟨hA.ro H7, a6z (D := (fun z => z.2.length ≤ 1048576)) (fun hd => a4a hd)<|fun w' hk => ⟨(hA.rop hb_facts).keep hk, (hA.ro hfacts).keep hk, (hA.pt m0).keep hk, (hA.ro C7).keep hk, (hA.ro w9).keep hk⟩⟩)<|Ei rfl<|Eu<|E.ret<|Fb rfl rfl (by grind [X9, d1, d2, t1, t2])
theorem b0l {a_l : Option Addr} {m_l c_l : Nat} {l : List (List Int × List Int)} (hgn : ∀ a ∈ d8, a.2.length ≤ 1048576) (hln : l.length ≤ 1000000) : Tr Tryz.prog 95 [.agg #[.slice w3 B9 w4, .slice t8 B3 u4, .slice F8 L7 F9], .slice a_l m_l c_l, .slice a_facts m_facts c_facts] (fun w L => Ro w L eIs [.slice w3 B9 w4] c6 ∧ Ro w L B1 [.slice t8 B3 u4] a6 ∧ Ro w L B1 [.slice F8 L7 F9] d8 ∧ Ro w L s5 [.slice a_facts m_facts c_facts] d6) [ow s9 [.slice a_l m_l c_l] l] (κ := SL) (fun k => True) (fun k => .slice k.1 k.2.1 k.2.2) (fun k => [ow s9 [.slice k.1 k.2.1 k.2.2] (l.filter (fun b => !X9 d6 d8 b))]) := by
 refine Ti3 Tryz.func95 50 rfl fun w L hR => ?_
 obtain ⟨s8, r9, H7, hfacts⟩ := hR
 obtain ⟨rfl, R3⟩ := s8.slen
 obtain ⟨rfl, Q3⟩ := r9.slen
 obtain ⟨rfl, a1r⟩ := H7.slen
 obtain ⟨rfl, lfacts⟩ := hfacts.slen
 refine r8 m0 ?_
 rintro rfl ll
 refine Ew Z2<|Est rfl (N.box (cs := [_, _, _]) rfl dc rfl)<|fun b3 _ => Ei rfl<|Ev Z2<|Est rfl (Nb [] [] us_Bindings ty_Binding rfl rfl)<|fun b11 _ => Ent.drop<|Ei rfl<|Eu<|Eq_<|Ew Z1<|Ei rfl<|Eu<|E.block<|l6 (A := []) (Own.nil (E := B7) (e := tBinding) (a := (some ⟨b11, 0, none⟩))) rfl<|g9 (congrArg (ow s9 [_]) (show _ = (l.take 0).filter (fun b => !X9 d6 d8 b) from by first | rfl | (simp; done) | grind [E4, X9, K9, d1, d2, t1, t2]))<|i8<|a8b<|Lo (κ := Nat × SL) (fun r => r.1 ≤ l.length ∧ True) (fun r => [(1, .slice a_l l.length c_l), (2, .slice a_facts d6.length c_facts), (3, .pointer<|some ⟨b3, 0, none⟩), (7, .slice r.2.1 r.2.2.1 r.2.2.2), (8, .int .i64 (↑r.1 : Int))]) (fun r => [owd tBinding B7 a_l l.length c_l l r.1, ow s9 [.slice r.2.1 r.2.2.1 r.2.2.2]<|(l.take r.1).filter (fun b => !X9 d6 d8 b), pt b3 30 [.slice w3 c6.length w4, .slice t8 a6.length u4, .slice F8 d8.length F9]]) (fun r => l.length - r.1) (0, (some ⟨b11, 0, none⟩), 0, 0) ⟨Nat.zero_le _, by simp⟩<|fun r pr => ?_
 obtain ⟨r, aA0_0, mA0_0, cA0_0⟩ := r
 try dsimp only at pr
 try dsimp only
 obtain ⟨pk, pa⟩ := pr
 have jf := List.length_filter_le (fun b => !X9 d6 d8 b) (l.take r)
 have jt := List.length_take_le r l
 refine r8 (mS m0) ?_
 rintro rfl laA0_0
 refine Eq_<|Ew Z4<|Em rfl<|Em rfl<|Yln us_Bindings rfl<|Ylt rfl<|l3 (fun q15 => ?_)<|fun q15 => ?_
 ·refine a6A m0 om fun ab99 ae99 => a8e (j := r) om fun ce99 => f5<|a3s fun oa99_0 om99_0 oc99_0 oa99_1 om99_1 oc99_1 oe99 on99_0 on99_1 => ?_
  subst oe99
  subst on99_0
  subst on99_1
  refine r8 m0 fun _ ol99_0 => r8 (mS m0) fun _ ol99_1 => Eu<|Ct<|Eq_<|E.block<|Ew Z1<|Ei rfl<|Eu<|Eq_<|Ew Z1<|Ei rfl<|Eu<|E.block<|E.loop (κ := Nat) (fun h => h ≤ d8.length ∧ True) (fun h => [(1, .slice a_l l.length c_l), (2, .slice a_facts d6.length c_facts), (3, .pointer<|some ⟨b3, 0, none⟩), (7, .slice aA0_0 ((l.take r).filter (fun b => !X9 d6 d8 b)).length cA0_0), (8, .int .i64 (r : Int)), (9, .bool<|!(d8.take h).any (fun a => N9 d6<|O8 a l[r])), (10, .int .i64 (h : Int))]) (fun h => [ow eIs [.slice oa99_0 l[r].1.length oc99_0] l[r].1, ow eIs [.slice oa99_1 l[r].2.length oc99_1] l[r].2, owt tBinding B7 a_l l.length c_l l r [.slice oa99_0 l[r].1.length oc99_0, .slice oa99_1 l[r].2.length oc99_1], ow s9 [.slice aA0_0 ((l.take r).filter (fun b => !X9 d6 d8 b)).length cA0_0]<|(l.take r).filter (fun b => !X9 d6 d8 b), pt b3 30 [.slice w3 c6.length w4, .slice t8 a6.length u4, .slice F8 d8.length F9]]) (fun h => d8.length - h) (0) ⟨Nat.zero_le _, by simp⟩ ⟨rfl, rfl, rfl, rfl, rfl, frB (by first | rfl | (simp; done) | grind [E4, X9, K9, d1, d2, t1, t2]), rfl, trivial⟩ (.refl _)<|fun h ph => ?_
  try dsimp only
  obtain ⟨pk, pa⟩ := ph
  refine Eq_<|Ew Z5<|Em rfl<|Lz fo_Guarded_1 ty_Atoms rfl (mS<|mS<|mS<|mS m0) rfl<|Yln us_Atoms rfl<|Ylt rfl<|l3 (fun q22 => ?_)<|fun q22 => ?_
  ·refine Eu<|Ct<|Eq_<|E.block<|D.region (fun j => true) mixed<|Dm 0 rfl<|Ent.b (fun q25 => ?_)<|fun q25 => ?_
   ·refine Dm 1 rfl<|Dm 2 rfl<|Df 3 4 fo_Guarded_1 ty_Atoms rfl (Hz (mS<|mS<|mS<|mS m0) 2 rfl)<|Dm 5 rfl ?_
    obtain ⟨eb31, eo31, ec31, ea31, er31, el31, eh31⟩ := H7.elem h om
    obtain ⟨xa31_0, xc31_0, rfl, ei31_0, xh31_0⟩ := L5 er31
    have := xh31_0.slen.2
    refine Dyp 6 rfl (z8 us_Atoms ty_Atom rfl ea31 rfl h rfl om)<|Dy 7 rfl (k7 (cs := [_, _]) ty_Atom rfl (eh31 _) rfl)<|Dm 8 rfl<|Dm 9 rfl<|Dyp 10 rfl (z8 us_Bindings ty_Binding rfl ae99 rfl r rfl om)<|Dy 11 rfl (k7 (cs := [_, _]) ty_Binding rfl (Has.owt ae99<|mS<|mS m0) rfl)<|E7 12 rfl rfl kr (fun _ => rfl) (N.call (a3z<|hgn _<|List.getElem_mem om) rfl rfl rfl dc rfl<|fun w Lp hA => ⟨ei31_0, hA.ro xh31_0, hA.ow m0, hA.ow<|mS m0⟩)<|fun k37 _ => ?_
    obtain ⟨a37, m37, c37⟩ := k37
    refine r8 m0 ?_
    rintro rfl l37
    refine D0 13 rfl a2j rfl (fun hA => ⟨hA.ro hfacts, i6, hA.ow m0⟩)<|Dyp 14 rfl (Y.not rfl)<|Dyp 15 rfl (K7 rfl rfl)<|Dyp 16 rfl (G7 rfl)<|Ent.b (fun q9 => ?_)<|fun q9 => ?_
    ·refine n9 kr<|o6<|Et<|Ez Z3<|Em rfl<|Yad rfl om om<|Ei rfl<|Eu<|Ent.drop<|s4<|s4<|s4<|s4<|s4 ?_
     exact t7 br (h + 1) ⟨rfl, rfl, rfl, rfl, rfl, frB (by grind [E4, X9, K9, d1, d2, t1, t2]), rfl, trivial⟩ (.refl _) ⟨oz, trivial⟩ oz
    ·refine n9 kr<|o6<|Et<|Ez Z3<|Em rfl<|Yad rfl om om<|Ei rfl<|Eu<|Ent.drop<|s4<|s4<|s4<|s4<|s4 ?_
     exact t7 br (h + 1) ⟨rfl, rfl, rfl, rfl, rfl, frB (by grind [E4, X9, K9, d1, d2, t1, t2]), rfl, trivial⟩ (.refl _) ⟨oz, trivial⟩ oz
   ·refine Dm 1 rfl<|Dsk 2 rfl<|Dsk 3 rfl<|Dsk 4 rfl<|Dsk 5 rfl<|Dsk 6 rfl<|Dsk 7 rfl<|Dsk 8 rfl<|Dsk 9 rfl<|Dsk 10 rfl<|Dsk 11 rfl<|Dsk 12 rfl<|Dsk 13 rfl<|Dsk 14 rfl<|Dyp 15 rfl (L8 rfl rfl)<|Dyp 16 rfl (G7 rfl)<|n9 kr<|o6<|Et<|Ez Z3<|Em rfl<|Yad rfl om om<|Ei rfl<|Eu<|s4<|s4<|s4<|s4<|s4 ?_
    exact t7 br (h + 1) ⟨rfl, rfl, rfl, rfl, rfl, frB (by grind [E4, X9, K9, d1, d2, t1, t2]), rfl, trivial⟩ (.refl _) ⟨oz, trivial⟩ oz
  ·have jq : d8.take h = d8 := List.take_of_length_le om
   refine Eu<|r7 rfl<|E.exit<|l4<|l4<|w8<|Et<|Ew Z1<|Em rfl<|Ent.b (fun q41 => ?_)<|fun q41 => ?_
   ·refine Eu<|r6 rfl<|Ez Z8<|Em rfl<|Em rfl<|Em rfl<|Ix us_Bindings ty_Binding rfl ae99 r rfl om<|Ey rfl (k7 (cs := [_, _]) ty_Binding rfl (Has.owt ae99<|mS<|mS m0) rfl)<|Est rfl (Nb [_] [_, _] us_Bindings ty_Binding rfl rfl)<|fun b47 _ => i8<|i8<|i8<|s4<|Est rfl (B0 (E := B7) (ex := l[r]) us_Bindings ty_Binding rfl rfl rfl (R4 (x := l[r]) Own.ow Own.ow) rfl bn bn dc)<|fun p48 _ => Ei rfl<|En<|o6<|Et<|Ez Z3<|Em rfl<|Yad rfl om om<|Ei rfl<|Eu<|f5<|a1N<|f5<|g9 (congrArg (ow s9 [_]) (show _ = (l.take<|r + 1).filter (fun b => !X9 d6 d8 b) from by grind [E4, X9, K9, d1, d2, t1, t2]))<|i8<|f5<|i8 ?_
    exact Ea (r + 1, p48.1, (((l.take r).filter (fun b => !X9 d6 d8 b)).length + 1), p48.2) ⟨oz, trivial⟩
   ·refine Eu<|r7 rfl<|v8<|o6<|Et<|Ez Z3<|Em rfl<|Yad rfl om om<|Ei rfl<|Eu<|i8<|a1N<|f5<|Ent.drop<|f5<|Ent.drop<|f5<|g9 (congrArg (ow s9 [_]) (show _ = (l.take<|r + 1).filter (fun b => !X9 d6 d8 b) from by grind [E4, X9, K9, d1, d2, t1, t2]))<|i8<|f5<|i8 ?_
    exact Ea (r + 1, aA0_0, _, cA0_0) ⟨oz, trivial⟩
 ·refine Eu<|r7 rfl<|E.exit<|l4<|l4<|w8<|Et<|Ew Z2<|Em rfl<|Ei rfl<|Eu<|E.ret<|f5<|g9 (congrArg (ow s9 [_]) (show _ = l.filter (fun b => !X9 d6 d8 b) by grind [E4, X9, K9, d1, d2, t1, t2]))<|Fg rfl rfl (_, _, _) rfl rfl
theorem a2T (hz : O1 (fun x => x.2.length) a6 ≤ 1048576) (hn : O1 (fun x => x.2.length) d8 ≤ 1048576) : TL Tryz.prog 10 [.slice a_s m_s c_s, .agg #[.slice w3 B9 w4, .slice t8 B3 u4, .slice F8 L7 F9], .slice a_facts m_facts c_facts] (fun w L => Ro w L eIs [.slice a_s m_s c_s] s ∧ Ro w L eIs [.slice w3 B9 w4] c6 ∧ Ro w L B1 [.slice t8 B3 u4] a6 ∧ Ro w L B1 [.slice F8 L7 F9] d8 ∧ Ro w L s5 [.slice a_facts m_facts c_facts] d6) H3 (a0x s ((c6, a6), d8) d6) := by
 refine Ti3 Tryz.func10 26 rfl fun w L hR => ?_
 obtain ⟨hs, s8, r9, H7, hfacts⟩ := hR
 obtain ⟨rfl, ls⟩ := hs.slen
 obtain ⟨rfl, R3⟩ := s8.slen
 obtain ⟨rfl, Q3⟩ := r9.slen
 obtain ⟨rfl, a1r⟩ := H7.slen
 obtain ⟨rfl, lfacts⟩ := hfacts.slen
 refine Ew Z3<|Est rfl (N.box (cs := [_, _, _]) rfl dc rfl)<|fun b4 _ => Est rfl (N.box (cs := [_]) rfl dc rfl)<|fun b5 _ => Ei rfl<|Eu<|Eq_<|Ew Z10<|Em rfl<|Ey rfl (k7 (cs := [_, _, _]) ty_Guarded rfl (Has.pt<|mS m0) rfl)<|E0 rfl (a1D (fo)<|fo) rfl (fun hA => ⟨hA.ro hs, hA.ro s8, hA.ro r9, hA.ro H7⟩)<|Ent.b (fun q9 => ?_)<|fun q9 => ?_
 ·refine Yno true rfl<|Em rfl<|Em rfl<|Ey rfl (B4 ty_Facts rfl (Has.pt m0) rfl)<|E0 rfl a3c rfl (fun hA => ⟨hA.ro hs, hA.ro hfacts⟩)<|Ent.b (fun q14 => ?_)<|fun q14 => ?_
  ·refine Yno true rfl<|Ypf rfl<|Eu<|Cf<|Eq_<|a1X (κ := Option Addr × Nat) (fun _ => True) (fun kM => [(6, .slice kM.1 (S2 c6<|(H6 a6 d6).filter (fun x => !(fun z => X9 d6 d8 z) x)).length kM.2)]) (fun kM => [ow H3 [.slice kM.1 (S2 c6<|(H6 a6 d6).filter (fun x => !(fun z => X9 d6 d8 z) x)).length kM.2]<|S2 c6<|(H6 a6 d6).filter (fun x => !(fun z => X9 d6 d8 z) x), pt b5 31 [.slice a_facts d6.length c_facts], pt b4 30 [.slice w3 c6.length w4, .slice t8 a6.length u4, .slice F8 d8.length F9]]) ?_<|fun kM _ => ?_
   ·refine S7 [b5, b4] (fun j => true) mixed<|C1 0 rfl rfl dc (C2 fo_Guarded_0 ty_Query dc rfl) kr<|a0a 1 rfl rfl dc (a4D (cs := [_, _]) ty_Query rfl ((S3.pt (mS m0) (by simp)).sub (cs' := [_, _]) 0 rfl) rfl) kr<|C1 2 rfl rfl dc (C2 fo_Guarded_0 ty_Query dc rfl) kr<|a0a 3 rfl rfl dc (a4D (cs := [_, _]) ty_Query rfl ((S3.pt (mS m0) (by simp)).sub (cs' := [_, _]) 0 rfl) rfl) kr<|a0a 4 rfl rfl dc (W9 ty_Facts rfl (S3.pt m0 (by simp)) rfl) kr<|C1 6 rfl rfl dc (Y.fn (vs := [_, _]) rfl) kr<|G2 5 rfl rfl kr (fun _ _ => SameI.out) (N.call (a2u (((J7 (P6 (s := s) (g := ((c6, a6), d8)) (by assumption)).1).1)) (((J7 (P6 (s := s) (g := ((c6, a6), d8)) (by assumption)).1).2.2))<|(fun a _ => a7R (G4 (s := s) (by assumption)).1)) rfl rfl rfl dc rfl<|fun w Lp hA => ⟨hA.ro s8, hA.ro r9, hA.ro hfacts⟩)<|fun k22 _ => ?_
    obtain ⟨a22, m22, c22⟩ := k22
    refine r8 m0 ?_
    rintro rfl l22
    refine G2 7 rfl rfl kr (fun _ _ => SameI.out) (N.call (pre := [_]) (a6s (del := (fun z => X9 d6 d8 z)) (D_del := (fun z => (∀ a ∈ d8, a.2.length ≤ 1048576))) (by first | exact a7j hn | exact fun _ _ => a7j hn)) rfl rfl rfl dc rfl<|fun w Lp hA => b1K (D := (fun z => (∀ a ∈ d8, a.2.length ≤ 1048576))) (fun hd => a4K hd)<|fun w' hk => ⟨(hA.pt<|mS m0).keep hk, (hA.ro s8).keep hk, (hA.ro r9).keep hk, (hA.ro H7).keep hk, (hA.pt m0).keep hk, (hA.ro hfacts).keep hk⟩)<|fun k24 _ => ?_
    obtain ⟨a24, m24, c24⟩ := k24
    refine r8 m0 ?_
    rintro rfl l24
    refine G2 8 rfl rfl kr (fun _ _ => SameI.out) (N.call (a1V ((Nat.le_trans (J7 (P6 (s := s) (g := ((c6, a6), d8)) (by assumption)).1).2.1 dc))<|(Nat.le_trans (List.length_filter_le _ _)<|Nat.le_trans (a4A (d6 := d6) (G4 (s := s) (by assumption)).1 (J7 (P6 (s := s) (g := ((c6, a6), d8)) (by assumption)).1).1 (J7 (P6 (s := s) (g := ((c6, a6), d8)) (by assumption)).1).2.2).1 dc)) rfl rfl rfl dc rfl<|fun w Lp hA => ⟨hA.ro s8, hA.ro r9, hA.ow m0⟩)<|fun k25 _ => ?_
    obtain ⟨a25, m25, c25⟩ := k25
    refine r8 m0 ?_
    rintro rfl l25
    refine C1 9 rfl rfl dc (G7 rfl) kr<|U6 kr<|f5<|Ent.drop<|i8<|i8<|i8<|U4 (a25, c25) trivial ⟨rfl, trivial⟩<|.refl _
   ·obtain ⟨a25, c25⟩ := kM
    try dsimp only
    refine Et<|E.ret<|g9 (congrArg (ow H3 [_]) (show _ = a0x s ((c6, a6), d8) d6 by grind [a0x, d1, d2, t1, t2]))<|Fg rfl rfl (_, _, _) rfl rfl
  ·refine Yno false rfl<|Ypf rfl<|Eu<|r6 rfl<|Ew Z1<|Ei rfl<|Eu<|E.ret<|i9<|l6 (A := []) (Own.nil (E := eIs) (e := tIs) (a := none)) rfl<|g9 (congrArg (ow H3 [_]) (show _ = a0x s ((c6, a6), d8) d6 by grind [a0x, d1, d2, t1, t2]))<|Fg rfl rfl (none, 0, 0) rfl rfl
 ·refine Yno false rfl<|Em rfl<|Es rfl<|Es rfl<|Es rfl<|Es rfl<|Ypt rfl<|Eu<|r6 rfl<|Ew Z1<|Ei rfl<|Eu<|E.ret<|i9<|l6 (A := []) (Own.nil (E := eIs) (e := tIs) (a := none)) rfl<|g9 (congrArg (ow H3 [_]) (show _ = a0x s ((c6, a6), d8) d6 by grind [a0x, d1, d2, t1, t2]))<|Fg rfl rfl (none, 0, 0) rfl rfl
theorem a2V (hz : O1 (fun x => x.2.length) a6 ≤ 1048576) (hn : O1 (fun x => x.2.length) d8 ≤ 1048576) : TL Tryz.prog 13 [.slice a_s m_s c_s, .agg #[.slice w3 B9 w4, .slice t8 B3 u4, .slice F8 L7 F9], .slice a_facts m_facts c_facts] (fun w L => Ro w L eIs [.slice a_s m_s c_s] s ∧ Ro w L eIs [.slice w3 B9 w4] c6 ∧ Ro w L B1 [.slice t8 B3 u4] a6 ∧ Ro w L B1 [.slice F8 L7 F9] d8 ∧ Ro w L s5 [.slice a_facts m_facts c_facts] d6) H3 (a0x s ((c6, a6), d8) d6) := by
 refine Ti3 Tryz.func13 28 rfl fun w L hR => ?_
 obtain ⟨hs, s8, r9, H7, hfacts⟩ := hR
 obtain ⟨rfl, ls⟩ := hs.slen
 obtain ⟨rfl, R3⟩ := s8.slen
 obtain ⟨rfl, Q3⟩ := r9.slen
 obtain ⟨rfl, a1r⟩ := H7.slen
 obtain ⟨rfl, lfacts⟩ := hfacts.slen
 refine Ew Z2<|Est rfl (N.box (cs := [_, _, _]) rfl dc rfl)<|fun b4 _ => Ei rfl<|Eu<|Eq_<|Ew Z10<|Em rfl<|Ey rfl (k7 (cs := [_, _, _]) ty_Guarded rfl (Has.pt m0) rfl)<|E0 rfl (a0M (fo)<|fo) rfl (fun hA => ⟨hA.ro hs, hA.ro s8, hA.ro r9, hA.ro H7⟩)<|Ent.b (fun q9 => ?_)<|fun q9 => ?_
 ·refine Yno true rfl<|Em rfl<|Em rfl<|Em rfl<|E0 rfl a0v rfl (fun hA => ⟨hA.ro hs, hA.ro hfacts⟩)<|Ent.b (fun q14 => ?_)<|fun q14 => ?_
  ·refine Yno true rfl<|Ypf rfl<|Eu<|Cf<|Eq_<|a1X (κ := Option Addr × Nat) (fun _ => True) (fun kM => [(6, .slice kM.1 (S2 c6<|(H6 a6 d6).filter (fun b => !X9 d6 d8 b)).length kM.2)]) (fun kM => [ow H3 [.slice kM.1 (S2 c6<|(H6 a6 d6).filter (fun b => !X9 d6 d8 b)).length kM.2]<|S2 c6<|(H6 a6 d6).filter (fun b => !X9 d6 d8 b), pt b4 30 [.slice w3 c6.length w4, .slice t8 a6.length u4, .slice F8 d8.length F9]]) ?_<|fun kM _ => ?_
   ·refine S7 [b4] (fun j => true) mixed<|C1 0 rfl rfl dc (C2 fo_Guarded_0 ty_Query dc rfl) kr<|a0a 1 rfl rfl dc (a4D (cs := [_, _]) ty_Query rfl ((S3.pt m0 (by simp)).sub (cs' := [_, _]) 0 rfl) rfl) kr<|a0a 2 rfl rfl dc (a4D (cs := [_, _, _]) ty_Guarded rfl (S3.pt m0 (by simp)) rfl) kr<|C1 3 rfl rfl dc (C2 fo_Guarded_0 ty_Query dc rfl) kr<|a0a 4 rfl rfl dc (a4D (cs := [_, _]) ty_Query rfl ((S3.pt m0 (by simp)).sub (cs' := [_, _]) 0 rfl) rfl) kr<|C1 5 rfl rfl dc (O5 rfl) kr<|C1 7 rfl rfl dc (O5 rfl) kr<|G2 6 rfl rfl kr (fun _ _ => SameI.out) (N.call (a2v (((J7 (P6 (s := s) (g := ((c6, a6), d8)) (by assumption)).1).1)) (((J7 (P6 (s := s) (g := ((c6, a6), d8)) (by assumption)).1).2.2))<|(fun a _ => a7R (G4 (s := s) (by assumption)).1)) rfl rfl rfl dc rfl<|fun w Lp hA => ⟨hA.ro s8, hA.ro r9, hA.ro hfacts⟩)<|fun k24 _ => ?_
    obtain ⟨a24, m24, c24⟩ := k24
    refine r8 m0 ?_
    rintro rfl l24
    refine G2 8 rfl rfl kr (fun _ _ => SameI.out) (N.call (pre := [_]) (b0l ((a7j hn))<|(Nat.le_trans (a4A (d6 := d6) (G4 (s := s) (by assumption)).1 (J7 (P6 (s := s) (g := ((c6, a6), d8)) (by assumption)).1).1 (J7 (P6 (s := s) (g := ((c6, a6), d8)) (by assumption)).1).2.2).1 dc)) rfl rfl rfl dc rfl<|fun w Lp hA => ⟨hA.ro s8, hA.ro r9, hA.ro H7, hA.ro hfacts⟩)<|fun k26 _ => ?_
    obtain ⟨a26, m26, c26⟩ := k26
    refine r8 m0 ?_
    rintro rfl l26
    refine G2 9 rfl rfl kr (fun _ _ => SameI.out) (N.call (a1S ((Nat.le_trans (J7 (P6 (s := s) (g := ((c6, a6), d8)) (by assumption)).1).2.1 dc))<|(Nat.le_trans (List.length_filter_le _ _)<|Nat.le_trans (a4A (d6 := d6) (G4 (s := s) (by assumption)).1 (J7 (P6 (s := s) (g := ((c6, a6), d8)) (by assumption)).1).1 (J7 (P6 (s := s) (g := ((c6, a6), d8)) (by assumption)).1).2.2).1 dc)) rfl rfl rfl dc rfl<|fun w Lp hA => ⟨hA.ro s8, hA.ro r9, hA.ow m0⟩)<|fun k27 _ => ?_
    obtain ⟨a27, m27, c27⟩ := k27
    refine r8 m0 ?_
    rintro rfl l27
    refine C1 10 rfl rfl dc (G7 rfl) kr<|U6 kr<|f5<|Ent.drop<|f5<|f5<|U4 (a27, c27) trivial ⟨rfl, trivial⟩<|.refl _
   ·obtain ⟨a27, c27⟩ := kM
    try dsimp only
    refine Et<|E.ret<|g9 (congrArg (ow H3 [_]) (show _ = a0x s ((c6, a6), d8) d6 by grind [a0x, d1, d2, t1, t2]))<|Fg rfl rfl (_, _, _) rfl rfl
  ·refine Yno false rfl<|Ypf rfl<|Eu<|r6 rfl<|Ew Z2<|Est rfl (Nb [] [] us_Iss ty_Is rfl rfl)<|fun b17 _ => Ent.drop<|Ei rfl<|Eu<|E.ret<|i9<|l6 (A := []) (Own.nil (E := eIs) (e := tIs) (a := (some ⟨b17, 0, none⟩))) rfl<|g9 (congrArg (ow H3 [_]) (show _ = a0x s ((c6, a6), d8) d6 by grind [a0x, d1, d2, t1, t2]))<|Fg rfl rfl ((some ⟨b17, 0, none⟩), 0, 0) rfl rfl
 ·refine Yno false rfl<|Em rfl<|Es rfl<|Es rfl<|Es rfl<|Es rfl<|Ypt rfl<|Eu<|r6 rfl<|Ew Z2<|Est rfl (Nb [] [] us_Iss ty_Is rfl rfl)<|fun b17 _ => Ent.drop<|Ei rfl<|Eu<|E.ret<|i9<|l6 (A := []) (Own.nil (E := eIs) (e := tIs) (a := (some ⟨b17, 0, none⟩))) rfl<|g9 (congrArg (ow H3 [_]) (show _ = a0x s ((c6, a6), d8) d6 by grind [a0x, d1, d2, t1, t2]))<|Fg rfl rfl ((some ⟨b17, 0, none⟩), 0, 0) rfl rfl
end Go.Proofs.YthapcdhdfaibkaaGreatDoor
end
