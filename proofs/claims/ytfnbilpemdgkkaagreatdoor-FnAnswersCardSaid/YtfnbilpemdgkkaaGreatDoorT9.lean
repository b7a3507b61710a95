import Derived.Test.YtfnbilpemdgkkaaGreatDoorT8
import Derived.Test.YtfnbilpemdgkkaaGreatDoorT6
namespace Go.Proofs.YtfnbilpemdgkkaaGreatDoor
open Go.RowKit
set_option linter.all false
set_option maxHeartbeats 2000000
attribute [local irreducible] Nop Yd Yp Ent Has Tr FnP FnP2 Src
theorem a0D {a_l : Option Addr} {m_l c_l : Nat} {l : List (Int × List Int)} {f8 : Int} {z8 : Option Addr} {C4 B0 : Nat} {a7 : List Int} : Tr Tryz.prog 67 [.slice a_l m_l c_l, .agg #[.int .i64 f8, .slice z8 C4 B0]] (fun w L => Ro w L B9 [.slice a_l m_l c_l] l ∧ I64 f8 ∧ Ro w L eIs [.slice z8 C4 B0] a7) [] (κ := Unit) (fun k => True) (fun k => .bool (D0 l (f8, a7))) (fun k => []) := by
 refine Tr.intro Tryz.func67 rfl (n := 19) rfl (by decide +kernel) bl (fr := [(0, .slice a_l m_l c_l), (1, .agg #[.int .i64 f8, .slice z8 C4 B0])]) rfl fun w L hR => ?_
 obtain ⟨hl, G9, B4⟩ := hR
 obtain ⟨rfl, ll⟩ := hl.slen
 obtain ⟨rfl, W8⟩ := B4.slen
 refine Ew Z2 (Est rfl (N.box (cs := [_, _]) rfl dc rfl) (fun b3 _ => (Ei rfl (Eu (Eq_ (Ew Z1 (Ei rfl (Eu (E.block (E.loop (κ := Nat) (fun g => g ≤ l.length ∧ D0 l (f8, a7) = D0 (l.drop g) (f8, a7)) (fun g => [(0, .slice a_l l.length c_l), (3, .pointer (some ⟨b3, 0, none⟩)), (5, .int .i64 (g : Int))]) (fun g => [pt b3 44 [.int .i64 f8, .slice z8 a7.length B0]]) (fun g => l.length - g) 0 ⟨Nat.zero_le _, by simp⟩ ⟨rfl, rfl, rfl, trivial⟩ (.refl _) (fun g pg => ?_)))))))))))
 obtain ⟨pk, pa⟩ := pg
 refine Eq_ (Ew Z4 (Em rfl (Em rfl (Ey rfl ((Y.len us_Facts rfl).yd) (Ey rfl ((Y.lss rfl rfl).yd) (j4 (fun q9 => ?_) (fun q9 => ?_)))))))
 ·refine Eu (j9 rfl (f5 (Et (Eq_ (E.block (Eq_ (D.region (fun j => true) mixed (Dyp 0 rfl (i0 rfl) (Dyp 1 rfl (i0 rfl) ?_)))))))))
  obtain ⟨eb14, eo14, ec14, ea14, er14, el14, eh14⟩ := hl.elem g om
  obtain ⟨xa14_0, xc14_0, rfl, ei14_0, xh14_0⟩ := K7 er14
  have := xh14_0.slen.2
  refine Dyp 2 rfl (o6 us_Facts ty_Fact rfl ea14 rfl g rfl om) (Dy 3 rfl (o1 (cs := [_, _]) ty_Fact rfl (eh14 _) rfl) (Dy 4 rfl (o1 (cs := [_, _]) ty_Fact rfl (Has.pt m0) rfl) (t7 5 rfl rfl kr (fun _ => rfl) (i8 L6 rfl rfl rfl dc (fun w Lp hA => ⟨ei14_0, hA.ro xh14_0, G9, hA.ro B4⟩)) (fun _ _ => (Dyp 6 rfl (Y.eql rfl rfl) (j4 (fun q18 => ?_) (fun q18 => ?_)))))))
  ·refine o0 kr (Et (j9 rfl (Ew Z1 (Ei rfl ?_))))
   exact Eu (E.ret (w9 (j5 (j5 (w9 (j5 (Fb rfl rfl (by grind [D0, d1, d2, t1, t2]))))))))
  ·refine o0 kr (Et (j8 rfl (f5 (n9 (Et (Ez Z3 (Em rfl (Ey rfl ((Y.add rfl rfl om om).yd) (Ei rfl ?_)))))))))
   exact Eu (t8 br (g + 1) rs (.refl _) ⟨by omega, by grind [D0, d1, d2, t1, t2]⟩ om)
 ·refine Eu (j8 rfl (E.exit (l2 (l2 (w8 (Et (Ew Z1 (Ei rfl ?_))))))))
  exact Eu (E.ret (Fb rfl rfl (by grind [D0, d1, d2, t1, t2])))
theorem a1X {o3 : Option Addr} {s9 o2 : Nat} {i7 : List Int} {m7 : Option Addr} {r6 l7 : Nat} {f4 : List (Int × List Int)} {a_facts : Option Addr} {m_facts c_facts : Nat} {c7 : List (Int × List Int)} {a_head : Option Addr} {m_head c_head : Nat} {head : List Int} {u9 : Option Addr} {y5 u7 : Nat} {d8 : List Int} {n8 : Option Addr} {r7 n0 : Nat} {d4 : List Int} (hz : i7.length ≤ 1048576) (hq : ∀ x ∈ f4, x.2.length ≤ 1048576) : Tr Tryz.prog 13 [.agg #[.slice o3 s9 o2, .slice m7 r6 l7], .slice a_facts m_facts c_facts, .slice a_head m_head c_head, .agg #[.slice u9 y5 u7, .slice n8 r7 n0]] (fun w L => Ro w L eIs [.slice o3 s9 o2] i7 ∧ Ro w L C2 [.slice m7 r6 l7] f4 ∧ Ro w L B9 [.slice a_facts m_facts c_facts] c7 ∧ Ro w L eIs [.slice a_head m_head c_head] head ∧ Ro w L eIs [.slice u9 y5 u7] d8 ∧ Ro w L eIs [.slice n8 r7 n0] d4) [] (κ := Unit) (fun k => True) (fun k => .bool (R3 (i7, f4) c7 head (d8, d4))) (fun k => []) := by
 refine Tr.intro Tryz.func13 rfl (n := 72) rfl (by decide +kernel) bl (fr := [(0, .agg #[.slice o3 s9 o2, .slice m7 r6 l7]), (1, .slice a_facts m_facts c_facts), (2, .slice a_head m_head c_head), (3, .agg #[.slice u9 y5 u7, .slice n8 r7 n0])]) rfl fun w L hR => ?_
 obtain ⟨w4, s5, hfacts, hhead, y4, t6⟩ := hR
 obtain ⟨rfl, I4⟩ := w4.slen
 obtain ⟨rfl, G5⟩ := s5.slen
 obtain ⟨rfl, lfacts⟩ := hfacts.slen
 obtain ⟨rfl, lhead⟩ := hhead.slen
 obtain ⟨rfl, N9⟩ := y4.slen
 obtain ⟨rfl, H0⟩ := t6.slen
 have jv := a6d (b := (d8, d4)) s5.i64A y4.i64 t6.i64
 refine Ew Z3 (Est rfl (N.box (cs := [_, _]) rfl dc rfl) (fun b4 _ => (Est rfl (N.box (cs := [_, _]) rfl dc rfl) (fun b7 _ => (Ei rfl (Eu (Eq_ (Ew Z15 (Ey rfl ((f9 fo_Binding_0 ty_Is dc rfl).yd) (Ey rfl (f6 ty_Is rfl (Hz m0 0 rfl) rfl) (Ey rfl ((Y.len us_Is rfl).yd) (Ey rfl ((f9 fo_Binding_1 ty_Is dc rfl).yd) (Ey rfl (f6 ty_Is rfl (Hz m0 1 rfl) rfl) (Ey rfl ((Y.len us_Is rfl).yd) (Ey rfl ((Y.neq rfl rfl).yd) (j4 (fun q18 => ?_) (fun q18 => ?_)))))))))))))))))
 ·refine Em rfl (Es rfl (Es rfl (Es rfl (Es rfl (Es rfl (Es rfl (Ey rfl ((v6 rfl rfl).yd) (Eu (j9 rfl (Ew Z1 (Ei rfl ?_)))))))))))
  exact Eu (E.ret (j5 (Fb rfl rfl (by grind [R3, F3, d1, d2, t1, t2]))))
 ·refine Em rfl (Ey rfl (o1 (cs := [_, _]) ty_Query rfl (Has.pt (mS m0)) rfl) (Ey rfl (o1 (cs := [_, _]) ty_Binding rfl (Has.pt m0) rfl) (Est rfl (N.call (a2X fc) rfl rfl rfl dc rfl (fun w Lp hA => ⟨hA.ro w4, hA.ro s5, hA.ro y4, hA.ro t6⟩)) (fun k22 _ => ?_))))
  obtain ⟨a22, m22, c22⟩ := k22
  refine f0 m0 fun e22 l22 => ?_
  subst e22
  refine Em rfl (Est rfl (i8 X0 rfl rfl rfl dc (fun w Lp hA => ⟨hA.ow m0, hA.ro hhead⟩)) (fun _ _ => (u5 (fun q24 => ?_) (fun q24 => ?_))))
  ·refine Ey rfl ((Y.not (b := true) rfl).yd) (Ey rfl ((w7 rfl rfl).yd) (Eu (j8 rfl (f5 (Et (Eq_ (Ew Z1 (Ei rfl (Eu (E.block (E.loop (κ := Nat) (fun g => g ≤ f4.length ∧ f4.any (fun a => !D0 c7 (F3 a (d8, d4))) = (f4.drop g).any (fun a => !D0 c7 (F3 a (d8, d4)))) (fun g => [(1, .slice a_facts c7.length c_facts), (4, .pointer (some ⟨b4, 0, none⟩)), (7, .pointer (some ⟨b7, 0, none⟩)), (9, .int .i64 (g : Int))]) (fun g => [ow eIs [.slice a22 (i7.map (s4 (d8, d4))).length c22] (i7.map (s4 (d8, d4))), pt b7 36 [.slice u9 d8.length u7, .slice n8 d4.length n0], pt b4 27 [.slice o3 i7.length o2, .slice m7 f4.length l7]]) (fun g => f4.length - g) 0 ⟨Nat.zero_le _, by simp⟩ ⟨rfl, rfl, rfl, rfl, trivial⟩ (.refl _) (fun g pg => ?_))))))))))))
   obtain ⟨pk, pa⟩ := pg
   refine Eq_ (Ew Z5 (Em rfl (Ey rfl ((f9 fo_Query_1 ty_Atoms dc rfl).yd) (Ey rfl (f6 ty_Atoms rfl (Hz (mS (mS m0)) 1 rfl) rfl) (Ey rfl ((Y.len us_Atoms rfl).yd) (Ey rfl ((Y.lss rfl rfl).yd) (j4 (fun q31 => ?_) (fun q31 => ?_))))))))
   ·refine Eu (j9 rfl (f5 (Et (Eq_ (E.block (Ew Z9 (Ey rfl ((f9 fo_Query_1 ty_Atoms dc rfl).yd) (Ey rfl (f6 ty_Atoms rfl (Hz (mS (mS m0)) 1 rfl) rfl) (Em rfl ?_)))))))))
    obtain ⟨eb37, eo37, ec37, ea37, er37, el37, eh37⟩ := s5.elem g om
    obtain ⟨xa37_0, xc37_0, rfl, ei37_0, xh37_0⟩ := M8 er37
    have := xh37_0.slen.2
    refine Ey rfl ((o6 us_Atoms ty_Atom rfl ea37 rfl g rfl om).yd) (Ey rfl ((f9 fo_Atom_0 d9 dc rfl).yd) (Ey rfl (f6 d9 rfl ((eh37 _).sub (cs' := [_]) 0 rfl) rfl) (Ey rfl ((E3 (pvs := [_]) (cs := [_, _]) ty_Fact a1K rfl rfl).yd) (Est rfl (N.alloc ty_Fact dc) (fun b10 _ => (Est rfl (Ns [_, _] ty_Fact rfl) (fun _ _ => (Eu (Eq_ (Ew Z1 (Ei rfl (Eu (E.block (l3 (A := []) (Own.nil (E := Enc.int) (e := tI) (a := none)) rfl (i9 (congrArg (ow eIs [_]) (show [] = (f4[g].2.take 0).map (s4 (d8, d4)) from by first | rfl | (simp; done) | grind [R3, F3, d1, d2, t1, t2])) (E.loop (κ := Nat × Option Addr × Nat × Nat) (fun h => h.1 ≤ f4[g].2.length ∧ True) (fun h => [(1, .slice a_facts c7.length c_facts), (4, .pointer (some ⟨b4, 0, none⟩)), (7, .pointer (some ⟨b7, 0, none⟩)), (9, .int .i64 (g : Int)), (10, .pointer (some ⟨b10, 0, none⟩)), (11, .int .i64 (↑h.1 : Int))]) (fun h => [ow eIs [.slice h.2.1 h.2.2.1 h.2.2.2] ((f4[g].2.take h.1).map (s4 (d8, d4))), pt b10 44 [.int .i64 f4[g].1, .slice h.2.1 h.2.2.1 h.2.2.2], ow eIs [.slice a22 (i7.map (s4 (d8, d4))).length c22] (i7.map (s4 (d8, d4))), pt b7 36 [.slice u9 d8.length u7, .slice n8 d4.length n0], pt b4 27 [.slice o3 i7.length o2, .slice m7 f4.length l7]]) (fun h => f4[g].2.length - h.1) (0, none, 0, 0) ⟨Nat.zero_le _, by simp⟩ ⟨rfl, rfl, rfl, rfl, rfl, rfl, trivial⟩ (.refl _) (fun h ph => ?_)))))))))))))))))
    obtain ⟨h, aA1_0, mA1_0, cA1_0⟩ := h
    try dsimp only at ph
    try dsimp only
    obtain ⟨pk, pa⟩ := ph
    have hq1 := hq f4[g] (List.getElem_mem om)
    have jv1 := jv f4[g] (List.getElem_mem om)
    refine f0 m0 fun eaA1_0 laA1_0 => ?_
    subst eaA1_0
    refine Eq_ (Ew Z9 (Em rfl (Ey rfl ((f9 fo_Query_1 ty_Atoms dc rfl).yd) (Ey rfl (f6 ty_Atoms rfl (Hz (mS (mS (mS (mS m0)))) 1 rfl) rfl) (Em rfl (Ey rfl ((o6 us_Atoms ty_Atom rfl ea37 rfl g rfl om).yd) (Ey rfl ((f9 fo_Atom_1 ty_Is dc rfl).yd) (Ey rfl (f6 ty_Is rfl ((eh37 _).sub (cs' := [_]) 1 rfl) rfl) (Ey rfl ((Y.len us_Is rfl).yd) (Ey rfl ((Y.lss rfl rfl).yd) (j4 (fun q49 => ?_) (fun q49 => ?_))))))))))))
    ·refine Eu (j9 rfl (f5 (Et (Eq_ (E.block (D.region (fun j => !(Nat.beq j 14) && !(Nat.beq j 16)) mixed (Dyp 0 rfl (f9 fo_Fact_1 ty_Is dc rfl) (Dy 1 rfl (f6 ty_Is rfl (Hz (mS m0) 1 rfl) rfl) (Dy 2 rfl (o1 (cs := [_, _]) ty_Binding rfl (Has.pt (mS (mS (mS m0)))) rfl) (Dyp 3 rfl (f9 fo_Query_1 ty_Atoms dc rfl) (Dy 4 rfl (f6 ty_Atoms rfl (Hz (mS (mS (mS (mS m0)))) 1 rfl) rfl) (Dyp 5 rfl (i0 rfl) (Dyp 6 rfl (o6 us_Atoms ty_Atom rfl ea37 rfl g rfl om) (Dyp 7 rfl (f9 fo_Atom_1 ty_Is dc rfl) (Dy 8 rfl (f6 ty_Is rfl ((eh37 _).sub (cs' := [_]) 1 rfl) rfl) (Dyp 9 rfl (i0 rfl) ?_))))))))))))))))
     obtain ⟨eb62, eo62, ea62, ei62, eh62⟩ := xh37_0.elemI h om
     refine Dyp 10 rfl (o6 us_Is d9 rfl ea62 rfl h rfl om) (Dy 11 rfl (f6 d9 rfl (eh62 _) rfl) (t7 12 rfl rfl kr (fun _ => rfl) (i8 M9 rfl rfl rfl dc (fun w Lp hA => ⟨hA.ro y4, hA.ro t6⟩)) (fun _ _ => (t7 13 rfl rfl kr (fun _ => rfl) (Nb [_] [_] us_Is d9 rfl rfl) (fun b65 _ => (d7 (t7 14 rfl rfl kr (fun h => by cases h) (u4 (E := Enc.int) (ex := s4 (d8, d4) f4[g].2[h]) us_Is d9 rfl rfl rfl (Own.int i6) rfl bn bn dc) (fun p66 _ => (Dyp 15 rfl (f9 fo_Fact_1 ty_Is dc rfl) (d7 (t7 16 rfl rfl kr (fun h => by cases h) (Ns [_, _] ty_Is rfl) (fun _ _ => (o0 kr (n9 (Et (Ez Z3 (Em rfl (Ey rfl ((Y.add rfl rfl om om).yd) (Ei rfl (Eu (d7 (i9 (congrArg (ow eIs [_]) (show ((f4[g].2.take h).map (s4 (d8, d4))) ++ [s4 (d8, d4) f4[g].2[h]] = (f4[g].2.take (h + 1)).map (s4 (d8, d4)) from by grind [R3, F3, d1, d2, t1, t2])) (o4 ?_)))))))))))))))))))))))
     refine o4 (o4 (o4 (o4 ?_)))
     exact Ea (h + 1, p66.1, (((f4[g].2.take h).map (s4 (d8, d4))).length + 1), p66.2) ⟨oz, trivial⟩
    ·refine Eu (j8 rfl (E.exit (l2 (l2 (w8 (Et (Ew Z4 (Em rfl (Ey rfl (o1 (cs := [_, _]) ty_Fact rfl (Has.pt (mS m0)) rfl) (Est rfl (i8 a0D rfl rfl rfl dc (fun w Lp hA => ⟨hA.ro hfacts, ei37_0, hA.ow m0⟩)) (fun _ _ => (u5 (fun q70 => ?_) (fun q70 => ?_)))))))))))))
     ·refine Ey rfl ((Y.not (b := true) rfl).yd) (Eu (j8 rfl (f5 (n9 (Et (Ez Z3 (Em rfl (Ey rfl ((Y.add rfl rfl om om).yd) (Ei rfl (Eu (Ent.drop (Ent.drop (g9 (g9 (g9 ?_)))))))))))))))
      exact t8 br (g + 1) rs (.refl _) ⟨by omega, by grind [F3, d1, d2, t1, t2]⟩ om
     ·refine Ey rfl ((Y.not (b := false) rfl).yd) (Eu (j9 rfl (Ew Z1 (Ei rfl ?_))))
      exact Eu (E.ret (w9 (j5 (j5 (w9 (j5 (Fb rfl rfl (by grind [R3, F3, d1, d2, t1, t2]))))))))
   ·refine Eu (j8 rfl (E.exit (l2 (l2 (w8 (Et (Ew Z1 (Ei rfl ?_))))))))
    exact Eu (E.ret (Fb rfl rfl (by grind [R3, F3, d1, d2, t1, t2])))
  ·refine Ey rfl ((Y.not (b := false) rfl).yd) (Ey rfl ((w7 rfl rfl).yd) (Eu (j9 rfl (Ew Z1 (Ei rfl ?_)))))
   exact Eu (E.ret (j5 (Fb rfl rfl (by grind [R3, F3, d1, d2, t1, t2]))))
end Go.Proofs.YtfnbilpemdgkkaaGreatDoor
