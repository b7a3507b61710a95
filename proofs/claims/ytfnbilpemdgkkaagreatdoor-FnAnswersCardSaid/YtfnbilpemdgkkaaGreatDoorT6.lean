import Derived.Test.YtfnbilpemdgkkaaGreatDoorT5
namespace Go.Proofs.YtfnbilpemdgkkaaGreatDoor
open Go.RowKit
set_option linter.all false
set_option maxHeartbeats 2000000
attribute [local irreducible] Nop Yd Yp Ent Has Tr FnP FnP2 Src
variable {t term : Int} {f4 : List (Int × List Int)} {s d8 d4 i7 : List Int} {m_s c_s y5 u7 r7 n0 s9 o2 r6 l7 : Nat} {a_s u9 n8 o3 m7 : Option Addr}
theorem V1 (hz : s.length ≤ 1048576) : Tr Tryz.prog 134 [.slice a_s m_s c_s] (fun w L => Ro w L eIs [.slice a_s m_s c_s] s) [] (κ := Option Addr × Nat × Nat) (fun k => True) (fun k => .slice k.1 k.2.1 k.2.2) (fun k => [ow eIs [.slice k.1 k.2.1 k.2.2] s]) := by
 refine Tr.intro Tryz.func134 rfl (n := 8) rfl (by decide +kernel) bl (fr := [(0, .slice a_s m_s c_s)]) rfl fun w L hR => ?_
 have hs := hR
 obtain ⟨rfl, ls⟩ := hs.slen
 refine Ew Z1 (Ei rfl (Eu (Eq_ (Ew Z2 (Em rfl (Ey rfl ((a9W us_Is rfl rfl).yd) (u5 (fun q4 => ?_) (fun q4 => ?_))))))))
 ·refine Eu (j9 rfl (Ew Z1 (Ei rfl (Eu (E.ret (j5 (l3 (A := []) (Own.nil (E := Enc.int) (e := tI) (a := none)) rfl (i9 (congrArg (ow eIs [_]) (show _ = s by (cases a_s with | none => exact hs.none_nil.symm | some x => cases q4))) ?_))))))))
  exact Fg rfl rfl (none, 0, 0) rfl rfl
 ·refine Eu (j8 rfl (f5 (Et (Ew Z4 (Est rfl (Nb [] [] us_Is d9 rfl rfl) (fun b5 _ => (Ent.drop (Em rfl (Est rfl (E0 (E := Enc.int) Plain.int us_Is d9 rfl rfl rfl hs bn bn dc) (fun p7 _ => (Ei rfl ?_)))))))))))
  exact Eu (E.ret (Fg rfl rfl (_, _, _) rfl rfl))
theorem a3G {v : Int} : Tr Tryz.prog 135 [.slice a_s m_s c_s, .int .i64 v] (fun w L => Ro w L eIs [.slice a_s m_s c_s] s) [] (κ := Unit) (fun k => True) (fun k => .int .i64 (D5 (fun x => decide (x = v)) s)) (fun k => []) := by
 refine Tr.intro Tryz.func135 rfl (n := 19) rfl (by decide +kernel) bl (fr := [(0, .slice a_s m_s c_s), (1, .int .i64 v)]) rfl fun w L hR => ?_
 have hs := hR
 obtain ⟨rfl, ls⟩ := hs.slen
 refine Ew Z1 (Ei rfl (Eu (Eq_ (Ew Z3 (Em rfl (Ey rfl ((Y.len us_Is rfl).yd) (Em rfl (Eu (E.block (E.loop (κ := Nat) (fun g => g ≤ s.length ∧ ∀ x ∈ s.take g, decide (x = v) = false) (fun g => [(0, .slice a_s s.length c_s), (1, .int .i64 v), (7, .int .i64 (↑s.length : Int)), (8, .int .i64 (g : Int))]) (fun g => []) (fun g => s.length - g) 0 ⟨by omega, by simp⟩ ⟨rfl, rfl, rfl, rfl, trivial⟩ (.refl _) (fun g pg => ?_)))))))))))
 obtain ⟨pk, pa⟩ := pg
 refine Ew Z1 (Ey rfl ((Y.lss rfl rfl).yd) (j4 (fun q9 => ?_) (fun q9 => ?_)))
 ·refine Eu (Eq_ (j9 rfl (f5 (Et (Eq_ (E.block (Ew Z2 (Em rfl (Ei rfl (Ev Z6 (Em rfl (Em rfl (Em rfl ?_)))))))))))))
  obtain ⟨eb14, eo14, ea14, ei14, eh14⟩ := hs.elemI g om
  refine Ey rfl ((o6 us_Is d9 rfl ea14 rfl g rfl om).yd) (Ey rfl (f6 d9 rfl (eh14 _) rfl) (Ey rfl ((Y.eql rfl rfl).yd) (j4 (fun q16 => ?_) (fun q16 => ?_))))
  ·refine Eu (j9 rfl (Ew Z2 (Em rfl (Ei rfl ?_))))
   exact Eu (E.ret (w9 (j5 (j5 (w9 (j5 (Fg rfl rfl () (congrArg (Value.int .i64) (by exact Q0 (p := fun x => decide (x = v)) om pa (decide_eq_true om))) rfl)))))))
  ·refine Eu (j8 rfl (f5 (n9 (Et (Ez Z2 (Ey rfl ((Y.add rfl rfl om om).yd) (Em rfl ?_)))))))
   exact Eu (t8 br (g + 1) rs (.refl _) ⟨by omega, P9 (p := fun x => decide (x = v)) om pa (decide_eq_false om)⟩ om)
 ·refine Eu (Eq_ (j8 rfl (E.exit (l2 (l2 (w8 (Et (Ew Z1 (Ei rfl ?_)))))))))
  exact Eu (E.ret (Fg rfl rfl () (congrArg (Value.int .i64) (by exact O4 om pa)) rfl))
theorem U2 : Tr Tryz.prog 78 [.int .i64 t] (fun w L => True) [] (κ := Unit) (fun k => True) (fun k => .bool (inR t 10 17)) (fun k => []) := by
 refine Tr.intro Tryz.func78 rfl (n := 5) rfl (by decide +kernel) bl (fr := [(0, .int .i64 t)]) rfl fun w L hR => (Ew Z1 (Ei rfl (Ev Z3 (Em rfl (Est rfl (i8 K0 rfl rfl rfl dc tv) (fun _ _ => (Ei rfl ?_)))))))
 exact Eu (E.ret (Fg rfl rfl () rfl rfl))
theorem V0 : Tr Tryz.prog 75 [.int .i64 t] (fun w L => True) [] (κ := Unit) (fun k => True) (fun k => .bool (inR t 10 17)) (fun k => []) := by
 refine Tr.intro Tryz.func75 rfl (n := 5) rfl (by decide +kernel) bl (fr := [(0, .int .i64 t)]) rfl fun w L hR => (Ew Z1 (Ei rfl (Ev Z3 (Em rfl (Est rfl (i8 L9 rfl rfl rfl dc tv) (fun _ _ => (Ei rfl ?_)))))))
 exact Eu (E.ret (Fg rfl rfl () rfl rfl))
theorem U5 : Tr Tryz.prog 76 [.agg #[.slice u9 y5 u7, .slice n8 r7 n0], .int .i64 t] (fun w L => Ro w L eIs [.slice u9 y5 u7] d8 ∧ Ro w L eIs [.slice n8 r7 n0] d4) [] (κ := Unit) (fun k => True) (fun k => .int .i64 (D5 (fun x => decide (x = t)) (d8.take (min d8.length d4.length)))) (fun k => []) := by
 refine Tr.intro Tryz.func76 rfl (n := 17) rfl (by decide +kernel) bl (fr := [(0, .agg #[.slice u9 y5 u7, .slice n8 r7 n0]), (1, .int .i64 t)]) rfl fun w L hR => ?_
 obtain ⟨y4, t6⟩ := hR
 obtain ⟨rfl, N9⟩ := y4.slen
 obtain ⟨rfl, H0⟩ := t6.slen
 refine Ew Z2 (Est rfl (N.box (cs := [_, _]) rfl dc rfl) (fun b2 _ => (Ei rfl (Ev Z13 (Ey rfl ((f9 fo_Binding_0 ty_Is dc rfl).yd) (Ey rfl (f6 ty_Is rfl (Hz m0 0 rfl) rfl) (Ey rfl ((f9 fo_Binding_0 ty_Is dc rfl).yd) (Ey rfl (f6 ty_Is rfl (Hz m0 0 rfl) rfl) (Ey rfl ((Y.len us_Is rfl).yd) (Ey rfl ((f9 fo_Binding_1 ty_Is dc rfl).yd) (Ey rfl (f6 ty_Is rfl (Hz m0 1 rfl) rfl) (Ey rfl ((Y.len us_Is rfl).yd) (Ey rfl ((b0U (a := d8.length) (b := d4.length) rfl rfl).yd) ?_)))))))))))))
 have rs14 := y4.upto (min d8.length d4.length) om
 have rl14 := rs14.slen.1
 have rc14 := y4.cap
 refine Ey rfl ((a5z (h := min d8.length d4.length) us_Is d9 rfl rfl om).yd) (Em rfl (Est rfl (i8 a3G rfl rfl rfl dc (fun w Lp hA => hA.ro rs14)) (fun _ _ => (Ei rfl ?_))))
 exact Eu (E.ret (Fg rfl rfl () rfl rfl))
theorem N0 : Tr Tryz.prog 29 [.agg #[.slice u9 y5 u7, .slice n8 r7 n0], .int .i64 term] (fun w L => Ro w L eIs [.slice u9 y5 u7] d8 ∧ Ro w L eIs [.slice n8 r7 n0] d4) [] (κ := Unit) (fun k => True) (fun k => .int .i64 (s4 (d8, d4) term)) (fun k => []) := by
 refine Tr.intro Tryz.func29 rfl (n := 20) rfl (by decide +kernel) bl (fr := [(0, .agg #[.slice u9 y5 u7, .slice n8 r7 n0]), (1, .int .i64 term)]) rfl fun w L hR => ?_
 obtain ⟨y4, t6⟩ := hR
 obtain ⟨rfl, N9⟩ := y4.slen
 obtain ⟨rfl, H0⟩ := t6.slen
 refine Ew Z2 (Est rfl (N.box (cs := [_, _]) rfl dc rfl) (fun b2 _ => (Ei rfl (Eu (Eq_ (Ew Z3 (Em rfl (Est rfl (i8 V0 rfl rfl rfl dc tv) (fun _ _ => (u5 (fun q7 => ?_) (fun q7 => ?_)))))))))))
 ·refine Ey rfl ((Y.not (b := true) rfl).yd) (Eu (j8 rfl (f5 (Et (Ew Z4 (Ey rfl (o1 (cs := [_, _]) ty_Binding rfl (Has.pt m0) rfl) (Em rfl (Est rfl (i8 U5 rfl rfl rfl dc (fun w Lp hA => ⟨hA.ro y4, hA.ro t6⟩)) (fun _ _ => (Ei rfl (Eu (Eq_ (Ew Z2 (Em rfl (Ey rfl ((Y.lss rfl rfl).yd) (j4 (fun q14 => ?_) (fun q14 => ?_)))))))))))))))))
  ·refine Eu (j9 rfl (Ew Z1 (Ei rfl ?_)))
   exact Eu (E.ret (j5 (Fg rfl rfl () (congrArg (Value.int .i64) (by exact a4O q7 q14)) rfl)))
  ·obtain ⟨z1, z2⟩ := a9O q14
   rw [List.length_take] at z2
   refine Eu (j8 rfl (f5 (Et (Ew Z6 (Ey rfl ((f9 fo_Binding_1 ty_Is dc rfl).yd) (Ey rfl (f6 ty_Is rfl (Hz m0 1 rfl) rfl) (Em rfl ?_)))))))
   obtain ⟨eb18, eo18, ea18, ei18, eh18⟩ := t6.elemI ((D5 (fun x => decide (x = term)) (d8.take (min d8.length d4.length))).toNat) om
   refine Ey rfl ((o6 us_Is d9 rfl ea18 rfl ((D5 (fun x => decide (x = term)) (d8.take (min d8.length d4.length))).toNat) om om).yd) (Ey rfl (f6 d9 rfl (eh18 _) rfl) (Ei rfl ?_))
   exact Eu (E.ret (Fg rfl rfl () (congrArg (Value.int .i64) (by exact a7V (b := (d8, d4)) q7 q14 (show (D5 (fun x => decide (x = term)) (d8.take (min d8.length d4.length))).toNat < d4.length by omega))) rfl))
 ·refine Ey rfl ((Y.not (b := false) rfl).yd) (Eu (j9 rfl (Ew Z2 (Em rfl (Ei rfl ?_)))))
  exact Eu (E.ret (j5 (Fg rfl rfl () (congrArg (Value.int .i64) (by exact L8 q7)) rfl)))
theorem M9 : Tr Tryz.prog 30 [.agg #[.slice u9 y5 u7, .slice n8 r7 n0], .int .i64 term] (fun w L => Ro w L eIs [.slice u9 y5 u7] d8 ∧ Ro w L eIs [.slice n8 r7 n0] d4) [] (κ := Unit) (fun k => True) (fun k => .int .i64 (s4 (d8, d4) term)) (fun k => []) := by
 refine Tr.intro Tryz.func30 rfl (n := 36) rfl (by decide +kernel) bl (fr := [(0, .agg #[.slice u9 y5 u7, .slice n8 r7 n0]), (1, .int .i64 term)]) rfl fun w L hR => ?_
 obtain ⟨y4, t6⟩ := hR
 obtain ⟨rfl, N9⟩ := y4.slen
 obtain ⟨rfl, H0⟩ := t6.slen
 refine Ew Z2 (Est rfl (N.box (cs := [_, _]) rfl dc rfl) (fun b2 _ => (Ei rfl (Eu (Eq_ (Ew Z3 (Em rfl (Est rfl (i8 U2 rfl rfl rfl dc tv) (fun _ _ => (u5 (fun q7 => ?_) (fun q7 => ?_)))))))))))
 ·refine Ey rfl ((Y.not (b := true) rfl).yd) (Eu (j8 rfl (f5 (Et (Eq_ (Ew Z1 (Ei rfl (Eu (E.block (E.loop (κ := Nat) (fun g => (g ≤ d8.length ∧ g ≤ d4.length) ∧ ∀ x ∈ d8.take g, decide (x = term) = false) (fun g => [(1, .int .i64 term), (2, .pointer (some ⟨b2, 0, none⟩)), (5, .int .i64 (g : Int))]) (fun g => [pt b2 36 [.slice u9 d8.length u7, .slice n8 d4.length n0]]) (fun g => d8.length - g) 0 ⟨by omega, by simp⟩ ⟨rfl, rfl, rfl, trivial⟩ (.refl _) (fun g pg => ?_)))))))))))
  obtain ⟨pk, pa⟩ := pg
  refine Eq_ (Ew Z12 (Em rfl (Ey rfl ((f9 fo_Binding_0 ty_Is dc rfl).yd) (Ey rfl (f6 ty_Is rfl (Hz m0 0 rfl) rfl) (Ey rfl ((Y.len us_Is rfl).yd) (Ey rfl ((Y.lss rfl rfl).yd) (j4 (fun q14 => ?_) (fun q14 => ?_))))))))
  ·refine Em rfl (Em rfl (Ey rfl ((f9 fo_Binding_1 ty_Is dc rfl).yd) (Ey rfl (f6 ty_Is rfl (Hz m0 1 rfl) rfl) (Ey rfl ((Y.len us_Is rfl).yd) (Ey rfl ((Y.lss rfl rfl).yd) (j4 (fun q20 => ?_) (fun q20 => ?_)))))))
   ·refine Ey rfl ((v6 rfl rfl).yd) (Eu (j9 rfl (f5 (Et (Eq_ (E.block (Ew Z7 (Ey rfl ((f9 fo_Binding_0 ty_Is dc rfl).yd) (Ey rfl (f6 ty_Is rfl (Hz m0 0 rfl) rfl) (Em rfl ?_))))))))))
    obtain ⟨eb27, eo27, ea27, ei27, eh27⟩ := y4.elemI g om
    refine Ey rfl ((o6 us_Is d9 rfl ea27 rfl g rfl om).yd) (Ey rfl (f6 d9 rfl (eh27 _) rfl) (Em rfl (Ey rfl ((Y.eql rfl rfl).yd) (j4 (fun q30 => ?_) (fun q30 => ?_)))))
    ·refine Eu (j9 rfl (Ew Z6 (Ey rfl ((f9 fo_Binding_1 ty_Is dc rfl).yd) (Ey rfl (f6 ty_Is rfl (Hz m0 1 rfl) rfl) (Em rfl ?_)))))
     obtain ⟨eb34, eo34, ea34, ei34, eh34⟩ := t6.elemI g om
     refine Ey rfl ((o6 us_Is d9 rfl ea34 rfl g rfl om).yd) (Ey rfl (f6 d9 rfl (eh34 _) rfl) (Ei rfl ?_))
     exact Eu (E.ret (w9 (j5 (j5 (w9 (j5 (Fg rfl rfl () (congrArg (Value.int .i64) (by exact Y4 (b := (d8, d4)) q7 (show g < d8.length by omega) (show g < d4.length by omega) om pa)) rfl)))))))
    ·refine Eu (j8 rfl (f5 (n9 (Et (Ez Z3 (Em rfl (Ey rfl ((Y.add rfl rfl om om).yd) (Ei rfl ?_))))))))
     exact Eu (t8 br (g + 1) rs (.refl _) ⟨by omega, P9 (p := fun x => decide (x = term)) (show g < d8.length by omega) pa (decide_eq_false q30)⟩ om)
   ·refine Ey rfl ((v6 rfl rfl).yd) (Eu (j8 rfl (E.exit (l2 (l2 (w8 (Et (Ew Z1 (Ei rfl ?_)))))))))
    exact Eu (E.ret (Fg rfl rfl () (congrArg (Value.int .i64) (by exact a3C (b := (d8, d4)) q7 (g := g) (show ¬ (g < d8.length ∧ g < d4.length) by omega) pa)) rfl))
  ·refine Em rfl (Es rfl (Es rfl (Es rfl (Es rfl (Es rfl (Ey rfl ((w7 rfl rfl).yd) (Eu (j8 rfl (E.exit (l2 (l2 (w8 (Et (Ew Z1 (Ei rfl ?_)))))))))))))))
   exact Eu (E.ret (Fg rfl rfl () (congrArg (Value.int .i64) (by exact a3C (b := (d8, d4)) q7 (g := g) (show ¬ (g < d8.length ∧ g < d4.length) by omega) pa)) rfl))
 ·refine Ey rfl ((Y.not (b := false) rfl).yd) (Eu (j9 rfl (Ew Z2 (Em rfl (Ei rfl ?_)))))
  exact Eu (E.ret (j5 (Fg rfl rfl () (congrArg (Value.int .i64) (by exact L8 q7)) rfl)))
theorem a2X (hz : i7.length ≤ 1048576) : Tr Tryz.prog 66 [.agg #[.slice o3 s9 o2, .slice m7 r6 l7], .agg #[.slice u9 y5 u7, .slice n8 r7 n0]] (fun w L => Ro w L eIs [.slice o3 s9 o2] i7 ∧ Ro w L C2 [.slice m7 r6 l7] f4 ∧ Ro w L eIs [.slice u9 y5 u7] d8 ∧ Ro w L eIs [.slice n8 r7 n0] d4) [] (κ := Option Addr × Nat × Nat) (fun k => True) (fun k => .slice k.1 k.2.1 k.2.2) (fun k => [ow eIs [.slice k.1 k.2.1 k.2.2] (i7.map (s4 (d8, d4)))]) := by
 refine Tr.intro Tryz.func66 rfl (n := 26) rfl (by decide +kernel) bl (fr := [(0, .agg #[.slice o3 s9 o2, .slice m7 r6 l7]), (1, .agg #[.slice u9 y5 u7, .slice n8 r7 n0])]) rfl fun w L hR => ?_
 obtain ⟨w4, s5, y4, t6⟩ := hR
 obtain ⟨rfl, I4⟩ := w4.slen
 obtain ⟨rfl, G5⟩ := s5.slen
 obtain ⟨rfl, N9⟩ := y4.slen
 obtain ⟨rfl, H0⟩ := t6.slen
 have jv := a3M (b := (d8, d4)) (l := i7) w4.i64 y4.i64 t6.i64
 refine Ew Z3 (Est rfl (N.box (cs := [_, _]) rfl dc rfl) (fun b2 _ => (Est rfl (N.box (cs := [_, _]) rfl dc rfl) (fun b3 _ => (Ei rfl (Ev Z2 (Est rfl (Nb [] [] us_Is d9 rfl rfl) (fun b7 _ => (Ent.drop (Ei rfl (Eu (Eq_ (Ew Z1 (Ei rfl (Eu (E.block (l3 (A := []) (Own.nil (E := Enc.int) (e := tI) (a := (some ⟨b7, 0, none⟩))) rfl (i9 (congrArg (ow eIs [_]) (show [] = (i7.take 0).map (s4 (d8, d4)) from by first | rfl | (simp; done) | grind [d1, d2, t1, t2])) (E.loop (κ := Nat × Option Addr × Nat × Nat) (fun g => g.1 ≤ i7.length ∧ True) (fun g => [(2, .pointer (some ⟨b2, 0, none⟩)), (3, .pointer (some ⟨b3, 0, none⟩)), (5, .slice g.2.1 g.2.2.1 g.2.2.2), (6, .int .i64 (↑g.1 : Int))]) (fun g => [ow eIs [.slice g.2.1 g.2.2.1 g.2.2.2] ((i7.take g.1).map (s4 (d8, d4))), pt b3 36 [.slice u9 d8.length u7, .slice n8 d4.length n0], pt b2 27 [.slice o3 i7.length o2, .slice m7 f4.length l7]]) (fun g => i7.length - g.1) (0, (some ⟨b7, 0, none⟩), 0, 0) ⟨Nat.zero_le _, by simp⟩ ⟨rfl, rfl, rfl, rfl, trivial⟩ (.refl _) (fun g pg => ?_))))))))))))))))))))
 obtain ⟨g, aA0_0, mA0_0, cA0_0⟩ := g
 try dsimp only at pg
 try dsimp only
 obtain ⟨pk, pa⟩ := pg
 refine f0 m0 fun eaA0_0 laA0_0 => ?_
 subst eaA0_0
 refine Eq_ (Ew Z5 (Em rfl (Ey rfl ((f9 fo_Query_0 ty_Is dc rfl).yd) (Ey rfl (f6 ty_Is rfl (Hz (mS (mS m0)) 0 rfl) rfl) (Ey rfl ((Y.len us_Is rfl).yd) (Ey rfl ((Y.lss rfl rfl).yd) (j4 (fun q12 => ?_) (fun q12 => ?_))))))))
 ·refine Eu (j9 rfl (f5 (Et (Eq_ (E.block (D.region (fun j => !(Nat.beq j 9)) mixed (Dyp 0 rfl (i0 rfl) (Dy 1 rfl (o1 (cs := [_, _]) ty_Binding rfl (Has.pt (mS m0)) rfl) (Dyp 2 rfl (f9 fo_Query_0 ty_Is dc rfl) (Dy 3 rfl (f6 ty_Is rfl (Hz (mS (mS m0)) 0 rfl) rfl) (Dyp 4 rfl (i0 rfl) ?_)))))))))))
  obtain ⟨eb20, eo20, ea20, ei20, eh20⟩ := w4.elemI g om
  refine Dyp 5 rfl (o6 us_Is d9 rfl ea20 rfl g rfl om) (Dy 6 rfl (f6 d9 rfl (eh20 _) rfl) (t7 7 rfl rfl kr (fun _ => rfl) (i8 M9 rfl rfl rfl dc (fun w Lp hA => ⟨hA.ro y4, hA.ro t6⟩)) (fun _ _ => (t7 8 rfl rfl kr (fun _ => rfl) (Nb [_] [_] us_Is d9 rfl rfl) (fun b23 _ => (d7 (t7 9 rfl rfl kr (fun h => by cases h) (u4 (E := Enc.int) (ex := s4 (d8, d4) i7[g]) us_Is d9 rfl rfl rfl (Own.int i6) rfl bn bn dc) (fun p24 _ => (Dyp 10 rfl (D8 rfl) (o0 kr (n9 (Et (Ez Z3 (Em rfl (Ey rfl ((Y.add rfl rfl om om).yd) (Ei rfl (Eu (i9 (congrArg (ow eIs [_]) (show ((i7.take g).map (s4 (d8, d4))) ++ [s4 (d8, d4) i7[g]] = (i7.take (g + 1)).map (s4 (d8, d4)) from by grind [d1, d2, t1, t2])) (g9 (g9 (g9 ?_)))))))))))))))))))))
  exact Ea (g + 1, p24.1, (((i7.take g).map (s4 (d8, d4))).length + 1), p24.2) ⟨oz, trivial⟩
 ·refine Eu (j8 rfl (E.exit (l2 (l2 (w8 (Et (Ew Z2 (Em rfl (Ei rfl (Eu (E.ret (i9 (congrArg (ow eIs [_]) (show _ = i7.map (s4 (d8, d4)) by grind [d1, d2, t1, t2])) ?_))))))))))))
  exact Fg rfl rfl (_, _, _) rfl rfl
theorem a0y (hz : i7.length ≤ 1048576) : Tr Tryz.prog 65 [.agg #[.slice o3 s9 o2, .slice m7 r6 l7], .agg #[.slice u9 y5 u7, .slice n8 r7 n0]] (fun w L => Ro w L eIs [.slice o3 s9 o2] i7 ∧ Ro w L C2 [.slice m7 r6 l7] f4 ∧ Ro w L eIs [.slice u9 y5 u7] d8 ∧ Ro w L eIs [.slice n8 r7 n0] d4) [] (κ := Option Addr × Nat × Nat) (fun k => True) (fun k => .slice k.1 k.2.1 k.2.2) (fun k => [ow eIs [.slice k.1 k.2.1 k.2.2] (i7.map (s4 (d8, d4)))]) := by
 refine Tr.intro Tryz.func65 rfl (n := 24) rfl (by decide +kernel) bl (fr := [(0, .agg #[.slice o3 s9 o2, .slice m7 r6 l7]), (1, .agg #[.slice u9 y5 u7, .slice n8 r7 n0])]) rfl fun w L hR => ?_
 obtain ⟨w4, s5, y4, t6⟩ := hR
 obtain ⟨rfl, I4⟩ := w4.slen
 obtain ⟨rfl, G5⟩ := s5.slen
 obtain ⟨rfl, N9⟩ := y4.slen
 obtain ⟨rfl, H0⟩ := t6.slen
 have jv := a3M (b := (d8, d4)) (l := i7) w4.i64 y4.i64 t6.i64
 refine Ew Z3 (Est rfl (N.box (cs := [_, _]) rfl dc rfl) (fun b2 _ => (Est rfl (N.box (cs := [_, _]) rfl dc rfl) (fun b3 _ => (Ei rfl (Ev Z2 (Est rfl (Nb [] [] us_Is d9 rfl rfl) (fun b8 _ => (Ent.drop (Ei rfl (Eu (Eq_ (Ew Z4 (Ey rfl ((f9 fo_Query_0 ty_Is dc rfl).yd) (Ey rfl (f6 ty_Is rfl (Hz (mS m0) 0 rfl) rfl) (Ey rfl ((Y.len us_Is rfl).yd) (Em rfl (Eu (E.block (l3 (A := []) (Own.nil (E := Enc.int) (e := tI) (a := (some ⟨b8, 0, none⟩))) rfl (i9 (congrArg (ow eIs [_]) (show [] = (i7.take 0).map (s4 (d8, d4)) from by first | rfl | (simp; done) | grind [d1, d2, t1, t2])) (E.loop (κ := Nat × Option Addr × Nat × Nat) (fun g => g.1 ≤ i7.length ∧ True) (fun g => [(3, .pointer (some ⟨b3, 0, none⟩)), (5, .slice g.2.1 g.2.2.1 g.2.2.2), (10, .slice o3 i7.length o2), (11, .int .i64 (↑i7.length : Int)), (12, .int .i64 (↑g.1 : Int))]) (fun g => [ow eIs [.slice g.2.1 g.2.2.1 g.2.2.2] ((i7.take g.1).map (s4 (d8, d4))), pt b3 36 [.slice u9 d8.length u7, .slice n8 d4.length n0], pt b2 27 [.slice o3 i7.length o2, .slice m7 f4.length l7]]) (fun g => i7.length - g.1) (0, (some ⟨b8, 0, none⟩), 0, 0) ⟨Nat.zero_le _, by simp⟩ ⟨rfl, rfl, rfl, rfl, rfl, trivial⟩ (.refl _) (fun g pg => ?_)))))))))))))))))))))))
 obtain ⟨g, aA0_0, mA0_0, cA0_0⟩ := g
 try dsimp only at pg
 try dsimp only
 obtain ⟨pk, pa⟩ := pg
 refine f0 m0 fun eaA0_0 laA0_0 => ?_
 subst eaA0_0
 refine Ew Z1 (Ey rfl ((Y.lss rfl rfl).yd) (j4 (fun q13 => ?_) (fun q13 => ?_)))
 ·obtain ⟨eb14, eo14, ea14, ei14, eh14⟩ := w4.elemI g om
  refine Eu (Eq_ (j9 rfl (f5 (Et (Eq_ (E.block (Ew Z3 (Ey rfl ((o6 us_Is d9 rfl ea14 rfl g rfl om).yd) (Ey rfl (f6 d9 rfl (eh14 _) rfl) (Ei rfl (Eu (Ez Z7 (Em rfl (Ey rfl (o1 (cs := [_, _]) ty_Binding rfl (Has.pt (mS m0)) rfl) (Em rfl (Est rfl (i8 N0 rfl rfl rfl dc (fun w Lp hA => ⟨hA.ro y4, hA.ro t6⟩)) (fun _ _ => (Est rfl (Nb [_] [_] us_Is d9 rfl rfl) (fun b20 _ => (d7 (Est rfl (u4 (E := Enc.int) (ex := s4 (d8, d4) i7[g]) us_Is d9 rfl rfl rfl (Own.int i6) rfl bn bn dc) (fun p21 _ => (Ei rfl (En (n9 (Et (Ez Z2 (Ey rfl ((Y.add rfl rfl om om).yd) (Em rfl (Eu (i9 (congrArg (ow eIs [_]) (show ((i7.take g).map (s4 (d8, d4))) ++ [s4 (d8, d4) i7[g]] = (i7.take (g + 1)).map (s4 (d8, d4)) from by grind [d1, d2, t1, t2])) (g9 ?_))))))))))))))))))))))))))))))))
  refine g9 (g9 ?_)
  exact Ea (g + 1, p21.1, (((i7.take g).map (s4 (d8, d4))).length + 1), p21.2) ⟨oz, trivial⟩
 ·refine Eu (Eq_ (j8 rfl (E.exit (l2 (l2 (w8 (Et (Ew Z2 (Em rfl (Ei rfl (Eu (E.ret (i9 (congrArg (ow eIs [_]) (show _ = i7.map (s4 (d8, d4)) by grind [d1, d2, t1, t2])) ?_)))))))))))))
  exact Fg rfl rfl (_, _, _) rfl rfl
end Go.Proofs.YtfnbilpemdgkkaaGreatDoor
