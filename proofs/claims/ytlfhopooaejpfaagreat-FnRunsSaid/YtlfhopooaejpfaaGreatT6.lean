import Derived.Test.YtlfhopooaejpfaaGreatT5
namespace Go.Proofs.YtlfhopooaejpfaaGreat
open Go.RowKit
set_option linter.all false
set_option maxHeartbeats 2000000
attribute [local irreducible] Nop Yd Yp Ent Has Tr FnP FnP2 Src
variable {t term : Int} {s j7 g9 : List Int} {m_s c_s E7 C9 w8 t8 : Nat} {a_s D0 u6 : Option Addr}
theorem a1A (hz : s.length ≤ 1048576) : Tr Tryz.prog 101 [.slice a_s m_s c_s] (fun w L => Ro w L eIs [.slice a_s m_s c_s] s) [] (κ := Option Addr × Nat × Nat) (fun k => True) (fun k => .slice k.1 k.2.1 k.2.2) (fun k => [ow eIs [.slice k.1 k.2.1 k.2.2] s]) := by
 refine Tr.intro Tryz.func101 rfl (n := 8) rfl (by decide +kernel) bl (fr := [(0, .slice a_s m_s c_s)]) rfl fun w L hR => ?_
 have hs := hR
 obtain ⟨rfl, ls⟩ := hs.slen
 refine Ew Z1 (Ei rfl (Eu (Eq_ (Ew Z2 (Em rfl (Ey rfl ((b6I us_Is rfl rfl).yd) (Ent.b (fun q4 => ?_) (fun q4 => ?_))))))))
 ·refine Eu (l4 rfl (Ew Z1 (Ei rfl (Eu (E.ret (l0 (n9 (A := []) (Own.nil (E := Enc.int) (e := tI) (a := none)) rfl (j8 (congrArg (ow eIs [_]) (show _ = s by (cases a_s with | none => exact hs.none_nil.symm | some x => cases q4))) ?_))))))))
  exact Fg rfl rfl (none, 0, 0) rfl rfl
 ·refine Eu (l6 rfl (i8 (Et (Ew Z4 (Est rfl (Nb [] [] us_Is f0 rfl rfl) (fun b5 _ => (Ent.drop (Em rfl (Est rfl (J3 (E := Enc.int) Plain.int us_Is f0 rfl rfl rfl hs bn bn dc) (fun p7 _ => (Ei rfl ?_)))))))))))
  exact Eu (E.ret (Fg rfl rfl (_, _, _) rfl rfl))
theorem a8B {v : Int} : Tr Tryz.prog 223 [.slice a_s m_s c_s, .int .i64 v] (fun w L => Ro w L eIs [.slice a_s m_s c_s] s) [] (κ := Unit) (fun k => True) (fun k => .int .i64 (H3 (fun x => decide (x = v)) s)) (fun k => []) := by
 refine Tr.intro Tryz.func223 rfl (n := 19) rfl (by decide +kernel) bl (fr := [(0, .slice a_s m_s c_s), (1, .int .i64 v)]) rfl fun w L hR => ?_
 have hs := hR
 obtain ⟨rfl, ls⟩ := hs.slen
 refine Ew Z1 (Ei rfl (Eu (Eq_ (Ew Z3 (Em rfl (Ey rfl ((Y.len us_Is rfl).yd) (Em rfl (Eu (E.block (E.loop (κ := Nat) (fun g => g ≤ s.length ∧ ∀ x ∈ s.take g, decide (x = v) = false) (fun g => [(0, .slice a_s s.length c_s), (1, .int .i64 v), (7, .int .i64 (↑s.length : Int)), (8, .int .i64 (g : Int))]) (fun g => []) (fun g => s.length - g) 0 ⟨by omega, by simp⟩ ⟨rfl, rfl, rfl, rfl, trivial⟩ (.refl _) (fun g pg => ?_)))))))))))
 obtain ⟨pk, pa⟩ := pg
 refine Ew Z1 (Ey rfl ((Y.lss rfl rfl).yd) (n0 (fun q9 => ?_) (fun q9 => ?_)))
 ·refine Eu (Eq_ (l4 rfl (i8 (Et (Eq_ (E.block (Ew Z2 (Em rfl (Ei rfl (Ev Z6 (Em rfl (Em rfl (Em rfl ?_)))))))))))))
  obtain ⟨eb14, eo14, ea14, ei14, eh14⟩ := hs.elemI g om
  refine Ey rfl ((o6 us_Is f0 rfl ea14 rfl g rfl om).yd) (Ey rfl (f8 f0 rfl (eh14 _) rfl) (Ey rfl ((Y.eql rfl rfl).yd) (n0 (fun q16 => ?_) (fun q16 => ?_))))
  ·refine Eu (l4 rfl (Ew Z2 (Em rfl (Ei rfl ?_))))
   exact Eu (E.ret (t7 (l0 (l0 (t7 (l0 (Fg rfl rfl () (congrArg (Value.int .i64) (by exact M6 (p := fun x => decide (x = v)) om pa (decide_eq_true om))) rfl)))))))
  ·refine Eu (l6 rfl (i8 (o4 (Et (Ez Z2 (Ey rfl ((Y.add rfl rfl om om).yd) (Em rfl ?_)))))))
   exact Eu (u9 br (g + 1) rs (.refl _) ⟨by omega, Q4 (p := fun x => decide (x = v)) om pa (decide_eq_false om)⟩ om)
 ·refine Eu (Eq_ (l6 rfl (E.exit (n8 (n8 (w5 (Et (Ew Z1 (Ei rfl ?_)))))))))
  exact Eu (E.ret (Fg rfl rfl () (congrArg (Value.int .i64) (by exact K5 om pa)) rfl))
theorem a0e : Tr Tryz.prog 131 [.int .i64 t] (fun w L => True) [] (κ := Unit) (fun k => True) (fun k => .bool (inR t 10 17)) (fun k => []) := by
 refine Tr.intro Tryz.func131 rfl (n := 5) rfl (by decide +kernel) bl (fr := [(0, .int .i64 t)]) rfl fun w L hR => (Ew Z1 (Ei rfl (Ev Z3 (Em rfl (Est rfl (k6 F9 rfl rfl rfl dc tv) (fun _ _ => (Ei rfl ?_)))))))
 exact Eu (E.ret (Fg rfl rfl () rfl rfl))
theorem a0A : Tr Tryz.prog 176 [.int .i64 t] (fun w L => True) [] (κ := Unit) (fun k => True) (fun k => .bool (inR t 10 17)) (fun k => []) := by
 refine Tr.intro Tryz.func176 rfl (n := 5) rfl (by decide +kernel) bl (fr := [(0, .int .i64 t)]) rfl fun w L hR => (Ew Z1 (Ei rfl (Ev Z3 (Em rfl (Est rfl (k6 I1 rfl rfl rfl dc tv) (fun _ _ => (Ei rfl ?_)))))))
 exact Eu (E.ret (Fg rfl rfl () rfl rfl))
theorem a1z : Tr Tryz.prog 218 [.agg #[.slice D0 E7 C9, .slice u6 w8 t8], .int .i64 t] (fun w L => Ro w L eIs [.slice D0 E7 C9] j7 ∧ Ro w L eIs [.slice u6 w8 t8] g9) [] (κ := Unit) (fun k => True) (fun k => .int .i64 (H3 (fun x => decide (x = t)) (j7.take (min j7.length g9.length)))) (fun k => []) := by
 refine Tr.intro Tryz.func218 rfl (n := 17) rfl (by decide +kernel) bl (fr := [(0, .agg #[.slice D0 E7 C9, .slice u6 w8 t8]), (1, .int .i64 t)]) rfl fun w L hR => ?_
 obtain ⟨F1, z6⟩ := hR
 obtain ⟨rfl, a0f⟩ := F1.slen
 obtain ⟨rfl, N9⟩ := z6.slen
 refine Ew Z2 (Est rfl (N.box (cs := [_, _]) rfl dc rfl) (fun b2 _ => (Ei rfl (Ev Z13 (Ey rfl ((i7 fo_Binding_0 ty_Is dc rfl).yd) (Ey rfl (f8 ty_Is rfl (Hz m0 0 rfl) rfl) (Ey rfl ((i7 fo_Binding_0 ty_Is dc rfl).yd) (Ey rfl (f8 ty_Is rfl (Hz m0 0 rfl) rfl) (Ey rfl ((Y.len us_Is rfl).yd) (Ey rfl ((i7 fo_Binding_1 ty_Is dc rfl).yd) (Ey rfl (f8 ty_Is rfl (Hz m0 1 rfl) rfl) (Ey rfl ((Y.len us_Is rfl).yd) (Ey rfl ((b7H (a := j7.length) (b := g9.length) rfl rfl).yd) ?_)))))))))))))
 have rs14 := F1.upto (min j7.length g9.length) om
 have rl14 := rs14.slen.1
 have rc14 := F1.cap
 refine Ey rfl ((a3K (h := min j7.length g9.length) us_Is f0 rfl rfl om).yd) (Em rfl (Est rfl (k6 a8B rfl rfl rfl dc (fun w Lp hA => hA.ro rs14)) (fun _ _ => (Ei rfl ?_))))
 exact Eu (E.ret (Fg rfl rfl () rfl rfl))
theorem Y8 : Tr Tryz.prog 160 [.agg #[.slice D0 E7 C9, .slice u6 w8 t8], .int .i64 term] (fun w L => Ro w L eIs [.slice D0 E7 C9] j7 ∧ Ro w L eIs [.slice u6 w8 t8] g9) [] (κ := Unit) (fun k => True) (fun k => .int .i64 (B1 (j7, g9) term)) (fun k => []) := by
 refine Tr.intro Tryz.func160 rfl (n := 20) rfl (by decide +kernel) bl (fr := [(0, .agg #[.slice D0 E7 C9, .slice u6 w8 t8]), (1, .int .i64 term)]) rfl fun w L hR => ?_
 obtain ⟨F1, z6⟩ := hR
 obtain ⟨rfl, a0f⟩ := F1.slen
 obtain ⟨rfl, N9⟩ := z6.slen
 refine Ew Z2 (Est rfl (N.box (cs := [_, _]) rfl dc rfl) (fun b2 _ => (Ei rfl (Eu (Eq_ (Ew Z3 (Em rfl (Est rfl (k6 a0A rfl rfl rfl dc tv) (fun _ _ => (Ent.b (fun q7 => ?_) (fun q7 => ?_)))))))))))
 ·refine Ey rfl ((Y.not (b := true) rfl).yd) (Eu (l6 rfl (i8 (Et (Ew Z4 (Ey rfl (o0 (cs := [_, _]) ty_Binding rfl (Has.pt m0) rfl) (Em rfl (Est rfl (k6 a1z rfl rfl rfl dc (fun w Lp hA => ⟨hA.ro F1, hA.ro z6⟩)) (fun _ _ => (Ei rfl (Eu (Eq_ (Ew Z2 (Em rfl (Ey rfl ((Y.lss rfl rfl).yd) (n0 (fun q14 => ?_) (fun q14 => ?_)))))))))))))))))
  ·refine Eu (l4 rfl (Ew Z1 (Ei rfl ?_)))
   exact Eu (E.ret (l0 (Fg rfl rfl () (congrArg (Value.int .i64) (by exact a9t q7 q14)) rfl)))
  ·obtain ⟨z1, z2⟩ := a6I q14
   rw [List.length_take] at z2
   refine Eu (l6 rfl (i8 (Et (Ew Z6 (Ey rfl ((i7 fo_Binding_1 ty_Is dc rfl).yd) (Ey rfl (f8 ty_Is rfl (Hz m0 1 rfl) rfl) (Em rfl ?_)))))))
   obtain ⟨eb18, eo18, ea18, ei18, eh18⟩ := z6.elemI ((H3 (fun x => decide (x = term)) (j7.take (min j7.length g9.length))).toNat) om
   refine Ey rfl ((o6 us_Is f0 rfl ea18 rfl ((H3 (fun x => decide (x = term)) (j7.take (min j7.length g9.length))).toNat) om om).yd) (Ey rfl (f8 f0 rfl (eh18 _) rfl) (Ei rfl ?_))
   exact Eu (E.ret (Fg rfl rfl () (congrArg (Value.int .i64) (by exact b4x (b := (j7, g9)) q7 q14 (show (H3 (fun x => decide (x = term)) (j7.take (min j7.length g9.length))).toNat < g9.length by omega))) rfl))
 ·refine Ey rfl ((Y.not (b := false) rfl).yd) (Eu (l4 rfl (Ew Z2 (Em rfl (Ei rfl ?_)))))
  exact Eu (E.ret (l0 (Fg rfl rfl () (congrArg (Value.int .i64) (by exact P8 q7)) rfl)))
theorem a1E : Tr Tryz.prog 126 [.agg #[.slice D0 E7 C9, .slice u6 w8 t8], .int .i64 term] (fun w L => Ro w L eIs [.slice D0 E7 C9] j7 ∧ Ro w L eIs [.slice u6 w8 t8] g9) [] (κ := Unit) (fun k => True) (fun k => .int .i64 (B1 (j7, g9) term)) (fun k => []) := by
 refine Tr.intro Tryz.func126 rfl (n := 36) rfl (by decide +kernel) bl (fr := [(0, .agg #[.slice D0 E7 C9, .slice u6 w8 t8]), (1, .int .i64 term)]) rfl fun w L hR => ?_
 obtain ⟨F1, z6⟩ := hR
 obtain ⟨rfl, a0f⟩ := F1.slen
 obtain ⟨rfl, N9⟩ := z6.slen
 refine Ew Z2 (Est rfl (N.box (cs := [_, _]) rfl dc rfl) (fun b2 _ => (Ei rfl (Eu (Eq_ (Ew Z3 (Em rfl (Est rfl (k6 a0e rfl rfl rfl dc tv) (fun _ _ => (Ent.b (fun q7 => ?_) (fun q7 => ?_)))))))))))
 ·refine Ey rfl ((Y.not (b := true) rfl).yd) (Eu (l6 rfl (i8 (Et (Eq_ (Ew Z1 (Ei rfl (Eu (E.block (E.loop (κ := Nat) (fun g => (g ≤ j7.length ∧ g ≤ g9.length) ∧ ∀ x ∈ j7.take g, decide (x = term) = false) (fun g => [(1, .int .i64 term), (2, .pointer (some ⟨b2, 0, none⟩)), (5, .int .i64 (g : Int))]) (fun g => [pt b2 78 [.slice D0 j7.length C9, .slice u6 g9.length t8]]) (fun g => j7.length - g) 0 ⟨by omega, by simp⟩ ⟨rfl, rfl, rfl, trivial⟩ (.refl _) (fun g pg => ?_)))))))))))
  obtain ⟨pk, pa⟩ := pg
  refine Eq_ (Ew Z12 (Em rfl (Ey rfl ((i7 fo_Binding_0 ty_Is dc rfl).yd) (Ey rfl (f8 ty_Is rfl (Hz m0 0 rfl) rfl) (Ey rfl ((Y.len us_Is rfl).yd) (Ey rfl ((Y.lss rfl rfl).yd) (n0 (fun q14 => ?_) (fun q14 => ?_))))))))
  ·refine Em rfl (Em rfl (Ey rfl ((i7 fo_Binding_1 ty_Is dc rfl).yd) (Ey rfl (f8 ty_Is rfl (Hz m0 1 rfl) rfl) (Ey rfl ((Y.len us_Is rfl).yd) (Ey rfl ((Y.lss rfl rfl).yd) (n0 (fun q20 => ?_) (fun q20 => ?_)))))))
   ·refine Ey rfl ((s6 rfl rfl).yd) (Eu (l4 rfl (i8 (Et (Eq_ (E.block (Ew Z7 (Ey rfl ((i7 fo_Binding_0 ty_Is dc rfl).yd) (Ey rfl (f8 ty_Is rfl (Hz m0 0 rfl) rfl) (Em rfl ?_))))))))))
    obtain ⟨eb27, eo27, ea27, ei27, eh27⟩ := F1.elemI g om
    refine Ey rfl ((o6 us_Is f0 rfl ea27 rfl g rfl om).yd) (Ey rfl (f8 f0 rfl (eh27 _) rfl) (Em rfl (Ey rfl ((Y.eql rfl rfl).yd) (n0 (fun q30 => ?_) (fun q30 => ?_)))))
    ·refine Eu (l4 rfl (Ew Z6 (Ey rfl ((i7 fo_Binding_1 ty_Is dc rfl).yd) (Ey rfl (f8 ty_Is rfl (Hz m0 1 rfl) rfl) (Em rfl ?_)))))
     obtain ⟨eb34, eo34, ea34, ei34, eh34⟩ := z6.elemI g om
     refine Ey rfl ((o6 us_Is f0 rfl ea34 rfl g rfl om).yd) (Ey rfl (f8 f0 rfl (eh34 _) rfl) (Ei rfl ?_))
     exact Eu (E.ret (t7 (l0 (l0 (t7 (l0 (Fg rfl rfl () (congrArg (Value.int .i64) (by exact a2w (b := (j7, g9)) q7 (show g < j7.length by omega) (show g < g9.length by omega) om pa)) rfl)))))))
    ·refine Eu (l6 rfl (i8 (o4 (Et (Ez Z3 (Em rfl (Ey rfl ((Y.add rfl rfl om om).yd) (Ei rfl ?_))))))))
     exact Eu (u9 br (g + 1) rs (.refl _) ⟨by omega, Q4 (p := fun x => decide (x = term)) (show g < j7.length by omega) pa (decide_eq_false q30)⟩ om)
   ·refine Ey rfl ((s6 rfl rfl).yd) (Eu (l6 rfl (E.exit (n8 (n8 (w5 (Et (Ew Z1 (Ei rfl ?_)))))))))
    exact Eu (E.ret (Fg rfl rfl () (congrArg (Value.int .i64) (by exact a7Y (b := (j7, g9)) q7 (g := g) (show ¬ (g < j7.length ∧ g < g9.length) by omega) pa)) rfl))
  ·refine Em rfl (Es rfl (Es rfl (Es rfl (Es rfl (Es rfl (Ey rfl ((r9 rfl rfl).yd) (Eu (l6 rfl (E.exit (n8 (n8 (w5 (Et (Ew Z1 (Ei rfl ?_)))))))))))))))
   exact Eu (E.ret (Fg rfl rfl () (congrArg (Value.int .i64) (by exact a7Y (b := (j7, g9)) q7 (g := g) (show ¬ (g < j7.length ∧ g < g9.length) by omega) pa)) rfl))
 ·refine Ey rfl ((Y.not (b := false) rfl).yd) (Eu (l4 rfl (Ew Z2 (Em rfl (Ei rfl ?_)))))
  exact Eu (E.ret (l0 (Fg rfl rfl () (congrArg (Value.int .i64) (by exact P8 q7)) rfl)))
theorem a7M {r6 : Option Addr} {t6 r5 : Nat} {f9 : List Int} {o2 : Option Addr} {s7 o1 : Nat} {a6 : List (Int × List Int)} (hz : f9.length ≤ 1048576) : Tr Tryz.prog 94 [.agg #[.slice r6 t6 r5, .slice o2 s7 o1], .agg #[.slice D0 E7 C9, .slice u6 w8 t8]] (fun w L => Ro w L eIs [.slice r6 t6 r5] f9 ∧ Ro w L G8 [.slice o2 s7 o1] a6 ∧ Ro w L eIs [.slice D0 E7 C9] j7 ∧ Ro w L eIs [.slice u6 w8 t8] g9) [] (κ := Option Addr × Nat × Nat) (fun k => True) (fun k => .slice k.1 k.2.1 k.2.2) (fun k => [ow eIs [.slice k.1 k.2.1 k.2.2] (f9.map (B1 (j7, g9)))]) := by
 refine Tr.intro Tryz.func94 rfl (n := 24) rfl (by decide +kernel) bl (fr := [(0, .agg #[.slice r6 t6 r5, .slice o2 s7 o1]), (1, .agg #[.slice D0 E7 C9, .slice u6 w8 t8])]) rfl fun w L hR => ?_
 obtain ⟨y8, v6, F1, z6⟩ := hR
 obtain ⟨rfl, N5⟩ := y8.slen
 obtain ⟨rfl, K9⟩ := v6.slen
 obtain ⟨rfl, a0f⟩ := F1.slen
 obtain ⟨rfl, N9⟩ := z6.slen
 have jv := b3o (b := (j7, g9)) (l := f9) y8.i64 F1.i64 z6.i64
 refine Ew Z3 (Est rfl (N.box (cs := [_, _]) rfl dc rfl) (fun b2 _ => (Est rfl (N.box (cs := [_, _]) rfl dc rfl) (fun b3 _ => (Ei rfl (Ev Z2 (Est rfl (Nb [] [] us_Is f0 rfl rfl) (fun b8 _ => (Ent.drop (Ei rfl (Eu (Eq_ (Ew Z4 (Ey rfl ((i7 fo_Query_0 ty_Is dc rfl).yd) (Ey rfl (f8 ty_Is rfl (Hz (mS m0) 0 rfl) rfl) (Ey rfl ((Y.len us_Is rfl).yd) (Em rfl (Eu (E.block (n9 (A := []) (Own.nil (E := Enc.int) (e := tI) (a := (some ⟨b8, 0, none⟩))) rfl (j8 (congrArg (ow eIs [_]) (show [] = (f9.take 0).map (B1 (j7, g9)) from by first | rfl | (simp; done) | grind [d1, d2, t1, t2])) (E.loop (κ := Nat × Option Addr × Nat × Nat) (fun g => g.1 ≤ f9.length ∧ True) (fun g => [(3, .pointer (some ⟨b3, 0, none⟩)), (5, .slice g.2.1 g.2.2.1 g.2.2.2), (10, .slice r6 f9.length r5), (11, .int .i64 (↑f9.length : Int)), (12, .int .i64 (↑g.1 : Int))]) (fun g => [ow eIs [.slice g.2.1 g.2.2.1 g.2.2.2] ((f9.take g.1).map (B1 (j7, g9))), pt b3 78 [.slice D0 j7.length C9, .slice u6 g9.length t8], pt b2 28 [.slice r6 f9.length r5, .slice o2 a6.length o1]]) (fun g => f9.length - g.1) (0, (some ⟨b8, 0, none⟩), 0, 0) ⟨Nat.zero_le _, by simp⟩ ⟨rfl, rfl, rfl, rfl, rfl, trivial⟩ (.refl _) (fun g pg => ?_)))))))))))))))))))))))
 obtain ⟨g, aA0_0, mA0_0, cA0_0⟩ := g
 try dsimp only at pg
 try dsimp only
 obtain ⟨pk, pa⟩ := pg
 refine i9 m0 fun eaA0_0 laA0_0 => ?_
 subst eaA0_0
 refine Ew Z1 (Ey rfl ((Y.lss rfl rfl).yd) (n0 (fun q13 => ?_) (fun q13 => ?_)))
 ·obtain ⟨eb14, eo14, ea14, ei14, eh14⟩ := y8.elemI g om
  refine Eu (Eq_ (l4 rfl (i8 (Et (Eq_ (E.block (Ew Z3 (Ey rfl ((o6 us_Is f0 rfl ea14 rfl g rfl om).yd) (Ey rfl (f8 f0 rfl (eh14 _) rfl) (Ei rfl (Eu (Ez Z7 (Em rfl (Ey rfl (o0 (cs := [_, _]) ty_Binding rfl (Has.pt (mS m0)) rfl) (Em rfl (Est rfl (k6 Y8 rfl rfl rfl dc (fun w Lp hA => ⟨hA.ro F1, hA.ro z6⟩)) (fun _ _ => (Est rfl (Nb [_] [_] us_Is f0 rfl rfl) (fun b20 _ => (f7 (Est rfl (y6 (E := Enc.int) (ex := B1 (j7, g9) f9[g]) us_Is f0 rfl rfl rfl (Own.int i6) rfl bn bn dc) (fun p21 _ => (Ei rfl (En (o4 (Et (Ez Z2 (Ey rfl ((Y.add rfl rfl om om).yd) (Em rfl (Eu (j8 (congrArg (ow eIs [_]) (show ((f9.take g).map (B1 (j7, g9))) ++ [B1 (j7, g9) f9[g]] = (f9.take (g + 1)).map (B1 (j7, g9)) from by grind [d1, d2, t1, t2])) (j6 ?_))))))))))))))))))))))))))))))))
  refine j6 (j6 ?_)
  exact Ea (g + 1, p21.1, (((f9.take g).map (B1 (j7, g9))).length + 1), p21.2) ⟨oz, trivial⟩
 ·refine Eu (Eq_ (l6 rfl (E.exit (n8 (n8 (w5 (Et (Ew Z2 (Em rfl (Ei rfl (Eu (E.ret (j8 (congrArg (ow eIs [_]) (show _ = f9.map (B1 (j7, g9)) by grind [d1, d2, t1, t2])) ?_)))))))))))))
  exact Fg rfl rfl (_, _, _) rfl rfl
end Go.Proofs.YtlfhopooaejpfaaGreat
