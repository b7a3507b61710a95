import Derived.Test.YtlfhopooaejpfaaGreatT5
namespace Go.Proofs.YtlfhopooaejpfaaGreat
open Go.RowKit
set_option linter.all false
set_option maxHeartbeats 2000000
attribute [local irreducible] Nop Yd Yp Ent Has Tr FnP FnP2 Src
variable {t term : Int} {a6 : List (Int × List Int)} {s j8 f8 i9 : List Int} {m_s c_s G7 s4 B8 y7 y9 u9 w9 t7 : Nat} {a_s E3 y8 v6 t8 : Option Addr}
theorem a2l (hz : s.length ≤ 1048576) : Tr Tryz.prog 101 [.slice a_s m_s c_s] (fun w L => Ro w L eIs [.slice a_s m_s c_s] s) [] (κ := Option Addr × Nat × Nat) (fun k => True) (fun k => .slice k.1 k.2.1 k.2.2) (fun k => [ow eIs [.slice k.1 k.2.1 k.2.2] s]) := by
 refine Tr.intro Tryz.func101 rfl (n := 8) rfl (by decide +kernel) bl (fr := [(0, .slice a_s m_s c_s)]) rfl fun w L hR => ?_
 have hs := hR
 obtain ⟨rfl, ls⟩ := hs.slen
 refine Ew Z1 (Ei rfl (Eu (Eq_ (Ew Z2 (Em rfl (Ey rfl ((b6U us_Is rfl rfl).yd) (Ent.b (fun q4 => ?_) (fun q4 => ?_))))))))
 ·refine Eu (o0 rfl (Ew Z1 (Ei rfl (Eu (E.ret (s9 (s7 (A := []) (Own.nil (E := Enc.int) (e := tI) (a := none)) rfl (f6 (congrArg (ow eIs [_]) (show _ = s by (cases a_s with | none => exact hs.none_nil.symm | some x => cases q4))) ?_))))))))
  exact Fg rfl rfl (none, 0, 0) rfl rfl
 ·refine Eu (n8 rfl (f9 (Et (Ew Z4 (Est rfl (Nb [] [] us_Is f5 rfl rfl) (fun b5 _ => (Ent.drop (Em rfl (Est rfl (P8 (E := Enc.int) Plain.int us_Is f5 rfl rfl rfl hs bn bn dc) (fun p7 _ => (Ei rfl ?_)))))))))))
  exact Eu (E.ret (Fg rfl rfl (_, _, _) rfl rfl))
theorem b1r {v : Int} : Tr Tryz.prog 223 [.slice a_s m_s c_s, .int .i64 v] (fun w L => Ro w L eIs [.slice a_s m_s c_s] s) [] (κ := Unit) (fun k => True) (fun k => .int .i64 (J8 (fun x => decide (x = v)) s)) (fun k => []) := by
 refine Tr.intro Tryz.func223 rfl (n := 19) rfl (by decide +kernel) bl (fr := [(0, .slice a_s m_s c_s), (1, .int .i64 v)]) rfl fun w L hR => ?_
 have hs := hR
 obtain ⟨rfl, ls⟩ := hs.slen
 refine Ew Z1 (Ei rfl (Eu (Eq_ (Ew Z3 (Em rfl (Ey rfl ((Y.len us_Is rfl).yd) (Em rfl (Eu (E.block (E.loop (κ := Nat) (fun g => g ≤ s.length ∧ ∀ x ∈ s.take g, decide (x = v) = false) (fun g => [(0, .slice a_s s.length c_s), (1, .int .i64 v), (7, .int .i64 (↑s.length : Int)), (8, .int .i64 (g : Int))]) (fun g => []) (fun g => s.length - g) 0 ⟨by omega, by simp⟩ ⟨rfl, rfl, rfl, rfl, trivial⟩ (.refl _) (fun g pg => ?_)))))))))))
 obtain ⟨pk, pa⟩ := pg
 refine Ew Z1 (Ey rfl ((Y.lss rfl rfl).yd) (n9 (fun q9 => ?_) (fun q9 => ?_)))
 ·refine Eu (Eq_ (o0 rfl (f9 (Et (Eq_ (E.block (Ew Z2 (Em rfl (Ei rfl (Ev Z6 (Em rfl (Em rfl (Em rfl ?_)))))))))))))
  obtain ⟨eb14, eo14, ea14, ei14, eh14⟩ := hs.elemI g om
  refine Ey rfl ((w3 us_Is f5 rfl ea14 rfl g rfl om).yd) (Ey rfl (g9 f5 rfl (eh14 _) rfl) (Ey rfl ((Y.eql rfl rfl).yd) (n9 (fun q16 => ?_) (fun q16 => ?_))))
  ·refine Eu (o0 rfl (Ew Z2 (Em rfl (Ei rfl ?_))))
   exact Eu (E.ret (C9 (s9 (s9 (C9 (s9 (Fg rfl rfl () (congrArg (Value.int .i64) (by exact V4 (p := fun x => decide (x = v)) om pa (decide_eq_true om))) rfl)))))))
  ·refine Eu (n8 rfl (f9 (s8 (Et (Ez Z2 (Ey rfl ((Y.add rfl rfl om om).yd) (Em rfl ?_)))))))
   exact Eu (B0 br (g + 1) rs (.refl _) ⟨by omega, X4 (p := fun x => decide (x = v)) om pa (decide_eq_false om)⟩ om)
 ·refine Eu (Eq_ (n8 rfl (E.exit (l3 (l3 (y4 (Et (Ew Z1 (Ei rfl ?_)))))))))
  exact Eu (E.ret (Fg rfl rfl () (congrArg (Value.int .i64) (by exact S7 om pa)) rfl))
theorem a3t : Tr Tryz.prog 131 [.int .i64 t] (fun w L => True) [] (κ := Unit) (fun k => True) (fun k => .bool (inR t 10 17)) (fun k => []) := by
 refine Tr.intro Tryz.func131 rfl (n := 5) rfl (by decide +kernel) bl (fr := [(0, .int .i64 t)]) rfl fun w L hR => (Ew Z1 (Ei rfl (Ev Z3 (Em rfl (Est rfl (o4 N7 rfl rfl rfl dc tv) (fun _ _ => (Ei rfl ?_)))))))
 exact Eu (E.ret (Fg rfl rfl () rfl rfl))
theorem a3n : Tr Tryz.prog 176 [.int .i64 t] (fun w L => True) [] (κ := Unit) (fun k => True) (fun k => .bool (inR t 10 17)) (fun k => []) := by
 refine Tr.intro Tryz.func176 rfl (n := 5) rfl (by decide +kernel) bl (fr := [(0, .int .i64 t)]) rfl fun w L hR => (Ew Z1 (Ei rfl (Ev Z3 (Em rfl (Est rfl (o4 R2 rfl rfl rfl dc tv) (fun _ _ => (Ei rfl ?_)))))))
 exact Eu (E.ret (Fg rfl rfl () rfl rfl))
theorem a3l : Tr Tryz.prog 218 [.agg #[.slice E3 G7 s4, .slice y8 B8 y7], .int .i64 t] (fun w L => Ro w L eIs [.slice E3 G7 s4] j8 ∧ Ro w L eIs [.slice y8 B8 y7] f8) [] (κ := Unit) (fun k => True) (fun k => .int .i64 (J8 (fun x => decide (x = t)) (j8.take (min j8.length f8.length)))) (fun k => []) := by
 refine Tr.intro Tryz.func218 rfl (n := 17) rfl (by decide +kernel) bl (fr := [(0, .agg #[.slice E3 G7 s4, .slice y8 B8 y7]), (1, .int .i64 t)]) rfl fun w L hR => ?_
 obtain ⟨G8, C6⟩ := hR
 obtain ⟨rfl, a1n⟩ := G8.slen
 obtain ⟨rfl, S9⟩ := C6.slen
 refine Ew Z2 (Est rfl (N.box (cs := [_, _]) rfl dc rfl) (fun b2 _ => (Ei rfl (Ev Z13 (Ey rfl ((i8 fo_Binding_0 ty_Is dc rfl).yd) (Ey rfl (g9 ty_Is rfl (Hz m0 0 rfl) rfl) (Ey rfl ((i8 fo_Binding_0 ty_Is dc rfl).yd) (Ey rfl (g9 ty_Is rfl (Hz m0 0 rfl) rfl) (Ey rfl ((Y.len us_Is rfl).yd) (Ey rfl ((i8 fo_Binding_1 ty_Is dc rfl).yd) (Ey rfl (g9 ty_Is rfl (Hz m0 1 rfl) rfl) (Ey rfl ((Y.len us_Is rfl).yd) (Ey rfl ((b8C (a := j8.length) (b := f8.length) rfl rfl).yd) ?_)))))))))))))
 have rs14 := G8.upto (min j8.length f8.length) om
 have rl14 := rs14.slen.1
 have rc14 := G8.cap
 refine Ey rfl ((a4W (h := min j8.length f8.length) us_Is f5 rfl rfl om).yd) (Em rfl (Est rfl (o4 b1r rfl rfl rfl dc (fun w Lp hA => hA.ro rs14)) (fun _ _ => (Ei rfl ?_))))
 exact Eu (E.ret (Fg rfl rfl () rfl rfl))
theorem a1j : Tr Tryz.prog 160 [.agg #[.slice E3 G7 s4, .slice y8 B8 y7], .int .i64 term] (fun w L => Ro w L eIs [.slice E3 G7 s4] j8 ∧ Ro w L eIs [.slice y8 B8 y7] f8) [] (κ := Unit) (fun k => True) (fun k => .int .i64 (C1 (j8, f8) term)) (fun k => []) := by
 refine Tr.intro Tryz.func160 rfl (n := 20) rfl (by decide +kernel) bl (fr := [(0, .agg #[.slice E3 G7 s4, .slice y8 B8 y7]), (1, .int .i64 term)]) rfl fun w L hR => ?_
 obtain ⟨G8, C6⟩ := hR
 obtain ⟨rfl, a1n⟩ := G8.slen
 obtain ⟨rfl, S9⟩ := C6.slen
 refine Ew Z2 (Est rfl (N.box (cs := [_, _]) rfl dc rfl) (fun b2 _ => (Ei rfl (Eu (Eq_ (Ew Z3 (Em rfl (Est rfl (o4 a3n rfl rfl rfl dc tv) (fun _ _ => (Ent.b (fun q7 => ?_) (fun q7 => ?_)))))))))))
 ·refine Ey rfl ((Y.not (b := true) rfl).yd) (Eu (n8 rfl (f9 (Et (Ew Z4 (Ey rfl (r9 (cs := [_, _]) ty_Binding rfl (Has.pt m0) rfl) (Em rfl (Est rfl (o4 a3l rfl rfl rfl dc (fun w Lp hA => ⟨hA.ro G8, hA.ro C6⟩)) (fun _ _ => (Ei rfl (Eu (Eq_ (Ew Z2 (Em rfl (Ey rfl ((Y.lss rfl rfl).yd) (n9 (fun q14 => ?_) (fun q14 => ?_)))))))))))))))))
  ·refine Eu (o0 rfl (Ew Z1 (Ei rfl ?_)))
   exact Eu (E.ret (s9 (Fg rfl rfl () (congrArg (Value.int .i64) (by exact b2o q7 q14)) rfl)))
  ·obtain ⟨z1, z2⟩ := b3C q14
   rw [List.length_take] at z2
   refine Eu (n8 rfl (f9 (Et (Ew Z6 (Ey rfl ((i8 fo_Binding_1 ty_Is dc rfl).yd) (Ey rfl (g9 ty_Is rfl (Hz m0 1 rfl) rfl) (Em rfl ?_)))))))
   obtain ⟨eb18, eo18, ea18, ei18, eh18⟩ := C6.elemI ((J8 (fun x => decide (x = term)) (j8.take (min j8.length f8.length))).toNat) om
   refine Ey rfl ((w3 us_Is f5 rfl ea18 rfl ((J8 (fun x => decide (x = term)) (j8.take (min j8.length f8.length))).toNat) om om).yd) (Ey rfl (g9 f5 rfl (eh18 _) rfl) (Ei rfl ?_))
   exact Eu (E.ret (Fg rfl rfl () (congrArg (Value.int .i64) (by exact b7h (b := (j8, f8)) q7 q14 (show (J8 (fun x => decide (x = term)) (j8.take (min j8.length f8.length))).toNat < f8.length by omega))) rfl))
 ·refine Ey rfl ((Y.not (b := false) rfl).yd) (Eu (o0 rfl (Ew Z2 (Em rfl (Ei rfl ?_)))))
  exact Eu (E.ret (s9 (Fg rfl rfl () (congrArg (Value.int .i64) (by exact V0 q7)) rfl)))
theorem a3K : Tr Tryz.prog 126 [.agg #[.slice E3 G7 s4, .slice y8 B8 y7], .int .i64 term] (fun w L => Ro w L eIs [.slice E3 G7 s4] j8 ∧ Ro w L eIs [.slice y8 B8 y7] f8) [] (κ := Unit) (fun k => True) (fun k => .int .i64 (C1 (j8, f8) term)) (fun k => []) := by
 refine Tr.intro Tryz.func126 rfl (n := 36) rfl (by decide +kernel) bl (fr := [(0, .agg #[.slice E3 G7 s4, .slice y8 B8 y7]), (1, .int .i64 term)]) rfl fun w L hR => ?_
 obtain ⟨G8, C6⟩ := hR
 obtain ⟨rfl, a1n⟩ := G8.slen
 obtain ⟨rfl, S9⟩ := C6.slen
 refine Ew Z2 (Est rfl (N.box (cs := [_, _]) rfl dc rfl) (fun b2 _ => (Ei rfl (Eu (Eq_ (Ew Z3 (Em rfl (Est rfl (o4 a3t rfl rfl rfl dc tv) (fun _ _ => (Ent.b (fun q7 => ?_) (fun q7 => ?_)))))))))))
 ·refine Ey rfl ((Y.not (b := true) rfl).yd) (Eu (n8 rfl (f9 (Et (Eq_ (Ew Z1 (Ei rfl (Eu (E.block (E.loop (κ := Nat) (fun g => (g ≤ j8.length ∧ g ≤ f8.length) ∧ ∀ x ∈ j8.take g, decide (x = term) = false) (fun g => [(1, .int .i64 term), (2, .pointer (some ⟨b2, 0, none⟩)), (5, .int .i64 (g : Int))]) (fun g => [pt b2 78 [.slice E3 j8.length s4, .slice y8 f8.length y7]]) (fun g => j8.length - g) 0 ⟨by omega, by simp⟩ ⟨rfl, rfl, rfl, trivial⟩ (.refl _) (fun g pg => ?_)))))))))))
  obtain ⟨pk, pa⟩ := pg
  refine Eq_ (Ew Z12 (Em rfl (Ey rfl ((i8 fo_Binding_0 ty_Is dc rfl).yd) (Ey rfl (g9 ty_Is rfl (Hz m0 0 rfl) rfl) (Ey rfl ((Y.len us_Is rfl).yd) (Ey rfl ((Y.lss rfl rfl).yd) (n9 (fun q14 => ?_) (fun q14 => ?_))))))))
  ·refine Em rfl (Em rfl (Ey rfl ((i8 fo_Binding_1 ty_Is dc rfl).yd) (Ey rfl (g9 ty_Is rfl (Hz m0 1 rfl) rfl) (Ey rfl ((Y.len us_Is rfl).yd) (Ey rfl ((Y.lss rfl rfl).yd) (n9 (fun q20 => ?_) (fun q20 => ?_)))))))
   ·refine Ey rfl ((x6 rfl rfl).yd) (Eu (o0 rfl (f9 (Et (Eq_ (E.block (Ew Z7 (Ey rfl ((i8 fo_Binding_0 ty_Is dc rfl).yd) (Ey rfl (g9 ty_Is rfl (Hz m0 0 rfl) rfl) (Em rfl ?_))))))))))
    obtain ⟨eb27, eo27, ea27, ei27, eh27⟩ := G8.elemI g om
    refine Ey rfl ((w3 us_Is f5 rfl ea27 rfl g rfl om).yd) (Ey rfl (g9 f5 rfl (eh27 _) rfl) (Em rfl (Ey rfl ((Y.eql rfl rfl).yd) (n9 (fun q30 => ?_) (fun q30 => ?_)))))
    ·refine Eu (o0 rfl (Ew Z6 (Ey rfl ((i8 fo_Binding_1 ty_Is dc rfl).yd) (Ey rfl (g9 ty_Is rfl (Hz m0 1 rfl) rfl) (Em rfl ?_)))))
     obtain ⟨eb34, eo34, ea34, ei34, eh34⟩ := C6.elemI g om
     refine Ey rfl ((w3 us_Is f5 rfl ea34 rfl g rfl om).yd) (Ey rfl (g9 f5 rfl (eh34 _) rfl) (Ei rfl ?_))
     exact Eu (E.ret (C9 (s9 (s9 (C9 (s9 (Fg rfl rfl () (congrArg (Value.int .i64) (by exact a4P (b := (j8, f8)) q7 (show g < j8.length by omega) (show g < f8.length by omega) om pa)) rfl)))))))
    ·refine Eu (n8 rfl (f9 (s8 (Et (Ez Z3 (Em rfl (Ey rfl ((Y.add rfl rfl om om).yd) (Ei rfl ?_))))))))
     exact Eu (B0 br (g + 1) rs (.refl _) ⟨by omega, X4 (p := fun x => decide (x = term)) (show g < j8.length by omega) pa (decide_eq_false q30)⟩ om)
   ·refine Ey rfl ((x6 rfl rfl).yd) (Eu (n8 rfl (E.exit (l3 (l3 (y4 (Et (Ew Z1 (Ei rfl ?_)))))))))
    exact Eu (E.ret (Fg rfl rfl () (congrArg (Value.int .i64) (by exact b0Y (b := (j8, f8)) q7 (g := g) (show ¬ (g < j8.length ∧ g < f8.length) by omega) pa)) rfl))
  ·refine Em rfl (Es rfl (Es rfl (Es rfl (Es rfl (Es rfl (Ey rfl ((z7 rfl rfl).yd) (Eu (n8 rfl (E.exit (l3 (l3 (y4 (Et (Ew Z1 (Ei rfl ?_)))))))))))))))
   exact Eu (E.ret (Fg rfl rfl () (congrArg (Value.int .i64) (by exact b0Y (b := (j8, f8)) q7 (g := g) (show ¬ (g < j8.length ∧ g < f8.length) by omega) pa)) rfl))
 ·refine Ey rfl ((Y.not (b := false) rfl).yd) (Eu (o0 rfl (Ew Z2 (Em rfl (Ei rfl ?_)))))
  exact Eu (E.ret (s9 (Fg rfl rfl () (congrArg (Value.int .i64) (by exact V0 q7)) rfl)))
theorem a3N (hz : i9.length ≤ 1048576) : Tr Tryz.prog 100 [.agg #[.slice v6 y9 u9, .slice t8 w9 t7], .agg #[.slice E3 G7 s4, .slice y8 B8 y7]] (fun w L => Ro w L eIs [.slice v6 y9 u9] i9 ∧ Ro w L H9 [.slice t8 w9 t7] a6 ∧ Ro w L eIs [.slice E3 G7 s4] j8 ∧ Ro w L eIs [.slice y8 B8 y7] f8) [] (κ := Option Addr × Nat × Nat) (fun k => True) (fun k => .slice k.1 k.2.1 k.2.2) (fun k => [ow eIs [.slice k.1 k.2.1 k.2.2] (i9.map (C1 (j8, f8)))]) := by
 refine Tr.intro Tryz.func100 rfl (n := 26) rfl (by decide +kernel) bl (fr := [(0, .agg #[.slice v6 y9 u9, .slice t8 w9 t7]), (1, .agg #[.slice E3 G7 s4, .slice y8 B8 y7])]) rfl fun w L hR => ?_
 obtain ⟨w7, u6, G8, C6⟩ := hR
 obtain ⟨rfl, P6⟩ := w7.slen
 obtain ⟨rfl, M4⟩ := u6.slen
 obtain ⟨rfl, a1n⟩ := G8.slen
 obtain ⟨rfl, S9⟩ := C6.slen
 have jv := a7P (b := (j8, f8)) (l := i9) w7.i64 G8.i64 C6.i64
 refine Ew Z3 (Est rfl (N.box (cs := [_, _]) rfl dc rfl) (fun b2 _ => (Est rfl (N.box (cs := [_, _]) rfl dc rfl) (fun b3 _ => (Ei rfl (Ev Z2 (Est rfl (Nb [] [] us_Is f5 rfl rfl) (fun b7 _ => (Ent.drop (Ei rfl (Eu (Eq_ (Ew Z1 (Ei rfl (Eu (E.block (s7 (A := []) (Own.nil (E := Enc.int) (e := tI) (a := (some ⟨b7, 0, none⟩))) rfl (f6 (congrArg (ow eIs [_]) (show [] = (i9.take 0).map (C1 (j8, f8)) from by first | rfl | (simp; done) | grind [d1, d2, t1, t2])) (E.loop (κ := Nat × Option Addr × Nat × Nat) (fun g => g.1 ≤ i9.length ∧ True) (fun g => [(2, .pointer (some ⟨b2, 0, none⟩)), (3, .pointer (some ⟨b3, 0, none⟩)), (5, .slice g.2.1 g.2.2.1 g.2.2.2), (6, .int .i64 (↑g.1 : Int))]) (fun g => [ow eIs [.slice g.2.1 g.2.2.1 g.2.2.2] ((i9.take g.1).map (C1 (j8, f8))), pt b3 78 [.slice E3 j8.length s4, .slice y8 f8.length y7], pt b2 28 [.slice v6 i9.length u9, .slice t8 a6.length t7]]) (fun g => i9.length - g.1) (0, (some ⟨b7, 0, none⟩), 0, 0) ⟨Nat.zero_le _, by simp⟩ ⟨rfl, rfl, rfl, rfl, trivial⟩ (.refl _) (fun g pg => ?_))))))))))))))))))))
 obtain ⟨g, aA0_0, mA0_0, cA0_0⟩ := g
 try dsimp only at pg
 try dsimp only
 obtain ⟨pk, pa⟩ := pg
 refine d6 m0 fun eaA0_0 laA0_0 => ?_
 subst eaA0_0
 refine Eq_ (Ew Z5 (Em rfl (Ey rfl ((i8 fo_Query_0 ty_Is dc rfl).yd) (Ey rfl (g9 ty_Is rfl (Hz (mS (mS m0)) 0 rfl) rfl) (Ey rfl ((Y.len us_Is rfl).yd) (Ey rfl ((Y.lss rfl rfl).yd) (n9 (fun q12 => ?_) (fun q12 => ?_))))))))
 ·refine Eu (o0 rfl (f9 (Et (Eq_ (E.block (D.region (fun j => !(Nat.beq j 9)) mixed (Dyp 0 rfl (k6 rfl) (Dy 1 rfl (r9 (cs := [_, _]) ty_Binding rfl (Has.pt (mS m0)) rfl) (Dyp 2 rfl (i8 fo_Query_0 ty_Is dc rfl) (Dy 3 rfl (g9 ty_Is rfl (Hz (mS (mS m0)) 0 rfl) rfl) (Dyp 4 rfl (k6 rfl) ?_)))))))))))
  obtain ⟨eb20, eo20, ea20, ei20, eh20⟩ := w7.elemI g om
  refine Dyp 5 rfl (w3 us_Is f5 rfl ea20 rfl g rfl om) (Dy 6 rfl (g9 f5 rfl (eh20 _) rfl) (u7 7 rfl rfl kr (fun _ => rfl) (o4 a3K rfl rfl rfl dc (fun w Lp hA => ⟨hA.ro G8, hA.ro C6⟩)) (fun _ _ => (u7 8 rfl rfl kr (fun _ => rfl) (Nb [_] [_] us_Is f5 rfl rfl) (fun b23 _ => (d8 (u7 9 rfl rfl kr (fun h => by cases h) (B2 (E := Enc.int) (ex := C1 (j8, f8) i9[g]) us_Is f5 rfl rfl rfl (Own.int i6) rfl bn bn dc) (fun p24 _ => (Dyp 10 rfl (F1 rfl) (t6 kr (s8 (Et (Ez Z3 (Em rfl (Ey rfl ((Y.add rfl rfl om om).yd) (Ei rfl (Eu (f6 (congrArg (ow eIs [_]) (show ((i9.take g).map (C1 (j8, f8))) ++ [C1 (j8, f8) i9[g]] = (i9.take (g + 1)).map (C1 (j8, f8)) from by grind [d1, d2, t1, t2])) (j7 (j7 (j7 ?_)))))))))))))))))))))
  exact Ea (g + 1, p24.1, (((i9.take g).map (C1 (j8, f8))).length + 1), p24.2) ⟨oz, trivial⟩
 ·refine Eu (n8 rfl (E.exit (l3 (l3 (y4 (Et (Ew Z2 (Em rfl (Ei rfl (Eu (E.ret (f6 (congrArg (ow eIs [_]) (show _ = i9.map (C1 (j8, f8)) by grind [d1, d2, t1, t2])) ?_))))))))))))
  exact Fg rfl rfl (_, _, _) rfl rfl
theorem a0x (hz : i9.length ≤ 1048576) : Tr Tryz.prog 94 [.agg #[.slice v6 y9 u9, .slice t8 w9 t7], .agg #[.slice E3 G7 s4, .slice y8 B8 y7]] (fun w L => Ro w L eIs [.slice v6 y9 u9] i9 ∧ Ro w L H9 [.slice t8 w9 t7] a6 ∧ Ro w L eIs [.slice E3 G7 s4] j8 ∧ Ro w L eIs [.slice y8 B8 y7] f8) [] (κ := Option Addr × Nat × Nat) (fun k => True) (fun k => .slice k.1 k.2.1 k.2.2) (fun k => [ow eIs [.slice k.1 k.2.1 k.2.2] (i9.map (C1 (j8, f8)))]) := by
 refine Tr.intro Tryz.func94 rfl (n := 24) rfl (by decide +kernel) bl (fr := [(0, .agg #[.slice v6 y9 u9, .slice t8 w9 t7]), (1, .agg #[.slice E3 G7 s4, .slice y8 B8 y7])]) rfl fun w L hR => ?_
 obtain ⟨w7, u6, G8, C6⟩ := hR
 obtain ⟨rfl, P6⟩ := w7.slen
 obtain ⟨rfl, M4⟩ := u6.slen
 obtain ⟨rfl, a1n⟩ := G8.slen
 obtain ⟨rfl, S9⟩ := C6.slen
 have jv := a7P (b := (j8, f8)) (l := i9) w7.i64 G8.i64 C6.i64
 refine Ew Z3 (Est rfl (N.box (cs := [_, _]) rfl dc rfl) (fun b2 _ => (Est rfl (N.box (cs := [_, _]) rfl dc rfl) (fun b3 _ => (Ei rfl (Ev Z2 (Est rfl (Nb [] [] us_Is f5 rfl rfl) (fun b8 _ => (Ent.drop (Ei rfl (Eu (Eq_ (Ew Z4 (Ey rfl ((i8 fo_Query_0 ty_Is dc rfl).yd) (Ey rfl (g9 ty_Is rfl (Hz (mS m0) 0 rfl) rfl) (Ey rfl ((Y.len us_Is rfl).yd) (Em rfl (Eu (E.block (s7 (A := []) (Own.nil (E := Enc.int) (e := tI) (a := (some ⟨b8, 0, none⟩))) rfl (f6 (congrArg (ow eIs [_]) (show [] = (i9.take 0).map (C1 (j8, f8)) from by first | rfl | (simp; done) | grind [d1, d2, t1, t2])) (E.loop (κ := Nat × Option Addr × Nat × Nat) (fun g => g.1 ≤ i9.length ∧ True) (fun g => [(3, .pointer (some ⟨b3, 0, none⟩)), (5, .slice g.2.1 g.2.2.1 g.2.2.2), (10, .slice v6 i9.length u9), (11, .int .i64 (↑i9.length : Int)), (12, .int .i64 (↑g.1 : Int))]) (fun g => [ow eIs [.slice g.2.1 g.2.2.1 g.2.2.2] ((i9.take g.1).map (C1 (j8, f8))), pt b3 78 [.slice E3 j8.length s4, .slice y8 f8.length y7], pt b2 28 [.slice v6 i9.length u9, .slice t8 a6.length t7]]) (fun g => i9.length - g.1) (0, (some ⟨b8, 0, none⟩), 0, 0) ⟨Nat.zero_le _, by simp⟩ ⟨rfl, rfl, rfl, rfl, rfl, trivial⟩ (.refl _) (fun g pg => ?_)))))))))))))))))))))))
 obtain ⟨g, aA0_0, mA0_0, cA0_0⟩ := g
 try dsimp only at pg
 try dsimp only
 obtain ⟨pk, pa⟩ := pg
 refine d6 m0 fun eaA0_0 laA0_0 => ?_
 subst eaA0_0
 refine Ew Z1 (Ey rfl ((Y.lss rfl rfl).yd) (n9 (fun q13 => ?_) (fun q13 => ?_)))
 ·obtain ⟨eb14, eo14, ea14, ei14, eh14⟩ := w7.elemI g om
  refine Eu (Eq_ (o0 rfl (f9 (Et (Eq_ (E.block (Ew Z3 (Ey rfl ((w3 us_Is f5 rfl ea14 rfl g rfl om).yd) (Ey rfl (g9 f5 rfl (eh14 _) rfl) (Ei rfl (Eu (Ez Z7 (Em rfl (Ey rfl (r9 (cs := [_, _]) ty_Binding rfl (Has.pt (mS m0)) rfl) (Em rfl (Est rfl (o4 a1j rfl rfl rfl dc (fun w Lp hA => ⟨hA.ro G8, hA.ro C6⟩)) (fun _ _ => (Est rfl (Nb [_] [_] us_Is f5 rfl rfl) (fun b20 _ => (d8 (Est rfl (B2 (E := Enc.int) (ex := C1 (j8, f8) i9[g]) us_Is f5 rfl rfl rfl (Own.int i6) rfl bn bn dc) (fun p21 _ => (Ei rfl (En (s8 (Et (Ez Z2 (Ey rfl ((Y.add rfl rfl om om).yd) (Em rfl (Eu (f6 (congrArg (ow eIs [_]) (show ((i9.take g).map (C1 (j8, f8))) ++ [C1 (j8, f8) i9[g]] = (i9.take (g + 1)).map (C1 (j8, f8)) from by grind [d1, d2, t1, t2])) (j7 ?_))))))))))))))))))))))))))))))))
  refine j7 (j7 ?_)
  exact Ea (g + 1, p21.1, (((i9.take g).map (C1 (j8, f8))).length + 1), p21.2) ⟨oz, trivial⟩
 ·refine Eu (Eq_ (n8 rfl (E.exit (l3 (l3 (y4 (Et (Ew Z2 (Em rfl (Ei rfl (Eu (E.ret (f6 (congrArg (ow eIs [_]) (show _ = i9.map (C1 (j8, f8)) by grind [d1, d2, t1, t2])) ?_)))))))))))))
  exact Fg rfl rfl (_, _, _) rfl rfl
end Go.Proofs.YtlfhopooaejpfaaGreat
