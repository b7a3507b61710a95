import Derived.Test.YtbedienpleiamaaGreatT5
namespace Go.Proofs.YtbedienpleiamaaGreat
open Go.RowKit
set_option linter.all false
set_option maxHeartbeats 2000000
attribute [local irreducible] Nop Yd Yp Ent Has Tr FnP FnP2 Src
variable {t term : Int} {a6 : List (Int × List Int)} {s f7 d9 f5 : List Int} {m_s c_s B1 w6 u4 s5 r5 k6 o1 j0 : Nat} {a_s w7 s6 l0 j3 : Option Addr}
theorem a0k (hz : s.length ≤ 1048576) : Tr Tryz.prog 141 [.slice a_s m_s c_s] (fun w L => Ro w L eIs [.slice a_s m_s c_s] s) [] (κ := Option Addr × Nat × Nat) (fun k => True) (fun k => .slice k.1 k.2.1 k.2.2) (fun k => [ow eIs [.slice k.1 k.2.1 k.2.2] s]) := by
 refine Tr.intro Tryz.func141 rfl (n := 8) rfl (by decide +kernel) bl (fr := [(0, .slice a_s m_s c_s)]) rfl fun w L hR => ?_
 have hs := hR
 obtain ⟨rfl, ls⟩ := hs.slen
 refine Ew Z1 (Ei rfl (Eu (Eq_ (Ew Z2 (Em rfl (Ey rfl ((b1s us_Is rfl rfl).yd) (t7 (fun q4 => ?_) (fun q4 => ?_))))))))
 ·refine Eu (o0 rfl (Ew Z1 (Ei rfl (Eu (E.ret (o4 (o2 (A := []) (Own.nil (E := Enc.int) (e := tI) (a := none)) rfl (i9 (congrArg (ow eIs [_]) (show _ = s by (cases a_s with | none => exact hs.none_nil.symm | some x => cases q4))) ?_))))))))
  exact Fg rfl rfl (none, 0, 0) rfl rfl
 ·refine Eu (n0 rfl (f8 (Et (Ew Z4 (Est rfl (Nb [] [] us_Is f6 rfl rfl) (fun b5 _ => (Ent.drop (Em rfl (Est rfl (G9 (E := Enc.int) Plain.int us_Is f6 rfl rfl rfl hs bn bn dc) (fun p7 _ => (Ei rfl ?_)))))))))))
  exact Eu (E.ret (Fg rfl rfl (_, _, _) rfl rfl))
theorem a5s {v : Int} : Tr Tryz.prog 174 [.slice a_s m_s c_s, .int .i64 v] (fun w L => Ro w L eIs [.slice a_s m_s c_s] s) [] (κ := Unit) (fun k => True) (fun k => .int .i64 (H3 (fun x => decide (x = v)) s)) (fun k => []) := by
 refine Tr.intro Tryz.func174 rfl (n := 19) rfl (by decide +kernel) bl (fr := [(0, .slice a_s m_s c_s), (1, .int .i64 v)]) rfl fun w L hR => ?_
 have hs := hR
 obtain ⟨rfl, ls⟩ := hs.slen
 refine Ew Z1 (Ei rfl (Eu (Eq_ (Ew Z3 (Em rfl (Ey rfl ((Y.len us_Is rfl).yd) (Em rfl (Eu (E.block (E.loop (κ := Nat) (fun g => g ≤ s.length ∧ ∀ x ∈ s.take g, decide (x = v) = false) (fun g => [(0, .slice a_s s.length c_s), (1, .int .i64 v), (7, .int .i64 (↑s.length : Int)), (8, .int .i64 (g : Int))]) (fun g => []) (fun g => s.length - g) 0 ⟨by omega, by simp⟩ ⟨rfl, rfl, rfl, rfl, trivial⟩ (.refl _) (fun g pg => ?_)))))))))))
 obtain ⟨pk, pa⟩ := pg
 refine Ew Z1 (Ey rfl ((Y.lss rfl rfl).yd) (n9 (fun q9 => ?_) (fun q9 => ?_)))
 ·refine Eu (Eq_ (o0 rfl (f8 (Et (Eq_ (E.block (Ew Z2 (Em rfl (Ei rfl (Ev Z6 (Em rfl (Em rfl (Em rfl ?_)))))))))))))
  obtain ⟨eb14, eo14, ea14, ei14, eh14⟩ := hs.elemI g om
  refine Ey rfl ((t6 us_Is f6 rfl ea14 rfl g rfl om).yd) (Ey rfl (f9 f6 rfl (eh14 _) rfl) (Ey rfl ((Y.eql rfl rfl).yd) (n9 (fun q16 => ?_) (fun q16 => ?_))))
  ·refine Eu (o0 rfl (Ew Z2 (Em rfl (Ei rfl ?_))))
   exact Eu (E.ret (B0 (o4 (o4 (B0 (o4 (Fg rfl rfl () (congrArg (Value.int .i64) (by exact W6 (p := fun x => decide (x = v)) om pa (decide_eq_true om))) rfl)))))))
  ·refine Eu (n0 rfl (f8 (s4 (Et (Ez Z2 (Ey rfl ((Y.add rfl rfl om om).yd) (Em rfl ?_)))))))
   exact Eu (x3 br (g + 1) rs (.refl _) ⟨by omega, W0 (p := fun x => decide (x = v)) om pa (decide_eq_false om)⟩ om)
 ·refine Eu (Eq_ (n0 rfl (E.exit (o3 (o3 (x5 (Et (Ew Z1 (Ei rfl ?_)))))))))
  exact Eu (E.ret (Fg rfl rfl () (congrArg (Value.int .i64) (by exact U3 om pa)) rfl))
theorem a0j : Tr Tryz.prog 130 [.int .i64 t] (fun w L => True) [] (κ := Unit) (fun k => True) (fun k => .bool (inR t 10 17)) (fun k => []) := by
 refine Tr.intro Tryz.func130 rfl (n := 5) rfl (by decide +kernel) bl (fr := [(0, .int .i64 t)]) rfl fun w L hR => (Ew Z1 (Ei rfl (Ev Z3 (Em rfl (Est rfl (m6 O6 rfl rfl rfl dc tv) (fun _ _ => (Ei rfl ?_)))))))
 exact Eu (E.ret (Fg rfl rfl () rfl rfl))
theorem a0h : Tr Tryz.prog 137 [.int .i64 t] (fun w L => True) [] (κ := Unit) (fun k => True) (fun k => .bool (inR t 10 17)) (fun k => []) := by
 refine Tr.intro Tryz.func137 rfl (n := 5) rfl (by decide +kernel) bl (fr := [(0, .int .i64 t)]) rfl fun w L hR => (Ew Z1 (Ei rfl (Ev Z3 (Em rfl (Est rfl (m6 P3 rfl rfl rfl dc tv) (fun _ _ => (Ei rfl ?_)))))))
 exact Eu (E.ret (Fg rfl rfl () rfl rfl))
theorem a0a : Tr Tryz.prog 138 [.agg #[.slice w7 B1 w6, .slice s6 u4 s5], .int .i64 t] (fun w L => Ro w L eIs [.slice w7 B1 w6] f7 ∧ Ro w L eIs [.slice s6 u4 s5] d9) [] (κ := Unit) (fun k => True) (fun k => .int .i64 (H3 (fun x => decide (x = t)) (f7.take (min f7.length d9.length)))) (fun k => []) := by
 refine Tr.intro Tryz.func138 rfl (n := 17) rfl (by decide +kernel) bl (fr := [(0, .agg #[.slice w7 B1 w6, .slice s6 u4 s5]), (1, .int .i64 t)]) rfl fun w L hR => ?_
 obtain ⟨y8, u9⟩ := hR
 obtain ⟨rfl, P1⟩ := y8.slen
 obtain ⟨rfl, I7⟩ := u9.slen
 refine Ew Z2 (Est rfl (N.box (cs := [_, _]) rfl dc rfl) (fun b2 _ => (Ei rfl (Ev Z13 (Ey rfl ((i0 fo_Binding_0 ty_Is dc rfl).yd) (Ey rfl (f9 ty_Is rfl (Hz m0 0 rfl) rfl) (Ey rfl ((i0 fo_Binding_0 ty_Is dc rfl).yd) (Ey rfl (f9 ty_Is rfl (Hz m0 0 rfl) rfl) (Ey rfl ((Y.len us_Is rfl).yd) (Ey rfl ((i0 fo_Binding_1 ty_Is dc rfl).yd) (Ey rfl (f9 ty_Is rfl (Hz m0 1 rfl) rfl) (Ey rfl ((Y.len us_Is rfl).yd) (Ey rfl ((b2f (a := f7.length) (b := d9.length) rfl rfl).yd) ?_)))))))))))))
 have rs14 := y8.upto (min f7.length d9.length) om
 have rl14 := rs14.slen.1
 have rc14 := y8.cap
 refine Ey rfl ((a2p (h := min f7.length d9.length) us_Is f6 rfl rfl om).yd) (Em rfl (Est rfl (m6 a5s rfl rfl rfl dc (fun w Lp hA => hA.ro rs14)) (fun _ _ => (Ei rfl ?_))))
 exact Eu (E.ret (Fg rfl rfl () rfl rfl))
theorem S5 : Tr Tryz.prog 74 [.agg #[.slice w7 B1 w6, .slice s6 u4 s5], .int .i64 term] (fun w L => Ro w L eIs [.slice w7 B1 w6] f7 ∧ Ro w L eIs [.slice s6 u4 s5] d9) [] (κ := Unit) (fun k => True) (fun k => .int .i64 (u6 (f7, d9) term)) (fun k => []) := by
 refine Tr.intro Tryz.func74 rfl (n := 20) rfl (by decide +kernel) bl (fr := [(0, .agg #[.slice w7 B1 w6, .slice s6 u4 s5]), (1, .int .i64 term)]) rfl fun w L hR => ?_
 obtain ⟨y8, u9⟩ := hR
 obtain ⟨rfl, P1⟩ := y8.slen
 obtain ⟨rfl, I7⟩ := u9.slen
 refine Ew Z2 (Est rfl (N.box (cs := [_, _]) rfl dc rfl) (fun b2 _ => (Ei rfl (Eu (Eq_ (Ew Z3 (Em rfl (Est rfl (m6 a0h rfl rfl rfl dc tv) (fun _ _ => (t7 (fun q7 => ?_) (fun q7 => ?_)))))))))))
 ·refine Ey rfl ((Y.not (b := true) rfl).yd) (Eu (n0 rfl (f8 (Et (Ew Z4 (Ey rfl (j6 (cs := [_, _]) ty_Binding rfl (Has.pt m0) rfl) (Em rfl (Est rfl (m6 a0a rfl rfl rfl dc (fun w Lp hA => ⟨hA.ro y8, hA.ro u9⟩)) (fun _ _ => (Ei rfl (Eu (Eq_ (Ew Z2 (Em rfl (Ey rfl ((Y.lss rfl rfl).yd) (n9 (fun q14 => ?_) (fun q14 => ?_)))))))))))))))))
  ·refine Eu (o0 rfl (Ew Z1 (Ei rfl ?_)))
   exact Eu (E.ret (o4 (Fg rfl rfl () (congrArg (Value.int .i64) (by exact a6l q7 q14)) rfl)))
  ·obtain ⟨z1, z2⟩ := b1j q14
   rw [List.length_take] at z2
   refine Eu (n0 rfl (f8 (Et (Ew Z6 (Ey rfl ((i0 fo_Binding_1 ty_Is dc rfl).yd) (Ey rfl (f9 ty_Is rfl (Hz m0 1 rfl) rfl) (Em rfl ?_)))))))
   obtain ⟨eb18, eo18, ea18, ei18, eh18⟩ := u9.elemI ((H3 (fun x => decide (x = term)) (f7.take (min f7.length d9.length))).toNat) om
   refine Ey rfl ((t6 us_Is f6 rfl ea18 rfl ((H3 (fun x => decide (x = term)) (f7.take (min f7.length d9.length))).toNat) om om).yd) (Ey rfl (f9 f6 rfl (eh18 _) rfl) (Ei rfl ?_))
   exact Eu (E.ret (Fg rfl rfl () (congrArg (Value.int .i64) (by exact a9z (b := (f7, d9)) q7 q14 (show (H3 (fun x => decide (x = term)) (f7.take (min f7.length d9.length))).toNat < d9.length by omega))) rfl))
 ·refine Ey rfl ((Y.not (b := false) rfl).yd) (Eu (o0 rfl (Ew Z2 (Em rfl (Ei rfl ?_)))))
  exact Eu (E.ret (o4 (Fg rfl rfl () (congrArg (Value.int .i64) (by exact R4 q7)) rfl)))
theorem T4 : Tr Tryz.prog 65 [.agg #[.slice w7 B1 w6, .slice s6 u4 s5], .int .i64 term] (fun w L => Ro w L eIs [.slice w7 B1 w6] f7 ∧ Ro w L eIs [.slice s6 u4 s5] d9) [] (κ := Unit) (fun k => True) (fun k => .int .i64 (u6 (f7, d9) term)) (fun k => []) := by
 refine Tr.intro Tryz.func65 rfl (n := 36) rfl (by decide +kernel) bl (fr := [(0, .agg #[.slice w7 B1 w6, .slice s6 u4 s5]), (1, .int .i64 term)]) rfl fun w L hR => ?_
 obtain ⟨y8, u9⟩ := hR
 obtain ⟨rfl, P1⟩ := y8.slen
 obtain ⟨rfl, I7⟩ := u9.slen
 refine Ew Z2 (Est rfl (N.box (cs := [_, _]) rfl dc rfl) (fun b2 _ => (Ei rfl (Eu (Eq_ (Ew Z3 (Em rfl (Est rfl (m6 a0j rfl rfl rfl dc tv) (fun _ _ => (t7 (fun q7 => ?_) (fun q7 => ?_)))))))))))
 ·refine Ey rfl ((Y.not (b := true) rfl).yd) (Eu (n0 rfl (f8 (Et (Eq_ (Ew Z1 (Ei rfl (Eu (E.block (E.loop (κ := Nat) (fun g => (g ≤ f7.length ∧ g ≤ d9.length) ∧ ∀ x ∈ f7.take g, decide (x = term) = false) (fun g => [(1, .int .i64 term), (2, .pointer (some ⟨b2, 0, none⟩)), (5, .int .i64 (g : Int))]) (fun g => [pt b2 39 [.slice w7 f7.length w6, .slice s6 d9.length s5]]) (fun g => f7.length - g) 0 ⟨by omega, by simp⟩ ⟨rfl, rfl, rfl, trivial⟩ (.refl _) (fun g pg => ?_)))))))))))
  obtain ⟨pk, pa⟩ := pg
  refine Eq_ (Ew Z12 (Em rfl (Ey rfl ((i0 fo_Binding_0 ty_Is dc rfl).yd) (Ey rfl (f9 ty_Is rfl (Hz m0 0 rfl) rfl) (Ey rfl ((Y.len us_Is rfl).yd) (Ey rfl ((Y.lss rfl rfl).yd) (n9 (fun q14 => ?_) (fun q14 => ?_))))))))
  ·refine Em rfl (Em rfl (Ey rfl ((i0 fo_Binding_1 ty_Is dc rfl).yd) (Ey rfl (f9 ty_Is rfl (Hz m0 1 rfl) rfl) (Ey rfl ((Y.len us_Is rfl).yd) (Ey rfl ((Y.lss rfl rfl).yd) (n9 (fun q20 => ?_) (fun q20 => ?_)))))))
   ·refine Ey rfl ((v8 rfl rfl).yd) (Eu (o0 rfl (f8 (Et (Eq_ (E.block (Ew Z7 (Ey rfl ((i0 fo_Binding_0 ty_Is dc rfl).yd) (Ey rfl (f9 ty_Is rfl (Hz m0 0 rfl) rfl) (Em rfl ?_))))))))))
    obtain ⟨eb27, eo27, ea27, ei27, eh27⟩ := y8.elemI g om
    refine Ey rfl ((t6 us_Is f6 rfl ea27 rfl g rfl om).yd) (Ey rfl (f9 f6 rfl (eh27 _) rfl) (Em rfl (Ey rfl ((Y.eql rfl rfl).yd) (n9 (fun q30 => ?_) (fun q30 => ?_)))))
    ·refine Eu (o0 rfl (Ew Z6 (Ey rfl ((i0 fo_Binding_1 ty_Is dc rfl).yd) (Ey rfl (f9 ty_Is rfl (Hz m0 1 rfl) rfl) (Em rfl ?_)))))
     obtain ⟨eb34, eo34, ea34, ei34, eh34⟩ := u9.elemI g om
     refine Ey rfl ((t6 us_Is f6 rfl ea34 rfl g rfl om).yd) (Ey rfl (f9 f6 rfl (eh34 _) rfl) (Ei rfl ?_))
     exact Eu (E.ret (B0 (o4 (o4 (B0 (o4 (Fg rfl rfl () (congrArg (Value.int .i64) (by exact a1o (b := (f7, d9)) q7 (show g < f7.length by omega) (show g < d9.length by omega) om pa)) rfl)))))))
    ·refine Eu (n0 rfl (f8 (s4 (Et (Ez Z3 (Em rfl (Ey rfl ((Y.add rfl rfl om om).yd) (Ei rfl ?_))))))))
     exact Eu (x3 br (g + 1) rs (.refl _) ⟨by omega, W0 (p := fun x => decide (x = term)) (show g < f7.length by omega) pa (decide_eq_false q30)⟩ om)
   ·refine Ey rfl ((v8 rfl rfl).yd) (Eu (n0 rfl (E.exit (o3 (o3 (x5 (Et (Ew Z1 (Ei rfl ?_)))))))))
    exact Eu (E.ret (Fg rfl rfl () (congrArg (Value.int .i64) (by exact a5y (b := (f7, d9)) q7 (g := g) (show ¬ (g < f7.length ∧ g < d9.length) by omega) pa)) rfl))
  ·refine Em rfl (Es rfl (Es rfl (Es rfl (Es rfl (Es rfl (Ey rfl ((u7 rfl rfl).yd) (Eu (n0 rfl (E.exit (o3 (o3 (x5 (Et (Ew Z1 (Ei rfl ?_)))))))))))))))
   exact Eu (E.ret (Fg rfl rfl () (congrArg (Value.int .i64) (by exact a5y (b := (f7, d9)) q7 (g := g) (show ¬ (g < f7.length ∧ g < d9.length) by omega) pa)) rfl))
 ·refine Ey rfl ((Y.not (b := false) rfl).yd) (Eu (o0 rfl (Ew Z2 (Em rfl (Ei rfl ?_)))))
  exact Eu (E.ret (o4 (Fg rfl rfl () (congrArg (Value.int .i64) (by exact R4 q7)) rfl)))
theorem X0 (hz : f5.length ≤ 1048576) : Tr Tryz.prog 53 [.agg #[.slice l0 r5 k6, .slice j3 o1 j0], .agg #[.slice w7 B1 w6, .slice s6 u4 s5]] (fun w L => Ro w L eIs [.slice l0 r5 k6] f5 ∧ Ro w L j8 [.slice j3 o1 j0] a6 ∧ Ro w L eIs [.slice w7 B1 w6] f7 ∧ Ro w L eIs [.slice s6 u4 s5] d9) [] (κ := Option Addr × Nat × Nat) (fun k => True) (fun k => .slice k.1 k.2.1 k.2.2) (fun k => [ow eIs [.slice k.1 k.2.1 k.2.2] (f5.map (u6 (f7, d9)))]) := by
 refine Tr.intro Tryz.func53 rfl (n := 26) rfl (by decide +kernel) bl (fr := [(0, .agg #[.slice l0 r5 k6, .slice j3 o1 j0]), (1, .agg #[.slice w7 B1 w6, .slice s6 u4 s5])]) rfl fun w L hR => ?_
 obtain ⟨o6, l4, y8, u9⟩ := hR
 obtain ⟨rfl, F2⟩ := o6.slen
 obtain ⟨rfl, E0⟩ := l4.slen
 obtain ⟨rfl, P1⟩ := y8.slen
 obtain ⟨rfl, I7⟩ := u9.slen
 have jv := a3m (b := (f7, d9)) (l := f5) o6.i64 y8.i64 u9.i64
 refine Ew Z3 (Est rfl (N.box (cs := [_, _]) rfl dc rfl) (fun b2 _ => (Est rfl (N.box (cs := [_, _]) rfl dc rfl) (fun b3 _ => (Ei rfl (Ev Z2 (Est rfl (Nb [] [] us_Is f6 rfl rfl) (fun b7 _ => (Ent.drop (Ei rfl (Eu (Eq_ (Ew Z1 (Ei rfl (Eu (E.block (o2 (A := []) (Own.nil (E := Enc.int) (e := tI) (a := (some ⟨b7, 0, none⟩))) rfl (i9 (congrArg (ow eIs [_]) (show [] = (f5.take 0).map (u6 (f7, d9)) from by first | rfl | (simp; done) | grind [d1, d2, t1, t2])) (E.loop (κ := Nat × Option Addr × Nat × Nat) (fun g => g.1 ≤ f5.length ∧ True) (fun g => [(2, .pointer (some ⟨b2, 0, none⟩)), (3, .pointer (some ⟨b3, 0, none⟩)), (5, .slice g.2.1 g.2.2.1 g.2.2.2), (6, .int .i64 (↑g.1 : Int))]) (fun g => [ow eIs [.slice g.2.1 g.2.2.1 g.2.2.2] ((f5.take g.1).map (u6 (f7, d9))), pt b3 39 [.slice w7 f7.length w6, .slice s6 d9.length s5], pt b2 27 [.slice l0 f5.length k6, .slice j3 a6.length j0]]) (fun g => f5.length - g.1) (0, (some ⟨b7, 0, none⟩), 0, 0) ⟨Nat.zero_le _, by simp⟩ ⟨rfl, rfl, rfl, rfl, trivial⟩ (.refl _) (fun g pg => ?_))))))))))))))))))))
 obtain ⟨g, aA0_0, mA0_0, cA0_0⟩ := g
 try dsimp only at pg
 try dsimp only
 obtain ⟨pk, pa⟩ := pg
 refine d4 m0 fun eaA0_0 laA0_0 => ?_
 subst eaA0_0
 refine Eq_ (Ew Z5 (Em rfl (Ey rfl ((i0 fo_Query_0 ty_Is dc rfl).yd) (Ey rfl (f9 ty_Is rfl (Hz (mS (mS m0)) 0 rfl) rfl) (Ey rfl ((Y.len us_Is rfl).yd) (Ey rfl ((Y.lss rfl rfl).yd) (n9 (fun q12 => ?_) (fun q12 => ?_))))))))
 ·refine Eu (o0 rfl (f8 (Et (Eq_ (E.block (D.region (fun j => !(Nat.beq j 9)) mixed (Dyp 0 rfl (i8 rfl) (Dy 1 rfl (j6 (cs := [_, _]) ty_Binding rfl (Has.pt (mS m0)) rfl) (Dyp 2 rfl (i0 fo_Query_0 ty_Is dc rfl) (Dy 3 rfl (f9 ty_Is rfl (Hz (mS (mS m0)) 0 rfl) rfl) (Dyp 4 rfl (i8 rfl) ?_)))))))))))
  obtain ⟨eb20, eo20, ea20, ei20, eh20⟩ := o6.elemI g om
  refine Dyp 5 rfl (t6 us_Is f6 rfl ea20 rfl g rfl om) (Dy 6 rfl (f9 f6 rfl (eh20 _) rfl) (r8 7 rfl rfl kr (fun _ => rfl) (m6 T4 rfl rfl rfl dc (fun w Lp hA => ⟨hA.ro y8, hA.ro u9⟩)) (fun _ _ => (r8 8 rfl rfl kr (fun _ => rfl) (Nb [_] [_] us_Is f6 rfl rfl) (fun b23 _ => (d7 (r8 9 rfl rfl kr (fun h => by cases h) (v7 (E := Enc.int) (ex := u6 (f7, d9) f5[g]) us_Is f6 rfl rfl rfl (Own.int i6) rfl bn bn dc) (fun p24 _ => (Dyp 10 rfl (C0 rfl) (r7 kr (s4 (Et (Ez Z3 (Em rfl (Ey rfl ((Y.add rfl rfl om om).yd) (Ei rfl (Eu (i9 (congrArg (ow eIs [_]) (show ((f5.take g).map (u6 (f7, d9))) ++ [u6 (f7, d9) f5[g]] = (f5.take (g + 1)).map (u6 (f7, d9)) from by grind [d1, d2, t1, t2])) (g9 (g9 (g9 ?_)))))))))))))))))))))
  exact Ea (g + 1, p24.1, (((f5.take g).map (u6 (f7, d9))).length + 1), p24.2) ⟨oz, trivial⟩
 ·refine Eu (n0 rfl (E.exit (o3 (o3 (x5 (Et (Ew Z2 (Em rfl (Ei rfl (Eu (E.ret (i9 (congrArg (ow eIs [_]) (show _ = f5.map (u6 (f7, d9)) by grind [d1, d2, t1, t2])) ?_))))))))))))
  exact Fg rfl rfl (_, _, _) rfl rfl
theorem S6 (hz : f5.length ≤ 1048576) : Tr Tryz.prog 20 [.agg #[.slice l0 r5 k6, .slice j3 o1 j0], .agg #[.slice w7 B1 w6, .slice s6 u4 s5]] (fun w L => Ro w L eIs [.slice l0 r5 k6] f5 ∧ Ro w L j8 [.slice j3 o1 j0] a6 ∧ Ro w L eIs [.slice w7 B1 w6] f7 ∧ Ro w L eIs [.slice s6 u4 s5] d9) [] (κ := Option Addr × Nat × Nat) (fun k => True) (fun k => .slice k.1 k.2.1 k.2.2) (fun k => [ow eIs [.slice k.1 k.2.1 k.2.2] (f5.map (u6 (f7, d9)))]) := by
 refine Tr.intro Tryz.func20 rfl (n := 24) rfl (by decide +kernel) bl (fr := [(0, .agg #[.slice l0 r5 k6, .slice j3 o1 j0]), (1, .agg #[.slice w7 B1 w6, .slice s6 u4 s5])]) rfl fun w L hR => ?_
 obtain ⟨o6, l4, y8, u9⟩ := hR
 obtain ⟨rfl, F2⟩ := o6.slen
 obtain ⟨rfl, E0⟩ := l4.slen
 obtain ⟨rfl, P1⟩ := y8.slen
 obtain ⟨rfl, I7⟩ := u9.slen
 have jv := a3m (b := (f7, d9)) (l := f5) o6.i64 y8.i64 u9.i64
 refine Ew Z3 (Est rfl (N.box (cs := [_, _]) rfl dc rfl) (fun b2 _ => (Est rfl (N.box (cs := [_, _]) rfl dc rfl) (fun b3 _ => (Ei rfl (Ev Z2 (Est rfl (Nb [] [] us_Is f6 rfl rfl) (fun b8 _ => (Ent.drop (Ei rfl (Eu (Eq_ (Ew Z4 (Ey rfl ((i0 fo_Query_0 ty_Is dc rfl).yd) (Ey rfl (f9 ty_Is rfl (Hz (mS m0) 0 rfl) rfl) (Ey rfl ((Y.len us_Is rfl).yd) (Em rfl (Eu (E.block (o2 (A := []) (Own.nil (E := Enc.int) (e := tI) (a := (some ⟨b8, 0, none⟩))) rfl (i9 (congrArg (ow eIs [_]) (show [] = (f5.take 0).map (u6 (f7, d9)) from by first | rfl | (simp; done) | grind [d1, d2, t1, t2])) (E.loop (κ := Nat × Option Addr × Nat × Nat) (fun g => g.1 ≤ f5.length ∧ True) (fun g => [(3, .pointer (some ⟨b3, 0, none⟩)), (5, .slice g.2.1 g.2.2.1 g.2.2.2), (10, .slice l0 f5.length k6), (11, .int .i64 (↑f5.length : Int)), (12, .int .i64 (↑g.1 : Int))]) (fun g => [ow eIs [.slice g.2.1 g.2.2.1 g.2.2.2] ((f5.take g.1).map (u6 (f7, d9))), pt b3 39 [.slice w7 f7.length w6, .slice s6 d9.length s5], pt b2 27 [.slice l0 f5.length k6, .slice j3 a6.length j0]]) (fun g => f5.length - g.1) (0, (some ⟨b8, 0, none⟩), 0, 0) ⟨Nat.zero_le _, by simp⟩ ⟨rfl, rfl, rfl, rfl, rfl, trivial⟩ (.refl _) (fun g pg => ?_)))))))))))))))))))))))
 obtain ⟨g, aA0_0, mA0_0, cA0_0⟩ := g
 try dsimp only at pg
 try dsimp only
 obtain ⟨pk, pa⟩ := pg
 refine d4 m0 fun eaA0_0 laA0_0 => ?_
 subst eaA0_0
 refine Ew Z1 (Ey rfl ((Y.lss rfl rfl).yd) (n9 (fun q13 => ?_) (fun q13 => ?_)))
 ·obtain ⟨eb14, eo14, ea14, ei14, eh14⟩ := o6.elemI g om
  refine Eu (Eq_ (o0 rfl (f8 (Et (Eq_ (E.block (Ew Z3 (Ey rfl ((t6 us_Is f6 rfl ea14 rfl g rfl om).yd) (Ey rfl (f9 f6 rfl (eh14 _) rfl) (Ei rfl (Eu (Ez Z7 (Em rfl (Ey rfl (j6 (cs := [_, _]) ty_Binding rfl (Has.pt (mS m0)) rfl) (Em rfl (Est rfl (m6 S5 rfl rfl rfl dc (fun w Lp hA => ⟨hA.ro y8, hA.ro u9⟩)) (fun _ _ => (Est rfl (Nb [_] [_] us_Is f6 rfl rfl) (fun b20 _ => (d7 (Est rfl (v7 (E := Enc.int) (ex := u6 (f7, d9) f5[g]) us_Is f6 rfl rfl rfl (Own.int i6) rfl bn bn dc) (fun p21 _ => (Ei rfl (En (s4 (Et (Ez Z2 (Ey rfl ((Y.add rfl rfl om om).yd) (Em rfl (Eu (i9 (congrArg (ow eIs [_]) (show ((f5.take g).map (u6 (f7, d9))) ++ [u6 (f7, d9) f5[g]] = (f5.take (g + 1)).map (u6 (f7, d9)) from by grind [d1, d2, t1, t2])) (g9 (g9 (g9 ?_))))))))))))))))))))))))))))))))))
  exact Ea (g + 1, p21.1, (((f5.take g).map (u6 (f7, d9))).length + 1), p21.2) ⟨oz, trivial⟩
 ·refine Eu (Eq_ (n0 rfl (E.exit (o3 (o3 (x5 (Et (Ew Z2 (Em rfl (Ei rfl (Eu (E.ret (i9 (congrArg (ow eIs [_]) (show _ = f5.map (u6 (f7, d9)) by grind [d1, d2, t1, t2])) ?_)))))))))))))
  exact Fg rfl rfl (_, _, _) rfl rfl
end Go.Proofs.YtbedienpleiamaaGreat
