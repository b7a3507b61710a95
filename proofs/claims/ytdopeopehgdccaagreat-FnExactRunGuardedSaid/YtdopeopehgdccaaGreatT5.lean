import Derived.Test.YtdopeopehgdccaaGreatT1
namespace Go.Proofs.YtdopeopehgdccaaGreat
open Go.RowKit
set_option linter.all false
set_option maxHeartbeats 2000000
attribute [local irreducible] Nop Yd Yp Ent Has Tr FnP FnP2 Src
variable {l0 n o5 : Int} {r6 s f9 : List Int} {y4 w8 m_s c_s D3 y8 : Nat} {w9 a_s y9 : Option Addr}
theorem b1S {left : Int} : Tr Tryz.prog 60 [.agg #[.int .i64 l0, .slice w9 y4 w8], .int .i64 left] (fun w L => I64 l0 ∧ Ro w L eIs [.slice w9 y4 w8] r6 ∧ 0 ≤ left ∧ left ≤ 1048576) [] (κ := Unit) (fun k => True) (fun k => .int .i64 (szR (r6.length) left)) (fun k => []) := by
 refine n9 Tryz.func60 rfl (n := 12) rfl (by decide +kernel) bl (fr := [(0, .agg #[.int .i64 l0, .slice w9 y4 w8]), (1, .int .i64 left)]) rfl fun w L hR => ?_
 obtain ⟨G5, B6, as0, as1⟩ := hR
 obtain ⟨rfl, R9⟩ := B6.slen
 refine Ew Z2 (Est rfl (N.box (cs := [_, _]) rfl dc rfl) (fun b2 _ => (Ei rfl (Ev Z5 (Ey rfl ((j7 fo_lFact_1 ty_Is dc rfl).yd) (Ey rfl (g9 ty_Is rfl (Hz m0 1 rfl) rfl) (Em rfl (Est rfl (n0 a2R rfl rfl rfl dc (fun w Lp hA => ⟨hA.ro B6, (by first | assumption | omega), (by first | assumption | omega)⟩)) (fun _ _ => (Ei rfl (Eu (Eq_ (Ew Z2 (Em rfl (Ey rfl ((Y.lss rfl rfl).yd) (o6 (fun q10 => ?_) (fun q10 => ?_)))))))))))))))))
 ·have z10 := a0X q10 om
  refine Eu (o2 rfl (Ew Z1 (Ei rfl ?_)))
  exact Eu (E.ret (l4 (Fg rfl rfl () (congrArg (Value.int .i64) (by unfold szR; split <;> omega)) rfl)))
 ·obtain ⟨z10, y10⟩ := a1I q10 om
  refine Eu (o3 rfl (j5 (Et (Ew Z2 (Em rfl (Ei rfl ?_))))))
  exact Eu (E.ret (Fg rfl rfl () (congrArg (Value.int .i64) (by have e : szR (r6.length) left = left - ((r6.length : Nat) : Int) := by { unfold szR; split <;> omega }; omega)) rfl))
theorem b1E (h1 : r6.length ≤ 1048576) : Tr Tryz.prog 70 [.agg #[.int .i64 l0, .slice w9 y4 w8]] (fun w L => I64 l0 ∧ Ro w L eIs [.slice w9 y4 w8] r6) [] (κ := Option Addr × Nat × Nat) (fun k => True) (fun k => .agg #[.int .i64 l0, .slice k.1 k.2.1 k.2.2]) (fun k => [ow eIs [.slice k.1 k.2.1 k.2.2] r6]) := by
 refine n9 Tryz.func70 rfl (n := 12) rfl (by decide +kernel) bl (fr := [(0, .agg #[.int .i64 l0, .slice w9 y4 w8])]) rfl fun w L hR => ?_
 obtain ⟨G5, B6⟩ := hR
 obtain ⟨rfl, R9⟩ := B6.slen
 refine Ew Z2 (Est rfl (N.box (cs := [_, _]) rfl dc rfl) (fun b1 _ => (Est rfl (N.alloc ty_Fact dc) (fun b2 _ => (Ev Z1 (Est rfl (N.alloc ty_Fact dc) (fun b3 _ => (Ev Z4 (Ey rfl ((j7 fo_lFact_0 i8 dc rfl).yd) (Ey rfl (g9 i8 rfl (Hz (mS (mS m0)) 0 rfl) rfl) (Ey rfl ((j7 fo_Fact_0 i8 dc rfl).yd) (Est rfl (Ns [_, _] i8 rfl) (fun _ _ => (Ev Z5 (Ey rfl ((j7 fo_lFact_1 ty_Is dc rfl).yd) (Ey rfl (g9 ty_Is rfl (Hz (mS (mS m0)) 1 rfl) rfl) (Est rfl (N.call (Y3 fc) rfl rfl rfl dc rfl (fun w Lp hA => hA.ro B6)) (fun k9 _ => ?_))))))))))))))))))
 obtain ⟨a9, m9, c9⟩ := k9
 refine i9 m0 fun e9 l9 => ?_
 subst e9
 refine Ey rfl ((j7 fo_Fact_1 ty_Is dc rfl).yd) (i7 (Est rfl (Ns [_, _] ty_Is rfl) (fun _ _ => (Ev Z2 (Ey rfl (o9 (cs := [_, _]) ty_Fact rfl (Has.pt m0) rfl) (r5 (Est rfl (Ns [_, _] ty_Fact rfl) (fun _ _ => (Eu (E.ret (r5 ?_)))))))))))
 exact a2k br rfl rfl (mS m0) ty_Fact rfl (_, _, _) trivial rfl (J := _) (.refl _) (.inl rfl)
theorem b1H {U9 : Int} {s4 : Option Addr} {u5 s5 : Nat} {f8 : List Int} : Tr Tryz.prog 79 [.agg #[.int .i64 l0, .slice w9 y4 w8], .agg #[.int .i64 U9, .slice s4 u5 s5]] (fun w L => I64 l0 ∧ Ro w L eIs [.slice w9 y4 w8] r6 ∧ I64 U9 ∧ Ro w L eIs [.slice s4 u5 s5] f8) [] (κ := Unit) (fun k => True) (fun k => .bool (decide ((l0, r6) = (U9, f8)))) (fun k => []) := by
 refine n9 Tryz.func79 rfl (n := 16) rfl (by decide +kernel) bl (fr := [(0, .agg #[.int .i64 l0, .slice w9 y4 w8]), (1, .agg #[.int .i64 U9, .slice s4 u5 s5])]) rfl fun w L hR => ?_
 obtain ⟨G5, B6, a7X, w4⟩ := hR
 obtain ⟨rfl, R9⟩ := B6.slen
 obtain ⟨rfl, O3⟩ := w4.slen
 refine Ew Z3 (Est rfl (N.box (cs := [_, _]) rfl dc rfl) (fun b2 _ => (Est rfl (N.box (cs := [_, _]) rfl dc rfl) (fun b3 _ => (Ei rfl (Eu (Eq_ (Ew Z5 (Ey rfl ((j7 fo_Fact_0 i8 dc rfl).yd) (Ey rfl (g9 i8 rfl (Hz (mS m0) 0 rfl) rfl) (Ey rfl ((j7 fo_Fact_0 i8 dc rfl).yd) (Ey rfl (g9 i8 rfl (Hz m0 0 rfl) rfl) (Ey rfl ((Y.neq rfl rfl).yd) (o6 (fun q9 => ?_) (fun q9 => ?_)))))))))))))))
 ·refine Eu (o2 rfl (Ew Z1 (Ei rfl ?_)))
  exact Eu (E.ret (l4 (Fb rfl rfl (by simp_all))))
 ·refine Eu (o3 rfl (j5 (Et (Eq_ (Ew Z6 (Ey rfl ((j7 fo_Fact_1 ty_Is dc rfl).yd) (Ey rfl (g9 ty_Is rfl (Hz (mS m0) 1 rfl) rfl) (Ey rfl ((j7 fo_Fact_1 ty_Is dc rfl).yd) (Ey rfl (g9 ty_Is rfl (Hz m0 1 rfl) rfl) (Est rfl (n0 a0z rfl rfl rfl dc (fun w Lp hA => ⟨hA.ro B6, hA.ro w4⟩)) (fun _ _ => (Ent.b (fun q14 => ?_) (fun q14 => ?_)))))))))))))
  ·refine Ey rfl ((Y.not (b := true) rfl).yd) (Eu (o3 rfl (j5 (Et (Ew Z1 (Ei rfl ?_))))))
   exact Eu (E.ret (Fb rfl rfl (by simp_all)))
  ·refine Ey rfl ((Y.not (b := false) rfl).yd) (Eu (o2 rfl (Ew Z1 (Ei rfl ?_))))
   exact Eu (E.ret (l4 (Fb rfl rfl (by simp_all))))
theorem a5V : Tr Tryz.prog 273 [.int .i64 n] (fun w L => True) [] (κ := Unit) (fun k => True) (fun k => .bool (inR n 0 9)) (fun k => []) := by
 refine n9 Tryz.func273 rfl (n := 5) rfl (by decide +kernel) bl (fr := [(0, .int .i64 n)]) rfl fun w L hR => (Ew Z1 (Ei rfl (Ev Z3 (Em rfl (Est rfl (n0 Q4 rfl rfl rfl dc tv) (fun _ _ => (Ei rfl ?_)))))))
 exact Eu (E.ret (Fg rfl rfl () rfl rfl))
theorem a7y : Tr Tryz.prog 288 [.int .i64 n] (fun w L => (I64 n) ∧ True) [] (κ := Unit) (fun k => True) (fun k => .bool (!inR n 0 9)) (fun k => []) := by
 refine n9 Tryz.func288 rfl (n := 6) rfl (by decide +kernel) bl (fr := [(0, .int .i64 n)]) rfl fun w L hR => ?_
 obtain ⟨i6n, _⟩ := hR
 refine Ew Z1 (Ei rfl (Ev Z4 (Em rfl (Est rfl (n0 a5V rfl rfl rfl dc tv) (fun _ _ => (Ey rfl ((Y.not rfl).yd) (Ei rfl ?_)))))))
 exact Eu (E.ret (Fb rfl rfl (by simp_all)))
theorem a8X {a_l : Option Addr} {m_l c_l : Nat} {l : List Int} : Tr Tryz.prog 230 [.slice a_l m_l c_l] (fun w L => Ro w L eIs [.slice a_l m_l c_l] l) [] (κ := Unit) (fun k => True) (fun k => .bool (U5 l)) (fun k => []) := by
 refine n9 Tryz.func230 rfl (n := 6) rfl (by decide +kernel) bl (fr := [(0, .slice a_l m_l c_l)]) rfl fun w L hR => ?_
 have hl := hR
 obtain ⟨rfl, ll⟩ := hl.slen
 refine Ew Z1 (Ei rfl (Ev Z4 (Em rfl (Est rfl (n0 (V8 (f := (fun n => !inR n 0 9)) (D_f := (fun _ => True)) (by intros; exact trivial)) rfl rfl rfl dc (fun w Lp hA => ⟨hA.ro hl, a2H (D := (fun _ => True)) (fun hd => a7y) (fun w' hk => trivial)⟩)) (fun _ _ => (Ey rfl ((Y.not rfl).yd) (Ei rfl ?_)))))))
 exact Eu (E.ret (Fb rfl rfl (by rfl)))
theorem b1N : Tr Tryz.prog 155 [.slice a_s m_s c_s, .agg #[.int .i64 o5, .slice y9 D3 y8]] (fun w L => Ro w L eIs [.slice a_s m_s c_s] s ∧ I64 o5 ∧ Ro w L eIs [.slice y9 D3 y8] f9) [] (κ := Unit) (fun k => True) (fun k => .bool (J2 s (o5, f9))) (fun k => []) := by
 refine n9 Tryz.func155 rfl (n := 25) rfl (by decide +kernel) bl (fr := [(0, .slice a_s m_s c_s), (1, .agg #[.int .i64 o5, .slice y9 D3 y8])]) rfl fun w L hR => ?_
 obtain ⟨hs, J6, B4⟩ := hR
 obtain ⟨rfl, ls⟩ := hs.slen
 obtain ⟨rfl, Y9⟩ := B4.slen
 refine Ew Z2 (Est rfl (N.box (cs := [_, _]) rfl dc rfl) (fun b3 _ => (Ei rfl (Eu (Eq_ (D.region (fun j => true) mixed (Dyp 0 rfl (l3 rfl) (Dyp 1 rfl (j7 fo_Fact_0 i8 dc rfl) (Dy 2 rfl (g9 i8 rfl (Hz m0 0 rfl) rfl) (t8 3 rfl rfl kr (fun _ => rfl) (n0 a4n rfl rfl rfl dc (fun w Lp hA => hA.ro hs)) (fun _ _ => (Ent.b (fun q8 => ?_) (fun q8 => ?_)))))))))))))
 ·obtain ⟨z1, z2, _, _⟩ := a1e q8
  refine Dyp 4 rfl (l3 rfl) (Dyp 5 rfl (j7 fo_Fact_1 ty_Is dc rfl) (Dy 6 rfl (g9 ty_Is rfl (Hz m0 1 rfl) rfl) (Dyp 7 rfl (Y.len us_Is rfl) (Dyp 8 rfl (l3 rfl) (Dyp 9 rfl (j7 fo_Fact_0 i8 dc rfl) (Dy 10 rfl (g9 i8 rfl (Hz m0 0 rfl) rfl) ?_))))))
  obtain ⟨eb16, eo16, ea16, ei16, eh16⟩ := hs.elemI o5.toNat om
  refine Dyp 11 rfl (r7 us_Is i8 rfl ea16 rfl o5.toNat om om) (Dy 12 rfl (g9 i8 rfl (eh16 _) rfl) (Dyp 13 rfl (Y.eql rfl rfl) (o6 (fun q18 => ?_) (fun q18 => ?_))))
  ·refine Dyp 14 rfl (u7 rfl rfl) (Dyp 15 rfl (l3 rfl) (Dyp 16 rfl (j7 fo_Fact_1 ty_Is dc rfl) (Dy 17 rfl (g9 ty_Is rfl (Hz m0 1 rfl) rfl) (t8 18 rfl rfl kr (fun _ => rfl) (n0 a8X rfl rfl rfl dc (fun w Lp hA => hA.ro B4)) (fun _ _ => (Dyp 19 rfl (u7 rfl rfl) (Dyp 20 rfl (F7 rfl) ?_)))))))
   exact r8 kr (Et (E.ret (Fb rfl rfl (by exact b1e (f := (o5, f9)) q8 (G0 (i := o5) (show o5.toNat < s.length by omega)) q18))))
  ·refine Dyp 14 rfl (u7 rfl rfl) (Dyp 15 rfl (l3 rfl) (Dsk 16 rfl (Dsk 17 rfl (Dsk 18 rfl (Dyp 19 rfl (u0 rfl rfl) (Dyp 20 rfl (F7 rfl) ?_))))))
   exact r8 kr (Et (E.ret (Fb rfl rfl (by exact a9A (G0 (i := o5) (show o5.toNat < s.length by omega)) q18))))
 ·refine Dyp 4 rfl (l3 rfl) (Dsk 5 rfl (Dsk 6 rfl (Dsk 7 rfl (Dsk 8 rfl (Dsk 9 rfl (Dsk 10 rfl (Dsk 11 rfl (Dsk 12 rfl (Dsk 13 rfl (Dyp 14 rfl (u0 rfl rfl) (Dyp 15 rfl (l3 rfl) (Dsk 16 rfl (Dsk 17 rfl (Dsk 18 rfl (Dyp 19 rfl (u0 rfl rfl) (Dyp 20 rfl (F7 rfl) ?_))))))))))))))))
  exact r8 kr (Et (E.ret (Fb rfl rfl (by exact a6l q8))))
theorem b1O : Tr Tryz.prog 139 [.slice a_s m_s c_s, .agg #[.int .i64 o5, .slice y9 D3 y8]] (fun w L => Ro w L eIs [.slice a_s m_s c_s] s ∧ I64 o5 ∧ Ro w L eIs [.slice y9 D3 y8] f9) [] (κ := Unit) (fun k => True) (fun k => .bool (J2 s (o5, f9))) (fun k => []) := by
 refine n9 Tryz.func139 rfl (n := 43) rfl (by decide +kernel) bl (fr := [(0, .slice a_s m_s c_s), (1, .agg #[.int .i64 o5, .slice y9 D3 y8])]) rfl fun w L hR => ?_
 obtain ⟨hs, J6, B4⟩ := hR
 obtain ⟨rfl, ls⟩ := hs.slen
 obtain ⟨rfl, Y9⟩ := B4.slen
 refine Ew Z2 (Est rfl (N.box (cs := [_, _]) rfl dc rfl) (fun b3 _ => (Ei rfl (Eu (Eq_ (Eq_ (D.region (fun j => true) mixed (Dyp 0 rfl (l3 rfl) (t8 1 rfl rfl kr (fun _ => rfl) (n0 a0s rfl rfl rfl dc (fun w Lp hA => hA.ro hs)) (fun _ _ => (Ent.b (fun q7 => ?_) (fun q7 => ?_))))))))))))
 ·refine Dyp 2 rfl (Y.not (b := true) rfl) (Dyp 3 rfl (l3 rfl) (Dyp 4 rfl (j7 fo_Fact_0 i8 dc rfl) (Dy 5 rfl (g9 i8 rfl (Hz m0 0 rfl) rfl) (Dyp 6 rfl (l3 rfl) (Dyp 7 rfl (Y.len us_Is rfl) (Dyp 8 rfl (Y.sub rfl rfl om om) (t8 9 rfl rfl kr (fun _ => rfl) (n0 K2 rfl rfl rfl dc tv) (fun _ _ => (Ent.b (fun q15 => ?_) (fun q15 => ?_))))))))))
  ·have y1 : N6 s o5 = true := by rw [N6, q7, q15]; rfl
   obtain ⟨z1, z2, _, _⟩ := a1e y1
   refine Dyp 10 rfl (Y.not (b := true) rfl) (Dyp 11 rfl (u0 rfl rfl) (Dyp 12 rfl (l3 rfl) (Dyp 13 rfl (j7 fo_Fact_1 ty_Is dc rfl) (Dy 14 rfl (g9 ty_Is rfl (Hz m0 1 rfl) rfl) (Dyp 15 rfl (Y.len us_Is rfl) (Dyp 16 rfl (l3 rfl) (Dyp 17 rfl (j7 fo_Fact_0 i8 dc rfl) (Dy 18 rfl (g9 i8 rfl (Hz m0 0 rfl) rfl) ?_))))))))
   obtain ⟨eb25, eo25, ea25, ei25, eh25⟩ := hs.elemI o5.toNat om
   refine Dyp 19 rfl (r7 us_Is i8 rfl ea25 rfl o5.toNat om om) (Dy 20 rfl (g9 i8 rfl (eh25 _) rfl) (Dyp 21 rfl (Y.neq rfl rfl) (o6 (fun q27 => ?_) (fun q27 => ?_))))
   ·refine Dyp 22 rfl (u0 rfl rfl) (r8 kr (Et (o2 rfl (Ew Z1 (Ei rfl ?_)))))
    exact Eu (E.ret (l4 (Fb rfl rfl (by exact a9A (G0 (i := o5) (show o5.toNat < s.length by omega)) q27))))
   ·refine Dyp 22 rfl (u0 rfl rfl) (r8 kr (Et (o3 rfl (j5 (Et (Eq_ (Ew Z1 (Ei rfl (Eu (E.block (E.loop (κ := Nat) (fun g => g ≤ f9.length ∧ ∀ x ∈ f9.take g, (!inR x 0 9) = false) (fun g => [(3, .pointer (some ⟨b3, 0, none⟩)), (5, .int .i64 (g : Int))]) (fun g => [pt b3 115 [.int .i64 o5, .slice y9 f9.length y8]]) (fun g => f9.length - g) 0 ⟨by omega, by simp⟩ ⟨rfl, rfl, trivial⟩ (.refl _) (fun g pg => ?_))))))))))))
    obtain ⟨pk, pa⟩ := pg
    refine Eq_ (Ew Z5 (Em rfl (Ey rfl ((j7 fo_Fact_1 ty_Is dc rfl).yd) (Ey rfl (g9 ty_Is rfl (Hz m0 1 rfl) rfl) (Ey rfl ((Y.len us_Is rfl).yd) (Ey rfl ((Y.lss rfl rfl).yd) (o6 (fun q33 => ?_) (fun q33 => ?_))))))))
    ·refine Eu (o2 rfl (j5 (Et (Eq_ (E.block (Ew Z7 (Ey rfl ((j7 fo_Fact_1 ty_Is dc rfl).yd) (Ey rfl (g9 ty_Is rfl (Hz m0 1 rfl) rfl) (Em rfl ?_)))))))))
     obtain ⟨eb39, eo39, ea39, ei39, eh39⟩ := B4.elemI g om
     refine Ey rfl ((r7 us_Is i8 rfl ea39 rfl g rfl om).yd) (Ey rfl (g9 i8 rfl (eh39 _) rfl) (Est rfl (n0 K2 rfl rfl rfl dc tv) (fun _ _ => (Ent.b (fun q41 => ?_) (fun q41 => ?_)))))
     ·refine Ey rfl ((Y.not (b := true) rfl).yd) (Eu (o3 rfl (j5 (t7 (Et (Ez Z3 (Em rfl (Ey rfl ((Y.add rfl rfl om om).yd) (Ei rfl ?_)))))))))
      exact Eu (v8 br (g + 1) ⟨rfl, rfl, trivial⟩ (.refl _) ⟨by omega, T2 om pa (by rw [q41]; rfl)⟩ om)
     ·refine Ey rfl ((Y.not (b := false) rfl).yd) (Eu (o2 rfl (Ew Z1 (Ei rfl ?_))))
      exact Eu (E.ret (w5 (l4 (l4 (w5 (l4 (Fb rfl rfl (by exact b4B (by rw [U5, b0I (k := g) (show g < f9.length by omega) (by rw [q41]; rfl)]; rfl)))))))))
    ·refine Eu (o3 rfl (E.exit (o8 (o8 (x9 (Et (Ew Z1 (Ei rfl ?_))))))))
     exact Eu (E.ret (Fb rfl rfl (by rw [← b1e (f := (o5, f9)) y1 (G0 (i := o5) (show o5.toNat < s.length by omega)) (show (f9.length : Int) = s[o5.toNat] by omega), U5, a8C (show ¬ g < f9.length by omega) pa]; rfl)))
  ·refine Dyp 10 rfl (Y.not (b := false) rfl) (Dyp 11 rfl (u0 rfl rfl) (Dyp 12 rfl (l3 rfl) (Dsk 13 rfl (Dsk 14 rfl (Dsk 15 rfl (Dsk 16 rfl (Dsk 17 rfl (Dsk 18 rfl (Dsk 19 rfl (Dsk 20 rfl (Dsk 21 rfl (Dyp 22 rfl (u7 rfl rfl) (r8 kr (Et (o2 rfl (Ew Z1 (Ei rfl ?_)))))))))))))))))
   exact Eu (E.ret (l4 (Fb rfl rfl (by exact a6l (b6i q15)))))
 ·refine Dyp 2 rfl (Y.not (b := false) rfl) (Dyp 3 rfl (l3 rfl) (Dsk 4 rfl (Dsk 5 rfl (Dsk 6 rfl (Dsk 7 rfl (Dsk 8 rfl (Dsk 9 rfl (Dsk 10 rfl (Dyp 11 rfl (u7 rfl rfl) (Dyp 12 rfl (l3 rfl) (Dsk 13 rfl (Dsk 14 rfl (Dsk 15 rfl (Dsk 16 rfl (Dsk 17 rfl (Dsk 18 rfl (Dsk 19 rfl (Dsk 20 rfl (Dsk 21 rfl (Dyp 22 rfl (u7 rfl rfl) (r8 kr (Et (o2 rfl (Ew Z1 (Ei rfl ?_)))))))))))))))))))))))))
  exact Eu (E.ret (l4 (Fb rfl rfl (by exact a6l (b4V q7)))))
end Go.Proofs.YtdopeopehgdccaaGreat
