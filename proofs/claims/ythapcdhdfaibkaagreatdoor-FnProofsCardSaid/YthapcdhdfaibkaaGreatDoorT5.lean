import Derived.Test.YthapcdhdfaibkaaGreatDoorT1
namespace Go.Proofs.YthapcdhdfaibkaaGreatDoor
open Go.RowKit
set_option linter.all false
set_option maxHeartbeats 2000000
attribute [local irreducible] Nop Yd Yp Ent Has Tr FnP FnP2 Src
variable {n l8 B0 F9 : Int} {s f0 C1 : List Int} {m_s c_s w3 s7 O3 K3 : Nat} {a_s s8 K4 : Option Addr}
theorem a5o : Tr Tryz.prog 342 [.int .i64 n] (fun w L => True) [] (κ := Unit) (fun k => True) (fun k => .bool (inR n 0 9)) (fun k => []) := by
 refine Tr.intro Tryz.func342 rfl (n := 5) rfl (by decide +kernel) bl (fr := [(0, .int .i64 n)]) rfl fun w L hR => (Ew Z1 (Ei rfl (Ev Z3 (Em rfl (Est rfl (l0 M8 rfl rfl rfl dc tv) (fun _ _ => (Ei rfl ?_)))))))
 exact Eu (E.ret (Fg rfl rfl () rfl rfl))
theorem a6J : Tr Tryz.prog 341 [.int .i64 n] (fun w L => (I64 n) ∧ True) [] (κ := Unit) (fun k => True) (fun k => .bool (!inR n 0 9)) (fun k => []) := by
 refine Tr.intro Tryz.func341 rfl (n := 6) rfl (by decide +kernel) bl (fr := [(0, .int .i64 n)]) rfl fun w L hR => ?_
 obtain ⟨i6n, _⟩ := hR
 refine Ew Z1 (Ei rfl (Ev Z4 (Em rfl (Est rfl (l0 a5o rfl rfl rfl dc tv) (fun _ _ => (Ey rfl ((Y.not rfl).yd) (Ei rfl ?_)))))))
 exact Eu (E.ret (Fb rfl rfl (by simp_all)))
theorem a1r {a_l : Option Addr} {m_l c_l : Nat} {l : List Int} : Tr Tryz.prog 281 [.slice a_l m_l c_l] (fun w L => Ro w L eIs [.slice a_l m_l c_l] l) [] (κ := Unit) (fun k => True) (fun k => .bool (G4 l)) (fun k => []) := by
 refine Tr.intro Tryz.func281 rfl (n := 6) rfl (by decide +kernel) bl (fr := [(0, .slice a_l m_l c_l)]) rfl fun w L hR => ?_
 have hl := hR
 obtain ⟨rfl, ll⟩ := hl.slen
 refine Ew Z1 (Ei rfl (Ev Z4 (Em rfl (Est rfl (l0 (a0H (f := (fun n => !inR n 0 9)) (D_f := (fun _ => True)) (by intros; exact trivial)) rfl rfl rfl dc (fun w Lp hA => ⟨hA.ro hl, a4c (D := (fun _ => True)) (fun hd => a6J) (fun w' hk => trivial)⟩)) (fun _ _ => (Ey rfl ((Y.not rfl).yd) (Ei rfl ?_)))))))
 exact Eu (E.ret (Fb rfl rfl (by rfl)))
theorem a3G : Tr Tryz.prog 187 [.slice a_s m_s c_s, .agg #[.int .i64 l8, .slice s8 w3 s7]] (fun w L => Ro w L eIs [.slice a_s m_s c_s] s ∧ I64 l8 ∧ Ro w L eIs [.slice s8 w3 s7] f0) [] (κ := Unit) (fun k => True) (fun k => .bool (B9 s (l8, f0))) (fun k => []) := by
 refine Tr.intro Tryz.func187 rfl (n := 25) rfl (by decide +kernel) bl (fr := [(0, .slice a_s m_s c_s), (1, .agg #[.int .i64 l8, .slice s8 w3 s7])]) rfl fun w L hR => ?_
 obtain ⟨hs, C3, v6⟩ := hR
 obtain ⟨rfl, ls⟩ := hs.slen
 obtain ⟨rfl, J1⟩ := v6.slen
 refine Ew Z2 (Est rfl (N.box (cs := [_, _]) rfl dc rfl) (fun b3 _ => (Ei rfl (Eu (Eq_ (D.region (fun j => true) mixed (Dyp 0 rfl (i8 rfl) (Dyp 1 rfl (f5 fo_Fact_0 f9 dc rfl) (Dy 2 rfl (g9 f9 rfl (Hz m0 0 rfl) rfl) (t6 3 rfl rfl kr (fun _ => rfl) (l0 a2u rfl rfl rfl dc (fun w Lp hA => hA.ro hs)) (fun _ _ => (Ent.b (fun q8 => ?_) (fun q8 => ?_)))))))))))))
 ·obtain ⟨z1, z2, _, _⟩ := a0n q8
  refine Dyp 4 rfl (i8 rfl) (Dyp 5 rfl (f5 fo_Fact_1 ty_Is dc rfl) (Dy 6 rfl (g9 ty_Is rfl (Hz m0 1 rfl) rfl) (Dyp 7 rfl (Y.len us_Is rfl) (Dyp 8 rfl (i8 rfl) (Dyp 9 rfl (f5 fo_Fact_0 f9 dc rfl) (Dy 10 rfl (g9 f9 rfl (Hz m0 0 rfl) rfl) ?_))))))
  obtain ⟨eb16, eo16, ea16, ei16, eh16⟩ := hs.elemI l8.toNat om
  refine Dyp 11 rfl (v8 us_Is f9 rfl ea16 rfl l8.toNat om om) (Dy 12 rfl (g9 f9 rfl (eh16 _) rfl) (Dyp 13 rfl (Y.eql rfl rfl) (o3 (fun q18 => ?_) (fun q18 => ?_))))
  ·refine Dyp 14 rfl (t8 rfl rfl) (Dyp 15 rfl (i8 rfl) (Dyp 16 rfl (f5 fo_Fact_1 ty_Is dc rfl) (Dy 17 rfl (g9 ty_Is rfl (Hz m0 1 rfl) rfl) (t6 18 rfl rfl kr (fun _ => rfl) (l0 a1r rfl rfl rfl dc (fun w Lp hA => hA.ro v6)) (fun _ _ => (Dyp 19 rfl (t8 rfl rfl) (Dyp 20 rfl (C2 rfl) ?_)))))))
   exact r9 kr (Et (E.ret (Fb rfl rfl (by exact a9R (f := (l8, f0)) q8 (G1 (i := l8) (show l8.toNat < s.length by omega)) q18))))
  ·refine Dyp 14 rfl (t8 rfl rfl) (Dyp 15 rfl (i8 rfl) (Dsk 16 rfl (Dsk 17 rfl (Dsk 18 rfl (Dyp 19 rfl (t7 rfl rfl) (Dyp 20 rfl (C2 rfl) ?_))))))
   exact r9 kr (Et (E.ret (Fb rfl rfl (by exact a8F (G1 (i := l8) (show l8.toNat < s.length by omega)) q18))))
 ·refine Dyp 4 rfl (i8 rfl) (Dsk 5 rfl (Dsk 6 rfl (Dsk 7 rfl (Dsk 8 rfl (Dsk 9 rfl (Dsk 10 rfl (Dsk 11 rfl (Dsk 12 rfl (Dsk 13 rfl (Dyp 14 rfl (t7 rfl rfl) (Dyp 15 rfl (i8 rfl) (Dsk 16 rfl (Dsk 17 rfl (Dsk 18 rfl (Dyp 19 rfl (t7 rfl rfl) (Dyp 20 rfl (C2 rfl) ?_))))))))))))))))
  exact r9 kr (Et (E.ret (Fb rfl rfl (by exact a5M q8))))
theorem a6m : Tr Tryz.prog 101 [.slice a_s m_s c_s, .agg #[.int .i64 l8, .slice s8 w3 s7]] (fun w L => Ro w L eIs [.slice a_s m_s c_s] s ∧ I64 l8 ∧ Ro w L eIs [.slice s8 w3 s7] f0) [] (κ := Unit) (fun k => True) (fun k => .bool (B9 s (l8, f0))) (fun k => []) := by
 refine Tr.intro Tryz.func101 rfl (n := 43) rfl (by decide +kernel) bl (fr := [(0, .slice a_s m_s c_s), (1, .agg #[.int .i64 l8, .slice s8 w3 s7])]) rfl fun w L hR => ?_
 obtain ⟨hs, C3, v6⟩ := hR
 obtain ⟨rfl, ls⟩ := hs.slen
 obtain ⟨rfl, J1⟩ := v6.slen
 refine Ew Z2 (Est rfl (N.box (cs := [_, _]) rfl dc rfl) (fun b3 _ => (Ei rfl (Eu (Eq_ (Eq_ (D.region (fun j => true) mixed (Dyp 0 rfl (i8 rfl) (t6 1 rfl rfl kr (fun _ => rfl) (l0 M9 rfl rfl rfl dc (fun w Lp hA => hA.ro hs)) (fun _ _ => (Ent.b (fun q7 => ?_) (fun q7 => ?_))))))))))))
 ·refine Dyp 2 rfl (Y.not (b := true) rfl) (Dyp 3 rfl (i8 rfl) (Dyp 4 rfl (f5 fo_Fact_0 f9 dc rfl) (Dy 5 rfl (g9 f9 rfl (Hz m0 0 rfl) rfl) (Dyp 6 rfl (i8 rfl) (Dyp 7 rfl (Y.len us_Is rfl) (Dyp 8 rfl (Y.sub rfl rfl om om) (t6 9 rfl rfl kr (fun _ => rfl) (l0 G0 rfl rfl rfl dc tv) (fun _ _ => (Ent.b (fun q15 => ?_) (fun q15 => ?_))))))))))
  ·have y1 : N6 s l8 = true := by rw [N6, q7, q15]; rfl
   obtain ⟨z1, z2, _, _⟩ := a0n y1
   refine Dyp 10 rfl (Y.not (b := true) rfl) (Dyp 11 rfl (t7 rfl rfl) (Dyp 12 rfl (i8 rfl) (Dyp 13 rfl (f5 fo_Fact_1 ty_Is dc rfl) (Dy 14 rfl (g9 ty_Is rfl (Hz m0 1 rfl) rfl) (Dyp 15 rfl (Y.len us_Is rfl) (Dyp 16 rfl (i8 rfl) (Dyp 17 rfl (f5 fo_Fact_0 f9 dc rfl) (Dy 18 rfl (g9 f9 rfl (Hz m0 0 rfl) rfl) ?_))))))))
   obtain ⟨eb25, eo25, ea25, ei25, eh25⟩ := hs.elemI l8.toNat om
   refine Dyp 19 rfl (v8 us_Is f9 rfl ea25 rfl l8.toNat om om) (Dy 20 rfl (g9 f9 rfl (eh25 _) rfl) (Dyp 21 rfl (Y.neq rfl rfl) (o3 (fun q27 => ?_) (fun q27 => ?_))))
   ·refine Dyp 22 rfl (t7 rfl rfl) (r9 kr (Et (n8 rfl (Ew Z1 (Ei rfl ?_)))))
    exact Eu (E.ret (n0 (Fb rfl rfl (by exact a8F (G1 (i := l8) (show l8.toNat < s.length by omega)) q27))))
   ·refine Dyp 22 rfl (t7 rfl rfl) (r9 kr (Et (o0 rfl (i7 (Et (Eq_ (Ew Z1 (Ei rfl (Eu (E.block (E.loop (κ := Nat) (fun g => g ≤ f0.length ∧ ∀ x ∈ f0.take g, (!inR x 0 9) = false) (fun g => [(3, .pointer (some ⟨b3, 0, none⟩)), (5, .int .i64 (g : Int))]) (fun g => [pt b3 85 [.int .i64 l8, .slice s8 f0.length s7]]) (fun g => f0.length - g) 0 ⟨by omega, by simp⟩ ⟨rfl, rfl, trivial⟩ (.refl _) (fun g pg => ?_))))))))))))
    obtain ⟨pk, pa⟩ := pg
    refine Eq_ (Ew Z5 (Em rfl (Ey rfl ((f5 fo_Fact_1 ty_Is dc rfl).yd) (Ey rfl (g9 ty_Is rfl (Hz m0 1 rfl) rfl) (Ey rfl ((Y.len us_Is rfl).yd) (Ey rfl ((Y.lss rfl rfl).yd) (o3 (fun q33 => ?_) (fun q33 => ?_))))))))
    ·refine Eu (n8 rfl (i7 (Et (Eq_ (E.block (Ew Z7 (Ey rfl ((f5 fo_Fact_1 ty_Is dc rfl).yd) (Ey rfl (g9 ty_Is rfl (Hz m0 1 rfl) rfl) (Em rfl ?_)))))))))
     obtain ⟨eb39, eo39, ea39, ei39, eh39⟩ := v6.elemI g om
     refine Ey rfl ((v8 us_Is f9 rfl ea39 rfl g rfl om).yd) (Ey rfl (g9 f9 rfl (eh39 _) rfl) (Est rfl (l0 G0 rfl rfl rfl dc tv) (fun _ _ => (Ent.b (fun q41 => ?_) (fun q41 => ?_)))))
     ·refine Ey rfl ((Y.not (b := true) rfl).yd) (Eu (o0 rfl (i7 (s9 (Et (Ez Z3 (Em rfl (Ey rfl ((Y.add rfl rfl om om).yd) (Ei rfl ?_)))))))))
      exact Eu (x6 br (g + 1) ⟨rfl, rfl, trivial⟩ (.refl _) ⟨by omega, W2 om pa (by rw [q41]; rfl)⟩ om)
     ·refine Ey rfl ((Y.not (b := false) rfl).yd) (Eu (n8 rfl (Ew Z1 (Ei rfl ?_))))
      exact Eu (E.ret (y8 (n0 (n0 (y8 (n0 (Fb rfl rfl (by exact b3z (by rw [G4, a5y (k := g) (show g < f0.length by omega) (by rw [q41]; rfl)]; rfl)))))))))
    ·refine Eu (o0 rfl (E.exit (q1 (q1 (y4 (Et (Ew Z1 (Ei rfl ?_))))))))
     exact Eu (E.ret (Fb rfl rfl (by rw [← a9R (f := (l8, f0)) y1 (G1 (i := l8) (show l8.toNat < s.length by omega)) (show (f0.length : Int) = s[l8.toNat] by omega), G4, a4j (show ¬ g < f0.length by omega) pa]; rfl)))
  ·refine Dyp 10 rfl (Y.not (b := false) rfl) (Dyp 11 rfl (t7 rfl rfl) (Dyp 12 rfl (i8 rfl) (Dsk 13 rfl (Dsk 14 rfl (Dsk 15 rfl (Dsk 16 rfl (Dsk 17 rfl (Dsk 18 rfl (Dsk 19 rfl (Dsk 20 rfl (Dsk 21 rfl (Dyp 22 rfl (t8 rfl rfl) (r9 kr (Et (n8 rfl (Ew Z1 (Ei rfl ?_)))))))))))))))))
   exact Eu (E.ret (n0 (Fb rfl rfl (by exact a5M (a7M q15)))))
 ·refine Dyp 2 rfl (Y.not (b := false) rfl) (Dyp 3 rfl (i8 rfl) (Dsk 4 rfl (Dsk 5 rfl (Dsk 6 rfl (Dsk 7 rfl (Dsk 8 rfl (Dsk 9 rfl (Dsk 10 rfl (Dyp 11 rfl (t8 rfl rfl) (Dyp 12 rfl (i8 rfl) (Dsk 13 rfl (Dsk 14 rfl (Dsk 15 rfl (Dsk 16 rfl (Dsk 17 rfl (Dsk 18 rfl (Dsk 19 rfl (Dsk 20 rfl (Dsk 21 rfl (Dyp 22 rfl (t8 rfl rfl) (r9 kr (Et (n8 rfl (Ew Z1 (Ei rfl ?_)))))))))))))))))))))))))
  exact Eu (E.ret (n0 (Fb rfl rfl (by exact a5M (b0b q7)))))
theorem a2X (hm : ∀ x ∈ C1, 0 ≤ x ∧ x < f0.length) (hz : C1.length ≤ 1048576) : Tr Tryz.prog 268 [.agg #[.int .i64 B0, .int .i64 F9, .slice K4 O3 K3], .agg #[.int .i64 l8, .slice s8 w3 s7]] (fun w L => I64 B0 ∧ I64 F9 ∧ Ro w L eIs [.slice K4 O3 K3] C1 ∧ I64 l8 ∧ Ro w L eIs [.slice s8 w3 s7] f0) [] (κ := Option Addr × Nat × Nat) (fun k => True) (fun k => .agg #[.int .i64 F9, .slice k.1 k.2.1 k.2.2]) (fun k => [ow eIs [.slice k.1 k.2.1 k.2.2] (vals C1 f0)]) := by
 refine Tr.intro Tryz.func268 rfl (n := 32) rfl (by decide +kernel) bl (fr := [(0, .agg #[.int .i64 B0, .int .i64 F9, .slice K4 O3 K3]), (1, .agg #[.int .i64 l8, .slice s8 w3 s7])]) rfl fun w L hR => ?_
 obtain ⟨a0p, a1x, S3, C3, v6⟩ := hR
 obtain ⟨rfl, a4r⟩ := S3.slen
 obtain ⟨rfl, J1⟩ := v6.slen
 refine Ew Z3 (Est rfl (N.box (cs := [_, _, _]) rfl dc rfl) (fun b2 _ => (Est rfl (N.box (cs := [_, _]) rfl dc rfl) (fun b3 _ => (Est rfl (N.alloc ty_Fact dc) (fun b4 _ => (Ev Z5 (Ey rfl ((f5 fo_Rule_1 f9 dc rfl).yd) (Ey rfl (g9 f9 rfl (Hz (mS (mS m0)) 1 rfl) rfl) (Ey rfl ((I2 (pvs := [_]) (cs := [_, _]) ty_Fact a2j rfl rfl).yd) (Est rfl (N.alloc ty_Fact dc) (fun b5 _ => (Est rfl (Ns [_, _] ty_Fact rfl) (fun _ _ => (Eu (Eq_ (Ew Z1 (Ei rfl (Eu (E.block (u9 (A := []) (Own.nil (E := Enc.int) (e := tI) (a := none)) rfl (E.loop (κ := Nat × Option Addr × Nat) (fun g => g.1 ≤ C1.length) (fun g => [(2, .pointer (some ⟨b2, 0, none⟩)), (3, .pointer (some ⟨b3, 0, none⟩)), (4, .pointer (some ⟨b4, 0, none⟩)), (5, .pointer (some ⟨b5, 0, none⟩)), (6, .int .i64 (↑g.1 : Int))]) (fun g => [ow eIs [.slice g.2.1 g.1 g.2.2] (vals (C1.take g.1) f0), pt b5 85 [.int .i64 F9, .slice g.2.1 g.1 g.2.2], pt b4 85 [.int .i64 0, .slice none 0 0], pt b3 85 [.int .i64 l8, .slice s8 f0.length s7], pt b2 268 [.int .i64 B0, .int .i64 F9, .slice K4 C1.length K3]]) (fun g => C1.length - g.1) (0, none, 0) (Nat.zero_le _) ⟨rfl, rfl, rfl, rfl, rfl, trivial⟩ (.refl _) (fun g pg => (Eq_ (Ew Z5 (Em rfl (Ey rfl ((f5 fo_Rule_2 ty_Is dc rfl).yd) (Ey rfl (g9 ty_Is rfl (Hz (mS (mS (mS (mS m0)))) 2 rfl) rfl) (Ey rfl ((Y.len us_Is rfl).yd) (Ey rfl ((Y.lss rfl rfl).yd) (o3 (fun q14 => ?_) (fun q14 => ?_))))))))))))))))))))))))))))))))
 ·have hm1 := hm C1[g.1] (List.getElem_mem om)
  refine Eu (n8 rfl (i7 (Et (Eq_ (E.block (D.region (fun j => !(Nat.beq j 12) && !(Nat.beq j 14)) mixed (Dyp 0 rfl (f5 fo_Fact_1 ty_Is dc rfl) (Dy 1 rfl (g9 ty_Is rfl (Hz (mS m0) 1 rfl) rfl) (Dyp 2 rfl (f5 fo_Fact_1 ty_Is dc rfl) (Dy 3 rfl (g9 ty_Is rfl (Hz (mS (mS (mS m0))) 1 rfl) rfl) (Dyp 4 rfl (f5 fo_Rule_2 ty_Is dc rfl) (Dy 5 rfl (g9 ty_Is rfl (Hz (mS (mS (mS (mS m0)))) 2 rfl) rfl) (Dyp 6 rfl (i8 rfl) ?_)))))))))))))
  obtain ⟨eb24, eo24, ea24, ei24, eh24⟩ := S3.elemI g.1 om
  refine Dyp 7 rfl (v8 us_Is f9 rfl ea24 rfl g.1 rfl om) (Dy 8 rfl (g9 f9 rfl (eh24 _) rfl) ?_)
  obtain ⟨eb26, eo26, ea26, ei26, eh26⟩ := v6.elemI C1[g.1].toNat om
  refine Dyp 9 rfl (v8 us_Is f9 rfl ea26 rfl C1[g.1].toNat om om) (Dy 10 rfl (g9 f9 rfl (eh26 _) rfl) (t6 11 rfl rfl kr (fun _ => rfl) (Nb [_] [_] us_Is f9 rfl rfl) (fun b28 _ => (d9 (t6 12 rfl rfl kr (fun h => by cases h) (C7 (E := Enc.int) (ex := f0[C1[g.1].toNat]) us_Is f9 rfl rfl rfl (Own.int ei26) rfl bn bn dc) (fun p29 _ => (Dyp 13 rfl (f5 fo_Fact_1 ty_Is dc rfl) (d9 (t6 14 rfl rfl kr (fun h => by cases h) (Ns [_, _] ty_Is rfl) (fun _ _ => (r9 kr (s9 (Et (Ez Z3 (Em rfl (Ey rfl ((Y.add rfl rfl om om).yd) (Ei rfl (Eu (d9 (j4 (congrArg (ow eIs [_]) (show (vals (C1.take g.1) f0) ++ [f0[C1[g.1].toNat]] = vals (C1.take (g.1 + 1)) f0 from b0j om om)) (j9 (j9 (j9 (j9 (j9 ?_)))))))))))))))))))))))))
  exact x6 br (g.1 + 1, p29.1, p29.2) rs (.refl _) (show g.1 + 1 ≤ _ by omega) (show _ - (g.1 + 1) < _ by omega)
 ·refine Eu (o0 rfl (E.exit (q1 (q1 (y4 (Et (Ew Z2 (Ey rfl (o6 (cs := [_, _]) ty_Fact rfl (Has.pt (mS m0)) rfl) (j8 (Est rfl (Ns [_, _] ty_Fact rfl) (fun _ _ => (Eu (E.ret (d9 (j4 (congrArg (ow eIs [_]) (show _ = vals C1 f0 by exact a5X om)) ?_)))))))))))))))
  exact O2 br rfl rfl (mS m0) ty_Fact rfl (_, _, _) trivial rfl (J := _) (.refl _) (.inl rfl)
theorem a1G (hm : l8 = B0 → ∀ x ∈ C1, 0 ≤ x ∧ x < f0.length) (hz : C1.length ≤ 1048576) : Tr Tryz.prog 338 [.agg #[.int .i64 B0, .int .i64 F9, .slice K4 O3 K3], .agg #[.int .i64 l8, .slice s8 w3 s7]] (fun w L => I64 B0 ∧ I64 F9 ∧ Ro w L eIs [.slice K4 O3 K3] C1 ∧ I64 l8 ∧ Ro w L eIs [.slice s8 w3 s7] f0) [] (κ := Option Addr × Nat × Nat) (fun k => True) (fun k => .tuple #[.agg #[.int .i64 (cond (decide (l8 = B0)) F9 0), .slice k.1 k.2.1 k.2.2], .bool (decide (l8 = B0))]) (fun k => [ow eIs [.slice k.1 k.2.1 k.2.2] (cond (decide (l8 = B0)) (vals C1 f0) [])]) := by
 refine Tr.intro Tryz.func338 rfl (n := 37) rfl (by decide +kernel) bl (fr := [(0, .agg #[.int .i64 B0, .int .i64 F9, .slice K4 O3 K3]), (1, .agg #[.int .i64 l8, .slice s8 w3 s7])]) rfl fun w L hR => ?_
 obtain ⟨a0p, a1x, S3, C3, v6⟩ := hR
 obtain ⟨rfl, a4r⟩ := S3.slen
 obtain ⟨rfl, J1⟩ := v6.slen
 refine Ew Z4 (Est rfl (N.box (cs := [_, _, _]) rfl dc rfl) (fun b2 _ => (Est rfl (N.box (cs := [_, _]) rfl dc rfl) (fun b3 _ => (Est rfl (N.alloc ty_Fact dc) (fun b4 _ => (Ei rfl (Eu (Eq_ (Ew Z5 (Ey rfl ((f5 fo_Fact_0 f9 dc rfl).yd) (Ey rfl (g9 f9 rfl (Hz (mS m0) 0 rfl) rfl) (Ey rfl ((f5 fo_Rule_0 f9 dc rfl).yd) (Ey rfl (g9 f9 rfl (Hz (mS (mS m0)) 0 rfl) rfl) (Ey rfl ((Y.neq rfl rfl).yd) (o3 (fun q13 => ?_) (fun q13 => ?_)))))))))))))))))
 ·refine Eu (n8 rfl (Ew Z3 (Ey rfl ((I2 (pvs := []) (cs := [_, _]) ty_Fact a2j rfl rfl).yd) (Est rfl (Ns [_, _] ty_Fact rfl) (fun _ _ => (Ei rfl (Eu (E.ret (n0 (u9 (A := []) (Own.nil (E := Enc.int) (e := tI) (a := none)) rfl (j4 (congrArg (ow eIs [_]) (show _ = cond (decide (l8 = B0)) (vals C1 f0) [] by simp only [decide_eq_false (show ¬ l8 = B0 from q13), cond_false])) ?_)))))))))))
  exact a1d br rfl rfl rfl (mS m0) ty_Fact rfl (none, 0, 0) trivial (by rw [show (cond (decide (l8 = B0)) F9 0) = (0) from (by simp only [decide_eq_false (show ¬ l8 = B0 from q13), cond_false])]; rw [show (decide (l8 = B0)) = (false) from (by simp only [decide_eq_false (show ¬ l8 = B0 from q13), cond_false])]; try rfl) (J := _) (.refl _) (.inl rfl)
 ·refine Eu (o0 rfl (i7 (Et (Ew Z5 (Ey rfl ((f5 fo_Rule_1 f9 dc rfl).yd) (Ey rfl (g9 f9 rfl (Hz (mS (mS m0)) 1 rfl) rfl) (Ey rfl ((I2 (pvs := [_]) (cs := [_, _]) ty_Fact a2j rfl rfl).yd) (Est rfl (N.alloc ty_Fact dc) (fun b6 _ => (Est rfl (Ns [_, _] ty_Fact rfl) (fun _ _ => (Eu (Eq_ (Ew Z4 (Ey rfl ((f5 fo_Rule_2 ty_Is dc rfl).yd) (Ey rfl (g9 ty_Is rfl (Hz (mS (mS (mS m0))) 2 rfl) rfl) (Ey rfl ((Y.len us_Is rfl).yd) (Em rfl (Eu (E.block (u9 (A := []) (Own.nil (E := Enc.int) (e := tI) (a := none)) rfl (E.loop (κ := Nat × Option Addr × Nat) (fun g => g.1 ≤ C1.length) (fun g => [(3, .pointer (some ⟨b3, 0, none⟩)), (4, .pointer (some ⟨b4, 0, none⟩)), (6, .pointer (some ⟨b6, 0, none⟩)), (19, .slice K4 C1.length K3), (20, .int .i64 (↑C1.length : Int)), (21, .int .i64 (↑g.1 : Int))]) (fun g => [ow eIs [.slice g.2.1 g.1 g.2.2] (vals (C1.take g.1) f0), pt b6 85 [.int .i64 F9, .slice g.2.1 g.1 g.2.2], pt b4 85 [.int .i64 0, .slice none 0 0], pt b3 85 [.int .i64 l8, .slice s8 f0.length s7], pt b2 268 [.int .i64 B0, .int .i64 F9, .slice K4 C1.length K3]]) (fun g => C1.length - g.1) (0, none, 0) (Nat.zero_le _) ⟨rfl, rfl, rfl, rfl, rfl, rfl, trivial⟩ (.refl _) (fun g pg => (Ew Z1 (Ey rfl ((Y.lss rfl rfl).yd) (o3 (fun q22 => ?_) (fun q22 => ?_)))))))))))))))))))))))))))
  ·have hm1 := hm om C1[g.1] (List.getElem_mem om)
   obtain ⟨eb23, eo23, ea23, ei23, eh23⟩ := S3.elemI g.1 om
   refine Eu (Eq_ (n8 rfl (i7 (Et (Eq_ (E.block (Ew Z3 (Ey rfl ((v8 us_Is f9 rfl ea23 rfl g.1 rfl om).yd) (Ey rfl (g9 f9 rfl (eh23 _) rfl) (Ei rfl (Eu (D.region (fun j => !(Nat.beq j 8) && !(Nat.beq j 10)) mixed (Dyp 0 rfl (f5 fo_Fact_1 ty_Is dc rfl) (Dy 1 rfl (g9 ty_Is rfl (Hz (mS m0) 1 rfl) rfl) (Dyp 2 rfl (f5 fo_Fact_1 ty_Is dc rfl) (Dy 3 rfl (g9 ty_Is rfl (Hz (mS (mS (mS m0))) 1 rfl) rfl) (Dyp 4 rfl (i8 rfl) ?_)))))))))))))))))
   obtain ⟨eb30, eo30, ea30, ei30, eh30⟩ := v6.elemI C1[g.1].toNat om
   refine Dyp 5 rfl (v8 us_Is f9 rfl ea30 rfl C1[g.1].toNat om om) (Dy 6 rfl (g9 f9 rfl (eh30 _) rfl) (t6 7 rfl rfl kr (fun _ => rfl) (Nb [_] [_] us_Is f9 rfl rfl) (fun b32 _ => (d9 (t6 8 rfl rfl kr (fun h => by cases h) (C7 (E := Enc.int) (ex := f0[C1[g.1].toNat]) us_Is f9 rfl rfl rfl (Own.int ei30) rfl bn bn dc) (fun p33 _ => (Dyp 9 rfl (f5 fo_Fact_1 ty_Is dc rfl) (d9 (t6 10 rfl rfl kr (fun h => by cases h) (Ns [_, _] ty_Is rfl) (fun _ _ => (r9 kr (s9 (Et (Ez Z2 (Ey rfl ((Y.add rfl rfl om om).yd) (Em rfl (Eu (d9 (j4 (congrArg (ow eIs [_]) (show (vals (C1.take g.1) f0) ++ [f0[C1[g.1].toNat]] = vals (C1.take (g.1 + 1)) f0 from b0j om om)) (j9 (j9 (j9 (j9 (j9 ?_))))))))))))))))))))))))
   exact x6 br (g.1 + 1, p33.1, p33.2) rs (.refl _) (show g.1 + 1 ≤ _ by omega) (show _ - (g.1 + 1) < _ by omega)
  ·refine Eu (Eq_ (o0 rfl (E.exit (q1 (q1 (y4 (Et (Ew Z3 (Ey rfl (o6 (cs := [_, _]) ty_Fact rfl (Has.pt (mS m0)) rfl) (j8 (Est rfl (Ns [_, _] ty_Fact rfl) (fun _ _ => (Ei rfl (Eu (E.ret (d9 (j4 (congrArg (ow eIs [_]) (show _ = cond (decide (l8 = B0)) (vals C1 f0) [] by simp only [decide_eq_true (show l8 = B0 by omega), cond_true, a5X (show C1.length ≤ g.1 by omega)])) ?_)))))))))))))))))
   exact a1d br rfl rfl rfl (mS m0) ty_Fact rfl (_, _, _) trivial (by rw [show (cond (decide (l8 = B0)) F9 0) = (F9) from (by simp only [decide_eq_true (show l8 = B0 by omega), cond_true, a5X (show C1.length ≤ g.1 by omega)])]; rw [show (decide (l8 = B0)) = (true) from (by simp only [decide_eq_true (show l8 = B0 by omega), cond_true, a5X (show C1.length ≤ g.1 by omega)])]; try rfl) (J := _) (.refl _) (.inl rfl)
theorem a4n : Tr Tryz.prog 275 [.slice a_s m_s c_s, .agg #[.int .i64 B0, .int .i64 F9, .slice K4 O3 K3], .agg #[.int .i64 l8, .slice s8 w3 s7]] (fun w L => Ro w L eIs [.slice a_s m_s c_s] s ∧ I64 B0 ∧ I64 F9 ∧ Ro w L eIs [.slice K4 O3 K3] C1 ∧ I64 l8 ∧ Ro w L eIs [.slice s8 w3 s7] f0) [] (κ := Option Addr × Nat × Nat) (fun k => True) (fun k => .tuple #[.agg #[.int .i64 (a0L s (B0, F9, C1) (l8, f0)), .slice k.1 k.2.1 k.2.2], .bool (a1V s (B0, F9, C1) (l8, f0))]) (fun k => [ow eIs [.slice k.1 k.2.1 k.2.2] (a1a s (B0, F9, C1) (l8, f0))]) := by
 refine Tr.intro Tryz.func275 rfl (n := 24) rfl (by decide +kernel) bl (fr := [(0, .slice a_s m_s c_s), (1, .agg #[.int .i64 B0, .int .i64 F9, .slice K4 O3 K3]), (2, .agg #[.int .i64 l8, .slice s8 w3 s7])]) rfl fun w L hR => ?_
 obtain ⟨hs, a0p, a1x, S3, C3, v6⟩ := hR
 obtain ⟨rfl, ls⟩ := hs.slen
 obtain ⟨rfl, a4r⟩ := S3.slen
 obtain ⟨rfl, J1⟩ := v6.slen
 refine Ew Z4 (Est rfl (N.box (cs := [_, _, _]) rfl dc rfl) (fun b4 _ => (Est rfl (N.box (cs := [_, _]) rfl dc rfl) (fun b5 _ => (Est rfl (N.alloc ty_Fact dc) (fun b6 _ => (Ei rfl (Eu (Eq_ (Ew Z10 (Em rfl (Ey rfl (o6 (cs := [_, _, _]) ty_Rule rfl (Has.pt (mS (mS m0))) rfl) (Est rfl (l0 a6o rfl rfl rfl dc (fun w Lp hA => ⟨hA.ro hs, a0p, a1x, hA.ro S3⟩)) (fun _ _ => (Ent.b (fun q10 => ?_) (fun q10 => ?_))))))))))))))))
 ·refine Ey rfl ((Y.not (b := true) rfl).yd) (Em rfl (Em rfl (Ey rfl (o6 (cs := [_, _]) ty_Fact rfl (Has.pt (mS m0)) rfl) (Est rfl (l0 a3G rfl rfl rfl dc (fun w Lp hA => ⟨hA.ro hs, C3, hA.ro v6⟩)) (fun _ _ => (Ent.b (fun q15 => ?_) (fun q15 => ?_)))))))
  ·refine Ey rfl ((Y.not (b := true) rfl).yd) (Ey rfl ((t7 rfl rfl).yd) (Eu (o0 rfl (i7 (Et (Ew Z7 (Ey rfl (o6 (cs := [_, _, _]) ty_Rule rfl (Has.pt (mS (mS m0))) rfl) (Ey rfl (o6 (cs := [_, _]) ty_Fact rfl (Has.pt (mS m0)) rfl) (Est rfl (N.call (a1G (show l8 = B0 → ∀ x ∈ C1, 0 ≤ x ∧ x < f0.length from a4L q10 q15) (show C1.length ≤ 1048576 from Nat.le_trans (a7U q10) dc)) rfl rfl rfl dc rfl (fun w Lp hA => ⟨a0p, a1x, hA.ro S3, C3, hA.ro v6⟩)) (fun k21 _ => ?_))))))))))
   obtain ⟨a21, m21, c21⟩ := k21
   refine d7 m0 fun e21 l21 => ?_
   subst e21
   refine Ey rfl ((Y.ext rfl rfl).yd) (Ey rfl ((Y.ext rfl rfl).yd) (d9 (Est rfl (Ns [_, _] ty_Fact rfl) (fun _ _ => (Ei rfl (Eu (E.ret (d9 (j4 (congrArg (ow eIs [_]) (show _ = a1a s (B0, F9, C1) (l8, f0) by simp only [a0L, a1a, a5j q10 q15, cond_true, cond_false])) ?_)))))))))
   exact a1d br rfl rfl rfl (mS m0) ty_Fact rfl (_, _, _) trivial (by rw [show (a0L s (B0, F9, C1) (l8, f0)) = (cond (decide (l8 = B0)) F9 0) from (by simp only [a0L, a1a, a5j q10 q15, cond_true, cond_false])]; rw [show (a1V s (B0, F9, C1) (l8, f0)) = (decide (l8 = B0)) from (by simp only [a0L, a1a, a5j q10 q15, cond_true, cond_false])]; try rfl) (J := _) (.refl _) (.inl rfl)
  ·refine Ey rfl ((Y.not (b := false) rfl).yd) (Ey rfl ((t7 rfl rfl).yd) (Eu (n8 rfl (Ew Z3 (Ey rfl ((I2 (pvs := []) (cs := [_, _]) ty_Fact a2j rfl rfl).yd) (Est rfl (Ns [_, _] ty_Fact rfl) (fun _ _ => (Ei rfl (Eu (E.ret (n0 (u9 (A := []) (Own.nil (E := Enc.int) (e := tI) (a := none)) rfl (j4 (congrArg (ow eIs [_]) (show _ = a1a s (B0, F9, C1) (l8, f0) by simp only [a0L, a1a, a7S q15, cond_true, cond_false])) ?_)))))))))))))
   exact a1d br rfl rfl rfl (mS m0) ty_Fact rfl (none, 0, 0) trivial (by rw [show (a0L s (B0, F9, C1) (l8, f0)) = (0) from (by simp only [a0L, a1a, a7S q15, cond_true, cond_false])]; rw [show (a1V s (B0, F9, C1) (l8, f0)) = (false) from (by simp only [a0L, a1a, a7S q15, cond_true, cond_false])]; try rfl) (J := _) (.refl _) (.inl rfl)
 ·refine Ey rfl ((Y.not (b := false) rfl).yd) (Em rfl (Es rfl (Es rfl (Es rfl (Es rfl (Ey rfl ((t8 rfl rfl).yd) (Eu (n8 rfl (Ew Z3 (Ey rfl ((I2 (pvs := []) (cs := [_, _]) ty_Fact a2j rfl rfl).yd) (Est rfl (Ns [_, _] ty_Fact rfl) (fun _ _ => (Ei rfl (Eu (E.ret (n0 (u9 (A := []) (Own.nil (E := Enc.int) (e := tI) (a := none)) rfl (j4 (congrArg (ow eIs [_]) (show _ = a1a s (B0, F9, C1) (l8, f0) by simp only [a0L, a1a, a7L q10, cond_true, cond_false])) ?_))))))))))))))))))
  exact a1d br rfl rfl rfl (mS m0) ty_Fact rfl (none, 0, 0) trivial (by rw [show (a0L s (B0, F9, C1) (l8, f0)) = (0) from (by simp only [a0L, a1a, a7L q10, cond_true, cond_false])]; rw [show (a1V s (B0, F9, C1) (l8, f0)) = (false) from (by simp only [a0L, a1a, a7L q10, cond_true, cond_false])]; try rfl) (J := _) (.refl _) (.inl rfl)
end Go.Proofs.YthapcdhdfaibkaaGreatDoor
