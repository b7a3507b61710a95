import Derived.Test.YtfnbilpemdgkkaaGreatDoorT1
namespace Go.Proofs.YtfnbilpemdgkkaaGreatDoor
open Go.RowKit
set_option linter.all false
set_option maxHeartbeats 2000000
attribute [local irreducible] Nop Yd Yp Ent Has Tr FnP FnP2 Src
variable {n d6 i7 r6 : Int} {s c8 n0 : List Int} {m_s c_s m8 j9 z8 x4 : Nat} {a_s k6 x5 : Option Addr}
theorem a4C : Tr Tryz.prog 192 [.int .i64 n] (fun w L => True) [] (κ := Unit) (fun k => True) (fun k => .bool (inR n 0 9)) (fun k => []) := by
 refine f8 Tryz.func192 rfl (n := 5) rfl (by decide +kernel) bl (fr := [(0, .int .i64 n)]) rfl fun w L hR => (Ew Z1 (Ei rfl (Ev Z3 (Em rfl (Est rfl (f5 G0 rfl rfl rfl dc tv) (fun _ _ => (Ei rfl ?_)))))))
 exact Eu (E.ret (Fg rfl rfl () rfl rfl))
theorem a2m : Tr Tryz.prog 191 [.int .i64 n] (fun w L => (I64 n) ∧ True) [] (κ := Unit) (fun k => True) (fun k => .bool (!inR n 0 9)) (fun k => []) := by
 refine f8 Tryz.func191 rfl (n := 6) rfl (by decide +kernel) bl (fr := [(0, .int .i64 n)]) rfl fun w L hR => ?_
 obtain ⟨i6n, _⟩ := hR
 refine Ew Z1 (Ei rfl (Ev Z4 (Em rfl (Est rfl (f5 a4C rfl rfl rfl dc tv) (fun _ _ => (Ey rfl ((Y.not rfl).yd) (Ei rfl ?_)))))))
 exact Eu (E.ret (Fb rfl rfl (by simp_all)))
theorem a3e {a_l : Option Addr} {m_l c_l : Nat} {l : List Int} : Tr Tryz.prog 158 [.slice a_l m_l c_l] (fun w L => Ro w L eIs [.slice a_l m_l c_l] l) [] (κ := Unit) (fun k => True) (fun k => .bool (K5 l)) (fun k => []) := by
 refine f8 Tryz.func158 rfl (n := 6) rfl (by decide +kernel) bl (fr := [(0, .slice a_l m_l c_l)]) rfl fun w L hR => ?_
 have hl := hR
 obtain ⟨rfl, ll⟩ := hl.slen
 refine Ew Z1 (Ei rfl (Ev Z4 (Em rfl (Est rfl (f5 (S0 (f := (fun n => !inR n 0 9)) (D_f := (fun _ => True)) (by intros; exact trivial)) rfl rfl rfl dc (fun w Lp hA => ⟨hA.ro hl, a4V (D := (fun _ => True)) (fun hd => a2m) (fun w' hk => trivial)⟩)) (fun _ _ => (Ey rfl ((Y.not rfl).yd) (Ei rfl ?_)))))))
 exact Eu (E.ret (Fb rfl rfl (by rfl)))
theorem a1Y : Tr Tryz.prog 110 [.slice a_s m_s c_s, .agg #[.int .i64 d6, .slice k6 m8 j9]] (fun w L => Ro w L eIs [.slice a_s m_s c_s] s ∧ I64 d6 ∧ Ro w L eIs [.slice k6 m8 j9] c8) [] (κ := Unit) (fun k => True) (fun k => .bool (u6 s (d6, c8))) (fun k => []) := by
 refine f8 Tryz.func110 rfl (n := 25) rfl (by decide +kernel) bl (fr := [(0, .slice a_s m_s c_s), (1, .agg #[.int .i64 d6, .slice k6 m8 j9])]) rfl fun w L hR => ?_
 obtain ⟨hs, t8, m6⟩ := hR
 obtain ⟨rfl, ls⟩ := hs.slen
 obtain ⟨rfl, D3⟩ := m6.slen
 refine Ew Z2 (Est rfl (N.box (cs := [_, _]) rfl dc rfl) (fun b3 _ => (Ei rfl (Eu (Eq_ (D.region (fun j => true) mixed (Dyp 0 rfl (g0 rfl) (Dyp 1 rfl (g9 fo_Fact_0 f4 dc rfl) (Dy 2 rfl (f7 f4 rfl (Hz m0 0 rfl) rfl) (w3 3 rfl rfl kr (fun _ => rfl) (f5 a0c rfl rfl rfl dc (fun w Lp hA => hA.ro hs)) (fun _ _ => (r5 (fun q8 => ?_) (fun q8 => ?_)))))))))))))
 ·obtain ⟨z1, z2, _, _⟩ := J4 q8
  refine Dyp 4 rfl (g0 rfl) (Dyp 5 rfl (g9 fo_Fact_1 ty_Is dc rfl) (Dy 6 rfl (f7 ty_Is rfl (Hz m0 1 rfl) rfl) (Dyp 7 rfl (Y.len us_Is rfl) (Dyp 8 rfl (g0 rfl) (Dyp 9 rfl (g9 fo_Fact_0 f4 dc rfl) (Dy 10 rfl (f7 f4 rfl (Hz m0 0 rfl) rfl) ?_))))))
  obtain ⟨eb16, eo16, ea16, ei16, eh16⟩ := hs.elemI d6.toNat om
  refine Dyp 11 rfl (r8 us_Is f4 rfl ea16 rfl d6.toNat om om) (Dy 12 rfl (f7 f4 rfl (eh16 _) rfl) (Dyp 13 rfl (Y.eql rfl rfl) (j8 (fun q18 => ?_) (fun q18 => ?_))))
  ·refine Dyp 14 rfl (o0 rfl rfl) (Dyp 15 rfl (g0 rfl) (Dyp 16 rfl (g9 fo_Fact_1 ty_Is dc rfl) (Dy 17 rfl (f7 ty_Is rfl (Hz m0 1 rfl) rfl) (w3 18 rfl rfl kr (fun _ => rfl) (f5 a3e rfl rfl rfl dc (fun w Lp hA => hA.ro m6)) (fun _ _ => (Dyp 19 rfl (o0 rfl rfl) (Dyp 20 rfl (F1 rfl) ?_)))))))
   exact o3 kr (Et (E.ret (Fb rfl rfl (by exact a5j (f := (d6, c8)) q8 (E1 (i := d6) (show d6.toNat < s.length by omega)) q18))))
  ·refine Dyp 14 rfl (o0 rfl rfl) (Dyp 15 rfl (g0 rfl) (Dsk 16 rfl (Dsk 17 rfl (Dsk 18 rfl (Dyp 19 rfl (o6 rfl rfl) (Dyp 20 rfl (F1 rfl) ?_))))))
   exact o3 kr (Et (E.ret (Fb rfl rfl (by exact a4c (E1 (i := d6) (show d6.toNat < s.length by omega)) q18))))
 ·refine Dyp 4 rfl (g0 rfl) (Dsk 5 rfl (Dsk 6 rfl (Dsk 7 rfl (Dsk 8 rfl (Dsk 9 rfl (Dsk 10 rfl (Dsk 11 rfl (Dsk 12 rfl (Dsk 13 rfl (Dyp 14 rfl (o6 rfl rfl) (Dyp 15 rfl (g0 rfl) (Dsk 16 rfl (Dsk 17 rfl (Dsk 18 rfl ?_))))))))))))))
  refine Dyp 19 rfl (o6 rfl rfl) (Dyp 20 rfl (F1 rfl) ?_)
  exact o3 kr (Et (E.ret (Fb rfl rfl (by exact a1M q8))))
theorem a1X : Tr Tryz.prog 68 [.slice a_s m_s c_s, .agg #[.int .i64 d6, .slice k6 m8 j9]] (fun w L => Ro w L eIs [.slice a_s m_s c_s] s ∧ I64 d6 ∧ Ro w L eIs [.slice k6 m8 j9] c8) [] (κ := Unit) (fun k => True) (fun k => .bool (u6 s (d6, c8))) (fun k => []) := by
 refine f8 Tryz.func68 rfl (n := 43) rfl (by decide +kernel) bl (fr := [(0, .slice a_s m_s c_s), (1, .agg #[.int .i64 d6, .slice k6 m8 j9])]) rfl fun w L hR => ?_
 obtain ⟨hs, t8, m6⟩ := hR
 obtain ⟨rfl, ls⟩ := hs.slen
 obtain ⟨rfl, D3⟩ := m6.slen
 refine Ew Z2 (Est rfl (N.box (cs := [_, _]) rfl dc rfl) (fun b3 _ => (Ei rfl (Eu (Eq_ (Eq_ (D.region (fun j => true) mixed (Dyp 0 rfl (g0 rfl) (w3 1 rfl rfl kr (fun _ => rfl) (f5 F3 rfl rfl rfl dc (fun w Lp hA => hA.ro hs)) (fun _ _ => (r5 (fun q7 => ?_) (fun q7 => ?_))))))))))))
 ·refine Dyp 2 rfl (Y.not (b := true) rfl) (Dyp 3 rfl (g0 rfl) (Dyp 4 rfl (g9 fo_Fact_0 f4 dc rfl) (Dy 5 rfl (f7 f4 rfl (Hz m0 0 rfl) rfl) (Dyp 6 rfl (g0 rfl) (Dyp 7 rfl (Y.len us_Is rfl) (Dyp 8 rfl (Y.sub rfl rfl om om) (w3 9 rfl rfl kr (fun _ => rfl) (f5 E5 rfl rfl rfl dc tv) (fun _ _ => (r5 (fun q15 => ?_) (fun q15 => ?_))))))))))
  ·have y1 : D7 s d6 = true := by rw [D7, q7, q15]; rfl
   obtain ⟨z1, z2, _, _⟩ := J4 y1
   refine Dyp 10 rfl (Y.not (b := true) rfl) (Dyp 11 rfl (o6 rfl rfl) (Dyp 12 rfl (g0 rfl) (Dyp 13 rfl (g9 fo_Fact_1 ty_Is dc rfl) (Dy 14 rfl (f7 ty_Is rfl (Hz m0 1 rfl) rfl) (Dyp 15 rfl (Y.len us_Is rfl) (Dyp 16 rfl (g0 rfl) (Dyp 17 rfl (g9 fo_Fact_0 f4 dc rfl) (Dy 18 rfl (f7 f4 rfl (Hz m0 0 rfl) rfl) ?_))))))))
   obtain ⟨eb25, eo25, ea25, ei25, eh25⟩ := hs.elemI d6.toNat om
   refine Dyp 19 rfl (r8 us_Is f4 rfl ea25 rfl d6.toNat om om) (Dy 20 rfl (f7 f4 rfl (eh25 _) rfl) (Dyp 21 rfl (Y.neq rfl rfl) (j8 (fun q27 => ?_) (fun q27 => ?_))))
   ·refine Dyp 22 rfl (o6 rfl rfl) (o3 kr (Et (l3 rfl (Ew Z1 (Ei rfl ?_)))))
    exact Eu (E.ret (j0 (Fb rfl rfl (by exact a4c (E1 (i := d6) (show d6.toNat < s.length by omega)) q27))))
   ·refine Dyp 22 rfl (o6 rfl rfl) (o3 kr (Et (l4 rfl (d9 (Et (Eq_ (Ew Z1 (Ei rfl (Eu (E.block (E.loop (κ := Nat) (fun g => g ≤ c8.length ∧ ∀ x ∈ c8.take g, (!inR x 0 9) = false) (fun g => [(3, .pointer (some ⟨b3, 0, none⟩)), (5, .int .i64 (g : Int))]) (fun g => [pt b3 44 [.int .i64 d6, .slice k6 c8.length j9]]) (fun g => c8.length - g) 0 ⟨by omega, by simp⟩ ⟨rfl, rfl, trivial⟩ (.refl _) (fun g pg => ?_))))))))))))
    obtain ⟨pk, pa⟩ := pg
    refine Eq_ (Ew Z5 (Em rfl (Ey rfl ((g9 fo_Fact_1 ty_Is dc rfl).yd) (Ey rfl (f7 ty_Is rfl (Hz m0 1 rfl) rfl) (Ey rfl ((Y.len us_Is rfl).yd) (Ey rfl ((Y.lss rfl rfl).yd) (j8 (fun q33 => ?_) (fun q33 => ?_))))))))
    ·refine Eu (l3 rfl (d9 (Et (Eq_ (E.block (Ew Z7 (Ey rfl ((g9 fo_Fact_1 ty_Is dc rfl).yd) (Ey rfl (f7 ty_Is rfl (Hz m0 1 rfl) rfl) (Em rfl ?_)))))))))
     obtain ⟨eb39, eo39, ea39, ei39, eh39⟩ := m6.elemI g om
     refine Ey rfl ((r8 us_Is f4 rfl ea39 rfl g rfl om).yd) (Ey rfl (f7 f4 rfl (eh39 _) rfl) (Est rfl (f5 E5 rfl rfl rfl dc tv) (fun _ _ => (r5 (fun q41 => ?_) (fun q41 => ?_)))))
     ·refine Ey rfl ((Y.not (b := true) rfl).yd) (Eu (l4 rfl (d9 (o2 (Et (Ez Z3 (Em rfl (Ey rfl ((Y.add rfl rfl om om).yd) (Ei rfl ?_)))))))))
      exact Eu (u7 br (g + 1) ⟨rfl, rfl, trivial⟩ (.refl _) ⟨by omega, K8 om pa (by rw [q41]; rfl)⟩ om)
     ·refine Ey rfl ((Y.not (b := false) rfl).yd) (Eu (l3 rfl (Ew Z1 (Ei rfl ?_))))
      exact Eu (E.ret (w8 (j0 (j0 (w8 (j0 (Fb rfl rfl (by exact a8D (by rw [K5, a1q (k := g) (show g < c8.length by omega) (by rw [q41]; rfl)]; rfl)))))))))
    ·refine Eu (l4 rfl (E.exit (n8 (n8 (w7 (Et (Ew Z1 (Ei rfl ?_))))))))
     exact Eu (E.ret (Fb rfl rfl (by rw [← a5j (f := (d6, c8)) y1 (E1 (i := d6) (show d6.toNat < s.length by omega)) (show (c8.length : Int) = s[d6.toNat] by omega), K5, a0v (show ¬ g < c8.length by omega) pa]; rfl)))
  ·refine Dyp 10 rfl (Y.not (b := false) rfl) (Dyp 11 rfl (o6 rfl rfl) (Dyp 12 rfl (g0 rfl) (Dsk 13 rfl (Dsk 14 rfl (Dsk 15 rfl (Dsk 16 rfl (Dsk 17 rfl (Dsk 18 rfl (Dsk 19 rfl (Dsk 20 rfl (Dsk 21 rfl (Dyp 22 rfl (o0 rfl rfl) (o3 kr (Et (l3 rfl (Ew Z1 (Ei rfl ?_)))))))))))))))))
   exact Eu (E.ret (j0 (Fb rfl rfl (by exact a1M (a3d q15)))))
 ·refine Dyp 2 rfl (Y.not (b := false) rfl) (Dyp 3 rfl (g0 rfl) (Dsk 4 rfl (Dsk 5 rfl (Dsk 6 rfl (Dsk 7 rfl (Dsk 8 rfl (Dsk 9 rfl (Dsk 10 rfl (Dyp 11 rfl (o0 rfl rfl) (Dyp 12 rfl (g0 rfl) (Dsk 13 rfl (Dsk 14 rfl (Dsk 15 rfl (Dsk 16 rfl ?_))))))))))))))
  refine Dsk 17 rfl (Dsk 18 rfl (Dsk 19 rfl (Dsk 20 rfl (Dsk 21 rfl (Dyp 22 rfl (o0 rfl rfl) (o3 kr (Et (l3 rfl (Ew Z1 (Ei rfl ?_))))))))))
  exact Eu (E.ret (j0 (Fb rfl rfl (by exact a1M (a5r q7)))))
theorem K7 (hm : ∀ x ∈ n0, 0 ≤ x ∧ x < c8.length) (hz : n0.length ≤ 1048576) : Tr Tryz.prog 97 [.agg #[.int .i64 i7, .int .i64 r6, .slice x5 z8 x4], .agg #[.int .i64 d6, .slice k6 m8 j9]] (fun w L => I64 i7 ∧ I64 r6 ∧ Ro w L eIs [.slice x5 z8 x4] n0 ∧ I64 d6 ∧ Ro w L eIs [.slice k6 m8 j9] c8) [] (κ := Option Addr × Nat × Nat) (fun k => True) (fun k => .agg #[.int .i64 r6, .slice k.1 k.2.1 k.2.2]) (fun k => [ow eIs [.slice k.1 k.2.1 k.2.2] (u9 n0 c8)]) := by
 refine f8 Tryz.func97 rfl (n := 32) rfl (by decide +kernel) bl (fr := [(0, .agg #[.int .i64 i7, .int .i64 r6, .slice x5 z8 x4]), (1, .agg #[.int .i64 d6, .slice k6 m8 j9])]) rfl fun w L hR => ?_
 obtain ⟨F4, L4, B6, t8, m6⟩ := hR
 obtain ⟨rfl, Y5⟩ := B6.slen
 obtain ⟨rfl, D3⟩ := m6.slen
 refine Ew Z3 (Est rfl (N.box (cs := [_, _, _]) rfl dc rfl) (fun b2 _ => (Est rfl (N.box (cs := [_, _]) rfl dc rfl) (fun b3 _ => (Est rfl (N.alloc ty_Fact dc) (fun b4 _ => (Ev Z5 (Ey rfl ((g9 fo_Rule_1 f4 dc rfl).yd) (Ey rfl (f7 f4 rfl (Hz (mS (mS m0)) 1 rfl) rfl) (Ey rfl ((F5 (pvs := [_]) (cs := [_, _]) ty_Fact K4 rfl rfl).yd) (Est rfl (N.alloc ty_Fact dc) (fun b5 _ => (Est rfl (Ns [_, _] ty_Fact rfl) (fun _ _ => (Eu (Eq_ (Ew Z1 (Ei rfl (Eu (E.block (o1 (A := []) (Own.nil (E := Enc.int) (e := tI) (a := none)) rfl (E.loop (κ := Nat × Option Addr × Nat) (fun g => g.1 ≤ n0.length) (fun g => [(2, .pointer (some ⟨b2, 0, none⟩)), (3, .pointer (some ⟨b3, 0, none⟩)), (4, .pointer (some ⟨b4, 0, none⟩)), (5, .pointer (some ⟨b5, 0, none⟩)), (6, .int .i64 (↑g.1 : Int))]) (fun g => [ow eIs [.slice g.2.1 g.1 g.2.2] (u9 (n0.take g.1) c8), pt b5 44 [.int .i64 r6, .slice g.2.1 g.1 g.2.2], pt b4 44 [.int .i64 0, .slice none 0 0], pt b3 44 [.int .i64 d6, .slice k6 c8.length j9], pt b2 73 [.int .i64 i7, .int .i64 r6, .slice x5 n0.length x4]]) (fun g => n0.length - g.1) (0, none, 0) (Nat.zero_le _) ⟨rfl, rfl, rfl, rfl, rfl, trivial⟩ (.refl _) (fun g pg => (Eq_ (Ew Z5 (Em rfl (Ey rfl ((g9 fo_Rule_2 ty_Is dc rfl).yd) (Ey rfl (f7 ty_Is rfl (Hz (mS (mS (mS (mS m0)))) 2 rfl) rfl) (Ey rfl ((Y.len us_Is rfl).yd) ?_)))))))))))))))))))))))))))))
 refine Ey rfl ((Y.lss rfl rfl).yd) (j8 (fun q14 => ?_) (fun q14 => ?_))
 ·have hm1 := hm n0[g.1] (List.getElem_mem om)
  refine Eu (l3 rfl (d9 (Et (Eq_ (E.block (D.region (fun j => !(Nat.beq j 12) && !(Nat.beq j 14)) mixed (Dyp 0 rfl (g9 fo_Fact_1 ty_Is dc rfl) (Dy 1 rfl (f7 ty_Is rfl (Hz (mS m0) 1 rfl) rfl) (Dyp 2 rfl (g9 fo_Fact_1 ty_Is dc rfl) (Dy 3 rfl (f7 ty_Is rfl (Hz (mS (mS (mS m0))) 1 rfl) rfl) (Dyp 4 rfl (g9 fo_Rule_2 ty_Is dc rfl) (Dy 5 rfl (f7 ty_Is rfl (Hz (mS (mS (mS (mS m0)))) 2 rfl) rfl) (Dyp 6 rfl (g0 rfl) ?_)))))))))))))
  obtain ⟨eb24, eo24, ea24, ei24, eh24⟩ := B6.elemI g.1 om
  refine Dyp 7 rfl (r8 us_Is f4 rfl ea24 rfl g.1 rfl om) (Dy 8 rfl (f7 f4 rfl (eh24 _) rfl) ?_)
  obtain ⟨eb26, eo26, ea26, ei26, eh26⟩ := m6.elemI n0[g.1].toNat om
  refine Dyp 9 rfl (r8 us_Is f4 rfl ea26 rfl n0[g.1].toNat om om) (Dy 10 rfl (f7 f4 rfl (eh26 _) rfl) (w3 11 rfl rfl kr (fun _ => rfl) (Nb [_] [_] us_Is f4 rfl rfl) (fun b28 _ => (d7 (w3 12 rfl rfl kr (fun h => by cases h) (N.push (E := Enc.int) (ex := c8[n0[g.1].toNat]) us_Is f4 rfl rfl rfl (Own.int ei26) rfl bn bn dc) (fun p29 _ => (Dyp 13 rfl (g9 fo_Fact_1 ty_Is dc rfl) (d7 (w3 14 rfl rfl kr (fun h => by cases h) (Ns [_, _] ty_Is rfl) (fun _ _ => (o3 kr (o2 (Et (Ez Z3 (Em rfl (Ey rfl ((Y.add rfl rfl om om).yd) (Ei rfl (Eu (d7 (f9 (congrArg (ow eIs [_]) (show (u9 (n0.take g.1) c8) ++ [c8[n0[g.1].toNat]] = u9 (n0.take (g.1 + 1)) c8 from a5b om om)) (B0 (B0 ?_))))))))))))))))))))))
  refine B0 (B0 (B0 ?_))
  exact u7 br (g.1 + 1, p29.1, p29.2) rs (.refl _) (show g.1 + 1 ≤ _ by omega) (show _ - (g.1 + 1) < _ by omega)
 ·refine Eu (l4 rfl (E.exit (n8 (n8 (w7 (Et (Ew Z2 (Ey rfl (l8 (cs := [_, _]) ty_Fact rfl (Has.pt (mS m0)) rfl) (l6 (Est rfl (Ns [_, _] ty_Fact rfl) (fun _ _ => (Eu (E.ret (d7 (f9 (congrArg (ow eIs [_]) (show _ = u9 n0 c8 by exact a1H om)) ?_)))))))))))))))
  exact M0 br rfl rfl (mS m0) ty_Fact rfl (_, _, _) trivial rfl (J := _) (.refl _) (.inl rfl)
theorem P0 (hm : d6 = i7 → ∀ x ∈ n0, 0 ≤ x ∧ x < c8.length) (hz : n0.length ≤ 1048576) : Tr Tryz.prog 111 [.agg #[.int .i64 i7, .int .i64 r6, .slice x5 z8 x4], .agg #[.int .i64 d6, .slice k6 m8 j9]] (fun w L => I64 i7 ∧ I64 r6 ∧ Ro w L eIs [.slice x5 z8 x4] n0 ∧ I64 d6 ∧ Ro w L eIs [.slice k6 m8 j9] c8) [] (κ := Option Addr × Nat × Nat) (fun k => True) (fun k => .tuple #[.agg #[.int .i64 (cond (decide (d6 = i7)) r6 0), .slice k.1 k.2.1 k.2.2], .bool (decide (d6 = i7))]) (fun k => [ow eIs [.slice k.1 k.2.1 k.2.2] (cond (decide (d6 = i7)) (u9 n0 c8) [])]) := by
 refine f8 Tryz.func111 rfl (n := 37) rfl (by decide +kernel) bl (fr := [(0, .agg #[.int .i64 i7, .int .i64 r6, .slice x5 z8 x4]), (1, .agg #[.int .i64 d6, .slice k6 m8 j9])]) rfl fun w L hR => ?_
 obtain ⟨F4, L4, B6, t8, m6⟩ := hR
 obtain ⟨rfl, Y5⟩ := B6.slen
 obtain ⟨rfl, D3⟩ := m6.slen
 refine Ew Z4 (Est rfl (N.box (cs := [_, _, _]) rfl dc rfl) (fun b2 _ => (Est rfl (N.box (cs := [_, _]) rfl dc rfl) (fun b3 _ => (Est rfl (N.alloc ty_Fact dc) (fun b4 _ => (Ei rfl (Eu (Eq_ (Ew Z5 (Ey rfl ((g9 fo_Fact_0 f4 dc rfl).yd) (Ey rfl (f7 f4 rfl (Hz (mS m0) 0 rfl) rfl) (Ey rfl ((g9 fo_Rule_0 f4 dc rfl).yd) (Ey rfl (f7 f4 rfl (Hz (mS (mS m0)) 0 rfl) rfl) (Ey rfl ((Y.neq rfl rfl).yd) (j8 (fun q13 => ?_) (fun q13 => ?_)))))))))))))))))
 ·refine Eu (l3 rfl (Ew Z3 (Ey rfl ((F5 (pvs := []) (cs := [_, _]) ty_Fact K4 rfl rfl).yd) (Est rfl (Ns [_, _] ty_Fact rfl) (fun _ _ => (Ei rfl (Eu (E.ret (j0 (o1 (A := []) (Own.nil (E := Enc.int) (e := tI) (a := none)) rfl (f9 (congrArg (ow eIs [_]) (show _ = cond (decide (d6 = i7)) (u9 n0 c8) [] by simp only [decide_eq_false (show ¬ d6 = i7 from q13), cond_false])) ?_)))))))))))
  exact X1 br rfl rfl rfl (mS m0) ty_Fact rfl (none, 0, 0) trivial (by rw [show (cond (decide (d6 = i7)) r6 0) = (0) from (by simp only [decide_eq_false (show ¬ d6 = i7 from q13), cond_false])]; rw [show (decide (d6 = i7)) = (false) from (by simp only [decide_eq_false (show ¬ d6 = i7 from q13), cond_false])]; try rfl) (J := _) (.refl _) (.inl rfl)
 ·refine Eu (l4 rfl (d9 (Et (Ew Z5 (Ey rfl ((g9 fo_Rule_1 f4 dc rfl).yd) (Ey rfl (f7 f4 rfl (Hz (mS (mS m0)) 1 rfl) rfl) (Ey rfl ((F5 (pvs := [_]) (cs := [_, _]) ty_Fact K4 rfl rfl).yd) (Est rfl (N.alloc ty_Fact dc) (fun b6 _ => (Est rfl (Ns [_, _] ty_Fact rfl) (fun _ _ => (Eu (Eq_ (Ew Z4 (Ey rfl ((g9 fo_Rule_2 ty_Is dc rfl).yd) (Ey rfl (f7 ty_Is rfl (Hz (mS (mS (mS m0))) 2 rfl) rfl) (Ey rfl ((Y.len us_Is rfl).yd) (Em rfl (Eu (E.block (o1 (A := []) (Own.nil (E := Enc.int) (e := tI) (a := none)) rfl (E.loop (κ := Nat × Option Addr × Nat) (fun g => g.1 ≤ n0.length) (fun g => [(3, .pointer (some ⟨b3, 0, none⟩)), (4, .pointer (some ⟨b4, 0, none⟩)), (6, .pointer (some ⟨b6, 0, none⟩)), (19, .slice x5 n0.length x4), (20, .int .i64 (↑n0.length : Int)), (21, .int .i64 (↑g.1 : Int))]) (fun g => [ow eIs [.slice g.2.1 g.1 g.2.2] (u9 (n0.take g.1) c8), pt b6 44 [.int .i64 r6, .slice g.2.1 g.1 g.2.2], pt b4 44 [.int .i64 0, .slice none 0 0], pt b3 44 [.int .i64 d6, .slice k6 c8.length j9], pt b2 73 [.int .i64 i7, .int .i64 r6, .slice x5 n0.length x4]]) (fun g => n0.length - g.1) (0, none, 0) (Nat.zero_le _) ⟨rfl, rfl, rfl, rfl, rfl, rfl, trivial⟩ (.refl _) (fun g pg => (Ew Z1 (Ey rfl ((Y.lss rfl rfl).yd) (j8 (fun q22 => ?_) (fun q22 => ?_)))))))))))))))))))))))))))
  ·have hm1 := hm om n0[g.1] (List.getElem_mem om)
   obtain ⟨eb23, eo23, ea23, ei23, eh23⟩ := B6.elemI g.1 om
   refine Eu (Eq_ (l3 rfl (d9 (Et (Eq_ (E.block (Ew Z3 (Ey rfl ((r8 us_Is f4 rfl ea23 rfl g.1 rfl om).yd) (Ey rfl (f7 f4 rfl (eh23 _) rfl) (Ei rfl (Eu (D.region (fun j => !(Nat.beq j 8) && !(Nat.beq j 10)) mixed (Dyp 0 rfl (g9 fo_Fact_1 ty_Is dc rfl) (Dy 1 rfl (f7 ty_Is rfl (Hz (mS m0) 1 rfl) rfl) (Dyp 2 rfl (g9 fo_Fact_1 ty_Is dc rfl) (Dy 3 rfl (f7 ty_Is rfl (Hz (mS (mS (mS m0))) 1 rfl) rfl) (Dyp 4 rfl (g0 rfl) ?_)))))))))))))))))
   obtain ⟨eb30, eo30, ea30, ei30, eh30⟩ := m6.elemI n0[g.1].toNat om
   refine Dyp 5 rfl (r8 us_Is f4 rfl ea30 rfl n0[g.1].toNat om om) (Dy 6 rfl (f7 f4 rfl (eh30 _) rfl) (w3 7 rfl rfl kr (fun _ => rfl) (Nb [_] [_] us_Is f4 rfl rfl) (fun b32 _ => (d7 (w3 8 rfl rfl kr (fun h => by cases h) (N.push (E := Enc.int) (ex := c8[n0[g.1].toNat]) us_Is f4 rfl rfl rfl (Own.int ei30) rfl bn bn dc) (fun p33 _ => (Dyp 9 rfl (g9 fo_Fact_1 ty_Is dc rfl) (d7 (w3 10 rfl rfl kr (fun h => by cases h) (Ns [_, _] ty_Is rfl) (fun _ _ => (o3 kr (o2 (Et (Ez Z2 (Ey rfl ((Y.add rfl rfl om om).yd) (Em rfl (Eu (d7 (f9 (congrArg (ow eIs [_]) (show (u9 (n0.take g.1) c8) ++ [c8[n0[g.1].toNat]] = u9 (n0.take (g.1 + 1)) c8 from a5b om om)) (B0 (B0 (B0 ?_))))))))))))))))))))))
   refine B0 (B0 ?_)
   exact u7 br (g.1 + 1, p33.1, p33.2) rs (.refl _) (show g.1 + 1 ≤ _ by omega) (show _ - (g.1 + 1) < _ by omega)
  ·refine Eu (Eq_ (l4 rfl (E.exit (n8 (n8 (w7 (Et (Ew Z3 (Ey rfl (l8 (cs := [_, _]) ty_Fact rfl (Has.pt (mS m0)) rfl) (l6 (Est rfl (Ns [_, _] ty_Fact rfl) (fun _ _ => (Ei rfl (Eu (E.ret (d7 (f9 (congrArg (ow eIs [_]) (show _ = cond (decide (d6 = i7)) (u9 n0 c8) [] by simp only [decide_eq_true (show d6 = i7 by omega), cond_true, a1H (show n0.length ≤ g.1 by omega)])) ?_)))))))))))))))))
   exact X1 br rfl rfl rfl (mS m0) ty_Fact rfl (_, _, _) trivial (by rw [show (cond (decide (d6 = i7)) r6 0) = (r6) from (by simp only [decide_eq_true (show d6 = i7 by omega), cond_true, a1H (show n0.length ≤ g.1 by omega)])]; rw [show (decide (d6 = i7)) = (true) from (by simp only [decide_eq_true (show d6 = i7 by omega), cond_true, a1H (show n0.length ≤ g.1 by omega)])]; try rfl) (J := _) (.refl _) (.inl rfl)
theorem R6 : Tr Tryz.prog 41 [.slice a_s m_s c_s, .agg #[.int .i64 i7, .int .i64 r6, .slice x5 z8 x4], .agg #[.int .i64 d6, .slice k6 m8 j9]] (fun w L => Ro w L eIs [.slice a_s m_s c_s] s ∧ I64 i7 ∧ I64 r6 ∧ Ro w L eIs [.slice x5 z8 x4] n0 ∧ I64 d6 ∧ Ro w L eIs [.slice k6 m8 j9] c8) [] (κ := Option Addr × Nat × Nat) (fun k => True) (fun k => .tuple #[.agg #[.int .i64 (C5 s (i7, r6, n0) (d6, c8)), .slice k.1 k.2.1 k.2.2], .bool (G4 s (i7, r6, n0) (d6, c8))]) (fun k => [ow eIs [.slice k.1 k.2.1 k.2.2] (D5 s (i7, r6, n0) (d6, c8))]) := by
 refine f8 Tryz.func41 rfl (n := 29) rfl (by decide +kernel) bl (fr := [(0, .slice a_s m_s c_s), (1, .agg #[.int .i64 i7, .int .i64 r6, .slice x5 z8 x4]), (2, .agg #[.int .i64 d6, .slice k6 m8 j9])]) rfl fun w L hR => ?_
 obtain ⟨hs, F4, L4, B6, t8, m6⟩ := hR
 obtain ⟨rfl, ls⟩ := hs.slen
 obtain ⟨rfl, Y5⟩ := B6.slen
 obtain ⟨rfl, D3⟩ := m6.slen
 refine Ew Z4 (Est rfl (N.box (cs := [_, _, _]) rfl dc rfl) (fun b4 _ => (Est rfl (N.box (cs := [_, _]) rfl dc rfl) (fun b5 _ => (Est rfl (N.alloc ty_Fact dc) (fun b6 _ => (Ei rfl (Eu (Eq_ (Ew Z17 (Em rfl (Ey rfl (l8 (cs := [_, _, _]) ty_Rule rfl (Has.pt (mS (mS m0))) rfl) (Est rfl (f5 Z0 rfl rfl rfl dc (fun w Lp hA => ⟨hA.ro hs, F4, L4, hA.ro B6⟩)) (fun _ _ => (r5 (fun q10 => ?_) (fun q10 => ?_))))))))))))))))
 ·refine Ey rfl ((Y.not (b := true) rfl).yd) (Em rfl (Em rfl (Ey rfl (l8 (cs := [_, _]) ty_Fact rfl (Has.pt (mS m0)) rfl) (Est rfl (f5 a1X rfl rfl rfl dc (fun w Lp hA => ⟨hA.ro hs, t8, hA.ro m6⟩)) (fun _ _ => (r5 (fun q15 => ?_) (fun q15 => ?_)))))))
  ·refine Ey rfl ((Y.not (b := true) rfl).yd) (Ey rfl ((o6 rfl rfl).yd) (Em rfl (Ey rfl ((g9 fo_Fact_0 f4 dc rfl).yd) (Ey rfl (f7 f4 rfl (Hz (mS m0) 0 rfl) rfl) (Ey rfl ((g9 fo_Rule_0 f4 dc rfl).yd) (Ey rfl (f7 f4 rfl (Hz (mS (mS m0)) 0 rfl) rfl) (Ey rfl ((Y.neq rfl rfl).yd) (j8 (fun q23 => ?_) (fun q23 => ?_)))))))))
   ·refine Ey rfl ((o6 rfl rfl).yd) (Eu (l3 rfl (Ew Z3 (Ey rfl ((F5 (pvs := []) (cs := [_, _]) ty_Fact K4 rfl rfl).yd) (Est rfl (Ns [_, _] ty_Fact rfl) (fun _ _ => (Ei rfl (Eu (E.ret (j0 (o1 (A := []) (Own.nil (E := Enc.int) (e := tI) (a := none)) rfl (f9 (congrArg (ow eIs [_]) (show _ = D5 s (i7, r6, n0) (d6, c8) by simp only [C5, D5, a3t (r := (i7, r6, n0)) (f := (d6, c8)) q23, cond_true, cond_false])) ?_))))))))))))
    exact X1 br rfl rfl rfl (mS m0) ty_Fact rfl (none, 0, 0) trivial (by rw [show (C5 s (i7, r6, n0) (d6, c8)) = (0) from (by simp only [C5, D5, a3t (r := (i7, r6, n0)) (f := (d6, c8)) q23, cond_true, cond_false])]; rw [show (G4 s (i7, r6, n0) (d6, c8)) = (false) from (by simp only [C5, D5, a3t (r := (i7, r6, n0)) (f := (d6, c8)) q23, cond_true, cond_false])]; try rfl) (J := _) (.refl _) (.inl rfl)
   ·refine Ey rfl ((o6 rfl rfl).yd) (Eu (l4 rfl (d9 (Et (Ew Z5 (Ey rfl (l8 (cs := [_, _, _]) ty_Rule rfl (Has.pt (mS (mS m0))) rfl) (Ey rfl (l8 (cs := [_, _]) ty_Fact rfl (Has.pt (mS m0)) rfl) (Est rfl (N.call (K7 (show ∀ x ∈ n0, 0 ≤ x ∧ x < c8.length from S6 q10 q15 (show d6 = i7 by omega)) (show n0.length ≤ 1048576 from Nat.le_trans (W8 q10) dc)) rfl rfl rfl dc rfl (fun w Lp hA => ⟨F4, L4, hA.ro B6, t8, hA.ro m6⟩)) (fun k28 _ => ?_)))))))))
    obtain ⟨a28, m28, c28⟩ := k28
    refine d8 m0 fun e28 l28 => ?_
    subst e28
    refine d7 (Est rfl (Ns [_, _] ty_Fact rfl) (fun _ _ => (Ei rfl (Eu (E.ret (d7 (f9 (congrArg (ow eIs [_]) (show _ = D5 s (i7, r6, n0) (d6, c8) by simp only [C5, D5, a3k q10 q15 (show d6 = i7 by omega), cond_true, cond_false])) ?_)))))))
    exact X1 br rfl rfl rfl (mS m0) ty_Fact rfl (_, _, _) trivial (by rw [show (C5 s (i7, r6, n0) (d6, c8)) = (r6) from (by simp only [C5, D5, a3k q10 q15 (show d6 = i7 by omega), cond_true, cond_false])]; rw [show (G4 s (i7, r6, n0) (d6, c8)) = (true) from (by simp only [C5, D5, a3k q10 q15 (show d6 = i7 by omega), cond_true, cond_false])]; try rfl) (J := _) (.refl _) (.inl rfl)
  ·refine Ey rfl ((Y.not (b := false) rfl).yd) (Ey rfl ((o6 rfl rfl).yd) (Em rfl (Es rfl (Es rfl (Es rfl (Es rfl (Es rfl (Ey rfl ((o0 rfl rfl).yd) (Eu (l3 rfl (Ew Z3 (Ey rfl ((F5 (pvs := []) (cs := [_, _]) ty_Fact K4 rfl rfl).yd) (Est rfl (Ns [_, _] ty_Fact rfl) (fun _ _ => (Ei rfl (Eu (E.ret (j0 (o1 (A := []) (Own.nil (E := Enc.int) (e := tI) (a := none)) rfl (f9 (congrArg (ow eIs [_]) (show _ = D5 s (i7, r6, n0) (d6, c8) by simp only [C5, D5, W7 q15, cond_true, cond_false])) ?_))))))))))))))))))))
   exact X1 br rfl rfl rfl (mS m0) ty_Fact rfl (none, 0, 0) trivial (by rw [show (C5 s (i7, r6, n0) (d6, c8)) = (0) from (by simp only [C5, D5, W7 q15, cond_true, cond_false])]; rw [show (G4 s (i7, r6, n0) (d6, c8)) = (false) from (by simp only [C5, D5, W7 q15, cond_true, cond_false])]; try rfl) (J := _) (.refl _) (.inl rfl)
 ·refine Ey rfl ((Y.not (b := false) rfl).yd) (Em rfl (Es rfl (Es rfl (Es rfl (Es rfl (Ey rfl ((o0 rfl rfl).yd) (Em rfl (Es rfl (Es rfl (Es rfl (Es rfl (Es rfl (Ey rfl ((o0 rfl rfl).yd) (Eu (l3 rfl (Ew Z3 (Ey rfl ((F5 (pvs := []) (cs := [_, _]) ty_Fact K4 rfl rfl).yd) ?_)))))))))))))))))
  refine Est rfl (Ns [_, _] ty_Fact rfl) (fun _ _ => (Ei rfl (Eu (E.ret (j0 (o1 (A := []) (Own.nil (E := Enc.int) (e := tI) (a := none)) rfl (f9 (congrArg (ow eIs [_]) (show _ = D5 s (i7, r6, n0) (d6, c8) by simp only [C5, D5, W0 q10, cond_true, cond_false])) ?_)))))))
  exact X1 br rfl rfl rfl (mS m0) ty_Fact rfl (none, 0, 0) trivial (by rw [show (C5 s (i7, r6, n0) (d6, c8)) = (0) from (by simp only [C5, D5, W0 q10, cond_true, cond_false])]; rw [show (G4 s (i7, r6, n0) (d6, c8)) = (false) from (by simp only [C5, D5, W0 q10, cond_true, cond_false])]; try rfl) (J := _) (.refl _) (.inl rfl)
theorem a3h : Tr Tryz.prog 49 [.slice a_s m_s c_s, .agg #[.int .i64 i7, .int .i64 r6, .slice x5 z8 x4], .agg #[.int .i64 d6, .slice k6 m8 j9]] (fun w L => Ro w L eIs [.slice a_s m_s c_s] s ∧ I64 i7 ∧ I64 r6 ∧ Ro w L eIs [.slice x5 z8 x4] n0 ∧ I64 d6 ∧ Ro w L eIs [.slice k6 m8 j9] c8) [] (κ := Option Addr × Nat × Nat) (fun k => True) (fun k => .tuple #[.agg #[.int .i64 (C5 s (i7, r6, n0) (d6, c8)), .slice k.1 k.2.1 k.2.2], .bool (G4 s (i7, r6, n0) (d6, c8))]) (fun k => [ow eIs [.slice k.1 k.2.1 k.2.2] (D5 s (i7, r6, n0) (d6, c8))]) := by
 refine f8 Tryz.func49 rfl (n := 24) rfl (by decide +kernel) bl (fr := [(0, .slice a_s m_s c_s), (1, .agg #[.int .i64 i7, .int .i64 r6, .slice x5 z8 x4]), (2, .agg #[.int .i64 d6, .slice k6 m8 j9])]) rfl fun w L hR => ?_
 obtain ⟨hs, F4, L4, B6, t8, m6⟩ := hR
 obtain ⟨rfl, ls⟩ := hs.slen
 obtain ⟨rfl, Y5⟩ := B6.slen
 obtain ⟨rfl, D3⟩ := m6.slen
 refine Ew Z4 (Est rfl (N.box (cs := [_, _, _]) rfl dc rfl) (fun b4 _ => (Est rfl (N.box (cs := [_, _]) rfl dc rfl) (fun b5 _ => (Est rfl (N.alloc ty_Fact dc) (fun b6 _ => (Ei rfl (Eu (Eq_ (Ew Z10 (Em rfl (Ey rfl (l8 (cs := [_, _, _]) ty_Rule rfl (Has.pt (mS (mS m0))) rfl) (Est rfl (f5 a0a rfl rfl rfl dc (fun w Lp hA => ⟨hA.ro hs, F4, L4, hA.ro B6⟩)) (fun _ _ => (r5 (fun q10 => ?_) (fun q10 => ?_))))))))))))))))
 ·refine Ey rfl ((Y.not (b := true) rfl).yd) (Em rfl (Em rfl (Ey rfl (l8 (cs := [_, _]) ty_Fact rfl (Has.pt (mS m0)) rfl) (Est rfl (f5 a1Y rfl rfl rfl dc (fun w Lp hA => ⟨hA.ro hs, t8, hA.ro m6⟩)) (fun _ _ => (r5 (fun q15 => ?_) (fun q15 => ?_)))))))
  ·refine Ey rfl ((Y.not (b := true) rfl).yd) (Ey rfl ((o6 rfl rfl).yd) (Eu (l4 rfl (d9 (Et (Ew Z7 (Ey rfl (l8 (cs := [_, _, _]) ty_Rule rfl (Has.pt (mS (mS m0))) rfl) (Ey rfl (l8 (cs := [_, _]) ty_Fact rfl (Has.pt (mS m0)) rfl) (Est rfl (N.call (P0 (show d6 = i7 → ∀ x ∈ n0, 0 ≤ x ∧ x < c8.length from S6 q10 q15) (show n0.length ≤ 1048576 from Nat.le_trans (W8 q10) dc)) rfl rfl rfl dc rfl (fun w Lp hA => ⟨F4, L4, hA.ro B6, t8, hA.ro m6⟩)) (fun k21 _ => ?_))))))))))
   obtain ⟨a21, m21, c21⟩ := k21
   refine d8 m0 fun e21 l21 => ?_
   subst e21
   refine Ey rfl ((Y.ext rfl rfl).yd) (Ey rfl ((Y.ext rfl rfl).yd) (d7 (Est rfl (Ns [_, _] ty_Fact rfl) (fun _ _ => (Ei rfl (Eu (E.ret (d7 (f9 (congrArg (ow eIs [_]) (show _ = D5 s (i7, r6, n0) (d6, c8) by simp only [C5, D5, a2C q10 q15, cond_true, cond_false])) ?_)))))))))
   exact X1 br rfl rfl rfl (mS m0) ty_Fact rfl (_, _, _) trivial (by rw [show (C5 s (i7, r6, n0) (d6, c8)) = (cond (decide (d6 = i7)) r6 0) from (by simp only [C5, D5, a2C q10 q15, cond_true, cond_false])]; rw [show (G4 s (i7, r6, n0) (d6, c8)) = (decide (d6 = i7)) from (by simp only [C5, D5, a2C q10 q15, cond_true, cond_false])]; try rfl) (J := _) (.refl _) (.inl rfl)
  ·refine Ey rfl ((Y.not (b := false) rfl).yd) (Ey rfl ((o6 rfl rfl).yd) (Eu (l3 rfl (Ew Z3 (Ey rfl ((F5 (pvs := []) (cs := [_, _]) ty_Fact K4 rfl rfl).yd) (Est rfl (Ns [_, _] ty_Fact rfl) (fun _ _ => (Ei rfl (Eu (E.ret (j0 (o1 (A := []) (Own.nil (E := Enc.int) (e := tI) (a := none)) rfl (f9 (congrArg (ow eIs [_]) (show _ = D5 s (i7, r6, n0) (d6, c8) by simp only [C5, D5, W7 q15, cond_true, cond_false])) ?_)))))))))))))
   exact X1 br rfl rfl rfl (mS m0) ty_Fact rfl (none, 0, 0) trivial (by rw [show (C5 s (i7, r6, n0) (d6, c8)) = (0) from (by simp only [C5, D5, W7 q15, cond_true, cond_false])]; rw [show (G4 s (i7, r6, n0) (d6, c8)) = (false) from (by simp only [C5, D5, W7 q15, cond_true, cond_false])]; try rfl) (J := _) (.refl _) (.inl rfl)
 ·refine Ey rfl ((Y.not (b := false) rfl).yd) (Em rfl (Es rfl (Es rfl (Es rfl (Es rfl (Ey rfl ((o0 rfl rfl).yd) (Eu (l3 rfl (Ew Z3 (Ey rfl ((F5 (pvs := []) (cs := [_, _]) ty_Fact K4 rfl rfl).yd) (Est rfl (Ns [_, _] ty_Fact rfl) (fun _ _ => (Ei rfl (Eu (E.ret (j0 (o1 (A := []) (Own.nil (E := Enc.int) (e := tI) (a := none)) rfl (f9 (congrArg (ow eIs [_]) (show _ = D5 s (i7, r6, n0) (d6, c8) by simp only [C5, D5, W0 q10, cond_true, cond_false])) ?_))))))))))))))))))
  exact X1 br rfl rfl rfl (mS m0) ty_Fact rfl (none, 0, 0) trivial (by rw [show (C5 s (i7, r6, n0) (d6, c8)) = (0) from (by simp only [C5, D5, W0 q10, cond_true, cond_false])]; rw [show (G4 s (i7, r6, n0) (d6, c8)) = (false) from (by simp only [C5, D5, W0 q10, cond_true, cond_false])]; try rfl) (J := _) (.refl _) (.inl rfl)
end Go.Proofs.YtfnbilpemdgkkaaGreatDoor
