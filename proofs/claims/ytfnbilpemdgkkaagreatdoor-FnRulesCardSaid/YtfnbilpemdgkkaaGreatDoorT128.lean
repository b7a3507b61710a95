import Derived.Test.YtfnbilpemdgkkaaGreatDoorT122
import Derived.Test.YtfnbilpemdgkkaaGreatDoorBu
namespace Go.Proofs.YtfnbilpemdgkkaaGreatDoor
open Go.RowKit
set_option linter.all false
set_option maxHeartbeats 2000000
attribute [local irreducible] Nop Yd Yp Ent Has Tr FnP FnP2 Src J1 P8 U7 W9 E0
variable {s : List Int} {b_c m_s c_s m_b c_b m_code c_code : Nat} {a_s a_b a_code : Option Addr}
theorem a0V {bs : List UInt8} (h1 : 1 ≤ s.length) (hsz : ∀ z ∈ s, 1 ≤ z ∧ z ≤ 3) (h3 : s.length ≤ 3) : Tr Tryz.prog 142 [.pointer (some ⟨b_c, 0, none⟩), .slice a_s m_s c_s] (fun w L => Ro w L eIs [.slice a_s m_s c_s] s ∧ Ro w L L7 [.slice a_b m_b c_b] bs) [cur b_c a_b m_b c_b] (κ := (List (Int × Int × List Int)) × Option Addr × Nat × Nat) (fun k => k.1.length ≤ 3 ∧ ∀ r ∈ k.1, (0 ≤ r.1 ∧ r.1 ≤ 3) ∧ (0 ≤ r.2.1 ∧ r.2.1 ≤ 3) ∧ r.2.2.length ≤ 3) (fun k => .slice k.2.1 k.2.2.1 k.2.2.2) (fun k => [ow D0 [.slice k.2.1 k.2.2.1 k.2.2.2] k.1, cur b_c a_b m_b c_b]) := by
 refine f8 Tryz.func142 rfl (n := 53) rfl (by decide +kernel) bl (fr := [(0, .pointer (some ⟨b_c, 0, none⟩)), (1, .slice a_s m_s c_s)]) rfl fun w L hR => ?_
 obtain ⟨hs, hbs⟩ := hR
 obtain ⟨rfl, ls⟩ := hs.slen
 obtain ⟨rfl, lb⟩ := hbs.slen
 refine Ew Z1 (Ei rfl (Ev Z2 (Est rfl (Nb [] [] us_Rules ty_Rule rfl rfl) (fun b10 _ => (Ent.drop (Ei rfl (Eu (Eq_ (Ew Z3 (Em rfl (Est rfl (N.call (pre := [_]) s8 rfl rfl rfl dc rfl (fun w Lp hA => hA.ro hbs)) (fun x12 o12 => ?_))))))))))))
 replace o12 : 0 ≤ x12 ∧ ((4 : Int) ≤ 0 → x12 = 0) ∧ (0 < (4 : Int) → x12 < (4 : Int)) := o12
 try (conv => arg 5; dsimp only [List.cons_append, List.nil_append, List.append_nil])
 refine Ei rfl (Eu (E.block (o1 (A := []) (Own.nil (E := U6) (e := tRule) (a := (some ⟨b10, 0, none⟩))) rfl (E.loop (κ := Nat × (List (Int × Int × List Int)) × Option Addr × Nat × Nat) (fun g => g.1 ≤ (x12).toNat ∧ g.2.1.length = g.1 ∧ ∀ r ∈ g.2.1, (0 ≤ r.1 ∧ r.1 ≤ 3) ∧ (0 ≤ r.2.1 ∧ r.2.1 ≤ 3) ∧ r.2.2.length ≤ 3) (fun g => [(0, .pointer (some ⟨b_c, 0, none⟩)), (1, .slice a_s s.length c_s), (5, .slice g.2.2.1 g.2.2.2.1 g.2.2.2.2), (6, .int .i64 (x12 - (↑g.1 : Int)))]) (fun g => [ow D0 [.slice g.2.2.1 g.2.2.2.1 g.2.2.2.2] g.2.1, cur b_c a_b bs.length c_b]) (fun g => (x12).toNat - g.1) (0, [], (some ⟨b10, 0, none⟩), 0, 0) ⟨Nat.zero_le _, by simp⟩ ⟨rfl, rfl, rfl, frI om, trivial⟩ (.refl _) (fun g pg => ?_)))))
 obtain ⟨g, ys, aA0_0, mA0_0, cA0_0⟩ := g
 try dsimp only at pg
 try dsimp only
 obtain ⟨pk, pa⟩ := pg
 have pa0 := pa
 refine d8 m0 fun eaA0_0 laA0_0 => ?_
 subst eaA0_0
 refine Eq_ (Ew Z2 (Em rfl (Ey rfl ((Y.gtr rfl rfl).yd) (j8 (fun q14 => ?_) (fun q14 => ?_)))))
 ·refine Eu (l3 rfl (d9 (Et (Eq_ (E.block (Ew Z11 (Em rfl (Em rfl (Ey rfl ((Y.len us_Is rfl).yd) (d7 (Est rfl (N.call (pre := [_]) s8 rfl rfl rfl dc rfl (fun w Lp hA => hA.ro hbs)) (fun x20 o20 => ?_))))))))))))
  replace o20 : 0 ≤ x20 ∧ ((↑s.length : Int) ≤ 0 → x20 = 0) ∧ (0 < (↑s.length : Int) → x20 < (↑s.length : Int)) := o20
  try (conv => arg 5; dsimp only [List.cons_append, List.nil_append, List.append_nil])
  refine Em rfl (Em rfl (Ey rfl ((Y.len us_Is rfl).yd) (Est rfl (N.call (pre := [_]) s8 rfl rfl rfl dc rfl (fun w Lp hA => hA.ro hbs)) (fun x24 o24 => ?_))))
  replace o24 : 0 ≤ x24 ∧ ((↑s.length : Int) ≤ 0 → x24 = 0) ∧ (0 < (↑s.length : Int) → x24 < (↑s.length : Int)) := o24
  try (conv => arg 5; dsimp only [List.cons_append, List.nil_append, List.append_nil])
  have jx : x24.toNat < s.length := by omega
  have jz := hsz _ (List.getElem_mem jx)
  have jx2 : x20.toNat < s.length := by omega
  have jz2 := hsz _ (List.getElem_mem jx2)
  refine Ey rfl ((F5 (pvs := [_, _]) (cs := [_, _, _]) ty_Rule a0u rfl rfl).yd) (Est rfl (N.alloc ty_Rule dc) (fun b7 _ => (Est rfl (Ns [_, _, _] ty_Rule rfl) (fun _ _ => (Eu (Eq_ (Ew Z1 (Ei rfl (Eu (E.block (o1 (A := []) (Own.nil (E := Enc.int) (e := tI) (a := none)) rfl (E.loop (κ := Nat × (List Int) × Option Addr × Nat × Nat) (fun h => h.1 ≤ s[x24.toNat].toNat ∧ h.2.1.length = h.1) (fun h => [(0, .pointer (some ⟨b_c, 0, none⟩)), (1, .slice a_s s.length c_s), (5, .slice aA0_0 (ys).length cA0_0), (6, .int .i64 (x12 - (g : Int))), (7, .pointer (some ⟨b7, 0, none⟩)), (8, .int .i64 (↑h.1 : Int))]) (fun h => [ow eIs [.slice h.2.2.1 h.2.2.2.1 h.2.2.2.2] h.2.1, pt b7 73 [.int .i64 x20, .int .i64 x24, .slice h.2.2.1 h.2.2.2.1 h.2.2.2.2], cur b_c a_b bs.length c_b, ow D0 [.slice aA0_0 (ys).length cA0_0] ys]) (fun h => s[x24.toNat].toNat - h.1) (0, [], none, 0, 0) ⟨Nat.zero_le _, by rfl⟩ ⟨rfl, rfl, rfl, rfl, rfl, rfl, trivial⟩ (.refl _) (fun h ph => ?_)))))))))))))
  obtain ⟨h, ms, aA1_0, mA1_0, cA1_0⟩ := h
  try dsimp only at ph
  try dsimp only
  obtain ⟨pk, pa⟩ := ph
  refine d8 m0 fun eaA1_0 laA1_0 => ?_
  subst eaA1_0
  refine Eq_ (Ew Z7 (Em rfl (Em rfl (Ey rfl ((g9 fo_Rule_1 f4 dc rfl).yd) (Ey rfl (f7 f4 rfl (Hz (mS m0) 1 rfl) rfl) ?_)))))
  obtain ⟨eb30, eo30, ea30, ei30, eh30⟩ := hs.elemI x24.toNat om
  refine Ey rfl ((r8 us_Is f4 rfl ea30 rfl x24.toNat om om).yd) (Ey rfl (f7 f4 rfl (eh30 _) rfl) (Ey rfl ((Y.lss rfl rfl).yd) (j8 (fun q32 => ?_) (fun q32 => ?_))))
  ·refine Eu (l3 rfl (d9 (Et (Eq_ (E.block (Ew Z8 (Em rfl (Em rfl (Ey rfl ((g9 fo_Rule_0 f4 dc rfl).yd) (Ey rfl (f7 f4 rfl (Hz (mS m0) 0 rfl) rfl) ?_))))))))))
   obtain ⟨eb39, eo39, ea39, ei39, eh39⟩ := hs.elemI x20.toNat om
   refine Ey rfl ((r8 us_Is f4 rfl ea39 rfl x20.toNat om om).yd) (Ey rfl (f7 f4 rfl (eh39 _) rfl) (l6 (Est rfl (N.call (pre := [_]) s8 rfl rfl rfl dc rfl (fun w Lp hA => hA.ro hbs)) (fun x41 o41 => ?_))))
   replace o41 : 0 ≤ x41 ∧ (s[x20.toNat] ≤ 0 → x41 = 0) ∧ (0 < s[x20.toNat] → x41 < s[x20.toNat]) := o41
   try (conv => arg 5; dsimp only [List.cons_append, List.nil_append, List.append_nil])
   refine Ei rfl (Eu (Ez Z7 (Ey rfl ((g9 fo_Rule_2 ty_Is dc rfl).yd) (Ey rfl (f7 ty_Is rfl (Hz (mS (mS m0)) 2 rfl) rfl) (Em rfl (Est rfl (Nb [_] [_] us_Is f4 rfl rfl) (fun b45 _ => (l6 (Est rfl (N.push (E := Enc.int) (ex := x41) us_Is f4 rfl rfl rfl (Own.int i6) rfl bn bn dc) (fun p46 _ => (Ey rfl ((g9 fo_Rule_2 ty_Is dc rfl).yd) (l6 (Est rfl (Ns [_, _, _] ty_Is rfl) (fun _ _ => (En (o2 (Et (Ez Z3 (Em rfl (Ey rfl ((Y.add rfl rfl om om).yd) (Ei rfl (Eu (i8 (i8 ?_))))))))))))))))))))))))
   refine l6 (i8 ?_)
   exact Ea (h + 1, ms ++ [x41], p46.1, ((ms).length + 1), p46.2) ⟨oz, (show (ms ++ [x41]).length = (h + 1) from by simp [pa])⟩
  ·refine Eu (l4 rfl (E.exit (n8 (n8 (w7 (Et (Ez Z5 (Em rfl (Ey rfl (l8 (cs := [_, _, _]) ty_Rule rfl (Has.pt (mS m0)) rfl) (Est rfl (Nb [_] [_, _, _] us_Rules ty_Rule rfl rfl) (fun b50 _ => (d7 (d7 (B0 (Est rfl (N.push (E := U6) (ex := (x20, x24, ms)) us_Rules ty_Rule rfl rfl rfl (a4p (x := (x20, x24, ms)) i6 i6 Own.ow) rfl bn bn dc) (fun p51 _ => (Ei rfl (En (o2 (Et (Ez Z3 (Em rfl (Ey rfl ((Y.sub rfl rfl om om).yd) (Ei rfl (Eu (d7 (Ent.drop (d7 (d7 ?_)))))))))))))))))))))))))))))
   exact u7 br (g + 1, ys ++ [(x20, x24, ms)], p51.1, ((ys).length + 1), p51.2) ⟨rfl, rfl, rfl, frI om, trivial⟩ (.refl _) ⟨oz, (show (ys ++ [(x20, x24, ms)]).length = (g + 1) ∧ ∀ r ∈ (ys ++ [(x20, x24, ms)]), (0 ≤ r.1 ∧ r.1 ≤ 3) ∧ (0 ≤ r.2.1 ∧ r.2.1 ≤ 3) ∧ r.2.2.length ≤ 3 from by exact b2n pa0 om)⟩ oz
 ·refine Eu (l4 rfl (E.exit (n8 (n8 (w7 (Et (Ew Z2 (Em rfl (Ei rfl (Eu (E.ret (d7 (d7 ?_)))))))))))))
  exact F.r1 br rfl rfl (ys, (_, _, _)) (show ys.length ≤ 3 ∧ ∀ r ∈ ys, (0 ≤ r.1 ∧ r.1 ≤ 3) ∧ (0 ≤ r.2.1 ∧ r.2.1 ≤ 3) ∧ r.2.2.length ≤ 3 from by exact ⟨by omega, pa.2⟩) rfl (J := _) (.refl _) (.inl rfl)
theorem R3 {bs : List UInt8} : Tr Tryz.prog 100 [.pointer (some ⟨b_c, 0, none⟩), .slice a_s m_s c_s] (fun w L => Ro w L eIs [.slice a_s m_s c_s] s ∧ Ro w L L7 [.slice a_b m_b c_b] bs) [cur b_c a_b m_b c_b] (κ := Int × Int × (List Int) × Option Addr × Nat × Nat) (fun k => (-10 ≤ k.1 ∧ k.1 ≤ 10) ∧ (-10 ≤ k.2.1 ∧ k.2.1 ≤ 10) ∧ k.2.2.1.length ≤ 4) (fun k => .agg #[.int .i64 k.1, .int .i64 k.2.1, .slice k.2.2.2.1 k.2.2.2.2.1 k.2.2.2.2.2]) (fun k => [ow eIs [.slice k.2.2.2.1 k.2.2.2.2.1 k.2.2.2.2.2] k.2.2.1, cur b_c a_b m_b c_b]) := by
 refine f8 Tryz.func100 rfl (n := 39) rfl (by decide +kernel) bl (fr := [(0, .pointer (some ⟨b_c, 0, none⟩)), (1, .slice a_s m_s c_s)]) rfl fun w L hR => ?_
 obtain ⟨hs, hbs⟩ := hR
 obtain ⟨rfl, ls⟩ := hs.slen
 obtain ⟨rfl, lb⟩ := hbs.slen
 refine Ew Z1 (Est rfl (N.alloc ty_Rule dc) (fun b4 _ => (Ev Z4 (Est rfl (Nb [_] [_] us_Is f4 rfl rfl) (fun b7 _ => (o1 (A := _ :: _) (J8 (E := Enc.int) (e := tI) (Own.int i6)) rfl (Ey rfl ((F5 (pvs := [_]) (cs := [_, _, _]) ty_Rule a0u rfl rfl).yd) (Est rfl (N.alloc ty_Rule dc) (fun b5 _ => (Est rfl (Ns [_, _, _] ty_Rule rfl) (fun _ _ => (Eu (Eq_ (Ew Z2 (Em rfl (Est rfl (f5 F3 rfl rfl rfl dc (fun w Lp hA => hA.ro hs)) (fun _ _ => (r5 (fun q10 => ?_) (fun q10 => ?_)))))))))))))))))))
 ·have js := U0 q10
  refine Eu (l3 rfl (Ew Z4 (Em rfl (Em rfl (i8 (Est rfl (N.call (pre := [_]) (a0V (U0 q10).1 (U0 q10).2.2 (U0 q10).2.1) rfl rfl rfl dc rfl (fun w Lp hA => ⟨hA.ro hs, hA.ro hbs⟩)) (fun k13 o13 => ?_)))))))
  obtain ⟨rl13, ⟨a13, m13, c13⟩⟩ := k13
  replace o13 : rl13.length ≤ 3 ∧ ∀ r ∈ rl13, (0 ≤ r.1 ∧ r.1 ≤ 3) ∧ (0 ≤ r.2.1 ∧ r.2.1 ≤ 3) ∧ r.2.2.length ≤ 3 := o13
  try (conv => arg 4; dsimp only)
  try (conv => arg 5; dsimp only [List.cons_append, List.nil_append, List.append_nil])
  refine d8 m0 fun e13 l13 => ?_
  subst e13
  refine Ei rfl (Ev Z3 (Em rfl (Ey rfl ((Y.len us_Rules rfl).yd) (Ey rfl ((Y.gtr rfl rfl).yd) (j8 (fun q16 => ?_) (fun q16 => ?_))))))
  ·have jr := o13.2 _ (List.getElem_mem (show 0 < rl13.length by omega))
   refine Eu (l3 rfl (Ez Z4 (Em rfl (M5 m0 om fun ab18 ae18 => (S4 (x := rl13[0]) 0 (List.getElem?_eq_getElem om) fun ce18 => ?_)))))
   refine d7 (b0k fun oa18_2 om18_2 oc18_2 oe18 oi18_0 oi18_1 on18_2 => ?_)
   subst oe18
   subst on18_2
   refine Ey rfl ((r8 us_Rules ty_Rule rfl ae18 rfl 0 rfl om).yd) (Ey rfl (l8 (cs := [_, _, _]) ty_Rule rfl (Has.hole ae18 (mS m0)) rfl) (i8 (Est rfl (Ns [_, _, _] ty_Rule rfl) (fun _ _ => (Eu (Eq_ (Ew Z2 (l6 (Ent.drop (Em rfl (l6 (Est rfl (N.call (pre := [_]) s8 rfl rfl rfl dc rfl (fun w Lp hA => hA.ro hbs)) (fun x21 o21 => ?_)))))))))))))
   replace o21 : 0 ≤ x21 ∧ ((8 : Int) ≤ 0 → x21 = 0) ∧ (0 < (8 : Int) → x21 < (8 : Int)) := o21
   try (conv => arg 5; dsimp only [List.cons_append, List.nil_append, List.append_nil])
   refine Eu (E.block (Ew Z2 (Ey rfl ((Y.eql rfl rfl).yd) (Ei rfl (j8 (fun q22 => ?_) (fun q22 => ?_))))))
   ·refine Eu (l3 rfl (Ez Z5 (Em rfl (Est rfl (N.call (pre := [_]) s8 rfl rfl rfl dc rfl (fun w Lp hA => hA.ro hbs)) (fun x25 o25 => ?_)))))
    replace o25 : 0 ≤ x25 ∧ ((5 : Int) ≤ 0 → x25 = 0) ∧ (0 < (5 : Int) → x25 < (5 : Int)) := o25
    try (conv => arg 5; dsimp only [List.cons_append, List.nil_append, List.append_nil])
    refine Ey rfl ((Y.sub rfl rfl om om).yd) (Ey rfl ((g9 fo_Rule_1 f4 dc rfl).yd) (d7 (Est rfl (Ns [_, _, _] f4 rfl) (fun _ _ => (En (o2 (Et (Ew Z2 (Ey rfl (l8 (cs := [_, _, _]) ty_Rule rfl (Has.pt m0) rfl) (B0 (Est rfl (Ns [_, _, _] ty_Rule rfl) (fun _ _ => (Eu (E.ret (i8 (i8 (d7 ?_)))))))))))))))))
    exact M0 br rfl rfl (mS (mS m0)) ty_Rule rfl (rl13[0].1, (x25 - 1), rl13[0].2.2, (_, _, _)) (show (-10 ≤ rl13[0].1 ∧ rl13[0].1 ≤ 10) ∧ (-10 ≤ (x25 - 1) ∧ (x25 - 1) ≤ 10) ∧ rl13[0].2.2.length ≤ 4 from by first | omega | (simp only [List.length_append, List.length_cons, List.length_nil]; omega)) rfl (J := _) (.refl _) (.inl rfl)
   ·refine Eu (l4 rfl (Ew Z2 (Ey rfl ((Y.eql rfl rfl).yd) (Ei rfl (j8 (fun q28 => ?_) (fun q28 => ?_))))))
    ·refine Eu (l3 rfl (N3 [b5] (fun j => !(Nat.beq j 8)) mixed (B1 0 rfl rfl dc (g9 fo_Rule_2 ty_Is dc rfl) kr (a2x 1 rfl rfl dc (a1D ty_Is rfl ((M4.pt (mS m0) (by simp)).sub (cs' := [_]) 2 rfl) rfl) kr (B1 2 rfl rfl dc (g0 rfl) kr (C8 3 rfl rfl kr (fun _ _ => SameI.out) (N.call (pre := [_]) s8 rfl rfl rfl dc rfl (fun w Lp hA => hA.ro hbs)) (fun x33 o33 => ?_)))))))
     replace o33 : 0 ≤ x33 ∧ ((5 : Int) ≤ 0 → x33 = 0) ∧ (0 < (5 : Int) → x33 < (5 : Int)) := o33
     try (conv => arg 5; dsimp only [List.cons_append, List.nil_append, List.append_nil])
     refine B1 4 rfl rfl dc (Y.sub rfl rfl om om) kr (C8 5 rfl rfl kr (fun _ _ => SameI.out) (Nb [_] [_] us_Is f4 rfl rfl) (fun b35 _ => (i8 (C8 6 rfl rfl kr (fun _ _ => SameI.out) (N.push (E := Enc.int) (ex := (x33 - 1)) us_Is f4 rfl rfl rfl (Own.int i6) rfl bn bn dc) (fun p36 _ => (B1 7 rfl rfl dc (g9 fo_Rule_2 ty_Is dc rfl) kr (l6 (C8 8 rfl rfl kr (fun h => by cases h) (Ns [_, _, _] ty_Is rfl) (fun _ _ => (R0 kr (o2 (Et (Ew Z2 (Ey rfl (l8 (cs := [_, _, _]) ty_Rule rfl (Has.pt m0) rfl) (B0 (Est rfl (Ns [_, _, _] ty_Rule rfl) (fun _ _ => (Eu (E.ret (l6 (i8 (d7 ?_))))))))))))))))))))))
     exact M0 br rfl rfl (mS (mS m0)) ty_Rule rfl (rl13[0].1, rl13[0].2.1, rl13[0].2.2 ++ [(x33 - 1)], (_, _, _)) (show (-10 ≤ rl13[0].1 ∧ rl13[0].1 ≤ 10) ∧ (-10 ≤ rl13[0].2.1 ∧ rl13[0].2.1 ≤ 10) ∧ (rl13[0].2.2 ++ [(x33 - 1)]).length ≤ 4 from by first | omega | (simp only [List.length_append, List.length_cons, List.length_nil]; omega)) rfl (J := _) (.refl _) (.inl rfl)
    ·refine Eu (l4 rfl (d9 (o2 (Et (Ew Z2 (Ey rfl (l8 (cs := [_, _, _]) ty_Rule rfl (Has.pt (mS m0)) rfl) (B0 (Est rfl (Ns [_, _, _] ty_Rule rfl) (fun _ _ => (Eu (E.ret (i8 (l6 (d7 ?_))))))))))))))
     exact M0 br rfl rfl (mS (mS m0)) ty_Rule rfl (rl13[0].1, rl13[0].2.1, rl13[0].2.2, (_, _, _)) (show (-10 ≤ rl13[0].1 ∧ rl13[0].1 ≤ 10) ∧ (-10 ≤ rl13[0].2.1 ∧ rl13[0].2.1 ≤ 10) ∧ rl13[0].2.2.length ≤ 4 from by first | omega | (simp only [List.length_append, List.length_cons, List.length_nil]; omega)) rfl (J := _) (.refl _) (.inl rfl)
  ·refine Eu (l4 rfl (d9 (Et (Eq_ (Ew Z2 (Em rfl (d7 (Est rfl (N.call (pre := [_]) s8 rfl rfl rfl dc rfl (fun w Lp hA => hA.ro hbs)) (fun x21 o21 => ?_)))))))))
   replace o21 : 0 ≤ x21 ∧ ((8 : Int) ≤ 0 → x21 = 0) ∧ (0 < (8 : Int) → x21 < (8 : Int)) := o21
   try (conv => arg 5; dsimp only [List.cons_append, List.nil_append, List.append_nil])
   refine Eu (E.block (Ew Z2 (Ey rfl ((Y.eql rfl rfl).yd) (Ei rfl (j8 (fun q22 => ?_) (fun q22 => ?_))))))
   ·refine Eu (l3 rfl (Ez Z5 (Em rfl (Est rfl (N.call (pre := [_]) s8 rfl rfl rfl dc rfl (fun w Lp hA => hA.ro hbs)) (fun x25 o25 => ?_)))))
    replace o25 : 0 ≤ x25 ∧ ((5 : Int) ≤ 0 → x25 = 0) ∧ (0 < (5 : Int) → x25 < (5 : Int)) := o25
    try (conv => arg 5; dsimp only [List.cons_append, List.nil_append, List.append_nil])
    refine Ey rfl ((Y.sub rfl rfl om om).yd) (Ey rfl ((g9 fo_Rule_1 f4 dc rfl).yd) (l6 (Est rfl (Ns [_, _, _] f4 rfl) (fun _ _ => (En (o2 (Et (Ew Z2 (Ey rfl (l8 (cs := [_, _, _]) ty_Rule rfl (Has.pt m0) rfl) (B0 (Est rfl (Ns [_, _, _] ty_Rule rfl) (fun _ _ => (Eu (E.ret (B0 (i8 (d7 ?_)))))))))))))))))
    exact M0 br rfl rfl (mS (mS m0)) ty_Rule rfl (0, (x25 - 1), [0], (_, _, _)) (show (-10 ≤ (0 : Int) ∧ (0 : Int) ≤ 10) ∧ (-10 ≤ (x25 - 1) ∧ (x25 - 1) ≤ 10) ∧ ([0] : List Int).length ≤ 4 from by first | omega | (simp only [List.length_append, List.length_cons, List.length_nil]; omega)) rfl (J := _) (.refl _) (.inl rfl)
   ·refine Eu (l4 rfl (Ew Z2 (Ey rfl ((Y.eql rfl rfl).yd) (Ei rfl (j8 (fun q28 => ?_) (fun q28 => ?_))))))
    ·refine Eu (l3 rfl (N3 [b5] (fun j => !(Nat.beq j 8)) mixed (B1 0 rfl rfl dc (g9 fo_Rule_2 ty_Is dc rfl) kr (a2x 1 rfl rfl dc (a1D ty_Is rfl ((M4.pt (mS (mS m0)) (by simp)).sub (cs' := [_]) 2 rfl) rfl) kr (B1 2 rfl rfl dc (g0 rfl) kr (C8 3 rfl rfl kr (fun _ _ => SameI.out) (N.call (pre := [_]) s8 rfl rfl rfl dc rfl (fun w Lp hA => hA.ro hbs)) (fun x33 o33 => ?_)))))))
     replace o33 : 0 ≤ x33 ∧ ((5 : Int) ≤ 0 → x33 = 0) ∧ (0 < (5 : Int) → x33 < (5 : Int)) := o33
     try (conv => arg 5; dsimp only [List.cons_append, List.nil_append, List.append_nil])
     refine B1 4 rfl rfl dc (Y.sub rfl rfl om om) kr (C8 5 rfl rfl kr (fun _ _ => SameI.out) (Nb [_] [_] us_Is f4 rfl rfl) (fun b35 _ => (B0 (C8 6 rfl rfl kr (fun _ _ => SameI.out) (N.push (E := Enc.int) (ex := (x33 - 1)) us_Is f4 rfl rfl rfl (Own.int i6) rfl bn bn dc) (fun p36 _ => (B1 7 rfl rfl dc (g9 fo_Rule_2 ty_Is dc rfl) kr (i8 (C8 8 rfl rfl kr (fun h => by cases h) (Ns [_, _, _] ty_Is rfl) (fun _ _ => (R0 kr (o2 (Et (Ew Z2 (Ey rfl (l8 (cs := [_, _, _]) ty_Rule rfl (Has.pt m0) rfl) (B0 (Est rfl (Ns [_, _, _] ty_Rule rfl) (fun _ _ => (Eu (E.ret (l6 (i8 (d7 ?_))))))))))))))))))))))
     exact M0 br rfl rfl (mS (mS m0)) ty_Rule rfl (0, 0, ([0]) ++ [(x33 - 1)], (_, _, _)) (show (-10 ≤ (0 : Int) ∧ (0 : Int) ≤ 10) ∧ (-10 ≤ (0 : Int) ∧ (0 : Int) ≤ 10) ∧ (([0]) ++ [(x33 - 1)]).length ≤ 4 from by first | omega | (simp only [List.length_append, List.length_cons, List.length_nil]; omega)) rfl (J := _) (.refl _) (.inl rfl)
    ·refine Eu (l4 rfl (d9 (o2 (Et (Ew Z2 (Ey rfl (l8 (cs := [_, _, _]) ty_Rule rfl (Has.pt (mS (mS m0))) rfl) (B0 (Est rfl (Ns [_, _, _] ty_Rule rfl) (fun _ _ => (Eu (E.ret (B0 (l6 (d7 ?_))))))))))))))
     exact M0 br rfl rfl (mS (mS m0)) ty_Rule rfl (0, 0, [0], (_, _, _)) (show (-10 ≤ (0 : Int) ∧ (0 : Int) ≤ 10) ∧ (-10 ≤ (0 : Int) ∧ (0 : Int) ≤ 10) ∧ ([0] : List Int).length ≤ 4 from by first | omega | (simp only [List.length_append, List.length_cons, List.length_nil]; omega)) rfl (J := _) (.refl _) (.inl rfl)
 ·refine Eu (l4 rfl (d9 (Et (Eq_ (Ew Z2 (Em rfl (i8 (Est rfl (N.call (pre := [_]) s8 rfl rfl rfl dc rfl (fun w Lp hA => hA.ro hbs)) (fun x21 o21 => ?_)))))))))
  replace o21 : 0 ≤ x21 ∧ ((8 : Int) ≤ 0 → x21 = 0) ∧ (0 < (8 : Int) → x21 < (8 : Int)) := o21
  try (conv => arg 5; dsimp only [List.cons_append, List.nil_append, List.append_nil])
  refine Eu (E.block (Ew Z2 (Ey rfl ((Y.eql rfl rfl).yd) (Ei rfl (j8 (fun q22 => ?_) (fun q22 => ?_))))))
  ·refine Eu (l3 rfl (Ez Z5 (Em rfl (Est rfl (N.call (pre := [_]) s8 rfl rfl rfl dc rfl (fun w Lp hA => hA.ro hbs)) (fun x25 o25 => ?_)))))
   replace o25 : 0 ≤ x25 ∧ ((5 : Int) ≤ 0 → x25 = 0) ∧ (0 < (5 : Int) → x25 < (5 : Int)) := o25
   try (conv => arg 5; dsimp only [List.cons_append, List.nil_append, List.append_nil])
   refine Ey rfl ((Y.sub rfl rfl om om).yd) (Ey rfl ((g9 fo_Rule_1 f4 dc rfl).yd) (d7 (Est rfl (Ns [_, _, _] f4 rfl) (fun _ _ => (En (o2 (Et (Ew Z2 (Ey rfl (l8 (cs := [_, _, _]) ty_Rule rfl (Has.pt m0) rfl) (i8 (Est rfl (Ns [_, _, _] ty_Rule rfl) (fun _ _ => (Eu (E.ret (i8 (i8 (d7 ?_)))))))))))))))))
   exact M0 br rfl rfl (mS (mS m0)) ty_Rule rfl (0, (x25 - 1), [0], (_, _, _)) (show (-10 ≤ (0 : Int) ∧ (0 : Int) ≤ 10) ∧ (-10 ≤ (x25 - 1) ∧ (x25 - 1) ≤ 10) ∧ ([0] : List Int).length ≤ 4 from by first | omega | (simp only [List.length_append, List.length_cons, List.length_nil]; omega)) rfl (J := _) (.refl _) (.inl rfl)
  ·refine Eu (l4 rfl (Ew Z2 (Ey rfl ((Y.eql rfl rfl).yd) (Ei rfl (j8 (fun q28 => ?_) (fun q28 => ?_))))))
   ·refine Eu (l3 rfl (N3 [b5] (fun j => !(Nat.beq j 8)) mixed (B1 0 rfl rfl dc (g9 fo_Rule_2 ty_Is dc rfl) kr (a2x 1 rfl rfl dc (a1D ty_Is rfl ((M4.pt (mS m0) (by simp)).sub (cs' := [_]) 2 rfl) rfl) kr (B1 2 rfl rfl dc (g0 rfl) kr (C8 3 rfl rfl kr (fun _ _ => SameI.out) (N.call (pre := [_]) s8 rfl rfl rfl dc rfl (fun w Lp hA => hA.ro hbs)) (fun x33 o33 => ?_)))))))
    replace o33 : 0 ≤ x33 ∧ ((5 : Int) ≤ 0 → x33 = 0) ∧ (0 < (5 : Int) → x33 < (5 : Int)) := o33
    try (conv => arg 5; dsimp only [List.cons_append, List.nil_append, List.append_nil])
    refine B1 4 rfl rfl dc (Y.sub rfl rfl om om) kr (C8 5 rfl rfl kr (fun _ _ => SameI.out) (Nb [_] [_] us_Is f4 rfl rfl) (fun b35 _ => (i8 (C8 6 rfl rfl kr (fun _ _ => SameI.out) (N.push (E := Enc.int) (ex := (x33 - 1)) us_Is f4 rfl rfl rfl (Own.int i6) rfl bn bn dc) (fun p36 _ => (B1 7 rfl rfl dc (g9 fo_Rule_2 ty_Is dc rfl) kr (l6 (C8 8 rfl rfl kr (fun h => by cases h) (Ns [_, _, _] ty_Is rfl) (fun _ _ => (R0 kr (o2 (Et (Ew Z2 (Ey rfl (l8 (cs := [_, _, _]) ty_Rule rfl (Has.pt m0) rfl) (i8 (Est rfl (Ns [_, _, _] ty_Rule rfl) (fun _ _ => (Eu (E.ret (l6 (i8 (d7 ?_))))))))))))))))))))))
    exact M0 br rfl rfl (mS (mS m0)) ty_Rule rfl (0, 0, ([0]) ++ [(x33 - 1)], (_, _, _)) (show (-10 ≤ (0 : Int) ∧ (0 : Int) ≤ 10) ∧ (-10 ≤ (0 : Int) ∧ (0 : Int) ≤ 10) ∧ (([0]) ++ [(x33 - 1)]).length ≤ 4 from by first | omega | (simp only [List.length_append, List.length_cons, List.length_nil]; omega)) rfl (J := _) (.refl _) (.inl rfl)
   ·refine Eu (l4 rfl (d9 (o2 (Et (Ew Z2 (Ey rfl (l8 (cs := [_, _, _]) ty_Rule rfl (Has.pt (mS m0)) rfl) (i8 (Est rfl (Ns [_, _, _] ty_Rule rfl) (fun _ _ => (Eu (E.ret (i8 (l6 (d7 ?_))))))))))))))
    exact M0 br rfl rfl (mS (mS m0)) ty_Rule rfl (0, 0, [0], (_, _, _)) (show (-10 ≤ (0 : Int) ∧ (0 : Int) ≤ 10) ∧ (-10 ≤ (0 : Int) ∧ (0 : Int) ≤ 10) ∧ ([0] : List Int).length ≤ 4 from by first | omega | (simp only [List.length_append, List.length_cons, List.length_nil]; omega)) rfl (J := _) (.refl _) (.inl rfl)
theorem a1A {bs : List UInt8} : Tr Tryz.prog 90 [.pointer (some ⟨b_c, 0, none⟩)] (fun w L => Ro w L L7 [.slice a_b m_b c_b] bs) [cur b_c a_b m_b c_b] (κ := (List Int) × (List (Int × Int × List Int)) × (List (Int × List Int)) × (Option Addr × Nat × Nat) × (Option Addr × Nat × Nat) × Option Addr × Nat × Nat) (fun k => (1 ≤ k.1.length ∧ k.1.length ≤ 4) ∧ (k.2.1.length ≤ 4 ∧ ∀ r ∈ k.2.1, r.2.2.length ≤ 4) ∧ k.2.2.1.length ≤ 9 ∧ ∀ f ∈ k.2.2.1, 1 ≤ f.2.length ∧ f.2.length ≤ 4) (fun k => .tuple #[.slice k.2.2.2.1.1 k.2.2.2.1.2.1 k.2.2.2.1.2.2, .slice k.2.2.2.2.1.1 k.2.2.2.2.1.2.1 k.2.2.2.2.1.2.2, .slice k.2.2.2.2.2.1 k.2.2.2.2.2.2.1 k.2.2.2.2.2.2.2]) (fun k => [ow eIs [.slice k.2.2.2.1.1 k.2.2.2.1.2.1 k.2.2.2.1.2.2] k.1, ow D0 [.slice k.2.2.2.2.1.1 k.2.2.2.2.1.2.1 k.2.2.2.2.1.2.2] k.2.1, ow f6 [.slice k.2.2.2.2.2.1 k.2.2.2.2.2.2.1 k.2.2.2.2.2.2.2] k.2.2.1, cur b_c a_b m_b c_b]) := by
 refine f8 Tryz.func90 rfl (n := 38) rfl (by decide +kernel) bl (fr := [(0, .pointer (some ⟨b_c, 0, none⟩))]) rfl fun w L hR => ?_
 have hbs := hR
 obtain ⟨rfl, lb⟩ := hbs.slen
 refine Ew Z3 (Ei rfl (Ei rfl (Ei rfl (Ev Z3 (Em rfl (Est rfl (N.call (pre := [_]) T6 rfl rfl rfl dc rfl (fun w Lp hA => hA.ro hbs)) (fun k9 o9 => ?_)))))))
 obtain ⟨xs9, ⟨a9, m9, c9⟩⟩ := k9
 replace o9 : 1 ≤ xs9.length ∧ xs9.length ≤ 3 ∧ ∀ z ∈ xs9, 1 ≤ z ∧ z ≤ 3 := o9
 try (conv => arg 4; dsimp only)
 try (conv => arg 5; dsimp only [List.cons_append, List.nil_append, List.append_nil])
 refine d8 m0 fun e9 l9 => ?_
 subst e9
 refine Ei rfl (Ev Z4 (Em rfl (Em rfl (d7 (Est rfl (N.call (pre := [_]) (a0V o9.1 o9.2.2 o9.2.1) rfl rfl rfl dc rfl (fun w Lp hA => ⟨hA.ow m0, hA.ro hbs⟩)) (fun k12 o12 => ?_))))))
 obtain ⟨rl12, ⟨a12, m12, c12⟩⟩ := k12
 replace o12 : rl12.length ≤ 3 ∧ ∀ r ∈ rl12, (0 ≤ r.1 ∧ r.1 ≤ 3) ∧ (0 ≤ r.2.1 ∧ r.2.1 ≤ 3) ∧ r.2.2.length ≤ 3 := o12
 try (conv => arg 4; dsimp only)
 try (conv => arg 5; dsimp only [List.cons_append, List.nil_append, List.append_nil])
 refine d8 m0 fun e12 l12 => ?_
 subst e12
 refine Ei rfl (Ev Z4 (Em rfl (Em rfl (d7 (Est rfl (N.call (pre := [_]) (a1z o9.1 o9.2.2 (by first | omega | decide)) rfl rfl rfl dc rfl (fun w Lp hA => ⟨hA.ow (mS m0), hA.ro hbs⟩)) (fun k15 o15 => ?_))))))
 obtain ⟨fl15, ⟨a15, m15, c15⟩⟩ := k15
 replace o15 : (↑fl15.length : Int) ≤ (6 : Int) ∧ ∀ f ∈ fl15, 1 ≤ f.2.length ∧ f.2.length ≤ 3 := o15
 try (conv => arg 4; dsimp only)
 try (conv => arg 5; dsimp only [List.cons_append, List.nil_append, List.append_nil])
 refine d8 m0 fun e15 l15 => ?_
 subst e15
 refine Ei rfl (Eu (Eq_ (Ew Z2 (Em rfl (d7 (Est rfl (N.call (pre := [_]) s8 rfl rfl rfl dc rfl (fun w Lp hA => hA.ro hbs)) (fun x17 o17 => ?_)))))))
 replace o17 : 0 ≤ x17 ∧ ((16 : Int) ≤ 0 → x17 = 0) ∧ (0 < (16 : Int) → x17 < (16 : Int)) := o17
 try (conv => arg 5; dsimp only [List.cons_append, List.nil_append, List.append_nil])
 refine Eu (E.block (Ew Z2 (Ey rfl ((Y.eql rfl rfl).yd) (Ei rfl (j8 (fun q18 => ?_) (fun q18 => ?_))))))
 ·refine Eu (l3 rfl (Ez Z7 (Em rfl (Em rfl (Em rfl (Est rfl (N.call (pre := [_]) R3 rfl rfl rfl dc rfl (fun w Lp hA => ⟨hA.ow (mS (mS m0)), hA.ro hbs⟩)) (fun k23 o23 => ?_)))))))
  obtain ⟨rf23, rt23, rm23, ⟨a23, m23, c23⟩⟩ := k23
  replace o23 : (-10 ≤ rf23 ∧ rf23 ≤ 10) ∧ (-10 ≤ rt23 ∧ rt23 ≤ 10) ∧ rm23.length ≤ 4 := o23
  try (conv => arg 4; dsimp only)
  try (conv => arg 5; dsimp only [List.cons_append, List.nil_append, List.append_nil])
  refine d8 m0 fun e23 l23 => ?_
  subst e23
  refine Est rfl (Nb [_] [_, _, _] us_Rules ty_Rule rfl rfl) (fun b24 _ => (d7 (d7 (B0 (Est rfl (N.push (E := U6) (ex := (rf23, rt23, rm23)) us_Rules ty_Rule rfl rfl rfl (a4p (x := (rf23, rt23, rm23)) i6 i6 Own.ow) rfl bn bn dc) (fun p25 _ => (Ei rfl (En (o2 (Et (Ew Z6 (Em rfl (Em rfl (Em rfl (Ei rfl (Ei rfl (Ei rfl (Eu (E.ret (l6 (d7 (i8 ?_))))))))))))))))))))))
  refine i8 (i8 (i8 (i8 ?_)))
  exact a7l br rfl rfl rfl rfl (xs9, rl12 ++ [(rf23, rt23, rm23)], fl15, (_, _, _), (_, _, _), (_, _, _)) (show (1 ≤ xs9.length ∧ xs9.length ≤ 4) ∧ ((rl12 ++ [(rf23, rt23, rm23)]).length ≤ 4 ∧ ∀ r ∈ (rl12 ++ [(rf23, rt23, rm23)]), r.2.2.length ≤ 4) ∧ fl15.length ≤ 9 ∧ ∀ f ∈ fl15, 1 ≤ f.2.length ∧ f.2.length ≤ 4 from by exact ⟨⟨by omega, by omega⟩, b3y o12 o23.2.2, a8Q o15⟩) rfl (J := _) (.refl _) (.inl rfl)
 ·refine Eu (l4 rfl (Ew Z2 (Ey rfl ((Y.eql rfl rfl).yd) (Ei rfl (j8 (fun q26 => ?_) (fun q26 => ?_))))))
  ·refine Eu (l3 rfl (Ez Z4 (Em rfl (Em rfl (Est rfl (N.call (pre := [_]) a2Z rfl rfl rfl dc rfl (fun w Lp hA => ⟨hA.ow (mS (mS m0)), hA.ro hbs⟩)) (fun k30 o30 => ?_))))))
   obtain ⟨fl30, ⟨a30, m30, c30⟩⟩ := k30
   replace o30 : fl30.length ≤ 9 ∧ ∀ f ∈ fl30, 1 ≤ f.2.length ∧ f.2.length ≤ 4 := o30
   try (conv => arg 4; dsimp only)
   try (conv => arg 5; dsimp only [List.cons_append, List.nil_append, List.append_nil])
   refine d8 m0 fun e30 l30 => ?_
   subst e30
   refine Ei rfl (En (o2 (Et (Ew Z6 (Em rfl (Em rfl (Em rfl (Ei rfl (Ei rfl (Ei rfl (Eu (E.ret (i8 (B0 (i8 (i8 (i8 (i8 ?_))))))))))))))))))
   exact a7l br rfl rfl rfl rfl (xs9, rl12, fl30, (_, _, _), (_, _, _), (_, _, _)) (show (1 ≤ xs9.length ∧ xs9.length ≤ 4) ∧ (rl12.length ≤ 4 ∧ ∀ r ∈ rl12, r.2.2.length ≤ 4) ∧ fl30.length ≤ 9 ∧ ∀ f ∈ fl30, 1 ≤ f.2.length ∧ f.2.length ≤ 4 from by exact ⟨⟨by omega, by omega⟩, a8p o12, o30⟩) rfl (J := _) (.refl _) (.inl rfl)
  ·refine Eu (l4 rfl (Ew Z2 (Ey rfl ((Y.eql rfl rfl).yd) (Ei rfl (j8 (fun q31 => ?_) (fun q31 => ?_))))))
   ·refine Eu (l3 rfl (Ez Z3 (Em rfl (Est rfl (N.call (pre := [_]) Y4 rfl rfl rfl dc rfl (fun w Lp hA => hA.ro hbs)) (fun k34 o34 => ?_)))))
    obtain ⟨xs34, ⟨a34, m34, c34⟩⟩ := k34
    replace o34 : 1 ≤ xs34.length ∧ xs34.length ≤ 4 := o34
    try (conv => arg 4; dsimp only)
    try (conv => arg 5; dsimp only [List.cons_append, List.nil_append, List.append_nil])
    refine d8 m0 fun e34 l34 => ?_
    subst e34
    refine Ei rfl (En (o2 (Et (Ew Z6 (Em rfl (Em rfl (Em rfl (Ei rfl (Ei rfl (Ei rfl (Eu (E.ret (l6 (i8 (l6 (i8 (i8 (i8 (i8 ?_)))))))))))))))))))
    exact a7l br rfl rfl rfl rfl (xs34, rl12, fl15, (_, _, _), (_, _, _), (_, _, _)) (show (1 ≤ xs34.length ∧ xs34.length ≤ 4) ∧ (rl12.length ≤ 4 ∧ ∀ r ∈ rl12, r.2.2.length ≤ 4) ∧ fl15.length ≤ 9 ∧ ∀ f ∈ fl15, 1 ≤ f.2.length ∧ f.2.length ≤ 4 from by exact ⟨o34, a8p o12, a8Q o15⟩) rfl (J := _) (.refl _) (.inl rfl)
   ·refine Eu (l4 rfl (d9 (o2 (Et (Ew Z6 (Em rfl (Em rfl (Em rfl (Ei rfl (Ei rfl (Ei rfl (Eu (E.ret (d7 (l6 (i8 (i8 (i8 (i8 (i8 ?_))))))))))))))))))))
    exact a7l br rfl rfl rfl rfl (xs9, rl12, fl15, (_, _, _), (_, _, _), (_, _, _)) (show (1 ≤ xs9.length ∧ xs9.length ≤ 4) ∧ (rl12.length ≤ 4 ∧ ∀ r ∈ rl12, r.2.2.length ≤ 4) ∧ fl15.length ≤ 9 ∧ ∀ f ∈ fl15, 1 ≤ f.2.length ∧ f.2.length ≤ 4 from by exact ⟨⟨by omega, by omega⟩, a8p o12, a8Q o15⟩) rfl (J := _) (.refl _) (.inl rfl)
theorem a1s {code : List UInt8} (hcl : code.length ≤ 1048576) : Tr Tryz.prog 31 [.slice a_code m_code c_code] (fun w L => Ro w L L7 [.slice a_code m_code c_code] code) [] (κ := (List Int) × (List (Int × Int × List Int)) × (List (Int × List Int)) × (Option Addr × Nat × Nat) × (Option Addr × Nat × Nat) × Option Addr × Nat × Nat) (fun k => (1 ≤ k.1.length ∧ k.1.length ≤ 4) ∧ (k.2.1.length ≤ 4 ∧ ∀ r ∈ k.2.1, r.2.2.length ≤ 4) ∧ k.2.2.1.length ≤ 9 ∧ ∀ f ∈ k.2.2.1, 1 ≤ f.2.length ∧ f.2.length ≤ 4) (fun k => .tuple #[.slice k.2.2.2.1.1 k.2.2.2.1.2.1 k.2.2.2.1.2.2, .slice k.2.2.2.2.1.1 k.2.2.2.2.1.2.1 k.2.2.2.2.1.2.2, .slice k.2.2.2.2.2.1 k.2.2.2.2.2.2.1 k.2.2.2.2.2.2.2]) (fun k => [ow eIs [.slice k.2.2.2.1.1 k.2.2.2.1.2.1 k.2.2.2.1.2.2] k.1, ow D0 [.slice k.2.2.2.2.1.1 k.2.2.2.2.1.2.1 k.2.2.2.2.1.2.2] k.2.1, ow f6 [.slice k.2.2.2.2.2.1 k.2.2.2.2.2.2.1 k.2.2.2.2.2.2.2] k.2.2.1]) := by
 refine f8 Tryz.func31 rfl (n := 18) rfl (by decide +kernel) bl (fr := [(0, .slice a_code m_code c_code)]) rfl fun w L hR => ?_
 have hcode := hR
 obtain ⟨rfl, lcode⟩ := hcode.slen
 refine Ew Z3 (Ei rfl (Ei rfl (Ei rfl (Ev Z10 (Em rfl (Est rfl (N.call (U2 fc) rfl rfl rfl dc rfl (fun w Lp hA => hA.ro hcode)) (fun b10 _ => ?_)))))))
 have hbs := hcode
 refine Est rfl (N.call (pre := [_]) a1A rfl rfl rfl dc rfl (fun w Lp hA => hA.ro hbs)) (fun k11 o11 => ?_)
 obtain ⟨xs11, rl11, fl11, ⟨a11_0, m11_0, c11_0⟩, ⟨a11_1, m11_1, c11_1⟩, ⟨a11_2, m11_2, c11_2⟩⟩ := k11
 replace o11 : (1 ≤ xs11.length ∧ xs11.length ≤ 4) ∧ (rl11.length ≤ 4 ∧ ∀ r ∈ rl11, r.2.2.length ≤ 4) ∧ fl11.length ≤ 9 ∧ ∀ f ∈ fl11, 1 ≤ f.2.length ∧ f.2.length ≤ 4 := o11
 try (conv => arg 4; dsimp only)
 try (conv => arg 5; dsimp only [List.cons_append, List.nil_append, List.append_nil])
 refine d8 m0 fun e11_0 l11_0 => ?_
 subst e11_0
 refine d8 (mS m0) fun e11_1 l11_1 => ?_
 subst e11_1
 refine d8 (mS (mS m0)) fun e11_2 l11_2 => ?_
 subst e11_2
 refine Em rfl (Ey rfl ((Y.ext rfl rfl).yd) (Ey rfl ((Y.ext rfl rfl).yd) (Ey rfl ((Y.ext rfl rfl).yd) (Ei rfl (Ei rfl (Ei rfl (Ev Z6 (Em rfl (Em rfl (Em rfl (Ei rfl (Ei rfl (Ei rfl (Eu (E.ret (l6 (l6 ?_)))))))))))))))))
 refine l6 (l6 (l6 (l6 ?_)))
 exact a7l br rfl rfl rfl rfl (xs11, rl11, fl11, (_, _, _), (_, _, _), (_, _, _)) (show (1 ≤ xs11.length ∧ xs11.length ≤ 4) ∧ (rl11.length ≤ 4 ∧ ∀ r ∈ rl11, r.2.2.length ≤ 4) ∧ fl11.length ≤ 9 ∧ ∀ f ∈ fl11, 1 ≤ f.2.length ∧ f.2.length ≤ 4 from by exact o11) rfl (J := _) (.refl _) (.inl rfl)
theorem a3a {code : List UInt8} (hcl : code.length ≤ 1048576) : Tr Tryz.prog 45 [.slice a_code m_code c_code] (fun w L => Ro w L L7 [.slice a_code m_code c_code] code) [] (κ := (List Int) × Int × Int × (List Int) × (Option Addr × Nat × Nat) × Option Addr × Nat × Nat) (fun k => (1 ≤ k.1.length ∧ k.1.length ≤ 4) ∧ (-10 ≤ k.2.1 ∧ k.2.1 ≤ 10) ∧ (-10 ≤ k.2.2.1 ∧ k.2.2.1 ≤ 10) ∧ k.2.2.2.1.length ≤ 4) (fun k => .tuple #[.slice k.2.2.2.2.1.1 k.2.2.2.2.1.2.1 k.2.2.2.2.1.2.2, .agg #[.int .i64 k.2.1, .int .i64 k.2.2.1, .slice k.2.2.2.2.2.1 k.2.2.2.2.2.2.1 k.2.2.2.2.2.2.2]]) (fun k => [ow eIs [.slice k.2.2.2.2.1.1 k.2.2.2.2.1.2.1 k.2.2.2.2.1.2.2] k.1, ow eIs [.slice k.2.2.2.2.2.1 k.2.2.2.2.2.2.1 k.2.2.2.2.2.2.2] k.2.2.2.1]) := by
 refine f8 Tryz.func45 rfl (n := 14) rfl (by decide +kernel) bl (fr := [(0, .slice a_code m_code c_code)]) rfl fun w L hR => ?_
 have hcode := hR
 obtain ⟨rfl, lcode⟩ := hcode.slen
 refine Ew Z2 (Ei rfl (Est rfl (N.alloc ty_Rule dc) (fun b3 _ => (Ev Z3 (Em rfl (Est rfl (N.call (U2 fc) rfl rfl rfl dc rfl (fun w Lp hA => hA.ro hcode)) (fun b7 _ => ?_)))))))
 have hbs := hcode
 refine Ei rfl (Ev Z3 (Em rfl (Est rfl (N.call (pre := [_]) Y4 rfl rfl rfl dc rfl (fun w Lp hA => hA.ro hbs)) (fun k9 o9 => ?_))))
 obtain ⟨xs9, ⟨a9, m9, c9⟩⟩ := k9
 replace o9 : 1 ≤ xs9.length ∧ xs9.length ≤ 4 := o9
 try (conv => arg 4; dsimp only)
 try (conv => arg 5; dsimp only [List.cons_append, List.nil_append, List.append_nil])
 refine d8 m0 fun e9 l9 => ?_
 subst e9
 refine Ei rfl (Ev Z6 (Em rfl (Em rfl (Em rfl (d7 (Est rfl (N.call (pre := [_]) R3 rfl rfl rfl dc rfl (fun w Lp hA => ⟨hA.ow m0, hA.ro hbs⟩)) (fun k13 o13 => ?_)))))))
 obtain ⟨rf13, rt13, rm13, ⟨a13, m13, c13⟩⟩ := k13
 replace o13 : (-10 ≤ rf13 ∧ rf13 ≤ 10) ∧ (-10 ≤ rt13 ∧ rt13 ≤ 10) ∧ rm13.length ≤ 4 := o13
 try (conv => arg 4; dsimp only)
 try (conv => arg 5; dsimp only [List.cons_append, List.nil_append, List.append_nil])
 refine d8 m0 fun e13 l13 => ?_
 subst e13
 refine Ei rfl (i8 (Est rfl (Ns [_, _, _] ty_Rule rfl) (fun _ _ => (Eu (E.ret (d7 (i8 (d7 (d7 ?_)))))))))
 exact b6j br rfl rfl rfl (mS (mS m0)) ty_Rule rfl (xs9, rf13, rt13, rm13, (_, _, _), (_, _, _)) (show (1 ≤ xs9.length ∧ xs9.length ≤ 4) ∧ (-10 ≤ rf13 ∧ rf13 ≤ 10) ∧ (-10 ≤ rt13 ∧ rt13 ≤ 10) ∧ rm13.length ≤ 4 from by exact ⟨o9, o13⟩) rfl (J := _) (.refl _) (.inl rfl)
theorem a1K {code : List UInt8} (hcl : code.length ≤ 1048576) : Tr Tryz.prog 48 [.slice a_code m_code c_code] (fun w L => Ro w L L7 [.slice a_code m_code c_code] code) [] (κ := (List Int) × Int × Int × (List Int) × Int × (List Int) × (Option Addr × Nat × Nat) × (Option Addr × Nat × Nat) × Option Addr × Nat × Nat) (fun k => (1 ≤ k.1.length ∧ k.1.length ≤ 3) ∧ ((-10 ≤ k.2.1 ∧ k.2.1 ≤ 10) ∧ (-10 ≤ k.2.2.1 ∧ k.2.2.1 ≤ 10) ∧ k.2.2.2.1.length ≤ 4) ∧ (-1 ≤ k.2.2.2.2.1 ∧ k.2.2.2.2.1 ≤ 10) ∧ 1 ≤ k.2.2.2.2.2.1.length ∧ k.2.2.2.2.2.1.length ≤ 4) (fun k => .tuple #[.slice k.2.2.2.2.2.2.1.1 k.2.2.2.2.2.2.1.2.1 k.2.2.2.2.2.2.1.2.2, .agg #[.int .i64 k.2.1, .int .i64 k.2.2.1, .slice k.2.2.2.2.2.2.2.1.1 k.2.2.2.2.2.2.2.1.2.1 k.2.2.2.2.2.2.2.1.2.2], .agg #[.int .i64 k.2.2.2.2.1, .slice k.2.2.2.2.2.2.2.2.1 k.2.2.2.2.2.2.2.2.2.1 k.2.2.2.2.2.2.2.2.2.2]]) (fun k => [ow eIs [.slice k.2.2.2.2.2.2.1.1 k.2.2.2.2.2.2.1.2.1 k.2.2.2.2.2.2.1.2.2] k.1, ow eIs [.slice k.2.2.2.2.2.2.2.1.1 k.2.2.2.2.2.2.2.1.2.1 k.2.2.2.2.2.2.2.1.2.2] k.2.2.2.1, ow eIs [.slice k.2.2.2.2.2.2.2.2.1 k.2.2.2.2.2.2.2.2.2.1 k.2.2.2.2.2.2.2.2.2.2] k.2.2.2.2.2.1]) := by
 refine f8 Tryz.func48 rfl (n := 20) rfl (by decide +kernel) bl (fr := [(0, .slice a_code m_code c_code)]) rfl fun w L hR => ?_
 have hcode := hR
 obtain ⟨rfl, lcode⟩ := hcode.slen
 refine Ew Z3 (Ei rfl (Est rfl (N.alloc ty_Rule dc) (fun b3 _ => (Est rfl (N.alloc ty_Fact dc) (fun b4 _ => (Ev Z3 (Em rfl (Est rfl (N.call (U2 fc) rfl rfl rfl dc rfl (fun w Lp hA => hA.ro hcode)) (fun b9 _ => ?_)))))))))
 have hbs := hcode
 refine Ei rfl (Ev Z3 (Em rfl (Est rfl (N.call (pre := [_]) T6 rfl rfl rfl dc rfl (fun w Lp hA => hA.ro hbs)) (fun k11 o11 => ?_))))
 obtain ⟨xs11, ⟨a11, m11, c11⟩⟩ := k11
 replace o11 : 1 ≤ xs11.length ∧ xs11.length ≤ 3 ∧ ∀ z ∈ xs11, 1 ≤ z ∧ z ≤ 3 := o11
 try (conv => arg 4; dsimp only)
 try (conv => arg 5; dsimp only [List.cons_append, List.nil_append, List.append_nil])
 refine d8 m0 fun e11 l11 => ?_
 subst e11
 refine Ei rfl (Ev Z5 (Em rfl (Em rfl (d7 (Est rfl (N.call (pre := [_]) R3 rfl rfl rfl dc rfl (fun w Lp hA => ⟨hA.ow m0, hA.ro hbs⟩)) (fun k14 o14 => ?_))))))
 obtain ⟨rf14, rt14, rm14, ⟨a14, m14, c14⟩⟩ := k14
 replace o14 : (-10 ≤ rf14 ∧ rf14 ≤ 10) ∧ (-10 ≤ rt14 ∧ rt14 ≤ 10) ∧ rm14.length ≤ 4 := o14
 try (conv => arg 4; dsimp only)
 try (conv => arg 5; dsimp only [List.cons_append, List.nil_append, List.append_nil])
 refine d8 m0 fun e14 l14 => ?_
 subst e14
 refine Est rfl (N.alloc ty_Rule dc) (fun b7 _ => (Est rfl (Ns [_, _, _] ty_Rule rfl) (fun _ _ => (Eu (Eq_ (N3 [b7] (fun j => true) mixed (B1 0 rfl rfl dc (g0 rfl) kr (a2x 1 rfl rfl dc (b0e (cs := [_, _, _]) ty_Rule rfl (M4.pt m0 (by simp)) rfl) kr (B1 2 rfl rfl dc (g0 rfl) kr (B1 3 rfl rfl dc (g0 rfl) kr (l6 (C8 4 rfl rfl kr (fun _ _ => SameI.out) (N.call (pre := [_]) J0 rfl rfl rfl dc rfl (fun w Lp hA => ⟨hA.ow (mS (mS m0)), hA.ro hbs⟩)) (fun k19 o19 => ?_)))))))))))))
 obtain ⟨rl19, vs19, ⟨a19, m19, c19⟩⟩ := k19
 replace o19 : (-1 ≤ rl19 ∧ rl19 ≤ 10) ∧ 1 ≤ vs19.length ∧ vs19.length ≤ 4 := o19
 try (conv => arg 4; dsimp only)
 try (conv => arg 5; dsimp only [List.cons_append, List.nil_append, List.append_nil])
 refine d8 m0 fun e19 l19 => ?_
 subst e19
 refine B1 5 rfl rfl dc (F1 rfl) kr (D4 (C8 6 rfl rfl kr (fun _ _ => SameI.out) (Ns [_, _, _] ty_Rule rfl) (fun _ _ => (D4 (C8 7 rfl rfl kr (fun _ _ => SameI.out) (Ns [_, _] ty_Fact rfl) (fun _ _ => (R0 kr (Et (E.ret (l6 (R5 (D4 (l6 (l6 (l6 ?_)))))))))))))))
 exact b4O br rfl rfl rfl rfl (mS (mS (mS (mS m0)))) ty_Rule rfl (mS (mS (mS m0))) ty_Fact rfl (xs11, rf14, rt14, rm14, rl19, vs19, (_, _, _), (_, _, _), (_, _, _)) (show (1 ≤ xs11.length ∧ xs11.length ≤ 3) ∧ ((-10 ≤ rf14 ∧ rf14 ≤ 10) ∧ (-10 ≤ rt14 ∧ rt14 ≤ 10) ∧ rm14.length ≤ 4) ∧ (-1 ≤ rl19 ∧ rl19 ≤ 10) ∧ 1 ≤ vs19.length ∧ vs19.length ≤ 4 from by exact ⟨⟨o11.1, o11.2.1⟩, o14, o19⟩) rfl (J := _) (.refl _) (.inl rfl)
theorem a1n {code : List UInt8} (hcl : code.length ≤ 1048576) : Tr Tryz.prog 43 [.slice a_code m_code c_code] (fun w L => Ro w L L7 [.slice a_code m_code c_code] code) [] (κ := (List Int) × (List (Int × Int × List Int)) × (List (Int × List Int)) × Int × (List Int) × (Option Addr × Nat × Nat) × (Option Addr × Nat × Nat) × (Option Addr × Nat × Nat) × Option Addr × Nat × Nat) (fun k => ((1 ≤ k.1.length ∧ k.1.length ≤ 4) ∧ (k.2.1.length ≤ 4 ∧ ∀ r ∈ k.2.1, r.2.2.length ≤ 4) ∧ k.2.2.1.length ≤ 9 ∧ ∀ f ∈ k.2.2.1, 1 ≤ f.2.length ∧ f.2.length ≤ 4) ∧ (-1 ≤ k.2.2.2.1 ∧ k.2.2.2.1 ≤ 10) ∧ k.2.2.2.2.1.length ≤ 4) (fun k => .tuple #[.slice k.2.2.2.2.2.1.1 k.2.2.2.2.2.1.2.1 k.2.2.2.2.2.1.2.2, .slice k.2.2.2.2.2.2.1.1 k.2.2.2.2.2.2.1.2.1 k.2.2.2.2.2.2.1.2.2, .slice k.2.2.2.2.2.2.2.1.1 k.2.2.2.2.2.2.2.1.2.1 k.2.2.2.2.2.2.2.1.2.2, .agg #[.int .i64 k.2.2.2.1, .slice k.2.2.2.2.2.2.2.2.1 k.2.2.2.2.2.2.2.2.2.1 k.2.2.2.2.2.2.2.2.2.2]]) (fun k => [ow eIs [.slice k.2.2.2.2.2.1.1 k.2.2.2.2.2.1.2.1 k.2.2.2.2.2.1.2.2] k.1, ow D0 [.slice k.2.2.2.2.2.2.1.1 k.2.2.2.2.2.2.1.2.1 k.2.2.2.2.2.2.1.2.2] k.2.1, ow f6 [.slice k.2.2.2.2.2.2.2.1.1 k.2.2.2.2.2.2.2.1.2.1 k.2.2.2.2.2.2.2.1.2.2] k.2.2.1, ow eIs [.slice k.2.2.2.2.2.2.2.2.1 k.2.2.2.2.2.2.2.2.2.1 k.2.2.2.2.2.2.2.2.2.2] k.2.2.2.2.1]) := by
 refine f8 Tryz.func43 rfl (n := 47) rfl (by decide +kernel) bl (fr := [(0, .slice a_code m_code c_code)]) rfl fun w L hR => ?_
 have hcode := hR
 obtain ⟨rfl, lcode⟩ := hcode.slen
 refine Ew Z4 (Ei rfl (Ei rfl (Ei rfl (Est rfl (N.alloc ty_Fact dc) (fun b5 _ => (Ev Z3 (Em rfl (Est rfl (N.call (U2 fc) rfl rfl rfl dc rfl (fun w Lp hA => hA.ro hcode)) (fun b12 _ => ?_)))))))))
 have hbs := hcode
 refine Ei rfl (Ev Z9 (Em rfl (Est rfl (N.call (pre := [_]) a1A rfl rfl rfl dc rfl (fun w Lp hA => hA.ro hbs)) (fun k15 o15 => ?_))))
 obtain ⟨xs15, rl15, fl15, ⟨a15_0, m15_0, c15_0⟩, ⟨a15_1, m15_1, c15_1⟩, ⟨a15_2, m15_2, c15_2⟩⟩ := k15
 replace o15 : (1 ≤ xs15.length ∧ xs15.length ≤ 4) ∧ (rl15.length ≤ 4 ∧ ∀ r ∈ rl15, r.2.2.length ≤ 4) ∧ fl15.length ≤ 9 ∧ ∀ f ∈ fl15, 1 ≤ f.2.length ∧ f.2.length ≤ 4 := o15
 try (conv => arg 4; dsimp only)
 try (conv => arg 5; dsimp only [List.cons_append, List.nil_append, List.append_nil])
 refine d8 m0 fun e15_0 l15_0 => ?_
 subst e15_0
 refine d8 (mS m0) fun e15_1 l15_1 => ?_
 subst e15_1
 refine d8 (mS (mS m0)) fun e15_2 l15_2 => ?_
 subst e15_2
 refine Em rfl (Ey rfl ((Y.ext rfl rfl).yd) (Ey rfl ((Y.ext rfl rfl).yd) (Ey rfl ((Y.ext rfl rfl).yd) (Ei rfl (Ei rfl (Ei rfl (Ev Z5 (Em rfl (Em rfl (Em rfl (Est rfl (N.call a0f rfl rfl rfl dc rfl (fun w Lp hA => ⟨hA.ow m0, hA.ow (mS m0), hA.ow (mS (mS m0))⟩)) (fun k22 _ => ?_))))))))))))
 obtain ⟨a22, m22, c22⟩ := k22
 refine d8 m0 fun e22 l22 => ?_
 subst e22
 refine Ei rfl (Eu (Eq_ (Ew Z8 (Em rfl (Ey rfl ((Y.len us_Facts rfl).yd) (Ey rfl ((Y.gtr rfl rfl).yd) (j8 (fun q25 => ?_) (fun q25 => ?_))))))))
 ·have jpos : 0 < (r9 xs15 rl15 fl15).length := by have := q25; dsimp only at this; omega
  have jeq : ((a22, (r9 xs15 rl15 fl15).length, c22) : Option Addr × Nat × Nat).2.1 = (r9 xs15 rl15 fl15).length := rfl
  refine Em rfl (Em rfl (B0 (Est rfl (N.call (pre := [_]) O5 rfl rfl rfl dc rfl (fun w Lp hA => hA.ro hbs)) (fun o28 o28 => ?_))))
  replace o28 : True := o28
  try (conv => arg 5; dsimp only [List.cons_append, List.nil_append, List.append_nil])
  refine r5 (fun q28 => ?_) (fun q28 => ?_)
  ·refine Ey rfl ((Y.not (b := true) rfl).yd) (Ey rfl ((o0 rfl rfl).yd) (Eu (l4 rfl (d9 (Et (Ew Z10 (Em rfl (Em rfl (Em rfl (Em rfl (Em rfl (Est rfl (N.call (pre := [_]) J0 rfl rfl rfl dc rfl (fun w Lp hA => ⟨hA.ow (mS m0), hA.ro hbs⟩)) (fun k46 o46 => ?_)))))))))))))
   obtain ⟨rl46, vs46, ⟨a46, m46, c46⟩⟩ := k46
   replace o46 : (-1 ≤ rl46 ∧ rl46 ≤ 10) ∧ 1 ≤ vs46.length ∧ vs46.length ≤ 4 := o46
   try (conv => arg 4; dsimp only)
   try (conv => arg 5; dsimp only [List.cons_append, List.nil_append, List.append_nil])
   refine d8 m0 fun e46 l46 => ?_
   subst e46
   refine Ei rfl (Ei rfl (Ei rfl (D4 (Est rfl (Ns [_, _] ty_Fact rfl) (fun _ _ => (Eu (E.ret (d7 (D4 (D4 (D4 (i8 (i8 (i8 (i8 ?_)))))))))))))))
   exact a7q br rfl rfl rfl rfl rfl (mS (mS (mS (mS m0)))) ty_Fact rfl (xs15, rl15, fl15, rl46, vs46, (_, _, _), (_, _, _), (_, _, _), (_, _, _)) (show ((1 ≤ xs15.length ∧ xs15.length ≤ 4) ∧ (rl15.length ≤ 4 ∧ ∀ r ∈ rl15, r.2.2.length ≤ 4) ∧ fl15.length ≤ 9 ∧ ∀ f ∈ fl15, 1 ≤ f.2.length ∧ f.2.length ≤ 4) ∧ (-1 ≤ rl46 ∧ rl46 ≤ 10) ∧ vs46.length ≤ 4 from by first | exact ⟨o15, o46.1, o46.2.2⟩ | (have jc := a3r (List.getElem_mem (show x38.toNat < (r9 xs15 rl15 fl15).length by omega)); exact ⟨o15, by omega, by omega⟩)) rfl (J := _) (.refl _) (.inl rfl)
  ·refine Ey rfl ((Y.not (b := false) rfl).yd) (Ey rfl ((o0 rfl rfl).yd) (Eu (l3 rfl (Eq_ (N3 [] (fun j => true) mixed (B1 0 rfl rfl dc (g0 rfl) kr (B1 1 rfl rfl dc (g0 rfl) kr (B1 2 rfl rfl dc (g0 rfl) kr (B1 3 rfl rfl dc (g0 rfl) kr (B1 4 rfl rfl dc (g0 rfl) kr (B1 5 rfl rfl dc (g0 rfl) kr (B1 6 rfl rfl dc (Y.len us_Facts rfl) kr (C8 7 rfl rfl kr (fun _ _ => SameI.out) (N.call (pre := [_]) s8 rfl rfl rfl dc rfl (fun w Lp hA => hA.ro hbs)) (fun x38 o38 => ?_))))))))))))))
   replace o38 : 0 ≤ x38 ∧ ((↑((r9 xs15 rl15 fl15).length) : Int) ≤ 0 → x38 = 0) ∧ (0 < (↑((r9 xs15 rl15 fl15).length) : Int) → x38 < (↑((r9 xs15 rl15 fl15).length) : Int)) := o38
   try (conv => arg 5; dsimp only [List.cons_append, List.nil_append, List.append_nil])
   refine M5 (mS m0) om fun ab39 ae39 => (d7 (S4 (x := (r9 xs15 rl15 fl15)[x38.toNat]) x38.toNat (List.getElem?_eq_getElem om) fun ce39 => ?_))
   refine d7 (a2z fun oa39_1 om39_1 oc39_1 oe39 oi39_0 on39_1 => ?_)
   subst oe39
   subst on39_1
   refine B1 8 rfl rfl dc (r8 us_Facts ty_Fact rfl ae39 rfl x38.toNat om om) kr (B1 10 rfl rfl dc (F1 rfl) kr (B1 11 rfl rfl dc (F1 rfl) kr (B1 12 rfl rfl dc (F1 rfl) kr (b4N 9 rfl rfl dc (l8 (cs := [_, _]) ty_Fact rfl (Has.hole ae39 (mS m0)) rfl) kr (D4 (C8 13 rfl rfl kr (fun _ _ => SameI.out) (Ns [_, _] ty_Fact rfl) (fun _ _ => (R0 kr (Et (E.ret (j0 (l6 (Ent.drop (d7 (R5 (R5 (R5 (i8 (i8 ?_)))))))))))))))))))
   refine i8 (i8 ?_)
   exact a7q br rfl rfl rfl rfl rfl (mS (mS (mS (mS m0)))) ty_Fact rfl (xs15, rl15, fl15, (r9 xs15 rl15 fl15)[x38.toNat].1, (r9 xs15 rl15 fl15)[x38.toNat].2, (_, _, _), (_, _, _), (_, _, _), (_, _, _)) (show ((1 ≤ xs15.length ∧ xs15.length ≤ 4) ∧ (rl15.length ≤ 4 ∧ ∀ r ∈ rl15, r.2.2.length ≤ 4) ∧ fl15.length ≤ 9 ∧ ∀ f ∈ fl15, 1 ≤ f.2.length ∧ f.2.length ≤ 4) ∧ (-1 ≤ ((r9 xs15 rl15 fl15)[x38.toNat].1) ∧ ((r9 xs15 rl15 fl15)[x38.toNat].1) ≤ 10) ∧ ((r9 xs15 rl15 fl15)[x38.toNat].2).length ≤ 4 from by first | exact ⟨o15, o46.1, o46.2.2⟩ | (have jc := a3r (List.getElem_mem (show x38.toNat < (r9 xs15 rl15 fl15).length by omega)); exact ⟨o15, by omega, by omega⟩)) rfl (J := _) (.refl _) (.inl rfl)
 ·refine Em rfl (Es rfl (Es rfl (Es rfl (Ey rfl ((o6 rfl rfl).yd) (Eu (l4 rfl (d9 (Et (Ew Z10 (Em rfl (Em rfl (Em rfl (Em rfl (Em rfl (B0 (Est rfl (N.call (pre := [_]) J0 rfl rfl rfl dc rfl (fun w Lp hA => ⟨hA.ow (mS m0), hA.ro hbs⟩)) (fun k46 o46 => ?_)))))))))))))))))
  obtain ⟨rl46, vs46, ⟨a46, m46, c46⟩⟩ := k46
  replace o46 : (-1 ≤ rl46 ∧ rl46 ≤ 10) ∧ 1 ≤ vs46.length ∧ vs46.length ≤ 4 := o46
  try (conv => arg 4; dsimp only)
  try (conv => arg 5; dsimp only [List.cons_append, List.nil_append, List.append_nil])
  refine d8 m0 fun e46 l46 => ?_
  subst e46
  refine Ei rfl (Ei rfl (Ei rfl (D4 (Est rfl (Ns [_, _] ty_Fact rfl) (fun _ _ => (Eu (E.ret (d7 (D4 (D4 (D4 (i8 (i8 (i8 (i8 ?_)))))))))))))))
  exact a7q br rfl rfl rfl rfl rfl (mS (mS (mS (mS m0)))) ty_Fact rfl (xs15, rl15, fl15, rl46, vs46, (_, _, _), (_, _, _), (_, _, _), (_, _, _)) (show ((1 ≤ xs15.length ∧ xs15.length ≤ 4) ∧ (rl15.length ≤ 4 ∧ ∀ r ∈ rl15, r.2.2.length ≤ 4) ∧ fl15.length ≤ 9 ∧ ∀ f ∈ fl15, 1 ≤ f.2.length ∧ f.2.length ≤ 4) ∧ (-1 ≤ rl46 ∧ rl46 ≤ 10) ∧ vs46.length ≤ 4 from by first | exact ⟨o15, o46.1, o46.2.2⟩ | (have jc := a3r (List.getElem_mem (show x38.toNat < (r9 xs15 rl15 fl15).length by omega)); exact ⟨o15, by omega, by omega⟩)) rfl (J := _) (.refl _) (.inl rfl)
end Go.Proofs.YtfnbilpemdgkkaaGreatDoor
