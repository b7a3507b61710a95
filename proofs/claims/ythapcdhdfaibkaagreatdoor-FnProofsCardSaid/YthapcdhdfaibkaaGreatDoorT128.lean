import Derived.Test.YthapcdhdfaibkaaGreatDoorT121
import Derived.Test.YthapcdhdfaibkaaGreatDoorHn
namespace Go.Proofs.YthapcdhdfaibkaaGreatDoor
open Go.RowKit
set_option linter.all false
set_option maxHeartbeats 2000000
attribute [local irreducible] Nop Yd Yp Ent Has Tr FnP FnP2 Src o2 c8 N0 a0b E6
variable {s : List Int} {b_c m_s c_s m_b c_b : Nat} {a_s a_b : Option Addr}
theorem a4B {bs : List UInt8} (h1 : 1 ≤ s.length) (hsz : ∀ z ∈ s, 1 ≤ z ∧ z ≤ 3) (h3 : s.length ≤ 3) : Tr Tryz.prog 325 [.pointer (some ⟨b_c, 0, none⟩), .slice a_s m_s c_s] (fun w L => Ro w L eIs [.slice a_s m_s c_s] s ∧ Ro w L Y6 [.slice a_b m_b c_b] bs) [cur b_c a_b m_b c_b] (κ := (List (Int × Int × List Int)) × Option Addr × Nat × Nat) (fun k => k.1.length ≤ 3 ∧ ∀ r ∈ k.1, (0 ≤ r.1 ∧ r.1 ≤ 3) ∧ (0 ≤ r.2.1 ∧ r.2.1 ≤ 3) ∧ r.2.2.length ≤ 3) (fun k => .slice k.2.1 k.2.2.1 k.2.2.2) (fun k => [ow J9 [.slice k.2.1 k.2.2.1 k.2.2.2] k.1, cur b_c a_b m_b c_b]) := by
 refine Tr.intro Tryz.func325 rfl (n := 53) rfl (by decide +kernel) bl (fr := [(0, .pointer (some ⟨b_c, 0, none⟩)), (1, .slice a_s m_s c_s)]) rfl fun w L hR => ?_
 obtain ⟨hs, hbs⟩ := hR
 obtain ⟨rfl, ls⟩ := hs.slen
 obtain ⟨rfl, lb⟩ := hbs.slen
 refine Ew Z1 (Ei rfl (Ev Z2 (Est rfl (Nb [] [] us_Rules ty_Rule rfl rfl) (fun b10 _ => (Ent.drop (Ei rfl (Eu (Eq_ (Ew Z3 (Em rfl (Est rfl (N.call (pre := [_]) y7 rfl rfl rfl dc rfl (fun w Lp hA => hA.ro hbs)) (fun x12 o12 => ?_))))))))))))
 replace o12 : 0 ≤ x12 ∧ ((4 : Int) ≤ 0 → x12 = 0) ∧ (0 < (4 : Int) → x12 < (4 : Int)) := o12
 try (conv => arg 5; dsimp only [List.cons_append, List.nil_append, List.append_nil])
 refine Ei rfl (Eu (E.block (u9 (A := []) (Own.nil (E := a1N) (e := tRule) (a := (some ⟨b10, 0, none⟩))) rfl (E.loop (κ := Nat × (List (Int × Int × List Int)) × Option Addr × Nat × Nat) (fun g => g.1 ≤ (x12).toNat ∧ g.2.1.length = g.1 ∧ ∀ r ∈ g.2.1, (0 ≤ r.1 ∧ r.1 ≤ 3) ∧ (0 ≤ r.2.1 ∧ r.2.1 ≤ 3) ∧ r.2.2.length ≤ 3) (fun g => [(0, .pointer (some ⟨b_c, 0, none⟩)), (1, .slice a_s s.length c_s), (5, .slice g.2.2.1 g.2.2.2.1 g.2.2.2.2), (6, .int .i64 (x12 - (↑g.1 : Int)))]) (fun g => [ow J9 [.slice g.2.2.1 g.2.2.2.1 g.2.2.2.2] g.2.1, cur b_c a_b bs.length c_b]) (fun g => (x12).toNat - g.1) (0, [], (some ⟨b10, 0, none⟩), 0, 0) ⟨Nat.zero_le _, by simp⟩ ⟨rfl, rfl, rfl, frI om, trivial⟩ (.refl _) (fun g pg => ?_)))))
 obtain ⟨g, ys, aA0_0, mA0_0, cA0_0⟩ := g
 try dsimp only at pg
 try dsimp only
 obtain ⟨pk, pa⟩ := pg
 have pa0 := pa
 refine d7 m0 fun eaA0_0 laA0_0 => ?_
 subst eaA0_0
 refine Eq_ (Ew Z2 (Em rfl (Ey rfl ((Y.gtr rfl rfl).yd) (o3 (fun q14 => ?_) (fun q14 => ?_)))))
 ·refine Eu (n8 rfl (i7 (Et (Eq_ (E.block (Ew Z11 (Em rfl (Em rfl (Ey rfl ((Y.len us_Is rfl).yd) (d9 (Est rfl (N.call (pre := [_]) y7 rfl rfl rfl dc rfl (fun w Lp hA => hA.ro hbs)) (fun x20 o20 => ?_))))))))))))
  replace o20 : 0 ≤ x20 ∧ ((↑s.length : Int) ≤ 0 → x20 = 0) ∧ (0 < (↑s.length : Int) → x20 < (↑s.length : Int)) := o20
  try (conv => arg 5; dsimp only [List.cons_append, List.nil_append, List.append_nil])
  refine Em rfl (Em rfl (Ey rfl ((Y.len us_Is rfl).yd) (Est rfl (N.call (pre := [_]) y7 rfl rfl rfl dc rfl (fun w Lp hA => hA.ro hbs)) (fun x24 o24 => ?_))))
  replace o24 : 0 ≤ x24 ∧ ((↑s.length : Int) ≤ 0 → x24 = 0) ∧ (0 < (↑s.length : Int) → x24 < (↑s.length : Int)) := o24
  try (conv => arg 5; dsimp only [List.cons_append, List.nil_append, List.append_nil])
  have jx : x24.toNat < s.length := by omega
  have jz := hsz _ (List.getElem_mem jx)
  have jx2 : x20.toNat < s.length := by omega
  have jz2 := hsz _ (List.getElem_mem jx2)
  refine Ey rfl ((I2 (pvs := [_, _]) (cs := [_, _, _]) ty_Rule b2L rfl rfl).yd) (Est rfl (N.alloc ty_Rule dc) (fun b7 _ => (Est rfl (Ns [_, _, _] ty_Rule rfl) (fun _ _ => (Eu (Eq_ (Ew Z1 (Ei rfl (Eu (E.block (u9 (A := []) (Own.nil (E := Enc.int) (e := tI) (a := none)) rfl (E.loop (κ := Nat × (List Int) × Option Addr × Nat × Nat) (fun h => h.1 ≤ s[x24.toNat].toNat ∧ h.2.1.length = h.1) (fun h => [(0, .pointer (some ⟨b_c, 0, none⟩)), (1, .slice a_s s.length c_s), (5, .slice aA0_0 (ys).length cA0_0), (6, .int .i64 (x12 - (g : Int))), (7, .pointer (some ⟨b7, 0, none⟩)), (8, .int .i64 (↑h.1 : Int))]) (fun h => [ow eIs [.slice h.2.2.1 h.2.2.2.1 h.2.2.2.2] h.2.1, pt b7 268 [.int .i64 x20, .int .i64 x24, .slice h.2.2.1 h.2.2.2.1 h.2.2.2.2], cur b_c a_b bs.length c_b, ow J9 [.slice aA0_0 (ys).length cA0_0] ys]) (fun h => s[x24.toNat].toNat - h.1) (0, [], none, 0, 0) ⟨Nat.zero_le _, by rfl⟩ ⟨rfl, rfl, rfl, rfl, rfl, rfl, trivial⟩ (.refl _) (fun h ph => ?_)))))))))))))
  obtain ⟨h, ms, aA1_0, mA1_0, cA1_0⟩ := h
  try dsimp only at ph
  try dsimp only
  obtain ⟨pk, pa⟩ := ph
  refine d7 m0 fun eaA1_0 laA1_0 => ?_
  subst eaA1_0
  refine Eq_ (Ew Z7 (Em rfl (Em rfl (Ey rfl ((f5 fo_Rule_1 f9 dc rfl).yd) (Ey rfl (g9 f9 rfl (Hz (mS m0) 1 rfl) rfl) ?_)))))
  obtain ⟨eb30, eo30, ea30, ei30, eh30⟩ := hs.elemI x24.toNat om
  refine Ey rfl ((v8 us_Is f9 rfl ea30 rfl x24.toNat om om).yd) (Ey rfl (g9 f9 rfl (eh30 _) rfl) (Ey rfl ((Y.lss rfl rfl).yd) (o3 (fun q32 => ?_) (fun q32 => ?_))))
  ·refine Eu (n8 rfl (i7 (Et (Eq_ (E.block (Ew Z8 (Em rfl (Em rfl (Ey rfl ((f5 fo_Rule_0 f9 dc rfl).yd) (Ey rfl (g9 f9 rfl (Hz (mS m0) 0 rfl) rfl) ?_))))))))))
   obtain ⟨eb39, eo39, ea39, ei39, eh39⟩ := hs.elemI x20.toNat om
   refine Ey rfl ((v8 us_Is f9 rfl ea39 rfl x20.toNat om om).yd) (Ey rfl (g9 f9 rfl (eh39 _) rfl) (j8 (Est rfl (N.call (pre := [_]) y7 rfl rfl rfl dc rfl (fun w Lp hA => hA.ro hbs)) (fun x41 o41 => ?_))))
   replace o41 : 0 ≤ x41 ∧ (s[x20.toNat] ≤ 0 → x41 = 0) ∧ (0 < s[x20.toNat] → x41 < s[x20.toNat]) := o41
   try (conv => arg 5; dsimp only [List.cons_append, List.nil_append, List.append_nil])
   refine Ei rfl (Eu (Ez Z7 (Ey rfl ((f5 fo_Rule_2 ty_Is dc rfl).yd) (Ey rfl (g9 ty_Is rfl (Hz (mS (mS m0)) 2 rfl) rfl) (Em rfl (Est rfl (Nb [_] [_] us_Is f9 rfl rfl) (fun b45 _ => (j8 (Est rfl (C7 (E := Enc.int) (ex := x41) us_Is f9 rfl rfl rfl (Own.int i6) rfl bn bn dc) (fun p46 _ => (Ey rfl ((f5 fo_Rule_2 ty_Is dc rfl).yd) (j8 (Est rfl (Ns [_, _, _] ty_Is rfl) (fun _ _ => (En (s9 (Et (Ez Z3 (Em rfl (Ey rfl ((Y.add rfl rfl om om).yd) (Ei rfl (Eu (o4 (o4 (j8 (o4 ?_))))))))))))))))))))))))))
   exact Ea (h + 1, ms ++ [x41], p46.1, ((ms).length + 1), p46.2) ⟨oz, (show (ms ++ [x41]).length = (h + 1) from by simp [pa])⟩
  ·refine Eu (o0 rfl (E.exit (q1 (q1 (y4 (Et (Ez Z5 (Em rfl (Ey rfl (o6 (cs := [_, _, _]) ty_Rule rfl (Has.pt (mS m0)) rfl) (Est rfl (Nb [_] [_, _, _] us_Rules ty_Rule rfl rfl) (fun b50 _ => (d9 (d9 (j9 (Est rfl (C7 (E := a1N) (ex := (x20, x24, ms)) us_Rules ty_Rule rfl rfl rfl (a6g (x := (x20, x24, ms)) i6 i6 Own.ow) rfl bn bn dc) (fun p51 _ => (Ei rfl (En (s9 (Et (Ez Z3 (Em rfl (Ey rfl ((Y.sub rfl rfl om om).yd) (Ei rfl (Eu (d9 (Ent.drop (d9 (d9 ?_)))))))))))))))))))))))))))))
   exact x6 br (g + 1, ys ++ [(x20, x24, ms)], p51.1, ((ys).length + 1), p51.2) ⟨rfl, rfl, rfl, frI om, trivial⟩ (.refl _) ⟨oz, (show (ys ++ [(x20, x24, ms)]).length = (g + 1) ∧ ∀ r ∈ (ys ++ [(x20, x24, ms)]), (0 ≤ r.1 ∧ r.1 ≤ 3) ∧ (0 ≤ r.2.1 ∧ r.2.1 ≤ 3) ∧ r.2.2.length ≤ 3 from by exact b6t pa0 om)⟩ oz
 ·refine Eu (o0 rfl (E.exit (q1 (q1 (y4 (Et (Ew Z2 (Em rfl (Ei rfl (Eu (E.ret (d9 (d9 ?_)))))))))))))
  exact F.r1 br rfl rfl (ys, (_, _, _)) (show ys.length ≤ 3 ∧ ∀ r ∈ ys, (0 ≤ r.1 ∧ r.1 ≤ 3) ∧ (0 ≤ r.2.1 ∧ r.2.1 ≤ 3) ∧ r.2.2.length ≤ 3 from by exact ⟨by omega, pa.2⟩) rfl (J := _) (.refl _) (.inl rfl)
theorem a3L {bs : List UInt8} : Tr Tryz.prog 326 [.pointer (some ⟨b_c, 0, none⟩), .slice a_s m_s c_s] (fun w L => Ro w L eIs [.slice a_s m_s c_s] s ∧ Ro w L Y6 [.slice a_b m_b c_b] bs) [cur b_c a_b m_b c_b] (κ := Int × Int × (List Int) × Option Addr × Nat × Nat) (fun k => (-10 ≤ k.1 ∧ k.1 ≤ 10) ∧ (-10 ≤ k.2.1 ∧ k.2.1 ≤ 10) ∧ k.2.2.1.length ≤ 4) (fun k => .agg #[.int .i64 k.1, .int .i64 k.2.1, .slice k.2.2.2.1 k.2.2.2.2.1 k.2.2.2.2.2]) (fun k => [ow eIs [.slice k.2.2.2.1 k.2.2.2.2.1 k.2.2.2.2.2] k.2.2.1, cur b_c a_b m_b c_b]) := by
 refine Tr.intro Tryz.func326 rfl (n := 39) rfl (by decide +kernel) bl (fr := [(0, .pointer (some ⟨b_c, 0, none⟩)), (1, .slice a_s m_s c_s)]) rfl fun w L hR => ?_
 obtain ⟨hs, hbs⟩ := hR
 obtain ⟨rfl, ls⟩ := hs.slen
 obtain ⟨rfl, lb⟩ := hbs.slen
 refine Ew Z1 (Est rfl (N.alloc ty_Rule dc) (fun b4 _ => (Ev Z4 (Est rfl (Nb [_] [_] us_Is f9 rfl rfl) (fun b7 _ => (u9 (A := _ :: _) (a2a (E := Enc.int) (e := tI) (Own.int i6)) rfl (Ey rfl ((I2 (pvs := [_]) (cs := [_, _, _]) ty_Rule b2L rfl rfl).yd) (Est rfl (N.alloc ty_Rule dc) (fun b5 _ => (Est rfl (Ns [_, _, _] ty_Rule rfl) (fun _ _ => (Eu (Eq_ (Ew Z2 (Em rfl (Est rfl (l0 M9 rfl rfl rfl dc (fun w Lp hA => hA.ro hs)) (fun _ _ => (Ent.b (fun q10 => ?_) (fun q10 => ?_)))))))))))))))))))
 ·have js := a0s q10
  refine Eu (n8 rfl (Ew Z4 (Em rfl (Em rfl (o4 (Est rfl (N.call (pre := [_]) (a4B (a0s q10).1 (a0s q10).2.2 (a0s q10).2.1) rfl rfl rfl dc rfl (fun w Lp hA => ⟨hA.ro hs, hA.ro hbs⟩)) (fun k13 o13 => ?_)))))))
  obtain ⟨rl13, ⟨a13, m13, c13⟩⟩ := k13
  replace o13 : rl13.length ≤ 3 ∧ ∀ r ∈ rl13, (0 ≤ r.1 ∧ r.1 ≤ 3) ∧ (0 ≤ r.2.1 ∧ r.2.1 ≤ 3) ∧ r.2.2.length ≤ 3 := o13
  try (conv => arg 4; dsimp only)
  try (conv => arg 5; dsimp only [List.cons_append, List.nil_append, List.append_nil])
  refine d7 m0 fun e13 l13 => ?_
  subst e13
  refine Ei rfl (Ev Z3 (Em rfl (Ey rfl ((Y.len us_Rules rfl).yd) (Ey rfl ((Y.gtr rfl rfl).yd) (o3 (fun q16 => ?_) (fun q16 => ?_))))))
  ·have jr := o13.2 _ (List.getElem_mem (show 0 < rl13.length by omega))
   refine Eu (n8 rfl (Ez Z4 (Em rfl (a1m m0 om fun ab18 ae18 => (a3t (x := rl13[0]) 0 (List.getElem?_eq_getElem om) fun ce18 => ?_)))))
   refine d9 (b4J fun oa18_2 om18_2 oc18_2 oe18 oi18_0 oi18_1 on18_2 => ?_)
   subst oe18
   subst on18_2
   refine Ey rfl ((v8 us_Rules ty_Rule rfl ae18 rfl 0 rfl om).yd) (Ey rfl (o6 (cs := [_, _, _]) ty_Rule rfl (Has.hole ae18 (mS m0)) rfl) (o4 (Est rfl (Ns [_, _, _] ty_Rule rfl) (fun _ _ => (Eu (Eq_ (Ew Z2 (j8 (Ent.drop (Em rfl (j8 (Est rfl (N.call (pre := [_]) y7 rfl rfl rfl dc rfl (fun w Lp hA => hA.ro hbs)) (fun x21 o21 => ?_)))))))))))))
   replace o21 : 0 ≤ x21 ∧ ((8 : Int) ≤ 0 → x21 = 0) ∧ (0 < (8 : Int) → x21 < (8 : Int)) := o21
   try (conv => arg 5; dsimp only [List.cons_append, List.nil_append, List.append_nil])
   refine Eu (E.block (Ew Z2 (Ey rfl ((Y.eql rfl rfl).yd) (Ei rfl (o3 (fun q22 => ?_) (fun q22 => ?_))))))
   ·refine Eu (n8 rfl (Ez Z5 (Em rfl (Est rfl (N.call (pre := [_]) y7 rfl rfl rfl dc rfl (fun w Lp hA => hA.ro hbs)) (fun x25 o25 => ?_)))))
    replace o25 : 0 ≤ x25 ∧ ((5 : Int) ≤ 0 → x25 = 0) ∧ (0 < (5 : Int) → x25 < (5 : Int)) := o25
    try (conv => arg 5; dsimp only [List.cons_append, List.nil_append, List.append_nil])
    refine Ey rfl ((Y.sub rfl rfl om om).yd) (Ey rfl ((f5 fo_Rule_1 f9 dc rfl).yd) (d9 (Est rfl (Ns [_, _, _] f9 rfl) (fun _ _ => (En (s9 (Et (Ew Z2 (Ey rfl (o6 (cs := [_, _, _]) ty_Rule rfl (Has.pt m0) rfl) (j9 (Est rfl (Ns [_, _, _] ty_Rule rfl) (fun _ _ => (Eu (E.ret (o4 (o4 (d9 ?_)))))))))))))))))
    exact O2 br rfl rfl (mS (mS m0)) ty_Rule rfl (rl13[0].1, (x25 - 1), rl13[0].2.2, (_, _, _)) (show (-10 ≤ rl13[0].1 ∧ rl13[0].1 ≤ 10) ∧ (-10 ≤ (x25 - 1) ∧ (x25 - 1) ≤ 10) ∧ rl13[0].2.2.length ≤ 4 from by first | omega | (simp only [List.length_append, List.length_cons, List.length_nil]; omega)) rfl (J := _) (.refl _) (.inl rfl)
   ·refine Eu (o0 rfl (Ew Z2 (Ey rfl ((Y.eql rfl rfl).yd) (Ei rfl (o3 (fun q28 => ?_) (fun q28 => ?_))))))
    ·refine Eu (n8 rfl (U9 [b5] (fun j => !(Nat.beq j 8)) mixed (C6 0 rfl rfl dc (f5 fo_Rule_2 ty_Is dc rfl) kr (a1v 1 rfl rfl dc (a1l ty_Is rfl ((Y8.pt (mS m0) (by simp)).sub (cs' := [_]) 2 rfl) rfl) kr (C6 2 rfl rfl dc (i8 rfl) kr (I6 3 rfl rfl kr (fun _ _ => SameI.out) (N.call (pre := [_]) y7 rfl rfl rfl dc rfl (fun w Lp hA => hA.ro hbs)) (fun x33 o33 => ?_)))))))
     replace o33 : 0 ≤ x33 ∧ ((5 : Int) ≤ 0 → x33 = 0) ∧ (0 < (5 : Int) → x33 < (5 : Int)) := o33
     try (conv => arg 5; dsimp only [List.cons_append, List.nil_append, List.append_nil])
     refine C6 4 rfl rfl dc (Y.sub rfl rfl om om) kr (I6 5 rfl rfl kr (fun _ _ => SameI.out) (Nb [_] [_] us_Is f9 rfl rfl) (fun b35 _ => (o4 (I6 6 rfl rfl kr (fun _ _ => SameI.out) (C7 (E := Enc.int) (ex := (x33 - 1)) us_Is f9 rfl rfl rfl (Own.int i6) rfl bn bn dc) (fun p36 _ => (C6 7 rfl rfl dc (f5 fo_Rule_2 ty_Is dc rfl) kr (j8 (I6 8 rfl rfl kr (fun h => by cases h) (Ns [_, _, _] ty_Is rfl) (fun _ _ => (a0k kr (s9 (Et (Ew Z2 (Ey rfl (o6 (cs := [_, _, _]) ty_Rule rfl (Has.pt m0) rfl) (j9 (Est rfl (Ns [_, _, _] ty_Rule rfl) (fun _ _ => (Eu (E.ret (j8 (o4 (d9 ?_))))))))))))))))))))))
     exact O2 br rfl rfl (mS (mS m0)) ty_Rule rfl (rl13[0].1, rl13[0].2.1, rl13[0].2.2 ++ [(x33 - 1)], (_, _, _)) (show (-10 ≤ rl13[0].1 ∧ rl13[0].1 ≤ 10) ∧ (-10 ≤ rl13[0].2.1 ∧ rl13[0].2.1 ≤ 10) ∧ (rl13[0].2.2 ++ [(x33 - 1)]).length ≤ 4 from by first | omega | (simp only [List.length_append, List.length_cons, List.length_nil]; omega)) rfl (J := _) (.refl _) (.inl rfl)
    ·refine Eu (o0 rfl (i7 (s9 (Et (Ew Z2 (Ey rfl (o6 (cs := [_, _, _]) ty_Rule rfl (Has.pt (mS m0)) rfl) (j9 (Est rfl (Ns [_, _, _] ty_Rule rfl) (fun _ _ => (Eu (E.ret (o4 (j8 (d9 ?_))))))))))))))
     exact O2 br rfl rfl (mS (mS m0)) ty_Rule rfl (rl13[0].1, rl13[0].2.1, rl13[0].2.2, (_, _, _)) (show (-10 ≤ rl13[0].1 ∧ rl13[0].1 ≤ 10) ∧ (-10 ≤ rl13[0].2.1 ∧ rl13[0].2.1 ≤ 10) ∧ rl13[0].2.2.length ≤ 4 from by first | omega | (simp only [List.length_append, List.length_cons, List.length_nil]; omega)) rfl (J := _) (.refl _) (.inl rfl)
  ·refine Eu (o0 rfl (i7 (Et (Eq_ (Ew Z2 (Em rfl (d9 (Est rfl (N.call (pre := [_]) y7 rfl rfl rfl dc rfl (fun w Lp hA => hA.ro hbs)) (fun x21 o21 => ?_)))))))))
   replace o21 : 0 ≤ x21 ∧ ((8 : Int) ≤ 0 → x21 = 0) ∧ (0 < (8 : Int) → x21 < (8 : Int)) := o21
   try (conv => arg 5; dsimp only [List.cons_append, List.nil_append, List.append_nil])
   refine Eu (E.block (Ew Z2 (Ey rfl ((Y.eql rfl rfl).yd) (Ei rfl (o3 (fun q22 => ?_) (fun q22 => ?_))))))
   ·refine Eu (n8 rfl (Ez Z5 (Em rfl (Est rfl (N.call (pre := [_]) y7 rfl rfl rfl dc rfl (fun w Lp hA => hA.ro hbs)) (fun x25 o25 => ?_)))))
    replace o25 : 0 ≤ x25 ∧ ((5 : Int) ≤ 0 → x25 = 0) ∧ (0 < (5 : Int) → x25 < (5 : Int)) := o25
    try (conv => arg 5; dsimp only [List.cons_append, List.nil_append, List.append_nil])
    refine Ey rfl ((Y.sub rfl rfl om om).yd) (Ey rfl ((f5 fo_Rule_1 f9 dc rfl).yd) (j8 (Est rfl (Ns [_, _, _] f9 rfl) (fun _ _ => (En (s9 (Et (Ew Z2 (Ey rfl (o6 (cs := [_, _, _]) ty_Rule rfl (Has.pt m0) rfl) (j9 (Est rfl (Ns [_, _, _] ty_Rule rfl) (fun _ _ => (Eu (E.ret (j9 (o4 (d9 ?_)))))))))))))))))
    exact O2 br rfl rfl (mS (mS m0)) ty_Rule rfl (0, (x25 - 1), [0], (_, _, _)) (show (-10 ≤ (0 : Int) ∧ (0 : Int) ≤ 10) ∧ (-10 ≤ (x25 - 1) ∧ (x25 - 1) ≤ 10) ∧ ([0] : List Int).length ≤ 4 from by first | omega | (simp only [List.length_append, List.length_cons, List.length_nil]; omega)) rfl (J := _) (.refl _) (.inl rfl)
   ·refine Eu (o0 rfl (Ew Z2 (Ey rfl ((Y.eql rfl rfl).yd) (Ei rfl (o3 (fun q28 => ?_) (fun q28 => ?_))))))
    ·refine Eu (n8 rfl (U9 [b5] (fun j => !(Nat.beq j 8)) mixed (C6 0 rfl rfl dc (f5 fo_Rule_2 ty_Is dc rfl) kr (a1v 1 rfl rfl dc (a1l ty_Is rfl ((Y8.pt (mS (mS m0)) (by simp)).sub (cs' := [_]) 2 rfl) rfl) kr (C6 2 rfl rfl dc (i8 rfl) kr (I6 3 rfl rfl kr (fun _ _ => SameI.out) (N.call (pre := [_]) y7 rfl rfl rfl dc rfl (fun w Lp hA => hA.ro hbs)) (fun x33 o33 => ?_)))))))
     replace o33 : 0 ≤ x33 ∧ ((5 : Int) ≤ 0 → x33 = 0) ∧ (0 < (5 : Int) → x33 < (5 : Int)) := o33
     try (conv => arg 5; dsimp only [List.cons_append, List.nil_append, List.append_nil])
     refine C6 4 rfl rfl dc (Y.sub rfl rfl om om) kr (I6 5 rfl rfl kr (fun _ _ => SameI.out) (Nb [_] [_] us_Is f9 rfl rfl) (fun b35 _ => (j9 (I6 6 rfl rfl kr (fun _ _ => SameI.out) (C7 (E := Enc.int) (ex := (x33 - 1)) us_Is f9 rfl rfl rfl (Own.int i6) rfl bn bn dc) (fun p36 _ => (C6 7 rfl rfl dc (f5 fo_Rule_2 ty_Is dc rfl) kr (o4 (I6 8 rfl rfl kr (fun h => by cases h) (Ns [_, _, _] ty_Is rfl) (fun _ _ => (a0k kr (s9 (Et (Ew Z2 (Ey rfl (o6 (cs := [_, _, _]) ty_Rule rfl (Has.pt m0) rfl) (j9 (Est rfl (Ns [_, _, _] ty_Rule rfl) (fun _ _ => (Eu (E.ret (j8 (o4 (d9 ?_))))))))))))))))))))))
     exact O2 br rfl rfl (mS (mS m0)) ty_Rule rfl (0, 0, ([0]) ++ [(x33 - 1)], (_, _, _)) (show (-10 ≤ (0 : Int) ∧ (0 : Int) ≤ 10) ∧ (-10 ≤ (0 : Int) ∧ (0 : Int) ≤ 10) ∧ (([0]) ++ [(x33 - 1)]).length ≤ 4 from by first | omega | (simp only [List.length_append, List.length_cons, List.length_nil]; omega)) rfl (J := _) (.refl _) (.inl rfl)
    ·refine Eu (o0 rfl (i7 (s9 (Et (Ew Z2 (Ey rfl (o6 (cs := [_, _, _]) ty_Rule rfl (Has.pt (mS (mS m0))) rfl) (j9 (Est rfl (Ns [_, _, _] ty_Rule rfl) (fun _ _ => (Eu (E.ret (j9 (j8 (d9 ?_))))))))))))))
     exact O2 br rfl rfl (mS (mS m0)) ty_Rule rfl (0, 0, [0], (_, _, _)) (show (-10 ≤ (0 : Int) ∧ (0 : Int) ≤ 10) ∧ (-10 ≤ (0 : Int) ∧ (0 : Int) ≤ 10) ∧ ([0] : List Int).length ≤ 4 from by first | omega | (simp only [List.length_append, List.length_cons, List.length_nil]; omega)) rfl (J := _) (.refl _) (.inl rfl)
 ·refine Eu (o0 rfl (i7 (Et (Eq_ (Ew Z2 (Em rfl (o4 (Est rfl (N.call (pre := [_]) y7 rfl rfl rfl dc rfl (fun w Lp hA => hA.ro hbs)) (fun x21 o21 => ?_)))))))))
  replace o21 : 0 ≤ x21 ∧ ((8 : Int) ≤ 0 → x21 = 0) ∧ (0 < (8 : Int) → x21 < (8 : Int)) := o21
  try (conv => arg 5; dsimp only [List.cons_append, List.nil_append, List.append_nil])
  refine Eu (E.block (Ew Z2 (Ey rfl ((Y.eql rfl rfl).yd) (Ei rfl (o3 (fun q22 => ?_) (fun q22 => ?_))))))
  ·refine Eu (n8 rfl (Ez Z5 (Em rfl (Est rfl (N.call (pre := [_]) y7 rfl rfl rfl dc rfl (fun w Lp hA => hA.ro hbs)) (fun x25 o25 => ?_)))))
   replace o25 : 0 ≤ x25 ∧ ((5 : Int) ≤ 0 → x25 = 0) ∧ (0 < (5 : Int) → x25 < (5 : Int)) := o25
   try (conv => arg 5; dsimp only [List.cons_append, List.nil_append, List.append_nil])
   refine Ey rfl ((Y.sub rfl rfl om om).yd) (Ey rfl ((f5 fo_Rule_1 f9 dc rfl).yd) (d9 (Est rfl (Ns [_, _, _] f9 rfl) (fun _ _ => (En (s9 (Et (Ew Z2 (Ey rfl (o6 (cs := [_, _, _]) ty_Rule rfl (Has.pt m0) rfl) (o4 (Est rfl (Ns [_, _, _] ty_Rule rfl) (fun _ _ => (Eu (E.ret (o4 (o4 (d9 ?_)))))))))))))))))
   exact O2 br rfl rfl (mS (mS m0)) ty_Rule rfl (0, (x25 - 1), [0], (_, _, _)) (show (-10 ≤ (0 : Int) ∧ (0 : Int) ≤ 10) ∧ (-10 ≤ (x25 - 1) ∧ (x25 - 1) ≤ 10) ∧ ([0] : List Int).length ≤ 4 from by first | omega | (simp only [List.length_append, List.length_cons, List.length_nil]; omega)) rfl (J := _) (.refl _) (.inl rfl)
  ·refine Eu (o0 rfl (Ew Z2 (Ey rfl ((Y.eql rfl rfl).yd) (Ei rfl (o3 (fun q28 => ?_) (fun q28 => ?_))))))
   ·refine Eu (n8 rfl (U9 [b5] (fun j => !(Nat.beq j 8)) mixed (C6 0 rfl rfl dc (f5 fo_Rule_2 ty_Is dc rfl) kr (a1v 1 rfl rfl dc (a1l ty_Is rfl ((Y8.pt (mS m0) (by simp)).sub (cs' := [_]) 2 rfl) rfl) kr (C6 2 rfl rfl dc (i8 rfl) kr (I6 3 rfl rfl kr (fun _ _ => SameI.out) (N.call (pre := [_]) y7 rfl rfl rfl dc rfl (fun w Lp hA => hA.ro hbs)) (fun x33 o33 => ?_)))))))
    replace o33 : 0 ≤ x33 ∧ ((5 : Int) ≤ 0 → x33 = 0) ∧ (0 < (5 : Int) → x33 < (5 : Int)) := o33
    try (conv => arg 5; dsimp only [List.cons_append, List.nil_append, List.append_nil])
    refine C6 4 rfl rfl dc (Y.sub rfl rfl om om) kr (I6 5 rfl rfl kr (fun _ _ => SameI.out) (Nb [_] [_] us_Is f9 rfl rfl) (fun b35 _ => (o4 (I6 6 rfl rfl kr (fun _ _ => SameI.out) (C7 (E := Enc.int) (ex := (x33 - 1)) us_Is f9 rfl rfl rfl (Own.int i6) rfl bn bn dc) (fun p36 _ => (C6 7 rfl rfl dc (f5 fo_Rule_2 ty_Is dc rfl) kr (j8 (I6 8 rfl rfl kr (fun h => by cases h) (Ns [_, _, _] ty_Is rfl) (fun _ _ => (a0k kr (s9 (Et (Ew Z2 (Ey rfl (o6 (cs := [_, _, _]) ty_Rule rfl (Has.pt m0) rfl) (o4 (Est rfl (Ns [_, _, _] ty_Rule rfl) (fun _ _ => (Eu (E.ret (j8 (o4 (d9 ?_))))))))))))))))))))))
    exact O2 br rfl rfl (mS (mS m0)) ty_Rule rfl (0, 0, ([0]) ++ [(x33 - 1)], (_, _, _)) (show (-10 ≤ (0 : Int) ∧ (0 : Int) ≤ 10) ∧ (-10 ≤ (0 : Int) ∧ (0 : Int) ≤ 10) ∧ (([0]) ++ [(x33 - 1)]).length ≤ 4 from by first | omega | (simp only [List.length_append, List.length_cons, List.length_nil]; omega)) rfl (J := _) (.refl _) (.inl rfl)
   ·refine Eu (o0 rfl (i7 (s9 (Et (Ew Z2 (Ey rfl (o6 (cs := [_, _, _]) ty_Rule rfl (Has.pt (mS m0)) rfl) (o4 (Est rfl (Ns [_, _, _] ty_Rule rfl) (fun _ _ => (Eu (E.ret (o4 (j8 (d9 ?_))))))))))))))
    exact O2 br rfl rfl (mS (mS m0)) ty_Rule rfl (0, 0, [0], (_, _, _)) (show (-10 ≤ (0 : Int) ∧ (0 : Int) ≤ 10) ∧ (-10 ≤ (0 : Int) ∧ (0 : Int) ≤ 10) ∧ ([0] : List Int).length ≤ 4 from by first | omega | (simp only [List.length_append, List.length_cons, List.length_nil]; omega)) rfl (J := _) (.refl _) (.inl rfl)
end Go.Proofs.YthapcdhdfaibkaaGreatDoor
