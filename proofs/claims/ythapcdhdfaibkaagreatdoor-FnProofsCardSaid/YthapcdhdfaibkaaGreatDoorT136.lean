import Derived.Test.YthapcdhdfaibkaaGreatDoorT133
import Derived.Test.YthapcdhdfaibkaaGreatDoorT47
import Derived.Test.YthapcdhdfaibkaaGreatDoorT64
import Derived.Test.YthapcdhdfaibkaaGreatDoorHu
import Derived.Test.YthapcdhdfaibkaaGreatDoorHv
namespace Go.Proofs.YthapcdhdfaibkaaGreatDoor
open Go.RowKit
set_option linter.all false
set_option maxHeartbeats 2000000
attribute [local irreducible] Nop Yd Yp Ent Has Tr FnP FnP2 Src o2 c8 N0 a0b E6
variable {m_code c_code : Nat} {a_code : Option Addr}
theorem a0C {b_c : Nat} {a_b : Option Addr} {m_b c_b : Nat} {bs : List UInt8} : Tr Tryz.prog 260 [.pointer (some ⟨b_c, 0, none⟩)] (fun w L => Ro w L Y6 [.slice a_b m_b c_b] bs) [cur b_c a_b m_b c_b] (κ := (List Int) × Option Addr × Nat × Nat) (fun k => k.1.length ≤ 3) (fun k => .slice k.2.1 k.2.2.1 k.2.2.2) (fun k => [ow eIs [.slice k.2.1 k.2.2.1 k.2.2.2] k.1, cur b_c a_b m_b c_b]) := by
 refine Tr.intro Tryz.func260 rfl (n := 26) rfl (by decide +kernel) bl (fr := [(0, .pointer (some ⟨b_c, 0, none⟩))]) rfl fun w L hR => ?_
 have hbs := hR
 obtain ⟨rfl, lb⟩ := hbs.slen
 refine Ew Z1 (Ei rfl (Ev Z2 (Est rfl (Nb [] [] us_Is f9 rfl rfl) (fun b5 _ => (Ent.drop (Ei rfl (Eu (Eq_ (Ew Z3 (Em rfl (Est rfl (N.call (pre := [_]) y7 rfl rfl rfl dc rfl (fun w Lp hA => hA.ro hbs)) (fun x7 o7 => ?_))))))))))))
 replace o7 : 0 ≤ x7 ∧ ((3 : Int) ≤ 0 → x7 = 0) ∧ (0 < (3 : Int) → x7 < (3 : Int)) := o7
 try (conv => arg 5; dsimp only [List.cons_append, List.nil_append, List.append_nil])
 refine Ei rfl (Eu (E.block (u9 (A := []) (Own.nil (E := Enc.int) (e := tI) (a := (some ⟨b5, 0, none⟩))) rfl (E.loop (κ := Nat × (List Int) × Option Addr × Nat × Nat) (fun g => g.1 ≤ (x7).toNat ∧ g.2.1.length ≤ g.1) (fun g => [(0, .pointer (some ⟨b_c, 0, none⟩)), (3, .slice g.2.2.1 g.2.2.2.1 g.2.2.2.2), (4, .int .i64 (x7 - (↑g.1 : Int)))]) (fun g => [ow eIs [.slice g.2.2.1 g.2.2.2.1 g.2.2.2.2] g.2.1, cur b_c a_b bs.length c_b]) (fun g => (x7).toNat - g.1) (0, [], (some ⟨b5, 0, none⟩), 0, 0) ⟨Nat.zero_le _, by simp⟩ ⟨rfl, rfl, frI om, trivial⟩ (.refl _) (fun g pg => ?_)))))
 obtain ⟨g, ys, aA0_0, mA0_0, cA0_0⟩ := g
 try dsimp only at pg
 try dsimp only
 obtain ⟨pk, pa⟩ := pg
 refine d7 m0 fun eaA0_0 laA0_0 => ?_
 subst eaA0_0
 refine Eq_ (Ew Z2 (Em rfl (Ey rfl ((Y.gtr rfl rfl).yd) (o3 (fun q9 => ?_) (fun q9 => ?_)))))
 ·refine Eu (n8 rfl (i7 (Et (Eq_ (E.block (Ez Z6 (Em rfl (Em rfl (d9 (Est rfl (N.call (pre := [_]) y7 rfl rfl rfl dc rfl (fun w Lp hA => hA.ro hbs)) (fun x14 o14 => ?_)))))))))))
  replace o14 : 0 ≤ x14 ∧ ((4 : Int) ≤ 0 → x14 = 0) ∧ (0 < (4 : Int) → x14 < (4 : Int)) := o14
  try (conv => arg 5; dsimp only [List.cons_append, List.nil_append, List.append_nil])
  refine Est rfl (Nb [_] [_] us_Is f9 rfl rfl) (fun b15 _ => (j8 (Est rfl (C7 (E := Enc.int) (ex := x14) us_Is f9 rfl rfl rfl (Own.int i6) rfl bn bn dc) (fun p16 _ => (Ei rfl (En (s9 (Et (Ez Z3 (Em rfl (Ey rfl ((Y.sub rfl rfl om om).yd) (Ei rfl (Eu (d9 (d9 ?_)))))))))))))))
  exact x6 br (g + 1, ys ++ [x14], p16.1, ((ys).length + 1), p16.2) ⟨rfl, rfl, frI om, trivial⟩ (.refl _) ⟨oz, (show (ys ++ [x14]).length ≤ (g + 1) from by first | omega | (simp only [List.length_append, List.length_singleton]; omega))⟩ oz
 ·refine Eu (o0 rfl (E.exit (q1 (q1 (y4 (Et (Eq_ (Ew Z2 (Em rfl (d9 (Est rfl (N.call (pre := [_]) P4 rfl rfl rfl dc rfl (fun w Lp hA => hA.ro hbs)) (fun o18 o18 => ?_))))))))))))
  replace o18 : True := o18
  try (conv => arg 5; dsimp only [List.cons_append, List.nil_append, List.append_nil])
  refine Ent.b (fun q18 => ?_) (fun q18 => ?_)
  ·refine Eu (n8 rfl (Ez Z7 (Em rfl (Em rfl (Est rfl (Nb [_, _, _] [_, _, _] us_Is f9 rfl rfl) (fun b21 _ => (u9 (A := [_]) (Own.ints (e := tI) (xs := [-1, 9, 10]) rfl (by simp [maxLen]) (by simp only [List.forall_mem_cons]; exact ⟨i6, i6, i6, List.forall_mem_nil _⟩)) rfl (d9 (Est rfl (N.call (pre := [_]) (J3 (by first | decide | omega)) rfl rfl rfl dc rfl (fun w Lp hA => ⟨hA.ow m0, hA.ro hbs⟩)) (fun x22 o22 => ?_))))))))))
   replace o22 : x22 ∈ ([-1, 9, 10]) := o22
   try (conv => arg 5; dsimp only [List.cons_append, List.nil_append, List.append_nil])
   have jp : -1 ≤ x22 ∧ x22 ≤ 10 := by simp at o22; omega
   refine Est rfl (Nb [_] [_] us_Is f9 rfl rfl) (fun b23 _ => (o4 (Est rfl (C7 (E := Enc.int) (ex := x22) us_Is f9 rfl rfl rfl (Own.int i6) rfl bn bn dc) (fun p24 _ => (Ei rfl (Ev Z2 (Em rfl (Ei rfl (Eu (E.ret (d9 (d9 ?_))))))))))))
   exact F.r1 br rfl rfl (ys ++ [x22], (_, _, _)) (show (ys ++ [x22]).length ≤ 3 from by first | omega | (simp only [List.length_append, List.length_singleton]; omega)) rfl (J := _) (.refl _) (.inl rfl)
  ·refine Eu (o0 rfl (i7 (Et (Ew Z2 (Em rfl (Ei rfl (Eu (E.ret (d9 (d9 (d9 ?_)))))))))))
   exact F.r1 br rfl rfl (ys, (_, _, _)) (show ys.length ≤ 3 from by first | omega | (simp only [List.length_append, List.length_singleton]; omega)) rfl (J := _) (.refl _) (.inl rfl)
theorem a4A {code : List UInt8} (hcl : code.length ≤ 1048576) : Tr Tryz.prog 154 [.slice a_code m_code c_code] (fun w L => Ro w L Y6 [.slice a_code m_code c_code] code) [] (κ := (List Int) × (List (Int × List Int × Int × Int × Int)) × (List (Int × Int × List Int)) × (List (Int × List Int)) × (List Int) × (Option Addr × Nat × Nat) × (Option Addr × Nat × Nat) × (Option Addr × Nat × Nat) × (Option Addr × Nat × Nat) × Option Addr × Nat × Nat) (fun k => (1 ≤ k.1.length ∧ k.1.length ≤ 4) ∧ (k.2.1.length ≤ 5 ∧ ∀ m ∈ k.2.1, m.2.1.length ≤ 4) ∧ (k.2.2.1.length ≤ 4 ∧ ∀ r ∈ k.2.2.1, r.2.2.length ≤ 4) ∧ (k.2.2.2.1.length ≤ 24 ∧ ∀ f ∈ k.2.2.2.1, f.2.length ≤ 4) ∧ k.2.2.2.2.1.length ≤ 3) (fun k => .tuple #[.slice k.2.2.2.2.2.1.1 k.2.2.2.2.2.1.2.1 k.2.2.2.2.2.1.2.2, .slice k.2.2.2.2.2.2.1.1 k.2.2.2.2.2.2.1.2.1 k.2.2.2.2.2.2.1.2.2, .slice k.2.2.2.2.2.2.2.1.1 k.2.2.2.2.2.2.2.1.2.1 k.2.2.2.2.2.2.2.1.2.2, .slice k.2.2.2.2.2.2.2.2.1.1 k.2.2.2.2.2.2.2.2.1.2.1 k.2.2.2.2.2.2.2.2.1.2.2, .slice k.2.2.2.2.2.2.2.2.2.1 k.2.2.2.2.2.2.2.2.2.2.1 k.2.2.2.2.2.2.2.2.2.2.2]) (fun k => [ow eIs [.slice k.2.2.2.2.2.1.1 k.2.2.2.2.2.1.2.1 k.2.2.2.2.2.1.2.2] k.1, ow F5 [.slice k.2.2.2.2.2.2.1.1 k.2.2.2.2.2.2.1.2.1 k.2.2.2.2.2.2.1.2.2] k.2.1, ow J9 [.slice k.2.2.2.2.2.2.2.1.1 k.2.2.2.2.2.2.2.1.2.1 k.2.2.2.2.2.2.2.1.2.2] k.2.2.1, ow m8 [.slice k.2.2.2.2.2.2.2.2.1.1 k.2.2.2.2.2.2.2.2.1.2.1 k.2.2.2.2.2.2.2.2.1.2.2] k.2.2.2.1, ow eIs [.slice k.2.2.2.2.2.2.2.2.2.1 k.2.2.2.2.2.2.2.2.2.2.1 k.2.2.2.2.2.2.2.2.2.2.2] k.2.2.2.2.1]) := by
 refine Tr.intro Tryz.func154 rfl (n := 48) rfl (by decide +kernel) bl (fr := [(0, .slice a_code m_code c_code)]) rfl fun w L hR => ?_
 have hcode := hR
 obtain ⟨rfl, lcode⟩ := hcode.slen
 refine Ew Z5 (Ei rfl (Ei rfl (Ei rfl (Ei rfl (Ei rfl (Ev Z3 (Em rfl (Est rfl (N.call (b0T fo) rfl rfl rfl dc rfl (fun w Lp hA => hA.ro hcode)) (fun b15 _ => ?_)))))))))
 have hbs := hcode
 refine Ei rfl (Ev Z12 (Em rfl (Est rfl (N.call (pre := [_]) a9h rfl rfl rfl dc rfl (fun w Lp hA => hA.ro hbs)) (fun k18 o18 => ?_))))
 obtain ⟨xs18, ms18, rl18, hq18, aq18, ⟨a18_0, m18_0, c18_0⟩, ⟨a18_1, m18_1, c18_1⟩, ⟨a18_2, m18_2, c18_2⟩, ⟨a18_3, m18_3, c18_3⟩, ⟨a18_4, m18_4, c18_4⟩⟩ := k18
 replace o18 : (1 ≤ xs18.length ∧ xs18.length ≤ 4) ∧ (ms18.length ≤ 5 ∧ ∀ m ∈ ms18, m.2.1.length ≤ 4) ∧ (rl18.length ≤ 4 ∧ ∀ r ∈ rl18, r.2.2.length ≤ 4) ∧ sQ hq18 aq18 := o18
 try (conv => arg 4; dsimp only)
 try (conv => arg 5; dsimp only [List.cons_append, List.nil_append, List.append_nil])
 refine d7 m0 fun e18_0 l18_0 => ?_
 subst e18_0
 refine d7 (mS m0) fun e18_1 l18_1 => ?_
 subst e18_1
 refine d7 (mS (mS m0)) fun e18_2 l18_2 => ?_
 subst e18_2
 refine d7 (mS (mS (mS m0))) fun e18_3 l18_3 => ?_
 subst e18_3
 refine d7 (mS (mS (mS (mS m0)))) fun e18_4 l18_4 => ?_
 subst e18_4
 refine Em rfl (Ey rfl ((Y.ext rfl rfl).yd) (Ey rfl ((Y.ext rfl rfl).yd) (Ey rfl ((Y.ext rfl rfl).yd) (Ey rfl ((Y.ext rfl rfl).yd) (Est rfl (N.alloc ty_Query dc) (fun b11 _ => (Ei rfl (Ei rfl (Ei rfl (Est rfl (Ns [_, _] ty_Query rfl) (fun _ _ => (Ev Z2 (Est rfl (Nb [] [] us_Facts ty_Fact rfl rfl) (fun b23 _ => (Ent.drop (Ei rfl (Eu (Eq_ (Ew Z2 (Em rfl (Est rfl (l0 M9 rfl rfl rfl dc (fun w Lp hA => hA.ow (mS m0))) (fun _ _ => (Ent.b (fun q25 => ?_) (fun q25 => ?_))))))))))))))))))))))))
 ·refine Eu (n8 rfl (Ez Z4 (Em rfl (Em rfl (B1 (Est rfl (N.call (pre := [_]) (a9o (a0s q25).1 (a0s q25).2.2 fo) rfl rfl rfl dc rfl (fun w Lp hA => ⟨hA.ow (mS m0), hA.ro hbs⟩)) (fun k28 o28 => ?_)))))))
  obtain ⟨fl28, ⟨a28, m28, c28⟩⟩ := k28
  replace o28 : (↑fl28.length : Int) ≤ (5 : Int) ∧ ∀ f ∈ fl28, 1 ≤ f.2.length ∧ f.2.length ≤ 3 := o28
  try (conv => arg 4; dsimp only)
  try (conv => arg 5; dsimp only [List.cons_append, List.nil_append, List.append_nil])
  refine d7 m0 fun e28 l28 => ?_
  subst e28
  refine Ei rfl (Ev Z5 (Em rfl (Em rfl (Em rfl (Est rfl (N.call a3P rfl rfl rfl dc rfl (fun w Lp hA => ⟨hA.ow (mS (mS (mS m0))), hA.ow (mS (mS (mS (mS (mS m0))))), hA.ow m0⟩)) (fun k32 _ => ?_))))))
  obtain ⟨a32, m32, c32⟩ := k32
  refine d7 m0 fun e32 l32 => ?_
  subst e32
  refine Ei rfl (Eu (Eq_ (Ew Z8 (Em rfl (Em rfl (Est rfl (l0 S2 rfl rfl rfl dc (fun w Lp hA => ⟨hA.ow (mS (mS (mS (mS m0)))), hA.ow m0⟩)) (fun _ _ => (Ent.b (fun q35 => ?_) (fun q35 => ?_)))))))))
  ·refine Em rfl (Em rfl (j8 (Est rfl (N.call (pre := [_]) P4 rfl rfl rfl dc rfl (fun w Lp hA => hA.ro hbs)) (fun o38 o38 => ?_))))
   replace o38 : True := o38
   try (conv => arg 5; dsimp only [List.cons_append, List.nil_append, List.append_nil])
   refine Ent.b (fun q38 => ?_) (fun q38 => ?_)
   ·refine Ey rfl ((Y.not (b := true) rfl).yd) (Ey rfl ((t8 rfl rfl).yd) (Eu (o0 rfl (i7 (Et (Ew Z11 (Em rfl (Em rfl (Em rfl (Em rfl (Em rfl (Est rfl (N.call (pre := [_]) a0C rfl rfl rfl dc rfl (fun w Lp hA => hA.ro hbs)) (fun k47 o47 => ?_)))))))))))))
    obtain ⟨sv47, ⟨a47, m47, c47⟩⟩ := k47
    replace o47 : sv47.length ≤ 3 := o47
    try (conv => arg 4; dsimp only)
    try (conv => arg 5; dsimp only [List.cons_append, List.nil_append, List.append_nil])
    refine d7 m0 fun e47 l47 => ?_
    subst e47
    refine Ei rfl (Ei rfl (Ei rfl (Ei rfl (Ei rfl (Eu (E.ret (o4 (w8 (w8 (w8 (j9 (j9 (j9 (j9 (j9 ?_)))))))))))))))
    exact a3r br rfl rfl rfl rfl rfl rfl  (xs18, ms18, rl18, fl28, sv47, (_, _, _), (_, _, _), (_, _, _), (_, _, _), (_, _, _)) (show (1 ≤ xs18.length ∧ xs18.length ≤ 4) ∧ (ms18.length ≤ 5 ∧ ∀ m ∈ ms18, m.2.1.length ≤ 4) ∧ (rl18.length ≤ 4 ∧ ∀ r ∈ rl18, r.2.2.length ≤ 4) ∧ (fl28.length ≤ 24 ∧ ∀ f ∈ fl28, f.2.length ≤ 4) ∧ sv47.length ≤ 3 from by first | exact ⟨o18.1, o18.2.1, o18.2.2.1, a5d q35, o47⟩ | exact ⟨o18.1, o18.2.1, o18.2.2.1, a4a o28, o47⟩ | exact ⟨o18.1, o18.2.1, o18.2.2.1, ⟨by simp, fun f hf => by simp at hf⟩, o47⟩) rfl (J := _) (.refl _) (.inl rfl)
   ·refine Ey rfl ((Y.not (b := false) rfl).yd) (Ey rfl ((t8 rfl rfl).yd) (Eu (n8 rfl (Ez Z2 (Em rfl (Ei rfl (Ev Z11 (Em rfl (Em rfl (Em rfl (Em rfl (Em rfl (Est rfl (N.call (pre := [_]) a0C rfl rfl rfl dc rfl (fun w Lp hA => hA.ro hbs)) (fun k47 o47 => ?_))))))))))))))
    obtain ⟨sv47, ⟨a47, m47, c47⟩⟩ := k47
    replace o47 : sv47.length ≤ 3 := o47
    try (conv => arg 4; dsimp only)
    try (conv => arg 5; dsimp only [List.cons_append, List.nil_append, List.append_nil])
    refine d7 m0 fun e47 l47 => ?_
    subst e47
    refine Ei rfl (Ei rfl (Ei rfl (Ei rfl (Ei rfl (Eu (E.ret (j8 (w8 (w8 (w8 (j9 (j9 (j9 (j9 (j9 ?_)))))))))))))))
    exact a3r br rfl rfl rfl rfl rfl rfl  (xs18, ms18, rl18, a0S xs18 rl18 fl28, sv47, (_, _, _), (_, _, _), (_, _, _), (_, _, _), (_, _, _)) (show (1 ≤ xs18.length ∧ xs18.length ≤ 4) ∧ (ms18.length ≤ 5 ∧ ∀ m ∈ ms18, m.2.1.length ≤ 4) ∧ (rl18.length ≤ 4 ∧ ∀ r ∈ rl18, r.2.2.length ≤ 4) ∧ ((a0S xs18 rl18 fl28).length ≤ 24 ∧ ∀ f ∈ (a0S xs18 rl18 fl28), f.2.length ≤ 4) ∧ sv47.length ≤ 3 from by first | exact ⟨o18.1, o18.2.1, o18.2.2.1, a5d q35, o47⟩ | exact ⟨o18.1, o18.2.1, o18.2.2.1, a4a o28, o47⟩ | exact ⟨o18.1, o18.2.1, o18.2.2.1, ⟨by simp, fun f hf => by simp at hf⟩, o47⟩) rfl (J := _) (.refl _) (.inl rfl)
  ·refine Em rfl (Es rfl (Es rfl (Es rfl (Ey rfl ((t7 rfl rfl).yd) (Eu (o0 rfl (i7 (Et (Ew Z11 (Em rfl (Em rfl (Em rfl (Em rfl (Em rfl (j8 (Est rfl (N.call (pre := [_]) a0C rfl rfl rfl dc rfl (fun w Lp hA => hA.ro hbs)) (fun k47 o47 => ?_)))))))))))))))))
   obtain ⟨sv47, ⟨a47, m47, c47⟩⟩ := k47
   replace o47 : sv47.length ≤ 3 := o47
   try (conv => arg 4; dsimp only)
   try (conv => arg 5; dsimp only [List.cons_append, List.nil_append, List.append_nil])
   refine d7 m0 fun e47 l47 => ?_
   subst e47
   refine Ei rfl (Ei rfl (Ei rfl (Ei rfl (Ei rfl (Eu (E.ret (o4 (w8 (w8 (w8 (j9 (j9 (j9 (j9 (j9 ?_)))))))))))))))
   exact a3r br rfl rfl rfl rfl rfl rfl  (xs18, ms18, rl18, fl28, sv47, (_, _, _), (_, _, _), (_, _, _), (_, _, _), (_, _, _)) (show (1 ≤ xs18.length ∧ xs18.length ≤ 4) ∧ (ms18.length ≤ 5 ∧ ∀ m ∈ ms18, m.2.1.length ≤ 4) ∧ (rl18.length ≤ 4 ∧ ∀ r ∈ rl18, r.2.2.length ≤ 4) ∧ (fl28.length ≤ 24 ∧ ∀ f ∈ fl28, f.2.length ≤ 4) ∧ sv47.length ≤ 3 from by first | exact ⟨o18.1, o18.2.1, o18.2.2.1, a5d q35, o47⟩ | exact ⟨o18.1, o18.2.1, o18.2.2.1, a4a o28, o47⟩ | exact ⟨o18.1, o18.2.1, o18.2.2.1, ⟨by simp, fun f hf => by simp at hf⟩, o47⟩) rfl (J := _) (.refl _) (.inl rfl)
 ·refine Eu (o0 rfl (i7 (Et (Ew Z5 (Em rfl (Em rfl (Em rfl (Est rfl (N.call a3P rfl rfl rfl dc rfl (fun w Lp hA => ⟨hA.ow (mS m0), hA.ow (mS (mS (mS m0))), b4Q⟩)) (fun k32 _ => ?_)))))))))
  obtain ⟨a32, m32, c32⟩ := k32
  refine d7 m0 fun e32 l32 => ?_
  subst e32
  refine Ei rfl (Eu (Eq_ (Ew Z8 (Em rfl (Em rfl (Est rfl (l0 S2 rfl rfl rfl dc (fun w Lp hA => ⟨hA.ow (mS (mS m0)), hA.ow m0⟩)) (fun _ _ => (Ent.b (fun q35 => ?_) (fun q35 => ?_)))))))))
  ·refine Em rfl (Em rfl (w8 (Est rfl (N.call (pre := [_]) P4 rfl rfl rfl dc rfl (fun w Lp hA => hA.ro hbs)) (fun o38 o38 => ?_))))
   replace o38 : True := o38
   try (conv => arg 5; dsimp only [List.cons_append, List.nil_append, List.append_nil])
   refine Ent.b (fun q38 => ?_) (fun q38 => ?_)
   ·refine Ey rfl ((Y.not (b := true) rfl).yd) (Ey rfl ((t8 rfl rfl).yd) (Eu (o0 rfl (i7 (Et (Ew Z11 (Em rfl (Em rfl (Em rfl (Em rfl (Em rfl (Est rfl (N.call (pre := [_]) a0C rfl rfl rfl dc rfl (fun w Lp hA => hA.ro hbs)) (fun k47 o47 => ?_)))))))))))))
    obtain ⟨sv47, ⟨a47, m47, c47⟩⟩ := k47
    replace o47 : sv47.length ≤ 3 := o47
    try (conv => arg 4; dsimp only)
    try (conv => arg 5; dsimp only [List.cons_append, List.nil_append, List.append_nil])
    refine d7 m0 fun e47 l47 => ?_
    subst e47
    refine Ei rfl (Ei rfl (Ei rfl (Ei rfl (Ei rfl (Eu (E.ret (u9 (A := []) (Own.nil (E := C9) (e := tFact) (a := (some ⟨b23, 0, none⟩))) rfl (w8 (w8 (w8 (j9 (j9 (j9 (j9 (j9 ?_)))))))))))))))
    exact a3r br rfl rfl rfl rfl rfl rfl  (xs18, ms18, rl18, [], sv47, (_, _, _), (_, _, _), (_, _, _), ((some ⟨b23, 0, none⟩), 0, 0), (_, _, _)) (show (1 ≤ xs18.length ∧ xs18.length ≤ 4) ∧ (ms18.length ≤ 5 ∧ ∀ m ∈ ms18, m.2.1.length ≤ 4) ∧ (rl18.length ≤ 4 ∧ ∀ r ∈ rl18, r.2.2.length ≤ 4) ∧ (([] : List (Int × List Int)).length ≤ 24 ∧ ∀ f ∈ ([] : List (Int × List Int)), f.2.length ≤ 4) ∧ sv47.length ≤ 3 from by first | exact ⟨o18.1, o18.2.1, o18.2.2.1, a5d q35, o47⟩ | exact ⟨o18.1, o18.2.1, o18.2.2.1, a4a o28, o47⟩ | exact ⟨o18.1, o18.2.1, o18.2.2.1, ⟨by simp, fun f hf => by simp at hf⟩, o47⟩) rfl (J := _) (.refl _) (.inl rfl)
   ·refine Ey rfl ((Y.not (b := false) rfl).yd) (Ey rfl ((t8 rfl rfl).yd) (Eu (n8 rfl (Ez Z2 (Em rfl (Ei rfl (Ev Z11 (Em rfl (Em rfl (Em rfl (Em rfl (Em rfl (Est rfl (N.call (pre := [_]) a0C rfl rfl rfl dc rfl (fun w Lp hA => hA.ro hbs)) (fun k47 o47 => ?_))))))))))))))
    obtain ⟨sv47, ⟨a47, m47, c47⟩⟩ := k47
    replace o47 : sv47.length ≤ 3 := o47
    try (conv => arg 4; dsimp only)
    try (conv => arg 5; dsimp only [List.cons_append, List.nil_append, List.append_nil])
    refine d7 m0 fun e47 l47 => ?_
    subst e47
    refine Ei rfl (Ei rfl (Ei rfl (Ei rfl (Ei rfl (Eu (E.ret (j8 (B1 (B1 (B1 (j9 (j9 (j9 (j9 (j9 ?_)))))))))))))))
    exact a3r br rfl rfl rfl rfl rfl rfl  (xs18, ms18, rl18, a0S xs18 rl18 ([]), sv47, (_, _, _), (_, _, _), (_, _, _), (_, _, _), (_, _, _)) (show (1 ≤ xs18.length ∧ xs18.length ≤ 4) ∧ (ms18.length ≤ 5 ∧ ∀ m ∈ ms18, m.2.1.length ≤ 4) ∧ (rl18.length ≤ 4 ∧ ∀ r ∈ rl18, r.2.2.length ≤ 4) ∧ ((a0S xs18 rl18 ([])).length ≤ 24 ∧ ∀ f ∈ (a0S xs18 rl18 ([])), f.2.length ≤ 4) ∧ sv47.length ≤ 3 from by first | exact ⟨o18.1, o18.2.1, o18.2.2.1, a5d q35, o47⟩ | exact ⟨o18.1, o18.2.1, o18.2.2.1, a4a o28, o47⟩ | exact ⟨o18.1, o18.2.1, o18.2.2.1, ⟨by simp, fun f hf => by simp at hf⟩, o47⟩) rfl (J := _) (.refl _) (.inl rfl)
  ·refine Em rfl (Es rfl (Es rfl (Es rfl (Ey rfl ((t7 rfl rfl).yd) (Eu (o0 rfl (i7 (Et (Ew Z11 (Em rfl (Em rfl (Em rfl (Em rfl (Em rfl (w8 (Est rfl (N.call (pre := [_]) a0C rfl rfl rfl dc rfl (fun w Lp hA => hA.ro hbs)) (fun k47 o47 => ?_)))))))))))))))))
   obtain ⟨sv47, ⟨a47, m47, c47⟩⟩ := k47
   replace o47 : sv47.length ≤ 3 := o47
   try (conv => arg 4; dsimp only)
   try (conv => arg 5; dsimp only [List.cons_append, List.nil_append, List.append_nil])
   refine d7 m0 fun e47 l47 => ?_
   subst e47
   refine Ei rfl (Ei rfl (Ei rfl (Ei rfl (Ei rfl (Eu (E.ret (u9 (A := []) (Own.nil (E := C9) (e := tFact) (a := (some ⟨b23, 0, none⟩))) rfl (w8 (w8 (w8 (j9 (j9 (j9 (j9 (j9 ?_)))))))))))))))
   exact a3r br rfl rfl rfl rfl rfl rfl  (xs18, ms18, rl18, [], sv47, (_, _, _), (_, _, _), (_, _, _), ((some ⟨b23, 0, none⟩), 0, 0), (_, _, _)) (show (1 ≤ xs18.length ∧ xs18.length ≤ 4) ∧ (ms18.length ≤ 5 ∧ ∀ m ∈ ms18, m.2.1.length ≤ 4) ∧ (rl18.length ≤ 4 ∧ ∀ r ∈ rl18, r.2.2.length ≤ 4) ∧ (([] : List (Int × List Int)).length ≤ 24 ∧ ∀ f ∈ ([] : List (Int × List Int)), f.2.length ≤ 4) ∧ sv47.length ≤ 3 from by first | exact ⟨o18.1, o18.2.1, o18.2.2.1, a5d q35, o47⟩ | exact ⟨o18.1, o18.2.1, o18.2.2.1, a4a o28, o47⟩ | exact ⟨o18.1, o18.2.1, o18.2.2.1, ⟨by simp, fun f hf => by simp at hf⟩, o47⟩) rfl (J := _) (.refl _) (.inl rfl)
theorem a5w {code : List UInt8} (hcl : code.length ≤ 1048576) : Tr Tryz.prog 51 [.slice a_code m_code c_code] (fun w L => Ro w L Y6 [.slice a_code m_code c_code] code) [] (κ := (List Int) × (List (Int × List Int × Int × Int × Int)) × (List (Int × Int × List Int)) × (List (Int × List Int)) × (List Int) × (Option Addr × Nat × Nat) × (Option Addr × Nat × Nat) × (Option Addr × Nat × Nat) × (Option Addr × Nat × Nat) × Option Addr × Nat × Nat) (fun k => (1 ≤ k.1.length ∧ k.1.length ≤ 4) ∧ (k.2.1.length ≤ 5 ∧ ∀ m ∈ k.2.1, m.2.1.length ≤ 4) ∧ (k.2.2.1.length ≤ 4 ∧ ∀ r ∈ k.2.2.1, r.2.2.length ≤ 4) ∧ (k.2.2.2.1.length ≤ 24 ∧ ∀ f ∈ k.2.2.2.1, f.2.length ≤ 4) ∧ k.2.2.2.2.1.length ≤ 3) (fun k => .tuple #[.slice k.2.2.2.2.2.1.1 k.2.2.2.2.2.1.2.1 k.2.2.2.2.2.1.2.2, .slice k.2.2.2.2.2.2.1.1 k.2.2.2.2.2.2.1.2.1 k.2.2.2.2.2.2.1.2.2, .slice k.2.2.2.2.2.2.2.1.1 k.2.2.2.2.2.2.2.1.2.1 k.2.2.2.2.2.2.2.1.2.2, .slice k.2.2.2.2.2.2.2.2.1.1 k.2.2.2.2.2.2.2.2.1.2.1 k.2.2.2.2.2.2.2.2.1.2.2, .slice k.2.2.2.2.2.2.2.2.2.1 k.2.2.2.2.2.2.2.2.2.2.1 k.2.2.2.2.2.2.2.2.2.2.2]) (fun k => [ow eIs [.slice k.2.2.2.2.2.1.1 k.2.2.2.2.2.1.2.1 k.2.2.2.2.2.1.2.2] k.1, ow F5 [.slice k.2.2.2.2.2.2.1.1 k.2.2.2.2.2.2.1.2.1 k.2.2.2.2.2.2.1.2.2] k.2.1, ow J9 [.slice k.2.2.2.2.2.2.2.1.1 k.2.2.2.2.2.2.2.1.2.1 k.2.2.2.2.2.2.2.1.2.2] k.2.2.1, ow m8 [.slice k.2.2.2.2.2.2.2.2.1.1 k.2.2.2.2.2.2.2.2.1.2.1 k.2.2.2.2.2.2.2.2.1.2.2] k.2.2.2.1, ow eIs [.slice k.2.2.2.2.2.2.2.2.2.1 k.2.2.2.2.2.2.2.2.2.2.1 k.2.2.2.2.2.2.2.2.2.2.2] k.2.2.2.2.1]) := by
 refine Tr.intro Tryz.func51 rfl (n := 25) rfl (by decide +kernel) bl (fr := [(0, .slice a_code m_code c_code)]) rfl fun w L hR => ?_
 have hcode := hR
 obtain ⟨rfl, lcode⟩ := hcode.slen
 refine Ew Z5 (Ei rfl (Ei rfl (Ei rfl (Ei rfl (Ei rfl (Ev Z13 (Em rfl (Est rfl (N.call (a4A fc) rfl rfl rfl dc rfl (fun w Lp hA => hA.ro hcode)) (fun k14 o14 => ?_)))))))))
 obtain ⟨xs14, ms14, rl14, fl14, sv14, ⟨a14_0, m14_0, c14_0⟩, ⟨a14_1, m14_1, c14_1⟩, ⟨a14_2, m14_2, c14_2⟩, ⟨a14_3, m14_3, c14_3⟩, ⟨a14_4, m14_4, c14_4⟩⟩ := k14
 replace o14 : (1 ≤ xs14.length ∧ xs14.length ≤ 4) ∧ (ms14.length ≤ 5 ∧ ∀ m ∈ ms14, m.2.1.length ≤ 4) ∧ (rl14.length ≤ 4 ∧ ∀ r ∈ rl14, r.2.2.length ≤ 4) ∧ (fl14.length ≤ 24 ∧ ∀ f ∈ fl14, f.2.length ≤ 4) ∧ sv14.length ≤ 3 := o14
 try (conv => arg 4; dsimp only)
 try (conv => arg 5; dsimp only [List.cons_append, List.nil_append, List.append_nil])
 refine d7 m0 fun e14_0 l14_0 => ?_
 subst e14_0
 refine d7 (mS m0) fun e14_1 l14_1 => ?_
 subst e14_1
 refine d7 (mS (mS m0)) fun e14_2 l14_2 => ?_
 subst e14_2
 refine d7 (mS (mS (mS m0))) fun e14_3 l14_3 => ?_
 subst e14_3
 refine d7 (mS (mS (mS (mS m0)))) fun e14_4 l14_4 => ?_
 subst e14_4
 refine Em rfl (Ey rfl ((Y.ext rfl rfl).yd) (Ey rfl ((Y.ext rfl rfl).yd) (Ey rfl ((Y.ext rfl rfl).yd) (Ey rfl ((Y.ext rfl rfl).yd) (Ey rfl ((Y.ext rfl rfl).yd) (Ei rfl (Ei rfl (Ei rfl (Ei rfl (Ei rfl (Ev Z10 (Em rfl (Em rfl (Em rfl (Em rfl (Em rfl (Ei rfl (Ei rfl (Ei rfl (Ei rfl (Ei rfl (Eu (E.ret (j9 (j9 (j9 (j9 (j9 (j9 (j9 (j9 (j9 (j9 ?_)))))))))))))))))))))))))))))))))
 exact a3r br rfl rfl rfl rfl rfl rfl  (xs14, ms14, rl14, fl14, sv14, (_, _, _), (_, _, _), (_, _, _), (_, _, _), (_, _, _)) (show (1 ≤ xs14.length ∧ xs14.length ≤ 4) ∧ (ms14.length ≤ 5 ∧ ∀ m ∈ ms14, m.2.1.length ≤ 4) ∧ (rl14.length ≤ 4 ∧ ∀ r ∈ rl14, r.2.2.length ≤ 4) ∧ (fl14.length ≤ 24 ∧ ∀ f ∈ fl14, f.2.length ≤ 4) ∧ sv14.length ≤ 3 from by exact o14) rfl (J := _) (.refl _) (.inl rfl)
theorem a5c {code : List UInt8} (hcl : code.length ≤ 1048576) : Tr Tryz.prog 175 [.slice a_code m_code c_code] (fun w L => Ro w L Y6 [.slice a_code m_code c_code] code) [] (κ := (List Int) × (List (Int × List Int × Int × Int × Int)) × (List (Int × Int × List Int)) × (List (Int × List Int)) × (List Int) × Int × (List Int) × (Option Addr × Nat × Nat) × (Option Addr × Nat × Nat) × (Option Addr × Nat × Nat) × (Option Addr × Nat × Nat) × (Option Addr × Nat × Nat) × Option Addr × Nat × Nat) (fun k => (1 ≤ k.1.length ∧ k.1.length ≤ 4) ∧ (k.2.1.length ≤ 5 ∧ ∀ m ∈ k.2.1, m.2.1.length ≤ 4) ∧ (k.2.2.1.length ≤ 4 ∧ ∀ r ∈ k.2.2.1, r.2.2.length ≤ 4) ∧ (k.2.2.2.1.length ≤ 24 ∧ ∀ f ∈ k.2.2.2.1, f.2.length ≤ 4) ∧ k.2.2.2.2.1.length ≤ 3 ∧ k.2.2.2.2.2.2.1.length ≤ 4 ∧ I64 k.2.2.2.2.2.1) (fun k => .tuple #[.slice k.2.2.2.2.2.2.2.1.1 k.2.2.2.2.2.2.2.1.2.1 k.2.2.2.2.2.2.2.1.2.2, .slice k.2.2.2.2.2.2.2.2.1.1 k.2.2.2.2.2.2.2.2.1.2.1 k.2.2.2.2.2.2.2.2.1.2.2, .slice k.2.2.2.2.2.2.2.2.2.1.1 k.2.2.2.2.2.2.2.2.2.1.2.1 k.2.2.2.2.2.2.2.2.2.1.2.2, .slice k.2.2.2.2.2.2.2.2.2.2.1.1 k.2.2.2.2.2.2.2.2.2.2.1.2.1 k.2.2.2.2.2.2.2.2.2.2.1.2.2, .slice k.2.2.2.2.2.2.2.2.2.2.2.1.1 k.2.2.2.2.2.2.2.2.2.2.2.1.2.1 k.2.2.2.2.2.2.2.2.2.2.2.1.2.2, .agg #[.int .i64 k.2.2.2.2.2.1, .slice k.2.2.2.2.2.2.2.2.2.2.2.2.1 k.2.2.2.2.2.2.2.2.2.2.2.2.2.1 k.2.2.2.2.2.2.2.2.2.2.2.2.2.2]]) (fun k => [ow eIs [.slice k.2.2.2.2.2.2.2.1.1 k.2.2.2.2.2.2.2.1.2.1 k.2.2.2.2.2.2.2.1.2.2] k.1, ow F5 [.slice k.2.2.2.2.2.2.2.2.1.1 k.2.2.2.2.2.2.2.2.1.2.1 k.2.2.2.2.2.2.2.2.1.2.2] k.2.1, ow J9 [.slice k.2.2.2.2.2.2.2.2.2.1.1 k.2.2.2.2.2.2.2.2.2.1.2.1 k.2.2.2.2.2.2.2.2.2.1.2.2] k.2.2.1, ow (Enc.bnd m8 eIs) [.slice k.2.2.2.2.2.2.2.2.2.2.1.1 k.2.2.2.2.2.2.2.2.2.2.1.2.1 k.2.2.2.2.2.2.2.2.2.2.1.2.2, .slice k.2.2.2.2.2.2.2.2.2.2.2.2.1 k.2.2.2.2.2.2.2.2.2.2.2.2.2.1 k.2.2.2.2.2.2.2.2.2.2.2.2.2.2] (k.2.2.2.1, k.2.2.2.2.2.2.1), ow eIs [.slice k.2.2.2.2.2.2.2.2.2.2.2.1.1 k.2.2.2.2.2.2.2.2.2.2.2.1.2.1 k.2.2.2.2.2.2.2.2.2.2.2.1.2.2] k.2.2.2.2.1]) := by
 refine Tr.intro Tryz.func175 rfl (n := 44) rfl (by decide +kernel) bl (fr := [(0, .slice a_code m_code c_code)]) rfl fun w L hR => ?_
 have hcode := hR
 obtain ⟨rfl, lcode⟩ := hcode.slen
 refine Ew Z6 (Ei rfl (Ei rfl (Ei rfl (Ei rfl (Ei rfl (Est rfl (N.alloc ty_Fact dc) (fun b7 _ => (Ev Z13 (Em rfl (Est rfl (N.call (a4A fc) rfl rfl rfl dc rfl (fun w Lp hA => hA.ro hcode)) (fun k15 o15 => ?_)))))))))))
 obtain ⟨xs15, ms15, rl15, fl15, sv15, ⟨a15_0, m15_0, c15_0⟩, ⟨a15_1, m15_1, c15_1⟩, ⟨a15_2, m15_2, c15_2⟩, ⟨a15_3, m15_3, c15_3⟩, ⟨a15_4, m15_4, c15_4⟩⟩ := k15
 replace o15 : (1 ≤ xs15.length ∧ xs15.length ≤ 4) ∧ (ms15.length ≤ 5 ∧ ∀ m ∈ ms15, m.2.1.length ≤ 4) ∧ (rl15.length ≤ 4 ∧ ∀ r ∈ rl15, r.2.2.length ≤ 4) ∧ (fl15.length ≤ 24 ∧ ∀ f ∈ fl15, f.2.length ≤ 4) ∧ sv15.length ≤ 3 := o15
 try (conv => arg 4; dsimp only)
 try (conv => arg 5; dsimp only [List.cons_append, List.nil_append, List.append_nil])
 refine d7 m0 fun e15_0 l15_0 => ?_
 subst e15_0
 refine d7 (mS m0) fun e15_1 l15_1 => ?_
 subst e15_1
 refine d7 (mS (mS m0)) fun e15_2 l15_2 => ?_
 subst e15_2
 refine d7 (mS (mS (mS m0))) fun e15_3 l15_3 => ?_
 subst e15_3
 refine d7 (mS (mS (mS (mS m0)))) fun e15_4 l15_4 => ?_
 subst e15_4
 refine Em rfl (Ey rfl ((Y.ext rfl rfl).yd) (Ey rfl ((Y.ext rfl rfl).yd) (Ey rfl ((Y.ext rfl rfl).yd) (Ey rfl ((Y.ext rfl rfl).yd) (Ey rfl ((Y.ext rfl rfl).yd) (Ei rfl (Ei rfl (Ei rfl (Ei rfl (Ei rfl (Eu (Eq_ (Ew Z3 (Em rfl (Ey rfl ((Y.len us_Facts rfl).yd) (Ey rfl ((Y.gtr rfl rfl).yd) (o3 (fun q23 => ?_) (fun q23 => ?_))))))))))))))))))
 ·have jm0 : 0 ≤ (↑code.length : Int) % (↑fl15.length : Int) := Int.emod_nonneg _ om
  have jm1 : (↑code.length : Int) % (↑fl15.length : Int) < (↑fl15.length : Int) := Int.emod_lt_of_pos _ om
  refine Eu (n8 rfl (Eq_ (D.region (fun j => !(Nat.beq j 18)) mixed (Dyp 0 rfl (i8 rfl) (Dyp 1 rfl (i8 rfl) (Dyp 2 rfl (i8 rfl) (Dyp 3 rfl (i8 rfl) (Dyp 4 rfl (i8 rfl) (Dyp 5 rfl (i8 rfl) (Dyp 6 rfl (i8 rfl) (Dyp 7 rfl (Y.len us_U8s rfl) (Dyp 8 rfl (i8 rfl) (Dyp 9 rfl (Y.len us_Facts rfl) (Dyp 10 rfl (b1R rfl rfl om om) (a1m (mS (mS (mS m0))) om fun ab35 ae35 => (o4 (a3t (x := fl15[((↑code.length : Int) % (↑((fl15).length) : Int)).toNat]) (((↑code.length : Int) % (↑((fl15).length) : Int)).toNat) (List.getElem?_eq_getElem om) fun ce35 => ?_)))))))))))))))))
  refine d9 (a2O fun oa35_1 om35_1 oc35_1 oe35 oi35_0 on35_1 => ?_)
  subst oe35
  subst on35_1
  refine Dyp 11 rfl (v8 us_Facts ty_Fact rfl ae35 rfl (((↑code.length : Int) % (↑((fl15).length) : Int)).toNat) om om) (Dy 12 rfl (o6 (cs := [_, _]) ty_Fact rfl (Has.hole ae35 (mS m0)) rfl) (Dyp 13 rfl (C2 rfl) (Dyp 14 rfl (C2 rfl) (Dyp 15 rfl (C2 rfl) (Dyp 16 rfl (C2 rfl) (Dyp 17 rfl (C2 rfl) (B1 (t6 18 rfl rfl kr (fun h => by cases h) (Ns [_, _] ty_Fact rfl) (fun _ _ => (r9 kr (Et (E.ret (n0 (d9 (j8 (b3F (M3 (x := fl15[((↑code.length : Int) % (↑((fl15).length) : Int)).toNat]) oi35_0 Own.ow) (List.set_getElem_self om) (w6 (w6 (w6 (w6 (o4 (j9 (j9 (j9 (j9 ?_)))))))))))))))))))))))))
  exact b1S br rfl rfl rfl rfl rfl rfl rfl (mS (mS (mS (mS (mS m0))))) ty_Fact rfl (xs15, ms15, rl15, fl15, sv15, fl15[((↑code.length : Int) % (↑((fl15).length) : Int)).toNat].1, fl15[((↑code.length : Int) % (↑((fl15).length) : Int)).toNat].2, (_, _, _), (_, _, _), (_, _, _), (_, _, _), (_, _, _), (_, _, _)) (show (1 ≤ xs15.length ∧ xs15.length ≤ 4) ∧ (ms15.length ≤ 5 ∧ ∀ m ∈ ms15, m.2.1.length ≤ 4) ∧ (rl15.length ≤ 4 ∧ ∀ r ∈ rl15, r.2.2.length ≤ 4) ∧ (fl15.length ≤ 24 ∧ ∀ f ∈ fl15, f.2.length ≤ 4) ∧ sv15.length ≤ 3 ∧ fl15[((↑code.length : Int) % (↑((fl15).length) : Int)).toNat].2.length ≤ 4 ∧ I64 fl15[((↑code.length : Int) % (↑((fl15).length) : Int)).toNat].1 from by exact ⟨o15.1, o15.2.1, o15.2.2.1, o15.2.2.2.1, o15.2.2.2.2, o15.2.2.2.1.2 _ (List.getElem_mem om), by assumption⟩) rfl (J := _) (.refl _) (.inl rfl)
 ·refine Eu (o0 rfl (i7 (Et (Ew Z13 (Em rfl (Em rfl (Em rfl (Em rfl (Em rfl (Est rfl (Nb [_] [_] us_Is f9 rfl rfl) (fun b42 _ => (u9 (A := _ :: _) (a2a (E := Enc.int) (e := tI) (Own.int i6)) rfl (Ey rfl ((I2 (pvs := [_]) (cs := [_, _]) ty_Fact a2j rfl rfl).yd) (Ei rfl (Ei rfl (Ei rfl (Ei rfl (Ei rfl (B1 (Est rfl (Ns [_, _] ty_Fact rfl) (fun _ _ => (Eu (E.ret (d9 (w6 (b4M (w6 (w6 (w6 (w6 (o4 (j9 (j9 (j9 (j9 ?_)))))))))))))))))))))))))))))))))))
  exact b1S br rfl rfl rfl rfl rfl rfl rfl (mS (mS (mS (mS (mS m0))))) ty_Fact rfl (xs15, ms15, rl15, fl15, sv15, 0, [1], (_, _, _), (_, _, _), (_, _, _), (_, _, _), (_, _, _), (_, _, _)) (show (1 ≤ xs15.length ∧ xs15.length ≤ 4) ∧ (ms15.length ≤ 5 ∧ ∀ m ∈ ms15, m.2.1.length ≤ 4) ∧ (rl15.length ≤ 4 ∧ ∀ r ∈ rl15, r.2.2.length ≤ 4) ∧ (fl15.length ≤ 24 ∧ ∀ f ∈ fl15, f.2.length ≤ 4) ∧ sv15.length ≤ 3 ∧ ([1] : List Int).length ≤ 4 ∧ I64 (0 : Int) from by exact ⟨o15.1, o15.2.1, o15.2.2.1, o15.2.2.2.1, o15.2.2.2.2, by decide, by unfold I64; omega⟩) rfl (J := _) (.refl _) (.inl rfl)
theorem a5h {code : List UInt8} (hcl : code.length ≤ 1048576) : Tr Tryz.prog 62 [.slice a_code m_code c_code] (fun w L => Ro w L Y6 [.slice a_code m_code c_code] code) [] (κ := (List Int) × (List (Int × List Int × Int × Int × Int)) × (List (Int × Int × List Int)) × (List (Int × List Int)) × (List Int) × Int × (List Int) × (List (Int × (Int × List Int) × Int × List Int)) × (Option Addr × Nat × Nat) × (Option Addr × Nat × Nat) × (Option Addr × Nat × Nat) × (Option Addr × Nat × Nat) × (Option Addr × Nat × Nat) × (Option Addr × Nat × Nat) × Option Addr × Nat × Nat) (fun k => (1 ≤ k.1.length ∧ k.1.length ≤ 4) ∧ (k.2.1.length ≤ 5 ∧ ∀ m ∈ k.2.1, m.2.1.length ≤ 4) ∧ (k.2.2.1.length ≤ 4 ∧ ∀ r ∈ k.2.2.1, r.2.2.length ≤ 4) ∧ (k.2.2.2.1.length ≤ 24 ∧ ∀ f ∈ k.2.2.2.1, f.2.length ≤ 4) ∧ k.2.2.2.2.1.length ≤ 3 ∧ k.2.2.2.2.2.2.1.length ≤ 4 ∧ I64 k.2.2.2.2.2.1 ∧ a0m V1 k.2.2.2.2.2.2.2.1 ≤ 50000 ∧ k.2.2.2.2.2.2.2.1.length ≤ 5324) (fun k => .tuple #[.slice k.2.2.2.2.2.2.2.2.1.1 k.2.2.2.2.2.2.2.2.1.2.1 k.2.2.2.2.2.2.2.2.1.2.2, .slice k.2.2.2.2.2.2.2.2.2.1.1 k.2.2.2.2.2.2.2.2.2.1.2.1 k.2.2.2.2.2.2.2.2.2.1.2.2, .slice k.2.2.2.2.2.2.2.2.2.2.1.1 k.2.2.2.2.2.2.2.2.2.2.1.2.1 k.2.2.2.2.2.2.2.2.2.2.1.2.2, .slice k.2.2.2.2.2.2.2.2.2.2.2.1.1 k.2.2.2.2.2.2.2.2.2.2.2.1.2.1 k.2.2.2.2.2.2.2.2.2.2.2.1.2.2, .slice k.2.2.2.2.2.2.2.2.2.2.2.2.1.1 k.2.2.2.2.2.2.2.2.2.2.2.2.1.2.1 k.2.2.2.2.2.2.2.2.2.2.2.2.1.2.2, .agg #[.int .i64 k.2.2.2.2.2.1, .slice k.2.2.2.2.2.2.2.2.2.2.2.2.2.1.1 k.2.2.2.2.2.2.2.2.2.2.2.2.2.1.2.1 k.2.2.2.2.2.2.2.2.2.2.2.2.2.1.2.2], .agg #[.slice k.2.2.2.2.2.2.2.2.2.2.2.2.2.2.1 k.2.2.2.2.2.2.2.2.2.2.2.2.2.2.2.1 k.2.2.2.2.2.2.2.2.2.2.2.2.2.2.2.2]]) (fun k => [ow eIs [.slice k.2.2.2.2.2.2.2.2.1.1 k.2.2.2.2.2.2.2.2.1.2.1 k.2.2.2.2.2.2.2.2.1.2.2] k.1, ow F5 [.slice k.2.2.2.2.2.2.2.2.2.1.1 k.2.2.2.2.2.2.2.2.2.1.2.1 k.2.2.2.2.2.2.2.2.2.1.2.2] k.2.1, ow J9 [.slice k.2.2.2.2.2.2.2.2.2.2.1.1 k.2.2.2.2.2.2.2.2.2.2.1.2.1 k.2.2.2.2.2.2.2.2.2.2.1.2.2] k.2.2.1, ow (Enc.bnd m8 eIs) [.slice k.2.2.2.2.2.2.2.2.2.2.2.1.1 k.2.2.2.2.2.2.2.2.2.2.2.1.2.1 k.2.2.2.2.2.2.2.2.2.2.2.1.2.2, .slice k.2.2.2.2.2.2.2.2.2.2.2.2.2.1.1 k.2.2.2.2.2.2.2.2.2.2.2.2.2.1.2.1 k.2.2.2.2.2.2.2.2.2.2.2.2.2.1.2.2] (k.2.2.2.1, k.2.2.2.2.2.2.1), ow eIs [.slice k.2.2.2.2.2.2.2.2.2.2.2.2.1.1 k.2.2.2.2.2.2.2.2.2.2.2.2.1.2.1 k.2.2.2.2.2.2.2.2.2.2.2.2.1.2.2] k.2.2.2.2.1, ow (Enc.frz B6) [.slice k.2.2.2.2.2.2.2.2.2.2.2.2.2.2.1 k.2.2.2.2.2.2.2.2.2.2.2.2.2.2.2.1 k.2.2.2.2.2.2.2.2.2.2.2.2.2.2.2.2] k.2.2.2.2.2.2.2.1]) := by
 refine Tr.intro Tryz.func62 rfl (n := 57) rfl (by decide +kernel) bl (fr := [(0, .slice a_code m_code c_code)]) rfl fun w L hR => ?_
 have hcode := hR
 obtain ⟨rfl, lcode⟩ := hcode.slen
 refine Ew Z7 (Ei rfl (Ei rfl (Ei rfl (Ei rfl (Ei rfl (Est rfl (N.alloc ty_Fact dc) (fun b7 _ => (Est rfl (N.alloc ty_Proof dc) (fun b8 _ => (Ev Z16 (Em rfl (Est rfl (N.call (a5c fc) rfl rfl rfl dc rfl (fun w Lp hA => hA.ro hcode)) (fun k19 o19 => ?_)))))))))))))
 obtain ⟨xs19, ms19, rl19, fl19, sv19, ra19, vs19, ⟨a19_0, m19_0, c19_0⟩, ⟨a19_1, m19_1, c19_1⟩, ⟨a19_2, m19_2, c19_2⟩, ⟨a19_3, m19_3, c19_3⟩, ⟨a19_4, m19_4, c19_4⟩, ⟨a19_5, m19_5, c19_5⟩⟩ := k19
 replace o19 : (1 ≤ xs19.length ∧ xs19.length ≤ 4) ∧ (ms19.length ≤ 5 ∧ ∀ m ∈ ms19, m.2.1.length ≤ 4) ∧ (rl19.length ≤ 4 ∧ ∀ r ∈ rl19, r.2.2.length ≤ 4) ∧ (fl19.length ≤ 24 ∧ ∀ f ∈ fl19, f.2.length ≤ 4) ∧ sv19.length ≤ 3 ∧ vs19.length ≤ 4 ∧ I64 ra19 := o19
 try (conv => arg 4; dsimp only)
 try (conv => arg 5; dsimp only [List.cons_append, List.nil_append, List.append_nil])
 refine d7 m0 fun e19_0 l19_0 => ?_
 subst e19_0
 refine d7 (mS m0) fun e19_1 l19_1 => ?_
 subst e19_1
 refine d7 (mS (mS m0)) fun e19_2 l19_2 => ?_
 subst e19_2
 refine b2P (mS (mS (mS m0))) fun e19_3 l19_3 => ?_
 subst e19_3
 refine d7 (mS (mS (mS (mS m0)))) fun e19_4 l19_4 => ?_
 subst e19_4
 refine b2O rfl (mS (mS (mS m0))) fun e19_5 l19_5 => ?_
 subst e19_5
 refine Em rfl (Ey rfl ((Y.ext rfl rfl).yd) (Ey rfl ((Y.ext rfl rfl).yd) (Ey rfl ((Y.ext rfl rfl).yd) (Ey rfl ((Y.ext rfl rfl).yd) (Ey rfl ((Y.ext rfl rfl).yd) (Ey rfl ((Y.ext rfl rfl).yd) (Est rfl (N.alloc ty_Fact dc) (fun b14 _ => (Ei rfl (Ei rfl (Ei rfl (Ei rfl (Ei rfl (Est rfl (Ns [_, _] ty_Fact rfl) (fun _ _ => (Ev Z13 (Em rfl (Em rfl (Em rfl (Em rfl (Em rfl (Ey rfl (o6 (cs := [_, _]) ty_Fact rfl (Has.pt m0) rfl) (Est rfl (N.call (a7v fc) rfl rfl rfl dc rfl (fun w Lp hA => ⟨hA.ow (mS m0), hA.ow (mS (mS m0)), hA.ow (mS (mS (mS m0))), hA.bd1 (mS (mS (mS (mS m0)))) rfl, hA.ow (mS (mS (mS (mS (mS m0))))), i6, hA.bd2 (mS (mS (mS (mS m0)))) rfl⟩)) (fun k33 _ => ?_))))))))))))))))))))))))
 obtain ⟨a33, m33, c33⟩ := k33
 refine d7 m0 fun e33 l33 => ?_
 subst e33
 refine Em rfl (Ey rfl ((Y.ext rfl rfl).yd) (Ey rfl ((Y.ext rfl rfl).yd) (Est rfl (N.alloc ty_Proof dc) (fun b15 _ => (Est rfl (Ns [_] ty_Proof rfl) (fun _ _ => (Ei rfl (Eu (Eq_ (Ew Z10 (Ey rfl ((f5 fo_Proof_0 ty_Lines dc rfl).yd) (Ey rfl (g9 ty_Lines rfl (Hz m0 0 rfl) rfl) (Ey rfl ((Y.len us_Lines rfl).yd) (Ey rfl ((Y.gtr rfl rfl).yd) (o3 (fun q39 => ?_) (fun q39 => ?_))))))))))))))))
 ·refine Em rfl (Em rfl (Ey rfl ((Y.len us_U8s rfl).yd) (Ey rfl ((Y.rem rfl rfl i6 dc).yd) (Ey rfl ((Y.eql rfl rfl).yd) (o3 (fun q44 => ?_) (fun q44 => ?_))))))
  ·refine Ey rfl ((t8 rfl rfl).yd) (Eu (n8 rfl (Ez Z5 (Ey rfl ((f5 fo_Proof_0 ty_Lines dc rfl).yd) (Ey rfl (g9 ty_Lines rfl (Hz m0 0 rfl) rfl) (Ey rfl ((a8o (l := 1) us_Lines ty_Line rfl rfl om).yd) (Ey rfl ((f5 fo_Proof_0 ty_Lines dc rfl).yd) (Est rfl (Ns [_] ty_Lines rfl) (fun _ _ => (Eu (Eq_ (U9 [b15, b14] (fun j => true) mixed (C6 0 rfl rfl dc (i8 rfl) kr (C6 1 rfl rfl dc (i8 rfl) kr (C6 2 rfl rfl dc (i8 rfl) kr (C6 3 rfl rfl dc (i8 rfl) kr (C6 4 rfl rfl dc (i8 rfl) kr (a1v 5 rfl rfl dc (a5C (cs := [_, _]) ty_Fact rfl (Y8.pt (mS (mS m0)) (by simp)) rfl) kr (a1v 6 rfl rfl dc (a5C (cs := [_]) ty_Proof rfl (Y8.pt m0 (by simp)) rfl) kr (C6 7 rfl rfl dc (C2 rfl) kr (C6 8 rfl rfl dc (C2 rfl) kr (C6 9 rfl rfl dc (C2 rfl) kr (C6 10 rfl rfl dc (C2 rfl) kr (C6 11 rfl rfl dc (C2 rfl) kr (a0V (I6 12 rfl rfl kr (fun _ _ => SameI.out) (Ns [_, _] ty_Fact rfl) (fun _ _ => (a0V (I6 13 rfl rfl kr (fun _ _ => SameI.out) (Ns [_] ty_Proof rfl) (fun _ _ => (a0k kr (Et (E.ret (o4 (b3E 1 om (a0V (D8 (D8 (D8 (j9 (j9 (a0V (w6 (w6 (w6 ?_)))))))))))))))))))))))))))))))))))))))))))))
   exact a7e br rfl rfl rfl rfl rfl rfl rfl rfl (mS (mS (mS (mS (mS (mS (mS m0))))))) ty_Fact rfl (mS (mS (mS (mS (mS (mS m0)))))) ty_Proof rfl (xs19, ms19, rl19, fl19, sv19, ra19, vs19, ((N9 xs19 ms19 rl19 fl19 sv19 (ra19, vs19)).drop 1), (_, _, _), (_, _, _), (_, _, _), (_, _, _), (_, _, _), (_, _, _), (_, _, _)) (show (1 ≤ xs19.length ∧ xs19.length ≤ 4) ∧ (ms19.length ≤ 5 ∧ ∀ m ∈ ms19, m.2.1.length ≤ 4) ∧ (rl19.length ≤ 4 ∧ ∀ r ∈ rl19, r.2.2.length ≤ 4) ∧ (fl19.length ≤ 24 ∧ ∀ f ∈ fl19, f.2.length ≤ 4) ∧ sv19.length ≤ 3 ∧ vs19.length ≤ 4 ∧ I64 ra19 ∧ a0m V1 ((N9 xs19 ms19 rl19 fl19 sv19 (ra19, vs19)).drop 1) ≤ 50000 ∧ ((N9 xs19 ms19 rl19 fl19 sv19 (ra19, vs19)).drop 1).length ≤ 5324 from by first | exact ⟨o19.1, o19.2.1, o19.2.2.1, o19.2.2.2.1, o19.2.2.2.2.1, o19.2.2.2.2.2.1, o19.2.2.2.2.2.2, a7K⟩ | exact ⟨o19.1, o19.2.1, o19.2.2.1, o19.2.2.2.1, o19.2.2.2.2.1, o19.2.2.2.2.2.1, o19.2.2.2.2.2.2, a5l⟩) rfl (J := _) (.refl _) (.inl rfl)
  ·refine Ey rfl ((t8 rfl rfl).yd) (Eu (o0 rfl (i7 (Et (Eq_ (U9 [b15, b14] (fun j => true) mixed (C6 0 rfl rfl dc (i8 rfl) kr (C6 1 rfl rfl dc (i8 rfl) kr (C6 2 rfl rfl dc (i8 rfl) kr (C6 3 rfl rfl dc (i8 rfl) kr (C6 4 rfl rfl dc (i8 rfl) kr (a1v 5 rfl rfl dc (a5C (cs := [_, _]) ty_Fact rfl (Y8.pt (mS (mS m0)) (by simp)) rfl) kr (a1v 6 rfl rfl dc (a5C (cs := [_]) ty_Proof rfl (Y8.pt m0 (by simp)) rfl) kr (C6 7 rfl rfl dc (C2 rfl) kr (C6 8 rfl rfl dc (C2 rfl) kr (C6 9 rfl rfl dc (C2 rfl) kr (C6 10 rfl rfl dc (C2 rfl) kr (C6 11 rfl rfl dc (C2 rfl) kr (a0V (I6 12 rfl rfl kr (fun _ _ => SameI.out) (Ns [_, _] ty_Fact rfl) (fun _ _ => (a0V (I6 13 rfl rfl kr (fun _ _ => SameI.out) (Ns [_] ty_Proof rfl) (fun _ _ => (a0k kr (Et (E.ret (o4 (b0q (a0V (D8 (D8 (D8 (j9 (j9 (a0V (w6 (w6 (w6 ?_)))))))))))))))))))))))))))))))))))))))
   exact a7e br rfl rfl rfl rfl rfl rfl rfl rfl (mS (mS (mS (mS (mS (mS (mS m0))))))) ty_Fact rfl (mS (mS (mS (mS (mS (mS m0)))))) ty_Proof rfl (xs19, ms19, rl19, fl19, sv19, ra19, vs19, N9 xs19 ms19 rl19 fl19 sv19 (ra19, vs19), (_, _, _), (_, _, _), (_, _, _), (_, _, _), (_, _, _), (_, _, _), (_, _, _)) (show (1 ≤ xs19.length ∧ xs19.length ≤ 4) ∧ (ms19.length ≤ 5 ∧ ∀ m ∈ ms19, m.2.1.length ≤ 4) ∧ (rl19.length ≤ 4 ∧ ∀ r ∈ rl19, r.2.2.length ≤ 4) ∧ (fl19.length ≤ 24 ∧ ∀ f ∈ fl19, f.2.length ≤ 4) ∧ sv19.length ≤ 3 ∧ vs19.length ≤ 4 ∧ I64 ra19 ∧ a0m V1 (N9 xs19 ms19 rl19 fl19 sv19 (ra19, vs19)) ≤ 50000 ∧ (N9 xs19 ms19 rl19 fl19 sv19 (ra19, vs19)).length ≤ 5324 from by first | exact ⟨o19.1, o19.2.1, o19.2.2.1, o19.2.2.2.1, o19.2.2.2.2.1, o19.2.2.2.2.2.1, o19.2.2.2.2.2.2, a7K⟩ | exact ⟨o19.1, o19.2.1, o19.2.2.1, o19.2.2.2.1, o19.2.2.2.2.1, o19.2.2.2.2.2.1, o19.2.2.2.2.2.2, a5l⟩) rfl (J := _) (.refl _) (.inl rfl)
 ·refine Em rfl (Es rfl (Es rfl (Es rfl (Es rfl (Ey rfl ((t7 rfl rfl).yd) (Eu (o0 rfl (i7 (Et (Eq_ (U9 [b15, b14] (fun j => true) mixed (C6 0 rfl rfl dc (i8 rfl) kr (C6 1 rfl rfl dc (i8 rfl) kr (C6 2 rfl rfl dc (i8 rfl) kr (C6 3 rfl rfl dc (i8 rfl) kr (C6 4 rfl rfl dc (i8 rfl) kr (a1v 5 rfl rfl dc (a5C (cs := [_, _]) ty_Fact rfl (Y8.pt (mS (mS m0)) (by simp)) rfl) kr (a1v 6 rfl rfl dc (a5C (cs := [_]) ty_Proof rfl (Y8.pt m0 (by simp)) rfl) kr (C6 7 rfl rfl dc (C2 rfl) kr (C6 8 rfl rfl dc (C2 rfl) kr (C6 9 rfl rfl dc (C2 rfl) kr (C6 10 rfl rfl dc (C2 rfl) kr (C6 11 rfl rfl dc (C2 rfl) kr (a0V (I6 12 rfl rfl kr (fun _ _ => SameI.out) (Ns [_, _] ty_Fact rfl) (fun _ _ => (a0V (I6 13 rfl rfl kr (fun _ _ => SameI.out) (Ns [_] ty_Proof rfl) (fun _ _ => (a0k kr (Et (E.ret (o4 (b0q (a0V (D8 (D8 (D8 (j9 (j9 (a0V (w6 (w6 (w6 ?_))))))))))))))))))))))))))))))))))))))))))))
  exact a7e br rfl rfl rfl rfl rfl rfl rfl rfl (mS (mS (mS (mS (mS (mS (mS m0))))))) ty_Fact rfl (mS (mS (mS (mS (mS (mS m0)))))) ty_Proof rfl (xs19, ms19, rl19, fl19, sv19, ra19, vs19, N9 xs19 ms19 rl19 fl19 sv19 (ra19, vs19), (_, _, _), (_, _, _), (_, _, _), (_, _, _), (_, _, _), (_, _, _), (_, _, _)) (show (1 ≤ xs19.length ∧ xs19.length ≤ 4) ∧ (ms19.length ≤ 5 ∧ ∀ m ∈ ms19, m.2.1.length ≤ 4) ∧ (rl19.length ≤ 4 ∧ ∀ r ∈ rl19, r.2.2.length ≤ 4) ∧ (fl19.length ≤ 24 ∧ ∀ f ∈ fl19, f.2.length ≤ 4) ∧ sv19.length ≤ 3 ∧ vs19.length ≤ 4 ∧ I64 ra19 ∧ a0m V1 (N9 xs19 ms19 rl19 fl19 sv19 (ra19, vs19)) ≤ 50000 ∧ (N9 xs19 ms19 rl19 fl19 sv19 (ra19, vs19)).length ≤ 5324 from by first | exact ⟨o19.1, o19.2.1, o19.2.2.1, o19.2.2.2.1, o19.2.2.2.2.1, o19.2.2.2.2.2.1, o19.2.2.2.2.2.2, a7K⟩ | exact ⟨o19.1, o19.2.1, o19.2.2.1, o19.2.2.2.1, o19.2.2.2.2.1, o19.2.2.2.2.2.1, o19.2.2.2.2.2.2, a5l⟩) rfl (J := _) (.refl _) (.inl rfl)
end Go.Proofs.YthapcdhdfaibkaaGreatDoor
