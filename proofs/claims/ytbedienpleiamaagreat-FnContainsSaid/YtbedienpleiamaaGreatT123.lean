import Derived.Test.YtbedienpleiamaaGreatT122
import Derived.Test.YtbedienpleiamaaGreatT19
import Derived.Test.YtbedienpleiamaaGreatT24
import Derived.Test.YtbedienpleiamaaGreatHf
namespace Go.Proofs.YtbedienpleiamaaGreat
open Go.RowKit
set_option linter.all false
set_option maxHeartbeats 2000000
attribute [local irreducible] Nop Yd Yp Ent Has Tr FnP FnP2 Src O1 S7 W5 X5 I0
variable {m_code c_code m_a c_a m_b c_b : Nat} {a_code a_a a_b : Option Addr}
theorem S1 {code : List UInt8} (hcl : code.length ≤ 1048576) : Tr Tryz.prog 26 [.slice a_code m_code c_code] (fun w L => Ro w L P5 [.slice a_code m_code c_code] code) [] (κ := (List Int) × (List (Int × List Int)) × (List (Int × List Int)) × (List Int) × (Option Addr × Nat × Nat) × (Option Addr × Nat × Nat) × (Option Addr × Nat × Nat) × Option Addr × Nat × Nat) (fun k => dQ dT 3 3 k.1 k.2.1 ∧ (k.2.2.1.length ≤ 9 ∧ ∀ f ∈ k.2.2.1, 1 ≤ f.2.length ∧ f.2.length ≤ 4) ∧ k.2.2.2.1.length ≤ 3) (fun k => .tuple #[.agg #[.slice k.2.2.2.2.1.1 k.2.2.2.2.1.2.1 k.2.2.2.2.1.2.2, .slice k.2.2.2.2.2.1.1 k.2.2.2.2.2.1.2.1 k.2.2.2.2.2.1.2.2], .slice k.2.2.2.2.2.2.1.1 k.2.2.2.2.2.2.1.2.1 k.2.2.2.2.2.2.1.2.2, .slice k.2.2.2.2.2.2.2.1 k.2.2.2.2.2.2.2.2.1 k.2.2.2.2.2.2.2.2.2]) (fun k => [ow eIs [.slice k.2.2.2.2.1.1 k.2.2.2.2.1.2.1 k.2.2.2.2.1.2.2] k.1, ow j8 [.slice k.2.2.2.2.2.1.1 k.2.2.2.2.2.1.2.1 k.2.2.2.2.2.1.2.2] k.2.1, ow u5 [.slice k.2.2.2.2.2.2.1.1 k.2.2.2.2.2.2.1.2.1 k.2.2.2.2.2.2.1.2.2] k.2.2.1, ow eIs [.slice k.2.2.2.2.2.2.2.1 k.2.2.2.2.2.2.2.2.1 k.2.2.2.2.2.2.2.2.2] k.2.2.2.1]) := by
 refine Tr.intro Tryz.func26 rfl (n := 57) rfl (by decide +kernel) bl (fr := [(0, .slice a_code m_code c_code)]) rfl fun w L hR => ?_
 have hcode := hR
 obtain ⟨rfl, lcode⟩ := hcode.slen
 refine Ew Z3 (Est rfl (N.alloc ty_Query dc) (fun b2 _ => (Ei rfl (Ei rfl (Ev Z3 (Em rfl (Est rfl (N.call (S4 fo) rfl rfl rfl dc rfl (fun w Lp hA => hA.ro hcode)) (fun b13 _ => ?_))))))))
 have hbs := hcode
 refine Ei rfl (Ev Z10 (Em rfl (Est rfl (N.call (pre := [_]) a2O rfl rfl rfl dc rfl (fun w Lp hA => hA.ro hbs)) (fun k16 o16 => ?_))))
 obtain ⟨xs16, hq16, aq16, fl16, ⟨a16_0, m16_0, c16_0⟩, ⟨a16_1, m16_1, c16_1⟩, ⟨a16_2, m16_2, c16_2⟩, ⟨a16_3, m16_3, c16_3⟩⟩ := k16
 replace o16 : (1 ≤ xs16.length ∧ xs16.length ≤ 4) ∧ dQ dT 3 3 hq16 aq16 ∧ fl16.length ≤ 9 ∧ ∀ f ∈ fl16, 1 ≤ f.2.length ∧ f.2.length ≤ 4 := o16
 try (conv => arg 4; dsimp only)
 try (conv => arg 5; dsimp only [List.cons_append, List.nil_append, List.append_nil])
 have jl := o16.2.1.1.2
 have jh := o16.2.1.2.2
 have jf := o16.2.2.1
 refine d4 m0 fun e16_0 l16_0 => ?_
 subst e16_0
 refine d4 (mS m0) fun e16_1 l16_1 => ?_
 subst e16_1
 refine d4 (mS (mS m0)) fun e16_2 l16_2 => ?_
 subst e16_2
 refine d4 (mS (mS (mS m0))) fun e16_3 l16_3 => ?_
 subst e16_3
 refine Em rfl (Ey rfl ((Y.ext rfl rfl).yd) (Ey rfl ((Y.ext rfl rfl).yd) (Ey rfl ((Y.ext rfl rfl).yd) (Est rfl (N.alloc ty_Query dc) (fun b7 _ => (Ei rfl (Est rfl (Ns [_, _] ty_Query rfl) (fun _ _ => (Ei rfl (Eu (Eq_ (D.region (fun j => true) mixed (Dy 0 rfl (j6 (cs := [_, _]) ty_Query rfl (Has.pt m0) rfl) (Dy 1 rfl (j6 (cs := [_, _]) ty_Query rfl (Has.pt m0) rfl) (Dyp 2 rfl (i8 rfl) (r8 3 rfl rfl kr (fun _ => rfl) (N.call (X6 (o16.2.1.small).1 (o16.2.1.small).2.1 (fun a _ => W9 om)) rfl rfl rfl dc rfl (fun w Lp hA => ⟨hA.ow (mS (mS m0)), hA.ow (mS (mS (mS m0))), hA.ow (mS (mS (mS (mS m0))))⟩)) (fun k23 _ => ?_)))))))))))))))))
 obtain ⟨a23, m23, c23⟩ := k23
 refine d4 m0 fun e23 l23 => ?_
 subst e23
 refine r8 4 rfl rfl kr (fun _ => rfl) (N.call (a1J (by have := (o16.2.1.small).2.2; omega) (Nat.le_trans (a3W (f0 := fl16) om (o16.2.1.small).1 (o16.2.1.small).2.1).1 dc)) rfl rfl rfl dc rfl (fun w Lp hA => ⟨hA.ow (mS (mS (mS m0))), hA.ow (mS (mS (mS (mS m0)))), hA.ow m0⟩)) (fun k24 _ => ?_)
 obtain ⟨a24, m24, c24⟩ := k24
 refine d4 m0 fun e24 l24 => ?_
 subst e24
 refine Dyp 5 rfl (C0 rfl) (r7 kr (Et (Eq_ (Ew Z7 (Em rfl (Ey rfl ((Y.len us_Iss rfl).yd) (Ey rfl ((Y.gtr rfl rfl).yd) (n9 (fun q27 => ?_) (fun q27 => ?_)))))))))
 ·refine Em rfl (Em rfl (K9 (Est rfl (N.call (pre := [_]) F0 rfl rfl rfl dc rfl (fun w Lp hA => hA.ro hbs)) (fun o30 o30 => ?_))))
  replace o30 : True := o30
  try (conv => arg 5; dsimp only [List.cons_append, List.nil_append, List.append_nil])
  refine t7 (fun q30 => ?_) (fun q30 => ?_)
  ·refine Ey rfl ((v8 rfl rfl).yd) ?_
   have jn : 0 < (L8 hq16 (j7 aq16 fl16)).length := by have := q27; dsimp only at this; omega
   refine Eu (o0 rfl (Eq_ (d7 (a9N jn fun bb90 bs90 bx90 he90 hm90 hl90 ht90 => (D5 [bb90, b7] (fun j => true) mixed (G1 0 rfl rfl dc (H5 (cs := [_, _]) ty_Query rfl (D7.pt (mS (mS (mS (mS m0)))) (by simp)) rfl) kr (t8 1 rfl rfl dc (i8 rfl) kr (t8 2 rfl rfl dc (i8 rfl) kr (t8 3 rfl rfl dc (i8 rfl) kr (t8 4 rfl rfl dc (i8 rfl) kr (t8 5 rfl rfl dc (Y.len us_Iss rfl) kr (g9 (x2 6 rfl rfl kr (fun _ _ => SameI.out) (N.call (pre := [_]) B3 rfl rfl rfl dc rfl (fun w Lp hA => hA.ro hbs)) (fun x38 o38 => ?_))))))))))))))
   replace o38 : 0 ≤ x38 ∧ ((↑((L8 hq16 (j7 aq16 fl16)).length) : Int) ≤ 0 → x38 = 0) ∧ (0 < (↑((L8 hq16 (j7 aq16 fl16)).length) : Int) → x38 < (↑((L8 hq16 (j7 aq16 fl16)).length) : Int)) := o38
   try (conv => arg 5; dsimp only [List.cons_append, List.nil_append, List.append_nil])
   refine g9 (a8j x38.toNat om fun oa39 oc39 hx39 => (t8 7 rfl rfl dc (t6 us_Iss ty_Is rfl he90 rfl x38.toNat om (by first | omega | (dsimp only; omega))) kr (G1 8 rfl rfl dc (K4 ty_Is rfl (a9P (D7.pt (mS (mS m0)) (by simp)) x38.toNat (b0C ht90 (by have h9 : bx90.length = (L8 hq16 (j7 aq16 fl16)).length * 1 := hl90; omega) hx39)) rfl) kr (s7 (x2 9 rfl rfl kr (fun _ _ => SameI.out) (Ns [_, _] ty_Query rfl) (fun _ _ => (t8 10 rfl rfl dc (C0 rfl) kr (t8 11 rfl rfl dc (C0 rfl) kr (E8 kr (Et (E.ret (o4 (d7 (s7 (s7 (s7 (l3 (l3 (l3 (l3 ?_))))))))))))))))))))
   exact a8l br rfl rfl rfl rfl (mS (mS (mS (mS m0)))) ty_Query rfl (hq16, aq16, fl16, (L8 hq16 (j7 aq16 fl16))[x38.toNat], (_, _, _), (_, _, _), (_, _, _), (_, _, _)) (show dQ dT 3 3 hq16 aq16 ∧ (fl16.length ≤ 9 ∧ ∀ f ∈ fl16, 1 ≤ f.2.length ∧ f.2.length ≤ 4) ∧ ((L8 hq16 (j7 aq16 fl16))[x38.toNat]).length ≤ 3 from by exact ⟨o16.2.1, o16.2.2, Nat.le_trans (a8F _ (List.getElem_mem _)) (o16.2.1.small).2.2⟩) rfl (J := _) (.refl _) (.inl rfl)
  ·refine Ey rfl ((v8 rfl rfl).yd) (Eu (n0 rfl (f8 (Et (Ew Z2 (Est rfl (Nb [] [] us_Is f6 rfl rfl) (fun b41 _ => (Ent.drop (Ei rfl (Eu (Eq_ (Ew Z1 (Ei rfl (Eu (E.block (o2 (A := []) (Own.nil (E := Enc.int) (e := tI) (a := (some ⟨b41, 0, none⟩))) rfl (E.loop (κ := Nat × (List Int) × Option Addr × Nat × Nat) (fun g => g.1 ≤ hq16.length ∧ g.2.1.length = g.1) (fun g => [(2, .pointer (some ⟨b2, 0, none⟩)), (5, .pointer (some ⟨b13, 0, none⟩)), (7, .pointer (some ⟨b7, 0, none⟩)), (8, .slice a16_3 (fl16).length c16_3), (10, .slice g.2.2.1 g.2.2.2.1 g.2.2.2.2), (11, .int .i64 (↑g.1 : Int))]) (fun g => [ow eIs [.slice g.2.2.1 g.2.2.2.1 g.2.2.2.2] g.2.1, cur b13 a_code code.length c_code, ow P2 [.slice a24 (L8 hq16 (j7 aq16 fl16)).length c24] (L8 hq16 (j7 aq16 fl16)), ow C1 [.slice a23 (j7 aq16 fl16).length c23] (j7 aq16 fl16), pt b7 27 [.slice a16_1 (hq16).length c16_1, .slice a16_2 (aq16).length c16_2], ow eIs [.slice a16_0 (xs16).length c16_0] xs16, ow eIs [.slice a16_1 (hq16).length c16_1] hq16, ow j8 [.slice a16_2 (aq16).length c16_2] aq16, ow u5 [.slice a16_3 (fl16).length c16_3] fl16, pt b2 27 [.slice none 0 0, .slice none 0 0]]) (fun g => hq16.length - g.1) (0, [], (some ⟨b41, 0, none⟩), 0, 0) ⟨Nat.zero_le _, by rfl⟩ ⟨rfl, rfl, rfl, rfl, rfl, rfl, trivial⟩ (.refl _) (fun g pg => ?_))))))))))))))))))
   obtain ⟨g, hd, aA0_0, mA0_0, cA0_0⟩ := g
   try dsimp only at pg
   try dsimp only
   obtain ⟨pk, pa⟩ := pg
   refine d4 m0 fun eaA0_0 laA0_0 => ?_
   subst eaA0_0
   refine Eq_ (Ew Z5 (Em rfl (Ey rfl ((i0 fo_Query_0 ty_Is dc rfl).yd) (Ey rfl (f9 ty_Is rfl (Hz (mS (mS (mS (mS m0)))) 0 rfl) rfl) (Ey rfl ((Y.len us_Is rfl).yd) (Ey rfl ((Y.lss rfl rfl).yd) (n9 (fun q46 => ?_) (fun q46 => ?_))))))))
   ·refine Eu (o0 rfl (f8 (Et (Eq_ (E.block (Ez Z6 (Em rfl (Em rfl (d7 (Est rfl (N.call (pre := [_]) B3 rfl rfl rfl dc rfl (fun w Lp hA => hA.ro hbs)) (fun x51 o51 => ?_)))))))))))
    replace o51 : 0 ≤ x51 ∧ ((4 : Int) ≤ 0 → x51 = 0) ∧ (0 < (4 : Int) → x51 < (4 : Int)) := o51
    try (conv => arg 5; dsimp only [List.cons_append, List.nil_append, List.append_nil])
    refine Est rfl (Nb [_] [_] us_Is f6 rfl rfl) (fun b52 _ => (g9 (Est rfl (v7 (E := Enc.int) (ex := x51) us_Is f6 rfl rfl rfl (Own.int i6) rfl bn bn dc) (fun p53 _ => (Ei rfl (En (s4 (Et (Ez Z3 (Em rfl (Ey rfl ((Y.add rfl rfl om om).yd) (Ei rfl (Eu (s7 (s7 (s7 (s7 (s7 (s7 (s7 (s7 (s7 (s7 ?_)))))))))))))))))))))))
    exact Ea (g + 1, hd ++ [x51], p53.1, ((hd).length + 1), p53.2) ⟨oz, (show (hd ++ [x51]).length = (g + 1) from by (simp only [List.length_append, List.length_singleton]; omega))⟩
   ·refine Eu (n0 rfl (E.exit (o3 (o3 (x5 (Et (Ew Z6 (Ey rfl (j6 (cs := [_, _]) ty_Query rfl (Has.pt (mS (mS (mS (mS m0))))) rfl) (Em rfl (Em rfl (s7 (Est rfl (Ns [_, _] ty_Query rfl) (fun _ _ => (Ei rfl (Ei rfl (Eu (E.ret (d7 (s7 (s7 (s7 (l3 (l3 (l3 (l3 ?_)))))))))))))))))))))))))
    exact a8l br rfl rfl rfl rfl (mS (mS (mS (mS m0)))) ty_Query rfl (hq16, aq16, fl16, hd, (_, _, _), (_, _, _), (_, _, _), (_, _, _)) (show dQ dT 3 3 hq16 aq16 ∧ (fl16.length ≤ 9 ∧ ∀ f ∈ fl16, 1 ≤ f.2.length ∧ f.2.length ≤ 4) ∧ hd.length ≤ 3 from by exact ⟨o16.2.1, o16.2.2, by omega⟩) rfl (J := _) (.refl _) (.inl rfl)
 ·refine Em rfl (Es rfl (Es rfl (Ey rfl ((u7 rfl rfl).yd) (Eu (n0 rfl (f8 (Et (Ew Z2 (Est rfl (Nb [] [] us_Is f6 rfl rfl) (fun b41 _ => (Ent.drop (Ei rfl (Eu (Eq_ (Ew Z1 (Ei rfl (Eu (E.block (o2 (A := []) (Own.nil (E := Enc.int) (e := tI) (a := (some ⟨b41, 0, none⟩))) rfl (E.loop (κ := Nat × (List Int) × Option Addr × Nat × Nat) (fun g => g.1 ≤ hq16.length ∧ g.2.1.length = g.1) (fun g => [(2, .pointer (some ⟨b2, 0, none⟩)), (5, .pointer (some ⟨b13, 0, none⟩)), (7, .pointer (some ⟨b7, 0, none⟩)), (8, .slice a16_3 (fl16).length c16_3), (10, .slice g.2.2.1 g.2.2.2.1 g.2.2.2.2), (11, .int .i64 (↑g.1 : Int))]) (fun g => [ow eIs [.slice g.2.2.1 g.2.2.2.1 g.2.2.2.2] g.2.1, ow P2 [.slice a24 (L8 hq16 (j7 aq16 fl16)).length c24] (L8 hq16 (j7 aq16 fl16)), ow C1 [.slice a23 (j7 aq16 fl16).length c23] (j7 aq16 fl16), pt b7 27 [.slice a16_1 (hq16).length c16_1, .slice a16_2 (aq16).length c16_2], ow eIs [.slice a16_0 (xs16).length c16_0] xs16, ow eIs [.slice a16_1 (hq16).length c16_1] hq16, ow j8 [.slice a16_2 (aq16).length c16_2] aq16, ow u5 [.slice a16_3 (fl16).length c16_3] fl16, cur b13 a_code code.length c_code, pt b2 27 [.slice none 0 0, .slice none 0 0]]) (fun g => hq16.length - g.1) (0, [], (some ⟨b41, 0, none⟩), 0, 0) ⟨Nat.zero_le _, by rfl⟩ ⟨rfl, rfl, rfl, rfl, rfl, rfl, trivial⟩ (.refl _) (fun g pg => ?_)))))))))))))))))))))
  obtain ⟨g, hd, aA0_0, mA0_0, cA0_0⟩ := g
  try dsimp only at pg
  try dsimp only
  obtain ⟨pk, pa⟩ := pg
  refine d4 m0 fun eaA0_0 laA0_0 => ?_
  subst eaA0_0
  refine Eq_ (Ew Z5 (Em rfl (Ey rfl ((i0 fo_Query_0 ty_Is dc rfl).yd) (Ey rfl (f9 ty_Is rfl (Hz (mS (mS (mS m0))) 0 rfl) rfl) (Ey rfl ((Y.len us_Is rfl).yd) (Ey rfl ((Y.lss rfl rfl).yd) (n9 (fun q46 => ?_) (fun q46 => ?_))))))))
  ·refine Eu (o0 rfl (f8 (Et (Eq_ (E.block (Ez Z6 (Em rfl (Em rfl (s8 (Est rfl (N.call (pre := [_]) B3 rfl rfl rfl dc rfl (fun w Lp hA => hA.ro hbs)) (fun x51 o51 => ?_)))))))))))
   replace o51 : 0 ≤ x51 ∧ ((4 : Int) ≤ 0 → x51 = 0) ∧ (0 < (4 : Int) → x51 < (4 : Int)) := o51
   try (conv => arg 5; dsimp only [List.cons_append, List.nil_append, List.append_nil])
   refine Est rfl (Nb [_] [_] us_Is f6 rfl rfl) (fun b52 _ => (g9 (Est rfl (v7 (E := Enc.int) (ex := x51) us_Is f6 rfl rfl rfl (Own.int i6) rfl bn bn dc) (fun p53 _ => (Ei rfl (En (s4 (Et (Ez Z3 (Em rfl (Ey rfl ((Y.add rfl rfl om om).yd) (Ei rfl (Eu (s7 (g9 (s7 (s7 (s7 (s7 (s7 (s7 (s7 (s7 ?_)))))))))))))))))))))))
   exact Ea (g + 1, hd ++ [x51], p53.1, ((hd).length + 1), p53.2) ⟨oz, (show (hd ++ [x51]).length = (g + 1) from by (simp only [List.length_append, List.length_singleton]; omega))⟩
  ·refine Eu (n0 rfl (E.exit (o3 (o3 (x5 (Et (Ew Z6 (Ey rfl (j6 (cs := [_, _]) ty_Query rfl (Has.pt (mS (mS (mS m0)))) rfl) (Em rfl (Em rfl (s7 (Est rfl (Ns [_, _] ty_Query rfl) (fun _ _ => (Ei rfl (Ei rfl (Eu (E.ret (d7 (s8 (s8 (s8 (l3 (l3 (l3 (l3 ?_)))))))))))))))))))))))))
   exact a8l br rfl rfl rfl rfl (mS (mS (mS (mS m0)))) ty_Query rfl (hq16, aq16, fl16, hd, (_, _, _), (_, _, _), (_, _, _), (_, _, _)) (show dQ dT 3 3 hq16 aq16 ∧ (fl16.length ≤ 9 ∧ ∀ f ∈ fl16, 1 ≤ f.2.length ∧ f.2.length ≤ 4) ∧ hd.length ≤ 3 from by exact ⟨o16.2.1, o16.2.2, by omega⟩) rfl (J := _) (.refl _) (.inl rfl)
theorem a0l {code : List UInt8} (hcl : code.length ≤ 1048576) : Tr Tryz.prog 29 [.slice a_code m_code c_code] (fun w L => Ro w L P5 [.slice a_code m_code c_code] code) [] (κ := (List Int) × (List (Int × List Int)) × (List (Int × List Int)) × (List Int) × (List Int) × (List Int) × (Option Addr × Nat × Nat) × (Option Addr × Nat × Nat) × (Option Addr × Nat × Nat) × (Option Addr × Nat × Nat) × (Option Addr × Nat × Nat) × Option Addr × Nat × Nat) (fun k => dQ dT 3 3 k.1 k.2.1 ∧ (k.2.2.1.length ≤ 9 ∧ ∀ f ∈ k.2.2.1, 1 ≤ f.2.length ∧ f.2.length ≤ 4) ∧ k.2.2.2.1.length ≤ 3 ∧ k.2.2.2.2.1.length ≤ 1000 ∧ k.2.2.2.2.2.1.length ≤ 1000) (fun k => .tuple #[.agg #[.slice k.2.2.2.2.2.2.1.1 k.2.2.2.2.2.2.1.2.1 k.2.2.2.2.2.2.1.2.2, .slice k.2.2.2.2.2.2.2.1.1 k.2.2.2.2.2.2.2.1.2.1 k.2.2.2.2.2.2.2.1.2.2], .slice k.2.2.2.2.2.2.2.2.1.1 k.2.2.2.2.2.2.2.2.1.2.1 k.2.2.2.2.2.2.2.2.1.2.2, .slice k.2.2.2.2.2.2.2.2.2.1.1 k.2.2.2.2.2.2.2.2.2.1.2.1 k.2.2.2.2.2.2.2.2.2.1.2.2, .agg #[.slice k.2.2.2.2.2.2.2.2.2.2.1.1 k.2.2.2.2.2.2.2.2.2.2.1.2.1 k.2.2.2.2.2.2.2.2.2.2.1.2.2, .slice k.2.2.2.2.2.2.2.2.2.2.2.1 k.2.2.2.2.2.2.2.2.2.2.2.2.1 k.2.2.2.2.2.2.2.2.2.2.2.2.2]]) (fun k => [ow eIs [.slice k.2.2.2.2.2.2.1.1 k.2.2.2.2.2.2.1.2.1 k.2.2.2.2.2.2.1.2.2] k.1, ow j8 [.slice k.2.2.2.2.2.2.2.1.1 k.2.2.2.2.2.2.2.1.2.1 k.2.2.2.2.2.2.2.1.2.2] k.2.1, ow u5 [.slice k.2.2.2.2.2.2.2.2.1.1 k.2.2.2.2.2.2.2.2.1.2.1 k.2.2.2.2.2.2.2.2.1.2.2] k.2.2.1, ow eIs [.slice k.2.2.2.2.2.2.2.2.2.1.1 k.2.2.2.2.2.2.2.2.2.1.2.1 k.2.2.2.2.2.2.2.2.2.1.2.2] k.2.2.2.1, ow eIs [.slice k.2.2.2.2.2.2.2.2.2.2.1.1 k.2.2.2.2.2.2.2.2.2.2.1.2.1 k.2.2.2.2.2.2.2.2.2.2.1.2.2] k.2.2.2.2.1, ow eIs [.slice k.2.2.2.2.2.2.2.2.2.2.2.1 k.2.2.2.2.2.2.2.2.2.2.2.2.1 k.2.2.2.2.2.2.2.2.2.2.2.2.2] k.2.2.2.2.2.1]) := by
 refine Tr.intro Tryz.func29 rfl (n := 39) rfl (by decide +kernel) bl (fr := [(0, .slice a_code m_code c_code)]) rfl fun w L hR => ?_
 have hcode := hR
 obtain ⟨rfl, lcode⟩ := hcode.slen
 refine Ew Z4 (Est rfl (N.alloc ty_Query dc) (fun b2 _ => (Ei rfl (Ei rfl (Est rfl (N.alloc ty_Binding dc) (fun b5 _ => (Ev Z10 (Em rfl (Est rfl (N.call (S1 fo) rfl rfl rfl dc rfl (fun w Lp hA => hA.ro hcode)) (fun k13 o13 => ?_))))))))))
 obtain ⟨hq13, aq13, fl13, hd13, ⟨a13_0, m13_0, c13_0⟩, ⟨a13_1, m13_1, c13_1⟩, ⟨a13_2, m13_2, c13_2⟩, ⟨a13_3, m13_3, c13_3⟩⟩ := k13
 replace o13 : dQ dT 3 3 hq13 aq13 ∧ (fl13.length ≤ 9 ∧ ∀ f ∈ fl13, 1 ≤ f.2.length ∧ f.2.length ≤ 4) ∧ hd13.length ≤ 3 := o13
 try (conv => arg 4; dsimp only)
 try (conv => arg 5; dsimp only [List.cons_append, List.nil_append, List.append_nil])
 have jl := o13.1.1.2
 have jh := o13.1.2.2
 have jf := o13.2.1.1
 have js := a7h (H := hq13) (v := hd13) (A := aq13) (f0 := fl13) o13.1.small om
 refine d4 m0 fun e13_0 l13_0 => ?_
 subst e13_0
 refine d4 (mS m0) fun e13_1 l13_1 => ?_
 subst e13_1
 refine d4 (mS (mS m0)) fun e13_2 l13_2 => ?_
 subst e13_2
 refine d4 (mS (mS (mS m0))) fun e13_3 l13_3 => ?_
 subst e13_3
 refine Em rfl (Ey rfl ((Y.ext rfl rfl).yd) (Ey rfl ((Y.ext rfl rfl).yd) (Ey rfl ((Y.ext rfl rfl).yd) (Est rfl (N.alloc ty_Query dc) (fun b6 _ => (Est rfl (Ns [_, _] ty_Query rfl) (fun _ _ => (Ei rfl (Ei rfl (Ev Z10 (Ey rfl (j6 (cs := [_, _]) ty_Query rfl (Has.pt m0) rfl) (Em rfl (Em rfl (Est rfl (N.call (M6 (o13.1.small).1 (o13.1.small).2.1 (fun a _ => W9 om) om) rfl rfl rfl dc rfl (fun w Lp hA => ⟨hA.ow (mS m0), hA.ow (mS (mS m0)), hA.ow (mS (mS (mS m0))), hA.ow (mS (mS (mS (mS m0))))⟩)) (fun k21 _ => ?_)))))))))))))))
 obtain ⟨⟨a21_0, m21_0, c21_0⟩, ⟨a21_1, m21_1, c21_1⟩⟩ := k21
 refine d4 m0 fun e21_0 l21_0 => ?_
 subst e21_0
 refine d4 (mS m0) fun e21_1 l21_1 => ?_
 subst e21_1
 refine Em rfl (Ey rfl ((Y.ext rfl rfl).yd) (Ey rfl ((Y.ext rfl rfl).yd) (Est rfl (N.alloc ty_Binding dc) (fun b9 _ => (Est rfl (Ns [_, _] ty_Binding rfl) (fun _ _ => (Ei rfl (t7 (fun q10 => ?_) (fun q10 => ?_)))))))))
 ·refine Eu (Eq_ (Ew Z8 (Em rfl (Ey rfl ((Y.not (b := true) rfl).yd) (Em rfl (Em rfl (Ey rfl ((Y.len us_U8s rfl).yd) (Ey rfl ((a7b rfl rfl om om).yd) (Ey rfl ((Y.eql rfl rfl).yd) (n9 (fun q30 => ?_) (fun q30 => ?_)))))))))))
  ·refine Ey rfl ((u7 rfl rfl).yd) (Eu (o0 rfl (Ez Z4 (Em rfl (Est rfl (N.call (S4 fo) rfl rfl rfl dc rfl (fun w Lp hA => hA.ro hcode)) (fun b33 _ => ?_))))))
   have hbs := hcode
   refine Est rfl (N.call (pre := [_]) a1c rfl rfl rfl dc rfl (fun w Lp hA => hA.ro hbs)) (fun k34 o34 => ?_)
   obtain ⟨vb34, wb34, ⟨a34_0, m34_0, c34_0⟩, ⟨a34_1, m34_1, c34_1⟩⟩ := k34
   replace o34 : vb34.length ≤ 5 ∧ wb34.length ≤ 4 := o34
   try (conv => arg 4; dsimp only)
   try (conv => arg 5; dsimp only [List.cons_append, List.nil_append, List.append_nil])
   refine d4 m0 fun e34_0 l34_0 => ?_
   subst e34_0
   refine d4 (mS m0) fun e34_1 l34_1 => ?_
   subst e34_1
   refine l3 (Est rfl (Ns [_, _] ty_Binding rfl) (fun _ _ => (Eu (Eq_ (L5 (κ := Unit) (fun _ => True) (fun kM => [(2, .pointer (some ⟨b2, 0, none⟩)), (3, .slice a13_2 (fl13).length c13_2), (4, .slice a13_3 (hd13).length c13_3), (5, .pointer (some ⟨b5, 0, none⟩))]) (fun kM => [pt b5 39 [.slice a34_0 (vb34).length c34_0, .slice a34_1 (wb34).length c34_1], pt b2 27 [.slice a13_0 (hq13).length c13_0, .slice a13_1 (aq13).length c13_1], pt b9 39 [.slice a34_0 (vb34).length c34_0, .slice a34_1 (wb34).length c34_1], ow eIs [.slice a34_0 (vb34).length c34_0] vb34, ow eIs [.slice a34_1 (wb34).length c34_1] wb34, cur b33 a_code code.length c_code, ow eIs [.slice a21_0 ((s9 (j7 aq13 fl13) hq13 hd13).1).length c21_0] ((s9 (j7 aq13 fl13) hq13 hd13).1), ow eIs [.slice a21_1 ((s9 (j7 aq13 fl13) hq13 hd13).2).length c21_1] ((s9 (j7 aq13 fl13) hq13 hd13).2), pt b6 27 [.slice a13_0 (hq13).length c13_0, .slice a13_1 (aq13).length c13_1], ow eIs [.slice a13_0 (hq13).length c13_0] hq13, ow j8 [.slice a13_1 (aq13).length c13_1] aq13, ow u5 [.slice a13_2 (fl13).length c13_2] fl13, ow eIs [.slice a13_3 (hd13).length c13_3] hd13]) ?_ (fun kM _ => ?_))))))
   ·refine D5 [b9, b6] (fun j => true) mixed (G1 0 rfl rfl dc (H5 (cs := [_, _]) ty_Query rfl (D7.pt (mS (mS (mS (mS (mS (mS m0)))))) (by simp)) rfl) kr (t8 1 rfl rfl dc (i8 rfl) kr (t8 2 rfl rfl dc (i8 rfl) kr (G1 3 rfl rfl dc (H5 (cs := [_, _]) ty_Binding rfl (D7.pt m0 (by simp)) rfl) kr (C7 (x2 4 rfl rfl kr (fun _ _ => SameI.out) (Ns [_, _] ty_Query rfl) (fun _ _ => (t8 5 rfl rfl dc (C0 rfl) kr (t8 6 rfl rfl dc (C0 rfl) kr (C7 (x2 7 rfl rfl kr (fun _ _ => SameI.out) (Ns [_, _] ty_Binding rfl) (fun _ _ => (E8 kr (C7 (C7 (C7 (C7 (C7 (C7 (C7 (C7 (C7 (C7 (C7 (C7 (C7 ?_))))))))))))))))))))))))))
    exact E3 () trivial ⟨rfl, rfl, rfl, rfl, trivial⟩ (.refl _)
   ·show Ent _ _ _ [(2, .pointer (some ⟨b2, 0, none⟩)), (3, .slice a13_2 (fl13).length c13_2), (4, .slice a13_3 (hd13).length c13_3), (5, .pointer (some ⟨b5, 0, none⟩))] [pt b5 39 [.slice a34_0 (vb34).length c34_0, .slice a34_1 (wb34).length c34_1], pt b2 27 [.slice a13_0 (hq13).length c13_0, .slice a13_1 (aq13).length c13_1], pt b9 39 [.slice a34_0 (vb34).length c34_0, .slice a34_1 (wb34).length c34_1], ow eIs [.slice a34_0 (vb34).length c34_0] vb34, ow eIs [.slice a34_1 (wb34).length c34_1] wb34, cur b33 a_code code.length c_code, ow eIs [.slice a21_0 ((s9 (j7 aq13 fl13) hq13 hd13).1).length c21_0] ((s9 (j7 aq13 fl13) hq13 hd13).1), ow eIs [.slice a21_1 ((s9 (j7 aq13 fl13) hq13 hd13).2).length c21_1] ((s9 (j7 aq13 fl13) hq13 hd13).2), pt b6 27 [.slice a13_0 (hq13).length c13_0, .slice a13_1 (aq13).length c13_1], ow eIs [.slice a13_0 (hq13).length c13_0] hq13, ow j8 [.slice a13_1 (aq13).length c13_1] aq13, ow u5 [.slice a13_2 (fl13).length c13_2] fl13, ow eIs [.slice a13_3 (hd13).length c13_3] hd13] _
    refine Et (E.ret (i7 (i7 (C7 (C7 (C7 (C7 (n8 (n8 (n8 (n8 (n8 (n8 ?_)))))))))))))
    exact a7f br rfl rfl rfl rfl rfl (mS (mS (mS (mS (mS (mS (mS m0))))))) ty_Query rfl (mS (mS (mS (mS (mS (mS m0)))))) ty_Binding rfl (hq13, aq13, fl13, hd13, vb34, wb34, (_, _, _), (_, _, _), (_, _, _), (_, _, _), (_, _, _), (_, _, _)) (show dQ dT 3 3 hq13 aq13 ∧ (fl13.length ≤ 9 ∧ ∀ f ∈ fl13, 1 ≤ f.2.length ∧ f.2.length ≤ 4) ∧ hd13.length ≤ 3 ∧ vb34.length ≤ 1000 ∧ wb34.length ≤ 1000 from by first | exact ⟨o13.1, o13.2.1, o13.2.2, js⟩ | exact ⟨o13.1, o13.2.1, o13.2.2, by omega, by omega⟩) rfl (J := _) (.refl _) (.inl rfl)
  ·refine Ey rfl ((u7 rfl rfl).yd) (Eu (n0 rfl (f8 (Et (Eq_ (L5 (κ := Unit) (fun _ => True) (fun kM => [(2, .pointer (some ⟨b2, 0, none⟩)), (3, .slice a13_2 (fl13).length c13_2), (4, .slice a13_3 (hd13).length c13_3), (5, .pointer (some ⟨b5, 0, none⟩))]) (fun kM => [pt b5 39 [.slice a21_0 ((s9 (j7 aq13 fl13) hq13 hd13).1).length c21_0, .slice a21_1 ((s9 (j7 aq13 fl13) hq13 hd13).2).length c21_1], pt b2 27 [.slice a13_0 (hq13).length c13_0, .slice a13_1 (aq13).length c13_1], pt b9 39 [.slice a21_0 ((s9 (j7 aq13 fl13) hq13 hd13).1).length c21_0, .slice a21_1 ((s9 (j7 aq13 fl13) hq13 hd13).2).length c21_1], ow eIs [.slice a21_0 ((s9 (j7 aq13 fl13) hq13 hd13).1).length c21_0] ((s9 (j7 aq13 fl13) hq13 hd13).1), ow eIs [.slice a21_1 ((s9 (j7 aq13 fl13) hq13 hd13).2).length c21_1] ((s9 (j7 aq13 fl13) hq13 hd13).2), pt b6 27 [.slice a13_0 (hq13).length c13_0, .slice a13_1 (aq13).length c13_1], ow eIs [.slice a13_0 (hq13).length c13_0] hq13, ow j8 [.slice a13_1 (aq13).length c13_1] aq13, ow u5 [.slice a13_2 (fl13).length c13_2] fl13, ow eIs [.slice a13_3 (hd13).length c13_3] hd13]) ?_ (fun kM _ => ?_)))))))
   ·refine D5 [b9, b6] (fun j => true) mixed (G1 0 rfl rfl dc (H5 (cs := [_, _]) ty_Query rfl (D7.pt (mS (mS (mS m0))) (by simp)) rfl) kr (t8 1 rfl rfl dc (i8 rfl) kr (t8 2 rfl rfl dc (i8 rfl) kr (G1 3 rfl rfl dc (H5 (cs := [_, _]) ty_Binding rfl (D7.pt m0 (by simp)) rfl) kr (s7 (x2 4 rfl rfl kr (fun _ _ => SameI.out) (Ns [_, _] ty_Query rfl) (fun _ _ => (t8 5 rfl rfl dc (C0 rfl) kr (t8 6 rfl rfl dc (C0 rfl) kr (s7 (x2 7 rfl rfl kr (fun _ _ => SameI.out) (Ns [_, _] ty_Binding rfl) (fun _ _ => (E8 kr (s7 (s7 (s7 (s7 (s7 (s7 (s7 (s7 (s7 (s7 ?_)))))))))))))))))))))))
    exact E3 () trivial ⟨rfl, rfl, rfl, rfl, trivial⟩ (.refl _)
   ·show Ent _ _ _ [(2, .pointer (some ⟨b2, 0, none⟩)), (3, .slice a13_2 (fl13).length c13_2), (4, .slice a13_3 (hd13).length c13_3), (5, .pointer (some ⟨b5, 0, none⟩))] [pt b5 39 [.slice a21_0 ((s9 (j7 aq13 fl13) hq13 hd13).1).length c21_0, .slice a21_1 ((s9 (j7 aq13 fl13) hq13 hd13).2).length c21_1], pt b2 27 [.slice a13_0 (hq13).length c13_0, .slice a13_1 (aq13).length c13_1], pt b9 39 [.slice a21_0 ((s9 (j7 aq13 fl13) hq13 hd13).1).length c21_0, .slice a21_1 ((s9 (j7 aq13 fl13) hq13 hd13).2).length c21_1], ow eIs [.slice a21_0 ((s9 (j7 aq13 fl13) hq13 hd13).1).length c21_0] ((s9 (j7 aq13 fl13) hq13 hd13).1), ow eIs [.slice a21_1 ((s9 (j7 aq13 fl13) hq13 hd13).2).length c21_1] ((s9 (j7 aq13 fl13) hq13 hd13).2), pt b6 27 [.slice a13_0 (hq13).length c13_0, .slice a13_1 (aq13).length c13_1], ow eIs [.slice a13_0 (hq13).length c13_0] hq13, ow j8 [.slice a13_1 (aq13).length c13_1] aq13, ow u5 [.slice a13_2 (fl13).length c13_2] fl13, ow eIs [.slice a13_3 (hd13).length c13_3] hd13] _
    refine Et (E.ret (i7 (i7 (s7 (s7 (s7 (s7 (n8 (n8 (n8 (n8 (n8 (n8 ?_)))))))))))))
    exact a7f br rfl rfl rfl rfl rfl (mS (mS (mS (mS (mS (mS (mS m0))))))) ty_Query rfl (mS (mS (mS (mS (mS (mS m0)))))) ty_Binding rfl (hq13, aq13, fl13, hd13, (s9 (j7 aq13 fl13) hq13 hd13).1, (s9 (j7 aq13 fl13) hq13 hd13).2, (_, _, _), (_, _, _), (_, _, _), (_, _, _), (_, _, _), (_, _, _)) (show dQ dT 3 3 hq13 aq13 ∧ (fl13.length ≤ 9 ∧ ∀ f ∈ fl13, 1 ≤ f.2.length ∧ f.2.length ≤ 4) ∧ hd13.length ≤ 3 ∧ ((s9 (j7 aq13 fl13) hq13 hd13).1).length ≤ 1000 ∧ ((s9 (j7 aq13 fl13) hq13 hd13).2).length ≤ 1000 from by first | exact ⟨o13.1, o13.2.1, o13.2.2, js⟩ | exact ⟨o13.1, o13.2.1, o13.2.2, by omega, by omega⟩) rfl (J := _) (.refl _) (.inl rfl)
 ·refine Eu (Eq_ (Ew Z8 (Em rfl (Ey rfl ((Y.not (b := false) rfl).yd) (Em rfl (Es rfl (Es rfl (Es rfl (Es rfl (Ey rfl ((v8 rfl rfl).yd) (Eu (o0 rfl (Ez Z4 (Em rfl (Est rfl (N.call (S4 fo) rfl rfl rfl dc rfl (fun w Lp hA => hA.ro hcode)) (fun b33 _ => ?_))))))))))))))))
  have hbs := hcode
  refine Est rfl (N.call (pre := [_]) a1c rfl rfl rfl dc rfl (fun w Lp hA => hA.ro hbs)) (fun k34 o34 => ?_)
  obtain ⟨vb34, wb34, ⟨a34_0, m34_0, c34_0⟩, ⟨a34_1, m34_1, c34_1⟩⟩ := k34
  replace o34 : vb34.length ≤ 5 ∧ wb34.length ≤ 4 := o34
  try (conv => arg 4; dsimp only)
  try (conv => arg 5; dsimp only [List.cons_append, List.nil_append, List.append_nil])
  refine d4 m0 fun e34_0 l34_0 => ?_
  subst e34_0
  refine d4 (mS m0) fun e34_1 l34_1 => ?_
  subst e34_1
  refine l3 (Est rfl (Ns [_, _] ty_Binding rfl) (fun _ _ => (Eu (Eq_ (L5 (κ := Unit) (fun _ => True) (fun kM => [(2, .pointer (some ⟨b2, 0, none⟩)), (3, .slice a13_2 (fl13).length c13_2), (4, .slice a13_3 (hd13).length c13_3), (5, .pointer (some ⟨b5, 0, none⟩))]) (fun kM => [pt b5 39 [.slice a34_0 (vb34).length c34_0, .slice a34_1 (wb34).length c34_1], pt b2 27 [.slice a13_0 (hq13).length c13_0, .slice a13_1 (aq13).length c13_1], pt b9 39 [.slice a34_0 (vb34).length c34_0, .slice a34_1 (wb34).length c34_1], ow eIs [.slice a34_0 (vb34).length c34_0] vb34, ow eIs [.slice a34_1 (wb34).length c34_1] wb34, cur b33 a_code code.length c_code, ow eIs [.slice a21_0 ((s9 (j7 aq13 fl13) hq13 hd13).1).length c21_0] ((s9 (j7 aq13 fl13) hq13 hd13).1), ow eIs [.slice a21_1 ((s9 (j7 aq13 fl13) hq13 hd13).2).length c21_1] ((s9 (j7 aq13 fl13) hq13 hd13).2), pt b6 27 [.slice a13_0 (hq13).length c13_0, .slice a13_1 (aq13).length c13_1], ow eIs [.slice a13_0 (hq13).length c13_0] hq13, ow j8 [.slice a13_1 (aq13).length c13_1] aq13, ow u5 [.slice a13_2 (fl13).length c13_2] fl13, ow eIs [.slice a13_3 (hd13).length c13_3] hd13]) ?_ (fun kM _ => ?_))))))
  ·refine D5 [b9, b6] (fun j => true) mixed (G1 0 rfl rfl dc (H5 (cs := [_, _]) ty_Query rfl (D7.pt (mS (mS (mS (mS (mS (mS m0)))))) (by simp)) rfl) kr (t8 1 rfl rfl dc (i8 rfl) kr (t8 2 rfl rfl dc (i8 rfl) kr (G1 3 rfl rfl dc (H5 (cs := [_, _]) ty_Binding rfl (D7.pt m0 (by simp)) rfl) kr (C7 (x2 4 rfl rfl kr (fun _ _ => SameI.out) (Ns [_, _] ty_Query rfl) (fun _ _ => (t8 5 rfl rfl dc (C0 rfl) kr (t8 6 rfl rfl dc (C0 rfl) kr (C7 (x2 7 rfl rfl kr (fun _ _ => SameI.out) (Ns [_, _] ty_Binding rfl) (fun _ _ => (E8 kr (C7 (C7 (C7 (C7 (C7 (C7 (C7 (C7 (C7 (C7 (C7 (C7 (C7 ?_))))))))))))))))))))))))))
   exact E3 () trivial ⟨rfl, rfl, rfl, rfl, trivial⟩ (.refl _)
  ·show Ent _ _ _ [(2, .pointer (some ⟨b2, 0, none⟩)), (3, .slice a13_2 (fl13).length c13_2), (4, .slice a13_3 (hd13).length c13_3), (5, .pointer (some ⟨b5, 0, none⟩))] [pt b5 39 [.slice a34_0 (vb34).length c34_0, .slice a34_1 (wb34).length c34_1], pt b2 27 [.slice a13_0 (hq13).length c13_0, .slice a13_1 (aq13).length c13_1], pt b9 39 [.slice a34_0 (vb34).length c34_0, .slice a34_1 (wb34).length c34_1], ow eIs [.slice a34_0 (vb34).length c34_0] vb34, ow eIs [.slice a34_1 (wb34).length c34_1] wb34, cur b33 a_code code.length c_code, ow eIs [.slice a21_0 ((s9 (j7 aq13 fl13) hq13 hd13).1).length c21_0] ((s9 (j7 aq13 fl13) hq13 hd13).1), ow eIs [.slice a21_1 ((s9 (j7 aq13 fl13) hq13 hd13).2).length c21_1] ((s9 (j7 aq13 fl13) hq13 hd13).2), pt b6 27 [.slice a13_0 (hq13).length c13_0, .slice a13_1 (aq13).length c13_1], ow eIs [.slice a13_0 (hq13).length c13_0] hq13, ow j8 [.slice a13_1 (aq13).length c13_1] aq13, ow u5 [.slice a13_2 (fl13).length c13_2] fl13, ow eIs [.slice a13_3 (hd13).length c13_3] hd13] _
   refine Et (E.ret (i7 (i7 (C7 (C7 (C7 (C7 (n8 (n8 (n8 (n8 (n8 (n8 ?_)))))))))))))
   exact a7f br rfl rfl rfl rfl rfl (mS (mS (mS (mS (mS (mS (mS m0))))))) ty_Query rfl (mS (mS (mS (mS (mS (mS m0)))))) ty_Binding rfl (hq13, aq13, fl13, hd13, vb34, wb34, (_, _, _), (_, _, _), (_, _, _), (_, _, _), (_, _, _), (_, _, _)) (show dQ dT 3 3 hq13 aq13 ∧ (fl13.length ≤ 9 ∧ ∀ f ∈ fl13, 1 ≤ f.2.length ∧ f.2.length ≤ 4) ∧ hd13.length ≤ 3 ∧ vb34.length ≤ 1000 ∧ wb34.length ≤ 1000 from by first | exact ⟨o13.1, o13.2.1, o13.2.2, js⟩ | exact ⟨o13.1, o13.2.1, o13.2.2, by omega, by omega⟩) rfl (J := _) (.refl _) (.inl rfl)
theorem a1w {a : List Int} {b : List Int} : Tr Tryz.prog 17 [.slice a_a m_a c_a, .slice a_b m_b c_b] (fun w L => Ro w L eIs [.slice a_a m_a c_a] a ∧ Ro w L eIs [.slice a_b m_b c_b] b) [] (κ := Unit) (fun k => True) (fun k => .bool (decide (a = b))) (fun k => []) := by
 refine Tr.intro Tryz.func17 rfl (n := 26) rfl (by decide +kernel) bl (fr := [(0, .slice a_a m_a c_a), (1, .slice a_b m_b c_b)]) rfl fun w L hR => ?_
 obtain ⟨ha, hb⟩ := hR
 obtain ⟨rfl, la⟩ := ha.slen
 obtain ⟨rfl, lb⟩ := hb.slen
 refine Ew Z1 (Ei rfl (Eu (Eq_ (Ew Z5 (Em rfl (Ey rfl ((Y.len us_Is rfl).yd) (Em rfl (Ey rfl ((Y.len us_Is rfl).yd) (Ey rfl ((Y.neq rfl rfl).yd) (n9 (fun q10 => ?_) (fun q10 => ?_)))))))))))
 ·refine Eu (o0 rfl (Ew Z1 (Ei rfl ?_)))
  exact Eu (E.ret (o4 (Fb rfl rfl (by grind [d1, d2, t1, t2]))))
 ·refine Eu (n0 rfl (f8 (Et (Eq_ (Ew Z1 (Ei rfl (Eu (E.block (E.loop (κ := Nat) (fun g => g ≤ a.length ∧ a.length = b.length ∧ (a = b ↔ a.drop g = b.drop g)) (fun g => [(0, .slice a_a a.length c_a), (1, .slice a_b b.length c_b), (5, .int .i64 (g : Int))]) (fun g => []) (fun g => a.length - g) 0 ⟨Nat.zero_le _, by exact ⟨by omega, by simp⟩⟩ ⟨rfl, rfl, rfl, trivial⟩ (.refl _) (fun g pg => ?_))))))))))
  obtain ⟨pk, pa⟩ := pg
  refine Eq_ (Ew Z4 (Em rfl (Em rfl (Ey rfl ((Y.len us_Is rfl).yd) (Ey rfl ((Y.lss rfl rfl).yd) (n9 (fun q14 => ?_) (fun q14 => ?_)))))))
  ·refine Eu (o0 rfl (f8 (Et (Eq_ (E.block (Eq_ (D.region (fun j => true) mixed (Dyp 0 rfl (i8 rfl) (Dyp 1 rfl (i8 rfl) ?_)))))))))
   obtain ⟨eb19, eo19, ea19, ei19, eh19⟩ := ha.elemI g om
   refine Dyp 2 rfl (t6 us_Is f6 rfl ea19 rfl g rfl om) (Dy 3 rfl (f9 f6 rfl (eh19 _) rfl) (Dyp 4 rfl (i8 rfl) (Dyp 5 rfl (i8 rfl) ?_)))
   obtain ⟨eb23, eo23, ea23, ei23, eh23⟩ := hb.elemI g om
   refine Dyp 6 rfl (t6 us_Is f6 rfl ea23 rfl g rfl om) (Dy 7 rfl (f9 f6 rfl (eh23 _) rfl) (Dyp 8 rfl (Y.neq rfl rfl) (n9 (fun q25 => ?_) (fun q25 => ?_))))
   ·refine r7 kr (Et (o0 rfl (Ew Z1 (Ei rfl ?_))))
    exact Eu (E.ret (B0 (o4 (o4 (B0 (o4 (Fb rfl rfl (by grind [d1, d2, t1, t2]))))))))
   ·refine r7 kr (Et (n0 rfl (f8 (s4 (Et (Ez Z3 (Em rfl (Ey rfl ((Y.add rfl rfl om om).yd) (Ei rfl ?_)))))))))
    exact Eu (x3 br (g + 1) rs (.refl _) ⟨by omega, by grind [d1, d2, t1, t2]⟩ om)
  ·refine Eu (n0 rfl (E.exit (o3 (o3 (x5 (Et (Ew Z1 (Ei rfl ?_))))))))
   exact Eu (E.ret (Fb rfl rfl (by grind [d1, d2, t1, t2])))
theorem a6d {a : List (List Int)} {b : List (List Int)} : Tr Tryz.prog 11 [.slice a_a m_a c_a, .slice a_b m_b c_b] (fun w L => Ro w L P2 [.slice a_a m_a c_a] a ∧ Ro w L P2 [.slice a_b m_b c_b] b) [] (κ := Unit) (fun k => True) (fun k => .bool (a.all (fun x => b.any fun y => decide (x = y)))) (fun k => []) := by
 refine Tr.intro Tryz.func11 rfl (n := 34) rfl (by decide +kernel) bl (fr := [(0, .slice a_a m_a c_a), (1, .slice a_b m_b c_b)]) rfl fun w L hR => ?_
 obtain ⟨ha, hb⟩ := hR
 obtain ⟨rfl, la⟩ := ha.slen
 obtain ⟨rfl, lb⟩ := hb.slen
 refine Ew Z1 (Ei rfl (Eu (Eq_ (Ew Z1 (Ei rfl (Eu (E.block (E.loop (κ := Nat) (fun g => g ≤ a.length ∧ a.all (fun x => b.any fun y => decide (x = y)) = (a.drop g).all (fun x => b.any fun y => decide (x = y))) (fun g => [(0, .slice a_a a.length c_a), (1, .slice a_b b.length c_b), (5, .int .i64 (g : Int))]) (fun g => []) (fun g => a.length - g) 0 ⟨Nat.zero_le _, by simp⟩ ⟨rfl, rfl, rfl, trivial⟩ (.refl _) (fun g pg => ?_)))))))))
 obtain ⟨pk, pa⟩ := pg
 refine Eq_ (Ew Z4 (Em rfl (Em rfl (Ey rfl ((Y.len us_Iss rfl).yd) (Ey rfl ((Y.lss rfl rfl).yd) (n9 (fun q11 => ?_) (fun q11 => ?_)))))))
 ·refine Eu (o0 rfl (f8 (Et (Eq_ (E.block (Ew Z1 (Ei rfl (Eu (Eq_ (Ew Z1 (Ei rfl (Eu (E.block (E.loop (κ := Nat) (fun h => h ≤ b.length ∧ True) (fun h => [(0, .slice a_a a.length c_a), (1, .slice a_b b.length c_b), (5, .int .i64 (g : Int)), (6, .bool ((b.take h).any fun y => decide (a[g] = y))), (7, .int .i64 (h : Int))]) (fun h => []) (fun h => b.length - h) (0) ⟨Nat.zero_le _, by simp⟩ ⟨rfl, rfl, rfl, frB (by first | rfl | (simp; done) | grind [B9, d1, d2, t1, t2]), rfl, trivial⟩ (.refl _) (fun h ph => ?_)))))))))))))))
  try dsimp only
  obtain ⟨pk, pa⟩ := ph
  refine Eq_ (Ew Z4 (Em rfl (Em rfl (Ey rfl ((Y.len us_Iss rfl).yd) (Ey rfl ((Y.lss rfl rfl).yd) (n9 (fun q17 => ?_) (fun q17 => ?_)))))))
  ·refine Eu (o0 rfl (f8 (Et (Eq_ (E.block (D.region (fun j => true) mixed (Dyp 0 rfl (i8 rfl) (t7 (fun q20 => ?_) (fun q20 => ?_)))))))))
   ·refine Dyp 1 rfl (i8 rfl) (Dsk 2 rfl (Dsk 3 rfl (Dsk 4 rfl (Dsk 5 rfl (Dsk 6 rfl (Dsk 7 rfl (Dsk 8 rfl (Dsk 9 rfl (Dsk 10 rfl (Dyp 11 rfl (v8 rfl rfl) (Dyp 12 rfl (C0 rfl) (r7 kr (s4 (Et (Ez Z3 (Em rfl (Ey rfl ((Y.add rfl rfl om om).yd) (Ei rfl ?_))))))))))))))))))
    exact Eu (x3 br (h + 1) ⟨rfl, rfl, rfl, frB (by grind [B9, d1, d2, t1, t2]), rfl, trivial⟩ (.refl _) ⟨oz, trivial⟩ oz)
   ·refine Dyp 1 rfl (i8 rfl) (Dyp 2 rfl (i8 rfl) (Dyp 3 rfl (i8 rfl) ?_))
    obtain ⟨eb24, eo24, ec24, ea24, er24, el24, eh24⟩ := ha.elem g om
    obtain ⟨xa24, xc24, rfl⟩ := er24.sl
    have := er24.slen.2
    refine Dyp 4 rfl (t6 us_Iss ty_Is rfl ea24 rfl g rfl om) (Dy 5 rfl (f9 ty_Is rfl (eh24 _) rfl) (Dyp 6 rfl (i8 rfl) (Dyp 7 rfl (i8 rfl) ?_)))
    obtain ⟨eb28, eo28, ec28, ea28, er28, el28, eh28⟩ := hb.elem h om
    obtain ⟨xa28, xc28, rfl⟩ := er28.sl
    have := er28.slen.2
    refine Dyp 8 rfl (t6 us_Iss ty_Is rfl ea28 rfl h rfl om) (Dy 9 rfl (f9 ty_Is rfl (eh28 _) rfl) (r8 10 rfl rfl kr (fun _ => rfl) (m6 a1w rfl rfl rfl dc (fun w Lp hA => ⟨hA.ro er24, hA.ro er28⟩)) (fun _ _ => (Dyp 11 rfl (u7 rfl rfl) (Dyp 12 rfl (C0 rfl) (t7 (fun q6 => ?_) (fun q6 => ?_)))))))
    ·refine r7 kr (s4 (Et (Ez Z3 (Em rfl (Ey rfl ((Y.add rfl rfl om om).yd) (Ei rfl ?_))))))
     exact Eu (x3 br (h + 1) ⟨rfl, rfl, rfl, frB (by grind [B9, d1, d2, t1, t2]), rfl, trivial⟩ (.refl _) ⟨oz, trivial⟩ oz)
    ·refine r7 kr (s4 (Et (Ez Z3 (Em rfl (Ey rfl ((Y.add rfl rfl om om).yd) (Ei rfl ?_))))))
     exact Eu (x3 br (h + 1) ⟨rfl, rfl, rfl, frB (by grind [B9, d1, d2, t1, t2]), rfl, trivial⟩ (.refl _) ⟨oz, trivial⟩ oz)
  ·refine Eu (n0 rfl (E.exit (o3 (o3 (x5 (Et (Ew Z2 (Em rfl (t7 (fun q32 => ?_) (fun q32 => ?_))))))))))
   ·refine Ey rfl ((Y.not (b := true) rfl).yd) (Eu (n0 rfl (f8 (s4 (Et (Ez Z3 (Em rfl (Ey rfl ((Y.add rfl rfl om om).yd) (Ei rfl ?_)))))))))
    exact Eu (x3 br (g + 1) rs (.refl _) ⟨by omega, by grind [d1, d2, t1, t2]⟩ om)
   ·refine Ey rfl ((Y.not (b := false) rfl).yd) (Eu (o0 rfl (Ew Z1 (Ei rfl ?_))))
    exact Eu (E.ret (B0 (o4 (o4 (B0 (o4 (Fb rfl rfl (by grind [B9, d1, d2, t1, t2]))))))))
 ·refine Eu (n0 rfl (E.exit (o3 (o3 (x5 (Et (Ew Z1 (Ei rfl ?_))))))))
  exact Eu (E.ret (Fb rfl rfl (by grind [B9, d1, d2, t1, t2])))
theorem a3o {a2G : Option Addr} {a4m a2H : Nat} {a4P : List Int} {a1K : Option Addr} {a3s a1L : Nat} {Z0 : List (Int × List Int)} {a2I : Option Addr} {a4n a2J : Nat} {a4Q : List Int} {a1M : Option Addr} {a3t a1N : Nat} {a0X : List (Int × List Int)} : Tr Tryz.prog 23 [.agg #[.slice a2G a4m a2H, .slice a1K a3s a1L], .agg #[.slice a2I a4n a2J, .slice a1M a3t a1N]] (fun w L => Ro w L eIs [.slice a2G a4m a2H] a4P ∧ Ro w L j8 [.slice a1K a3s a1L] Z0 ∧ Ro w L eIs [.slice a2I a4n a2J] a4Q ∧ Ro w L j8 [.slice a1M a3t a1N] a0X) [] (κ := Unit) (fun k => True) (fun k => .bool (decide ((a4P, Z0) = (a4Q, a0X)))) (fun k => []) := by
 refine Tr.intro Tryz.func23 rfl (n := 57) rfl (by decide +kernel) bl (fr := [(0, .agg #[.slice a2G a4m a2H, .slice a1K a3s a1L]), (1, .agg #[.slice a2I a4n a2J, .slice a1M a3t a1N])]) rfl fun w L hR => ?_
 obtain ⟨a7I, a6Z, a7J, a7a⟩ := hR
 obtain ⟨rfl, b3m⟩ := a7I.slen
 obtain ⟨rfl, b3b⟩ := a6Z.slen
 obtain ⟨rfl, b3n⟩ := a7J.slen
 obtain ⟨rfl, b3c⟩ := a7a.slen
 refine Ew Z3 (Est rfl (N.box (cs := [_, _]) rfl dc rfl) (fun b2 _ => (Est rfl (N.box (cs := [_, _]) rfl dc rfl) (fun b3 _ => (Ei rfl (Eu (Eq_ (Ew Z15 (Ey rfl ((i0 fo_Query_0 ty_Is dc rfl).yd) (Ey rfl (f9 ty_Is rfl (Hz (mS m0) 0 rfl) rfl) (Ey rfl ((i0 fo_Query_0 ty_Is dc rfl).yd) (Ey rfl (f9 ty_Is rfl (Hz m0 0 rfl) rfl) (Est rfl (m6 V1 rfl rfl rfl dc (fun w Lp hA => ⟨hA.ro a7I, hA.ro a7J⟩)) (fun _ _ => (t7 (fun q10 => ?_) (fun q10 => ?_))))))))))))))))
 ·refine Ey rfl ((Y.not (b := true) rfl).yd) (Em rfl (Ey rfl ((i0 fo_Query_1 ty_Atoms dc rfl).yd) (Ey rfl (f9 ty_Atoms rfl (Hz (mS m0) 1 rfl) rfl) (Ey rfl ((Y.len us_Atoms rfl).yd) (Ey rfl ((i0 fo_Query_1 ty_Atoms dc rfl).yd) (Ey rfl (f9 ty_Atoms rfl (Hz m0 1 rfl) rfl) (Ey rfl ((Y.len us_Atoms rfl).yd) (Ey rfl ((Y.neq rfl rfl).yd) (n9 (fun q19 => ?_) (fun q19 => ?_))))))))))
  ·refine Ey rfl ((u7 rfl rfl).yd) (Eu (o0 rfl (Ew Z1 (Ei rfl ?_))))
   exact Eu (E.ret (o4 (Fb rfl rfl (by grind [d1, d2, t1, t2]))))
  ·refine Ey rfl ((u7 rfl rfl).yd) (Eu (n0 rfl (f8 (Et (Eq_ (Ew Z1 (Ei rfl (Eu (E.block (E.loop (κ := Nat) (fun g => g ≤ Z0.length ∧ a4P = a4Q ∧ Z0.length = a0X.length ∧ (Z0 = a0X ↔ Z0.drop g = a0X.drop g)) (fun g => [(2, .pointer (some ⟨b2, 0, none⟩)), (3, .pointer (some ⟨b3, 0, none⟩)), (5, .int .i64 (g : Int))]) (fun g => [pt b3 27 [.slice a2I a4Q.length a2J, .slice a1M a0X.length a1N], pt b2 27 [.slice a2G a4P.length a2H, .slice a1K Z0.length a1L]]) (fun g => Z0.length - g) 0 ⟨Nat.zero_le _, by exact ⟨of_decide_eq_true q10, by omega, by simp⟩⟩ ⟨rfl, rfl, rfl, trivial⟩ (.refl _) (fun g pg => ?_)))))))))))
   obtain ⟨pk, pa⟩ := pg
   refine Eq_ (Ew Z5 (Em rfl (Ey rfl ((i0 fo_Query_1 ty_Atoms dc rfl).yd) (Ey rfl (f9 ty_Atoms rfl (Hz (mS m0) 1 rfl) rfl) (Ey rfl ((Y.len us_Atoms rfl).yd) (Ey rfl ((Y.lss rfl rfl).yd) (n9 (fun q25 => ?_) (fun q25 => ?_))))))))
   ·refine Eu (o0 rfl (f8 (Et (Eq_ (E.block (Eq_ (D.region (fun j => true) mixed (Dyp 0 rfl (i0 fo_Query_1 ty_Atoms dc rfl) (Dy 1 rfl (f9 ty_Atoms rfl (Hz (mS m0) 1 rfl) rfl) (Dyp 2 rfl (i8 rfl) ?_))))))))))
    obtain ⟨eb31, eo31, ec31, ea31, er31, el31, eh31⟩ := a6Z.elem g om
    obtain ⟨xa31_0, xc31_0, rfl, ei31_0, xh31_0⟩ := J0 er31
    have := xh31_0.slen.2
    refine Dyp 3 rfl (t6 us_Atoms ty_Atom rfl ea31 rfl g rfl om) (Dyp 4 rfl (i0 fo_Atom_0 f6 dc rfl) (Dy 5 rfl (f9 f6 rfl ((eh31 _).sub (cs' := [_]) 0 rfl) rfl) (Dyp 6 rfl (i0 fo_Query_1 ty_Atoms dc rfl) (Dy 7 rfl (f9 ty_Atoms rfl (Hz m0 1 rfl) rfl) (Dyp 8 rfl (i8 rfl) ?_)))))
    obtain ⟨eb37, eo37, ec37, ea37, er37, el37, eh37⟩ := a7a.elem g om
    obtain ⟨xa37_0, xc37_0, rfl, ei37_0, xh37_0⟩ := J0 er37
    have := xh37_0.slen.2
    refine Dyp 9 rfl (t6 us_Atoms ty_Atom rfl ea37 rfl g rfl om) (Dyp 10 rfl (i0 fo_Atom_0 f6 dc rfl) (Dy 11 rfl (f9 f6 rfl ((eh37 _).sub (cs' := [_]) 0 rfl) rfl) (Dyp 12 rfl (Y.neq rfl rfl) (n9 (fun q40 => ?_) (fun q40 => ?_)))))
    ·refine Dyp 13 rfl (i8 rfl) (Dsk 14 rfl (Dsk 15 rfl (Dsk 16 rfl (Dsk 17 rfl (Dsk 18 rfl (Dsk 19 rfl (Dsk 20 rfl (Dsk 21 rfl (Dsk 22 rfl (Dsk 23 rfl (Dsk 24 rfl (Dsk 25 rfl (Dsk 26 rfl (Dsk 27 rfl (Dyp 28 rfl (v8 rfl rfl) (r7 kr (Et (o0 rfl (Ew Z1 (Ei rfl ?_))))))))))))))))))))
     exact Eu (E.ret (B0 (o4 (o4 (B0 (o4 (Fb rfl rfl (by grind [d1, d2, t1, t2]))))))))
    ·refine Dyp 13 rfl (i8 rfl) (Dyp 14 rfl (i0 fo_Query_1 ty_Atoms dc rfl) (Dy 15 rfl (f9 ty_Atoms rfl (Hz (mS m0) 1 rfl) rfl) (Dyp 16 rfl (i8 rfl) (Dyp 17 rfl (t6 us_Atoms ty_Atom rfl ea31 rfl g rfl om) (Dyp 18 rfl (i0 fo_Atom_1 ty_Is dc rfl) (Dy 19 rfl (f9 ty_Is rfl ((eh31 _).sub (cs' := [_]) 1 rfl) rfl) (Dyp 20 rfl (i0 fo_Query_1 ty_Atoms dc rfl) (Dy 21 rfl (f9 ty_Atoms rfl (Hz m0 1 rfl) rfl) (Dyp 22 rfl (i8 rfl) (Dyp 23 rfl (t6 us_Atoms ty_Atom rfl ea37 rfl g rfl om) (Dyp 24 rfl (i0 fo_Atom_1 ty_Is dc rfl) (Dy 25 rfl (f9 ty_Is rfl ((eh37 _).sub (cs' := [_]) 1 rfl) rfl) (r8 26 rfl rfl kr (fun _ => rfl) (m6 V1 rfl rfl rfl dc (fun w Lp hA => ⟨hA.ro xh31_0, hA.ro xh37_0⟩)) (fun _ _ => (t7 (fun q54 => ?_) (fun q54 => ?_))))))))))))))))
     ·refine Dyp 27 rfl (Y.not (b := true) rfl) (Dyp 28 rfl (u7 rfl rfl) (r7 kr (Et (n0 rfl (f8 (s4 (Et (Ez Z3 (Em rfl (Ey rfl ((Y.add rfl rfl om om).yd) (Ei rfl (Eu (d7 (d7 ?_))))))))))))))
      exact x3 br (g + 1) rs (.refl _) ⟨by omega, by grind [d1, d2, t1, t2]⟩ om
     ·refine Dyp 27 rfl (Y.not (b := false) rfl) (Dyp 28 rfl (u7 rfl rfl) (r7 kr (Et (o0 rfl (Ew Z1 (Ei rfl ?_))))))
      exact Eu (E.ret (B0 (o4 (o4 (B0 (o4 (Fb rfl rfl (by grind [d1, d2, t1, t2]))))))))
   ·refine Eu (n0 rfl (E.exit (o3 (o3 (x5 (Et (Ew Z1 (Ei rfl ?_))))))))
    exact Eu (E.ret (Fb rfl rfl (by grind [d1, d2, t1, t2])))
 ·refine Ey rfl ((Y.not (b := false) rfl).yd) (Em rfl (Es rfl (Es rfl (Es rfl (Es rfl (Es rfl (Es rfl (Es rfl (Ey rfl ((v8 rfl rfl).yd) (Eu (o0 rfl (Ew Z1 (Ei rfl ?_)))))))))))))
  exact Eu (E.ret (o4 (Fb rfl rfl (by grind [d1, d2, t1, t2]))))
end Go.Proofs.YtbedienpleiamaaGreat
