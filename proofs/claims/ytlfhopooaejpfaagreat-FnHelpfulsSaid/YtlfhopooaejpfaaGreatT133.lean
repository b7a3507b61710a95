import Derived.Test.YtlfhopooaejpfaaGreatT130
import Derived.Test.YtlfhopooaejpfaaGreatT128
namespace Go.Proofs.YtlfhopooaejpfaaGreat
open Go.RowKit
set_option linter.all false
set_option maxHeartbeats 2000000
attribute [local irreducible] Nop Yd Yp Ent Has Tr FnP FnP2 Src o6 d7 O0 a0h H2
variable {b_c m_b c_b m_code c_code : Nat} {a_b a_code : Option Addr}
theorem b0F {bs : List UInt8} : Tr Tryz.prog 140 [.pointer (some ⟨b_c, 0, none⟩)] (fun w L => Ro w L a0W [.slice a_b m_b c_b] bs) [cur b_c a_b m_b c_b] (κ := (List Int) × (List (Int × List Int × Int × Int × Int)) × (List Int) × (List (Int × List Int)) × (Option Addr × Nat × Nat) × (Option Addr × Nat × Nat) × (Option Addr × Nat × Nat) × Option Addr × Nat × Nat) (fun k => (1 ≤ k.1.length ∧ k.1.length ≤ 4) ∧ (k.2.1.length ≤ 5 ∧ ∀ m ∈ k.2.1, m.2.1.length ≤ 4) ∧ sQ k.2.2.1 k.2.2.2.1) (fun k => .tuple #[.slice k.2.2.2.2.1.1 k.2.2.2.2.1.2.1 k.2.2.2.2.1.2.2, .slice k.2.2.2.2.2.1.1 k.2.2.2.2.2.1.2.1 k.2.2.2.2.2.1.2.2, .agg #[.slice k.2.2.2.2.2.2.1.1 k.2.2.2.2.2.2.1.2.1 k.2.2.2.2.2.2.1.2.2, .slice k.2.2.2.2.2.2.2.1 k.2.2.2.2.2.2.2.2.1 k.2.2.2.2.2.2.2.2.2]]) (fun k => [ow eIs [.slice k.2.2.2.2.1.1 k.2.2.2.2.1.2.1 k.2.2.2.2.1.2.2] k.1, ow I4 [.slice k.2.2.2.2.2.1.1 k.2.2.2.2.2.1.2.1 k.2.2.2.2.2.1.2.2] k.2.1, ow eIs [.slice k.2.2.2.2.2.2.1.1 k.2.2.2.2.2.2.1.2.1 k.2.2.2.2.2.2.1.2.2] k.2.2.1, ow H9 [.slice k.2.2.2.2.2.2.2.1 k.2.2.2.2.2.2.2.2.1 k.2.2.2.2.2.2.2.2.2] k.2.2.2.1, cur b_c a_b m_b c_b]) := by
 refine Tr.intro Tryz.func140 rfl (n := 28) rfl (by decide +kernel) bl (fr := [(0, .pointer (some ⟨b_c, 0, none⟩))]) rfl fun w L hR => ?_
 have hbs := hR
 obtain ⟨rfl, lb⟩ := hbs.slen
 refine Ew Z3 (Ei rfl (Ei rfl (Est rfl (N.alloc ty_Query dc) (fun b4 _ => (Ev Z10 (Em rfl (d8 (Est rfl (N.call (pre := [_]) b1Y rfl rfl rfl dc rfl (fun w Lp hA => hA.ro hbs)) (fun k10 o10 => ?_)))))))))
 obtain ⟨xs10, ms10, hq10, aq10, ⟨a10_0, m10_0, c10_0⟩, ⟨a10_1, m10_1, c10_1⟩, ⟨a10_2, m10_2, c10_2⟩, ⟨a10_3, m10_3, c10_3⟩⟩ := k10
 replace o10 : (1 ≤ xs10.length ∧ xs10.length ≤ 4) ∧ (ms10.length ≤ 5 ∧ ∀ m ∈ ms10, m.2.1.length ≤ 4) ∧ dQ dT 3 3 hq10 aq10 := o10
 try (conv => arg 4; dsimp only)
 try (conv => arg 5; dsimp only [List.cons_append, List.nil_append, List.append_nil])
 refine d6 m0 fun e10_0 l10_0 => ?_
 subst e10_0
 refine d6 (mS m0) fun e10_1 l10_1 => ?_
 subst e10_1
 refine d6 (mS (mS m0)) fun e10_2 l10_2 => ?_
 subst e10_2
 refine d6 (mS (mS (mS m0))) fun e10_3 l10_3 => ?_
 subst e10_3
 refine Em rfl (Ey rfl ((Y.ext rfl rfl).yd) (Ey rfl ((Y.ext rfl rfl).yd) (Ey rfl ((Y.ext rfl rfl).yd) (Est rfl (N.alloc ty_Query dc) (fun b7 _ => (Ei rfl (Ei rfl (Est rfl (Ns [_, _] ty_Query rfl) (fun _ _ => (Eu (Eq_ (Ew Z6 (Em rfl (Est rfl (o4 O3 rfl rfl rfl dc (fun w Lp hA => hA.ow (mS m0))) (fun _ _ => (Ent.b (fun q15 => ?_) (fun q15 => ?_)))))))))))))))))
 ·refine Em rfl (Em rfl (B3 (Est rfl (N.call (pre := [_]) X6 rfl rfl rfl dc rfl (fun w Lp hA => hA.ro hbs)) (fun o18 o18 => ?_))))
  replace o18 : True := o18
  try (conv => arg 5; dsimp only [List.cons_append, List.nil_append, List.append_nil])
  refine Ent.b (fun q18 => ?_) (fun q18 => ?_)
  ·refine Ey rfl ((x6 rfl rfl).yd) (Eu (o0 rfl (Ew Z8 (Em rfl (Em rfl (Em rfl (Em rfl (Est rfl (N.call (pre := [_]) (u4 (a0N q15).1 (a0N q15).2.2) rfl rfl rfl dc rfl (fun w Lp hA => ⟨hA.ow (mS m0), hA.ro hbs⟩)) (fun k24 o24 => ?_)))))))))
   obtain ⟨hq24, aq24, ⟨a24_0, m24_0, c24_0⟩, ⟨a24_1, m24_1, c24_1⟩⟩ := k24
   replace o24 : sQ hq24 aq24 ∧ (∀ u, C8 u (hq24, aq24) = true → a3I aq24) := o24
   try (conv => arg 4; dsimp only)
   try (conv => arg 5; dsimp only [List.cons_append, List.nil_append, List.append_nil])
   refine d6 m0 fun e24_0 l24_0 => ?_
   subst e24_0
   refine d6 (mS m0) fun e24_1 l24_1 => ?_
   subst e24_1
   refine Ei rfl (Ei rfl (K6 (Est rfl (Ns [_, _] ty_Query rfl) (fun _ _ => (Eu (E.ret (s9 (j7 (j7 (v7 (v7 (B3 (n0 (n0 (n0 (n0 ?_))))))))))))))))
   exact a6J br rfl rfl rfl rfl (mS (mS (mS (mS (mS m0))))) ty_Query rfl (xs10, ms10, hq24, aq24, (_, _, _), (_, _, _), (_, _, _), (_, _, _)) (show (1 ≤ xs10.length ∧ xs10.length ≤ 4) ∧ (ms10.length ≤ 5 ∧ ∀ m ∈ ms10, m.2.1.length ≤ 4) ∧ sQ hq24 aq24 from by first | exact ⟨o10.1, o10.2.1, o24.1⟩ | exact ⟨o10.1, o10.2.1, o10.2.2.small⟩) rfl (J := _) (.refl _) (.inl rfl)
  ·refine Ey rfl ((x6 rfl rfl).yd) (Eu (n8 rfl (f9 (Et (Eq_ (D.region (fun j => !(Nat.beq j 5)) mixed (Dyp 0 rfl (k6 rfl) (Dyp 1 rfl (k6 rfl) (Dy 2 rfl (r9 (cs := [_, _]) ty_Query rfl (Has.pt (mS m0)) rfl) (Dyp 3 rfl (F1 rfl) (Dyp 4 rfl (F1 rfl) (v7 (u7 5 rfl rfl kr (fun h => by cases h) (Ns [_, _] ty_Query rfl) (fun _ _ => (t6 kr (Et (E.ret (v7 (v7 (v7 (v7 (B3 (n0 (n0 ?_))))))))))))))))))))))))
   refine n0 (n0 ?_)
   exact a6J br rfl rfl rfl rfl (mS (mS (mS (mS (mS m0))))) ty_Query rfl (xs10, ms10, hq10, aq10, (_, _, _), (_, _, _), (_, _, _), (_, _, _)) (show (1 ≤ xs10.length ∧ xs10.length ≤ 4) ∧ (ms10.length ≤ 5 ∧ ∀ m ∈ ms10, m.2.1.length ≤ 4) ∧ sQ hq10 aq10 from by first | exact ⟨o10.1, o10.2.1, o24.1⟩ | exact ⟨o10.1, o10.2.1, o10.2.2.small⟩) rfl (J := _) (.refl _) (.inl rfl)
 ·refine Em rfl (Es rfl (Es rfl (Ey rfl ((z7 rfl rfl).yd) (Eu (n8 rfl (f9 (Et (Eq_ (D.region (fun j => !(Nat.beq j 5)) mixed (Dyp 0 rfl (k6 rfl) (Dyp 1 rfl (k6 rfl) (Dy 2 rfl (r9 (cs := [_, _]) ty_Query rfl (Has.pt m0) rfl) (Dyp 3 rfl (F1 rfl) (Dyp 4 rfl (F1 rfl) (v7 (u7 5 rfl rfl kr (fun h => by cases h) (Ns [_, _] ty_Query rfl) (fun _ _ => (t6 kr (Et (E.ret (B3 (B3 (B3 (B3 ?_))))))))))))))))))))))))
  refine v7 (n0 (n0 (n0 (n0 ?_))))
  exact a6J br rfl rfl rfl rfl (mS (mS (mS (mS (mS m0))))) ty_Query rfl (xs10, ms10, hq10, aq10, (_, _, _), (_, _, _), (_, _, _), (_, _, _)) (show (1 ≤ xs10.length ∧ xs10.length ≤ 4) ∧ (ms10.length ≤ 5 ∧ ∀ m ∈ ms10, m.2.1.length ≤ 4) ∧ sQ hq10 aq10 from by first | exact ⟨o10.1, o10.2.1, o24.1⟩ | exact ⟨o10.1, o10.2.1, o10.2.2.small⟩) rfl (J := _) (.refl _) (.inl rfl)
theorem a5T {bs : List UInt8} : Tr Tryz.prog 78 [.pointer (some ⟨b_c, 0, none⟩)] (fun w L => Ro w L a0W [.slice a_b m_b c_b] bs) [cur b_c a_b m_b c_b] (κ := (List Int) × (List (Int × List Int × Int × Int × Int)) × (List (Int × Int × List Int)) × (List Int) × (List (Int × List Int)) × (Option Addr × Nat × Nat) × (Option Addr × Nat × Nat) × (Option Addr × Nat × Nat) × (Option Addr × Nat × Nat) × Option Addr × Nat × Nat) (fun k => (1 ≤ k.1.length ∧ k.1.length ≤ 4) ∧ (k.2.1.length ≤ 5 ∧ ∀ m ∈ k.2.1, m.2.1.length ≤ 4) ∧ (k.2.2.1.length ≤ 4 ∧ ∀ r ∈ k.2.2.1, r.2.2.length ≤ 4) ∧ sQ k.2.2.2.1 k.2.2.2.2.1) (fun k => .tuple #[.slice k.2.2.2.2.2.1.1 k.2.2.2.2.2.1.2.1 k.2.2.2.2.2.1.2.2, .slice k.2.2.2.2.2.2.1.1 k.2.2.2.2.2.2.1.2.1 k.2.2.2.2.2.2.1.2.2, .slice k.2.2.2.2.2.2.2.1.1 k.2.2.2.2.2.2.2.1.2.1 k.2.2.2.2.2.2.2.1.2.2, .agg #[.slice k.2.2.2.2.2.2.2.2.1.1 k.2.2.2.2.2.2.2.2.1.2.1 k.2.2.2.2.2.2.2.2.1.2.2, .slice k.2.2.2.2.2.2.2.2.2.1 k.2.2.2.2.2.2.2.2.2.2.1 k.2.2.2.2.2.2.2.2.2.2.2]]) (fun k => [ow eIs [.slice k.2.2.2.2.2.1.1 k.2.2.2.2.2.1.2.1 k.2.2.2.2.2.1.2.2] k.1, ow I4 [.slice k.2.2.2.2.2.2.1.1 k.2.2.2.2.2.2.1.2.1 k.2.2.2.2.2.2.1.2.2] k.2.1, ow G9 [.slice k.2.2.2.2.2.2.2.1.1 k.2.2.2.2.2.2.2.1.2.1 k.2.2.2.2.2.2.2.1.2.2] k.2.2.1, ow eIs [.slice k.2.2.2.2.2.2.2.2.1.1 k.2.2.2.2.2.2.2.2.1.2.1 k.2.2.2.2.2.2.2.2.1.2.2] k.2.2.2.1, ow H9 [.slice k.2.2.2.2.2.2.2.2.2.1 k.2.2.2.2.2.2.2.2.2.2.1 k.2.2.2.2.2.2.2.2.2.2.2] k.2.2.2.2.1, cur b_c a_b m_b c_b]) := by
 refine Tr.intro Tryz.func78 rfl (n := 34) rfl (by decide +kernel) bl (fr := [(0, .pointer (some ⟨b_c, 0, none⟩))]) rfl fun w L hR => ?_
 have hbs := hR
 obtain ⟨rfl, lb⟩ := hbs.slen
 refine Ew Z4 (Ei rfl (Ei rfl (Ei rfl (Est rfl (N.alloc ty_Query dc) (fun b5 _ => (Ev Z10 (Em rfl (d8 (Est rfl (N.call (pre := [_]) b0F rfl rfl rfl dc rfl (fun w Lp hA => hA.ro hbs)) (fun k12 o12 => ?_))))))))))
 obtain ⟨xs12, ms12, hq12, aq12, ⟨a12_0, m12_0, c12_0⟩, ⟨a12_1, m12_1, c12_1⟩, ⟨a12_2, m12_2, c12_2⟩, ⟨a12_3, m12_3, c12_3⟩⟩ := k12
 replace o12 : (1 ≤ xs12.length ∧ xs12.length ≤ 4) ∧ (ms12.length ≤ 5 ∧ ∀ m ∈ ms12, m.2.1.length ≤ 4) ∧ sQ hq12 aq12 := o12
 try (conv => arg 4; dsimp only)
 try (conv => arg 5; dsimp only [List.cons_append, List.nil_append, List.append_nil])
 refine d6 m0 fun e12_0 l12_0 => ?_
 subst e12_0
 refine d6 (mS m0) fun e12_1 l12_1 => ?_
 subst e12_1
 refine d6 (mS (mS m0)) fun e12_2 l12_2 => ?_
 subst e12_2
 refine d6 (mS (mS (mS m0))) fun e12_3 l12_3 => ?_
 subst e12_3
 refine Em rfl (Ey rfl ((Y.ext rfl rfl).yd) (Ey rfl ((Y.ext rfl rfl).yd) (Ey rfl ((Y.ext rfl rfl).yd) (Est rfl (N.alloc ty_Query dc) (fun b8 _ => (Ei rfl (Ei rfl (Est rfl (Ns [_, _] ty_Query rfl) (fun _ _ => (Ev Z2 (Est rfl (Nb [] [] us_Rules ty_Rule rfl rfl) (fun b16 _ => (Ent.drop (Ei rfl (Eu (Eq_ (Ew Z2 (Em rfl (Est rfl (o4 O3 rfl rfl rfl dc (fun w Lp hA => hA.ow (mS m0))) (fun _ _ => (Ent.b (fun q18 => ?_) (fun q18 => ?_))))))))))))))))))))))
 ·refine Eu (o0 rfl (Ez Z4 (Em rfl (Em rfl (B3 (Est rfl (N.call (pre := [_]) (a5f (a0N q18).1 (a0N q18).2.2 (a0N q18).2.1) rfl rfl rfl dc rfl (fun w Lp hA => ⟨hA.ow (mS m0), hA.ro hbs⟩)) (fun k21 o21 => ?_)))))))
  obtain ⟨rl21, ⟨a21, m21, c21⟩⟩ := k21
  replace o21 : rl21.length ≤ 3 ∧ ∀ r ∈ rl21, (0 ≤ r.1 ∧ r.1 ≤ 3) ∧ (0 ≤ r.2.1 ∧ r.2.1 ≤ 3) ∧ r.2.2.length ≤ 3 := o21
  try (conv => arg 4; dsimp only)
  try (conv => arg 5; dsimp only [List.cons_append, List.nil_append, List.append_nil])
  refine d6 m0 fun e21 l21 => ?_
  subst e21
  refine Ei rfl (Eu (Eq_ (Ew Z2 (Em rfl (d8 (Est rfl (N.call (pre := [_]) X6 rfl rfl rfl dc rfl (fun w Lp hA => hA.ro hbs)) (fun o23 o23 => ?_)))))))
  replace o23 : True := o23
  try (conv => arg 5; dsimp only [List.cons_append, List.nil_append, List.append_nil])
  refine Ent.b (fun q23 => ?_) (fun q23 => ?_)
  ·refine Eu (o0 rfl (Ez Z7 (Em rfl (Em rfl (Em rfl (Est rfl (N.call (pre := [_]) a4j rfl rfl rfl dc rfl (fun w Lp hA => ⟨hA.ow (mS (mS m0)), hA.ro hbs⟩)) (fun k27 o27 => ?_)))))))
   obtain ⟨rf27, rt27, rm27, ⟨a27, m27, c27⟩⟩ := k27
   replace o27 : (-10 ≤ rf27 ∧ rf27 ≤ 10) ∧ (-10 ≤ rt27 ∧ rt27 ≤ 10) ∧ rm27.length ≤ 4 := o27
   try (conv => arg 4; dsimp only)
   try (conv => arg 5; dsimp only [List.cons_append, List.nil_append, List.append_nil])
   refine d6 m0 fun e27 l27 => ?_
   subst e27
   refine Est rfl (Nb [_] [_, _, _] us_Rules ty_Rule rfl rfl) (fun b28 _ => (d8 (d8 (o2 (Est rfl (B2 (E := Y6) (ex := (rf27, rt27, rm27)) us_Rules ty_Rule rfl rfl rfl (a3D (x := (rf27, rt27, rm27)) i6 i6 Own.ow) rfl bn bn dc) (fun p29 _ => (Ei rfl (Eu (Eq_ (D.region (fun j => !(Nat.beq j 7)) mixed (Dyp 0 rfl (k6 rfl) (Dyp 1 rfl (k6 rfl) (Dyp 2 rfl (k6 rfl) (Dy 3 rfl (r9 (cs := [_, _]) ty_Query rfl (Has.pt (mS (mS m0))) rfl) (Dyp 4 rfl (F1 rfl) (Dyp 5 rfl (F1 rfl) (Dyp 6 rfl (F1 rfl) (D3 (u7 7 rfl rfl kr (fun h => by cases h) (Ns [_, _] ty_Query rfl) (fun _ _ => ?_))))))))))))))))))))
   refine t6 kr (Et (E.ret (D3 (D3 (o2 (D3 (D3 (v7 (B3 (B3 (B3 (B3 (B3 ?_)))))))))))))
   exact a6j br rfl rfl rfl rfl rfl (mS (mS (mS (mS (mS (mS m0)))))) ty_Query rfl (xs12, ms12, rl21 ++ [(rf27, rt27, rm27)], hq12, aq12, (_, _, _), (_, _, _), (_, _, _), (_, _, _), (_, _, _)) (show (1 ≤ xs12.length ∧ xs12.length ≤ 4) ∧ (ms12.length ≤ 5 ∧ ∀ m ∈ ms12, m.2.1.length ≤ 4) ∧ ((rl21 ++ [(rf27, rt27, rm27)]).length ≤ 4 ∧ ∀ r ∈ (rl21 ++ [(rf27, rt27, rm27)]), r.2.2.length ≤ 4) ∧ sQ hq12 aq12 from by first | exact ⟨o12.1, o12.2.1, a9u o21 o27.2.2, o12.2.2⟩ | exact ⟨o12.1, o12.2.1, b2d o21, o12.2.2⟩ | exact ⟨o12.1, o12.2.1, ⟨by simp, fun r hr => by simp at hr; rw [hr]; exact o27.2.2⟩, o12.2.2⟩ | exact ⟨o12.1, o12.2.1, ⟨by simp, fun r hr => by simp at hr⟩, o12.2.2⟩) rfl (J := _) (.refl _) (.inl rfl)
  ·refine Eu (n8 rfl (f9 (Et (Eq_ (D.region (fun j => !(Nat.beq j 7)) mixed (Dyp 0 rfl (k6 rfl) (Dyp 1 rfl (k6 rfl) (Dyp 2 rfl (k6 rfl) (Dy 3 rfl (r9 (cs := [_, _]) ty_Query rfl (Has.pt (mS (mS m0))) rfl) (Dyp 4 rfl (F1 rfl) (Dyp 5 rfl (F1 rfl) (Dyp 6 rfl (F1 rfl) (D3 (u7 7 rfl rfl kr (fun h => by cases h) (Ns [_, _] ty_Query rfl) (fun _ _ => (t6 kr (Et (E.ret (D3 (D3 (n0 (D3 (D3 (v7 ?_))))))))))))))))))))))))
   refine B3 (B3 (B3 (B3 (B3 ?_))))
   exact a6j br rfl rfl rfl rfl rfl (mS (mS (mS (mS (mS (mS m0)))))) ty_Query rfl (xs12, ms12, rl21, hq12, aq12, (_, _, _), (_, _, _), (_, _, _), (_, _, _), (_, _, _)) (show (1 ≤ xs12.length ∧ xs12.length ≤ 4) ∧ (ms12.length ≤ 5 ∧ ∀ m ∈ ms12, m.2.1.length ≤ 4) ∧ (rl21.length ≤ 4 ∧ ∀ r ∈ rl21, r.2.2.length ≤ 4) ∧ sQ hq12 aq12 from by first | exact ⟨o12.1, o12.2.1, a9u o21 o27.2.2, o12.2.2⟩ | exact ⟨o12.1, o12.2.1, b2d o21, o12.2.2⟩ | exact ⟨o12.1, o12.2.1, ⟨by simp, fun r hr => by simp at hr; rw [hr]; exact o27.2.2⟩, o12.2.2⟩ | exact ⟨o12.1, o12.2.1, ⟨by simp, fun r hr => by simp at hr⟩, o12.2.2⟩) rfl (J := _) (.refl _) (.inl rfl)
 ·refine Eu (n8 rfl (f9 (Et (Eq_ (Ew Z2 (Em rfl (B3 (Est rfl (N.call (pre := [_]) X6 rfl rfl rfl dc rfl (fun w Lp hA => hA.ro hbs)) (fun o23 o23 => ?_)))))))))
  replace o23 : True := o23
  try (conv => arg 5; dsimp only [List.cons_append, List.nil_append, List.append_nil])
  refine Ent.b (fun q23 => ?_) (fun q23 => ?_)
  ·refine Eu (o0 rfl (Ez Z7 (Em rfl (Em rfl (Em rfl (Est rfl (N.call (pre := [_]) a4j rfl rfl rfl dc rfl (fun w Lp hA => ⟨hA.ow (mS m0), hA.ro hbs⟩)) (fun k27 o27 => ?_)))))))
   obtain ⟨rf27, rt27, rm27, ⟨a27, m27, c27⟩⟩ := k27
   replace o27 : (-10 ≤ rf27 ∧ rf27 ≤ 10) ∧ (-10 ≤ rt27 ∧ rt27 ≤ 10) ∧ rm27.length ≤ 4 := o27
   try (conv => arg 4; dsimp only)
   try (conv => arg 5; dsimp only [List.cons_append, List.nil_append, List.append_nil])
   refine d6 m0 fun e27 l27 => ?_
   subst e27
   refine Est rfl (Nb [_] [_, _, _] us_Rules ty_Rule rfl rfl) (fun b28 _ => (s7 (A := []) (Own.nil (E := Y6) (e := tRule) (a := (some ⟨b16, 0, none⟩))) rfl (j7 (j7 (j7 (Est rfl (B2 (E := Y6) (ex := (rf27, rt27, rm27)) us_Rules ty_Rule rfl rfl rfl (a3D (x := (rf27, rt27, rm27)) i6 i6 Own.ow) rfl bn bn dc) (fun p29 _ => (Ei rfl (Eu (Eq_ (D.region (fun j => !(Nat.beq j 7)) mixed (Dyp 0 rfl (k6 rfl) (Dyp 1 rfl (k6 rfl) (Dyp 2 rfl (k6 rfl) (Dy 3 rfl (r9 (cs := [_, _]) ty_Query rfl (Has.pt (mS (mS m0))) rfl) (Dyp 4 rfl (F1 rfl) (Dyp 5 rfl (F1 rfl) (Dyp 6 rfl (F1 rfl) (D3 ?_)))))))))))))))))))
   refine u7 7 rfl rfl kr (fun h => by cases h) (Ns [_, _] ty_Query rfl) (fun _ _ => (t6 kr (Et (E.ret (D3 (D3 (o2 (D3 (D3 (v7 (B3 (B3 (B3 (B3 (B3 ?_)))))))))))))))
   exact a6j br rfl rfl rfl rfl rfl (mS (mS (mS (mS (mS (mS m0)))))) ty_Query rfl (xs12, ms12, [] ++ [(rf27, rt27, rm27)], hq12, aq12, (_, _, _), (_, _, _), (_, _, _), (_, _, _), (_, _, _)) (show (1 ≤ xs12.length ∧ xs12.length ≤ 4) ∧ (ms12.length ≤ 5 ∧ ∀ m ∈ ms12, m.2.1.length ≤ 4) ∧ (([] ++ [(rf27, rt27, rm27)] : List (Int × Int × List Int)).length ≤ 4 ∧ ∀ r ∈ ([] ++ [(rf27, rt27, rm27)] : List (Int × Int × List Int)), r.2.2.length ≤ 4) ∧ sQ hq12 aq12 from by first | exact ⟨o12.1, o12.2.1, a9u o21 o27.2.2, o12.2.2⟩ | exact ⟨o12.1, o12.2.1, b2d o21, o12.2.2⟩ | exact ⟨o12.1, o12.2.1, ⟨by simp, fun r hr => by simp at hr; rw [hr]; exact o27.2.2⟩, o12.2.2⟩ | exact ⟨o12.1, o12.2.1, ⟨by simp, fun r hr => by simp at hr⟩, o12.2.2⟩) rfl (J := _) (.refl _) (.inl rfl)
  ·refine Eu (n8 rfl (f9 (Et (Eq_ (D.region (fun j => !(Nat.beq j 7)) mixed (Dyp 0 rfl (k6 rfl) (Dyp 1 rfl (k6 rfl) (Dyp 2 rfl (k6 rfl) (Dy 3 rfl (r9 (cs := [_, _]) ty_Query rfl (Has.pt (mS m0)) rfl) (Dyp 4 rfl (F1 rfl) (Dyp 5 rfl (F1 rfl) (Dyp 6 rfl (F1 rfl) (v7 (u7 7 rfl rfl kr (fun h => by cases h) (Ns [_, _] ty_Query rfl) (fun _ _ => (t6 kr (Et (E.ret (v7 (v7 (s7 (A := []) (Own.nil (E := Y6) (e := tRule) (a := (some ⟨b16, 0, none⟩))) rfl (D3 (D3 (v7 ?_))))))))))))))))))))))))
   refine B3 (B3 (B3 (B3 (B3 ?_))))
   exact a6j br rfl rfl rfl rfl rfl (mS (mS (mS (mS (mS (mS m0)))))) ty_Query rfl (xs12, ms12, [], hq12, aq12, (_, _, _), (_, _, _), ((some ⟨b16, 0, none⟩), 0, 0), (_, _, _), (_, _, _)) (show (1 ≤ xs12.length ∧ xs12.length ≤ 4) ∧ (ms12.length ≤ 5 ∧ ∀ m ∈ ms12, m.2.1.length ≤ 4) ∧ (([] : List (Int × Int × List Int)).length ≤ 4 ∧ ∀ r ∈ ([] : List (Int × Int × List Int)), r.2.2.length ≤ 4) ∧ sQ hq12 aq12 from by first | exact ⟨o12.1, o12.2.1, a9u o21 o27.2.2, o12.2.2⟩ | exact ⟨o12.1, o12.2.1, b2d o21, o12.2.2⟩ | exact ⟨o12.1, o12.2.1, ⟨by simp, fun r hr => by simp at hr; rw [hr]; exact o27.2.2⟩, o12.2.2⟩ | exact ⟨o12.1, o12.2.1, ⟨by simp, fun r hr => by simp at hr⟩, o12.2.2⟩) rfl (J := _) (.refl _) (.inl rfl)
theorem a4Y {code : List UInt8} (hcl : code.length ≤ 1048576) : Tr Tryz.prog 25 [.slice a_code m_code c_code] (fun w L => Ro w L a0W [.slice a_code m_code c_code] code) [] (κ := (List Int) × (List (Int × List Int × Int × Int × Int)) × (List (Int × Int × List Int)) × (List Int) × (List (Int × List Int)) × (Option Addr × Nat × Nat) × (Option Addr × Nat × Nat) × (Option Addr × Nat × Nat) × (Option Addr × Nat × Nat) × Option Addr × Nat × Nat) (fun k => (1 ≤ k.1.length ∧ k.1.length ≤ 4) ∧ (k.2.1.length ≤ 5 ∧ ∀ m ∈ k.2.1, m.2.1.length ≤ 4) ∧ (k.2.2.1.length ≤ 4 ∧ ∀ r ∈ k.2.2.1, r.2.2.length ≤ 4) ∧ sQ k.2.2.2.1 k.2.2.2.2.1) (fun k => .tuple #[.slice k.2.2.2.2.2.1.1 k.2.2.2.2.2.1.2.1 k.2.2.2.2.2.1.2.2, .slice k.2.2.2.2.2.2.1.1 k.2.2.2.2.2.2.1.2.1 k.2.2.2.2.2.2.1.2.2, .slice k.2.2.2.2.2.2.2.1.1 k.2.2.2.2.2.2.2.1.2.1 k.2.2.2.2.2.2.2.1.2.2, .agg #[.slice k.2.2.2.2.2.2.2.2.1.1 k.2.2.2.2.2.2.2.2.1.2.1 k.2.2.2.2.2.2.2.2.1.2.2, .slice k.2.2.2.2.2.2.2.2.2.1 k.2.2.2.2.2.2.2.2.2.2.1 k.2.2.2.2.2.2.2.2.2.2.2]]) (fun k => [ow eIs [.slice k.2.2.2.2.2.1.1 k.2.2.2.2.2.1.2.1 k.2.2.2.2.2.1.2.2] k.1, ow I4 [.slice k.2.2.2.2.2.2.1.1 k.2.2.2.2.2.2.1.2.1 k.2.2.2.2.2.2.1.2.2] k.2.1, ow G9 [.slice k.2.2.2.2.2.2.2.1.1 k.2.2.2.2.2.2.2.1.2.1 k.2.2.2.2.2.2.2.1.2.2] k.2.2.1, ow eIs [.slice k.2.2.2.2.2.2.2.2.1.1 k.2.2.2.2.2.2.2.2.1.2.1 k.2.2.2.2.2.2.2.2.1.2.2] k.2.2.2.1, ow H9 [.slice k.2.2.2.2.2.2.2.2.2.1 k.2.2.2.2.2.2.2.2.2.2.1 k.2.2.2.2.2.2.2.2.2.2.2] k.2.2.2.2.1]) := by
 refine Tr.intro Tryz.func25 rfl (n := 22) rfl (by decide +kernel) bl (fr := [(0, .slice a_code m_code c_code)]) rfl fun w L hR => ?_
 have hcode := hR
 obtain ⟨rfl, lcode⟩ := hcode.slen
 refine Ew Z4 (Ei rfl (Ei rfl (Ei rfl (Est rfl (N.alloc ty_Query dc) (fun b5 _ => (Ev Z13 (Em rfl (Est rfl (N.call (a7I fc) rfl rfl rfl dc rfl (fun w Lp hA => hA.ro hcode)) (fun b12 _ => ?_)))))))))
 have hbs := hcode
 refine Est rfl (N.call (pre := [_]) a5T rfl rfl rfl dc rfl (fun w Lp hA => hA.ro hbs)) (fun k13 o13 => ?_)
 obtain ⟨xs13, ms13, rl13, hq13, aq13, ⟨a13_0, m13_0, c13_0⟩, ⟨a13_1, m13_1, c13_1⟩, ⟨a13_2, m13_2, c13_2⟩, ⟨a13_3, m13_3, c13_3⟩, ⟨a13_4, m13_4, c13_4⟩⟩ := k13
 replace o13 : (1 ≤ xs13.length ∧ xs13.length ≤ 4) ∧ (ms13.length ≤ 5 ∧ ∀ m ∈ ms13, m.2.1.length ≤ 4) ∧ (rl13.length ≤ 4 ∧ ∀ r ∈ rl13, r.2.2.length ≤ 4) ∧ sQ hq13 aq13 := o13
 try (conv => arg 4; dsimp only)
 try (conv => arg 5; dsimp only [List.cons_append, List.nil_append, List.append_nil])
 refine d6 m0 fun e13_0 l13_0 => ?_
 subst e13_0
 refine d6 (mS m0) fun e13_1 l13_1 => ?_
 subst e13_1
 refine d6 (mS (mS m0)) fun e13_2 l13_2 => ?_
 subst e13_2
 refine d6 (mS (mS (mS m0))) fun e13_3 l13_3 => ?_
 subst e13_3
 refine d6 (mS (mS (mS (mS m0)))) fun e13_4 l13_4 => ?_
 subst e13_4
 refine Em rfl (Ey rfl ((Y.ext rfl rfl).yd) (Ey rfl ((Y.ext rfl rfl).yd) (Ey rfl ((Y.ext rfl rfl).yd) (Ey rfl ((Y.ext rfl rfl).yd) (Est rfl (N.alloc ty_Query dc) (fun b9 _ => (Ei rfl (Ei rfl (Ei rfl (Est rfl (Ns [_, _] ty_Query rfl) (fun _ _ => (Eu (Eq_ (D.region (fun j => !(Nat.beq j 7)) mixed (Dyp 0 rfl (k6 rfl) (Dyp 1 rfl (k6 rfl) (Dyp 2 rfl (k6 rfl) (Dy 3 rfl (r9 (cs := [_, _]) ty_Query rfl (Has.pt m0) rfl) (Dyp 4 rfl (F1 rfl) ?_)))))))))))))))))))
 refine Dyp 5 rfl (F1 rfl) (Dyp 6 rfl (F1 rfl) (D3 (u7 7 rfl rfl kr (fun h => by cases h) (Ns [_, _] ty_Query rfl) (fun _ _ => (t6 kr (Et (E.ret (v7 (v7 (v7 (v7 (v7 (n0 (n0 (n0 (n0 (n0 ?_)))))))))))))))))
 exact a6j br rfl rfl rfl rfl rfl (mS (mS (mS (mS (mS m0))))) ty_Query rfl (xs13, ms13, rl13, hq13, aq13, (_, _, _), (_, _, _), (_, _, _), (_, _, _), (_, _, _)) (show (1 ≤ xs13.length ∧ xs13.length ≤ 4) ∧ (ms13.length ≤ 5 ∧ ∀ m ∈ ms13, m.2.1.length ≤ 4) ∧ (rl13.length ≤ 4 ∧ ∀ r ∈ rl13, r.2.2.length ≤ 4) ∧ sQ hq13 aq13 from by exact o13) rfl (J := _) (.refl _) (.inl rfl)
theorem a1T {code : List UInt8} (hcl : code.length ≤ 1048576) : Tr Tryz.prog 34 [.slice a_code m_code c_code] (fun w L => Ro w L a0W [.slice a_code m_code c_code] code) [] (κ := (List Int) × (List (Int × List Int × Int × Int × Int)) × (List (Int × Int × List Int)) × (List Int) × (List (Int × List Int)) × (Option Addr × Nat × Nat) × (Option Addr × Nat × Nat) × (Option Addr × Nat × Nat) × (Option Addr × Nat × Nat) × Option Addr × Nat × Nat) (fun k => (1 ≤ k.1.length ∧ k.1.length ≤ 4) ∧ (k.2.1.length ≤ 5 ∧ ∀ m ∈ k.2.1, m.2.1.length ≤ 4) ∧ (k.2.2.1.length ≤ 4 ∧ ∀ r ∈ k.2.2.1, r.2.2.length ≤ 4) ∧ sQ k.2.2.2.1 k.2.2.2.2.1) (fun k => .tuple #[.slice k.2.2.2.2.2.1.1 k.2.2.2.2.2.1.2.1 k.2.2.2.2.2.1.2.2, .slice k.2.2.2.2.2.2.1.1 k.2.2.2.2.2.2.1.2.1 k.2.2.2.2.2.2.1.2.2, .slice k.2.2.2.2.2.2.2.1.1 k.2.2.2.2.2.2.2.1.2.1 k.2.2.2.2.2.2.2.1.2.2, .agg #[.slice k.2.2.2.2.2.2.2.2.1.1 k.2.2.2.2.2.2.2.2.1.2.1 k.2.2.2.2.2.2.2.2.1.2.2, .slice k.2.2.2.2.2.2.2.2.2.1 k.2.2.2.2.2.2.2.2.2.2.1 k.2.2.2.2.2.2.2.2.2.2.2]]) (fun k => [ow eIs [.slice k.2.2.2.2.2.1.1 k.2.2.2.2.2.1.2.1 k.2.2.2.2.2.1.2.2] k.1, ow I4 [.slice k.2.2.2.2.2.2.1.1 k.2.2.2.2.2.2.1.2.1 k.2.2.2.2.2.2.1.2.2] k.2.1, ow G9 [.slice k.2.2.2.2.2.2.2.1.1 k.2.2.2.2.2.2.2.1.2.1 k.2.2.2.2.2.2.2.1.2.2] k.2.2.1, ow eIs [.slice k.2.2.2.2.2.2.2.2.1.1 k.2.2.2.2.2.2.2.2.1.2.1 k.2.2.2.2.2.2.2.2.1.2.2] k.2.2.2.1, ow H9 [.slice k.2.2.2.2.2.2.2.2.2.1 k.2.2.2.2.2.2.2.2.2.2.1 k.2.2.2.2.2.2.2.2.2.2.2] k.2.2.2.2.1]) := by
 refine Tr.intro Tryz.func34 rfl (n := 22) rfl (by decide +kernel) bl (fr := [(0, .slice a_code m_code c_code)]) rfl fun w L hR => ?_
 have hcode := hR
 obtain ⟨rfl, lcode⟩ := hcode.slen
 refine Ew Z4 (Ei rfl (Ei rfl (Ei rfl (Est rfl (N.alloc ty_Query dc) (fun b5 _ => (Ev Z13 (Em rfl (Est rfl (N.call (a7I fc) rfl rfl rfl dc rfl (fun w Lp hA => hA.ro hcode)) (fun b12 _ => ?_)))))))))
 have hbs := hcode
 refine Est rfl (N.call (pre := [_]) a5T rfl rfl rfl dc rfl (fun w Lp hA => hA.ro hbs)) (fun k13 o13 => ?_)
 obtain ⟨xs13, ms13, rl13, hq13, aq13, ⟨a13_0, m13_0, c13_0⟩, ⟨a13_1, m13_1, c13_1⟩, ⟨a13_2, m13_2, c13_2⟩, ⟨a13_3, m13_3, c13_3⟩, ⟨a13_4, m13_4, c13_4⟩⟩ := k13
 replace o13 : (1 ≤ xs13.length ∧ xs13.length ≤ 4) ∧ (ms13.length ≤ 5 ∧ ∀ m ∈ ms13, m.2.1.length ≤ 4) ∧ (rl13.length ≤ 4 ∧ ∀ r ∈ rl13, r.2.2.length ≤ 4) ∧ sQ hq13 aq13 := o13
 try (conv => arg 4; dsimp only)
 try (conv => arg 5; dsimp only [List.cons_append, List.nil_append, List.append_nil])
 refine d6 m0 fun e13_0 l13_0 => ?_
 subst e13_0
 refine d6 (mS m0) fun e13_1 l13_1 => ?_
 subst e13_1
 refine d6 (mS (mS m0)) fun e13_2 l13_2 => ?_
 subst e13_2
 refine d6 (mS (mS (mS m0))) fun e13_3 l13_3 => ?_
 subst e13_3
 refine d6 (mS (mS (mS (mS m0)))) fun e13_4 l13_4 => ?_
 subst e13_4
 refine Em rfl (Ey rfl ((Y.ext rfl rfl).yd) (Ey rfl ((Y.ext rfl rfl).yd) (Ey rfl ((Y.ext rfl rfl).yd) (Ey rfl ((Y.ext rfl rfl).yd) (Est rfl (N.alloc ty_Query dc) (fun b9 _ => (Ei rfl (Ei rfl (Ei rfl (Est rfl (Ns [_, _] ty_Query rfl) (fun _ _ => (Eu (Eq_ (D.region (fun j => !(Nat.beq j 7)) mixed (Dyp 0 rfl (k6 rfl) (Dyp 1 rfl (k6 rfl) (Dyp 2 rfl (k6 rfl) (Dy 3 rfl (r9 (cs := [_, _]) ty_Query rfl (Has.pt m0) rfl) (Dyp 4 rfl (F1 rfl) ?_)))))))))))))))))))
 refine Dyp 5 rfl (F1 rfl) (Dyp 6 rfl (F1 rfl) (D3 (u7 7 rfl rfl kr (fun h => by cases h) (Ns [_, _] ty_Query rfl) (fun _ _ => (t6 kr (Et (E.ret (v7 (v7 (v7 (v7 (v7 (n0 (n0 (n0 (n0 (n0 ?_)))))))))))))))))
 exact a6j br rfl rfl rfl rfl rfl (mS (mS (mS (mS (mS m0))))) ty_Query rfl (xs13, ms13, rl13, hq13, aq13, (_, _, _), (_, _, _), (_, _, _), (_, _, _), (_, _, _)) (show (1 ≤ xs13.length ∧ xs13.length ≤ 4) ∧ (ms13.length ≤ 5 ∧ ∀ m ∈ ms13, m.2.1.length ≤ 4) ∧ (rl13.length ≤ 4 ∧ ∀ r ∈ rl13, r.2.2.length ≤ 4) ∧ sQ hq13 aq13 from by exact o13) rfl (J := _) (.refl _) (.inl rfl)
end Go.Proofs.YtlfhopooaejpfaaGreat
