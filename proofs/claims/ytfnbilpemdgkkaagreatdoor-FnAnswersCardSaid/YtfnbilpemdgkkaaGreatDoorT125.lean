import Derived.Test.YtfnbilpemdgkkaaGreatDoorT121
import Derived.Test.YtfnbilpemdgkkaaGreatDoorHk
import Derived.Test.YtfnbilpemdgkkaaGreatDoorHd
import Derived.Test.YtfnbilpemdgkkaaGreatDoorHj
import Derived.Test.YtfnbilpemdgkkaaGreatDoorT19
namespace Go.Proofs.YtfnbilpemdgkkaaGreatDoor
open Go.RowKit
set_option linter.all false
set_option maxHeartbeats 2000000
attribute [local irreducible] Nop Yd Yp Ent Has Tr FnP FnP2 Src J8 P6 S7 U6 E7
variable {m_code c_code : Nat} {a_code : Option Addr}
theorem R0 {b_c : Nat} {a_b : Option Addr} {m_b c_b : Nat} {bs : List UInt8} : Tr Tryz.prog 81 [.pointer (some ⟨b_c, 0, none⟩)] (fun w L => Ro w L J3 [.slice a_b m_b c_b] bs) [cur b_c a_b m_b c_b] (κ := (List (List Int)) × Option Addr × Nat × Nat) (fun k => k.1.length ≤ 4 ∧ ∀ t ∈ k.1, t.length = 2) (fun k => .slice k.2.1 k.2.2.1 k.2.2.2) (fun k => [ow B2 [.slice k.2.1 k.2.2.1 k.2.2.2] k.1, cur b_c a_b m_b c_b]) := by
 refine Tr.intro Tryz.func81 rfl (n := 22) rfl (by decide +kernel) bl (fr := [(0, .pointer (some ⟨b_c, 0, none⟩))]) rfl fun w L hR => ?_
 have hbs := hR
 obtain ⟨rfl, lb⟩ := hbs.slen
 refine Ew Z1 (Ei rfl (Ev Z2 (Est rfl (Nb [] [] us_Iss ty_Is rfl rfl) (fun b6 _ => (Ent.drop (Ei rfl (Eu (Eq_ (Ew Z3 (Em rfl (Est rfl (N.call (pre := [_]) v8 rfl rfl rfl dc rfl (fun w Lp hA => hA.ro hbs)) (fun x8 o8 => ?_))))))))))))
 replace o8 : 0 ≤ x8 ∧ ((5 : Int) ≤ 0 → x8 = 0) ∧ (0 < (5 : Int) → x8 < (5 : Int)) := o8
 try (conv => arg 5; dsimp only [List.cons_append, List.nil_append, List.append_nil])
 refine Ei rfl (Eu (E.block (l3 (A := []) (Own.nil (E := eIs) (e := tIs) (a := (some ⟨b6, 0, none⟩))) rfl (E.loop (κ := Nat × (List (List Int)) × Option Addr × Nat × Nat) (fun g => g.1 ≤ (x8).toNat ∧ g.2.1.length ≤ g.1 ∧ ∀ t ∈ g.2.1, t.length = 2) (fun g => [(0, .pointer (some ⟨b_c, 0, none⟩)), (3, .slice g.2.2.1 g.2.2.2.1 g.2.2.2.2), (4, .int .i64 (x8 - (↑g.1 : Int)))]) (fun g => [ow B2 [.slice g.2.2.1 g.2.2.2.1 g.2.2.2.2] g.2.1, cur b_c a_b bs.length c_b]) (fun g => (x8).toNat - g.1) (0, [], (some ⟨b6, 0, none⟩), 0, 0) ⟨Nat.zero_le _, by simp⟩ ⟨rfl, rfl, frI om, trivial⟩ (.refl _) (fun g pg => ?_)))))
 obtain ⟨g, ys, aA0_0, mA0_0, cA0_0⟩ := g
 try dsimp only at pg
 try dsimp only
 obtain ⟨pk, pa⟩ := pg
 refine f0 m0 fun eaA0_0 laA0_0 => ?_
 subst eaA0_0
 refine Eq_ (Ew Z2 (Em rfl (Ey rfl ((Y.gtr rfl rfl).yd) (j4 (fun q10 => ?_) (fun q10 => ?_)))))
 ·refine Eu (j9 rfl (f5 (Et (Eq_ (E.block (Ew Z3 (Em rfl (d7 (Est rfl (N.call (pre := [_]) v8 rfl rfl rfl dc rfl (fun w Lp hA => hA.ro hbs)) (fun x14 o14 => ?_))))))))))
  replace o14 : 0 ≤ x14 ∧ ((3 : Int) ≤ 0 → x14 = 0) ∧ (0 < (3 : Int) → x14 < (3 : Int)) := o14
  try (conv => arg 5; dsimp only [List.cons_append, List.nil_append, List.append_nil])
  refine Ei rfl (Eu (Ez Z7 (Em rfl (Em rfl (Em rfl (Est rfl (N.call (pre := [_]) v8 rfl rfl rfl dc rfl (fun w Lp hA => hA.ro hbs)) (fun x18 o18 => ?_)))))))
  replace o18 : 0 ≤ x18 ∧ ((3 : Int) ≤ 0 → x18 = 0) ∧ (0 < (3 : Int) → x18 < (3 : Int)) := o18
  try (conv => arg 5; dsimp only [List.cons_append, List.nil_append, List.append_nil])
  refine Est rfl (Nb [_, _] [_, _] us_Is d9 rfl rfl) (fun b19 _ => (l3 (A := [_]) (Own.ints (e := tI) (xs := [x14, x18]) rfl (by simp [maxLen]) (by simp only [List.forall_mem_cons]; exact ⟨i6, i6, List.forall_mem_nil _⟩)) rfl (Est rfl (N.call (U7 om (fun x hx => by have := pa.2 x hx; omega) (by simp)) rfl rfl rfl dc rfl (fun w Lp hA => ⟨hA.ow (mS (mS m0)), hA.ow m0⟩)) (fun k20 _ => ?_))))
  obtain ⟨a20, m20, c20⟩ := k20
  refine f0 m0 fun e20 l20 => ?_
  subst e20
  refine Ei rfl (En (n9 (Et (Ez Z3 (Em rfl (Ey rfl ((Y.sub rfl rfl om om).yd) (Ei rfl (Eu (d7 (Ent.drop (g9 (Ent.drop (d7 (d7 ?_))))))))))))))
  exact t8 br (g + 1, D1 ys ([x14, x18]), a20, (D1 ys ([x14, x18])).length, c20) ⟨rfl, rfl, frI om, trivial⟩ (.refl _) ⟨oz, (show (D1 ys ([x14, x18])).length ≤ (g + 1) ∧ ∀ t ∈ (D1 ys ([x14, x18])), t.length = 2 from by exact a9a pa rfl)⟩ oz
 ·refine Eu (j8 rfl (E.exit (l2 (l2 (w8 (Et (Ew Z2 (Em rfl (Ei rfl (Eu (E.ret (d7 (d7 ?_)))))))))))))
  exact F.r1 br rfl rfl (ys, (_, _, _)) (show ys.length ≤ 4 ∧ ∀ t ∈ ys, t.length = 2 from by exact ⟨by omega, pa.2⟩) rfl (J := _) (.refl _) (.inl rfl)
theorem a1i {code : List UInt8} (hcl : code.length ≤ 1048576) : Tr Tryz.prog 19 [.slice a_code m_code c_code] (fun w L => Ro w L J3 [.slice a_code m_code c_code] code) [] (κ := (List (List Int)) × (List Int) × (Option Addr × Nat × Nat) × Option Addr × Nat × Nat) (fun k => (k.1.length ≤ 4 ∧ ∀ t ∈ k.1, t.length = 2) ∧ k.2.1.length = 2) (fun k => .tuple #[.slice k.2.2.1.1 k.2.2.1.2.1 k.2.2.1.2.2, .slice k.2.2.2.1 k.2.2.2.2.1 k.2.2.2.2.2]) (fun k => [ow B2 [.slice k.2.2.1.1 k.2.2.1.2.1 k.2.2.1.2.2] k.1, ow eIs [.slice k.2.2.2.1 k.2.2.2.2.1 k.2.2.2.2.2] k.2.1]) := by
 refine Tr.intro Tryz.func19 rfl (n := 18) rfl (by decide +kernel) bl (fr := [(0, .slice a_code m_code c_code)]) rfl fun w L hR => ?_
 have hcode := hR
 obtain ⟨rfl, lcode⟩ := hcode.slen
 refine Ew Z2 (Ei rfl (Ei rfl (Ev Z3 (Em rfl (Est rfl (N.call (N5 fc) rfl rfl rfl dc rfl (fun w Lp hA => hA.ro hcode)) (fun b8 _ => ?_))))))
 have hbs := hcode
 refine Ei rfl (Ev Z3 (Em rfl (Est rfl (N.call (pre := [_]) R0 rfl rfl rfl dc rfl (fun w Lp hA => hA.ro hbs)) (fun k10 o10 => ?_))))
 obtain ⟨tl10, ⟨a10, m10, c10⟩⟩ := k10
 replace o10 : tl10.length ≤ 4 ∧ ∀ t ∈ tl10, t.length = 2 := o10
 try (conv => arg 4; dsimp only)
 try (conv => arg 5; dsimp only [List.cons_append, List.nil_append, List.append_nil])
 refine f0 m0 fun e10 l10 => ?_
 subst e10
 refine Ei rfl (Ev Z3 (Em rfl (d7 (Est rfl (N.call (pre := [_]) v8 rfl rfl rfl dc rfl (fun w Lp hA => hA.ro hbs)) (fun x12 o12 => ?_)))))
 replace o12 : 0 ≤ x12 ∧ ((3 : Int) ≤ 0 → x12 = 0) ∧ (0 < (3 : Int) → x12 < (3 : Int)) := o12
 try (conv => arg 5; dsimp only [List.cons_append, List.nil_append, List.append_nil])
 refine Ei rfl (Ev Z7 (Em rfl (Em rfl (Em rfl (Est rfl (N.call (pre := [_]) v8 rfl rfl rfl dc rfl (fun w Lp hA => hA.ro hbs)) (fun x16 o16 => ?_))))))
 replace o16 : 0 ≤ x16 ∧ ((3 : Int) ≤ 0 → x16 = 0) ∧ (0 < (3 : Int) → x16 < (3 : Int)) := o16
 try (conv => arg 5; dsimp only [List.cons_append, List.nil_append, List.append_nil])
 refine Est rfl (Nb [_, _] [_, _] us_Is d9 rfl rfl) (fun b17 _ => (l3 (A := [_]) (Own.ints (e := tI) (xs := [x12, x16]) rfl (by simp [maxLen]) (by simp only [List.forall_mem_cons]; exact ⟨i6, i6, List.forall_mem_nil _⟩)) rfl (Ei rfl (Ei rfl (Eu (E.ret (g9 (d7 (d7 ?_)))))))))
 exact a8v br rfl rfl rfl (tl10, [x12, x16], (_, _, _), (_, _, _)) (show (tl10.length ≤ 4 ∧ ∀ t ∈ tl10, t.length = 2) ∧ ([x12, x16] : List Int).length = 2 from by exact ⟨o10, rfl⟩) rfl (J := _) (.refl _) (.inl rfl)
theorem a0x {code : List UInt8} (hcl : code.length ≤ 1048576) : Tr Tryz.prog 21 [.slice a_code m_code c_code] (fun w L => Ro w L J3 [.slice a_code m_code c_code] code) [] (κ := (List Int) × (List (Int × List Int)) × (List (Int × List Int)) × (Option Addr × Nat × Nat) × (Option Addr × Nat × Nat) × Option Addr × Nat × Nat) (fun k => dQ dT 3 3 k.1 k.2.1 ∧ k.2.2.1.length ≤ 9 ∧ ∀ f ∈ k.2.2.1, 1 ≤ f.2.length ∧ f.2.length ≤ 4) (fun k => .tuple #[.agg #[.slice k.2.2.2.1.1 k.2.2.2.1.2.1 k.2.2.2.1.2.2, .slice k.2.2.2.2.1.1 k.2.2.2.2.1.2.1 k.2.2.2.2.1.2.2], .slice k.2.2.2.2.2.1 k.2.2.2.2.2.2.1 k.2.2.2.2.2.2.2]) (fun k => [ow eIs [.slice k.2.2.2.1.1 k.2.2.2.1.2.1 k.2.2.2.1.2.2] k.1, ow C2 [.slice k.2.2.2.2.1.1 k.2.2.2.2.1.2.1 k.2.2.2.2.1.2.2] k.2.1, ow B9 [.slice k.2.2.2.2.2.1 k.2.2.2.2.2.2.1 k.2.2.2.2.2.2.2] k.2.2.1]) := by
 refine Tr.intro Tryz.func21 rfl (n := 16) rfl (by decide +kernel) bl (fr := [(0, .slice a_code m_code c_code)]) rfl fun w L hR => ?_
 have hcode := hR
 obtain ⟨rfl, lcode⟩ := hcode.slen
 refine Ew Z2 (Est rfl (N.alloc ty_Query dc) (fun b2 _ => (Ei rfl (Ev Z11 (Em rfl (Est rfl (N.call (N5 fc) rfl rfl rfl dc rfl (fun w Lp hA => hA.ro hcode)) (fun b9 _ => ?_)))))))
 have hbs := hcode
 refine Est rfl (N.call (pre := [_]) a1b rfl rfl rfl dc rfl (fun w Lp hA => hA.ro hbs)) (fun k10 o10 => ?_)
 obtain ⟨xs10, hq10, aq10, fl10, ⟨a10_0, m10_0, c10_0⟩, ⟨a10_1, m10_1, c10_1⟩, ⟨a10_2, m10_2, c10_2⟩, ⟨a10_3, m10_3, c10_3⟩⟩ := k10
 replace o10 : (1 ≤ xs10.length ∧ xs10.length ≤ 4) ∧ dQ dT 3 3 hq10 aq10 ∧ fl10.length ≤ 9 ∧ ∀ f ∈ fl10, 1 ≤ f.2.length ∧ f.2.length ≤ 4 := o10
 try (conv => arg 4; dsimp only)
 try (conv => arg 5; dsimp only [List.cons_append, List.nil_append, List.append_nil])
 refine f0 m0 fun e10_0 l10_0 => ?_
 subst e10_0
 refine f0 (mS m0) fun e10_1 l10_1 => ?_
 subst e10_1
 refine f0 (mS (mS m0)) fun e10_2 l10_2 => ?_
 subst e10_2
 refine f0 (mS (mS (mS m0))) fun e10_3 l10_3 => ?_
 subst e10_3
 refine Em rfl (Ey rfl ((Y.ext rfl rfl).yd) (Ey rfl ((Y.ext rfl rfl).yd) (Ey rfl ((Y.ext rfl rfl).yd) (Est rfl (N.alloc ty_Query dc) (fun b5 _ => (Ei rfl (Est rfl (Ns [_, _] ty_Query rfl) (fun _ _ => (Ei rfl (Ev Z4 (Ey rfl (o1 (cs := [_, _]) ty_Query rfl (Has.pt m0) rfl) (Em rfl (p9 (Est rfl (Ns [_, _] ty_Query rfl) (fun _ _ => (Ei rfl (Eu (E.ret (B7 (B7 ?_))))))))))))))))))))
 refine B7 (g9 (g9 (g9 ?_)))
 exact R1 br rfl rfl rfl (mS (mS (mS m0))) ty_Query rfl (hq10, aq10, fl10, (_, _, _), (_, _, _), (_, _, _)) (show dQ dT 3 3 hq10 aq10 ∧ fl10.length ≤ 9 ∧ ∀ f ∈ fl10, 1 ≤ f.2.length ∧ f.2.length ≤ 4 from by first | omega | (refine ⟨?_, ?_⟩ <;> omega) | grind) rfl (J := _) (.refl _) (.inl rfl)
theorem a1s {code : List UInt8} (hcl : code.length ≤ 1048576) : Tr Tryz.prog 22 [.slice a_code m_code c_code] (fun w L => Ro w L J3 [.slice a_code m_code c_code] code) [] (κ := (List Int) × (List Int) × Int × (Option Addr × Nat × Nat) × Option Addr × Nat × Nat) (fun k => (k.1.length ≤ 5 ∧ k.2.1.length ≤ 4) ∧ -1 ≤ k.2.2.1 ∧ k.2.2.1 ≤ 20) (fun k => .tuple #[.agg #[.slice k.2.2.2.1.1 k.2.2.2.1.2.1 k.2.2.2.1.2.2, .slice k.2.2.2.2.1 k.2.2.2.2.2.1 k.2.2.2.2.2.2], .int .i64 k.2.2.1]) (fun k => [ow eIs [.slice k.2.2.2.1.1 k.2.2.2.1.2.1 k.2.2.2.1.2.2] k.1, ow eIs [.slice k.2.2.2.2.1 k.2.2.2.2.2.1 k.2.2.2.2.2.2] k.2.1]) := by
 refine Tr.intro Tryz.func22 rfl (n := 14) rfl (by decide +kernel) bl (fr := [(0, .slice a_code m_code c_code)]) rfl fun w L hR => ?_
 have hcode := hR
 obtain ⟨rfl, lcode⟩ := hcode.slen
 refine Ew Z2 (Est rfl (N.alloc ty_Binding dc) (fun b2 _ => (Ei rfl (Ev Z3 (Em rfl (Est rfl (N.call (N5 fc) rfl rfl rfl dc rfl (fun w Lp hA => hA.ro hcode)) (fun b7 _ => ?_)))))))
 have hbs := hcode
 refine Ei rfl (Ev Z4 (Em rfl (Est rfl (N.call (pre := [_]) Y7 rfl rfl rfl dc rfl (fun w Lp hA => hA.ro hbs)) (fun k9 o9 => ?_))))
 obtain ⟨vb9, wb9, ⟨a9_0, m9_0, c9_0⟩, ⟨a9_1, m9_1, c9_1⟩⟩ := k9
 replace o9 : vb9.length ≤ 5 ∧ wb9.length ≤ 4 := o9
 try (conv => arg 4; dsimp only)
 try (conv => arg 5; dsimp only [List.cons_append, List.nil_append, List.append_nil])
 refine f0 m0 fun e9_0 l9_0 => ?_
 subst e9_0
 refine f0 (mS m0) fun e9_1 l9_1 => ?_
 subst e9_1
 refine Est rfl (N.alloc ty_Binding dc) (fun b5 _ => (Est rfl (Ns [_, _] ty_Binding rfl) (fun _ _ => (Eu (Eq_ (H1 [b5] (fun j => true) mixed (O1 0 rfl rfl dc (a5s (cs := [_, _]) ty_Binding rfl (F6.pt m0 (by simp)) rfl) kr (B1 1 rfl rfl dc (i0 rfl) kr (l4 (B6 2 rfl rfl kr (fun _ _ => SameI.out) (N.call (pre := [_]) v8 rfl rfl rfl dc rfl (fun w Lp hA => hA.ro hbs)) (fun x12 o12 => ?_)))))))))))
 replace o12 : 0 ≤ x12 ∧ ((20 : Int) ≤ 0 → x12 = 0) ∧ (0 < (20 : Int) → x12 < (20 : Int)) := o12
 try (conv => arg 5; dsimp only [List.cons_append, List.nil_append, List.append_nil])
 refine B1 3 rfl rfl dc (Y.sub rfl rfl om om) kr (o4 (B6 4 rfl rfl kr (fun _ _ => SameI.out) (Ns [_, _] ty_Binding rfl) (fun _ _ => (B1 5 rfl rfl dc (D8 rfl) kr (I5 kr (Et (E.ret (o4 (o4 (d7 (d7 ?_)))))))))))
 exact R1 br rfl rfl rfl (mS (mS m0)) ty_Binding rfl (vb9, wb9, (x12 - 1), (_, _, _), (_, _, _)) (show (vb9.length ≤ 5 ∧ wb9.length ≤ 4) ∧ -1 ≤ (x12 - 1) ∧ (x12 - 1) ≤ 20 from by first | omega | (refine ⟨?_, ?_⟩ <;> omega) | grind) rfl (J := _) (.refl _) (.inl rfl)
theorem a0U {code : List UInt8} (hcl : code.length ≤ 1048576) : Tr Tryz.prog 16 [.slice a_code m_code c_code] (fun w L => Ro w L J3 [.slice a_code m_code c_code] code) [] (κ := (List Int) × (List Int) × Int × (List Int) × Int × (List Int) × (Option Addr × Nat × Nat) × (Option Addr × Nat × Nat) × (Option Addr × Nat × Nat) × Option Addr × Nat × Nat) (fun k => (k.1.length ≤ 5 ∧ k.2.1.length ≤ 4) ∧ k.2.2.2.1.length ≤ 3 ∧ k.2.2.2.2.2.1.length ≤ 4 ∧ I64 k.2.2.1 ∧ I64 k.2.2.2.2.1) (fun k => .tuple #[.agg #[.slice k.2.2.2.2.2.2.1.1 k.2.2.2.2.2.2.1.2.1 k.2.2.2.2.2.2.1.2.2, .slice k.2.2.2.2.2.2.2.1.1 k.2.2.2.2.2.2.2.1.2.1 k.2.2.2.2.2.2.2.1.2.2], .agg #[.int .i64 k.2.2.1, .slice k.2.2.2.2.2.2.2.2.1.1 k.2.2.2.2.2.2.2.2.1.2.1 k.2.2.2.2.2.2.2.2.1.2.2], .agg #[.int .i64 k.2.2.2.2.1, .slice k.2.2.2.2.2.2.2.2.2.1 k.2.2.2.2.2.2.2.2.2.2.1 k.2.2.2.2.2.2.2.2.2.2.2]]) (fun k => [ow eIs [.slice k.2.2.2.2.2.2.1.1 k.2.2.2.2.2.2.1.2.1 k.2.2.2.2.2.2.1.2.2] k.1, ow eIs [.slice k.2.2.2.2.2.2.2.1.1 k.2.2.2.2.2.2.2.1.2.1 k.2.2.2.2.2.2.2.1.2.2] k.2.1, ow eIs [.slice k.2.2.2.2.2.2.2.2.1.1 k.2.2.2.2.2.2.2.2.1.2.1 k.2.2.2.2.2.2.2.2.1.2.2] k.2.2.2.1, ow eIs [.slice k.2.2.2.2.2.2.2.2.2.1 k.2.2.2.2.2.2.2.2.2.2.1 k.2.2.2.2.2.2.2.2.2.2.2] k.2.2.2.2.2.1]) := by
 refine Tr.intro Tryz.func16 rfl (n := 26) rfl (by decide +kernel) bl (fr := [(0, .slice a_code m_code c_code)]) rfl fun w L hR => ?_
 have hcode := hR
 obtain ⟨rfl, lcode⟩ := hcode.slen
 refine Ew Z3 (Est rfl (N.alloc ty_Binding dc) (fun b2 _ => (Est rfl (N.alloc ty_Atom dc) (fun b3 _ => (Est rfl (N.alloc ty_Fact dc) (fun b4 _ => (Ev Z3 (Em rfl (Est rfl (N.call (N5 fo) rfl rfl rfl dc rfl (fun w Lp hA => hA.ro hcode)) (fun b10 _ => ?_))))))))))
 have hbs := hcode
 refine Ei rfl (Ev Z3 (Em rfl (Est rfl (N.call (pre := [_]) U9 rfl rfl rfl dc rfl (fun w Lp hA => hA.ro hbs)) (fun k12 o12 => ?_))))
 obtain ⟨xs12, ⟨a12, m12, c12⟩⟩ := k12
 replace o12 : 1 ≤ xs12.length ∧ xs12.length ≤ 3 ∧ ∀ z ∈ xs12, 1 ≤ z ∧ z ≤ 3 := o12
 try (conv => arg 4; dsimp only)
 try (conv => arg 5; dsimp only [List.cons_append, List.nil_append, List.append_nil])
 refine f0 m0 fun e12 l12 => ?_
 subst e12
 refine Ei rfl (Ev Z4 (Em rfl (d7 (Est rfl (N.call (pre := [_]) Y7 rfl rfl rfl dc rfl (fun w Lp hA => hA.ro hbs)) (fun k14 o14 => ?_)))))
 obtain ⟨vb14, wb14, ⟨a14_0, m14_0, c14_0⟩, ⟨a14_1, m14_1, c14_1⟩⟩ := k14
 replace o14 : vb14.length ≤ 5 ∧ wb14.length ≤ 4 := o14
 try (conv => arg 4; dsimp only)
 try (conv => arg 5; dsimp only [List.cons_append, List.nil_append, List.append_nil])
 refine f0 m0 fun e14_0 l14_0 => ?_
 subst e14_0
 refine f0 (mS m0) fun e14_1 l14_1 => ?_
 subst e14_1
 refine Est rfl (N.alloc ty_Binding dc) (fun b7 _ => (Est rfl (Ns [_, _] ty_Binding rfl) (fun _ _ => (Ev Z8 (Em rfl (Em rfl (l4 (Est rfl (N.call (pre := [_]) (V7 o12.1 o12.2.2) rfl rfl rfl dc rfl (fun w Lp hA => ⟨hA.ow (mS (mS (mS m0))), hA.ro hbs⟩)) (fun k17 o17 => ?_)))))))))
 obtain ⟨hq17, aq17, ⟨a17_0, m17_0, c17_0⟩, ⟨a17_1, m17_1, c17_1⟩⟩ := k17
 replace o17 : dQ kT 3 2 hq17 aq17 := o17
 try (conv => arg 4; dsimp only)
 try (conv => arg 5; dsimp only [List.cons_append, List.nil_append, List.append_nil])
 have jl := o17.1
 have jt := (o17.2.1 _ (List.getElem_mem (show 0 < aq17.length by omega))).1
 refine f0 m0 fun e17_0 l17_0 => ?_
 subst e17_0
 refine f0 (mS m0) fun e17_1 l17_1 => ?_
 subst e17_1
 refine Ey rfl ((b0Q (cs := [_, _]) fo_Query_1 ty_Atoms rfl rfl).yd) (a0J (mS m0) om fun ab19 ae19 => (d7 (a8t (x := aq17[0]) 0 (List.getElem?_eq_getElem om) fun ce19 => ?_)))
 refine d7 (a1w fun oa19_1 om19_1 oc19_1 oe19 oi19_0 on19_1 => ?_)
 subst oe19
 subst on19_1
 refine Ey rfl ((o6 us_Atoms ty_Atom rfl ae19 rfl 0 rfl om).yd) (Ey rfl (o1 (cs := [_, _]) ty_Atom rfl (Has.hole ae19 (mS m0)) rfl) (Est rfl (N.alloc ty_Atom dc) (fun b8 _ => (Est rfl (Ns [_, _] ty_Atom rfl) (fun _ _ => (Eu (Eq_ (H1 [b8, b7] (fun j => true) mixed (g9 (Ent.drop (O1 0 rfl rfl dc (a5s (cs := [_, _]) ty_Binding rfl (F6.pt (mS (mS (mS (mS m0)))) (by simp)) rfl) kr (O1 1 rfl rfl dc (a5s (cs := [_, _]) ty_Atom rfl (F6.pt m0 (by simp)) rfl) kr (B1 2 rfl rfl dc (i0 rfl) kr (B1 3 rfl rfl dc (i0 rfl) kr (l4 (B6 4 rfl rfl kr (fun _ _ => SameI.out) (N.call (pre := [_]) S6 rfl rfl rfl dc rfl (fun w Lp hA => ⟨hA.ow (mS (mS (mS (mS (mS (mS m0)))))), hA.ro hbs⟩)) (fun k25 o25 => ?_)))))))))))))))))
 obtain ⟨rl25, vs25, ⟨a25, m25, c25⟩⟩ := k25
 replace o25 : (-1 ≤ rl25 ∧ rl25 ≤ 10) ∧ 1 ≤ vs25.length ∧ vs25.length ≤ 4 := o25
 try (conv => arg 4; dsimp only)
 try (conv => arg 5; dsimp only [List.cons_append, List.nil_append, List.append_nil])
 refine f0 m0 fun e25 l25 => ?_
 subst e25
 refine a3s (B6 5 rfl rfl kr (fun _ _ => SameI.out) (Ns [_, _] ty_Binding rfl) (fun _ _ => (a3s (B6 6 rfl rfl kr (fun _ _ => SameI.out) (Ns [_, _] ty_Atom rfl) (fun _ _ => (a3s (B6 7 rfl rfl kr (fun _ _ => SameI.out) (Ns [_, _] ty_Fact rfl) (fun _ _ => (I5 kr (Et (E.ret (l4 (p9 (a5Z (a5Z (l4 (l4 (l4 (l4 ?_)))))))))))))))))))
 exact b0W br rfl rfl rfl rfl (mS (mS (mS (mS (mS (mS m0)))))) ty_Binding rfl (mS (mS (mS (mS (mS m0))))) ty_Atom rfl (mS (mS (mS (mS m0)))) ty_Fact rfl (vb14, wb14, aq17[0].1, aq17[0].2, rl25, vs25, (_, _, _), (_, _, _), (_, _, _), (_, _, _)) (show (vb14.length ≤ 5 ∧ wb14.length ≤ 4) ∧ aq17[0].2.length ≤ 3 ∧ vs25.length ≤ 4 ∧ I64 aq17[0].1 ∧ I64 rl25 from by exact ⟨by omega, by omega, by omega, by assumption, by unfold I64; omega⟩) rfl (J := _) (.refl _) (.inl rfl)
theorem a0u {code : List UInt8} (hcl : code.length ≤ 1048576) : Tr Tryz.prog 20 [.slice a_code m_code c_code] (fun w L => Ro w L J3 [.slice a_code m_code c_code] code) [] (κ := (List (List Int)) × (List (List Int)) × (Option Addr × Nat × Nat) × Option Addr × Nat × Nat) (fun k => (k.1.length ≤ 4 ∧ ∀ t ∈ k.1, t.length = 2) ∧ (k.2.1.length ≤ 4 ∧ ∀ t ∈ k.2.1, t.length = 2)) (fun k => .tuple #[.slice k.2.2.1.1 k.2.2.1.2.1 k.2.2.1.2.2, .slice k.2.2.2.1 k.2.2.2.2.1 k.2.2.2.2.2]) (fun k => [ow a9J [.slice k.2.2.1.1 k.2.2.1.2.1 k.2.2.1.2.2, .slice k.2.2.2.1 k.2.2.2.2.1 k.2.2.2.2.2] (k.1, k.2.1)]) := by
 refine Tr.intro Tryz.func20 rfl (n := 19) rfl (by decide +kernel) bl (fr := [(0, .slice a_code m_code c_code)]) rfl fun w L hR => ?_
 have hcode := hR
 obtain ⟨rfl, lcode⟩ := hcode.slen
 refine Ew Z2 (Ei rfl (Ei rfl (Ev Z3 (Em rfl (Est rfl (N.call (N5 fc) rfl rfl rfl dc rfl (fun w Lp hA => hA.ro hcode)) (fun b7 _ => ?_))))))
 have hbs := hcode
 refine Ei rfl (Ev Z3 (Em rfl (Est rfl (N.call (pre := [_]) R0 rfl rfl rfl dc rfl (fun w Lp hA => hA.ro hbs)) (fun k9 o9 => ?_))))
 obtain ⟨tl9, ⟨a9, m9, c9⟩⟩ := k9
 replace o9 : tl9.length ≤ 4 ∧ ∀ t ∈ tl9, t.length = 2 := o9
 try (conv => arg 4; dsimp only)
 try (conv => arg 5; dsimp only [List.cons_append, List.nil_append, List.append_nil])
 refine f0 m0 fun e9 l9 => ?_
 subst e9
 refine Ei rfl (Eu (Eq_ (Ew Z2 (Em rfl (d7 (Est rfl (N.call (pre := [_]) F9 rfl rfl rfl dc rfl (fun w Lp hA => hA.ro hbs)) (fun o11 o11 => ?_)))))))
 replace o11 : True := o11
 try (conv => arg 5; dsimp only [List.cons_append, List.nil_append, List.append_nil])
 refine u5 (fun q11 => ?_) (fun q11 => ?_)
 ·refine Eu (j9 rfl (Ew Z6 (Em rfl (Est rfl (Nb [] [] us_Iss ty_Is rfl rfl) (fun b13 _ => (Ent.drop (Em rfl (d7 (Est rfl (b0S us_Iss ty_Is rfl rfl rfl rfl mx om dc) (fun p15 _ => (Ei rfl (Ei rfl ?_))))))))))))
  exact Eu (E.ret (j5 (a8v br rfl rfl rfl (tl9, tl9, (_, _, _), (_, _, _)) (show (tl9.length ≤ 4 ∧ ∀ t ∈ tl9, t.length = 2) ∧ (tl9.length ≤ 4 ∧ ∀ t ∈ tl9, t.length = 2) from by exact ⟨o9, o9⟩) rfl (J := _) (.refl _) (.inl rfl))))
 ·refine Eu (j8 rfl (f5 (Et (Ew Z5 (Em rfl (Em rfl (Est rfl (N.call (pre := [_]) R0 rfl rfl rfl dc rfl (fun w Lp hA => hA.ro hbs)) (fun k18 o18 => ?_))))))))
  obtain ⟨tl18, ⟨a18, m18, c18⟩⟩ := k18
  replace o18 : tl18.length ≤ 4 ∧ ∀ t ∈ tl18, t.length = 2 := o18
  try (conv => arg 4; dsimp only)
  try (conv => arg 5; dsimp only [List.cons_append, List.nil_append, List.append_nil])
  refine f0 m0 fun e18 l18 => ?_
  subst e18
  refine Ei rfl (Ei rfl (Eu (E.ret (g9 (a7u ?_)))))
  exact a8v br rfl rfl rfl (tl9, tl18, (_, _, _), (_, _, _)) (show (tl9.length ≤ 4 ∧ ∀ t ∈ tl9, t.length = 2) ∧ (tl18.length ≤ 4 ∧ ∀ t ∈ tl18, t.length = 2) from by exact ⟨o9, o18⟩) rfl (J := _) (.refl _) (.inl rfl)
end Go.Proofs.YtfnbilpemdgkkaaGreatDoor
