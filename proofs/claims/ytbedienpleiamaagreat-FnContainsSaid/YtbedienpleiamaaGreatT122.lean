import Derived.Test.YtbedienpleiamaaGreatT121
import Derived.Test.YtbedienpleiamaaGreatHe
import Derived.Test.YtbedienpleiamaaGreatHd
import Derived.Test.YtbedienpleiamaaGreatT27
namespace Go.Proofs.YtbedienpleiamaaGreat
open Go.RowKit
set_option linter.all false
set_option maxHeartbeats 2000000
attribute [local irreducible] Nop Yd Yp Ent Has Tr FnP FnP2 Src O1 S7 W5 X5 I0
variable {m_code c_code b_c m_b c_b : Nat} {a_code a_b : Option Addr}
theorem a7T {code : List UInt8} : Tr Tryz.prog 5 [.slice a_code m_code c_code] (fun w L => Ro w L P5 [.slice a_code m_code c_code] code) [] (κ := Unit) (fun k => True) (fun k => .bool (decide (1048576 < (code.length : Int)))) (fun k => []) := by
 refine Tr.intro Tryz.func5 rfl (n := 6) rfl (by decide +kernel) bl (fr := [(0, .slice a_code m_code c_code)]) rfl fun w L hR => ?_
 have hcode := hR
 obtain ⟨rfl, lcode⟩ := hcode.slen
 refine Ew Z1 (Ei rfl (Ev Z4 (Em rfl (Ey rfl ((Y.len us_U8s rfl).yd) (Ey rfl ((Y.gtr rfl rfl).yd) (Ei rfl ?_))))))
 exact Eu (E.ret (Fb rfl rfl (by simp_all)))
theorem a2u {code : List UInt8} (hcl : code.length ≤ 1048576) : Tr Tryz.prog 8 [.slice a_code m_code c_code] (fun w L => Ro w L P5 [.slice a_code m_code c_code] code) [] (κ := (List Int) × (List Int) × (List (Int × List Int)) × (List (Int × List Int)) × (Option Addr × Nat × Nat) × (Option Addr × Nat × Nat) × (Option Addr × Nat × Nat) × Option Addr × Nat × Nat) (fun k => (1 ≤ k.1.length ∧ k.1.length ≤ 4) ∧ dQ dT 3 3 k.2.1 k.2.2.1 ∧ k.2.2.2.1.length ≤ 9 ∧ ∀ f ∈ k.2.2.2.1, 1 ≤ f.2.length ∧ f.2.length ≤ 4) (fun k => .tuple #[.slice k.2.2.2.2.1.1 k.2.2.2.2.1.2.1 k.2.2.2.2.1.2.2, .agg #[.slice k.2.2.2.2.2.1.1 k.2.2.2.2.2.1.2.1 k.2.2.2.2.2.1.2.2, .slice k.2.2.2.2.2.2.1.1 k.2.2.2.2.2.2.1.2.1 k.2.2.2.2.2.2.1.2.2], .slice k.2.2.2.2.2.2.2.1 k.2.2.2.2.2.2.2.2.1 k.2.2.2.2.2.2.2.2.2]) (fun k => [ow eIs [.slice k.2.2.2.2.1.1 k.2.2.2.2.1.2.1 k.2.2.2.2.1.2.2] k.1, ow eIs [.slice k.2.2.2.2.2.1.1 k.2.2.2.2.2.1.2.1 k.2.2.2.2.2.1.2.2] k.2.1, ow j8 [.slice k.2.2.2.2.2.2.1.1 k.2.2.2.2.2.2.1.2.1 k.2.2.2.2.2.2.1.2.2] k.2.2.1, ow u5 [.slice k.2.2.2.2.2.2.2.1 k.2.2.2.2.2.2.2.2.1 k.2.2.2.2.2.2.2.2.2] k.2.2.2.1]) := by
 refine Tr.intro Tryz.func8 rfl (n := 18) rfl (by decide +kernel) bl (fr := [(0, .slice a_code m_code c_code)]) rfl fun w L hR => ?_
 have hcode := hR
 obtain ⟨rfl, lcode⟩ := hcode.slen
 refine Ew Z3 (Ei rfl (Est rfl (N.alloc ty_Query dc) (fun b3 _ => (Ei rfl (Ev Z11 (Em rfl (Est rfl (N.call (S4 fc) rfl rfl rfl dc rfl (fun w Lp hA => hA.ro hcode)) (fun b10 _ => ?_))))))))
 have hbs := hcode
 refine Est rfl (N.call (pre := [_]) a2O rfl rfl rfl dc rfl (fun w Lp hA => hA.ro hbs)) (fun k11 o11 => ?_)
 obtain ⟨xs11, hq11, aq11, fl11, ⟨a11_0, m11_0, c11_0⟩, ⟨a11_1, m11_1, c11_1⟩, ⟨a11_2, m11_2, c11_2⟩, ⟨a11_3, m11_3, c11_3⟩⟩ := k11
 replace o11 : (1 ≤ xs11.length ∧ xs11.length ≤ 4) ∧ dQ dT 3 3 hq11 aq11 ∧ fl11.length ≤ 9 ∧ ∀ f ∈ fl11, 1 ≤ f.2.length ∧ f.2.length ≤ 4 := o11
 try (conv => arg 4; dsimp only)
 try (conv => arg 5; dsimp only [List.cons_append, List.nil_append, List.append_nil])
 refine d4 m0 fun e11_0 l11_0 => ?_
 subst e11_0
 refine d4 (mS m0) fun e11_1 l11_1 => ?_
 subst e11_1
 refine d4 (mS (mS m0)) fun e11_2 l11_2 => ?_
 subst e11_2
 refine d4 (mS (mS (mS m0))) fun e11_3 l11_3 => ?_
 subst e11_3
 refine Em rfl (Ey rfl ((Y.ext rfl rfl).yd) (Ey rfl ((Y.ext rfl rfl).yd) (Ey rfl ((Y.ext rfl rfl).yd) (Est rfl (N.alloc ty_Query dc) (fun b6 _ => (Ei rfl (Est rfl (Ns [_, _] ty_Query rfl) (fun _ _ => (Ei rfl (Eu (Eq_ (D.region (fun j => !(Nat.beq j 4)) mixed (Dyp 0 rfl (i8 rfl) (Dy 1 rfl (j6 (cs := [_, _]) ty_Query rfl (Has.pt m0) rfl) (Dyp 2 rfl (i8 rfl) (Dyp 3 rfl (C0 rfl) (v6 (r8 4 rfl rfl kr (fun h => by cases h) (Ns [_, _] ty_Query rfl) (fun _ _ => (Dyp 5 rfl (C0 rfl) (r7 kr (Et (E.ret (n8 (n8 (n8 (n8 (l3 (l3 (l3 (l3 ?_)))))))))))))))))))))))))))))))
 exact a1s br rfl rfl rfl rfl (mS (mS (mS (mS m0)))) ty_Query rfl (xs11, hq11, aq11, fl11, (_, _, _), (_, _, _), (_, _, _), (_, _, _)) (show (1 ≤ xs11.length ∧ xs11.length ≤ 4) ∧ dQ dT 3 3 hq11 aq11 ∧ fl11.length ≤ 9 ∧ ∀ f ∈ fl11, 1 ≤ f.2.length ∧ f.2.length ≤ 4 from by exact o11) rfl (J := _) (.refl _) (.inl rfl)
theorem a5U {bs : List UInt8} : Tr Tryz.prog 47 [.pointer (some ⟨b_c, 0, none⟩)] (fun w L => Ro w L P5 [.slice a_b m_b c_b] bs) [cur b_c a_b m_b c_b] (κ := (List Int) × (List Int) × (List (Int × List Int)) × (List Int) × (List (Int × List Int)) × (Option Addr × Nat × Nat) × (Option Addr × Nat × Nat) × (Option Addr × Nat × Nat) × (Option Addr × Nat × Nat) × Option Addr × Nat × Nat) (fun k => (1 ≤ k.1.length ∧ k.1.length ≤ 3) ∧ sQ k.2.1 k.2.2.1 ∧ sQ k.2.2.2.1 k.2.2.2.2.1) (fun k => .tuple #[.slice k.2.2.2.2.2.1.1 k.2.2.2.2.2.1.2.1 k.2.2.2.2.2.1.2.2, .agg #[.slice k.2.2.2.2.2.2.1.1 k.2.2.2.2.2.2.1.2.1 k.2.2.2.2.2.2.1.2.2, .slice k.2.2.2.2.2.2.2.1.1 k.2.2.2.2.2.2.2.1.2.1 k.2.2.2.2.2.2.2.1.2.2], .agg #[.slice k.2.2.2.2.2.2.2.2.1.1 k.2.2.2.2.2.2.2.2.1.2.1 k.2.2.2.2.2.2.2.2.1.2.2, .slice k.2.2.2.2.2.2.2.2.2.1 k.2.2.2.2.2.2.2.2.2.2.1 k.2.2.2.2.2.2.2.2.2.2.2]]) (fun k => [ow eIs [.slice k.2.2.2.2.2.1.1 k.2.2.2.2.2.1.2.1 k.2.2.2.2.2.1.2.2] k.1, ow eIs [.slice k.2.2.2.2.2.2.1.1 k.2.2.2.2.2.2.1.2.1 k.2.2.2.2.2.2.1.2.2] k.2.1, ow j8 [.slice k.2.2.2.2.2.2.2.1.1 k.2.2.2.2.2.2.2.1.2.1 k.2.2.2.2.2.2.2.1.2.2] k.2.2.1, ow eIs [.slice k.2.2.2.2.2.2.2.2.1.1 k.2.2.2.2.2.2.2.2.1.2.1 k.2.2.2.2.2.2.2.2.1.2.2] k.2.2.2.1, ow j8 [.slice k.2.2.2.2.2.2.2.2.2.1 k.2.2.2.2.2.2.2.2.2.2.1 k.2.2.2.2.2.2.2.2.2.2.2] k.2.2.2.2.1, cur b_c a_b m_b c_b]) := by
 refine Tr.intro Tryz.func47 rfl (n := 61) rfl (by decide +kernel) bl (fr := [(0, .pointer (some ⟨b_c, 0, none⟩))]) rfl fun w L hR => ?_
 have hbs := hR
 obtain ⟨rfl, lb⟩ := hbs.slen
 refine Ew Z3 (Ei rfl (Est rfl (N.alloc ty_Query dc) (fun b3 _ => (Est rfl (N.alloc ty_Query dc) (fun b4 _ => (Ev Z3 (Em rfl (g9 (Est rfl (N.call (pre := [_]) V7 rfl rfl rfl dc rfl (fun w Lp hA => hA.ro hbs)) (fun k9 o9 => ?_))))))))))
 obtain ⟨xs9, ⟨a9, m9, c9⟩⟩ := k9
 replace o9 : 1 ≤ xs9.length ∧ xs9.length ≤ 3 ∧ ∀ z ∈ xs9, 1 ≤ z ∧ z ≤ 3 := o9
 try (conv => arg 4; dsimp only)
 try (conv => arg 5; dsimp only [List.cons_append, List.nil_append, List.append_nil])
 refine d4 m0 fun e9 l9 => ?_
 subst e9
 refine Ei rfl (Ev Z5 (Em rfl (Em rfl (d7 (Est rfl (N.call (pre := [_]) (Q5 o9.1 o9.2.2) rfl rfl rfl dc rfl (fun w Lp hA => ⟨hA.ow m0, hA.ro hbs⟩)) (fun k12 o12 => ?_))))))
 obtain ⟨hq12, aq12, ⟨a12_0, m12_0, c12_0⟩, ⟨a12_1, m12_1, c12_1⟩⟩ := k12
 replace o12 : dQ kT 3 2 hq12 aq12 := o12
 try (conv => arg 4; dsimp only)
 try (conv => arg 5; dsimp only [List.cons_append, List.nil_append, List.append_nil])
 have jl := o12.1
 have jh := o12.2.2
 refine d4 m0 fun e12_0 l12_0 => ?_
 subst e12_0
 refine d4 (mS m0) fun e12_1 l12_1 => ?_
 subst e12_1
 refine Est rfl (N.alloc ty_Query dc) (fun b6 _ => (Est rfl (Ns [_, _] ty_Query rfl) (fun _ _ => (Ev Z5 (Em rfl (Em rfl (l3 (Est rfl (N.call (pre := [_]) (Q5 o9.1 o9.2.2) rfl rfl rfl dc rfl (fun w Lp hA => ⟨hA.ow (mS (mS (mS m0))), hA.ro hbs⟩)) (fun k15 o15 => ?_)))))))))
 obtain ⟨hq15, aq15, ⟨a15_0, m15_0, c15_0⟩, ⟨a15_1, m15_1, c15_1⟩⟩ := k15
 replace o15 : dQ kT 3 2 hq15 aq15 := o15
 try (conv => arg 4; dsimp only)
 try (conv => arg 5; dsimp only [List.cons_append, List.nil_append, List.append_nil])
 have jl2 := o15.1
 have jh2 := o15.2.2
 refine d4 m0 fun e15_0 l15_0 => ?_
 subst e15_0
 refine d4 (mS m0) fun e15_1 l15_1 => ?_
 subst e15_1
 refine Est rfl (N.alloc ty_Query dc) (fun b7 _ => (Est rfl (Ns [_, _] ty_Query rfl) (fun _ _ => (Eu (Eq_ (Ew Z2 (Em rfl (l3 (Est rfl (N.call (pre := [_]) B3 rfl rfl rfl dc rfl (fun w Lp hA => hA.ro hbs)) (fun x17 o17 => ?_))))))))))
 replace o17 : 0 ≤ x17 ∧ ((4 : Int) ≤ 0 → x17 = 0) ∧ (0 < (4 : Int) → x17 < (4 : Int)) := o17
 try (conv => arg 5; dsimp only [List.cons_append, List.nil_append, List.append_nil])
 refine Eu (E.block (Ew Z2 (Ey rfl ((Y.eql rfl rfl).yd) (Ei rfl (n9 (fun q18 => ?_) (fun q18 => ?_))))))
 ·refine Eu (o0 rfl (Ew Z3 (Ey rfl (j6 (cs := [_, _]) ty_Query rfl (Has.pt (mS (mS (mS (mS m0))))) rfl) (Est rfl (N.call (a0P (by first | omega | exact (a0H o12.up.small) | exact (o12.up.small).2.1 | (have := o12.1; have := o12.2.2; omega)) (by first | omega | exact (a0H o12.up.small) | exact (o12.up.small).2.1 | (have := o12.1; have := o12.2.2; omega)) (fun a ha => Nat.le_trans (o12.2.1 a ha).1.2 dc)) rfl rfl rfl dc rfl (fun w Lp hA => ⟨hA.ow (mS (mS (mS (mS (mS m0))))), hA.ow (mS (mS (mS (mS (mS (mS m0))))))⟩)) (fun k21 _ => ?_)))))
  obtain ⟨⟨a21_0, m21_0, c21_0⟩, ⟨a21_1, m21_1, c21_1⟩⟩ := k21
  refine d4 m0 fun e21_0 l21_0 => ?_
  subst e21_0
  refine d4 (mS m0) fun e21_1 l21_1 => ?_
  subst e21_1
  refine l3 (Est rfl (Ns [_, _] ty_Query rfl) (fun _ _ => (Eu (Eq_ (D5 [b7] (fun j => !(Nat.beq j 11)) mixed (t8 0 rfl rfl dc (i0 fo_Query_1 ty_Atoms dc rfl) kr (G1 1 rfl rfl dc (K4 ty_Atoms rfl ((D7.pt m0 (by simp)).sub (cs' := [_]) 1 rfl) rfl) kr (t8 2 rfl rfl dc (i8 rfl) kr (t8 3 rfl rfl dc (i8 rfl) kr (l3 (x2 4 rfl rfl kr (fun _ _ => SameI.out) (N.call (pre := [_]) (Q5 o9.1 o9.2.2) rfl rfl rfl dc rfl (fun w Lp hA => ⟨hA.ow (mS (mS (mS (mS (mS (mS (mS (mS m0)))))))), hA.ro hbs⟩)) (fun k26 o26 => ?_))))))))))))
  obtain ⟨hq26, aq26, ⟨a26_0, m26_0, c26_0⟩, ⟨a26_1, m26_1, c26_1⟩⟩ := k26
  replace o26 : dQ kT 3 2 hq26 aq26 := o26
  try (conv => arg 4; dsimp only)
  try (conv => arg 5; dsimp only [List.cons_append, List.nil_append, List.append_nil])
  have jl3 := o26.1
  have jh3 := o26.2.2
  refine d4 m0 fun e26_0 l26_0 => ?_
  subst e26_0
  refine d4 (mS m0) fun e26_1 l26_1 => ?_
  subst e26_1
  refine t8 5 rfl rfl dc (b2d (cs := [_, _]) fo_Query_1 ty_Atoms rfl rfl) kr (a0A (mS m0) om fun ab28 ae28 => (d7 (a7e (x := aq26[0]) 0 (List.getElem?_eq_getElem om) fun ce28 => ?_)))
  refine d7 (a1P fun oa28_1 om28_1 oc28_1 oe28 oi28_0 on28_1 => ?_)
  subst oe28
  subst on28_1
  refine t8 6 rfl rfl dc (t6 us_Atoms ty_Atom rfl ae28 rfl 0 rfl om) kr (b2e 7 rfl rfl dc (j6 (cs := [_, _]) ty_Atom rfl (Has.hole ae28 (mS m0)) rfl) kr (x2 8 rfl rfl kr (fun _ _ => SameI.out) (Nb [_] [_, _] us_Atoms ty_Atom rfl rfl) (fun b30 _ => (d7 (d7 (K9 (x2 9 rfl rfl kr (fun _ _ => SameI.out) (v7 (E := N3) (ex := aq26[0]) us_Atoms ty_Atom rfl rfl rfl (H2 (x := aq26[0]) oi28_0 Own.ow) rfl bn bn dc) (fun p31 _ => (t8 10 rfl rfl dc (i0 fo_Query_1 ty_Atoms dc rfl) kr (i7 (x2 11 rfl rfl kr (fun h => by cases h) (Ns [_, _] ty_Atoms rfl) (fun _ _ => (E8 kr (Et (Ez Z6 (Est rfl (Nb [] [] us_Is f6 rfl rfl) (fun b33 _ => (Ent.drop (Ey rfl ((i0 fo_Query_0 ty_Is dc rfl).yd) (Ey rfl (f9 ty_Is rfl ((Has.pt (mS (mS (mS (mS (mS (mS (mS (mS m0))))))))).sub (cs' := [_]) 0 rfl) rfl) (o2 (A := []) (Own.nil (E := Enc.int) (e := tI) (a := (some ⟨b33, 0, none⟩))) rfl (Est rfl (b0O (E := Enc.int) Plain.int us_Is f6 rfl rfl rfl (mS (mS (mS (mS (mS (mS (mS (mS (mS m0))))))))) rfl rfl bn bn dc) (fun p36 _ => (Ey rfl ((i0 fo_Query_0 ty_Is dc rfl).yd) (d7 (Est rfl (Ns [_, _] ty_Is rfl) (fun _ _ => (En (s4 (Et (Eq_ (Ew Z2 (l3 (Ent.drop (Em rfl (i7 (Est rfl (N.call (pre := [_]) F0 rfl rfl rfl dc rfl (fun w Lp hA => hA.ro hbs)) (fun o54 o54 => ?_))))))))))))))))))))))))))))))))))))))
  replace o54 : True := o54
  try (conv => arg 5; dsimp only [List.cons_append, List.nil_append, List.append_nil])
  refine t7 (fun q54 => ?_) (fun q54 => ?_)
  ·refine Eu (o0 rfl (Ez Z4 (Em rfl (Em rfl (Est rfl (N.call (pre := [_]) S9 rfl rfl rfl dc rfl (fun w Lp hA => ⟨hA.ow (mS (mS (mS (mS (mS (mS (mS (mS (mS (mS m0)))))))))), hA.ro hbs⟩)) (fun k57 o57 => ?_))))))
   obtain ⟨hq57, aq57, ⟨a57_0, m57_0, c57_0⟩, ⟨a57_1, m57_1, c57_1⟩⟩ := k57
   replace o57 : dQ dT 3 3 hq57 aq57 := o57
   try (conv => arg 4; dsimp only)
   try (conv => arg 5; dsimp only [List.cons_append, List.nil_append, List.append_nil])
   refine d4 m0 fun e57_0 l57_0 => ?_
   subst e57_0
   refine d4 (mS m0) fun e57_1 l57_1 => ?_
   subst e57_1
   refine l3 (Est rfl (Ns [_, _] ty_Query rfl) (fun _ _ => (Eu (Eq_ (L5 (κ := Unit) (fun _ => True) (fun kM => [(2, .slice a9 (xs9).length c9), (3, .pointer (some ⟨b3, 0, none⟩)), (4, .pointer (some ⟨b4, 0, none⟩))]) (fun kM => [pt b4 27 [.slice a57_0 (hq57).length c57_0, .slice a57_1 (aq57).length c57_1], pt b3 27 [.slice a12_0 (hq12).length c12_0, .slice a12_1 (aq12).length c12_1], pt b7 27 [.slice a57_0 (hq57).length c57_0, .slice a57_1 (aq57).length c57_1], ow eIs [.slice a57_0 (hq57).length c57_0] hq57, ow j8 [.slice a57_1 (aq57).length c57_1] aq57, cur b_c a_b bs.length c_b, ow eIs [.slice p36.1 (0 + (hq12).length) p36.2] (([]) ++ hq12), ow j8 [.slice p31.1 ((aq12).length + 1) p31.2] (aq12 ++ [aq26[0]]), ow eIs [.slice a26_0 (hq26).length c26_0] hq26, ow eIs [.slice a21_0 (hq12).length c21_0] hq12, ow eIs [.slice a15_0 (hq15).length c15_0] hq15, ow j8 [.slice a15_1 (aq15).length c15_1] aq15, pt b6 27 [.slice a12_0 (hq12).length c12_0, .slice a12_1 (aq12).length c12_1], ow eIs [.slice a12_0 (hq12).length c12_0] hq12, ow j8 [.slice a12_1 (aq12).length c12_1] aq12, ow eIs [.slice a9 (xs9).length c9] xs9]) ?_ (fun kM _ => ?_))))))
   ·refine D5 [b7, b6] (fun j => true) mixed (t8 0 rfl rfl dc (i8 rfl) kr (G1 1 rfl rfl dc (H5 (cs := [_, _]) ty_Query rfl (D7.pt (mS (mS (mS (mS (mS (mS (mS (mS (mS (mS m0)))))))))) (by simp)) rfl) kr (G1 2 rfl rfl dc (H5 (cs := [_, _]) ty_Query rfl (D7.pt m0 (by simp)) rfl) kr (t8 3 rfl rfl dc (C0 rfl) kr (J9 (x2 4 rfl rfl kr (fun _ _ => SameI.out) (Ns [_, _] ty_Query rfl) (fun _ _ => (J9 (x2 5 rfl rfl kr (fun _ _ => SameI.out) (Ns [_, _] ty_Query rfl) (fun _ _ => (E8 kr (J9 (J9 (J9 (J9 (J9 (J9 (J9 (J9 (J9 (J9 (J9 (J9 (J9 (J9 (J9 (J9 ?_)))))))))))))))))))))))))))
    exact E3 () trivial ⟨rfl, rfl, rfl, trivial⟩ (.refl _)
   ·show Ent _ _ _ [(2, .slice a9 (xs9).length c9), (3, .pointer (some ⟨b3, 0, none⟩)), (4, .pointer (some ⟨b4, 0, none⟩))] [pt b4 27 [.slice a57_0 (hq57).length c57_0, .slice a57_1 (aq57).length c57_1], pt b3 27 [.slice a12_0 (hq12).length c12_0, .slice a12_1 (aq12).length c12_1], pt b7 27 [.slice a57_0 (hq57).length c57_0, .slice a57_1 (aq57).length c57_1], ow eIs [.slice a57_0 (hq57).length c57_0] hq57, ow j8 [.slice a57_1 (aq57).length c57_1] aq57, cur b_c a_b bs.length c_b, ow eIs [.slice p36.1 (0 + (hq12).length) p36.2] (([]) ++ hq12), ow j8 [.slice p31.1 ((aq12).length + 1) p31.2] (aq12 ++ [aq26[0]]), ow eIs [.slice a26_0 (hq26).length c26_0] hq26, ow eIs [.slice a21_0 (hq12).length c21_0] hq12, ow eIs [.slice a15_0 (hq15).length c15_0] hq15, ow j8 [.slice a15_1 (aq15).length c15_1] aq15, pt b6 27 [.slice a12_0 (hq12).length c12_0, .slice a12_1 (aq12).length c12_1], ow eIs [.slice a12_0 (hq12).length c12_0] hq12, ow j8 [.slice a12_1 (aq12).length c12_1] aq12, ow eIs [.slice a9 (xs9).length c9] xs9] _
    refine Et (E.ret (i7 (i7 (a7L (a7L (J9 (s8 (n8 (n8 (n8 (n8 (n8 ?_))))))))))))
    exact a0F br rfl rfl rfl rfl (mS (mS (mS (mS (mS (mS (mS m0))))))) ty_Query rfl (mS (mS (mS (mS (mS (mS m0)))))) ty_Query rfl (xs9, hq12, aq12, hq57, aq57, (_, _, _), (_, _, _), (_, _, _), (_, _, _), (_, _, _)) (show (1 ≤ xs9.length ∧ xs9.length ≤ 3) ∧ sQ hq12 aq12 ∧ sQ hq57 aq57 from by first | exact ⟨⟨o9.1, o9.2.1⟩, o12.up.small, o57.small⟩ | exact ⟨⟨o9.1, o9.2.1⟩, R3 o12.up.small, o57.small⟩) rfl (J := _) (.refl _) (.inl rfl)
  ·refine Eu (n0 rfl (f8 (Et (Eq_ (L5 (κ := Unit) (fun _ => True) (fun kM => [(2, .slice a9 (xs9).length c9), (3, .pointer (some ⟨b3, 0, none⟩)), (4, .pointer (some ⟨b4, 0, none⟩))]) (fun kM => [pt b4 27 [.slice p36.1 (0 + (hq12).length) p36.2, .slice p31.1 ((aq12).length + 1) p31.2], pt b3 27 [.slice a12_0 (hq12).length c12_0, .slice a12_1 (aq12).length c12_1], cur b_c a_b bs.length c_b, pt b7 27 [.slice p36.1 (0 + (hq12).length) p36.2, .slice p31.1 ((aq12).length + 1) p31.2], ow eIs [.slice p36.1 (0 + (hq12).length) p36.2] (([]) ++ hq12), ow j8 [.slice p31.1 ((aq12).length + 1) p31.2] (aq12 ++ [aq26[0]]), ow eIs [.slice a26_0 (hq26).length c26_0] hq26, ow eIs [.slice a21_0 (hq12).length c21_0] hq12, ow eIs [.slice a15_0 (hq15).length c15_0] hq15, ow j8 [.slice a15_1 (aq15).length c15_1] aq15, pt b6 27 [.slice a12_0 (hq12).length c12_0, .slice a12_1 (aq12).length c12_1], ow eIs [.slice a12_0 (hq12).length c12_0] hq12, ow j8 [.slice a12_1 (aq12).length c12_1] aq12, ow eIs [.slice a9 (xs9).length c9] xs9]) ?_ (fun kM _ => ?_))))))
   ·refine D5 [b7, b6] (fun j => true) mixed (t8 0 rfl rfl dc (i8 rfl) kr (G1 1 rfl rfl dc (H5 (cs := [_, _]) ty_Query rfl (D7.pt (mS (mS (mS (mS (mS (mS (mS (mS m0)))))))) (by simp)) rfl) kr (G1 2 rfl rfl dc (H5 (cs := [_, _]) ty_Query rfl (D7.pt (mS m0) (by simp)) rfl) kr (t8 3 rfl rfl dc (C0 rfl) kr (E4 (x2 4 rfl rfl kr (fun _ _ => SameI.out) (Ns [_, _] ty_Query rfl) (fun _ _ => (E4 (x2 5 rfl rfl kr (fun _ _ => SameI.out) (Ns [_, _] ty_Query rfl) (fun _ _ => (E8 kr (E4 (E4 (E4 (E4 (E4 (E4 (E4 (E4 (E4 (E4 (E4 (E4 (E4 (E4 ?_)))))))))))))))))))))))))
    exact E3 () trivial ⟨rfl, rfl, rfl, trivial⟩ (.refl _)
   ·show Ent _ _ _ [(2, .slice a9 (xs9).length c9), (3, .pointer (some ⟨b3, 0, none⟩)), (4, .pointer (some ⟨b4, 0, none⟩))] [pt b4 27 [.slice p36.1 (0 + (hq12).length) p36.2, .slice p31.1 ((aq12).length + 1) p31.2], pt b3 27 [.slice a12_0 (hq12).length c12_0, .slice a12_1 (aq12).length c12_1], cur b_c a_b bs.length c_b, pt b7 27 [.slice p36.1 (0 + (hq12).length) p36.2, .slice p31.1 ((aq12).length + 1) p31.2], ow eIs [.slice p36.1 (0 + (hq12).length) p36.2] (([]) ++ hq12), ow j8 [.slice p31.1 ((aq12).length + 1) p31.2] (aq12 ++ [aq26[0]]), ow eIs [.slice a26_0 (hq26).length c26_0] hq26, ow eIs [.slice a21_0 (hq12).length c21_0] hq12, ow eIs [.slice a15_0 (hq15).length c15_0] hq15, ow j8 [.slice a15_1 (aq15).length c15_1] aq15, pt b6 27 [.slice a12_0 (hq12).length c12_0, .slice a12_1 (aq12).length c12_1], ow eIs [.slice a12_0 (hq12).length c12_0] hq12, ow j8 [.slice a12_1 (aq12).length c12_1] aq12, ow eIs [.slice a9 (xs9).length c9] xs9] _
    refine Et (E.ret (n8 (n8 (C7 (C7 (E4 (K9 (n8 (n8 (n8 (n8 (n8 ?_))))))))))))
    exact a0F br rfl rfl rfl rfl (mS (mS (mS (mS (mS (mS (mS m0))))))) ty_Query rfl (mS (mS (mS (mS (mS (mS m0)))))) ty_Query rfl (xs9, hq12, aq12, ([]) ++ hq12, aq12 ++ [aq26[0]], (_, _, _), (_, _, _), (_, _, _), (_, _, _), (_, _, _)) (show (1 ≤ xs9.length ∧ xs9.length ≤ 3) ∧ sQ hq12 aq12 ∧ sQ (([]) ++ hq12) (aq12 ++ [aq26[0]]) from by first | exact ⟨⟨o9.1, o9.2.1⟩, o12.up.small, o15.up.small⟩ | exact ⟨⟨o9.1, o9.2.1⟩, R3 o12.up.small, R3 o15.up.small⟩ | exact ⟨⟨o9.1, o9.2.1⟩, o12.up.small, a3B o12⟩ | exact ⟨⟨o9.1, o9.2.1⟩, o12.up.small, a4A o12 o26⟩) rfl (J := _) (.refl _) (.inl rfl)
 ·refine Eu (n0 rfl (Ew Z2 (Ey rfl ((Y.eql rfl rfl).yd) (Ei rfl (n9 (fun q38 => ?_) (fun q38 => ?_))))))
  ·refine Eu (o0 rfl (D5 [b6] (fun j => true) mixed (G1 0 rfl rfl dc (H5 (cs := [_, _]) ty_Query rfl (D7.pt (mS (mS (mS (mS m0)))) (by simp)) rfl) kr (t8 1 rfl rfl dc (i8 rfl) kr (t8 2 rfl rfl dc (i0 fo_Query_1 ty_Atoms dc rfl) kr (G1 3 rfl rfl dc (K4 ty_Atoms rfl ((D7.pt (mS (mS (mS (mS m0)))) (by simp)).sub (cs' := [_]) 1 rfl) rfl) kr (t8 4 rfl rfl dc (Y.len us_Atoms rfl) kr (x2 5 rfl rfl kr (fun _ _ => SameI.out) (N.call (pre := [_]) B3 rfl rfl rfl dc rfl (fun w Lp hA => hA.ro hbs)) (fun x45 o45 => ?_)))))))))
   replace o45 : 0 ≤ x45 ∧ ((↑((aq12).length) : Int) ≤ 0 → x45 = 0) ∧ (0 < (↑((aq12).length) : Int) → x45 < (↑((aq12).length) : Int)) := o45
   try (conv => arg 5; dsimp only [List.cons_append, List.nil_append, List.append_nil])
   refine x2 6 rfl rfl kr (fun _ _ => SameI.out) (N.call (a1z (by first | omega | exact (a0H o12.up.small) | exact (o12.up.small).2.1 | (have := o12.1; have := o12.2.2; omega)) (by first | omega | exact (a0H o12.up.small) | exact (o12.up.small).2.1 | (have := o12.1; have := o12.2.2; omega)) (fun a ha => Nat.le_trans (o12.2.1 a ha).1.2 dc)) rfl rfl rfl dc rfl (fun w Lp hA => ⟨hA.ow (mS (mS (mS (mS (mS m0))))), hA.ow (mS (mS (mS (mS (mS (mS m0))))))⟩)) (fun k46 _ => ?_)
   obtain ⟨⟨a46_0, m46_0, c46_0⟩, ⟨a46_1, m46_1, c46_1⟩⟩ := k46
   refine d4 m0 fun e46_0 l46_0 => ?_
   subst e46_0
   refine d4 (mS m0) fun e46_1 l46_1 => ?_
   subst e46_1
   refine l3 (x2 7 rfl rfl kr (fun _ _ => SameI.out) (Ns [_, _] ty_Query rfl) (fun _ _ => (E8 kr (s4 (Et (Eq_ (Ew Z2 (Em rfl (l3 (Est rfl (N.call (pre := [_]) F0 rfl rfl rfl dc rfl (fun w Lp hA => hA.ro hbs)) (fun o54 o54 => ?_)))))))))))
   replace o54 : True := o54
   try (conv => arg 5; dsimp only [List.cons_append, List.nil_append, List.append_nil])
   refine t7 (fun q54 => ?_) (fun q54 => ?_)
   ·refine Eu (o0 rfl (Ez Z4 (Em rfl (Em rfl (Est rfl (N.call (pre := [_]) S9 rfl rfl rfl dc rfl (fun w Lp hA => ⟨hA.ow (mS (mS (mS (mS (mS (mS (mS (mS m0)))))))), hA.ro hbs⟩)) (fun k57 o57 => ?_))))))
    obtain ⟨hq57, aq57, ⟨a57_0, m57_0, c57_0⟩, ⟨a57_1, m57_1, c57_1⟩⟩ := k57
    replace o57 : dQ dT 3 3 hq57 aq57 := o57
    try (conv => arg 4; dsimp only)
    try (conv => arg 5; dsimp only [List.cons_append, List.nil_append, List.append_nil])
    refine d4 m0 fun e57_0 l57_0 => ?_
    subst e57_0
    refine d4 (mS m0) fun e57_1 l57_1 => ?_
    subst e57_1
    refine l3 (Est rfl (Ns [_, _] ty_Query rfl) (fun _ _ => (Eu (Eq_ (L5 (κ := Unit) (fun _ => True) (fun kM => [(2, .slice a9 (xs9).length c9), (3, .pointer (some ⟨b3, 0, none⟩)), (4, .pointer (some ⟨b4, 0, none⟩))]) (fun kM => [pt b4 27 [.slice a57_0 (hq57).length c57_0, .slice a57_1 (aq57).length c57_1], pt b3 27 [.slice a12_0 (hq12).length c12_0, .slice a12_1 (aq12).length c12_1], pt b7 27 [.slice a57_0 (hq57).length c57_0, .slice a57_1 (aq57).length c57_1], ow eIs [.slice a57_0 (hq57).length c57_0] hq57, ow j8 [.slice a57_1 (aq57).length c57_1] aq57, cur b_c a_b bs.length c_b, ow eIs [.slice a46_0 (hq12).length c46_0] hq12, ow j8 [.slice a46_1 (B8 aq12 x45).length c46_1] (B8 aq12 x45), ow eIs [.slice a15_0 (hq15).length c15_0] hq15, ow j8 [.slice a15_1 (aq15).length c15_1] aq15, pt b6 27 [.slice a12_0 (hq12).length c12_0, .slice a12_1 (aq12).length c12_1], ow eIs [.slice a12_0 (hq12).length c12_0] hq12, ow j8 [.slice a12_1 (aq12).length c12_1] aq12, ow eIs [.slice a9 (xs9).length c9] xs9]) ?_ (fun kM _ => ?_))))))
    ·refine D5 [b7, b6] (fun j => true) mixed (t8 0 rfl rfl dc (i8 rfl) kr (G1 1 rfl rfl dc (H5 (cs := [_, _]) ty_Query rfl (D7.pt (mS (mS (mS (mS (mS (mS (mS (mS m0)))))))) (by simp)) rfl) kr (G1 2 rfl rfl dc (H5 (cs := [_, _]) ty_Query rfl (D7.pt m0 (by simp)) rfl) kr (t8 3 rfl rfl dc (C0 rfl) kr (E4 (x2 4 rfl rfl kr (fun _ _ => SameI.out) (Ns [_, _] ty_Query rfl) (fun _ _ => (E4 (x2 5 rfl rfl kr (fun _ _ => SameI.out) (Ns [_, _] ty_Query rfl) (fun _ _ => (E8 kr (E4 (E4 (E4 (E4 (E4 (E4 (E4 (E4 (E4 (E4 (E4 (E4 (E4 (E4 ?_)))))))))))))))))))))))))
     exact E3 () trivial ⟨rfl, rfl, rfl, trivial⟩ (.refl _)
    ·show Ent _ _ _ [(2, .slice a9 (xs9).length c9), (3, .pointer (some ⟨b3, 0, none⟩)), (4, .pointer (some ⟨b4, 0, none⟩))] [pt b4 27 [.slice a57_0 (hq57).length c57_0, .slice a57_1 (aq57).length c57_1], pt b3 27 [.slice a12_0 (hq12).length c12_0, .slice a12_1 (aq12).length c12_1], pt b7 27 [.slice a57_0 (hq57).length c57_0, .slice a57_1 (aq57).length c57_1], ow eIs [.slice a57_0 (hq57).length c57_0] hq57, ow j8 [.slice a57_1 (aq57).length c57_1] aq57, cur b_c a_b bs.length c_b, ow eIs [.slice a46_0 (hq12).length c46_0] hq12, ow j8 [.slice a46_1 (B8 aq12 x45).length c46_1] (B8 aq12 x45), ow eIs [.slice a15_0 (hq15).length c15_0] hq15, ow j8 [.slice a15_1 (aq15).length c15_1] aq15, pt b6 27 [.slice a12_0 (hq12).length c12_0, .slice a12_1 (aq12).length c12_1], ow eIs [.slice a12_0 (hq12).length c12_0] hq12, ow j8 [.slice a12_1 (aq12).length c12_1] aq12, ow eIs [.slice a9 (xs9).length c9] xs9] _
     refine Et (E.ret (i7 (i7 (C7 (C7 (E4 (s8 (n8 (n8 (n8 (n8 (n8 ?_))))))))))))
     exact a0F br rfl rfl rfl rfl (mS (mS (mS (mS (mS (mS (mS m0))))))) ty_Query rfl (mS (mS (mS (mS (mS (mS m0)))))) ty_Query rfl (xs9, hq12, aq12, hq57, aq57, (_, _, _), (_, _, _), (_, _, _), (_, _, _), (_, _, _)) (show (1 ≤ xs9.length ∧ xs9.length ≤ 3) ∧ sQ hq12 aq12 ∧ sQ hq57 aq57 from by first | exact ⟨⟨o9.1, o9.2.1⟩, o12.up.small, o57.small⟩ | exact ⟨⟨o9.1, o9.2.1⟩, R3 o12.up.small, o57.small⟩) rfl (J := _) (.refl _) (.inl rfl)
   ·refine Eu (n0 rfl (f8 (Et (Eq_ (L5 (κ := Unit) (fun _ => True) (fun kM => [(2, .slice a9 (xs9).length c9), (3, .pointer (some ⟨b3, 0, none⟩)), (4, .pointer (some ⟨b4, 0, none⟩))]) (fun kM => [pt b4 27 [.slice a46_0 (hq12).length c46_0, .slice a46_1 (B8 aq12 x45).length c46_1], pt b3 27 [.slice a12_0 (hq12).length c12_0, .slice a12_1 (aq12).length c12_1], cur b_c a_b bs.length c_b, pt b7 27 [.slice a46_0 (hq12).length c46_0, .slice a46_1 (B8 aq12 x45).length c46_1], ow eIs [.slice a46_0 (hq12).length c46_0] hq12, ow j8 [.slice a46_1 (B8 aq12 x45).length c46_1] (B8 aq12 x45), ow eIs [.slice a15_0 (hq15).length c15_0] hq15, ow j8 [.slice a15_1 (aq15).length c15_1] aq15, pt b6 27 [.slice a12_0 (hq12).length c12_0, .slice a12_1 (aq12).length c12_1], ow eIs [.slice a12_0 (hq12).length c12_0] hq12, ow j8 [.slice a12_1 (aq12).length c12_1] aq12, ow eIs [.slice a9 (xs9).length c9] xs9]) ?_ (fun kM _ => ?_))))))
    ·refine D5 [b7, b6] (fun j => true) mixed (t8 0 rfl rfl dc (i8 rfl) kr (G1 1 rfl rfl dc (H5 (cs := [_, _]) ty_Query rfl (D7.pt (mS (mS (mS (mS (mS (mS m0)))))) (by simp)) rfl) kr (G1 2 rfl rfl dc (H5 (cs := [_, _]) ty_Query rfl (D7.pt (mS m0) (by simp)) rfl) kr (t8 3 rfl rfl dc (C0 rfl) kr (C2 (x2 4 rfl rfl kr (fun _ _ => SameI.out) (Ns [_, _] ty_Query rfl) (fun _ _ => (C2 (x2 5 rfl rfl kr (fun _ _ => SameI.out) (Ns [_, _] ty_Query rfl) (fun _ _ => (E8 kr (C2 (C2 (C2 (C2 (C2 (C2 (C2 (C2 (C2 (C2 (C2 (C2 ?_)))))))))))))))))))))))
     exact E3 () trivial ⟨rfl, rfl, rfl, trivial⟩ (.refl _)
    ·show Ent _ _ _ [(2, .slice a9 (xs9).length c9), (3, .pointer (some ⟨b3, 0, none⟩)), (4, .pointer (some ⟨b4, 0, none⟩))] [pt b4 27 [.slice a46_0 (hq12).length c46_0, .slice a46_1 (B8 aq12 x45).length c46_1], pt b3 27 [.slice a12_0 (hq12).length c12_0, .slice a12_1 (aq12).length c12_1], cur b_c a_b bs.length c_b, pt b7 27 [.slice a46_0 (hq12).length c46_0, .slice a46_1 (B8 aq12 x45).length c46_1], ow eIs [.slice a46_0 (hq12).length c46_0] hq12, ow j8 [.slice a46_1 (B8 aq12 x45).length c46_1] (B8 aq12 x45), ow eIs [.slice a15_0 (hq15).length c15_0] hq15, ow j8 [.slice a15_1 (aq15).length c15_1] aq15, pt b6 27 [.slice a12_0 (hq12).length c12_0, .slice a12_1 (aq12).length c12_1], ow eIs [.slice a12_0 (hq12).length c12_0] hq12, ow j8 [.slice a12_1 (aq12).length c12_1] aq12, ow eIs [.slice a9 (xs9).length c9] xs9] _
     refine Et (E.ret (n8 (n8 (H0 (H0 (C2 (K9 (n8 (n8 (n8 (n8 (n8 ?_))))))))))))
     exact a0F br rfl rfl rfl rfl (mS (mS (mS (mS (mS (mS (mS m0))))))) ty_Query rfl (mS (mS (mS (mS (mS (mS m0)))))) ty_Query rfl (xs9, hq12, aq12, hq12, B8 aq12 x45, (_, _, _), (_, _, _), (_, _, _), (_, _, _), (_, _, _)) (show (1 ≤ xs9.length ∧ xs9.length ≤ 3) ∧ sQ hq12 aq12 ∧ sQ hq12 (B8 aq12 x45) from by first | exact ⟨⟨o9.1, o9.2.1⟩, o12.up.small, o15.up.small⟩ | exact ⟨⟨o9.1, o9.2.1⟩, R3 o12.up.small, R3 o15.up.small⟩ | exact ⟨⟨o9.1, o9.2.1⟩, o12.up.small, a3B o12⟩ | exact ⟨⟨o9.1, o9.2.1⟩, o12.up.small, a4A o12 o26⟩) rfl (J := _) (.refl _) (.inl rfl)
  ·refine Eu (n0 rfl (Ew Z2 (Ey rfl ((Y.eql rfl rfl).yd) (Ei rfl (n9 (fun q47 => ?_) (fun q47 => ?_))))))
   ·refine Eu (o0 rfl (Ew Z3 (Est rfl (Nb [] [] us_Is f6 rfl rfl) (fun b49 _ => (Ent.drop (Ey rfl ((i0 fo_Query_0 ty_Is dc rfl).yd) (d7 (Est rfl (Ns [_, _] ty_Is rfl) (fun _ _ => (Eu (Ez Z3 (Est rfl (Nb [] [] us_Is f6 rfl rfl) (fun b51 _ => (Ent.drop (Ey rfl ((i0 fo_Query_0 ty_Is dc rfl).yd) (i7 (Est rfl (Ns [_, _] ty_Is rfl) (fun _ _ => (En (s4 (Et (Eq_ (Ew Z2 (Em rfl (g9 (Est rfl (N.call (pre := [_]) F0 rfl rfl rfl dc rfl (fun w Lp hA => hA.ro hbs)) (fun o54 o54 => ?_)))))))))))))))))))))))))))
    replace o54 : True := o54
    try (conv => arg 5; dsimp only [List.cons_append, List.nil_append, List.append_nil])
    refine t7 (fun q54 => ?_) (fun q54 => ?_)
    ·refine Eu (o0 rfl (Ez Z4 (Em rfl (Em rfl (Est rfl (N.call (pre := [_]) S9 rfl rfl rfl dc rfl (fun w Lp hA => ⟨hA.ow (mS (mS (mS (mS (mS (mS m0)))))), hA.ro hbs⟩)) (fun k57 o57 => ?_))))))
     obtain ⟨hq57, aq57, ⟨a57_0, m57_0, c57_0⟩, ⟨a57_1, m57_1, c57_1⟩⟩ := k57
     replace o57 : dQ dT 3 3 hq57 aq57 := o57
     try (conv => arg 4; dsimp only)
     try (conv => arg 5; dsimp only [List.cons_append, List.nil_append, List.append_nil])
     refine d4 m0 fun e57_0 l57_0 => ?_
     subst e57_0
     refine d4 (mS m0) fun e57_1 l57_1 => ?_
     subst e57_1
     refine i7 (Est rfl (Ns [_, _] ty_Query rfl) (fun _ _ => (Eu (Eq_ (L5 (κ := Unit) (fun _ => True) (fun kM => [(2, .slice a9 (xs9).length c9), (3, .pointer (some ⟨b3, 0, none⟩)), (4, .pointer (some ⟨b4, 0, none⟩))]) (fun kM => [pt b4 27 [.slice a57_0 (hq57).length c57_0, .slice a57_1 (aq57).length c57_1], pt b3 27 [.slice (some ⟨b51, 0, none⟩) 0 0, .slice a12_1 (aq12).length c12_1], pt b7 27 [.slice a57_0 (hq57).length c57_0, .slice a57_1 (aq57).length c57_1], ow eIs [.slice a57_0 (hq57).length c57_0] hq57, ow j8 [.slice a57_1 (aq57).length c57_1] aq57, cur b_c a_b bs.length c_b, pt b6 27 [.slice (some ⟨b51, 0, none⟩) 0 0, .slice a12_1 (aq12).length c12_1], ow eIs [.slice a15_0 (hq15).length c15_0] hq15, ow j8 [.slice a15_1 (aq15).length c15_1] aq15, ow eIs [.slice a12_0 (hq12).length c12_0] hq12, ow j8 [.slice a12_1 (aq12).length c12_1] aq12, ow eIs [.slice a9 (xs9).length c9] xs9]) ?_ (fun kM _ => ?_))))))
     ·refine D5 [b7, b6] (fun j => true) mixed (t8 0 rfl rfl dc (i8 rfl) kr (G1 1 rfl rfl dc (H5 (cs := [_, _]) ty_Query rfl (D7.pt (mS (mS (mS (mS m0)))) (by simp)) rfl) kr (G1 2 rfl rfl dc (H5 (cs := [_, _]) ty_Query rfl (D7.pt m0 (by simp)) rfl) kr (t8 3 rfl rfl dc (C0 rfl) kr (C2 (x2 4 rfl rfl kr (fun _ _ => SameI.out) (Ns [_, _] ty_Query rfl) (fun _ _ => (C2 (x2 5 rfl rfl kr (fun _ _ => SameI.out) (Ns [_, _] ty_Query rfl) (fun _ _ => (E8 kr (C2 (C2 (C2 (C2 (C2 (C2 (C2 (C2 (C2 (C2 (C2 (C2 ?_)))))))))))))))))))))))
      exact E3 () trivial ⟨rfl, rfl, rfl, trivial⟩ (.refl _)
     ·show Ent _ _ _ [(2, .slice a9 (xs9).length c9), (3, .pointer (some ⟨b3, 0, none⟩)), (4, .pointer (some ⟨b4, 0, none⟩))] [pt b4 27 [.slice a57_0 (hq57).length c57_0, .slice a57_1 (aq57).length c57_1], pt b3 27 [.slice (some ⟨b51, 0, none⟩) 0 0, .slice a12_1 (aq12).length c12_1], pt b7 27 [.slice a57_0 (hq57).length c57_0, .slice a57_1 (aq57).length c57_1], ow eIs [.slice a57_0 (hq57).length c57_0] hq57, ow j8 [.slice a57_1 (aq57).length c57_1] aq57, cur b_c a_b bs.length c_b, pt b6 27 [.slice (some ⟨b51, 0, none⟩) 0 0, .slice a12_1 (aq12).length c12_1], ow eIs [.slice a15_0 (hq15).length c15_0] hq15, ow j8 [.slice a15_1 (aq15).length c15_1] aq15, ow eIs [.slice a12_0 (hq12).length c12_0] hq12, ow j8 [.slice a12_1 (aq12).length c12_1] aq12, ow eIs [.slice a9 (xs9).length c9] xs9] _
      refine Et (E.ret (i7 (i7 (H0 (o2 (A := []) (Own.nil (E := Enc.int) (e := tI) (a := (some ⟨b51, 0, none⟩))) rfl (C7 (s8 (n8 (n8 (n8 (n8 (n8 ?_))))))))))))
      exact a0F br rfl rfl rfl rfl (mS (mS (mS (mS (mS (mS (mS m0))))))) ty_Query rfl (mS (mS (mS (mS (mS (mS m0)))))) ty_Query rfl (xs9, [], aq12, hq57, aq57, (_, _, _), ((some ⟨b51, 0, none⟩), 0, 0), (_, _, _), (_, _, _), (_, _, _)) (show (1 ≤ xs9.length ∧ xs9.length ≤ 3) ∧ sQ ([] : List Int) aq12 ∧ sQ hq57 aq57 from by first | exact ⟨⟨o9.1, o9.2.1⟩, o12.up.small, o57.small⟩ | exact ⟨⟨o9.1, o9.2.1⟩, R3 o12.up.small, o57.small⟩) rfl (J := _) (.refl _) (.inl rfl)
    ·refine Eu (n0 rfl (f8 (Et (Eq_ (L5 (κ := Unit) (fun _ => True) (fun kM => [(2, .slice a9 (xs9).length c9), (3, .pointer (some ⟨b3, 0, none⟩)), (4, .pointer (some ⟨b4, 0, none⟩))]) (fun kM => [pt b4 27 [.slice (some ⟨b49, 0, none⟩) 0 0, .slice a15_1 (aq15).length c15_1], pt b3 27 [.slice (some ⟨b51, 0, none⟩) 0 0, .slice a12_1 (aq12).length c12_1], cur b_c a_b bs.length c_b, pt b6 27 [.slice (some ⟨b51, 0, none⟩) 0 0, .slice a12_1 (aq12).length c12_1], pt b7 27 [.slice (some ⟨b49, 0, none⟩) 0 0, .slice a15_1 (aq15).length c15_1], ow eIs [.slice a15_0 (hq15).length c15_0] hq15, ow j8 [.slice a15_1 (aq15).length c15_1] aq15, ow eIs [.slice a12_0 (hq12).length c12_0] hq12, ow j8 [.slice a12_1 (aq12).length c12_1] aq12, ow eIs [.slice a9 (xs9).length c9] xs9]) ?_ (fun kM _ => ?_))))))
     ·refine D5 [b6, b7] (fun j => true) mixed (t8 0 rfl rfl dc (i8 rfl) kr (G1 1 rfl rfl dc (H5 (cs := [_, _]) ty_Query rfl (D7.pt (mS m0) (by simp)) rfl) kr (G1 2 rfl rfl dc (H5 (cs := [_, _]) ty_Query rfl (D7.pt (mS (mS m0)) (by simp)) rfl) kr (t8 3 rfl rfl dc (C0 rfl) kr (s7 (x2 4 rfl rfl kr (fun _ _ => SameI.out) (Ns [_, _] ty_Query rfl) (fun _ _ => (s7 (x2 5 rfl rfl kr (fun _ _ => SameI.out) (Ns [_, _] ty_Query rfl) (fun _ _ => (E8 kr (s7 (s7 (s7 (s7 (s7 (s7 (s7 (s7 (s7 (s7 ?_)))))))))))))))))))))
      exact E3 () trivial ⟨rfl, rfl, rfl, trivial⟩ (.refl _)
     ·show Ent _ _ _ [(2, .slice a9 (xs9).length c9), (3, .pointer (some ⟨b3, 0, none⟩)), (4, .pointer (some ⟨b4, 0, none⟩))] [pt b4 27 [.slice (some ⟨b49, 0, none⟩) 0 0, .slice a15_1 (aq15).length c15_1], pt b3 27 [.slice (some ⟨b51, 0, none⟩) 0 0, .slice a12_1 (aq12).length c12_1], cur b_c a_b bs.length c_b, pt b6 27 [.slice (some ⟨b51, 0, none⟩) 0 0, .slice a12_1 (aq12).length c12_1], pt b7 27 [.slice (some ⟨b49, 0, none⟩) 0 0, .slice a15_1 (aq15).length c15_1], ow eIs [.slice a15_0 (hq15).length c15_0] hq15, ow j8 [.slice a15_1 (aq15).length c15_1] aq15, ow eIs [.slice a12_0 (hq12).length c12_0] hq12, ow j8 [.slice a12_1 (aq12).length c12_1] aq12, ow eIs [.slice a9 (xs9).length c9] xs9] _
      refine Et (E.ret (v6 (o2 (A := []) (Own.nil (E := Enc.int) (e := tI) (a := (some ⟨b49, 0, none⟩))) rfl (s7 (o2 (A := []) (Own.nil (E := Enc.int) (e := tI) (a := (some ⟨b51, 0, none⟩))) rfl (C2 (K9 (n8 (n8 (n8 (n8 (n8 ?_))))))))))))
      exact a0F br rfl rfl rfl rfl (mS (mS (mS (mS (mS (mS (mS m0))))))) ty_Query rfl (mS (mS (mS (mS (mS (mS m0)))))) ty_Query rfl (xs9, [], aq12, [], aq15, (_, _, _), ((some ⟨b51, 0, none⟩), 0, 0), (_, _, _), ((some ⟨b49, 0, none⟩), 0, 0), (_, _, _)) (show (1 ≤ xs9.length ∧ xs9.length ≤ 3) ∧ sQ ([] : List Int) aq12 ∧ sQ ([] : List Int) aq15 from by first | exact ⟨⟨o9.1, o9.2.1⟩, o12.up.small, o15.up.small⟩ | exact ⟨⟨o9.1, o9.2.1⟩, R3 o12.up.small, R3 o15.up.small⟩ | exact ⟨⟨o9.1, o9.2.1⟩, o12.up.small, a3B o12⟩ | exact ⟨⟨o9.1, o9.2.1⟩, o12.up.small, a4A o12 o26⟩) rfl (J := _) (.refl _) (.inl rfl)
   ·refine Eu (n0 rfl (f8 (s4 (Et (Eq_ (Ew Z2 (Em rfl (Est rfl (N.call (pre := [_]) F0 rfl rfl rfl dc rfl (fun w Lp hA => hA.ro hbs)) (fun o54 o54 => ?_)))))))))
    replace o54 : True := o54
    try (conv => arg 5; dsimp only [List.cons_append, List.nil_append, List.append_nil])
    refine t7 (fun q54 => ?_) (fun q54 => ?_)
    ·refine Eu (o0 rfl (Ez Z4 (Em rfl (Em rfl (Est rfl (N.call (pre := [_]) S9 rfl rfl rfl dc rfl (fun w Lp hA => ⟨hA.ow (mS (mS (mS (mS (mS (mS m0)))))), hA.ro hbs⟩)) (fun k57 o57 => ?_))))))
     obtain ⟨hq57, aq57, ⟨a57_0, m57_0, c57_0⟩, ⟨a57_1, m57_1, c57_1⟩⟩ := k57
     replace o57 : dQ dT 3 3 hq57 aq57 := o57
     try (conv => arg 4; dsimp only)
     try (conv => arg 5; dsimp only [List.cons_append, List.nil_append, List.append_nil])
     refine d4 m0 fun e57_0 l57_0 => ?_
     subst e57_0
     refine d4 (mS m0) fun e57_1 l57_1 => ?_
     subst e57_1
     refine l3 (Est rfl (Ns [_, _] ty_Query rfl) (fun _ _ => (Eu (Eq_ (L5 (κ := Unit) (fun _ => True) (fun kM => [(2, .slice a9 (xs9).length c9), (3, .pointer (some ⟨b3, 0, none⟩)), (4, .pointer (some ⟨b4, 0, none⟩))]) (fun kM => [pt b4 27 [.slice a57_0 (hq57).length c57_0, .slice a57_1 (aq57).length c57_1], pt b3 27 [.slice a12_0 (hq12).length c12_0, .slice a12_1 (aq12).length c12_1], pt b7 27 [.slice a57_0 (hq57).length c57_0, .slice a57_1 (aq57).length c57_1], ow eIs [.slice a57_0 (hq57).length c57_0] hq57, ow j8 [.slice a57_1 (aq57).length c57_1] aq57, cur b_c a_b bs.length c_b, ow eIs [.slice a15_0 (hq15).length c15_0] hq15, ow j8 [.slice a15_1 (aq15).length c15_1] aq15, pt b6 27 [.slice a12_0 (hq12).length c12_0, .slice a12_1 (aq12).length c12_1], ow eIs [.slice a12_0 (hq12).length c12_0] hq12, ow j8 [.slice a12_1 (aq12).length c12_1] aq12, ow eIs [.slice a9 (xs9).length c9] xs9]) ?_ (fun kM _ => ?_))))))
     ·refine D5 [b7, b6] (fun j => true) mixed (t8 0 rfl rfl dc (i8 rfl) kr (G1 1 rfl rfl dc (H5 (cs := [_, _]) ty_Query rfl (D7.pt (mS (mS (mS (mS (mS (mS m0)))))) (by simp)) rfl) kr (G1 2 rfl rfl dc (H5 (cs := [_, _]) ty_Query rfl (D7.pt m0 (by simp)) rfl) kr (t8 3 rfl rfl dc (C0 rfl) kr (C2 (x2 4 rfl rfl kr (fun _ _ => SameI.out) (Ns [_, _] ty_Query rfl) (fun _ _ => (C2 (x2 5 rfl rfl kr (fun _ _ => SameI.out) (Ns [_, _] ty_Query rfl) (fun _ _ => (E8 kr (C2 (C2 (C2 (C2 (C2 (C2 (C2 (C2 (C2 (C2 (C2 (C2 ?_)))))))))))))))))))))))
      exact E3 () trivial ⟨rfl, rfl, rfl, trivial⟩ (.refl _)
     ·show Ent _ _ _ [(2, .slice a9 (xs9).length c9), (3, .pointer (some ⟨b3, 0, none⟩)), (4, .pointer (some ⟨b4, 0, none⟩))] [pt b4 27 [.slice a57_0 (hq57).length c57_0, .slice a57_1 (aq57).length c57_1], pt b3 27 [.slice a12_0 (hq12).length c12_0, .slice a12_1 (aq12).length c12_1], pt b7 27 [.slice a57_0 (hq57).length c57_0, .slice a57_1 (aq57).length c57_1], ow eIs [.slice a57_0 (hq57).length c57_0] hq57, ow j8 [.slice a57_1 (aq57).length c57_1] aq57, cur b_c a_b bs.length c_b, ow eIs [.slice a15_0 (hq15).length c15_0] hq15, ow j8 [.slice a15_1 (aq15).length c15_1] aq15, pt b6 27 [.slice a12_0 (hq12).length c12_0, .slice a12_1 (aq12).length c12_1], ow eIs [.slice a12_0 (hq12).length c12_0] hq12, ow j8 [.slice a12_1 (aq12).length c12_1] aq12, ow eIs [.slice a9 (xs9).length c9] xs9] _
      refine Et (E.ret (i7 (i7 (H0 (H0 (C2 (s8 (n8 (n8 (n8 (n8 (n8 ?_))))))))))))
      exact a0F br rfl rfl rfl rfl (mS (mS (mS (mS (mS (mS (mS m0))))))) ty_Query rfl (mS (mS (mS (mS (mS (mS m0)))))) ty_Query rfl (xs9, hq12, aq12, hq57, aq57, (_, _, _), (_, _, _), (_, _, _), (_, _, _), (_, _, _)) (show (1 ≤ xs9.length ∧ xs9.length ≤ 3) ∧ sQ hq12 aq12 ∧ sQ hq57 aq57 from by first | exact ⟨⟨o9.1, o9.2.1⟩, o12.up.small, o57.small⟩ | exact ⟨⟨o9.1, o9.2.1⟩, R3 o12.up.small, o57.small⟩) rfl (J := _) (.refl _) (.inl rfl)
    ·refine Eu (n0 rfl (f8 (Et (Eq_ (L5 (κ := Unit) (fun _ => True) (fun kM => [(2, .slice a9 (xs9).length c9), (3, .pointer (some ⟨b3, 0, none⟩)), (4, .pointer (some ⟨b4, 0, none⟩))]) (fun kM => [pt b4 27 [.slice a15_0 (hq15).length c15_0, .slice a15_1 (aq15).length c15_1], pt b3 27 [.slice a12_0 (hq12).length c12_0, .slice a12_1 (aq12).length c12_1], cur b_c a_b bs.length c_b, pt b7 27 [.slice a15_0 (hq15).length c15_0, .slice a15_1 (aq15).length c15_1], ow eIs [.slice a15_0 (hq15).length c15_0] hq15, ow j8 [.slice a15_1 (aq15).length c15_1] aq15, pt b6 27 [.slice a12_0 (hq12).length c12_0, .slice a12_1 (aq12).length c12_1], ow eIs [.slice a12_0 (hq12).length c12_0] hq12, ow j8 [.slice a12_1 (aq12).length c12_1] aq12, ow eIs [.slice a9 (xs9).length c9] xs9]) ?_ (fun kM _ => ?_))))))
     ·refine D5 [b7, b6] (fun j => true) mixed (t8 0 rfl rfl dc (i8 rfl) kr (G1 1 rfl rfl dc (H5 (cs := [_, _]) ty_Query rfl (D7.pt (mS (mS (mS (mS m0)))) (by simp)) rfl) kr (G1 2 rfl rfl dc (H5 (cs := [_, _]) ty_Query rfl (D7.pt (mS m0) (by simp)) rfl) kr (t8 3 rfl rfl dc (C0 rfl) kr (s7 (x2 4 rfl rfl kr (fun _ _ => SameI.out) (Ns [_, _] ty_Query rfl) (fun _ _ => (s7 (x2 5 rfl rfl kr (fun _ _ => SameI.out) (Ns [_, _] ty_Query rfl) (fun _ _ => (E8 kr (s7 (s7 (s7 (s7 (s7 (s7 (s7 (s7 (s7 (s7 ?_)))))))))))))))))))))
      exact E3 () trivial ⟨rfl, rfl, rfl, trivial⟩ (.refl _)
     ·show Ent _ _ _ [(2, .slice a9 (xs9).length c9), (3, .pointer (some ⟨b3, 0, none⟩)), (4, .pointer (some ⟨b4, 0, none⟩))] [pt b4 27 [.slice a15_0 (hq15).length c15_0, .slice a15_1 (aq15).length c15_1], pt b3 27 [.slice a12_0 (hq12).length c12_0, .slice a12_1 (aq12).length c12_1], cur b_c a_b bs.length c_b, pt b7 27 [.slice a15_0 (hq15).length c15_0, .slice a15_1 (aq15).length c15_1], ow eIs [.slice a15_0 (hq15).length c15_0] hq15, ow j8 [.slice a15_1 (aq15).length c15_1] aq15, pt b6 27 [.slice a12_0 (hq12).length c12_0, .slice a12_1 (aq12).length c12_1], ow eIs [.slice a12_0 (hq12).length c12_0] hq12, ow j8 [.slice a12_1 (aq12).length c12_1] aq12, ow eIs [.slice a9 (xs9).length c9] xs9] _
      refine Et (E.ret (n8 (n8 (s8 (s8 (s7 (K9 (n8 (n8 (n8 (n8 (n8 ?_))))))))))))
      exact a0F br rfl rfl rfl rfl (mS (mS (mS (mS (mS (mS (mS m0))))))) ty_Query rfl (mS (mS (mS (mS (mS (mS m0)))))) ty_Query rfl (xs9, hq12, aq12, hq15, aq15, (_, _, _), (_, _, _), (_, _, _), (_, _, _), (_, _, _)) (show (1 ≤ xs9.length ∧ xs9.length ≤ 3) ∧ sQ hq12 aq12 ∧ sQ hq15 aq15 from by first | exact ⟨⟨o9.1, o9.2.1⟩, o12.up.small, o15.up.small⟩ | exact ⟨⟨o9.1, o9.2.1⟩, R3 o12.up.small, R3 o15.up.small⟩ | exact ⟨⟨o9.1, o9.2.1⟩, o12.up.small, a3B o12⟩ | exact ⟨⟨o9.1, o9.2.1⟩, o12.up.small, a4A o12 o26⟩) rfl (J := _) (.refl _) (.inl rfl)
theorem a1V {code : List UInt8} (hcl : code.length ≤ 1048576) : Tr Tryz.prog 6 [.slice a_code m_code c_code] (fun w L => Ro w L P5 [.slice a_code m_code c_code] code) [] (κ := (List Int) × (List Int) × (List (Int × List Int)) × (List Int) × (List (Int × List Int)) × (Option Addr × Nat × Nat) × (Option Addr × Nat × Nat) × (Option Addr × Nat × Nat) × (Option Addr × Nat × Nat) × Option Addr × Nat × Nat) (fun k => (1 ≤ k.1.length ∧ k.1.length ≤ 3) ∧ sQ k.2.1 k.2.2.1 ∧ sQ k.2.2.2.1 k.2.2.2.2.1) (fun k => .tuple #[.slice k.2.2.2.2.2.1.1 k.2.2.2.2.2.1.2.1 k.2.2.2.2.2.1.2.2, .agg #[.slice k.2.2.2.2.2.2.1.1 k.2.2.2.2.2.2.1.2.1 k.2.2.2.2.2.2.1.2.2, .slice k.2.2.2.2.2.2.2.1.1 k.2.2.2.2.2.2.2.1.2.1 k.2.2.2.2.2.2.2.1.2.2], .agg #[.slice k.2.2.2.2.2.2.2.2.1.1 k.2.2.2.2.2.2.2.2.1.2.1 k.2.2.2.2.2.2.2.2.1.2.2, .slice k.2.2.2.2.2.2.2.2.2.1 k.2.2.2.2.2.2.2.2.2.2.1 k.2.2.2.2.2.2.2.2.2.2.2]]) (fun k => [ow eIs [.slice k.2.2.2.2.2.1.1 k.2.2.2.2.2.1.2.1 k.2.2.2.2.2.1.2.2] k.1, ow eIs [.slice k.2.2.2.2.2.2.1.1 k.2.2.2.2.2.2.1.2.1 k.2.2.2.2.2.2.1.2.2] k.2.1, ow j8 [.slice k.2.2.2.2.2.2.2.1.1 k.2.2.2.2.2.2.2.1.2.1 k.2.2.2.2.2.2.2.1.2.2] k.2.2.1, ow eIs [.slice k.2.2.2.2.2.2.2.2.1.1 k.2.2.2.2.2.2.2.2.1.2.1 k.2.2.2.2.2.2.2.2.1.2.2] k.2.2.2.1, ow j8 [.slice k.2.2.2.2.2.2.2.2.2.1 k.2.2.2.2.2.2.2.2.2.2.1 k.2.2.2.2.2.2.2.2.2.2.2] k.2.2.2.2.1]) := by
 refine Tr.intro Tryz.func6 rfl (n := 25) rfl (by decide +kernel) bl (fr := [(0, .slice a_code m_code c_code)]) rfl fun w L hR => ?_
 have hcode := hR
 obtain ⟨rfl, lcode⟩ := hcode.slen
 refine Ew Z3 (Ei rfl (Est rfl (N.alloc ty_Query dc) (fun b3 _ => (Est rfl (N.alloc ty_Query dc) (fun b4 _ => (Ev Z3 (Em rfl (Est rfl (N.call (S4 fc) rfl rfl rfl dc rfl (fun w Lp hA => hA.ro hcode)) (fun b10 _ => ?_)))))))))
 have hbs := hcode
 refine Ei rfl (Ev Z11 (Em rfl (Est rfl (N.call (pre := [_]) a5U rfl rfl rfl dc rfl (fun w Lp hA => hA.ro hbs)) (fun k13 o13 => ?_))))
 obtain ⟨xs13, hp13, ap13, hq13, aq13, ⟨a13_0, m13_0, c13_0⟩, ⟨a13_1, m13_1, c13_1⟩, ⟨a13_2, m13_2, c13_2⟩, ⟨a13_3, m13_3, c13_3⟩, ⟨a13_4, m13_4, c13_4⟩⟩ := k13
 replace o13 : (1 ≤ xs13.length ∧ xs13.length ≤ 3) ∧ sQ hp13 ap13 ∧ sQ hq13 aq13 := o13
 try (conv => arg 4; dsimp only)
 try (conv => arg 5; dsimp only [List.cons_append, List.nil_append, List.append_nil])
 refine d4 m0 fun e13_0 l13_0 => ?_
 subst e13_0
 refine d4 (mS m0) fun e13_1 l13_1 => ?_
 subst e13_1
 refine d4 (mS (mS m0)) fun e13_2 l13_2 => ?_
 subst e13_2
 refine d4 (mS (mS (mS m0))) fun e13_3 l13_3 => ?_
 subst e13_3
 refine d4 (mS (mS (mS (mS m0)))) fun e13_4 l13_4 => ?_
 subst e13_4
 refine Em rfl (Ey rfl ((Y.ext rfl rfl).yd) (Ey rfl ((Y.ext rfl rfl).yd) (Ey rfl ((Y.ext rfl rfl).yd) (Est rfl (N.alloc ty_Query dc) (fun b7 _ => (Est rfl (N.alloc ty_Query dc) (fun b8 _ => (Ei rfl (d7 (Est rfl (Ns [_, _] ty_Query rfl) (fun _ _ => (d7 (Est rfl (Ns [_, _] ty_Query rfl) (fun _ _ => (Eu (Eq_ (Ew Z2 (Em rfl (K9 (Est rfl (N.call (pre := [_]) F0 rfl rfl rfl dc rfl (fun w Lp hA => hA.ro hbs)) (fun o18 o18 => ?_)))))))))))))))))))))
 replace o18 : True := o18
 try (conv => arg 5; dsimp only [List.cons_append, List.nil_append, List.append_nil])
 refine t7 (fun q18 => ?_) (fun q18 => ?_)
 ·refine Eu (o0 rfl (Eq_ (L5 (κ := Unit) (fun _ => True) (fun kM => [(2, .slice a13_0 (xs13).length c13_0), (3, .pointer (some ⟨b3, 0, none⟩)), (4, .pointer (some ⟨b4, 0, none⟩))]) (fun kM => [pt b4 27 [.slice a13_1 (hp13).length c13_1, .slice a13_2 (ap13).length c13_2], pt b3 27 [.slice a13_3 (hq13).length c13_3, .slice a13_4 (aq13).length c13_4], cur b10 a_code code.length c_code, pt b8 27 [.slice a13_3 (hq13).length c13_3, .slice a13_4 (aq13).length c13_4], pt b7 27 [.slice a13_1 (hp13).length c13_1, .slice a13_2 (ap13).length c13_2], ow eIs [.slice a13_0 (xs13).length c13_0] xs13, ow eIs [.slice a13_1 (hp13).length c13_1] hp13, ow j8 [.slice a13_2 (ap13).length c13_2] ap13, ow eIs [.slice a13_3 (hq13).length c13_3] hq13, ow j8 [.slice a13_4 (aq13).length c13_4] aq13]) ?_ (fun kM _ => ?_))))
  ·refine D5 [b8, b7] (fun j => true) mixed (t8 0 rfl rfl dc (i8 rfl) kr (G1 1 rfl rfl dc (H5 (cs := [_, _]) ty_Query rfl (D7.pt (mS m0) (by simp)) rfl) kr (G1 2 rfl rfl dc (H5 (cs := [_, _]) ty_Query rfl (D7.pt (mS (mS m0)) (by simp)) rfl) kr (t8 3 rfl rfl dc (C0 rfl) kr (s7 (x2 4 rfl rfl kr (fun _ _ => SameI.out) (Ns [_, _] ty_Query rfl) (fun _ _ => (s7 (x2 5 rfl rfl kr (fun _ _ => SameI.out) (Ns [_, _] ty_Query rfl) (fun _ _ => (E8 kr (s7 (s7 (s7 (s7 (s7 (s7 (s7 (s7 (s7 (s7 ?_)))))))))))))))))))))
   exact E3 () trivial ⟨rfl, rfl, rfl, trivial⟩ (.refl _)
  ·show Ent _ _ _ [(2, .slice a13_0 (xs13).length c13_0), (3, .pointer (some ⟨b3, 0, none⟩)), (4, .pointer (some ⟨b4, 0, none⟩))] [pt b4 27 [.slice a13_1 (hp13).length c13_1, .slice a13_2 (ap13).length c13_2], pt b3 27 [.slice a13_3 (hq13).length c13_3, .slice a13_4 (aq13).length c13_4], cur b10 a_code code.length c_code, pt b8 27 [.slice a13_3 (hq13).length c13_3, .slice a13_4 (aq13).length c13_4], pt b7 27 [.slice a13_1 (hp13).length c13_1, .slice a13_2 (ap13).length c13_2], ow eIs [.slice a13_0 (xs13).length c13_0] xs13, ow eIs [.slice a13_1 (hp13).length c13_1] hp13, ow j8 [.slice a13_2 (ap13).length c13_2] ap13, ow eIs [.slice a13_3 (hq13).length c13_3] hq13, ow j8 [.slice a13_4 (aq13).length c13_4] aq13] _
   refine Et (E.ret (o4 (K9 (K9 (s7 (s7 (s7 (i7 (i7 (i7 (i7 (i7 ?_))))))))))))
   exact a0F br rfl rfl rfl rfl (mS (mS (mS (mS (mS (mS m0)))))) ty_Query rfl (mS (mS (mS (mS (mS m0))))) ty_Query rfl (xs13, hq13, aq13, hp13, ap13, (_, _, _), (_, _, _), (_, _, _), (_, _, _), (_, _, _)) (show (1 ≤ xs13.length ∧ xs13.length ≤ 3) ∧ sQ hq13 aq13 ∧ sQ hp13 ap13 from by first | exact ⟨o13.1, o13.2.2, o13.2.1⟩ | exact o13) rfl (J := _) (.refl _) (.inl rfl)
 ·refine Eu (n0 rfl (f8 (Et (Eq_ (L5 (κ := Unit) (fun _ => True) (fun kM => [(2, .slice a13_0 (xs13).length c13_0), (3, .pointer (some ⟨b3, 0, none⟩)), (4, .pointer (some ⟨b4, 0, none⟩))]) (fun kM => [pt b4 27 [.slice a13_3 (hq13).length c13_3, .slice a13_4 (aq13).length c13_4], pt b3 27 [.slice a13_1 (hp13).length c13_1, .slice a13_2 (ap13).length c13_2], cur b10 a_code code.length c_code, pt b8 27 [.slice a13_3 (hq13).length c13_3, .slice a13_4 (aq13).length c13_4], pt b7 27 [.slice a13_1 (hp13).length c13_1, .slice a13_2 (ap13).length c13_2], ow eIs [.slice a13_0 (xs13).length c13_0] xs13, ow eIs [.slice a13_1 (hp13).length c13_1] hp13, ow j8 [.slice a13_2 (ap13).length c13_2] ap13, ow eIs [.slice a13_3 (hq13).length c13_3] hq13, ow j8 [.slice a13_4 (aq13).length c13_4] aq13]) ?_ (fun kM _ => ?_))))))
  ·refine D5 [b8, b7] (fun j => true) mixed (t8 0 rfl rfl dc (i8 rfl) kr (G1 1 rfl rfl dc (H5 (cs := [_, _]) ty_Query rfl (D7.pt (mS (mS m0)) (by simp)) rfl) kr (G1 2 rfl rfl dc (H5 (cs := [_, _]) ty_Query rfl (D7.pt (mS m0) (by simp)) rfl) kr (t8 3 rfl rfl dc (C0 rfl) kr (s7 (x2 4 rfl rfl kr (fun _ _ => SameI.out) (Ns [_, _] ty_Query rfl) (fun _ _ => (s7 (x2 5 rfl rfl kr (fun _ _ => SameI.out) (Ns [_, _] ty_Query rfl) (fun _ _ => (E8 kr (s7 (s7 (s7 (s7 (s7 (s7 (s7 (s7 (s7 (s7 ?_)))))))))))))))))))))
   exact E3 () trivial ⟨rfl, rfl, rfl, trivial⟩ (.refl _)
  ·show Ent _ _ _ [(2, .slice a13_0 (xs13).length c13_0), (3, .pointer (some ⟨b3, 0, none⟩)), (4, .pointer (some ⟨b4, 0, none⟩))] [pt b4 27 [.slice a13_3 (hq13).length c13_3, .slice a13_4 (aq13).length c13_4], pt b3 27 [.slice a13_1 (hp13).length c13_1, .slice a13_2 (ap13).length c13_2], cur b10 a_code code.length c_code, pt b8 27 [.slice a13_3 (hq13).length c13_3, .slice a13_4 (aq13).length c13_4], pt b7 27 [.slice a13_1 (hp13).length c13_1, .slice a13_2 (ap13).length c13_2], ow eIs [.slice a13_0 (xs13).length c13_0] xs13, ow eIs [.slice a13_1 (hp13).length c13_1] hp13, ow j8 [.slice a13_2 (ap13).length c13_2] ap13, ow eIs [.slice a13_3 (hq13).length c13_3] hq13, ow j8 [.slice a13_4 (aq13).length c13_4] aq13] _
   refine Et (E.ret (s7 (s7 (s7 (s7 (s7 (i7 (i7 (i7 (i7 (i7 ?_)))))))))))
   exact a0F br rfl rfl rfl rfl (mS (mS (mS (mS (mS (mS m0)))))) ty_Query rfl (mS (mS (mS (mS (mS m0))))) ty_Query rfl (xs13, hp13, ap13, hq13, aq13, (_, _, _), (_, _, _), (_, _, _), (_, _, _), (_, _, _)) (show (1 ≤ xs13.length ∧ xs13.length ≤ 3) ∧ sQ hp13 ap13 ∧ sQ hq13 aq13 from by first | exact ⟨o13.1, o13.2.2, o13.2.1⟩ | exact o13) rfl (J := _) (.refl _) (.inl rfl)
theorem a5W {a_s : Option Addr} {m_s c_s : Nat} {s : List Int} {bs : List UInt8} (h1 : 1 ≤ s.length) (hsz : ∀ z ∈ s, 1 ≤ z ∧ z ≤ 3) : Tr Tryz.prog 77 [.pointer (some ⟨b_c, 0, none⟩), .slice a_s m_s c_s] (fun w L => Ro w L eIs [.slice a_s m_s c_s] s ∧ Ro w L P5 [.slice a_b m_b c_b] bs) [cur b_c a_b m_b c_b] (κ := (List Int) × (List (Int × List Int)) × (Option Addr × Nat × Nat) × Option Addr × Nat × Nat) (fun k => sQ k.1 k.2.1 ∧ (∀ u, w3 u (k.1, k.2.1) = true → S2 k.2.1)) (fun k => .agg #[.slice k.2.2.1.1 k.2.2.1.2.1 k.2.2.1.2.2, .slice k.2.2.2.1 k.2.2.2.2.1 k.2.2.2.2.2]) (fun k => [ow eIs [.slice k.2.2.1.1 k.2.2.1.2.1 k.2.2.1.2.2] k.1, ow j8 [.slice k.2.2.2.1 k.2.2.2.2.1 k.2.2.2.2.2] k.2.1, cur b_c a_b m_b c_b]) := by
 refine Tr.intro Tryz.func77 rfl (n := 38) rfl (by decide +kernel) bl (fr := [(0, .pointer (some ⟨b_c, 0, none⟩)), (1, .slice a_s m_s c_s)]) rfl fun w L hR => ?_
 obtain ⟨hs, hbs⟩ := hR
 obtain ⟨rfl, ls⟩ := hs.slen
 obtain ⟨rfl, lb⟩ := hbs.slen
 refine Ew Z1 (Est rfl (N.alloc ty_Query dc) (fun b4 _ => (Ev Z5 (Em rfl (Em rfl (d7 (Est rfl (N.call (pre := [_]) (Q5 fc fc) rfl rfl rfl dc rfl (fun w Lp hA => ⟨hA.ro hs, hA.ro hbs⟩)) (fun k10 o10 => ?_))))))))
 obtain ⟨hq10, aq10, ⟨a10_0, m10_0, c10_0⟩, ⟨a10_1, m10_1, c10_1⟩⟩ := k10
 replace o10 : dQ kT 3 2 hq10 aq10 := o10
 try (conv => arg 4; dsimp only)
 try (conv => arg 5; dsimp only [List.cons_append, List.nil_append, List.append_nil])
 have jl := o10.1
 have jh := o10.2.2
 have jt := (o10.2.1 _ (List.getElem_mem (show 0 < aq10.length by omega))).1
 refine d4 m0 fun e10_0 l10_0 => ?_
 subst e10_0
 refine d4 (mS m0) fun e10_1 l10_1 => ?_
 subst e10_1
 refine Est rfl (N.alloc ty_Query dc) (fun b5 _ => (Est rfl (Ns [_, _] ty_Query rfl) (fun _ _ => (Eu (Eq_ (Ew Z8 (Ey rfl ((i0 fo_Query_1 ty_Atoms dc rfl).yd) (Ey rfl (f9 ty_Atoms rfl (Hz m0 1 rfl) rfl) (Ey rfl ((Y.len us_Atoms rfl).yd) (Ey rfl ((Y.lss rfl rfl).yd) (n9 (fun q14 => ?_) (fun q14 => ?_))))))))))))
 ·refine Em rfl (Em rfl (l3 (Est rfl (N.call (pre := [_]) F0 rfl rfl rfl dc rfl (fun w Lp hA => hA.ro hbs)) (fun o17 o17 => ?_))))
  replace o17 : True := o17
  try (conv => arg 5; dsimp only [List.cons_append, List.nil_append, List.append_nil])
  refine t7 (fun q17 => ?_) (fun q17 => ?_)
  ·refine Ey rfl ((v8 rfl rfl).yd) (Eu (o0 rfl (Ew Z6 (Ey rfl ((i0 fo_Query_1 ty_Atoms dc rfl).yd) (Ey rfl (f9 ty_Atoms rfl (Hz (mS m0) 1 rfl) rfl) (a0A (mS (mS (mS m0))) om fun ab21 ae21 => (l3 (a7e (x := aq10[0]) 0 (List.getElem?_eq_getElem om) fun ce21 => ?_))))))))
   refine d7 (a1P fun oa21_1 om21_1 oc21_1 oe21 oi21_0 on21_1 => ?_)
   subst oe21
   subst on21_1
   refine Ey rfl ((t6 us_Atoms ty_Atom rfl ae21 rfl 0 rfl om).yd) (Ey rfl (j6 (cs := [_, _]) ty_Atom rfl (Has.hole ae21 (mS m0)) rfl) (Est rfl (N.alloc ty_Atom dc) (fun b6 _ => (Est rfl (Ns [_, _] ty_Atom rfl) (fun _ _ => (Ev Z7 (Ey rfl ((i0 fo_Atom_0 f6 dc rfl).yd) (Ey rfl (f9 f6 rfl (Hz m0 0 rfl) rfl) (Ey rfl ((i0 fo_Atom_1 ty_Is dc rfl).yd) (Ey rfl (f9 ty_Is rfl (Hz m0 1 rfl) rfl) (Est rfl (N.call (a0O fc) rfl rfl rfl dc rfl (fun w Lp hA => ⟨oi21_0, hA.ow (mS m0)⟩)) (fun k27 _ => ?_))))))))))))
   obtain ⟨a27, m27, c27⟩ := k27
   try (conv => arg 4; dsimp only)
   try (conv => arg 5; dsimp only [List.cons_append, List.nil_append, List.append_nil])
   refine d4 m0 fun e27 l27 => ?_
   subst e27
   refine Est rfl (N.alloc ty_Atom dc) (fun b7 _ => (Est rfl (Ns [_, _] ty_Atom rfl) (fun _ _ => (Ev Z4 (l3 (i7 (a9O (H2 (x := aq10[0]) oi21_0 Own.ow) rfl (i9 (congrArg (ow j8 [_]) (List.set_getElem_self om)) (Ey rfl ((i0 fo_Atom_1 ty_Is dc rfl).yd) (Ey rfl (f9 ty_Is rfl (Hz (mS m0) 1 rfl) rfl) (a0A (mS (mS m0)) om fun ab30 ae30 => (Ey rfl ((t6 us_Is f6 rfl ae30 rfl 0 rfl om).yd) (g9 (Est rfl (N.set (E := Enc.int) (j := 0) (ex := 15) (ce := [_]) f6 rfl rfl rfl rfl (Own.int i6) ae30 (Nat.zero_add _) rfl (by first | (simp; omega) | omega | (simp; done))) (fun _ _ => (Eu (Ez Z7 (Ey rfl ((i0 fo_Query_1 ty_Atoms dc rfl).yd) (Ey rfl (f9 ty_Atoms rfl ((Has.pt (mS (mS (mS (mS (mS m0)))))).sub (cs' := [_]) 1 rfl) rfl) (Ey rfl (j6 (cs := [_, _]) ty_Atom rfl (Has.pt (mS (mS m0))) rfl) (Est rfl (Nb [_] [_, _] us_Atoms ty_Atom rfl rfl) (fun b34 _ => (d7 (d7 (g9 (Est rfl (v7 (E := N3) (ex := (aq10[0].1, aq10[0].2.set 0 15)) us_Atoms ty_Atom rfl rfl rfl (H2 (x := (aq10[0].1, aq10[0].2.set 0 15)) oi21_0 Own.ow) rfl bn bn dc) (fun p35 _ => (Ey rfl ((i0 fo_Query_1 ty_Atoms dc rfl).yd) (i7 (Est rfl (Ns [_, _] ty_Atoms rfl) (fun _ _ => (Ev Z2 (Ey rfl (j6 (cs := [_, _]) ty_Query rfl (Has.pt m0) rfl) (v6 (Est rfl (Ns [_, _] ty_Query rfl) (fun _ _ => (Eu (E.ret (g9 (v6 (v6 (g9 (g9 ?_)))))))))))))))))))))))))))))))))))))))))))
   exact H8 br rfl rfl (mS (mS (mS m0))) ty_Query rfl (hq10, aq10 ++ [(aq10[0].1, aq10[0].2.set 0 15)], (_, _, _), (_, _, _)) (show sQ hq10 (aq10 ++ [(aq10[0].1, aq10[0].2.set 0 15)]) ∧ (∀ u, w3 u (hq10, (aq10 ++ [(aq10[0].1, aq10[0].2.set 0 15)])) = true → S2 (aq10 ++ [(aq10[0].1, aq10[0].2.set 0 15)])) from by first | exact ⟨o10.up.small, fun u _ => a2c (o10.mono a6f (Nat.le_refl _) (Nat.le_refl _)).2.1⟩ | exact ⟨(a0r o10).small4, fun u _ => a2c (a0r o10).2.1⟩) rfl (J := _) (.refl _) (.inl rfl)
  ·refine Ey rfl ((v8 rfl rfl).yd) (Eu (n0 rfl (f8 (Et (Ew Z2 (Ey rfl (j6 (cs := [_, _]) ty_Query rfl (Has.pt (mS m0)) rfl) (i7 (Est rfl (Ns [_, _] ty_Query rfl) (fun _ _ => (Eu (E.ret (i7 (i7 (l3 (g9 (g9 ?_))))))))))))))))
   exact H8 br rfl rfl (mS (mS (mS m0))) ty_Query rfl (hq10, aq10, (_, _, _), (_, _, _)) (show sQ hq10 aq10 ∧ (∀ u, w3 u (hq10, aq10) = true → S2 aq10) from by first | exact ⟨o10.up.small, fun u _ => a2c (o10.mono a6f (Nat.le_refl _) (Nat.le_refl _)).2.1⟩ | exact ⟨(a0r o10).small4, fun u _ => a2c (a0r o10).2.1⟩) rfl (J := _) (.refl _) (.inl rfl)
 ·refine Em rfl (Es rfl (Es rfl (Ey rfl ((u7 rfl rfl).yd) (Eu (n0 rfl (f8 (Et (Ew Z2 (Ey rfl (j6 (cs := [_, _]) ty_Query rfl (Has.pt m0) rfl) (i7 (Est rfl (Ns [_, _] ty_Query rfl) (fun _ _ => (Eu (E.ret (l3 (l3 (i7 (g9 (g9 ?_)))))))))))))))))))
  exact H8 br rfl rfl (mS (mS (mS m0))) ty_Query rfl (hq10, aq10, (_, _, _), (_, _, _)) (show sQ hq10 aq10 ∧ (∀ u, w3 u (hq10, aq10) = true → S2 aq10) from by first | exact ⟨o10.up.small, fun u _ => a2c (o10.mono a6f (Nat.le_refl _) (Nat.le_refl _)).2.1⟩ | exact ⟨(a0r o10).small4, fun u _ => a2c (a0r o10).2.1⟩) rfl (J := _) (.refl _) (.inl rfl)
theorem a3N {code : List UInt8} (hcl : code.length ≤ 1048576) : Tr Tryz.prog 21 [.slice a_code m_code c_code] (fun w L => Ro w L P5 [.slice a_code m_code c_code] code) [] (κ := (List Int) × (List Int) × (List (Int × List Int)) × (Option Addr × Nat × Nat) × (Option Addr × Nat × Nat) × Option Addr × Nat × Nat) (fun k => k.1.length ≤ 3 ∧ sQ k.2.1 k.2.2.1 ∧ (∀ u, w3 u (k.2.1, k.2.2.1) = true → S2 k.2.2.1)) (fun k => .tuple #[.slice k.2.2.2.1.1 k.2.2.2.1.2.1 k.2.2.2.1.2.2, .agg #[.slice k.2.2.2.2.1.1 k.2.2.2.2.1.2.1 k.2.2.2.2.1.2.2, .slice k.2.2.2.2.2.1 k.2.2.2.2.2.2.1 k.2.2.2.2.2.2.2]]) (fun k => [ow eIs [.slice k.2.2.2.1.1 k.2.2.2.1.2.1 k.2.2.2.1.2.2] k.1, ow eIs [.slice k.2.2.2.2.1.1 k.2.2.2.2.1.2.1 k.2.2.2.2.1.2.2] k.2.1, ow j8 [.slice k.2.2.2.2.2.1 k.2.2.2.2.2.2.1 k.2.2.2.2.2.2.2] k.2.2.1]) := by
 refine Tr.intro Tryz.func21 rfl (n := 20) rfl (by decide +kernel) bl (fr := [(0, .slice a_code m_code c_code)]) rfl fun w L hR => ?_
 have hcode := hR
 obtain ⟨rfl, lcode⟩ := hcode.slen
 refine Ew Z2 (Ei rfl (Est rfl (N.alloc ty_Query dc) (fun b3 _ => (Ev Z3 (Em rfl (Est rfl (N.call (S4 fo) rfl rfl rfl dc rfl (fun w Lp hA => hA.ro hcode)) (fun b7 _ => ?_)))))))
 have hbs := hcode
 refine Ei rfl (Ev Z3 (Em rfl (Est rfl (N.call (pre := [_]) V7 rfl rfl rfl dc rfl (fun w Lp hA => hA.ro hbs)) (fun k9 o9 => ?_))))
 obtain ⟨xs9, ⟨a9, m9, c9⟩⟩ := k9
 replace o9 : 1 ≤ xs9.length ∧ xs9.length ≤ 3 ∧ ∀ z ∈ xs9, 1 ≤ z ∧ z ≤ 3 := o9
 try (conv => arg 4; dsimp only)
 try (conv => arg 5; dsimp only [List.cons_append, List.nil_append, List.append_nil])
 refine d4 m0 fun e9 l9 => ?_
 subst e9
 refine Ei rfl (Eu (Eq_ (Ew Z2 (Em rfl (d7 (Est rfl (N.call (pre := [_]) F0 rfl rfl rfl dc rfl (fun w Lp hA => hA.ro hbs)) (fun o11 o11 => ?_)))))))
 replace o11 : True := o11
 try (conv => arg 5; dsimp only [List.cons_append, List.nil_append, List.append_nil])
 refine t7 (fun q11 => ?_) (fun q11 => ?_)
 ·refine Eu (o0 rfl (Ew Z6 (Em rfl (Em rfl (Em rfl (Est rfl (N.call (pre := [_]) S9 rfl rfl rfl dc rfl (fun w Lp hA => ⟨hA.ow m0, hA.ro hbs⟩)) (fun k15 o15 => ?_)))))))
  obtain ⟨hq15, aq15, ⟨a15_0, m15_0, c15_0⟩, ⟨a15_1, m15_1, c15_1⟩⟩ := k15
  replace o15 : dQ dT 3 3 hq15 aq15 := o15
  try (conv => arg 4; dsimp only)
  try (conv => arg 5; dsimp only [List.cons_append, List.nil_append, List.append_nil])
  refine d4 m0 fun e15_0 l15_0 => ?_
  subst e15_0
  refine d4 (mS m0) fun e15_1 l15_1 => ?_
  subst e15_1
  refine Ei rfl (i7 (Est rfl (Ns [_, _] ty_Query rfl) (fun _ _ => (Eu (E.ret (o4 (g9 (g9 (i7 (g9 (g9 (g9 ?_))))))))))))
  exact b1q br rfl rfl rfl (mS (mS (mS m0))) ty_Query rfl (xs9, hq15, aq15, (_, _, _), (_, _, _), (_, _, _)) (show xs9.length ≤ 3 ∧ sQ hq15 aq15 ∧ (∀ u, w3 u (hq15, aq15) = true → S2 aq15) from by exact ⟨o9.2.1, o15.small, fun u h => b0Y o15.2.1 h⟩) rfl (J := _) (.refl _) (.inl rfl)
 ·refine Eu (n0 rfl (f8 (Et (Ew Z6 (Em rfl (Em rfl (Em rfl (Est rfl (N.call (pre := [_]) (a5W o9.1 o9.2.2) rfl rfl rfl dc rfl (fun w Lp hA => ⟨hA.ow m0, hA.ro hbs⟩)) (fun k19 o19 => ?_)))))))))
  obtain ⟨hq19, aq19, ⟨a19_0, m19_0, c19_0⟩, ⟨a19_1, m19_1, c19_1⟩⟩ := k19
  replace o19 : sQ hq19 aq19 ∧ (∀ u, w3 u (hq19, aq19) = true → S2 aq19) := o19
  try (conv => arg 4; dsimp only)
  try (conv => arg 5; dsimp only [List.cons_append, List.nil_append, List.append_nil])
  refine d4 m0 fun e19_0 l19_0 => ?_
  subst e19_0
  refine d4 (mS m0) fun e19_1 l19_1 => ?_
  subst e19_1
  refine Ei rfl (i7 (Est rfl (Ns [_, _] ty_Query rfl) (fun _ _ => (Eu (E.ret (g9 (g9 (i7 (g9 (g9 (g9 ?_)))))))))))
  exact b1q br rfl rfl rfl (mS (mS (mS m0))) ty_Query rfl (xs9, hq19, aq19, (_, _, _), (_, _, _), (_, _, _)) (show xs9.length ≤ 3 ∧ sQ hq19 aq19 ∧ (∀ u, w3 u (hq19, aq19) = true → S2 aq19) from by exact ⟨o9.2.1, o19⟩) rfl (J := _) (.refl _) (.inl rfl)
end Go.Proofs.YtbedienpleiamaaGreat
