import Derived.Test.YtbedienpleiamaaGreatT123
import Derived.Test.YtbedienpleiamaaGreatT28
import Derived.Test.YtbedienpleiamaaGreatHg
namespace Go.Proofs.YtbedienpleiamaaGreat
open Go.RowKit
set_option linter.all false
set_option maxHeartbeats 2000000
attribute [local irreducible] Nop Yd Yp Ent Has Tr FnP FnP2 Src O1 S7 W5 X5 I0
theorem a3O {a_code : Option Addr} {m_code c_code : Nat} {code : List UInt8} : Tr Tryz.prog 3 [.slice a_code m_code c_code] (fun w L => Ro w L P5 [.slice a_code m_code c_code] code) [] (κ := Unit) (fun k => True) (fun k => .bool (true)) (fun k => []) := by
 refine Tr.intro Tryz.func3 rfl (n := 227) rfl (by decide +kernel) bl (fr := [(0, .slice a_code m_code c_code)]) rfl fun w L hR => ?_
 have hcode := hR
 obtain ⟨rfl, lcode⟩ := hcode.slen
 refine Ew Z1 (Ei rfl (Eu (Eq_ (Ew Z2 (Em rfl (Est rfl (m6 a7T rfl rfl rfl dc (fun w Lp hA => hA.ro hcode)) (fun _ _ => (t7 (fun q33 => ?_) (fun q33 => ?_)))))))))
 ·refine Eu (o0 rfl (Ew Z1 (Ei rfl ?_)))
  exact Eu (E.ret (o4 (Fg rfl rfl () rfl rfl)))
 ·have hcl : code.length ≤ 1048576 := by have := of_decide_eq_false q33; omega
  refine Eu (n0 rfl (f8 (Et (Ew Z11 (Em rfl (Est rfl (N.call (a1V (by first | assumption | omega)) rfl rfl rfl dc rfl (fun w Lp hA => hA.ro hcode)) (fun k36 o36 => ?_)))))))
  obtain ⟨xs36, hp36, ap36, hq36, aq36, ⟨a36_0, m36_0, c36_0⟩, ⟨a36_1, m36_1, c36_1⟩, ⟨a36_2, m36_2, c36_2⟩, ⟨a36_3, m36_3, c36_3⟩, ⟨a36_4, m36_4, c36_4⟩⟩ := k36
  replace o36 : (1 ≤ xs36.length ∧ xs36.length ≤ 3) ∧ sQ hp36 ap36 ∧ sQ hq36 aq36 := o36
  try (conv => arg 4; dsimp only)
  try (conv => arg 5; dsimp only [List.cons_append, List.nil_append, List.append_nil])
  have jp := a0H o36.2.1
  have jq := a0H o36.2.2
  have jhp := o36.2.1.2.2
  refine d4 m0 fun e36_0 l36_0 => ?_
  subst e36_0
  refine d4 (mS m0) fun e36_1 l36_1 => ?_
  subst e36_1
  refine d4 (mS (mS m0)) fun e36_2 l36_2 => ?_
  subst e36_2
  refine d4 (mS (mS (mS m0))) fun e36_3 l36_3 => ?_
  subst e36_3
  refine d4 (mS (mS (mS (mS m0)))) fun e36_4 l36_4 => ?_
  subst e36_4
  refine w9 (A := [_]) rfl fun wb1 Lb1 hB1 hA1 => ?_
  have hcode := hA1.ro hcode
  have rb1 : Ro wb1 Lb1 eIs [.slice a36_0 (xs36).length c36_0] xs36 := hA1.ow m0
  refine w9 (A := [_]) rfl fun wb2 Lb2 hB2 hA2 => ?_
  have hcode := hA2.ro hcode
  have rb1 := hA2.ro rb1
  have rb2 : Ro wb2 Lb2 eIs [.slice a36_1 (hp36).length c36_1] hp36 := hA2.ow m0
  refine w9 (A := [_]) rfl fun wb3 Lb3 hB3 hA3 => ?_
  have hcode := hA3.ro hcode
  have rb1 := hA3.ro rb1
  have rb2 := hA3.ro rb2
  have rb3 : Ro wb3 Lb3 j8 [.slice a36_2 (ap36).length c36_2] ap36 := hA3.ow m0
  refine w9 (A := [_]) rfl fun wb4 Lb4 hB4 hA4 => ?_
  have hcode := hA4.ro hcode
  have rb1 := hA4.ro rb1
  have rb2 := hA4.ro rb2
  have rb3 := hA4.ro rb3
  have rb4 : Ro wb4 Lb4 eIs [.slice a36_3 (hq36).length c36_3] hq36 := hA4.ow m0
  refine w9 (A := [_]) rfl fun wb5 Lb5 hB5 hA5 => ?_
  have hcode := hA5.ro hcode
  have rb1 := hA5.ro rb1
  have rb2 := hA5.ro rb2
  have rb3 := hA5.ro rb3
  have rb4 := hA5.ro rb4
  have rb5 : Ro wb5 Lb5 j8 [.slice a36_4 (aq36).length c36_4] aq36 := hA5.ow m0
  refine Em rfl (Ey rfl ((Y.ext rfl rfl).yd) (Ey rfl ((Y.ext rfl rfl).yd) (Ey rfl ((Y.ext rfl rfl).yd) (Est rfl (N.alloc ty_Query dc) (fun b4 _ => (Est rfl (N.alloc ty_Query dc) (fun b5 _ => (Ei rfl (d7 (Est rfl (Ns [_, _] ty_Query rfl) (fun _ _ => (d7 (Est rfl (Ns [_, _] ty_Query rfl) (fun _ _ => (Ev Z5 (Em rfl (Ey rfl (j6 (cs := [_, _]) ty_Query rfl (Has.pt (mS m0)) rfl) (Ey rfl (j6 (cs := [_, _]) ty_Query rfl (Has.pt m0) rfl) (Est rfl (m6 (J3 (by first | assumption | omega) (by first | assumption | omega)) rfl rfl rfl dc (fun w Lp hA => ⟨hA.ro rb1, hA.ro rb2, hA.ro rb3, hA.ro rb4, hA.ro rb5⟩)) (fun _ _ => (Ei rfl (Ev Z10 (Em rfl (Est rfl (N.call (a2u (by first | assumption | omega)) rfl rfl rfl dc rfl (fun w Lp hA => hA.ro hcode)) (fun k46 o46 => ?_)))))))))))))))))))))))))
  obtain ⟨xs46, hq46, aq46, fl46, ⟨a46_0, m46_0, c46_0⟩, ⟨a46_1, m46_1, c46_1⟩, ⟨a46_2, m46_2, c46_2⟩, ⟨a46_3, m46_3, c46_3⟩⟩ := k46
  replace o46 : (1 ≤ xs46.length ∧ xs46.length ≤ 4) ∧ dQ dT 3 3 hq46 aq46 ∧ fl46.length ≤ 9 ∧ ∀ f ∈ fl46, 1 ≤ f.2.length ∧ f.2.length ≤ 4 := o46
  try (conv => arg 4; dsimp only)
  try (conv => arg 5; dsimp only [List.cons_append, List.nil_append, List.append_nil])
  have jf := o46.2.2.1
  refine d4 m0 fun e46_0 l46_0 => ?_
  subst e46_0
  refine d4 (mS m0) fun e46_1 l46_1 => ?_
  subst e46_1
  refine d4 (mS (mS m0)) fun e46_2 l46_2 => ?_
  subst e46_2
  refine d4 (mS (mS (mS m0))) fun e46_3 l46_3 => ?_
  subst e46_3
  refine w9 (A := [_]) rfl fun wb6 Lb6 hB6 hA6 => ?_
  have hcode := hA6.ro hcode
  have rb1 := hA6.ro rb1
  have rb2 := hA6.ro rb2
  have rb3 := hA6.ro rb3
  have rb4 := hA6.ro rb4
  have rb5 := hA6.ro rb5
  have rb6 : Ro wb6 Lb6 eIs [.slice a46_0 (xs46).length c46_0] xs46 := hA6.ow m0
  refine w9 (A := [_]) rfl fun wb7 Lb7 hB7 hA7 => ?_
  have hcode := hA7.ro hcode
  have rb1 := hA7.ro rb1
  have rb2 := hA7.ro rb2
  have rb3 := hA7.ro rb3
  have rb4 := hA7.ro rb4
  have rb5 := hA7.ro rb5
  have rb6 := hA7.ro rb6
  have rb7 : Ro wb7 Lb7 eIs [.slice a46_1 (hq46).length c46_1] hq46 := hA7.ow m0
  refine w9 (A := [_]) rfl fun wb8 Lb8 hB8 hA8 => ?_
  have hcode := hA8.ro hcode
  have rb1 := hA8.ro rb1
  have rb2 := hA8.ro rb2
  have rb3 := hA8.ro rb3
  have rb4 := hA8.ro rb4
  have rb5 := hA8.ro rb5
  have rb6 := hA8.ro rb6
  have rb7 := hA8.ro rb7
  have rb8 : Ro wb8 Lb8 j8 [.slice a46_2 (aq46).length c46_2] aq46 := hA8.ow m0
  refine w9 (A := [_]) rfl fun wb9 Lb9 hB9 hA9 => ?_
  have hcode := hA9.ro hcode
  have rb1 := hA9.ro rb1
  have rb2 := hA9.ro rb2
  have rb3 := hA9.ro rb3
  have rb4 := hA9.ro rb4
  have rb5 := hA9.ro rb5
  have rb6 := hA9.ro rb6
  have rb7 := hA9.ro rb7
  have rb8 := hA9.ro rb8
  have rb9 : Ro wb9 Lb9 u5 [.slice a46_3 (fl46).length c46_3] fl46 := hA9.ow m0
  refine Em rfl (Ey rfl ((Y.ext rfl rfl).yd) (Ey rfl ((Y.ext rfl rfl).yd) (Ey rfl ((Y.ext rfl rfl).yd) (Est rfl (N.alloc ty_Query dc) (fun b8 _ => (Ei rfl (Est rfl (Ns [_, _] ty_Query rfl) (fun _ _ => (Ei rfl (Eu (Eq_ (Eq_ (L5 (κ := Unit) (fun _ => True) (fun kM => [(0, .slice a_code code.length c_code), (3, .slice a36_0 (xs36).length c36_0), (4, .pointer (some ⟨b4, 0, none⟩)), (89, .bool false)]) (fun kM => [pt b8 27 [.slice a46_1 (hq46).length c46_1, .slice a46_2 (aq46).length c46_2], pt b5 27 [.slice a36_3 (hq36).length c36_3, .slice a36_4 (aq36).length c36_4], pt b4 27 [.slice a36_1 (hp36).length c36_1, .slice a36_2 (ap36).length c36_2]]) ?_ (fun kM _ => ?_))))))))))))))
  ·refine D.region (fun j => true) mixed (Dyp 0 rfl (i8 rfl) (Dyp 1 rfl (i8 rfl) (Dy 2 rfl (j6 (cs := [_, _]) ty_Query rfl (Has.pt (mS (mS m0))) rfl) (Dy 3 rfl (j6 (cs := [_, _]) ty_Query rfl (Has.pt (mS m0)) rfl) (r8 4 rfl rfl kr (fun _ => rfl) (m6 (R6 (by first | assumption | omega) (by first | assumption | omega)) rfl rfl rfl dc (fun w Lp hA => ⟨hA.ro rb1, hA.ro rb2, hA.ro rb3, hA.ro rb4, hA.ro rb5⟩)) (fun _ _ => (Dyp 5 rfl (a0N kr rfl rfl) (n9 (fun q55 => ?_) (fun q55 => ?_)))))))))
   ·exact absurd q55 (by simp)
   ·refine Dyp 6 rfl (i8 rfl) (Dyp 7 rfl (i8 rfl) (t7 (fun q57 => ?_) (fun q57 => ?_)))
    ·refine Dyp 8 rfl (i8 rfl) (Dyp 9 rfl (i8 rfl) (Dyp 10 rfl (i8 rfl) (r8 11 rfl rfl kr (fun _ => rfl) (m6 a1x rfl rfl rfl dc (fun w Lp hA => ⟨hA.ro rb1, hA.ro rb9⟩)) (fun _ _ => (t7 (fun q61 => ?_) (fun q61 => ?_))))))
     ·refine Dyp 12 rfl (v8 rfl rfl) (Dyp 13 rfl (i8 rfl) (Dyp 14 rfl (i8 rfl) (Dy 15 rfl (j6 (cs := [_, _]) ty_Query rfl (Has.pt (mS (mS m0))) rfl) (Dyp 16 rfl (i8 rfl) (Dyp 18 rfl (i8 rfl) (Dy 19 rfl (j6 (cs := [_, _]) ty_Query rfl (Has.pt (mS m0)) rfl) (Dyp 20 rfl (i8 rfl) (r8 17 rfl rfl kr (fun _ => rfl) (N.call (a1n (by first | assumption | omega)) rfl rfl rfl dc rfl (fun w Lp hA => ⟨hA.ro rb1, hA.ro rb2, hA.ro rb3, hA.ro rb9⟩)) (fun k67 _ => ?_)))))))))
      obtain ⟨a67, m67, c67⟩ := k67
      refine d4 m0 fun e67 l67 => ?_
      subst e67
      refine r8 21 rfl rfl kr (fun _ => rfl) (N.call (a1n (by first | assumption | omega)) rfl rfl rfl dc rfl (fun w Lp hA => ⟨hA.ro rb1, hA.ro rb4, hA.ro rb5, hA.ro rb9⟩)) (fun k71 _ => ?_)
      obtain ⟨a71, m71, c71⟩ := k71
      refine d4 m0 fun e71 l71 => ?_
      subst e71
      refine r8 22 rfl rfl kr (fun _ => rfl) (m6 a6d rfl rfl rfl dc (fun w Lp hA => ⟨hA.ow (mS m0), hA.ow m0⟩)) (fun _ _ => (t7 (fun q72 => ?_) (fun q72 => ?_)))
      ·refine Dyp 23 rfl (Y.not (b := true) rfl) (Dyp 24 rfl (v8 rfl rfl) (Dyp 25 rfl (u7 rfl rfl) (Dyp 26 rfl (i8 rfl) (Dyp 27 rfl (i8 rfl) (Dy 28 rfl (j6 (cs := [_, _]) ty_Query rfl (Has.pt (mS (mS (mS (mS m0))))) rfl) (Dy 29 rfl (j6 (cs := [_, _]) ty_Query rfl (Has.pt (mS (mS (mS m0)))) rfl) (Dyp 31 rfl (i8 rfl) (t7 (fun q81 => ?_) (fun q81 => ?_)))))))))
       ·refine r8 30 rfl rfl kr (fun _ => rfl) (m6 (I9 (by first | assumption | omega) (by first | assumption | omega)) rfl rfl rfl dc (fun w Lp hA => ⟨hA.ro rb1, hA.ro rb2, hA.ro rb3, hA.ro rb4, hA.ro rb5⟩)) (fun _ _ => (Dyp 32 rfl (i8 rfl) (Dyp 33 rfl (i8 rfl) (Dy 34 rfl (j6 (cs := [_, _]) ty_Query rfl (Has.pt (mS (mS (mS m0)))) rfl) (Dy 35 rfl (j6 (cs := [_, _]) ty_Query rfl (Has.pt (mS (mS (mS (mS m0))))) rfl) (r8 36 rfl rfl kr (fun _ => rfl) (m6 (J3 (by first | assumption | omega) (by first | assumption | omega)) rfl rfl rfl dc (fun w Lp hA => ⟨hA.ro rb1, hA.ro rb4, hA.ro rb5, hA.ro rb2, hA.ro rb3⟩)) (fun _ _ => (Dyp 37 rfl (v8 rfl rfl) (Dyp 38 rfl (a0N kr rfl rfl) (n9 (fun q88 => ?_) (fun q88 => ?_)))))))))))
        ·exact absurd (by rw [q81]; rfl) q88
        ·refine Dyp 39 rfl (u7 rfl rfl) (r7 kr (Ent.drop (Ent.drop (g9 (g9 (g9 ?_))))))
         exact E3 () trivial ⟨rfl, rfl, rfl, rfl, trivial⟩ (.refl _)
       ·refine r8 30 rfl rfl kr (fun _ => rfl) (m6 (I9 (by first | assumption | omega) (by first | assumption | omega)) rfl rfl rfl dc (fun w Lp hA => ⟨hA.ro rb1, hA.ro rb2, hA.ro rb3, hA.ro rb4, hA.ro rb5⟩)) (fun _ _ => (Dyp 32 rfl (i8 rfl) (Dsk 33 rfl (Dsk 34 rfl (Dsk 35 rfl (Dsk 36 rfl (Dyp 37 rfl (u7 rfl rfl) (Dyp 38 rfl (a0N kr rfl rfl) (n9 (fun q88 => ?_) (fun q88 => ?_))))))))))
        ·exact absurd (by rw [q81]; rfl) q88
        ·refine Dyp 39 rfl (u7 rfl rfl) (r7 kr (Ent.drop (Ent.drop (g9 (g9 (g9 ?_))))))
         exact E3 () trivial ⟨rfl, rfl, rfl, rfl, trivial⟩ (.refl _)
      ·exact absurd (b1d q57 q61) (by rw [q72]; decide)
     ·refine Dyp 12 rfl (v8 rfl rfl) (Dyp 13 rfl (i8 rfl) (Dsk 14 rfl (Dsk 15 rfl (Dsk 16 rfl (Dsk 17 rfl (Dsk 18 rfl (Dsk 19 rfl (Dsk 20 rfl (Dsk 21 rfl (Dsk 22 rfl (Dsk 23 rfl (Dyp 24 rfl (u7 rfl rfl) (Dyp 25 rfl (u7 rfl rfl) (Dyp 26 rfl (i8 rfl) (Dyp 27 rfl (i8 rfl) (Dy 28 rfl (j6 (cs := [_, _]) ty_Query rfl (Has.pt (mS (mS m0))) rfl) (Dy 29 rfl (j6 (cs := [_, _]) ty_Query rfl (Has.pt (mS m0)) rfl) (Dyp 31 rfl (i8 rfl) (t7 (fun q81 => ?_) (fun q81 => ?_))))))))))))))))))))
      ·refine r8 30 rfl rfl kr (fun _ => rfl) (m6 (I9 (by first | assumption | omega) (by first | assumption | omega)) rfl rfl rfl dc (fun w Lp hA => ⟨hA.ro rb1, hA.ro rb2, hA.ro rb3, hA.ro rb4, hA.ro rb5⟩)) (fun _ _ => (Dyp 32 rfl (i8 rfl) (Dyp 33 rfl (i8 rfl) (Dy 34 rfl (j6 (cs := [_, _]) ty_Query rfl (Has.pt (mS m0)) rfl) (Dy 35 rfl (j6 (cs := [_, _]) ty_Query rfl (Has.pt (mS (mS m0))) rfl) (r8 36 rfl rfl kr (fun _ => rfl) (m6 (J3 (by first | assumption | omega) (by first | assumption | omega)) rfl rfl rfl dc (fun w Lp hA => ⟨hA.ro rb1, hA.ro rb4, hA.ro rb5, hA.ro rb2, hA.ro rb3⟩)) (fun _ _ => (Dyp 37 rfl (v8 rfl rfl) (Dyp 38 rfl (a0N kr rfl rfl) (n9 (fun q88 => ?_) (fun q88 => ?_)))))))))))
       ·exact absurd (by rw [q81]; rfl) q88
       ·refine Dyp 39 rfl (u7 rfl rfl) (r7 kr (g9 (g9 (g9 ?_))))
        exact E3 () trivial ⟨rfl, rfl, rfl, rfl, trivial⟩ (.refl _)
      ·refine r8 30 rfl rfl kr (fun _ => rfl) (m6 (I9 (by first | assumption | omega) (by first | assumption | omega)) rfl rfl rfl dc (fun w Lp hA => ⟨hA.ro rb1, hA.ro rb2, hA.ro rb3, hA.ro rb4, hA.ro rb5⟩)) (fun _ _ => (Dyp 32 rfl (i8 rfl) (Dsk 33 rfl (Dsk 34 rfl (Dsk 35 rfl (Dsk 36 rfl (Dyp 37 rfl (u7 rfl rfl) (Dyp 38 rfl (a0N kr rfl rfl) (n9 (fun q88 => ?_) (fun q88 => ?_))))))))))
       ·exact absurd (by rw [q81]; rfl) q88
       ·refine Dyp 39 rfl (u7 rfl rfl) (r7 kr (g9 (g9 (g9 ?_))))
        exact E3 () trivial ⟨rfl, rfl, rfl, rfl, trivial⟩ (.refl _)
    ·refine Dyp 8 rfl (i8 rfl) (Dsk 9 rfl (Dsk 10 rfl (Dsk 11 rfl (Dyp 12 rfl (u7 rfl rfl) (Dyp 13 rfl (i8 rfl) (Dsk 14 rfl (Dsk 15 rfl (Dsk 16 rfl (Dsk 17 rfl (Dsk 18 rfl (Dsk 19 rfl (Dsk 20 rfl (Dsk 21 rfl (Dsk 22 rfl (Dsk 23 rfl (Dyp 24 rfl (u7 rfl rfl) (Dyp 25 rfl (u7 rfl rfl) (Dyp 26 rfl (i8 rfl) (Dyp 27 rfl (i8 rfl) (Dy 28 rfl (j6 (cs := [_, _]) ty_Query rfl (Has.pt (mS (mS m0))) rfl) (Dy 29 rfl (j6 (cs := [_, _]) ty_Query rfl (Has.pt (mS m0)) rfl) (Dyp 31 rfl (i8 rfl) (t7 (fun q81 => ?_) (fun q81 => ?_))))))))))))))))))))))))
     ·refine r8 30 rfl rfl kr (fun _ => rfl) (m6 (I9 (by first | assumption | omega) (by first | assumption | omega)) rfl rfl rfl dc (fun w Lp hA => ⟨hA.ro rb1, hA.ro rb2, hA.ro rb3, hA.ro rb4, hA.ro rb5⟩)) (fun _ _ => (Dyp 32 rfl (i8 rfl) (Dyp 33 rfl (i8 rfl) (Dy 34 rfl (j6 (cs := [_, _]) ty_Query rfl (Has.pt (mS m0)) rfl) (Dy 35 rfl (j6 (cs := [_, _]) ty_Query rfl (Has.pt (mS (mS m0))) rfl) (r8 36 rfl rfl kr (fun _ => rfl) (m6 (J3 (by first | assumption | omega) (by first | assumption | omega)) rfl rfl rfl dc (fun w Lp hA => ⟨hA.ro rb1, hA.ro rb4, hA.ro rb5, hA.ro rb2, hA.ro rb3⟩)) (fun _ _ => (Dyp 37 rfl (v8 rfl rfl) (Dyp 38 rfl (a0N kr rfl rfl) (n9 (fun q88 => ?_) (fun q88 => ?_)))))))))))
      ·exact absurd (by rw [q81]; rfl) q88
      ·refine Dyp 39 rfl (u7 rfl rfl) (r7 kr (g9 (g9 (g9 ?_))))
       exact E3 () trivial ⟨rfl, rfl, rfl, rfl, trivial⟩ (.refl _)
     ·refine r8 30 rfl rfl kr (fun _ => rfl) (m6 (I9 (by first | assumption | omega) (by first | assumption | omega)) rfl rfl rfl dc (fun w Lp hA => ⟨hA.ro rb1, hA.ro rb2, hA.ro rb3, hA.ro rb4, hA.ro rb5⟩)) (fun _ _ => (Dyp 32 rfl (i8 rfl) (Dsk 33 rfl (Dsk 34 rfl (Dsk 35 rfl (Dsk 36 rfl (Dyp 37 rfl (u7 rfl rfl) (Dyp 38 rfl (a0N kr rfl rfl) (n9 (fun q88 => ?_) (fun q88 => ?_))))))))))
      ·exact absurd (by rw [q81]; rfl) q88
      ·refine Dyp 39 rfl (u7 rfl rfl) (r7 kr (g9 (g9 (g9 ?_))))
       exact E3 () trivial ⟨rfl, rfl, rfl, rfl, trivial⟩ (.refl _)
  ·show Ent _ _ _ [(0, .slice a_code code.length c_code), (3, .slice a36_0 (xs36).length c36_0), (4, .pointer (some ⟨b4, 0, none⟩)), (89, .bool false)] [pt b8 27 [.slice a46_1 (hq46).length c46_1, .slice a46_2 (aq46).length c46_2], pt b5 27 [.slice a36_3 (hq36).length c36_3, .slice a36_4 (aq36).length c36_4], pt b4 27 [.slice a36_1 (hp36).length c36_1, .slice a36_2 (ap36).length c36_2]] _
   refine Et (n0 rfl (f8 (Et (Ew Z10 (Ey rfl (j6 (cs := [_, _]) ty_Query rfl (Has.pt (mS (mS m0))) rfl) (Est rfl (N.call (a3h (by first | assumption | omega)) rfl rfl rfl dc rfl (fun w Lp hA => ⟨hA.ro rb2, hA.ro rb3⟩)) (fun k92 _ => ?_)))))))
   obtain ⟨⟨a92_0, m92_0, c92_0⟩, ⟨a92_1, m92_1, c92_1⟩, ⟨a92_2, m92_2, c92_2⟩⟩ := k92
   refine d4 m0 fun e92_0 l92_0 => ?_
   subst e92_0
   refine d4 (mS m0) fun e92_1 l92_1 => ?_
   subst e92_1
   refine d4 (mS (mS m0)) fun e92_2 l92_2 => ?_
   subst e92_2
   refine w9 (A := [_]) rfl fun wb10 Lb10 hB10 hA10 => ?_
   have hcode := hA10.ro hcode
   have rb1 := hA10.ro rb1
   have rb2 := hA10.ro rb2
   have rb3 := hA10.ro rb3
   have rb7 := hA10.ro rb7
   have rb8 := hA10.ro rb8
   have rb4 := hA10.ro rb4
   have rb5 := hA10.ro rb5
   have rb10 : Ro wb10 Lb10 u5 [.slice a92_0 (fzF (c6 (fun t => inR t 0 9) ap36) ap36).length c92_0] (fzF (c6 (fun t => inR t 0 9) ap36) ap36) := hA10.ow m0
   refine w9 (A := [_]) rfl fun wb11 Lb11 hB11 hA11 => ?_
   have hcode := hA11.ro hcode
   have rb1 := hA11.ro rb1
   have rb2 := hA11.ro rb2
   have rb3 := hA11.ro rb3
   have rb10 := hA11.ro rb10
   have rb7 := hA11.ro rb7
   have rb8 := hA11.ro rb8
   have rb4 := hA11.ro rb4
   have rb5 := hA11.ro rb5
   have rb11 : Ro wb11 Lb11 eIs [.slice a92_1 (fzV (c6 (fun t => inR t 0 9) ap36) ap36).length c92_1] (fzV (c6 (fun t => inR t 0 9) ap36) ap36) := hA11.ow m0
   refine w9 (A := [_]) rfl fun wb12 Lb12 hB12 hA12 => ?_
   have hcode := hA12.ro hcode
   have rb1 := hA12.ro rb1
   have rb2 := hA12.ro rb2
   have rb3 := hA12.ro rb3
   have rb10 := hA12.ro rb10
   have rb11 := hA12.ro rb11
   have rb7 := hA12.ro rb7
   have rb8 := hA12.ro rb8
   have rb4 := hA12.ro rb4
   have rb5 := hA12.ro rb5
   have rb12 : Ro wb12 Lb12 eIs [.slice a92_2 (fzX (c6 (fun t => inR t 0 9) ap36) ap36).length c92_2] (fzX (c6 (fun t => inR t 0 9) ap36) ap36) := hA12.ow m0
   refine Em rfl (Ey rfl ((Y.ext rfl rfl).yd) (Ey rfl ((Y.ext rfl rfl).yd) (Ey rfl ((Y.ext rfl rfl).yd) (Est rfl (N.alloc ty_Binding dc) (fun b11 _ => (Ei rfl (Est rfl (Ns [_, _] ty_Binding rfl) (fun _ _ => (Ei rfl (Ev Z10 (Ey rfl (j6 (cs := [_, _]) ty_Query rfl (Has.pt (mS (mS (mS m0)))) rfl) (Est rfl (N.call (a0J (by first | assumption | omega)) rfl rfl rfl dc rfl (fun w Lp hA => ⟨hA.ro rb2, hA.ro rb3⟩)) (fun k98 _ => ?_)))))))))))))
   obtain ⟨⟨a98_0, m98_0, c98_0⟩, ⟨a98_1, m98_1, c98_1⟩, ⟨a98_2, m98_2, c98_2⟩⟩ := k98
   refine d4 m0 fun e98_0 l98_0 => ?_
   subst e98_0
   refine d4 (mS m0) fun e98_1 l98_1 => ?_
   subst e98_1
   refine d4 (mS (mS m0)) fun e98_2 l98_2 => ?_
   subst e98_2
   refine w9 (A := [_]) rfl fun wb13 Lb13 hB13 hA13 => ?_
   have hcode := hA13.ro hcode
   have rb1 := hA13.ro rb1
   have rb2 := hA13.ro rb2
   have rb3 := hA13.ro rb3
   have rb10 := hA13.ro rb10
   have rb11 := hA13.ro rb11
   have rb12 := hA13.ro rb12
   have rb7 := hA13.ro rb7
   have rb8 := hA13.ro rb8
   have rb4 := hA13.ro rb4
   have rb5 := hA13.ro rb5
   have rb13 : Ro wb13 Lb13 u5 [.slice a98_0 (fzF (c6 (fun t => inR t 0 9) ap36) ap36).length c98_0] (fzF (c6 (fun t => inR t 0 9) ap36) ap36) := hA13.ow m0
   refine w9 (A := [_]) rfl fun wb14 Lb14 hB14 hA14 => ?_
   have hcode := hA14.ro hcode
   have rb1 := hA14.ro rb1
   have rb2 := hA14.ro rb2
   have rb3 := hA14.ro rb3
   have rb10 := hA14.ro rb10
   have rb11 := hA14.ro rb11
   have rb12 := hA14.ro rb12
   have rb13 := hA14.ro rb13
   have rb7 := hA14.ro rb7
   have rb8 := hA14.ro rb8
   have rb4 := hA14.ro rb4
   have rb5 := hA14.ro rb5
   have rb14 : Ro wb14 Lb14 eIs [.slice a98_1 (fzV (c6 (fun t => inR t 0 9) ap36) ap36).length c98_1] (fzV (c6 (fun t => inR t 0 9) ap36) ap36) := hA14.ow m0
   refine w9 (A := [_]) rfl fun wb15 Lb15 hB15 hA15 => ?_
   have hcode := hA15.ro hcode
   have rb1 := hA15.ro rb1
   have rb2 := hA15.ro rb2
   have rb3 := hA15.ro rb3
   have rb10 := hA15.ro rb10
   have rb11 := hA15.ro rb11
   have rb12 := hA15.ro rb12
   have rb13 := hA15.ro rb13
   have rb14 := hA15.ro rb14
   have rb7 := hA15.ro rb7
   have rb8 := hA15.ro rb8
   have rb4 := hA15.ro rb4
   have rb5 := hA15.ro rb5
   have rb15 : Ro wb15 Lb15 eIs [.slice a98_2 (fzX (c6 (fun t => inR t 0 9) ap36) ap36).length c98_2] (fzX (c6 (fun t => inR t 0 9) ap36) ap36) := hA15.ow m0
   refine Em rfl (Ey rfl ((Y.ext rfl rfl).yd) (Ey rfl ((Y.ext rfl rfl).yd) (Ey rfl ((Y.ext rfl rfl).yd) (Est rfl (N.alloc ty_Binding dc) (fun b14 _ => (Ei rfl (Est rfl (Ns [_, _] ty_Binding rfl) (fun _ _ => (Ei rfl (Eu (Eq_ (Eq_ (L5 (κ := Unit) (fun _ => True) (fun kM => [(0, .slice a_code code.length c_code), (136, .bool false)]) (fun kM => [pt b14 39 [.slice a98_1 (fzV (c6 (fun t => inR t 0 9) ap36) ap36).length c98_1, .slice a98_2 (fzX (c6 (fun t => inR t 0 9) ap36) ap36).length c98_2], pt b11 39 [.slice a92_1 (fzV (c6 (fun t => inR t 0 9) ap36) ap36).length c92_1, .slice a92_2 (fzX (c6 (fun t => inR t 0 9) ap36) ap36).length c92_2], pt b8 27 [.slice a46_1 (hq46).length c46_1, .slice a46_2 (aq46).length c46_2], pt b5 27 [.slice a36_3 (hq36).length c36_3, .slice a36_4 (aq36).length c36_4], pt b4 27 [.slice a36_1 (hp36).length c36_1, .slice a36_2 (ap36).length c36_2]]) ?_ (fun kM _ => ?_))))))))))))))
   ·refine D.region (fun j => true) mixed (Dyp 0 rfl (i8 rfl) (Dyp 1 rfl (i8 rfl) (Dyp 2 rfl (a0N kr rfl rfl) (n9 (fun q104 => ?_) (fun q104 => ?_)))))
    ·exact absurd q104 (by simp)
    ·refine Dyp 3 rfl (i8 rfl) (Dyp 4 rfl (i8 rfl) (Dyp 5 rfl (i8 rfl) (r8 6 rfl rfl kr (fun _ => rfl) (m6 a4l rfl rfl rfl dc (fun w Lp hA => ⟨hA.ro rb10, hA.ro rb13⟩)) (fun _ _ => (t7 (fun q108 => ?_) (fun q108 => ?_))))))
     ·refine Dyp 7 rfl (Y.not (b := true) rfl) (Dyp 8 rfl (u7 rfl rfl) (Dyp 9 rfl (i8 rfl) (Dyp 10 rfl (i0 fo_Binding_1 ty_Is dc rfl) (Dy 11 rfl (f9 ty_Is rfl (Hz (mS m0) 1 rfl) rfl) (Dyp 12 rfl (i0 fo_Binding_1 ty_Is dc rfl) (Dy 13 rfl (f9 ty_Is rfl (Hz m0 1 rfl) rfl) (r8 14 rfl rfl kr (fun _ => rfl) (m6 a1w rfl rfl rfl dc (fun w Lp hA => ⟨hA.ro rb12, hA.ro rb15⟩)) (fun _ _ => (t7 (fun q116 => ?_) (fun q116 => ?_))))))))))
      ·refine Dyp 15 rfl (Y.not (b := true) rfl) (Dyp 16 rfl (u7 rfl rfl) (Dyp 17 rfl (i8 rfl) (Dyp 18 rfl (i8 rfl) (t7 (fun q120 => ?_) (fun q120 => ?_)))))
       ·refine Dyp 19 rfl (i8 rfl) (Dyp 20 rfl (i8 rfl) (Dy 21 rfl (j6 (cs := [_, _]) ty_Query rfl (Has.pt (mS (mS (mS (mS m0))))) rfl) (r8 22 rfl rfl kr (fun _ => rfl) (m6 (J7 (by first | assumption | omega)) rfl rfl rfl dc (fun w Lp hA => ⟨hA.ro rb1, hA.ro rb2, hA.ro rb3⟩)) (fun _ _ => (t7 (fun q124 => ?_) (fun q124 => ?_))))))
        ·refine Dyp 23 rfl (v8 rfl rfl) (Dyp 24 rfl (i8 rfl) (Dy 25 rfl (j6 (cs := [_, _]) ty_Query rfl (Has.pt (mS (mS (mS (mS m0))))) rfl) (Dyp 26 rfl (i8 rfl) (Dy 27 rfl (j6 (cs := [_, _]) ty_Query rfl (Has.pt (mS (mS (mS (mS m0))))) rfl) (Dy 28 rfl (j6 (cs := [_, _]) ty_Binding rfl (Has.pt m0) rfl) (Dy 30 rfl (j6 (cs := [_, _]) ty_Binding rfl (Has.pt m0) rfl) (r8 29 rfl rfl kr (fun _ => rfl) (N.call (S6 (by first | assumption | omega)) rfl rfl rfl dc rfl (fun w Lp hA => ⟨hA.ro rb2, hA.ro rb3, hA.ro rb14, hA.ro rb15⟩)) (fun k131 _ => ?_))))))))
         obtain ⟨a131, m131, c131⟩ := k131
         refine d4 m0 fun e131 l131 => ?_
         subst e131
         refine r8 31 rfl rfl kr (fun _ => rfl) (m6 (Y5 (by first | assumption | omega) (fun x hx => Nat.le_trans (o36.2.1.2.1 x hx) dc)) rfl rfl rfl dc (fun w Lp hA => ⟨hA.ro rb2, hA.ro rb3, hA.ro rb13, hA.ow m0, hA.ro rb14, hA.ro rb15⟩)) (fun _ _ => (t7 (fun q133 => ?_) (fun q133 => ?_)))
         ·refine Dyp 32 rfl (Y.not (b := true) rfl) (Dyp 33 rfl (v8 rfl rfl) (Dyp 34 rfl (u7 rfl rfl) (r7 kr (Ent.drop (i7 (i7 (i7 (i7 (i7 ?_)))))))))
          exact E3 () trivial ⟨rfl, rfl, trivial⟩ (.refl _)
         ·exact absurd (b0h q120) (by rw [q133]; decide)
        ·refine Dyp 23 rfl (v8 rfl rfl) (Dyp 24 rfl (i8 rfl) (Dsk 25 rfl (Dsk 26 rfl (Dsk 27 rfl (Dsk 28 rfl (Dsk 29 rfl (Dsk 30 rfl (Dsk 31 rfl (Dsk 32 rfl (Dyp 33 rfl (u7 rfl rfl) (Dyp 34 rfl (u7 rfl rfl) (r7 kr (i7 (i7 (i7 (i7 (i7 ?_)))))))))))))))))
         exact E3 () trivial ⟨rfl, rfl, trivial⟩ (.refl _)
       ·refine Dyp 19 rfl (i8 rfl) (Dsk 20 rfl (Dsk 21 rfl (Dsk 22 rfl (Dyp 23 rfl (u7 rfl rfl) (Dyp 24 rfl (i8 rfl) (Dsk 25 rfl (Dsk 26 rfl (Dsk 27 rfl (Dsk 28 rfl (Dsk 29 rfl (Dsk 30 rfl (Dsk 31 rfl (Dsk 32 rfl (Dyp 33 rfl (u7 rfl rfl) (Dyp 34 rfl (u7 rfl rfl) (r7 kr (i7 (i7 (i7 (i7 (i7 ?_)))))))))))))))))))))
        exact E3 () trivial ⟨rfl, rfl, trivial⟩ (.refl _)
      ·exact absurd q116 (by simp)
     ·exact absurd q108 (by simp)
   ·show Ent _ _ _ [(0, .slice a_code code.length c_code), (136, .bool false)] [pt b14 39 [.slice a98_1 (fzV (c6 (fun t => inR t 0 9) ap36) ap36).length c98_1, .slice a98_2 (fzX (c6 (fun t => inR t 0 9) ap36) ap36).length c98_2], pt b11 39 [.slice a92_1 (fzV (c6 (fun t => inR t 0 9) ap36) ap36).length c92_1, .slice a92_2 (fzX (c6 (fun t => inR t 0 9) ap36) ap36).length c92_2], pt b8 27 [.slice a46_1 (hq46).length c46_1, .slice a46_2 (aq46).length c46_2], pt b5 27 [.slice a36_3 (hq36).length c36_3, .slice a36_4 (aq36).length c36_4], pt b4 27 [.slice a36_1 (hp36).length c36_1, .slice a36_2 (ap36).length c36_2]] _
    refine Et (n0 rfl (f8 (Et (Ew Z8 (Em rfl (Est rfl (N.call (a3N (by first | assumption | omega)) rfl rfl rfl dc rfl (fun w Lp hA => hA.ro hcode)) (fun k139 o139 => ?_)))))))
    obtain ⟨xs139, hq139, aq139, ⟨a139_0, m139_0, c139_0⟩, ⟨a139_1, m139_1, c139_1⟩, ⟨a139_2, m139_2, c139_2⟩⟩ := k139
    replace o139 : xs139.length ≤ 3 ∧ sQ hq139 aq139 ∧ (∀ u, w3 u (hq139, aq139) = true → S2 aq139) := o139
    try (conv => arg 4; dsimp only)
    try (conv => arg 5; dsimp only [List.cons_append, List.nil_append, List.append_nil])
    have jv := a0H o139.2.1
    have jhv := o139.2.1.2.2
    have jcn : (D9 xs139 hq139 aq139).length ≤ 1048576 := by have := (I6 (s := xs139) (i := 0) o139.2.1).1; unfold E7 at this; omega
    refine d4 m0 fun e139_0 l139_0 => ?_
    subst e139_0
    refine d4 (mS m0) fun e139_1 l139_1 => ?_
    subst e139_1
    refine d4 (mS (mS m0)) fun e139_2 l139_2 => ?_
    subst e139_2
    refine w9 (A := [_]) rfl fun wb16 Lb16 hB16 hA16 => ?_
    have hcode := hA16.ro hcode
    have rb14 := hA16.ro rb14
    have rb15 := hA16.ro rb15
    have rb11 := hA16.ro rb11
    have rb12 := hA16.ro rb12
    have rb7 := hA16.ro rb7
    have rb8 := hA16.ro rb8
    have rb4 := hA16.ro rb4
    have rb5 := hA16.ro rb5
    have rb2 := hA16.ro rb2
    have rb3 := hA16.ro rb3
    have rb16 : Ro wb16 Lb16 eIs [.slice a139_0 (xs139).length c139_0] xs139 := hA16.ow m0
    refine w9 (A := [_]) rfl fun wb17 Lb17 hB17 hA17 => ?_
    have hcode := hA17.ro hcode
    have rb16 := hA17.ro rb16
    have rb14 := hA17.ro rb14
    have rb15 := hA17.ro rb15
    have rb11 := hA17.ro rb11
    have rb12 := hA17.ro rb12
    have rb7 := hA17.ro rb7
    have rb8 := hA17.ro rb8
    have rb4 := hA17.ro rb4
    have rb5 := hA17.ro rb5
    have rb2 := hA17.ro rb2
    have rb3 := hA17.ro rb3
    have rb17 : Ro wb17 Lb17 eIs [.slice a139_1 (hq139).length c139_1] hq139 := hA17.ow m0
    refine w9 (A := [_]) rfl fun wb18 Lb18 hB18 hA18 => ?_
    have hcode := hA18.ro hcode
    have rb16 := hA18.ro rb16
    have rb17 := hA18.ro rb17
    have rb14 := hA18.ro rb14
    have rb15 := hA18.ro rb15
    have rb11 := hA18.ro rb11
    have rb12 := hA18.ro rb12
    have rb7 := hA18.ro rb7
    have rb8 := hA18.ro rb8
    have rb4 := hA18.ro rb4
    have rb5 := hA18.ro rb5
    have rb2 := hA18.ro rb2
    have rb3 := hA18.ro rb3
    have rb18 : Ro wb18 Lb18 j8 [.slice a139_2 (aq139).length c139_2] aq139 := hA18.ow m0
    refine Em rfl (Ey rfl ((Y.ext rfl rfl).yd) (Ey rfl ((Y.ext rfl rfl).yd) (Est rfl (N.alloc ty_Query dc) (fun b17 _ => (Ei rfl (Est rfl (Ns [_, _] ty_Query rfl) (fun _ _ => (Ev Z5 (Em rfl (Ey rfl (j6 (cs := [_, _]) ty_Query rfl (Has.pt m0) rfl) (Est rfl (N.call (a5Y (by first | assumption | omega) (by first | assumption | omega)) rfl rfl rfl dc rfl (fun w Lp hA => ⟨hA.ro rb16, hA.ro rb17, hA.ro rb18⟩)) (fun k144 _ => ?_))))))))))))
    obtain ⟨⟨a144_0, m144_0, c144_0⟩, ⟨a144_1, m144_1, c144_1⟩⟩ := k144
    refine d4 m0 fun e144_0 l144_0 => ?_
    subst e144_0
    refine d4 (mS m0) fun e144_1 l144_1 => ?_
    subst e144_1
    refine w9 (A := [_]) rfl fun wb19 Lb19 hB19 hA19 => ?_
    have hcode := hA19.ro hcode
    have rb16 := hA19.ro rb16
    have rb17 := hA19.ro rb17
    have rb18 := hA19.ro rb18
    have rb14 := hA19.ro rb14
    have rb15 := hA19.ro rb15
    have rb11 := hA19.ro rb11
    have rb12 := hA19.ro rb12
    have rb7 := hA19.ro rb7
    have rb8 := hA19.ro rb8
    have rb4 := hA19.ro rb4
    have rb5 := hA19.ro rb5
    have rb2 := hA19.ro rb2
    have rb3 := hA19.ro rb3
    have rb19 : Ro wb19 Lb19 eIs [.slice a144_0 (hq139).length c144_0] hq139 := hA19.ow m0
    refine w9 (A := [_]) rfl fun wb20 Lb20 hB20 hA20 => ?_
    have hcode := hA20.ro hcode
    have rb16 := hA20.ro rb16
    have rb17 := hA20.ro rb17
    have rb18 := hA20.ro rb18
    have rb19 := hA20.ro rb19
    have rb14 := hA20.ro rb14
    have rb15 := hA20.ro rb15
    have rb11 := hA20.ro rb11
    have rb12 := hA20.ro rb12
    have rb7 := hA20.ro rb7
    have rb8 := hA20.ro rb8
    have rb4 := hA20.ro rb4
    have rb5 := hA20.ro rb5
    have rb2 := hA20.ro rb2
    have rb3 := hA20.ro rb3
    have rb20 : Ro wb20 Lb20 j8 [.slice a144_1 (D9 xs139 hq139 aq139).length c144_1] (D9 xs139 hq139 aq139) := hA20.ow m0
    refine Est rfl (N.alloc ty_Query dc) (fun b18 _ => (Est rfl (Ns [_, _] ty_Query rfl) (fun _ _ => (Eu (Eq_ (Eq_ (D.region (fun j => true) mixed (Dy 0 rfl (j6 (cs := [_, _]) ty_Query rfl (Has.pt m0) rfl) (Dyp 1 rfl (i8 rfl) (Dy 2 rfl (j6 (cs := [_, _]) ty_Query rfl (Has.pt (mS m0)) rfl) (r8 3 rfl rfl kr (fun _ => rfl) (N.call (a5V (by first | assumption | omega) (by first | assumption | omega)) rfl rfl rfl dc rfl (fun w Lp hA => ⟨hA.ro rb16, hA.ro rb17, hA.ro rb18⟩)) (fun k148 _ => ?_))))))))))))
    obtain ⟨⟨a148_0, m148_0, c148_0⟩, ⟨a148_1, m148_1, c148_1⟩⟩ := k148
    refine d4 m0 fun e148_0 l148_0 => ?_
    subst e148_0
    refine d4 (mS m0) fun e148_1 l148_1 => ?_
    subst e148_1
    refine r8 4 rfl rfl kr (fun _ => rfl) (m6 a3o rfl rfl rfl dc (fun w Lp hA => ⟨hA.ro rb19, hA.ro rb20, hA.ow m0, hA.ow (mS m0)⟩)) (fun _ _ => (t7 (fun q149 => ?_) (fun q149 => ?_)))
    ·refine Dyp 5 rfl (Y.not (b := true) rfl) (r7 kr (Et (n0 rfl (f8 (Et (Eq_ (Ew Z1 (Ei rfl (Eu (E.block (E.loop (κ := Nat) (fun g => g ≤ (D9 xs139 hq139 aq139).length ∧ True) (fun g => [(0, .slice a_code code.length c_code), (16, .slice a139_0 (xs139).length c139_0), (17, .pointer (some ⟨b17, 0, none⟩)), (18, .pointer (some ⟨b18, 0, none⟩)), (19, .int .i64 (g : Int))]) (fun g => [ow eIs [.slice a148_0 (hq139).length c148_0] hq139, ow j8 [.slice a148_1 (D9 xs139 hq139 aq139).length c148_1] (D9 xs139 hq139 aq139), pt b18 27 [.slice a144_0 (hq139).length c144_0, .slice a144_1 (D9 xs139 hq139 aq139).length c144_1], pt b17 27 [.slice a139_1 (hq139).length c139_1, .slice a139_2 (aq139).length c139_2], pt b14 39 [.slice a98_1 (fzV (c6 (fun t => inR t 0 9) ap36) ap36).length c98_1, .slice a98_2 (fzX (c6 (fun t => inR t 0 9) ap36) ap36).length c98_2], pt b11 39 [.slice a92_1 (fzV (c6 (fun t => inR t 0 9) ap36) ap36).length c92_1, .slice a92_2 (fzX (c6 (fun t => inR t 0 9) ap36) ap36).length c92_2], pt b8 27 [.slice a46_1 (hq46).length c46_1, .slice a46_2 (aq46).length c46_2], pt b5 27 [.slice a36_3 (hq36).length c36_3, .slice a36_4 (aq36).length c36_4], pt b4 27 [.slice a36_1 (hp36).length c36_1, .slice a36_2 (ap36).length c36_2]]) (fun g => (D9 xs139 hq139 aq139).length - g) 0 ⟨Nat.zero_le _, by simp⟩ ⟨rfl, rfl, rfl, rfl, rfl, trivial⟩ (.refl _) (fun g pg => ?_))))))))))))
     obtain ⟨pk, pa⟩ := pg
     refine Eq_ (Ew Z10 (Em rfl (Ey rfl ((i0 fo_Query_1 ty_Atoms dc rfl).yd) (Ey rfl (f9 ty_Atoms rfl (Hz (mS (mS m0)) 1 rfl) rfl) (Ey rfl ((Y.len us_Atoms rfl).yd) (Ey rfl ((Y.lss rfl rfl).yd) (n9 (fun q155 => ?_) (fun q155 => ?_))))))))
     ·refine Em rfl (Em rfl (Ey rfl (j6 (cs := [_, _]) ty_Query rfl (Has.pt (mS (mS (mS m0)))) rfl) (Est rfl (m6 (J7 (by first | assumption | omega)) rfl rfl rfl dc (fun w Lp hA => ⟨hA.ro rb16, hA.ro rb17, hA.ro rb18⟩)) (fun _ _ => (t7 (fun q159 => ?_) (fun q159 => ?_))))))
      ·refine Ey rfl ((v8 rfl rfl).yd) (Eu (o0 rfl (f8 (Et (Eq_ (E.block (Eq_ (Ew Z9 (Em rfl (Ey rfl ((Y.eql rfl rfl).yd) (n9 (fun q164 => ?_) (fun q164 => ?_))))))))))))
       ·refine Em rfl (Em rfl (Ey rfl (j6 (cs := [_, _]) ty_Query rfl (Has.pt (mS (mS m0))) rfl) (Ey rfl (j6 (cs := [_, _]) ty_Query rfl (Has.pt (mS (mS (mS m0)))) rfl) (Est rfl (m6 (I9 (by first | omega | exact (I6 (i := 0) o139.2.1).1 | exact (I6 o139.2.1).2) (by first | omega | exact (I6 (i := 0) o139.2.1).1 | exact (I6 o139.2.1).2)) rfl rfl rfl dc (fun w Lp hA => ⟨hA.ro rb16, hA.ro rb19, hA.ro rb20, hA.ro rb17, hA.ro rb18⟩)) (fun _ _ => (t7 (fun q169 => ?_) (fun q169 => ?_)))))))
        ·refine Ey rfl ((Y.not (b := true) rfl).yd) (Ey rfl ((v8 rfl rfl).yd) (Eu (n0 rfl (f8 (Et (Ew Z5 (Ey rfl (j6 (cs := [_, _]) ty_Query rfl (Has.pt (mS (mS m0))) rfl) (Em rfl (Est rfl (N.call (a0g om (by have := (I6 (s := xs139) (i := 0) o139.2.1).1; unfold E7 at this; omega) (U1 (I6 (s := xs139) (i := 0) o139.2.1).1)) rfl rfl rfl dc rfl (fun w Lp hA => ⟨hA.ro rb19, hA.ro rb20⟩)) (fun k174 _ => ?_))))))))))
         obtain ⟨⟨a174_0, m174_0, c174_0⟩, ⟨a174_1, m174_1, c174_1⟩⟩ := k174
         refine d4 m0 fun e174_0 l174_0 => ?_
         subst e174_0
         refine d4 (mS m0) fun e174_1 l174_1 => ?_
         subst e174_1
         refine Est rfl (N.alloc ty_Query dc) (fun b20 _ => (Est rfl (Ns [_, _] ty_Query rfl) (fun _ _ => (Ev Z9 (Em rfl (Ey rfl (j6 (cs := [_, _]) ty_Query rfl (Has.pt m0) rfl) (Est rfl (m6 (J7 (by first | omega | exact (I6 (i := 0) o139.2.1).1 | exact (I6 o139.2.1).2)) rfl rfl rfl dc (fun w Lp hA => ⟨hA.ro rb16, hA.ow (mS m0), hA.ow (mS (mS m0))⟩)) (fun _ _ => (t7 (fun q177 => ?_) (fun q177 => ?_))))))))))
         ·refine Em rfl (Em rfl (Ey rfl (j6 (cs := [_, _]) ty_Query rfl (Has.pt m0) rfl) (Ey rfl (j6 (cs := [_, _]) ty_Query rfl (Has.pt (mS (mS (mS (mS (mS m0)))))) rfl) (Est rfl (m6 (R6 (by first | omega | exact (I6 (i := 0) o139.2.1).1 | exact (I6 o139.2.1).2) (by first | omega | exact (I6 (i := 0) o139.2.1).1 | exact (I6 o139.2.1).2)) rfl rfl rfl dc (fun w Lp hA => ⟨hA.ro rb16, hA.ow (mS m0), hA.ow (mS (mS m0)), hA.ro rb19, hA.ro rb20⟩)) (fun _ _ => (t7 (fun q182 => ?_) (fun q182 => ?_)))))))
          ·exact absurd (a4B o139.2.2 q159 om om q177) (by rw [q182]; decide)
          ·refine Ey rfl ((v8 rfl rfl).yd) (Eu (n0 rfl (f8 (s4 (Et (Ez Z3 (Em rfl (Ey rfl ((Y.add rfl rfl om om).yd) (Ei rfl (Eu (Ent.drop (Ent.drop (Ent.drop (s8 (s8 (s8 (s8 (s8 (s8 (s8 (s8 (s8 ?_))))))))))))))))))))))
           exact x3 br (g + 1) rs (.refl _) ⟨by omega, by grind [d1, d2, t1, t2]⟩ om
         ·refine Em rfl (Es rfl (Es rfl (Es rfl (Es rfl (Ey rfl ((u7 rfl rfl).yd) (Eu (n0 rfl (f8 (s4 (Et (Ez Z3 (Em rfl (Ey rfl ((Y.add rfl rfl om om).yd) (Ei rfl (Eu (Ent.drop (Ent.drop (Ent.drop (s8 (s8 (s8 (s8 (s8 (s8 (s8 (s8 (s8 ?_)))))))))))))))))))))))))))
          exact x3 br (g + 1) rs (.refl _) ⟨by omega, by grind [d1, d2, t1, t2]⟩ om
        ·exact absurd (a8y o139.2.2 q159) (by rw [q169]; decide)
       ·refine Em rfl (Es rfl (Es rfl (Es rfl (Es rfl (Es rfl (Ey rfl ((u7 rfl rfl).yd) (Eu (n0 rfl (f8 (Et (Ew Z5 (Ey rfl (j6 (cs := [_, _]) ty_Query rfl (Has.pt (mS (mS m0))) rfl) (Em rfl (Est rfl (N.call (a0g om (by have := (I6 (s := xs139) (i := 0) o139.2.1).1; unfold E7 at this; omega) (U1 (I6 (s := xs139) (i := 0) o139.2.1).1)) rfl rfl rfl dc rfl (fun w Lp hA => ⟨hA.ro rb19, hA.ro rb20⟩)) (fun k174 _ => ?_)))))))))))))))
        obtain ⟨⟨a174_0, m174_0, c174_0⟩, ⟨a174_1, m174_1, c174_1⟩⟩ := k174
        refine d4 m0 fun e174_0 l174_0 => ?_
        subst e174_0
        refine d4 (mS m0) fun e174_1 l174_1 => ?_
        subst e174_1
        refine Est rfl (N.alloc ty_Query dc) (fun b20 _ => (Est rfl (Ns [_, _] ty_Query rfl) (fun _ _ => (Ev Z9 (Em rfl (Ey rfl (j6 (cs := [_, _]) ty_Query rfl (Has.pt m0) rfl) (Est rfl (m6 (J7 (by first | omega | exact (I6 (i := 0) o139.2.1).1 | exact (I6 o139.2.1).2)) rfl rfl rfl dc (fun w Lp hA => ⟨hA.ro rb16, hA.ow (mS m0), hA.ow (mS (mS m0))⟩)) (fun _ _ => (t7 (fun q177 => ?_) (fun q177 => ?_))))))))))
        ·refine Em rfl (Em rfl (Ey rfl (j6 (cs := [_, _]) ty_Query rfl (Has.pt m0) rfl) (Ey rfl (j6 (cs := [_, _]) ty_Query rfl (Has.pt (mS (mS (mS (mS (mS m0)))))) rfl) (Est rfl (m6 (R6 (by first | omega | exact (I6 (i := 0) o139.2.1).1 | exact (I6 o139.2.1).2) (by first | omega | exact (I6 (i := 0) o139.2.1).1 | exact (I6 o139.2.1).2)) rfl rfl rfl dc (fun w Lp hA => ⟨hA.ro rb16, hA.ow (mS m0), hA.ow (mS (mS m0)), hA.ro rb19, hA.ro rb20⟩)) (fun _ _ => (t7 (fun q182 => ?_) (fun q182 => ?_)))))))
         ·exact absurd (a4B o139.2.2 q159 om om q177) (by rw [q182]; decide)
         ·refine Ey rfl ((v8 rfl rfl).yd) (Eu (n0 rfl (f8 (s4 (Et (Ez Z3 (Em rfl (Ey rfl ((Y.add rfl rfl om om).yd) (Ei rfl (Eu (Ent.drop (Ent.drop (Ent.drop (s8 (s8 (s8 (s8 (s8 (s8 (s8 (s8 (s8 ?_))))))))))))))))))))))
          exact x3 br (g + 1) rs (.refl _) ⟨by omega, by grind [d1, d2, t1, t2]⟩ om
        ·refine Em rfl (Es rfl (Es rfl (Es rfl (Es rfl (Ey rfl ((u7 rfl rfl).yd) (Eu (n0 rfl (f8 (s4 (Et (Ez Z3 (Em rfl (Ey rfl ((Y.add rfl rfl om om).yd) (Ei rfl (Eu (Ent.drop (Ent.drop (Ent.drop (s8 (s8 (s8 (s8 (s8 (s8 (s8 (s8 (s8 ?_)))))))))))))))))))))))))))
         exact x3 br (g + 1) rs (.refl _) ⟨by omega, by grind [d1, d2, t1, t2]⟩ om
      ·refine Ey rfl ((v8 rfl rfl).yd) (Eu (n0 rfl (E.exit (o3 (o3 (x5 (Et (Ew Z10 (Em rfl (Est rfl (N.call (S1 (by first | assumption | omega)) rfl rfl rfl dc rfl (fun w Lp hA => hA.ro hcode)) (fun k186 o186 => ?_)))))))))))
       obtain ⟨hq186, aq186, fl186, hd186, ⟨a186_0, m186_0, c186_0⟩, ⟨a186_1, m186_1, c186_1⟩, ⟨a186_2, m186_2, c186_2⟩, ⟨a186_3, m186_3, c186_3⟩⟩ := k186
       replace o186 : dQ dT 3 3 hq186 aq186 ∧ (fl186.length ≤ 9 ∧ ∀ f ∈ fl186, 1 ≤ f.2.length ∧ f.2.length ≤ 4) ∧ hd186.length ≤ 3 := o186
       try (conv => arg 4; dsimp only)
       try (conv => arg 5; dsimp only [List.cons_append, List.nil_append, List.append_nil])
       have jf1 := o186.2.1.1
       have jh1 := o186.1.small.2.2
       refine d4 m0 fun e186_0 l186_0 => ?_
       subst e186_0
       refine d4 (mS m0) fun e186_1 l186_1 => ?_
       subst e186_1
       refine d4 (mS (mS m0)) fun e186_2 l186_2 => ?_
       subst e186_2
       refine d4 (mS (mS (mS m0))) fun e186_3 l186_3 => ?_
       subst e186_3
       refine w9 (A := [_]) rfl fun wb21 Lb21 hB21 hA21 => ?_
       have hcode := hA21.ro hcode
       have rb16 := hA21.ro rb16
       have rb20 := hA21.ro rb20
       have rb17 := hA21.ro rb17
       have rb18 := hA21.ro rb18
       have rb19 := hA21.ro rb19
       have rb14 := hA21.ro rb14
       have rb15 := hA21.ro rb15
       have rb11 := hA21.ro rb11
       have rb12 := hA21.ro rb12
       have rb7 := hA21.ro rb7
       have rb8 := hA21.ro rb8
       have rb4 := hA21.ro rb4
       have rb5 := hA21.ro rb5
       have rb2 := hA21.ro rb2
       have rb3 := hA21.ro rb3
       have rb21 : Ro wb21 Lb21 eIs [.slice a186_0 (hq186).length c186_0] hq186 := hA21.ow m0
       refine w9 (A := [_]) rfl fun wb22 Lb22 hB22 hA22 => ?_
       have hcode := hA22.ro hcode
       have rb16 := hA22.ro rb16
       have rb20 := hA22.ro rb20
       have rb17 := hA22.ro rb17
       have rb18 := hA22.ro rb18
       have rb21 := hA22.ro rb21
       have rb19 := hA22.ro rb19
       have rb14 := hA22.ro rb14
       have rb15 := hA22.ro rb15
       have rb11 := hA22.ro rb11
       have rb12 := hA22.ro rb12
       have rb7 := hA22.ro rb7
       have rb8 := hA22.ro rb8
       have rb4 := hA22.ro rb4
       have rb5 := hA22.ro rb5
       have rb2 := hA22.ro rb2
       have rb3 := hA22.ro rb3
       have rb22 : Ro wb22 Lb22 j8 [.slice a186_1 (aq186).length c186_1] aq186 := hA22.ow m0
       refine w9 (A := [_]) rfl fun wb23 Lb23 hB23 hA23 => ?_
       have hcode := hA23.ro hcode
       have rb16 := hA23.ro rb16
       have rb20 := hA23.ro rb20
       have rb17 := hA23.ro rb17
       have rb18 := hA23.ro rb18
       have rb21 := hA23.ro rb21
       have rb22 := hA23.ro rb22
       have rb19 := hA23.ro rb19
       have rb14 := hA23.ro rb14
       have rb15 := hA23.ro rb15
       have rb11 := hA23.ro rb11
       have rb12 := hA23.ro rb12
       have rb7 := hA23.ro rb7
       have rb8 := hA23.ro rb8
       have rb4 := hA23.ro rb4
       have rb5 := hA23.ro rb5
       have rb2 := hA23.ro rb2
       have rb3 := hA23.ro rb3
       have rb23 : Ro wb23 Lb23 u5 [.slice a186_2 (fl186).length c186_2] fl186 := hA23.ow m0
       refine w9 (A := [_]) rfl fun wb24 Lb24 hB24 hA24 => ?_
       have hcode := hA24.ro hcode
       have rb16 := hA24.ro rb16
       have rb20 := hA24.ro rb20
       have rb17 := hA24.ro rb17
       have rb18 := hA24.ro rb18
       have rb21 := hA24.ro rb21
       have rb22 := hA24.ro rb22
       have rb23 := hA24.ro rb23
       have rb19 := hA24.ro rb19
       have rb14 := hA24.ro rb14
       have rb15 := hA24.ro rb15
       have rb11 := hA24.ro rb11
       have rb12 := hA24.ro rb12
       have rb7 := hA24.ro rb7
       have rb8 := hA24.ro rb8
       have rb4 := hA24.ro rb4
       have rb5 := hA24.ro rb5
       have rb2 := hA24.ro rb2
       have rb3 := hA24.ro rb3
       have rb24 : Ro wb24 Lb24 eIs [.slice a186_3 (hd186).length c186_3] hd186 := hA24.ow m0
       refine Em rfl (Ey rfl ((Y.ext rfl rfl).yd) (Ey rfl ((Y.ext rfl rfl).yd) (Ey rfl ((Y.ext rfl rfl).yd) (Est rfl (N.alloc ty_Query dc) (fun b21 _ => (Est rfl (Ns [_, _] ty_Query rfl) (fun _ _ => (Ei rfl (Ei rfl (Ev Z10 (Ey rfl (j6 (cs := [_, _]) ty_Query rfl (Has.pt m0) rfl) (Em rfl (Em rfl (Est rfl (N.call (O8 (o186.1.small).1 (o186.1.small).2.1 (fun a _ => W9 om) om) rfl rfl rfl dc rfl (fun w Lp hA => ⟨hA.ro rb21, hA.ro rb22, hA.ro rb23, hA.ro rb24⟩)) (fun k194 _ => ?_)))))))))))))))
       obtain ⟨⟨a194_0, m194_0, c194_0⟩, ⟨a194_1, m194_1, c194_1⟩⟩ := k194
       refine d4 m0 fun e194_0 l194_0 => ?_
       subst e194_0
       refine d4 (mS m0) fun e194_1 l194_1 => ?_
       subst e194_1
       refine Em rfl (Ey rfl ((Y.ext rfl rfl).yd) (Ey rfl ((Y.ext rfl rfl).yd) (Est rfl (N.alloc ty_Binding dc) (fun b24 _ => (Est rfl (Ns [_, _] ty_Binding rfl) (fun _ _ => (Ei rfl (Ev Z10 (Ey rfl (j6 (cs := [_, _]) ty_Query rfl (Has.pt (mS (mS (mS m0)))) rfl) (Em rfl (Em rfl (Est rfl (N.call (M6 (o186.1.small).1 (o186.1.small).2.1 (fun a _ => W9 om) om) rfl rfl rfl dc rfl (fun w Lp hA => ⟨hA.ro rb21, hA.ro rb22, hA.ro rb23, hA.ro rb24⟩)) (fun k201 _ => ?_)))))))))))))
       obtain ⟨⟨a201_0, m201_0, c201_0⟩, ⟨a201_1, m201_1, c201_1⟩⟩ := k201
       refine d4 m0 fun e201_0 l201_0 => ?_
       subst e201_0
       refine d4 (mS m0) fun e201_1 l201_1 => ?_
       subst e201_1
       refine Em rfl (Ey rfl ((Y.ext rfl rfl).yd) (Ey rfl ((Y.ext rfl rfl).yd) (Est rfl (N.alloc ty_Binding dc) (fun b26 _ => (Est rfl (Ns [_, _] ty_Binding rfl) (fun _ _ => (Ei rfl (Ev Z13 (Em rfl (Est rfl (N.call (a0l (by first | assumption | omega)) rfl rfl rfl dc rfl (fun w Lp hA => hA.ro hcode)) (fun k206 o206 => ?_)))))))))))
       obtain ⟨hq206, aq206, fl206, hd206, vb206, wb206, ⟨a206_0, m206_0, c206_0⟩, ⟨a206_1, m206_1, c206_1⟩, ⟨a206_2, m206_2, c206_2⟩, ⟨a206_3, m206_3, c206_3⟩, ⟨a206_4, m206_4, c206_4⟩, ⟨a206_5, m206_5, c206_5⟩⟩ := k206
       replace o206 : dQ dT 3 3 hq206 aq206 ∧ (fl206.length ≤ 9 ∧ ∀ f ∈ fl206, 1 ≤ f.2.length ∧ f.2.length ≤ 4) ∧ hd206.length ≤ 3 ∧ vb206.length ≤ 1000 ∧ wb206.length ≤ 1000 := o206
       try (conv => arg 4; dsimp only)
       try (conv => arg 5; dsimp only [List.cons_append, List.nil_append, List.append_nil])
       have jf2 := o206.2.1.1
       have jh2 := o206.1.small.2.2
       refine d4 m0 fun e206_0 l206_0 => ?_
       subst e206_0
       refine d4 (mS m0) fun e206_1 l206_1 => ?_
       subst e206_1
       refine d4 (mS (mS m0)) fun e206_2 l206_2 => ?_
       subst e206_2
       refine d4 (mS (mS (mS m0))) fun e206_3 l206_3 => ?_
       subst e206_3
       refine d4 (mS (mS (mS (mS m0)))) fun e206_4 l206_4 => ?_
       subst e206_4
       refine d4 (mS (mS (mS (mS (mS m0))))) fun e206_5 l206_5 => ?_
       subst e206_5
       refine w9 (A := [_]) rfl fun wb25 Lb25 hB25 hA25 => ?_
       have hcode := hA25.ro hcode
       have rb16 := hA25.ro rb16
       have rb20 := hA25.ro rb20
       have rb17 := hA25.ro rb17
       have rb18 := hA25.ro rb18
       have rb21 := hA25.ro rb21
       have rb22 := hA25.ro rb22
       have rb23 := hA25.ro rb23
       have rb24 := hA25.ro rb24
       have rb19 := hA25.ro rb19
       have rb14 := hA25.ro rb14
       have rb15 := hA25.ro rb15
       have rb11 := hA25.ro rb11
       have rb12 := hA25.ro rb12
       have rb7 := hA25.ro rb7
       have rb8 := hA25.ro rb8
       have rb4 := hA25.ro rb4
       have rb5 := hA25.ro rb5
       have rb2 := hA25.ro rb2
       have rb3 := hA25.ro rb3
       have rb25 : Ro wb25 Lb25 eIs [.slice a206_0 (hq206).length c206_0] hq206 := hA25.ow m0
       refine w9 (A := [_]) rfl fun wb26 Lb26 hB26 hA26 => ?_
       have hcode := hA26.ro hcode
       have rb16 := hA26.ro rb16
       have rb20 := hA26.ro rb20
       have rb17 := hA26.ro rb17
       have rb18 := hA26.ro rb18
       have rb21 := hA26.ro rb21
       have rb22 := hA26.ro rb22
       have rb23 := hA26.ro rb23
       have rb24 := hA26.ro rb24
       have rb25 := hA26.ro rb25
       have rb19 := hA26.ro rb19
       have rb14 := hA26.ro rb14
       have rb15 := hA26.ro rb15
       have rb11 := hA26.ro rb11
       have rb12 := hA26.ro rb12
       have rb7 := hA26.ro rb7
       have rb8 := hA26.ro rb8
       have rb4 := hA26.ro rb4
       have rb5 := hA26.ro rb5
       have rb2 := hA26.ro rb2
       have rb3 := hA26.ro rb3
       have rb26 : Ro wb26 Lb26 j8 [.slice a206_1 (aq206).length c206_1] aq206 := hA26.ow m0
       refine w9 (A := [_]) rfl fun wb27 Lb27 hB27 hA27 => ?_
       have hcode := hA27.ro hcode
       have rb16 := hA27.ro rb16
       have rb20 := hA27.ro rb20
       have rb17 := hA27.ro rb17
       have rb18 := hA27.ro rb18
       have rb21 := hA27.ro rb21
       have rb22 := hA27.ro rb22
       have rb23 := hA27.ro rb23
       have rb24 := hA27.ro rb24
       have rb25 := hA27.ro rb25
       have rb26 := hA27.ro rb26
       have rb19 := hA27.ro rb19
       have rb14 := hA27.ro rb14
       have rb15 := hA27.ro rb15
       have rb11 := hA27.ro rb11
       have rb12 := hA27.ro rb12
       have rb7 := hA27.ro rb7
       have rb8 := hA27.ro rb8
       have rb4 := hA27.ro rb4
       have rb5 := hA27.ro rb5
       have rb2 := hA27.ro rb2
       have rb3 := hA27.ro rb3
       have rb27 : Ro wb27 Lb27 u5 [.slice a206_2 (fl206).length c206_2] fl206 := hA27.ow m0
       refine w9 (A := [_]) rfl fun wb28 Lb28 hB28 hA28 => ?_
       have hcode := hA28.ro hcode
       have rb16 := hA28.ro rb16
       have rb20 := hA28.ro rb20
       have rb17 := hA28.ro rb17
       have rb18 := hA28.ro rb18
       have rb21 := hA28.ro rb21
       have rb22 := hA28.ro rb22
       have rb23 := hA28.ro rb23
       have rb24 := hA28.ro rb24
       have rb25 := hA28.ro rb25
       have rb26 := hA28.ro rb26
       have rb27 := hA28.ro rb27
       have rb19 := hA28.ro rb19
       have rb14 := hA28.ro rb14
       have rb15 := hA28.ro rb15
       have rb11 := hA28.ro rb11
       have rb12 := hA28.ro rb12
       have rb7 := hA28.ro rb7
       have rb8 := hA28.ro rb8
       have rb4 := hA28.ro rb4
       have rb5 := hA28.ro rb5
       have rb2 := hA28.ro rb2
       have rb3 := hA28.ro rb3
       have rb28 : Ro wb28 Lb28 eIs [.slice a206_3 (hd206).length c206_3] hd206 := hA28.ow m0
       refine w9 (A := [_]) rfl fun wb29 Lb29 hB29 hA29 => ?_
       have hcode := hA29.ro hcode
       have rb16 := hA29.ro rb16
       have rb20 := hA29.ro rb20
       have rb17 := hA29.ro rb17
       have rb18 := hA29.ro rb18
       have rb21 := hA29.ro rb21
       have rb22 := hA29.ro rb22
       have rb23 := hA29.ro rb23
       have rb24 := hA29.ro rb24
       have rb25 := hA29.ro rb25
       have rb26 := hA29.ro rb26
       have rb27 := hA29.ro rb27
       have rb28 := hA29.ro rb28
       have rb19 := hA29.ro rb19
       have rb14 := hA29.ro rb14
       have rb15 := hA29.ro rb15
       have rb11 := hA29.ro rb11
       have rb12 := hA29.ro rb12
       have rb7 := hA29.ro rb7
       have rb8 := hA29.ro rb8
       have rb4 := hA29.ro rb4
       have rb5 := hA29.ro rb5
       have rb2 := hA29.ro rb2
       have rb3 := hA29.ro rb3
       have rb29 : Ro wb29 Lb29 eIs [.slice a206_4 (vb206).length c206_4] vb206 := hA29.ow m0
       refine w9 (A := [_]) rfl fun wb30 Lb30 hB30 hA30 => ?_
       have hcode := hA30.ro hcode
       have rb16 := hA30.ro rb16
       have rb20 := hA30.ro rb20
       have rb17 := hA30.ro rb17
       have rb18 := hA30.ro rb18
       have rb21 := hA30.ro rb21
       have rb22 := hA30.ro rb22
       have rb23 := hA30.ro rb23
       have rb24 := hA30.ro rb24
       have rb25 := hA30.ro rb25
       have rb26 := hA30.ro rb26
       have rb27 := hA30.ro rb27
       have rb28 := hA30.ro rb28
       have rb29 := hA30.ro rb29
       have rb19 := hA30.ro rb19
       have rb14 := hA30.ro rb14
       have rb15 := hA30.ro rb15
       have rb11 := hA30.ro rb11
       have rb12 := hA30.ro rb12
       have rb7 := hA30.ro rb7
       have rb8 := hA30.ro rb8
       have rb4 := hA30.ro rb4
       have rb5 := hA30.ro rb5
       have rb2 := hA30.ro rb2
       have rb3 := hA30.ro rb3
       have rb30 : Ro wb30 Lb30 eIs [.slice a206_5 (wb206).length c206_5] wb206 := hA30.ow m0
       refine Em rfl (Ey rfl ((Y.ext rfl rfl).yd) (Ey rfl ((Y.ext rfl rfl).yd) (Ey rfl ((Y.ext rfl rfl).yd) (Ey rfl ((Y.ext rfl rfl).yd) (Est rfl (N.alloc ty_Query dc) (fun b28 _ => (Est rfl (N.alloc ty_Binding dc) (fun b31 _ => (d7 (Est rfl (Ns [_, _] ty_Query rfl) (fun _ _ => (Ei rfl (Ei rfl (d7 (Est rfl (Ns [_, _] ty_Binding rfl) (fun _ _ => (Eu (Eq_ (L5 (κ := Unit) (fun _ => True) (fun kM => [(2, .bool (decide ((O5 (hq206, aq206) fl206 hd206 (vb206, wb206)) = (O5 (hq206, aq206) fl206 hd206 (vb206, wb206)))))]) (fun kM => [pt b31 39 [.slice a206_4 (vb206).length c206_4, .slice a206_5 (wb206).length c206_5], pt b28 27 [.slice a206_0 (hq206).length c206_0, .slice a206_1 (aq206).length c206_1], pt b26 39 [.slice a201_0 ((s9 (j7 aq186 fl186) hq186 hd186).1).length c201_0, .slice a201_1 ((s9 (j7 aq186 fl186) hq186 hd186).2).length c201_1], ow eIs [.slice a201_0 ((s9 (j7 aq186 fl186) hq186 hd186).1).length c201_0] ((s9 (j7 aq186 fl186) hq186 hd186).1), ow eIs [.slice a201_1 ((s9 (j7 aq186 fl186) hq186 hd186).2).length c201_1] ((s9 (j7 aq186 fl186) hq186 hd186).2), pt b24 39 [.slice a194_0 ((s9 (j7 aq186 fl186) hq186 hd186).1).length c194_0, .slice a194_1 ((s9 (j7 aq186 fl186) hq186 hd186).2).length c194_1], ow eIs [.slice a194_0 ((s9 (j7 aq186 fl186) hq186 hd186).1).length c194_0] ((s9 (j7 aq186 fl186) hq186 hd186).1), ow eIs [.slice a194_1 ((s9 (j7 aq186 fl186) hq186 hd186).2).length c194_1] ((s9 (j7 aq186 fl186) hq186 hd186).2), pt b21 27 [.slice a186_0 (hq186).length c186_0, .slice a186_1 (aq186).length c186_1], ow eIs [.slice a148_0 (hq139).length c148_0] hq139, ow j8 [.slice a148_1 (D9 xs139 hq139 aq139).length c148_1] (D9 xs139 hq139 aq139), pt b18 27 [.slice a144_0 (hq139).length c144_0, .slice a144_1 (D9 xs139 hq139 aq139).length c144_1], pt b17 27 [.slice a139_1 (hq139).length c139_1, .slice a139_2 (aq139).length c139_2], pt b14 39 [.slice a98_1 (fzV (c6 (fun t => inR t 0 9) ap36) ap36).length c98_1, .slice a98_2 (fzX (c6 (fun t => inR t 0 9) ap36) ap36).length c98_2], pt b11 39 [.slice a92_1 (fzV (c6 (fun t => inR t 0 9) ap36) ap36).length c92_1, .slice a92_2 (fzX (c6 (fun t => inR t 0 9) ap36) ap36).length c92_2], pt b8 27 [.slice a46_1 (hq46).length c46_1, .slice a46_2 (aq46).length c46_2], pt b5 27 [.slice a36_3 (hq36).length c36_3, .slice a36_4 (aq36).length c36_4], pt b4 27 [.slice a36_1 (hp36).length c36_1, .slice a36_2 (ap36).length c36_2]]) ?_ (fun kM _ => ?_))))))))))))))))))))
       ·refine D.region (fun j => true) mixed (Dyp 0 rfl (i8 rfl) (Dyp 1 rfl (i8 rfl) (Dyp 2 rfl (a4V kr rfl rfl) (n9 (fun q213 => ?_) (fun q213 => ?_)))))
        ·refine Dyp 3 rfl (i8 rfl) (Dy 4 rfl (j6 (cs := [_, _]) ty_Query rfl (Has.pt (mS m0)) rfl) (Dyp 5 rfl (i8 rfl) (Dyp 6 rfl (i8 rfl) (Dy 7 rfl (j6 (cs := [_, _]) ty_Binding rfl (Has.pt m0) rfl) (Dy 9 rfl (j6 (cs := [_, _]) ty_Query rfl (Has.pt (mS m0)) rfl) (Dyp 10 rfl (i8 rfl) (Dyp 11 rfl (i8 rfl) (Dy 12 rfl (j6 (cs := [_, _]) ty_Binding rfl (Has.pt m0) rfl) (r8 8 rfl rfl kr (fun _ => rfl) (m6 (Y5 (by first | assumption | omega) (fun x hx => Nat.le_trans (o206.1.small.2.1 x hx) dc)) rfl rfl rfl dc (fun w Lp hA => ⟨hA.ro rb25, hA.ro rb26, hA.ro rb27, hA.ro rb28, hA.ro rb29, hA.ro rb30⟩)) (fun _ _ => (r8 13 rfl rfl kr (fun _ => rfl) (m6 (a1e (by first | assumption | omega) (fun x hx => Nat.le_trans (o206.1.small.2.1 x hx) dc)) rfl rfl rfl dc (fun w Lp hA => ⟨hA.ro rb25, hA.ro rb26, hA.ro rb27, hA.ro rb28, hA.ro rb29, hA.ro rb30⟩)) (fun _ _ => (Dyp 14 rfl (a4V kr rfl rfl) (Dyp 15 rfl (v8 rfl rfl) (Dyp 16 rfl (C0 rfl) (r7 kr (D6 (D6 (D6 (D6 (D6 (D6 (D6 (D6 (D6 (D6 (D6 (D6 (D6 (D6 (D6 (D6 (D6 (D6 ?_))))))))))))))))))))))))))))))))))
         exact E3 () trivial ⟨rfl, trivial⟩ (.refl _)
        ·exact absurd q213 (by simp)
       ·show Ent _ _ _ [(2, .bool (decide ((O5 (hq206, aq206) fl206 hd206 (vb206, wb206)) = (O5 (hq206, aq206) fl206 hd206 (vb206, wb206)))))] [pt b31 39 [.slice a206_4 (vb206).length c206_4, .slice a206_5 (wb206).length c206_5], pt b28 27 [.slice a206_0 (hq206).length c206_0, .slice a206_1 (aq206).length c206_1], pt b26 39 [.slice a201_0 ((s9 (j7 aq186 fl186) hq186 hd186).1).length c201_0, .slice a201_1 ((s9 (j7 aq186 fl186) hq186 hd186).2).length c201_1], ow eIs [.slice a201_0 ((s9 (j7 aq186 fl186) hq186 hd186).1).length c201_0] ((s9 (j7 aq186 fl186) hq186 hd186).1), ow eIs [.slice a201_1 ((s9 (j7 aq186 fl186) hq186 hd186).2).length c201_1] ((s9 (j7 aq186 fl186) hq186 hd186).2), pt b24 39 [.slice a194_0 ((s9 (j7 aq186 fl186) hq186 hd186).1).length c194_0, .slice a194_1 ((s9 (j7 aq186 fl186) hq186 hd186).2).length c194_1], ow eIs [.slice a194_0 ((s9 (j7 aq186 fl186) hq186 hd186).1).length c194_0] ((s9 (j7 aq186 fl186) hq186 hd186).1), ow eIs [.slice a194_1 ((s9 (j7 aq186 fl186) hq186 hd186).2).length c194_1] ((s9 (j7 aq186 fl186) hq186 hd186).2), pt b21 27 [.slice a186_0 (hq186).length c186_0, .slice a186_1 (aq186).length c186_1], ow eIs [.slice a148_0 (hq139).length c148_0] hq139, ow j8 [.slice a148_1 (D9 xs139 hq139 aq139).length c148_1] (D9 xs139 hq139 aq139), pt b18 27 [.slice a144_0 (hq139).length c144_0, .slice a144_1 (D9 xs139 hq139 aq139).length c144_1], pt b17 27 [.slice a139_1 (hq139).length c139_1, .slice a139_2 (aq139).length c139_2], pt b14 39 [.slice a98_1 (fzV (c6 (fun t => inR t 0 9) ap36) ap36).length c98_1, .slice a98_2 (fzX (c6 (fun t => inR t 0 9) ap36) ap36).length c98_2], pt b11 39 [.slice a92_1 (fzV (c6 (fun t => inR t 0 9) ap36) ap36).length c92_1, .slice a92_2 (fzX (c6 (fun t => inR t 0 9) ap36) ap36).length c92_2], pt b8 27 [.slice a46_1 (hq46).length c46_1, .slice a46_2 (aq46).length c46_2], pt b5 27 [.slice a36_3 (hq36).length c36_3, .slice a36_4 (aq36).length c36_4], pt b4 27 [.slice a36_1 (hp36).length c36_1, .slice a36_2 (ap36).length c36_2]] _
        exact Et (E.ret (F.r1 (((((((((((((((((((((((((((((hB1.comp hB2).comp hB3).comp hB4).comp hB5).comp hB6).comp hB7).comp hB8).comp hB9).comp hB10).comp hB11).comp hB12).comp hB13).comp hB14).comp hB15).comp hB16).comp hB17).comp hB18).comp hB19).comp hB20).comp hB21).comp hB22).comp hB23).comp hB24).comp hB25).comp hB26).comp hB27).comp hB28).comp hB29).comp hB30) rfl rfl () trivial (congrArg Value.bool (by simp_all)) (J := _) (.refl _) (.inl rfl)))
     ·refine Em rfl (Es rfl (Es rfl (Es rfl (Ey rfl ((u7 rfl rfl).yd) (Eu (n0 rfl (E.exit (o3 (o3 (x5 (Et (Ew Z10 (Em rfl (Est rfl (N.call (S1 (by first | assumption | omega)) rfl rfl rfl dc rfl (fun w Lp hA => hA.ro hcode)) (fun k186 o186 => ?_)))))))))))))))
      obtain ⟨hq186, aq186, fl186, hd186, ⟨a186_0, m186_0, c186_0⟩, ⟨a186_1, m186_1, c186_1⟩, ⟨a186_2, m186_2, c186_2⟩, ⟨a186_3, m186_3, c186_3⟩⟩ := k186
      replace o186 : dQ dT 3 3 hq186 aq186 ∧ (fl186.length ≤ 9 ∧ ∀ f ∈ fl186, 1 ≤ f.2.length ∧ f.2.length ≤ 4) ∧ hd186.length ≤ 3 := o186
      try (conv => arg 4; dsimp only)
      try (conv => arg 5; dsimp only [List.cons_append, List.nil_append, List.append_nil])
      have jf1 := o186.2.1.1
      have jh1 := o186.1.small.2.2
      refine d4 m0 fun e186_0 l186_0 => ?_
      subst e186_0
      refine d4 (mS m0) fun e186_1 l186_1 => ?_
      subst e186_1
      refine d4 (mS (mS m0)) fun e186_2 l186_2 => ?_
      subst e186_2
      refine d4 (mS (mS (mS m0))) fun e186_3 l186_3 => ?_
      subst e186_3
      refine w9 (A := [_]) rfl fun wb31 Lb31 hB31 hA31 => ?_
      have hcode := hA31.ro hcode
      have rb16 := hA31.ro rb16
      have rb20 := hA31.ro rb20
      have rb19 := hA31.ro rb19
      have rb17 := hA31.ro rb17
      have rb18 := hA31.ro rb18
      have rb14 := hA31.ro rb14
      have rb15 := hA31.ro rb15
      have rb11 := hA31.ro rb11
      have rb12 := hA31.ro rb12
      have rb7 := hA31.ro rb7
      have rb8 := hA31.ro rb8
      have rb4 := hA31.ro rb4
      have rb5 := hA31.ro rb5
      have rb2 := hA31.ro rb2
      have rb3 := hA31.ro rb3
      have rb31 : Ro wb31 Lb31 eIs [.slice a186_0 (hq186).length c186_0] hq186 := hA31.ow m0
      refine w9 (A := [_]) rfl fun wb32 Lb32 hB32 hA32 => ?_
      have hcode := hA32.ro hcode
      have rb16 := hA32.ro rb16
      have rb20 := hA32.ro rb20
      have rb31 := hA32.ro rb31
      have rb19 := hA32.ro rb19
      have rb17 := hA32.ro rb17
      have rb18 := hA32.ro rb18
      have rb14 := hA32.ro rb14
      have rb15 := hA32.ro rb15
      have rb11 := hA32.ro rb11
      have rb12 := hA32.ro rb12
      have rb7 := hA32.ro rb7
      have rb8 := hA32.ro rb8
      have rb4 := hA32.ro rb4
      have rb5 := hA32.ro rb5
      have rb2 := hA32.ro rb2
      have rb3 := hA32.ro rb3
      have rb32 : Ro wb32 Lb32 j8 [.slice a186_1 (aq186).length c186_1] aq186 := hA32.ow m0
      refine w9 (A := [_]) rfl fun wb33 Lb33 hB33 hA33 => ?_
      have hcode := hA33.ro hcode
      have rb16 := hA33.ro rb16
      have rb20 := hA33.ro rb20
      have rb31 := hA33.ro rb31
      have rb32 := hA33.ro rb32
      have rb19 := hA33.ro rb19
      have rb17 := hA33.ro rb17
      have rb18 := hA33.ro rb18
      have rb14 := hA33.ro rb14
      have rb15 := hA33.ro rb15
      have rb11 := hA33.ro rb11
      have rb12 := hA33.ro rb12
      have rb7 := hA33.ro rb7
      have rb8 := hA33.ro rb8
      have rb4 := hA33.ro rb4
      have rb5 := hA33.ro rb5
      have rb2 := hA33.ro rb2
      have rb3 := hA33.ro rb3
      have rb33 : Ro wb33 Lb33 u5 [.slice a186_2 (fl186).length c186_2] fl186 := hA33.ow m0
      refine w9 (A := [_]) rfl fun wb34 Lb34 hB34 hA34 => ?_
      have hcode := hA34.ro hcode
      have rb16 := hA34.ro rb16
      have rb20 := hA34.ro rb20
      have rb31 := hA34.ro rb31
      have rb32 := hA34.ro rb32
      have rb33 := hA34.ro rb33
      have rb19 := hA34.ro rb19
      have rb17 := hA34.ro rb17
      have rb18 := hA34.ro rb18
      have rb14 := hA34.ro rb14
      have rb15 := hA34.ro rb15
      have rb11 := hA34.ro rb11
      have rb12 := hA34.ro rb12
      have rb7 := hA34.ro rb7
      have rb8 := hA34.ro rb8
      have rb4 := hA34.ro rb4
      have rb5 := hA34.ro rb5
      have rb2 := hA34.ro rb2
      have rb3 := hA34.ro rb3
      have rb34 : Ro wb34 Lb34 eIs [.slice a186_3 (hd186).length c186_3] hd186 := hA34.ow m0
      refine Em rfl (Ey rfl ((Y.ext rfl rfl).yd) (Ey rfl ((Y.ext rfl rfl).yd) (Ey rfl ((Y.ext rfl rfl).yd) (Est rfl (N.alloc ty_Query dc) (fun b21 _ => (Est rfl (Ns [_, _] ty_Query rfl) (fun _ _ => (Ei rfl (Ei rfl (Ev Z10 (Ey rfl (j6 (cs := [_, _]) ty_Query rfl (Has.pt m0) rfl) (Em rfl (Em rfl (Est rfl (N.call (O8 (o186.1.small).1 (o186.1.small).2.1 (fun a _ => W9 om) om) rfl rfl rfl dc rfl (fun w Lp hA => ⟨hA.ro rb31, hA.ro rb32, hA.ro rb33, hA.ro rb34⟩)) (fun k194 _ => ?_)))))))))))))))
      obtain ⟨⟨a194_0, m194_0, c194_0⟩, ⟨a194_1, m194_1, c194_1⟩⟩ := k194
      refine d4 m0 fun e194_0 l194_0 => ?_
      subst e194_0
      refine d4 (mS m0) fun e194_1 l194_1 => ?_
      subst e194_1
      refine Em rfl (Ey rfl ((Y.ext rfl rfl).yd) (Ey rfl ((Y.ext rfl rfl).yd) (Est rfl (N.alloc ty_Binding dc) (fun b24 _ => (Est rfl (Ns [_, _] ty_Binding rfl) (fun _ _ => (Ei rfl (Ev Z10 (Ey rfl (j6 (cs := [_, _]) ty_Query rfl (Has.pt (mS (mS (mS m0)))) rfl) (Em rfl (Em rfl (Est rfl (N.call (M6 (o186.1.small).1 (o186.1.small).2.1 (fun a _ => W9 om) om) rfl rfl rfl dc rfl (fun w Lp hA => ⟨hA.ro rb31, hA.ro rb32, hA.ro rb33, hA.ro rb34⟩)) (fun k201 _ => ?_)))))))))))))
      obtain ⟨⟨a201_0, m201_0, c201_0⟩, ⟨a201_1, m201_1, c201_1⟩⟩ := k201
      refine d4 m0 fun e201_0 l201_0 => ?_
      subst e201_0
      refine d4 (mS m0) fun e201_1 l201_1 => ?_
      subst e201_1
      refine Em rfl (Ey rfl ((Y.ext rfl rfl).yd) (Ey rfl ((Y.ext rfl rfl).yd) (Est rfl (N.alloc ty_Binding dc) (fun b26 _ => (Est rfl (Ns [_, _] ty_Binding rfl) (fun _ _ => (Ei rfl (Ev Z13 (Em rfl (Est rfl (N.call (a0l (by first | assumption | omega)) rfl rfl rfl dc rfl (fun w Lp hA => hA.ro hcode)) (fun k206 o206 => ?_)))))))))))
      obtain ⟨hq206, aq206, fl206, hd206, vb206, wb206, ⟨a206_0, m206_0, c206_0⟩, ⟨a206_1, m206_1, c206_1⟩, ⟨a206_2, m206_2, c206_2⟩, ⟨a206_3, m206_3, c206_3⟩, ⟨a206_4, m206_4, c206_4⟩, ⟨a206_5, m206_5, c206_5⟩⟩ := k206
      replace o206 : dQ dT 3 3 hq206 aq206 ∧ (fl206.length ≤ 9 ∧ ∀ f ∈ fl206, 1 ≤ f.2.length ∧ f.2.length ≤ 4) ∧ hd206.length ≤ 3 ∧ vb206.length ≤ 1000 ∧ wb206.length ≤ 1000 := o206
      try (conv => arg 4; dsimp only)
      try (conv => arg 5; dsimp only [List.cons_append, List.nil_append, List.append_nil])
      have jf2 := o206.2.1.1
      have jh2 := o206.1.small.2.2
      refine d4 m0 fun e206_0 l206_0 => ?_
      subst e206_0
      refine d4 (mS m0) fun e206_1 l206_1 => ?_
      subst e206_1
      refine d4 (mS (mS m0)) fun e206_2 l206_2 => ?_
      subst e206_2
      refine d4 (mS (mS (mS m0))) fun e206_3 l206_3 => ?_
      subst e206_3
      refine d4 (mS (mS (mS (mS m0)))) fun e206_4 l206_4 => ?_
      subst e206_4
      refine d4 (mS (mS (mS (mS (mS m0))))) fun e206_5 l206_5 => ?_
      subst e206_5
      refine w9 (A := [_]) rfl fun wb35 Lb35 hB35 hA35 => ?_
      have hcode := hA35.ro hcode
      have rb16 := hA35.ro rb16
      have rb20 := hA35.ro rb20
      have rb31 := hA35.ro rb31
      have rb32 := hA35.ro rb32
      have rb33 := hA35.ro rb33
      have rb34 := hA35.ro rb34
      have rb19 := hA35.ro rb19
      have rb17 := hA35.ro rb17
      have rb18 := hA35.ro rb18
      have rb14 := hA35.ro rb14
      have rb15 := hA35.ro rb15
      have rb11 := hA35.ro rb11
      have rb12 := hA35.ro rb12
      have rb7 := hA35.ro rb7
      have rb8 := hA35.ro rb8
      have rb4 := hA35.ro rb4
      have rb5 := hA35.ro rb5
      have rb2 := hA35.ro rb2
      have rb3 := hA35.ro rb3
      have rb35 : Ro wb35 Lb35 eIs [.slice a206_0 (hq206).length c206_0] hq206 := hA35.ow m0
      refine w9 (A := [_]) rfl fun wb36 Lb36 hB36 hA36 => ?_
      have hcode := hA36.ro hcode
      have rb16 := hA36.ro rb16
      have rb20 := hA36.ro rb20
      have rb31 := hA36.ro rb31
      have rb32 := hA36.ro rb32
      have rb33 := hA36.ro rb33
      have rb34 := hA36.ro rb34
      have rb35 := hA36.ro rb35
      have rb19 := hA36.ro rb19
      have rb17 := hA36.ro rb17
      have rb18 := hA36.ro rb18
      have rb14 := hA36.ro rb14
      have rb15 := hA36.ro rb15
      have rb11 := hA36.ro rb11
      have rb12 := hA36.ro rb12
      have rb7 := hA36.ro rb7
      have rb8 := hA36.ro rb8
      have rb4 := hA36.ro rb4
      have rb5 := hA36.ro rb5
      have rb2 := hA36.ro rb2
      have rb3 := hA36.ro rb3
      have rb36 : Ro wb36 Lb36 j8 [.slice a206_1 (aq206).length c206_1] aq206 := hA36.ow m0
      refine w9 (A := [_]) rfl fun wb37 Lb37 hB37 hA37 => ?_
      have hcode := hA37.ro hcode
      have rb16 := hA37.ro rb16
      have rb20 := hA37.ro rb20
      have rb31 := hA37.ro rb31
      have rb32 := hA37.ro rb32
      have rb33 := hA37.ro rb33
      have rb34 := hA37.ro rb34
      have rb35 := hA37.ro rb35
      have rb36 := hA37.ro rb36
      have rb19 := hA37.ro rb19
      have rb17 := hA37.ro rb17
      have rb18 := hA37.ro rb18
      have rb14 := hA37.ro rb14
      have rb15 := hA37.ro rb15
      have rb11 := hA37.ro rb11
      have rb12 := hA37.ro rb12
      have rb7 := hA37.ro rb7
      have rb8 := hA37.ro rb8
      have rb4 := hA37.ro rb4
      have rb5 := hA37.ro rb5
      have rb2 := hA37.ro rb2
      have rb3 := hA37.ro rb3
      have rb37 : Ro wb37 Lb37 u5 [.slice a206_2 (fl206).length c206_2] fl206 := hA37.ow m0
      refine w9 (A := [_]) rfl fun wb38 Lb38 hB38 hA38 => ?_
      have hcode := hA38.ro hcode
      have rb16 := hA38.ro rb16
      have rb20 := hA38.ro rb20
      have rb31 := hA38.ro rb31
      have rb32 := hA38.ro rb32
      have rb33 := hA38.ro rb33
      have rb34 := hA38.ro rb34
      have rb35 := hA38.ro rb35
      have rb36 := hA38.ro rb36
      have rb37 := hA38.ro rb37
      have rb19 := hA38.ro rb19
      have rb17 := hA38.ro rb17
      have rb18 := hA38.ro rb18
      have rb14 := hA38.ro rb14
      have rb15 := hA38.ro rb15
      have rb11 := hA38.ro rb11
      have rb12 := hA38.ro rb12
      have rb7 := hA38.ro rb7
      have rb8 := hA38.ro rb8
      have rb4 := hA38.ro rb4
      have rb5 := hA38.ro rb5
      have rb2 := hA38.ro rb2
      have rb3 := hA38.ro rb3
      have rb38 : Ro wb38 Lb38 eIs [.slice a206_3 (hd206).length c206_3] hd206 := hA38.ow m0
      refine w9 (A := [_]) rfl fun wb39 Lb39 hB39 hA39 => ?_
      have hcode := hA39.ro hcode
      have rb16 := hA39.ro rb16
      have rb20 := hA39.ro rb20
      have rb31 := hA39.ro rb31
      have rb32 := hA39.ro rb32
      have rb33 := hA39.ro rb33
      have rb34 := hA39.ro rb34
      have rb35 := hA39.ro rb35
      have rb36 := hA39.ro rb36
      have rb37 := hA39.ro rb37
      have rb38 := hA39.ro rb38
      have rb19 := hA39.ro rb19
      have rb17 := hA39.ro rb17
      have rb18 := hA39.ro rb18
      have rb14 := hA39.ro rb14
      have rb15 := hA39.ro rb15
      have rb11 := hA39.ro rb11
      have rb12 := hA39.ro rb12
      have rb7 := hA39.ro rb7
      have rb8 := hA39.ro rb8
      have rb4 := hA39.ro rb4
      have rb5 := hA39.ro rb5
      have rb2 := hA39.ro rb2
      have rb3 := hA39.ro rb3
      have rb39 : Ro wb39 Lb39 eIs [.slice a206_4 (vb206).length c206_4] vb206 := hA39.ow m0
      refine w9 (A := [_]) rfl fun wb40 Lb40 hB40 hA40 => ?_
      have hcode := hA40.ro hcode
      have rb16 := hA40.ro rb16
      have rb20 := hA40.ro rb20
      have rb31 := hA40.ro rb31
      have rb32 := hA40.ro rb32
      have rb33 := hA40.ro rb33
      have rb34 := hA40.ro rb34
      have rb35 := hA40.ro rb35
      have rb36 := hA40.ro rb36
      have rb37 := hA40.ro rb37
      have rb38 := hA40.ro rb38
      have rb39 := hA40.ro rb39
      have rb19 := hA40.ro rb19
      have rb17 := hA40.ro rb17
      have rb18 := hA40.ro rb18
      have rb14 := hA40.ro rb14
      have rb15 := hA40.ro rb15
      have rb11 := hA40.ro rb11
      have rb12 := hA40.ro rb12
      have rb7 := hA40.ro rb7
      have rb8 := hA40.ro rb8
      have rb4 := hA40.ro rb4
      have rb5 := hA40.ro rb5
      have rb2 := hA40.ro rb2
      have rb3 := hA40.ro rb3
      have rb40 : Ro wb40 Lb40 eIs [.slice a206_5 (wb206).length c206_5] wb206 := hA40.ow m0
      refine Em rfl (Ey rfl ((Y.ext rfl rfl).yd) (Ey rfl ((Y.ext rfl rfl).yd) (Ey rfl ((Y.ext rfl rfl).yd) (Ey rfl ((Y.ext rfl rfl).yd) (Est rfl (N.alloc ty_Query dc) (fun b28 _ => (Est rfl (N.alloc ty_Binding dc) (fun b31 _ => (d7 (Est rfl (Ns [_, _] ty_Query rfl) (fun _ _ => (Ei rfl (Ei rfl (d7 (Est rfl (Ns [_, _] ty_Binding rfl) (fun _ _ => (Eu (Eq_ (L5 (κ := Unit) (fun _ => True) (fun kM => [(2, .bool (decide ((O5 (hq206, aq206) fl206 hd206 (vb206, wb206)) = (O5 (hq206, aq206) fl206 hd206 (vb206, wb206)))))]) (fun kM => [pt b31 39 [.slice a206_4 (vb206).length c206_4, .slice a206_5 (wb206).length c206_5], pt b28 27 [.slice a206_0 (hq206).length c206_0, .slice a206_1 (aq206).length c206_1], pt b26 39 [.slice a201_0 ((s9 (j7 aq186 fl186) hq186 hd186).1).length c201_0, .slice a201_1 ((s9 (j7 aq186 fl186) hq186 hd186).2).length c201_1], ow eIs [.slice a201_0 ((s9 (j7 aq186 fl186) hq186 hd186).1).length c201_0] ((s9 (j7 aq186 fl186) hq186 hd186).1), ow eIs [.slice a201_1 ((s9 (j7 aq186 fl186) hq186 hd186).2).length c201_1] ((s9 (j7 aq186 fl186) hq186 hd186).2), pt b24 39 [.slice a194_0 ((s9 (j7 aq186 fl186) hq186 hd186).1).length c194_0, .slice a194_1 ((s9 (j7 aq186 fl186) hq186 hd186).2).length c194_1], ow eIs [.slice a194_0 ((s9 (j7 aq186 fl186) hq186 hd186).1).length c194_0] ((s9 (j7 aq186 fl186) hq186 hd186).1), ow eIs [.slice a194_1 ((s9 (j7 aq186 fl186) hq186 hd186).2).length c194_1] ((s9 (j7 aq186 fl186) hq186 hd186).2), pt b21 27 [.slice a186_0 (hq186).length c186_0, .slice a186_1 (aq186).length c186_1], ow eIs [.slice a148_0 (hq139).length c148_0] hq139, ow j8 [.slice a148_1 (D9 xs139 hq139 aq139).length c148_1] (D9 xs139 hq139 aq139), pt b18 27 [.slice a144_0 (hq139).length c144_0, .slice a144_1 (D9 xs139 hq139 aq139).length c144_1], pt b17 27 [.slice a139_1 (hq139).length c139_1, .slice a139_2 (aq139).length c139_2], pt b14 39 [.slice a98_1 (fzV (c6 (fun t => inR t 0 9) ap36) ap36).length c98_1, .slice a98_2 (fzX (c6 (fun t => inR t 0 9) ap36) ap36).length c98_2], pt b11 39 [.slice a92_1 (fzV (c6 (fun t => inR t 0 9) ap36) ap36).length c92_1, .slice a92_2 (fzX (c6 (fun t => inR t 0 9) ap36) ap36).length c92_2], pt b8 27 [.slice a46_1 (hq46).length c46_1, .slice a46_2 (aq46).length c46_2], pt b5 27 [.slice a36_3 (hq36).length c36_3, .slice a36_4 (aq36).length c36_4], pt b4 27 [.slice a36_1 (hp36).length c36_1, .slice a36_2 (ap36).length c36_2]]) ?_ (fun kM _ => ?_))))))))))))))))))))
      ·refine D.region (fun j => true) mixed (Dyp 0 rfl (i8 rfl) (Dyp 1 rfl (i8 rfl) (Dyp 2 rfl (a4V kr rfl rfl) (n9 (fun q213 => ?_) (fun q213 => ?_)))))
       ·refine Dyp 3 rfl (i8 rfl) (Dy 4 rfl (j6 (cs := [_, _]) ty_Query rfl (Has.pt (mS m0)) rfl) (Dyp 5 rfl (i8 rfl) (Dyp 6 rfl (i8 rfl) (Dy 7 rfl (j6 (cs := [_, _]) ty_Binding rfl (Has.pt m0) rfl) (Dy 9 rfl (j6 (cs := [_, _]) ty_Query rfl (Has.pt (mS m0)) rfl) (Dyp 10 rfl (i8 rfl) (Dyp 11 rfl (i8 rfl) (Dy 12 rfl (j6 (cs := [_, _]) ty_Binding rfl (Has.pt m0) rfl) (r8 8 rfl rfl kr (fun _ => rfl) (m6 (Y5 (by first | assumption | omega) (fun x hx => Nat.le_trans (o206.1.small.2.1 x hx) dc)) rfl rfl rfl dc (fun w Lp hA => ⟨hA.ro rb35, hA.ro rb36, hA.ro rb37, hA.ro rb38, hA.ro rb39, hA.ro rb40⟩)) (fun _ _ => (r8 13 rfl rfl kr (fun _ => rfl) (m6 (a1e (by first | assumption | omega) (fun x hx => Nat.le_trans (o206.1.small.2.1 x hx) dc)) rfl rfl rfl dc (fun w Lp hA => ⟨hA.ro rb35, hA.ro rb36, hA.ro rb37, hA.ro rb38, hA.ro rb39, hA.ro rb40⟩)) (fun _ _ => (Dyp 14 rfl (a4V kr rfl rfl) (Dyp 15 rfl (v8 rfl rfl) (Dyp 16 rfl (C0 rfl) (r7 kr (D6 (D6 (D6 (D6 (D6 (D6 (D6 (D6 (D6 (D6 (D6 (D6 (D6 (D6 (D6 (D6 (D6 (D6 ?_))))))))))))))))))))))))))))))))))
        exact E3 () trivial ⟨rfl, trivial⟩ (.refl _)
       ·exact absurd q213 (by simp)
      ·show Ent _ _ _ [(2, .bool (decide ((O5 (hq206, aq206) fl206 hd206 (vb206, wb206)) = (O5 (hq206, aq206) fl206 hd206 (vb206, wb206)))))] [pt b31 39 [.slice a206_4 (vb206).length c206_4, .slice a206_5 (wb206).length c206_5], pt b28 27 [.slice a206_0 (hq206).length c206_0, .slice a206_1 (aq206).length c206_1], pt b26 39 [.slice a201_0 ((s9 (j7 aq186 fl186) hq186 hd186).1).length c201_0, .slice a201_1 ((s9 (j7 aq186 fl186) hq186 hd186).2).length c201_1], ow eIs [.slice a201_0 ((s9 (j7 aq186 fl186) hq186 hd186).1).length c201_0] ((s9 (j7 aq186 fl186) hq186 hd186).1), ow eIs [.slice a201_1 ((s9 (j7 aq186 fl186) hq186 hd186).2).length c201_1] ((s9 (j7 aq186 fl186) hq186 hd186).2), pt b24 39 [.slice a194_0 ((s9 (j7 aq186 fl186) hq186 hd186).1).length c194_0, .slice a194_1 ((s9 (j7 aq186 fl186) hq186 hd186).2).length c194_1], ow eIs [.slice a194_0 ((s9 (j7 aq186 fl186) hq186 hd186).1).length c194_0] ((s9 (j7 aq186 fl186) hq186 hd186).1), ow eIs [.slice a194_1 ((s9 (j7 aq186 fl186) hq186 hd186).2).length c194_1] ((s9 (j7 aq186 fl186) hq186 hd186).2), pt b21 27 [.slice a186_0 (hq186).length c186_0, .slice a186_1 (aq186).length c186_1], ow eIs [.slice a148_0 (hq139).length c148_0] hq139, ow j8 [.slice a148_1 (D9 xs139 hq139 aq139).length c148_1] (D9 xs139 hq139 aq139), pt b18 27 [.slice a144_0 (hq139).length c144_0, .slice a144_1 (D9 xs139 hq139 aq139).length c144_1], pt b17 27 [.slice a139_1 (hq139).length c139_1, .slice a139_2 (aq139).length c139_2], pt b14 39 [.slice a98_1 (fzV (c6 (fun t => inR t 0 9) ap36) ap36).length c98_1, .slice a98_2 (fzX (c6 (fun t => inR t 0 9) ap36) ap36).length c98_2], pt b11 39 [.slice a92_1 (fzV (c6 (fun t => inR t 0 9) ap36) ap36).length c92_1, .slice a92_2 (fzX (c6 (fun t => inR t 0 9) ap36) ap36).length c92_2], pt b8 27 [.slice a46_1 (hq46).length c46_1, .slice a46_2 (aq46).length c46_2], pt b5 27 [.slice a36_3 (hq36).length c36_3, .slice a36_4 (aq36).length c36_4], pt b4 27 [.slice a36_1 (hp36).length c36_1, .slice a36_2 (ap36).length c36_2]] _
       exact Et (E.ret (F.r1 (((((((((((((((((((((((((((((hB1.comp hB2).comp hB3).comp hB4).comp hB5).comp hB6).comp hB7).comp hB8).comp hB9).comp hB10).comp hB11).comp hB12).comp hB13).comp hB14).comp hB15).comp hB16).comp hB17).comp hB18).comp hB19).comp hB20).comp hB31).comp hB32).comp hB33).comp hB34).comp hB35).comp hB36).comp hB37).comp hB38).comp hB39).comp hB40) rfl rfl () trivial (congrArg Value.bool (by simp_all)) (J := _) (.refl _) (.inl rfl)))
    ·exact absurd q149 (by simp)
end Go.Proofs.YtbedienpleiamaaGreat
