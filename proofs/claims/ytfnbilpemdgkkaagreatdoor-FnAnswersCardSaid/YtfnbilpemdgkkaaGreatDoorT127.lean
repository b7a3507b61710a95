import Derived.Test.YtfnbilpemdgkkaaGreatDoorT125
import Derived.Test.YtfnbilpemdgkkaaGreatDoorT126
import Derived.Test.YtfnbilpemdgkkaaGreatDoorT123
namespace Go.Proofs.YtfnbilpemdgkkaaGreatDoor
open Go.RowKit
set_option linter.all false
set_option maxHeartbeats 2000000
attribute [local irreducible] Nop Yd Yp Ent Has Tr FnP FnP2 Src J8 P6 S7 U6 E7
theorem a2j {a_code : Option Addr} {m_code c_code : Nat} {code : List UInt8} : Tr Tryz.prog 3 [.slice a_code m_code c_code] (fun w L => Ro w L J3 [.slice a_code m_code c_code] code) [] (κ := Unit) (fun k => True) (fun k => .bool (true)) (fun k => []) := by
 refine Tr.intro Tryz.func3 rfl (n := 193) rfl (by decide +kernel) bl (fr := [(0, .slice a_code m_code c_code)]) rfl fun w L hR => ?_
 have hcode := hR
 obtain ⟨rfl, lcode⟩ := hcode.slen
 refine Ew Z1 (Ei rfl (Eu (Eq_ (Ew Z2 (Em rfl (Est rfl (i8 a6y rfl rfl rfl dc (fun w Lp hA => hA.ro hcode)) (fun _ _ => (u5 (fun q26 => ?_) (fun q26 => ?_)))))))))
 ·refine Eu (j9 rfl (Ew Z1 (Ei rfl ?_)))
  exact Eu (E.ret (j5 (Fg rfl rfl () rfl rfl)))
 ·have hcl : code.length ≤ 1048576 := by have := of_decide_eq_false q26; omega
  refine Eu (j8 rfl (f5 (Et (Ew Z10 (Em rfl (Est rfl (N.call (a0R (by first | assumption | omega)) rfl rfl rfl dc rfl (fun w Lp hA => hA.ro hcode)) (fun k29 o29 => ?_)))))))
  obtain ⟨xs29, hq29, aq29, fl29, ⟨a29_0, m29_0, c29_0⟩, ⟨a29_1, m29_1, c29_1⟩, ⟨a29_2, m29_2, c29_2⟩, ⟨a29_3, m29_3, c29_3⟩⟩ := k29
  replace o29 : (1 ≤ xs29.length ∧ xs29.length ≤ 4) ∧ dQ dT 3 3 hq29 aq29 ∧ fl29.length ≤ 9 ∧ ∀ f ∈ fl29, 1 ≤ f.2.length ∧ f.2.length ≤ 4 := o29
  try (conv => arg 4; dsimp only)
  try (conv => arg 5; dsimp only [List.cons_append, List.nil_append, List.append_nil])
  have jq := o29.2.1.small
  have jt := a6O jq
  have jf := o29.2.2.1
  have jh := jq.2.2
  have jc := a8Z (s := xs29) (F := fl29) jq om
  have je := a9y (s := xs29) (F := fl29) jq
  have jv := a9n (s := xs29) (H := hq29) (A := aq29) (F := fl29)
  refine f0 m0 fun e29_0 l29_0 => ?_
  subst e29_0
  refine f0 (mS m0) fun e29_1 l29_1 => ?_
  subst e29_1
  refine f0 (mS (mS m0)) fun e29_2 l29_2 => ?_
  subst e29_2
  refine f0 (mS (mS (mS m0))) fun e29_3 l29_3 => ?_
  subst e29_3
  refine C1 (A := [_]) rfl fun wb1 Lb1 hB1 hA1 => ?_
  have hcode := hA1.ro hcode
  have rb1 : Ro wb1 Lb1 eIs [.slice a29_0 (xs29).length c29_0] xs29 := hA1.ow m0
  refine C1 (A := [_]) rfl fun wb2 Lb2 hB2 hA2 => ?_
  have hcode := hA2.ro hcode
  have rb1 := hA2.ro rb1
  have rb2 : Ro wb2 Lb2 eIs [.slice a29_1 (hq29).length c29_1] hq29 := hA2.ow m0
  refine C1 (A := [_]) rfl fun wb3 Lb3 hB3 hA3 => ?_
  have hcode := hA3.ro hcode
  have rb1 := hA3.ro rb1
  have rb2 := hA3.ro rb2
  have rb3 : Ro wb3 Lb3 C2 [.slice a29_2 (aq29).length c29_2] aq29 := hA3.ow m0
  refine C1 (A := [_]) rfl fun wb4 Lb4 hB4 hA4 => ?_
  have hcode := hA4.ro hcode
  have rb1 := hA4.ro rb1
  have rb2 := hA4.ro rb2
  have rb3 := hA4.ro rb3
  have rb4 : Ro wb4 Lb4 B9 [.slice a29_3 (fl29).length c29_3] fl29 := hA4.ow m0
  refine Em rfl (Ey rfl ((Y.ext rfl rfl).yd) (Ey rfl ((Y.ext rfl rfl).yd) (Ey rfl ((Y.ext rfl rfl).yd) (Est rfl (N.alloc ty_Query dc) (fun b4 _ => (Ei rfl (Est rfl (Ns [_, _] ty_Query rfl) (fun _ _ => (Ei rfl (Ev Z5 (Em rfl (Ey rfl (o1 (cs := [_, _]) ty_Query rfl (Has.pt m0) rfl) (Em rfl (Est rfl (N.call (Y0 (by first | assumption | omega)) rfl rfl rfl dc rfl (fun w Lp hA => ⟨hA.ro rb1, hA.ro rb2, hA.ro rb3, hA.ro rb4⟩)) (fun k36 _ => ?_)))))))))))))))
  obtain ⟨a36, m36, c36⟩ := k36
  refine f0 m0 fun e36 l36 => ?_
  subst e36
  refine C1 (A := [_]) rfl fun wb5 Lb5 hB5 hA5 => ?_
  have hcode := hA5.ro hcode
  have rb1 := hA5.ro rb1
  have rb2 := hA5.ro rb2
  have rb3 := hA5.ro rb3
  have rb4 := hA5.ro rb4
  have rb5 : Ro wb5 Lb5 B2 [.slice a36 (C0 xs29 (hq29, aq29) fl29).length c36] (C0 xs29 (hq29, aq29) fl29) := hA5.ow m0
  refine Ei rfl (Eu (Eq_ (Ew Z14 (Em rfl (Em rfl (Ey rfl (o1 (cs := [_, _]) ty_Query rfl (Has.pt m0) rfl) (Em rfl (Est rfl (N.call (a2e (by first | assumption | omega)) rfl rfl rfl dc rfl (fun w Lp hA => ⟨hA.ro rb1, hA.ro rb2, hA.ro rb3, hA.ro rb4⟩)) (fun k41 _ => ?_)))))))))
  obtain ⟨a41, m41, c41⟩ := k41
  refine f0 m0 fun e41 l41 => ?_
  subst e41
  refine Est rfl (i8 R6 rfl rfl rfl dc (fun w Lp hA => ⟨hA.ro rb5, hA.ow m0⟩)) (fun _ _ => (u5 (fun q42 => ?_) (fun q42 => ?_)))
  ·refine Ey rfl ((Y.not (b := true) rfl).yd) (Em rfl (Em rfl (Est rfl (i8 (a1f om je jv) rfl rfl rfl dc (fun w Lp hA => hA.ro rb5)) (fun _ _ => (Em rfl (Est rfl (i8 (a1g om je) rfl rfl rfl dc (fun w Lp hA => hA.ro rb5)) (fun _ _ => (Ey rfl ((b0a rfl rfl).yd) (j4 (fun q49 => ?_) (fun q49 => ?_))))))))))
   ·exact absurd rfl q49
   ·refine Ey rfl ((w7 rfl rfl).yd) (Eu (j8 rfl (f5 (Et (Eq_ (Ew Z1 (Ei rfl (Eu (E.block (E.loop (κ := Nat) (fun g => g ≤ (C0 xs29 (hq29, aq29) fl29).length ∧ True) (fun g => [(0, .slice a_code code.length c_code), (3, .slice a29_0 (xs29).length c29_0), (4, .pointer (some ⟨b4, 0, none⟩)), (5, .slice a29_3 (fl29).length c29_3), (6, .slice a36 (C0 xs29 (hq29, aq29) fl29).length c36), (7, .int .i64 (g : Int))]) (fun g => [ow B2 [.slice a41 (C0 xs29 (hq29, aq29) fl29).length c41] (C0 xs29 (hq29, aq29) fl29), pt b4 27 [.slice a29_1 (hq29).length c29_1, .slice a29_2 (aq29).length c29_2]]) (fun g => (C0 xs29 (hq29, aq29) fl29).length - g) 0 ⟨Nat.zero_le _, by simp⟩ ⟨rfl, rfl, rfl, rfl, rfl, rfl, trivial⟩ (.refl _) (fun g pg => ?_)))))))))))
    obtain ⟨pk, pa⟩ := pg
    refine Eq_ (Ew Z4 (Em rfl (Em rfl (Ey rfl ((Y.len us_Iss rfl).yd) (Ey rfl ((Y.lss rfl rfl).yd) (j4 (fun q54 => ?_) (fun q54 => ?_)))))))
    ·refine Eu (j9 rfl (f5 (Et (Eq_ (E.block (Eq_ (a1M (κ := Nat × Option Addr × Nat × Option Addr × Nat) (fun _ => True) (fun kM => [(0, .slice a_code code.length c_code), (3, .slice a29_0 (xs29).length c29_0), (4, .pointer (some ⟨b4, 0, none⟩)), (5, .slice a29_3 (fl29).length c29_3), (6, .slice a36 (C0 xs29 (hq29, aq29) fl29).length c36), (7, .int .i64 (g : Int)), (8, .pointer (some ⟨kM.1, 0, none⟩)), (9, .bool ((r8 aq29 fl29).any (H4 hq29 ((C0 xs29 (hq29, aq29) fl29)[g]))))]) (fun kM => [pt kM.1 36 [.slice kM.2.1 ((F0 (r8 aq29 fl29) hq29 ((C0 xs29 (hq29, aq29) fl29)[g])).1).length kM.2.2.1, .slice kM.2.2.2.1 ((F0 (r8 aq29 fl29) hq29 ((C0 xs29 (hq29, aq29) fl29)[g])).2).length kM.2.2.2.2], ow eIs [.slice kM.2.1 ((F0 (r8 aq29 fl29) hq29 ((C0 xs29 (hq29, aq29) fl29)[g])).1).length kM.2.2.1] ((F0 (r8 aq29 fl29) hq29 ((C0 xs29 (hq29, aq29) fl29)[g])).1), ow eIs [.slice kM.2.2.2.1 ((F0 (r8 aq29 fl29) hq29 ((C0 xs29 (hq29, aq29) fl29)[g])).2).length kM.2.2.2.2] ((F0 (r8 aq29 fl29) hq29 ((C0 xs29 (hq29, aq29) fl29)[g])).2), ow B2 [.slice a41 (C0 xs29 (hq29, aq29) fl29).length c41] (C0 xs29 (hq29, aq29) fl29), pt b4 27 [.slice a29_1 (hq29).length c29_1, .slice a29_2 (aq29).length c29_2]]) ?_ (fun kM _ => ?_))))))))
     ·refine D.region (fun j => !(Nat.beq j 11)) mixed (Dy 0 rfl (o1 (cs := [_, _]) ty_Query rfl (Has.pt (mS m0)) rfl) (Dyp 1 rfl (i0 rfl) (Dyp 2 rfl (i0 rfl) (Dyp 3 rfl (i0 rfl) ?_))))
      obtain ⟨eb62, eo62, ec62, ea62, er62, el62, eh62⟩ := rb5.elem g om
      obtain ⟨xa62, xc62, rfl⟩ := er62.sl
      have := er62.slen.2
      refine Dyp 4 rfl (o6 us_Iss ty_Is rfl ea62 rfl g rfl om) (Dy 5 rfl (f6 ty_Is rfl (eh62 _) rfl) (a4y (i := 6) (j := 10) kr ?_ ?_))
      ·refine a1x 6 rfl rfl (fun _ => rfl) (N.call (W7 jq.1 jq.2.1 (fun a _ => a1z om) om) rfl rfl rfl dc rfl (fun w Lp hA => ⟨hA.ro rb2, hA.ro rb3, hA.ro rb4, hA.ro er62⟩)) (fun k64 _ => ?_)
       obtain ⟨⟨a64_0, m64_0, c64_0⟩, ⟨a64_1, m64_1, c64_1⟩⟩ := k64
       refine f0 m0 fun e64_0 l64_0 => ?_
       subst e64_0
       refine f0 (mS m0) fun e64_1 l64_1 => ?_
       subst e64_1
       refine Dyp 7 rfl (i0 rfl) (Dyp 8 rfl (Y.ext rfl rfl) (Dyp 9 rfl (Y.ext rfl rfl) (t7 10 rfl rfl kr (fun _ => rfl) (N.alloc ty_Binding dc) (fun b8 _ => (t7 11 rfl rfl kr (fun h => by cases h) (Ns [_, _] ty_Binding rfl) (fun _ _ => (Dyp 12 rfl (D8 rfl) (o0 kr (o4 (o4 (o4 (o4 (o4 ?_)))))))))))))
       exact P8 (b8, a64_0, c64_0, a64_1, c64_1) trivial ⟨rfl, rfl, rfl, rfl, rfl, rfl, rfl, rfl, trivial⟩ (.refl _)
      ·refine a1x 10 rfl rfl (fun _ => rfl) (N.alloc ty_Binding dc) (fun b8 _ => (t7 6 rfl rfl kr (fun _ => rfl) (N.call (W7 jq.1 jq.2.1 (fun a _ => a1z om) om) rfl rfl rfl dc rfl (fun w Lp hA => ⟨hA.ro rb2, hA.ro rb3, hA.ro rb4, hA.ro er62⟩)) (fun k64 _ => ?_)))
       obtain ⟨⟨a64_0, m64_0, c64_0⟩, ⟨a64_1, m64_1, c64_1⟩⟩ := k64
       refine f0 m0 fun e64_0 l64_0 => ?_
       subst e64_0
       refine f0 (mS m0) fun e64_1 l64_1 => ?_
       subst e64_1
       refine Dyp 7 rfl (i0 rfl) (Dyp 8 rfl (Y.ext rfl rfl) (Dyp 9 rfl (Y.ext rfl rfl) (g9 (t7 11 rfl rfl kr (fun h => by cases h) (Ns [_, _] ty_Binding rfl) (fun _ _ => (Dyp 12 rfl (D8 rfl) (o0 kr (o4 (o4 (o4 (o4 (o4 ?_))))))))))))
       exact P8 (b8, a64_0, c64_0, a64_1, c64_1) trivial ⟨rfl, rfl, rfl, rfl, rfl, rfl, rfl, rfl, trivial⟩ (.refl _)
     ·obtain ⟨b8, a64_0, c64_0, a64_1, c64_1⟩ := kM
      try dsimp only
      refine Et (Eq_ (D.region (fun j => true) mixed (Dyp 0 rfl (i0 rfl) (u5 (fun q67 => ?_) (fun q67 => ?_)))))
      ·refine Dyp 1 rfl (Y.not (b := true) rfl) (Dyp 2 rfl (i0 rfl) (Dy 3 rfl (o1 (cs := [_, _]) ty_Query rfl (Has.pt (mS (mS (mS (mS m0))))) rfl) (Dyp 4 rfl (i0 rfl) (Dyp 5 rfl (i0 rfl) (Dyp 6 rfl (i0 rfl) ?_)))))
       obtain ⟨eb74, eo74, ec74, ea74, er74, el74, eh74⟩ := rb5.elem g om
       obtain ⟨xa74, xc74, rfl⟩ := er74.sl
       have := er74.slen.2
       refine Dyp 7 rfl (o6 us_Iss ty_Is rfl ea74 rfl g rfl om) (Dy 8 rfl (f6 ty_Is rfl (eh74 _) rfl) (Dy 9 rfl (o1 (cs := [_, _]) ty_Binding rfl (Has.pt m0) rfl) (t7 10 rfl rfl kr (fun _ => rfl) (i8 (a1X (by first | assumption | omega) (fun x hx => Nat.le_trans (jq.2.1 x hx) dc)) rfl rfl rfl dc (fun w Lp hA => ⟨hA.ro rb2, hA.ro rb3, hA.ro rb4, hA.ro er74, hA.ow (mS m0), hA.ow (mS (mS m0))⟩)) (fun _ _ => (u5 (fun q77 => ?_) (fun q77 => ?_))))))
       ·refine Dyp 11 rfl (Y.not (b := true) rfl) (Dyp 12 rfl (w7 rfl rfl) (o0 kr (Et (j8 rfl (f5 (n9 (Et (Ez Z3 (Em rfl (Ey rfl ((Y.add rfl rfl om om).yd) (Ei rfl (Eu (Ent.drop (Ent.drop (Ent.drop (d7 (d7 ?_)))))))))))))))))
        exact t8 br (g + 1) rs (.refl _) ⟨by omega, by grind [d1, d2, t1, t2]⟩ om
       ·exact absurd (a7p (s := xs29) (q := (hq29, aq29)) (F := fl29) (g := g) om).2 (by rw [q77]; decide)
      ·exact absurd (a7p (s := xs29) (q := (hq29, aq29)) (F := fl29) (g := g) om).1 (by rw [q67]; decide)
    ·refine Eu (j8 rfl (E.exit (l2 (l2 (w8 (Et (Eq_ (Eq_ (a1M (κ := Unit) (fun _ => True) (fun kM => [(0, .slice a_code code.length c_code), (97, .bool false)]) (fun kM => [ow B2 [.slice a41 (C0 xs29 (hq29, aq29) fl29).length c41] (C0 xs29 (hq29, aq29) fl29), pt b4 27 [.slice a29_1 (hq29).length c29_1, .slice a29_2 (aq29).length c29_2]]) ?_ (fun kM _ => ?_))))))))))
     ·refine D.region (fun j => true) mixed (Dyp 0 rfl (i0 rfl) (Dyp 1 rfl (Y.len us_Facts rfl) (Dyp 2 rfl (Y.gtr rfl rfl) (j4 (fun q82 => ?_) (fun q82 => ?_)))))
      ·refine Dyp 3 rfl (i0 rfl) (Dyp 4 rfl (i0 rfl) (Dyp 5 rfl (i0 rfl) (t7 6 rfl rfl kr (fun _ => rfl) (i8 a0i rfl rfl rfl dc (fun w Lp hA => ⟨hA.ro rb1, hA.ro rb4⟩)) (fun _ _ => (u5 (fun q86 => ?_) (fun q86 => ?_))))))
       ·refine Dyp 7 rfl (v6 rfl rfl) (Dyp 8 rfl (i0 rfl) (Dyp 9 rfl (i0 rfl) (Dy 10 rfl (o1 (cs := [_, _]) ty_Query rfl (Has.pt (mS m0)) rfl) (Dyp 11 rfl (i0 rfl) (Dyp 12 rfl (a2t (l := 1) us_Facts ty_Fact rfl rfl om) (Dyp 14 rfl (i0 rfl) (t7 13 rfl rfl kr (fun _ => rfl) (N.call (Y0 (by first | assumption | omega)) rfl rfl rfl dc rfl (fun w Lp hA => ⟨hA.ro rb1, hA.ro rb2, hA.ro rb3, hA.ro (rb4.frm 1 om)⟩)) (fun k93 _ => ?_))))))))
        obtain ⟨a93, m93, c93⟩ := k93
        refine f0 m0 fun e93 l93 => ?_
        subst e93
        refine t7 15 rfl rfl kr (fun _ => rfl) (i8 a4l rfl rfl rfl dc (fun w Lp hA => ⟨hA.ow m0, hA.ro rb5⟩)) (fun _ _ => (u5 (fun q95 => ?_) (fun q95 => ?_)))
        ·refine Dyp 16 rfl (Y.not (b := true) rfl) (Dyp 17 rfl (v6 rfl rfl) (o0 kr (Ent.drop (d7 (d7 ?_)))))
         exact P8 () trivial ⟨rfl, rfl, trivial⟩ (.refl _)
        ·exact absurd (a7K q86) (by rw [q95]; decide)
       ·refine Dyp 7 rfl (v6 rfl rfl) (Dyp 8 rfl (i0 rfl) (Dsk 9 rfl (Dsk 10 rfl (Dsk 11 rfl (Dsk 12 rfl (Dsk 13 rfl (Dsk 14 rfl (Dsk 15 rfl (Dsk 16 rfl (Dyp 17 rfl (w7 rfl rfl) (o0 kr (d7 (d7 ?_)))))))))))))
        exact P8 () trivial ⟨rfl, rfl, trivial⟩ (.refl _)
      ·refine Dyp 3 rfl (i0 rfl) (Dsk 4 rfl (Dsk 5 rfl (Dsk 6 rfl (Dyp 7 rfl (w7 rfl rfl) (Dyp 8 rfl (i0 rfl) (Dsk 9 rfl (Dsk 10 rfl (Dsk 11 rfl (Dsk 12 rfl (Dsk 13 rfl (Dsk 14 rfl (Dsk 15 rfl (Dsk 16 rfl (Dyp 17 rfl (w7 rfl rfl) ?_))))))))))))))
       refine o0 kr (d7 (d7 ?_))
       exact P8 () trivial ⟨rfl, rfl, trivial⟩ (.refl _)
     ·show Ent _ _ _ [(0, .slice a_code code.length c_code), (97, .bool false)] [ow B2 [.slice a41 (C0 xs29 (hq29, aq29) fl29).length c41] (C0 xs29 (hq29, aq29) fl29), pt b4 27 [.slice a29_1 (hq29).length c29_1, .slice a29_2 (aq29).length c29_2]] _
      refine Et (j8 rfl (f5 (Et (Ew Z12 (Em rfl (Est rfl (N.call (a0U (by first | assumption | omega)) rfl rfl rfl dc rfl (fun w Lp hA => hA.ro hcode)) (fun k100 o100 => ?_)))))))
      obtain ⟨vb100, wb100, ra100, ta100, rl100, vs100, ⟨a100_0, m100_0, c100_0⟩, ⟨a100_1, m100_1, c100_1⟩, ⟨a100_2, m100_2, c100_2⟩, ⟨a100_3, m100_3, c100_3⟩⟩ := k100
      replace o100 : (vb100.length ≤ 5 ∧ wb100.length ≤ 4) ∧ ta100.length ≤ 3 ∧ vs100.length ≤ 4 ∧ I64 ra100 ∧ I64 rl100 := o100
      try (conv => arg 4; dsimp only)
      try (conv => arg 5; dsimp only [List.cons_append, List.nil_append, List.append_nil])
      refine f0 m0 fun e100_0 l100_0 => ?_
      subst e100_0
      refine f0 (mS m0) fun e100_1 l100_1 => ?_
      subst e100_1
      refine f0 (mS (mS m0)) fun e100_2 l100_2 => ?_
      subst e100_2
      refine f0 (mS (mS (mS m0))) fun e100_3 l100_3 => ?_
      subst e100_3
      refine C1 (A := [_]) rfl fun wb6 Lb6 hB6 hA6 => ?_
      have hcode := hA6.ro hcode
      have rb2 := hA6.ro rb2
      have rb3 := hA6.ro rb3
      have rb6 : Ro wb6 Lb6 eIs [.slice a100_0 (vb100).length c100_0] vb100 := hA6.ow m0
      refine C1 (A := [_]) rfl fun wb7 Lb7 hB7 hA7 => ?_
      have hcode := hA7.ro hcode
      have rb6 := hA7.ro rb6
      have rb2 := hA7.ro rb2
      have rb3 := hA7.ro rb3
      have rb7 : Ro wb7 Lb7 eIs [.slice a100_1 (wb100).length c100_1] wb100 := hA7.ow m0
      refine C1 (A := [_]) rfl fun wb8 Lb8 hB8 hA8 => ?_
      have hcode := hA8.ro hcode
      have rb6 := hA8.ro rb6
      have rb7 := hA8.ro rb7
      have rb2 := hA8.ro rb2
      have rb3 := hA8.ro rb3
      have rb8 : Ro wb8 Lb8 eIs [.slice a100_2 (ta100).length c100_2] ta100 := hA8.ow m0
      refine C1 (A := [_]) rfl fun wb9 Lb9 hB9 hA9 => ?_
      have hcode := hA9.ro hcode
      have rb6 := hA9.ro rb6
      have rb7 := hA9.ro rb7
      have rb8 := hA9.ro rb8
      have rb2 := hA9.ro rb2
      have rb3 := hA9.ro rb3
      have rb9 : Ro wb9 Lb9 eIs [.slice a100_3 (vs100).length c100_3] vs100 := hA9.ow m0
      refine Em rfl (Ey rfl ((Y.ext rfl rfl).yd) (Ey rfl ((Y.ext rfl rfl).yd) (Ey rfl ((Y.ext rfl rfl).yd) (Est rfl (N.alloc ty_Binding dc) (fun b10 _ => (Est rfl (N.alloc ty_Atom dc) (fun b11 _ => (Est rfl (N.alloc ty_Fact dc) (fun b12 _ => (g9 (Est rfl (Ns [_, _] ty_Binding rfl) (fun _ _ => (g9 (Est rfl (Ns [_, _] ty_Atom rfl) (fun _ _ => (g9 (Est rfl (Ns [_, _] ty_Fact rfl) (fun _ _ => (Ev Z10 (Ey rfl (o1 (cs := [_, _]) ty_Binding rfl (Has.pt (mS (mS m0))) rfl) (Ey rfl (o1 (cs := [_, _]) ty_Atom rfl (Has.pt (mS m0)) rfl) ?_)))))))))))))))))))))
      refine Ey rfl (o1 (cs := [_, _]) ty_Fact rfl (Has.pt m0) rfl) (Est rfl (N.call (a0a (by first | assumption | omega) (by first | assumption | omega) (by first | assumption | omega)) rfl rfl rfl dc rfl (fun w Lp hA => ⟨hA.ro rb6, hA.ro rb7, i6, hA.ro rb8, i6, hA.ro rb9⟩)) (fun k108 _ => ?_))
      obtain ⟨⟨a108_0, m108_0, c108_0⟩, ⟨a108_1, m108_1, c108_1⟩⟩ := k108
      refine f0 m0 fun e108_0 l108_0 => ?_
      subst e108_0
      refine f0 (mS m0) fun e108_1 l108_1 => ?_
      subst e108_1
      refine C1 (A := [_]) rfl fun wb10 Lb10 hB10 hA10 => ?_
      have hcode := hA10.ro hcode
      have rb6 := hA10.ro rb6
      have rb7 := hA10.ro rb7
      have rb8 := hA10.ro rb8
      have rb9 := hA10.ro rb9
      have rb2 := hA10.ro rb2
      have rb3 := hA10.ro rb3
      have rb10 : Ro wb10 Lb10 eIs [.slice a108_0 (cond (j0 (vb100, wb100) (ra100, ta100) (rl100, vs100)) (k7 (vb100, wb100) (ra100, ta100) (rl100, vs100)).1 []).length c108_0] (cond (j0 (vb100, wb100) (ra100, ta100) (rl100, vs100)) (k7 (vb100, wb100) (ra100, ta100) (rl100, vs100)).1 []) := hA10.ow m0
      refine C1 (A := [_]) rfl fun wb11 Lb11 hB11 hA11 => ?_
      have hcode := hA11.ro hcode
      have rb6 := hA11.ro rb6
      have rb7 := hA11.ro rb7
      have rb8 := hA11.ro rb8
      have rb9 := hA11.ro rb9
      have rb10 := hA11.ro rb10
      have rb2 := hA11.ro rb2
      have rb3 := hA11.ro rb3
      have rb11 : Ro wb11 Lb11 eIs [.slice a108_1 (cond (j0 (vb100, wb100) (ra100, ta100) (rl100, vs100)) (k7 (vb100, wb100) (ra100, ta100) (rl100, vs100)).2 []).length c108_1] (cond (j0 (vb100, wb100) (ra100, ta100) (rl100, vs100)) (k7 (vb100, wb100) (ra100, ta100) (rl100, vs100)).2 []) := hA11.ow m0
      refine Em rfl (Ey rfl ((Y.ext rfl rfl).yd) (Ey rfl ((Y.ext rfl rfl).yd) (Est rfl (N.alloc ty_Binding dc) (fun b13 _ => (Est rfl (Ns [_, _] ty_Binding rfl) (fun _ _ => (Ei rfl (Ev Z10 (Ey rfl (o1 (cs := [_, _]) ty_Binding rfl (Has.pt (mS (mS (mS m0)))) rfl) (Ey rfl (o1 (cs := [_, _]) ty_Atom rfl (Has.pt (mS (mS m0))) rfl) (Ey rfl (o1 (cs := [_, _]) ty_Fact rfl (Has.pt (mS m0)) rfl) (Est rfl (N.call (S2 (by first | assumption | omega) (by first | assumption | omega) (by first | assumption | omega)) rfl rfl rfl dc rfl (fun w Lp hA => ⟨hA.ro rb6, hA.ro rb7, i6, hA.ro rb8, i6, hA.ro rb9⟩)) (fun k115 _ => ?_)))))))))))))
      obtain ⟨⟨a115_0, m115_0, c115_0⟩, ⟨a115_1, m115_1, c115_1⟩⟩ := k115
      refine f0 m0 fun e115_0 l115_0 => ?_
      subst e115_0
      refine f0 (mS m0) fun e115_1 l115_1 => ?_
      subst e115_1
      refine C1 (A := [_]) rfl fun wb12 Lb12 hB12 hA12 => ?_
      have hcode := hA12.ro hcode
      have rb6 := hA12.ro rb6
      have rb7 := hA12.ro rb7
      have rb8 := hA12.ro rb8
      have rb9 := hA12.ro rb9
      have rb10 := hA12.ro rb10
      have rb11 := hA12.ro rb11
      have rb2 := hA12.ro rb2
      have rb3 := hA12.ro rb3
      have rb12 : Ro wb12 Lb12 eIs [.slice a115_0 (cond (j0 (vb100, wb100) (ra100, ta100) (rl100, vs100)) (k7 (vb100, wb100) (ra100, ta100) (rl100, vs100)).1 []).length c115_0] (cond (j0 (vb100, wb100) (ra100, ta100) (rl100, vs100)) (k7 (vb100, wb100) (ra100, ta100) (rl100, vs100)).1 []) := hA12.ow m0
      refine C1 (A := [_]) rfl fun wb13 Lb13 hB13 hA13 => ?_
      have hcode := hA13.ro hcode
      have rb6 := hA13.ro rb6
      have rb7 := hA13.ro rb7
      have rb8 := hA13.ro rb8
      have rb9 := hA13.ro rb9
      have rb10 := hA13.ro rb10
      have rb11 := hA13.ro rb11
      have rb12 := hA13.ro rb12
      have rb2 := hA13.ro rb2
      have rb3 := hA13.ro rb3
      have rb13 : Ro wb13 Lb13 eIs [.slice a115_1 (cond (j0 (vb100, wb100) (ra100, ta100) (rl100, vs100)) (k7 (vb100, wb100) (ra100, ta100) (rl100, vs100)).2 []).length c115_1] (cond (j0 (vb100, wb100) (ra100, ta100) (rl100, vs100)) (k7 (vb100, wb100) (ra100, ta100) (rl100, vs100)).2 []) := hA13.ow m0
      refine Em rfl (Ey rfl ((Y.ext rfl rfl).yd) (Ey rfl ((Y.ext rfl rfl).yd) (Est rfl (N.alloc ty_Binding dc) (fun b15 _ => (Est rfl (Ns [_, _] ty_Binding rfl) (fun _ _ => (Ei rfl (Ev Z7 (Em rfl (Est rfl (N.call (a1i (by first | assumption | omega)) rfl rfl rfl dc rfl (fun w Lp hA => hA.ro hcode)) (fun k120 o120 => ?_)))))))))))
      obtain ⟨tl120, tp120, ⟨a120_0, m120_0, c120_0⟩, ⟨a120_1, m120_1, c120_1⟩⟩ := k120
      replace o120 : (tl120.length ≤ 4 ∧ ∀ t ∈ tl120, t.length = 2) ∧ tp120.length = 2 := o120
      try (conv => arg 4; dsimp only)
      try (conv => arg 5; dsimp only [List.cons_append, List.nil_append, List.append_nil])
      have jt1 : ∀ t ∈ tl120, t.length ≤ 1048576 := fun t ht => by have := o120.1.2 t ht; omega
      refine f0 m0 fun e120_0 l120_0 => ?_
      subst e120_0
      refine f0 (mS m0) fun e120_1 l120_1 => ?_
      subst e120_1
      refine C1 (A := [_]) rfl fun wb14 Lb14 hB14 hA14 => ?_
      have hcode := hA14.ro hcode
      have rb6 := hA14.ro rb6
      have rb7 := hA14.ro rb7
      have rb8 := hA14.ro rb8
      have rb9 := hA14.ro rb9
      have rb10 := hA14.ro rb10
      have rb11 := hA14.ro rb11
      have rb12 := hA14.ro rb12
      have rb13 := hA14.ro rb13
      have rb2 := hA14.ro rb2
      have rb3 := hA14.ro rb3
      have rb14 : Ro wb14 Lb14 B2 [.slice a120_0 (tl120).length c120_0] tl120 := hA14.ow m0
      refine C1 (A := [_]) rfl fun wb15 Lb15 hB15 hA15 => ?_
      have hcode := hA15.ro hcode
      have rb6 := hA15.ro rb6
      have rb7 := hA15.ro rb7
      have rb8 := hA15.ro rb8
      have rb9 := hA15.ro rb9
      have rb10 := hA15.ro rb10
      have rb11 := hA15.ro rb11
      have rb12 := hA15.ro rb12
      have rb13 := hA15.ro rb13
      have rb14 := hA15.ro rb14
      have rb2 := hA15.ro rb2
      have rb3 := hA15.ro rb3
      have rb15 : Ro wb15 Lb15 eIs [.slice a120_1 (tp120).length c120_1] tp120 := hA15.ow m0
      refine Em rfl (Ey rfl ((Y.ext rfl rfl).yd) (Ey rfl ((Y.ext rfl rfl).yd) (Ei rfl (Ei rfl (Ev Z7 (Em rfl (Est rfl (N.call (a0u (by first | assumption | omega)) rfl rfl rfl dc rfl (fun w Lp hA => hA.ro hcode)) (fun k125 o125 => ?_))))))))
      obtain ⟨tl125, ul125, ⟨a125_0, m125_0, c125_0⟩, ⟨a125_1, m125_1, c125_1⟩⟩ := k125
      replace o125 : (tl125.length ≤ 4 ∧ ∀ t ∈ tl125, t.length = 2) ∧ (ul125.length ≤ 4 ∧ ∀ t ∈ ul125, t.length = 2) := o125
      try (conv => arg 4; dsimp only)
      try (conv => arg 5; dsimp only [List.cons_append, List.nil_append, List.append_nil])
      refine C1 (A := [_]) rfl fun wb16 Lb16 hB16 hA16 => ?_
      have hcode := hA16.ro hcode
      have rb6 := hA16.ro rb6
      have rb7 := hA16.ro rb7
      have rb8 := hA16.ro rb8
      have rb9 := hA16.ro rb9
      have rb10 := hA16.ro rb10
      have rb11 := hA16.ro rb11
      have rb12 := hA16.ro rb12
      have rb13 := hA16.ro rb13
      have rb14 := hA16.ro rb14
      have rb15 := hA16.ro rb15
      have rb2 := hA16.ro rb2
      have rb3 := hA16.ro rb3
      have rb16 : Ro wb16 Lb16 a9J [.slice a125_0 m125_0 c125_0, .slice a125_1 m125_1 c125_1] (tl125, ul125) := hA16.ow m0
      obtain ⟨rb16a, rb16b⟩ := a9T rb16
      have e125_0 := rb16a.slen
      obtain ⟨e125_0, l125_0⟩ := e125_0
      subst e125_0
      have e125_1 := rb16b.slen
      obtain ⟨e125_1, l125_1⟩ := e125_1
      subst e125_1
      refine Em rfl (Ey rfl ((Y.ext rfl rfl).yd) (Ey rfl ((Y.ext rfl rfl).yd) (Ei rfl (Ei rfl (Ev Z8 (Em rfl (Est rfl (N.call (a0x (by first | assumption | omega)) rfl rfl rfl dc rfl (fun w Lp hA => hA.ro hcode)) (fun k130 o130 => ?_))))))))
      obtain ⟨hq130, aq130, fl130, ⟨a130_0, m130_0, c130_0⟩, ⟨a130_1, m130_1, c130_1⟩, ⟨a130_2, m130_2, c130_2⟩⟩ := k130
      replace o130 : dQ dT 3 3 hq130 aq130 ∧ fl130.length ≤ 9 ∧ ∀ f ∈ fl130, 1 ≤ f.2.length ∧ f.2.length ≤ 4 := o130
      try (conv => arg 4; dsimp only)
      try (conv => arg 5; dsimp only [List.cons_append, List.nil_append, List.append_nil])
      have jq2 := o130.1.small
      have jf2 := o130.2.1
      refine f0 m0 fun e130_0 l130_0 => ?_
      subst e130_0
      refine f0 (mS m0) fun e130_1 l130_1 => ?_
      subst e130_1
      refine f0 (mS (mS m0)) fun e130_2 l130_2 => ?_
      subst e130_2
      refine C1 (A := [_]) rfl fun wb17 Lb17 hB17 hA17 => ?_
      have hcode := hA17.ro hcode
      have rb6 := hA17.ro rb6
      have rb7 := hA17.ro rb7
      have rb8 := hA17.ro rb8
      have rb9 := hA17.ro rb9
      have rb10 := hA17.ro rb10
      have rb11 := hA17.ro rb11
      have rb12 := hA17.ro rb12
      have rb13 := hA17.ro rb13
      have rb14 := hA17.ro rb14
      have rb15 := hA17.ro rb15
      have rb16a := hA17.ro rb16a
      have rb16b := hA17.ro rb16b
      have rb2 := hA17.ro rb2
      have rb3 := hA17.ro rb3
      have rb17 : Ro wb17 Lb17 eIs [.slice a130_0 (hq130).length c130_0] hq130 := hA17.ow m0
      refine C1 (A := [_]) rfl fun wb18 Lb18 hB18 hA18 => ?_
      have hcode := hA18.ro hcode
      have rb6 := hA18.ro rb6
      have rb7 := hA18.ro rb7
      have rb8 := hA18.ro rb8
      have rb9 := hA18.ro rb9
      have rb10 := hA18.ro rb10
      have rb11 := hA18.ro rb11
      have rb12 := hA18.ro rb12
      have rb13 := hA18.ro rb13
      have rb14 := hA18.ro rb14
      have rb15 := hA18.ro rb15
      have rb16a := hA18.ro rb16a
      have rb16b := hA18.ro rb16b
      have rb17 := hA18.ro rb17
      have rb2 := hA18.ro rb2
      have rb3 := hA18.ro rb3
      have rb18 : Ro wb18 Lb18 C2 [.slice a130_1 (aq130).length c130_1] aq130 := hA18.ow m0
      refine C1 (A := [_]) rfl fun wb19 Lb19 hB19 hA19 => ?_
      have hcode := hA19.ro hcode
      have rb6 := hA19.ro rb6
      have rb7 := hA19.ro rb7
      have rb8 := hA19.ro rb8
      have rb9 := hA19.ro rb9
      have rb10 := hA19.ro rb10
      have rb11 := hA19.ro rb11
      have rb12 := hA19.ro rb12
      have rb13 := hA19.ro rb13
      have rb14 := hA19.ro rb14
      have rb15 := hA19.ro rb15
      have rb16a := hA19.ro rb16a
      have rb16b := hA19.ro rb16b
      have rb17 := hA19.ro rb17
      have rb18 := hA19.ro rb18
      have rb2 := hA19.ro rb2
      have rb3 := hA19.ro rb3
      have rb19 : Ro wb19 Lb19 B9 [.slice a130_2 (fl130).length c130_2] fl130 := hA19.ow m0
      refine Em rfl (Ey rfl ((Y.ext rfl rfl).yd) (Ey rfl ((Y.ext rfl rfl).yd) (Est rfl (N.alloc ty_Query dc) (fun b21 _ => (Est rfl (Ns [_, _] ty_Query rfl) (fun _ _ => (Ei rfl (Ev Z8 (Em rfl (Est rfl (N.call (a1s (by first | assumption | omega)) rfl rfl rfl dc rfl (fun w Lp hA => hA.ro hcode)) (fun k135 o135 => ?_)))))))))))
      obtain ⟨vb135, wb135, x135, ⟨a135_0, m135_0, c135_0⟩, ⟨a135_1, m135_1, c135_1⟩⟩ := k135
      replace o135 : (vb135.length ≤ 5 ∧ wb135.length ≤ 4) ∧ -1 ≤ x135 ∧ x135 ≤ 20 := o135
      try (conv => arg 4; dsimp only)
      try (conv => arg 5; dsimp only [List.cons_append, List.nil_append, List.append_nil])
      refine f0 m0 fun e135_0 l135_0 => ?_
      subst e135_0
      refine f0 (mS m0) fun e135_1 l135_1 => ?_
      subst e135_1
      refine C1 (A := [_]) rfl fun wb20 Lb20 hB20 hA20 => ?_
      have hcode := hA20.ro hcode
      have rb6 := hA20.ro rb6
      have rb7 := hA20.ro rb7
      have rb8 := hA20.ro rb8
      have rb9 := hA20.ro rb9
      have rb10 := hA20.ro rb10
      have rb11 := hA20.ro rb11
      have rb12 := hA20.ro rb12
      have rb13 := hA20.ro rb13
      have rb14 := hA20.ro rb14
      have rb15 := hA20.ro rb15
      have rb16a := hA20.ro rb16a
      have rb16b := hA20.ro rb16b
      have rb17 := hA20.ro rb17
      have rb18 := hA20.ro rb18
      have rb19 := hA20.ro rb19
      have rb2 := hA20.ro rb2
      have rb3 := hA20.ro rb3
      have rb20 : Ro wb20 Lb20 eIs [.slice a135_0 (vb135).length c135_0] vb135 := hA20.ow m0
      refine C1 (A := [_]) rfl fun wb21 Lb21 hB21 hA21 => ?_
      have hcode := hA21.ro hcode
      have rb6 := hA21.ro rb6
      have rb7 := hA21.ro rb7
      have rb8 := hA21.ro rb8
      have rb9 := hA21.ro rb9
      have rb10 := hA21.ro rb10
      have rb11 := hA21.ro rb11
      have rb12 := hA21.ro rb12
      have rb13 := hA21.ro rb13
      have rb14 := hA21.ro rb14
      have rb15 := hA21.ro rb15
      have rb16a := hA21.ro rb16a
      have rb16b := hA21.ro rb16b
      have rb17 := hA21.ro rb17
      have rb18 := hA21.ro rb18
      have rb19 := hA21.ro rb19
      have rb20 := hA21.ro rb20
      have rb2 := hA21.ro rb2
      have rb3 := hA21.ro rb3
      have rb21 : Ro wb21 Lb21 eIs [.slice a135_1 (wb135).length c135_1] wb135 := hA21.ow m0
      refine Em rfl (Ey rfl ((Y.ext rfl rfl).yd) (Ey rfl ((Y.ext rfl rfl).yd) (Est rfl (N.alloc ty_Binding dc) (fun b23 _ => (Est rfl (Ns [_, _] ty_Binding rfl) (fun _ _ => (Ei rfl (Eu (Eq_ (D.region (fun j => true) mixed (Dyp 0 rfl (i0 rfl) (Dyp 1 rfl (i0 rfl) (Dyp 2 rfl (a7B kr rfl rfl) (j4 (fun q140 => ?_) (fun q140 => ?_)))))))))))))))
      ·refine Dyp 3 rfl (i0 rfl) (Dyp 4 rfl (f9 fo_Binding_0 ty_Is dc rfl) (Dy 5 rfl (f6 ty_Is rfl (Hz (mS (mS (mS m0))) 0 rfl) rfl) (Dyp 6 rfl (f9 fo_Binding_0 ty_Is dc rfl) (Dy 7 rfl (f6 ty_Is rfl (Hz (mS (mS m0)) 0 rfl) rfl) (t7 8 rfl rfl kr (fun _ => rfl) (i8 U1 rfl rfl rfl dc (fun w Lp hA => ⟨hA.ro rb10, hA.ro rb12⟩)) (fun _ _ => (u5 (fun q146 => ?_) (fun q146 => ?_))))))))
       ·refine Dyp 9 rfl (v6 rfl rfl) (Dyp 10 rfl (i0 rfl) (Dyp 11 rfl (f9 fo_Binding_1 ty_Is dc rfl) (Dy 12 rfl (f6 ty_Is rfl (Hz (mS (mS (mS m0))) 1 rfl) rfl) (Dyp 13 rfl (f9 fo_Binding_1 ty_Is dc rfl) (Dy 14 rfl (f6 ty_Is rfl (Hz (mS (mS m0)) 1 rfl) rfl) (t7 15 rfl rfl kr (fun _ => rfl) (i8 U1 rfl rfl rfl dc (fun w Lp hA => ⟨hA.ro rb11, hA.ro rb13⟩)) (fun _ _ => (u5 (fun q153 => ?_) (fun q153 => ?_)))))))))
        ·refine Dyp 16 rfl (v6 rfl rfl) (Dyp 17 rfl (i0 rfl) (Dyp 18 rfl (i0 rfl) (Dyp 19 rfl (i0 rfl) (Dyp 21 rfl (i0 rfl) (Dyp 22 rfl (i0 rfl) (t7 20 rfl rfl kr (fun _ => rfl) (N.call (a2v (by first | assumption | omega) jt1 (by first | assumption | omega)) rfl rfl rfl dc rfl (fun w Lp hA => ⟨hA.ro rb14, hA.ro rb15⟩)) (fun k158 _ => ?_)))))))
         obtain ⟨a158, m158, c158⟩ := k158
         refine f0 m0 fun e158 l158 => ?_
         subst e158
         refine t7 23 rfl rfl kr (fun _ => rfl) (N.call (U7 (by first | assumption | omega) jt1 (by first | assumption | omega)) rfl rfl rfl dc rfl (fun w Lp hA => ⟨hA.ro rb14, hA.ro rb15⟩)) (fun k161 _ => ?_)
         obtain ⟨a161, m161, c161⟩ := k161
         refine f0 m0 fun e161 l161 => ?_
         subst e161
         refine t7 24 rfl rfl kr (fun _ => rfl) (i8 R6 rfl rfl rfl dc (fun w Lp hA => ⟨hA.ow (mS m0), hA.ow m0⟩)) (fun _ _ => (u5 (fun q162 => ?_) (fun q162 => ?_)))
         ·refine Dyp 25 rfl (v6 rfl rfl) (Dyp 26 rfl (i0 rfl) (Dyp 27 rfl (i0 rfl) (Dyp 28 rfl (i0 rfl) (Dyp 30 rfl (i0 rfl) (Dyp 31 rfl (i0 rfl) (t7 29 rfl rfl kr (fun _ => rfl) (i8 a1S rfl rfl rfl dc (fun w Lp hA => ⟨hA.ro rb16a, hA.ro rb16b⟩)) (fun _ _ => (t7 32 rfl rfl kr (fun _ => rfl) (i8 R6 rfl rfl rfl dc (fun w Lp hA => ⟨hA.ro rb16a, hA.ro rb16b⟩)) (fun _ _ => (Dyp 33 rfl (a7B kr rfl rfl) (j4 (fun q171 => ?_) (fun q171 => ?_))))))))))))
          ·refine Dyp 34 rfl (v6 rfl rfl) (Dyp 35 rfl (i0 rfl) (Dy 36 rfl (o1 (cs := [_, _]) ty_Query rfl (Has.pt (mS (mS (mS m0)))) rfl) (Dyp 37 rfl (i0 rfl) (Dy 40 rfl (o1 (cs := [_, _]) ty_Query rfl (Has.pt (mS (mS (mS m0)))) rfl) (Dyp 41 rfl (i0 rfl) (t7 38 rfl rfl kr (fun _ => rfl) (N.call (R7 jq2.1 jq2.2.1 (fun a _ => a1z om)) rfl rfl rfl dc rfl (fun w Lp hA => ⟨hA.ro rb17, hA.ro rb18, hA.ro rb19⟩)) (fun k176 _ => ?_)))))))
           obtain ⟨a176, m176, c176⟩ := k176
           refine f0 m0 fun e176 l176 => ?_
           subst e176
           refine Dyp 39 rfl (Y.len us_Bindings rfl) (t7 42 rfl rfl kr (fun _ => rfl) (N.call (X4 jq2.1 jq2.2.1 (fun a _ => a1z om)) rfl rfl rfl dc rfl (fun w Lp hA => ⟨hA.ro rb17, hA.ro rb18, hA.ro rb19⟩)) (fun k180 _ => ?_))
           obtain ⟨a180, m180, c180⟩ := k180
           refine f0 m0 fun e180 l180 => ?_
           subst e180
           refine Dyp 43 rfl (Y.len us_Bindings rfl) (Dyp 44 rfl (Y.eql rfl rfl) (j4 (fun q182 => ?_) (fun q182 => ?_)))
           ·refine Dyp 45 rfl (v6 rfl rfl) (Dyp 46 rfl (i0 rfl) (Dy 47 rfl (o1 (cs := [_, _]) ty_Binding rfl (Has.pt (mS (mS (mS (mS m0))))) rfl) (Dyp 48 rfl (i0 rfl) (Dy 50 rfl (o1 (cs := [_, _]) ty_Binding rfl (Has.pt (mS (mS (mS (mS m0))))) rfl) (Dyp 51 rfl (i0 rfl) (t7 49 rfl rfl kr (fun _ => rfl) (i8 N0 rfl rfl rfl dc (fun w Lp hA => ⟨hA.ro rb20, hA.ro rb21⟩)) (fun _ _ => (t7 52 rfl rfl kr (fun _ => rfl) (i8 M9 rfl rfl rfl dc (fun w Lp hA => ⟨hA.ro rb20, hA.ro rb21⟩)) (fun _ _ => (Dyp 53 rfl (Y.eql rfl rfl) (Dyp 54 rfl (v6 rfl rfl) (Dyp 55 rfl (D8 rfl) ?_))))))))))))
            exact o0 kr (Et (E.ret (F.r1 ((((((((((((((((((((hB1.comp hB2).comp hB3).comp hB4).comp hB5).comp hB6).comp hB7).comp hB8).comp hB9).comp hB10).comp hB11).comp hB12).comp hB13).comp hB14).comp hB15).comp hB16).comp hB17).comp hB18).comp hB19).comp hB20).comp hB21) rfl rfl () trivial (congrArg Value.bool (by simp_all)) (J := _) (.refl _) (.inl rfl))))
           ·exact absurd q182 (by simp)
          ·exact absurd q171 (by simp)
         ·exact absurd q162 (by simp)
        ·exact absurd q153 (by simp)
       ·exact absurd q146 (by simp)
      ·exact absurd q140 (by simp)
  ·exact absurd q42 (by simp)
end Go.Proofs.YtfnbilpemdgkkaaGreatDoor
