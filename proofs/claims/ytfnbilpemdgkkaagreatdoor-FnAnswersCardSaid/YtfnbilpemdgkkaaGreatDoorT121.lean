import Derived.Test.YtfnbilpemdgkkaaGreatDoorT120
import Derived.Test.YtfnbilpemdgkkaaGreatDoorBk
import Derived.Test.YtfnbilpemdgkkaaGreatDoorT23
import Derived.Test.YtfnbilpemdgkkaaGreatDoorEd
import Derived.Test.YtfnbilpemdgkkaaGreatDoorHc
namespace Go.Proofs.YtfnbilpemdgkkaaGreatDoor
open Go.RowKit
set_option linter.all false
set_option maxHeartbeats 2000000
attribute [local irreducible] Nop Yd Yp Ent Has Tr FnP FnP2 Src J8 P6 S7 U6 E7
variable {s : List Int} {b_c m_s c_s m_b c_b : Nat} {a_s a_b : Option Addr}
theorem V7 {bs : List UInt8} (h1 : 1 ≤ s.length) (hsz : ∀ z ∈ s, 1 ≤ z ∧ z ≤ 3) : Tr Tryz.prog 72 [.pointer (some ⟨b_c, 0, none⟩), .slice a_s m_s c_s] (fun w L => Ro w L eIs [.slice a_s m_s c_s] s ∧ Ro w L J3 [.slice a_b m_b c_b] bs) [cur b_c a_b m_b c_b] (κ := (List Int) × (List (Int × List Int)) × (Option Addr × Nat × Nat) × Option Addr × Nat × Nat) (fun k => dQ kT 3 2 k.1 k.2.1) (fun k => .agg #[.slice k.2.2.1.1 k.2.2.1.2.1 k.2.2.1.2.2, .slice k.2.2.2.1 k.2.2.2.2.1 k.2.2.2.2.2]) (fun k => [ow eIs [.slice k.2.2.1.1 k.2.2.1.2.1 k.2.2.1.2.2] k.1, ow C2 [.slice k.2.2.2.1 k.2.2.2.2.1 k.2.2.2.2.2] k.2.1, cur b_c a_b m_b c_b]) := by
 refine Tr.intro Tryz.func72 rfl (n := 79) rfl (by decide +kernel) bl (fr := [(0, .pointer (some ⟨b_c, 0, none⟩)), (1, .slice a_s m_s c_s)]) rfl fun w L hR => ?_
 obtain ⟨hs, hbs⟩ := hR
 obtain ⟨rfl, ls⟩ := hs.slen
 obtain ⟨rfl, lb⟩ := hbs.slen
 refine Ew Z1 (Est rfl (N.alloc ty_Query dc) (fun b4 _ => (Ev Z3 (Ey rfl ((E3 (pvs := []) (cs := [_, _]) ty_Query a5r rfl rfl).yd) (Est rfl (N.alloc ty_Query dc) (fun b5 _ => (Est rfl (Ns [_, _] ty_Query rfl) (fun _ _ => (Eu (Eq_ (Ew Z4 (Em rfl (g9 (Est rfl (N.call (pre := [_]) v8 rfl rfl rfl dc rfl (fun w Lp hA => hA.ro hbs)) (fun x14 o14 => ?_)))))))))))))))
 replace o14 : 0 ≤ x14 ∧ ((3 : Int) ≤ 0 → x14 = 0) ∧ (0 < (3 : Int) → x14 < (3 : Int)) := o14
 try (conv => arg 5; dsimp only [List.cons_append, List.nil_append, List.append_nil])
 refine Ey rfl ((Y.add rfl rfl om om).yd) (Ei rfl (Eu (E.block (l3 (A := []) (Own.nil (E := R9) (e := tAtom) (a := none)) rfl (E.loop (κ := Nat × (List (Int × List Int)) × Option Addr × Nat × Nat) (fun g => g.1 ≤ (1 + x14).toNat ∧ g.2.1.length = g.1 ∧ ∀ a ∈ g.2.1, dA kT a) (fun g => [(0, .pointer (some ⟨b_c, 0, none⟩)), (1, .slice a_s s.length c_s), (4, .pointer (some ⟨b4, 0, none⟩)), (5, .pointer (some ⟨b5, 0, none⟩)), (6, .int .i64 (1 + x14 - (↑g.1 : Int)))]) (fun g => [ow C2 [.slice g.2.2.1 g.2.2.2.1 g.2.2.2.2] g.2.1, cur b_c a_b bs.length c_b, pt b5 27 [.slice none 0 0, .slice g.2.2.1 g.2.2.2.1 g.2.2.2.2], pt b4 27 [.slice none 0 0, .slice none 0 0]]) (fun g => (1 + x14).toNat - g.1) (0, [], none, 0, 0) ⟨Nat.zero_le _, by simp⟩ ⟨rfl, rfl, rfl, rfl, frI om, trivial⟩ (.refl _) (fun g pg => ?_))))))
 obtain ⟨g, ats, aA0_1, mA0_1, cA0_1⟩ := g
 try dsimp only at pg
 try dsimp only
 obtain ⟨pk, pa⟩ := pg
 have pa0 := pa
 refine f0 m0 fun eaA0_1 laA0_1 => ?_
 subst eaA0_1
 refine Eq_ (Ew Z2 (Em rfl (Ey rfl ((Y.gtr rfl rfl).yd) (j4 (fun q17 => ?_) (fun q17 => ?_)))))
 ·refine Eu (j9 rfl (f5 (Et (Eq_ (E.block (Ew Z7 (Em rfl (Em rfl (Ey rfl ((Y.len us_Is rfl).yd) (d7 (Est rfl (N.call (pre := [_]) v8 rfl rfl rfl dc rfl (fun w Lp hA => hA.ro hbs)) (fun x23 o23 => ?_))))))))))))
  replace o23 : 0 ≤ x23 ∧ ((↑s.length : Int) ≤ 0 → x23 = 0) ∧ (0 < (↑s.length : Int) → x23 < (↑s.length : Int)) := o23
  try (conv => arg 5; dsimp only [List.cons_append, List.nil_append, List.append_nil])
  have jx : x23.toNat < s.length := by omega
  have jz := hsz _ (List.getElem_mem jx)
  refine Ey rfl ((E3 (pvs := [_]) (cs := [_, _]) ty_Atom a5X rfl rfl).yd) (Est rfl (N.alloc ty_Atom dc) (fun b7 _ => (Est rfl (Ns [_, _] ty_Atom rfl) (fun _ _ => (Eu (Eq_ (Ew Z1 (Ei rfl (Eu (E.block (l3 (A := []) (Own.nil (E := Enc.int) (e := tI) (a := none)) rfl (E.loop (κ := Nat × (List Int) × Option Addr × Nat × Nat) (fun h => h.1 ≤ s[x23.toNat].toNat ∧ h.2.1.length = h.1 ∧ ∀ t ∈ h.2.1, kT t) (fun h => [(0, .pointer (some ⟨b_c, 0, none⟩)), (1, .slice a_s s.length c_s), (4, .pointer (some ⟨b4, 0, none⟩)), (5, .pointer (some ⟨b5, 0, none⟩)), (6, .int .i64 (1 + x14 - (g : Int))), (7, .pointer (some ⟨b7, 0, none⟩)), (8, .int .i64 (↑h.1 : Int))]) (fun h => [ow eIs [.slice h.2.2.1 h.2.2.2.1 h.2.2.2.2] h.2.1, pt b7 42 [.int .i64 x23, .slice h.2.2.1 h.2.2.2.1 h.2.2.2.2], cur b_c a_b bs.length c_b, ow C2 [.slice aA0_1 (ats).length cA0_1] ats, pt b5 27 [.slice none 0 0, .slice aA0_1 (ats).length cA0_1], pt b4 27 [.slice none 0 0, .slice none 0 0]]) (fun h => s[x23.toNat].toNat - h.1) (0, [], none, 0, 0) ⟨Nat.zero_le _, by simp⟩ ⟨rfl, rfl, rfl, rfl, rfl, rfl, rfl, trivial⟩ (.refl _) (fun h ph => ?_)))))))))))))
  obtain ⟨h, tms, aA1_0, mA1_0, cA1_0⟩ := h
  try dsimp only at ph
  try dsimp only
  obtain ⟨pk, pa⟩ := ph
  refine f0 m0 fun eaA1_0 laA1_0 => ?_
  subst eaA1_0
  refine Eq_ (Ew Z7 (Em rfl (Em rfl (Ey rfl ((f9 fo_Atom_0 d9 dc rfl).yd) (Ey rfl (f6 d9 rfl (Hz (mS m0) 0 rfl) rfl) ?_)))))
  obtain ⟨eb29, eo29, ea29, ei29, eh29⟩ := hs.elemI x23.toNat om
  refine Ey rfl ((o6 us_Is d9 rfl ea29 rfl x23.toNat om om).yd) (Ey rfl (f6 d9 rfl (eh29 _) rfl) (Ey rfl ((Y.lss rfl rfl).yd) (j4 (fun q31 => ?_) (fun q31 => ?_))))
  ·refine Eu (j9 rfl (f5 (Et (Eq_ (E.block (Ew Z4 (Em rfl (g9 (Est rfl (N.call (pre := [_]) v8 rfl rfl rfl dc rfl (fun w Lp hA => hA.ro hbs)) (fun x35 o35 => ?_))))))))))
   replace o35 : 0 ≤ x35 ∧ ((4 : Int) ≤ 0 → x35 = 0) ∧ (0 < (4 : Int) → x35 < (4 : Int)) := o35
   try (conv => arg 5; dsimp only [List.cons_append, List.nil_append, List.append_nil])
   refine Ey rfl ((Y.add rfl rfl om om).yd) (Ei rfl (Eu (Eq_ (Ew Z2 (Em rfl (Est rfl (N.call (pre := [_]) F9 rfl rfl rfl dc rfl (fun w Lp hA => hA.ro hbs)) (fun o38 o38 => ?_)))))))
   replace o38 : True := o38
   try (conv => arg 5; dsimp only [List.cons_append, List.nil_append, List.append_nil])
   refine u5 (fun q38 => ?_) (fun q38 => ?_)
   ·refine Eu (j9 rfl (Ez Z3 (Em rfl (Est rfl (N.call (pre := [_]) v8 rfl rfl rfl dc rfl (fun w Lp hA => hA.ro hbs)) (fun x40 o40 => ?_)))))
    replace o40 : 0 ≤ x40 ∧ ((4 : Int) ≤ 0 → x40 = 0) ∧ (0 < (4 : Int) → x40 < (4 : Int)) := o40
    try (conv => arg 5; dsimp only [List.cons_append, List.nil_append, List.append_nil])
    refine Ei rfl (Eu (Ez Z7 (Ey rfl ((f9 fo_Atom_1 ty_Is dc rfl).yd) (Ey rfl (f6 ty_Is rfl (Hz (mS (mS m0)) 1 rfl) rfl) (Em rfl (Est rfl (Nb [_] [_] us_Is d9 rfl rfl) (fun b44 _ => (g9 (Est rfl (u4 (E := Enc.int) (ex := x40) us_Is d9 rfl rfl rfl (Own.int i6) rfl bn bn dc) (fun p45 _ => (Ey rfl ((f9 fo_Atom_1 ty_Is dc rfl).yd) (g9 (Est rfl (Ns [_, _] ty_Is rfl) (fun _ _ => (En (n9 (Et (Ez Z3 (Em rfl (Ey rfl ((Y.add rfl rfl om om).yd) (Ei rfl (Eu (B7 (B7 ?_))))))))))))))))))))))))
    refine B7 (B7 (o4 (B7 ?_)))
    exact Ea (h + 1, tms ++ [x40], p45.1, ((tms).length + 1), p45.2) ⟨oz, (show (tms ++ [x40]).length = (h + 1) ∧ ∀ t ∈ (tms ++ [x40]), kT t from by exact a5o pa (by unfold kT; omega))⟩
   ·refine Eu (j8 rfl (f5 (Et (Ez Z7 (Ey rfl ((f9 fo_Atom_1 ty_Is dc rfl).yd) (Ey rfl (f6 ty_Is rfl (Hz (mS (mS m0)) 1 rfl) rfl) (Em rfl (Est rfl (Nb [_] [_] us_Is d9 rfl rfl) (fun b44 _ => (g9 (Est rfl (u4 (E := Enc.int) (ex := (10 + x35)) us_Is d9 rfl rfl rfl (Own.int i6) rfl bn bn dc) (fun p45 _ => (Ey rfl ((f9 fo_Atom_1 ty_Is dc rfl).yd) (g9 (Est rfl (Ns [_, _] ty_Is rfl) (fun _ _ => (En (n9 (Et (Ez Z3 (Em rfl (Ey rfl ((Y.add rfl rfl om om).yd) (Ei rfl (Eu (B7 (B7 (B7 ?_)))))))))))))))))))))))))))
    refine B7 (o4 (B7 ?_))
    exact Ea (h + 1, tms ++ [(10 + x35)], p45.1, ((tms).length + 1), p45.2) ⟨oz, (show (tms ++ [(10 + x35)]).length = (h + 1) ∧ ∀ t ∈ (tms ++ [(10 + x35)]), kT t from by exact a5o pa (by unfold kT; omega))⟩
  ·refine Eu (j8 rfl (E.exit (l2 (l2 (w8 (Et (Ez Z7 (Ey rfl ((f9 fo_Query_1 ty_Atoms dc rfl).yd) (Ey rfl (f6 ty_Atoms rfl (Hz (mS (mS (mS (mS m0)))) 1 rfl) rfl) (Ey rfl (o1 (cs := [_, _]) ty_Atom rfl (Has.pt (mS m0)) rfl) (Est rfl (Nb [_] [_, _] us_Atoms ty_Atom rfl rfl) (fun b50 _ => (d7 (d7 (o4 (Est rfl (u4 (E := R9) (ex := (x23, tms)) us_Atoms ty_Atom rfl rfl rfl (I6 (x := (x23, tms)) i6 Own.ow) rfl bn bn dc) (fun p51 _ => (Ey rfl ((f9 fo_Query_1 ty_Atoms dc rfl).yd) (l4 (Est rfl (Ns [_, _] ty_Atoms rfl) (fun _ _ => (En (n9 (Et (Ez Z3 (Em rfl (Ey rfl ((Y.sub rfl rfl om om).yd) (Ei rfl (Eu (g9 ?_))))))))))))))))))))))))))))))
   refine Ent.drop (l4 (d7 (l4 (l4 ?_))))
   exact t8 br (g + 1, ats ++ [(x23, tms)], p51.1, ((ats).length + 1), p51.2) ⟨rfl, rfl, rfl, rfl, frI om, trivial⟩ (.refl _) ⟨oz, (show (ats ++ [(x23, tms)]).length = (g + 1) ∧ ∀ a ∈ (ats ++ [(x23, tms)]), dA kT a from by exact a8U pa0 om om pa.2)⟩ oz
 ·have pb := pa0
  have jv := a6R (is := fun t => inR t 10 17) (show ats.length ≤ 3 by omega) pa0.2
  refine Eu (j8 rfl (E.exit (l2 (l2 (w8 (Et (Ew Z3 (Ey rfl (o1 (cs := [_, _]) ty_Query rfl (Has.pt (mS (mS m0))) rfl) (Est rfl (N.call (a0Z (a8V om pa0.2)) rfl rfl rfl dc rfl (fun w Lp hA => ⟨a8w, hA.ow m0⟩)) (fun k54 _ => ?_))))))))))
  obtain ⟨a54, m54, c54⟩ := k54
  refine f0 m0 fun e54 l54 => ?_
  subst e54
  refine Ei rfl (Eu (Eq_ (Ew Z1 (Ei rfl (Eu (E.block (l3 (A := []) (Own.nil (E := Enc.int) (e := tI) (a := none)) rfl (E.loop (κ := Nat × (List Int) × Option Addr × Nat × Nat) (fun r => r.1 ≤ (u6 (fun t => inR t 10 17) ats).length ∧ r.2.1.length ≤ 2) (fun r => [(0, .pointer (some ⟨b_c, 0, none⟩)), (4, .pointer (some ⟨b4, 0, none⟩)), (5, .pointer (some ⟨b5, 0, none⟩)), (10, .slice a54 (u6 (fun t => inR t 10 17) ats).length c54), (11, .int .i64 (↑r.1 : Int))]) (fun r => [ow eIs [.slice r.2.2.1 r.2.2.2.1 r.2.2.2.2] r.2.1, ow eIs [.slice a54 (u6 (fun t => inR t 10 17) ats).length c54] (u6 (fun t => inR t 10 17) ats), ow C2 [.slice aA0_1 (ats).length cA0_1] ats, cur b_c a_b bs.length c_b, pt b5 27 [.slice r.2.2.1 r.2.2.2.1 r.2.2.2.2, .slice aA0_1 (ats).length cA0_1], pt b4 27 [.slice none 0 0, .slice none 0 0]]) (fun r => (u6 (fun t => inR t 10 17) ats).length - r.1) (0, [], none, 0, 0) ⟨Nat.zero_le _, by simp⟩ ⟨rfl, rfl, rfl, rfl, rfl, trivial⟩ (.refl _) (fun r pr => ?_)))))))))
  obtain ⟨r, hd, aA2_0, mA2_0, cA2_0⟩ := r
  try dsimp only at pr
  try dsimp only
  obtain ⟨pk, pa⟩ := pr
  refine f0 m0 fun eaA2_0 laA2_0 => ?_
  subst eaA2_0
  refine Eq_ (Ew Z10 (Em rfl (Em rfl (Ey rfl ((Y.len us_Is rfl).yd) (Ey rfl ((Y.lss rfl rfl).yd) (j4 (fun q58 => ?_) (fun q58 => ?_)))))))
  ·refine Em rfl (Ey rfl ((f9 fo_Query_0 ty_Is dc rfl).yd) (Ey rfl (f6 ty_Is rfl (Hz (mS (mS (mS (mS m0)))) 0 rfl) rfl) (Ey rfl ((Y.len us_Is rfl).yd) (Ey rfl ((Y.lss rfl rfl).yd) (j4 (fun q63 => ?_) (fun q63 => ?_))))))
   ·refine Ey rfl ((v6 rfl rfl).yd) (Eu (j9 rfl (f5 (Et (Eq_ (E.block (Ew Z2 (Em rfl (l4 (Est rfl (N.call (pre := [_]) F9 rfl rfl rfl dc rfl (fun w Lp hA => hA.ro hbs)) (fun o68 o68 => ?_)))))))))))
    replace o68 : True := o68
    try (conv => arg 5; dsimp only [List.cons_append, List.nil_append, List.append_nil])
    refine u5 (fun q68 => ?_) (fun q68 => ?_)
    ·refine Eu (j9 rfl (D.region (fun j => !(Nat.beq j 7) && !(Nat.beq j 9)) mixed (Dyp 0 rfl (f9 fo_Query_0 ty_Is dc rfl) (Dy 1 rfl (f6 ty_Is rfl (Hz (mS (mS (mS (mS m0)))) 0 rfl) rfl) (Dyp 2 rfl (i0 rfl) (Dyp 3 rfl (i0 rfl) (a0J (mS (mS m0)) om fun ab73 ae73 => (a9u r (mS (mS m0)) om fun ei73 => (Dyp 4 rfl (o6 us_Is d9 rfl ae73 rfl r rfl om) (Dy 5 rfl (f6 d9 rfl (a8q ae73 (mS (mS m0)) om) rfl) (t7 6 rfl rfl kr (fun _ => rfl) (Nb [_] [_] us_Is d9 rfl rfl) (fun b75 _ => (g9 (t7 7 rfl rfl kr (fun h => by cases h) (u4 (E := Enc.int) (ex := (u6 (fun t => inR t 10 17) ats)[r]) us_Is d9 rfl rfl rfl (Own.int ei73) rfl bn bn dc) (fun p76 _ => (Dyp 8 rfl (f9 fo_Query_0 ty_Is dc rfl) (o4 (t7 9 rfl rfl kr (fun h => by cases h) (Ns [_, _] ty_Is rfl) (fun _ _ => (o0 kr (n9 (Et (Ez Z3 (Em rfl ?_))))))))))))))))))))))))
     refine Ey rfl ((Y.add rfl rfl om om).yd) (Ei rfl (Eu (B7 (d7 (l4 (B7 (B7 (B7 ?_))))))))
     exact Ea (r + 1, hd ++ [(u6 (fun t => inR t 10 17) ats)[r]], p76.1, ((hd).length + 1), p76.2) ⟨oz, (show (hd ++ [(u6 (fun t => inR t 10 17) ats)[r]]).length ≤ 2 from by first | omega | (simp only [List.length_append, List.length_singleton]; omega))⟩
    ·refine Eu (j8 rfl (f5 (n9 (Et (Ez Z3 (Em rfl (Ey rfl ((Y.add rfl rfl om om).yd) (Ei rfl (Eu (B7 (B7 (g9 (B7 (B7 (B7 ?_)))))))))))))))
     exact Ea (r + 1, hd, aA2_0, (hd).length, cA2_0) ⟨oz, (show hd.length ≤ 2 from by first | omega | (simp only [List.length_append, List.length_singleton]; omega))⟩
   ·refine Ey rfl ((v6 rfl rfl).yd) (Eu (j8 rfl (E.exit (l2 (l2 (w8 (Et (Ew Z2 (Ey rfl (o1 (cs := [_, _]) ty_Query rfl (Has.pt (mS (mS (mS (mS m0))))) rfl) (B7 (Est rfl (Ns [_, _] ty_Query rfl) (fun _ _ => (Eu (E.ret (l4 (g9 (o4 (g9 (g9 ?_)))))))))))))))))))
    exact J7 br rfl rfl (mS (mS (mS m0))) ty_Query rfl (hd, ats, (_, _, _), (_, _, _)) (show dQ kT 3 2 hd ats from by exact ⟨⟨by omega, by omega⟩, pb.2, by omega⟩) rfl (J := _) (.refl _) (.inl rfl)
  ·refine Em rfl (Es rfl (Es rfl (Es rfl (Es rfl (Ey rfl ((w7 rfl rfl).yd) (Eu (j8 rfl (E.exit (l2 (l2 (w8 (Et (Ew Z2 (Ey rfl (o1 (cs := [_, _]) ty_Query rfl (Has.pt (mS (mS (mS (mS m0))))) rfl) (B7 (Est rfl (Ns [_, _] ty_Query rfl) (fun _ _ => (Eu (E.ret (l4 (g9 (o4 (g9 (g9 ?_))))))))))))))))))))))))
   exact J7 br rfl rfl (mS (mS (mS m0))) ty_Query rfl (hd, ats, (_, _, _), (_, _, _)) (show dQ kT 3 2 hd ats from by exact ⟨⟨by omega, by omega⟩, pb.2, by omega⟩) rfl (J := _) (.refl _) (.inl rfl)
theorem a5k {bs : List UInt8} : Tr Tryz.prog 118 [.pointer (some ⟨b_c, 0, none⟩), .slice a_s m_s c_s] (fun w L => Ro w L eIs [.slice a_s m_s c_s] s ∧ Ro w L J3 [.slice a_b m_b c_b] bs) [cur b_c a_b m_b c_b] (κ := (List Int) × (List (Int × List Int)) × (Option Addr × Nat × Nat) × Option Addr × Nat × Nat) (fun k => dQ dT 3 3 k.1 k.2.1) (fun k => .agg #[.slice k.2.2.1.1 k.2.2.1.2.1 k.2.2.1.2.2, .slice k.2.2.2.1 k.2.2.2.2.1 k.2.2.2.2.2]) (fun k => [ow eIs [.slice k.2.2.1.1 k.2.2.1.2.1 k.2.2.1.2.2] k.1, ow C2 [.slice k.2.2.2.1 k.2.2.2.2.1 k.2.2.2.2.2] k.2.1, cur b_c a_b m_b c_b]) := by
 refine Tr.intro Tryz.func118 rfl (n := 48) rfl (by decide +kernel) bl (fr := [(0, .pointer (some ⟨b_c, 0, none⟩)), (1, .slice a_s m_s c_s)]) rfl fun w L hR => ?_
 obtain ⟨hs, hbs⟩ := hR
 obtain ⟨rfl, ls⟩ := hs.slen
 obtain ⟨rfl, lb⟩ := hbs.slen
 refine Ew Z1 (Est rfl (N.alloc ty_Query dc) (fun b4 _ => (Ev Z6 (Est rfl (Nb [_] [_] us_Is d9 rfl rfl) (fun b6 _ => (l3 (A := _ :: _) (S8 (E := Enc.int) (e := tI) (Own.int i6)) rfl (Ey rfl ((E3 (pvs := [_]) (cs := [_, _]) ty_Atom a5X rfl rfl).yd) (Est rfl (Nb [_] [_, _] us_Atoms ty_Atom rfl rfl) (fun b8 _ => (d7 (d7 (l3 (A := _ :: _) (S8 (E := R9) (e := tAtom) (I6 (x := (0, [10])) i6 Own.ow)) rfl (Ey rfl ((E3 (pvs := [_]) (cs := [_, _]) ty_Query a5r rfl rfl).yd) (Est rfl (N.alloc ty_Query dc) (fun b5 _ => (Est rfl (Ns [_, _] ty_Query rfl) (fun _ _ => (Eu (Eq_ (Ew Z2 (Em rfl (Est rfl (i8 H5 rfl rfl rfl dc (fun w Lp hA => hA.ro hs)) (fun _ _ => (u5 (fun q11 => ?_) (fun q11 => ?_)))))))))))))))))))))))))
 ·refine Eu (j9 rfl (Ez Z4 (Em rfl (Em rfl (l4 (Est rfl (N.call (pre := [_]) (V7 (Y3 q11).1 (Y3 q11).2.2) rfl rfl rfl dc rfl (fun w Lp hA => ⟨hA.ro hs, hA.ro hbs⟩)) (fun k14 o14 => ?_)))))))
  obtain ⟨hq14, aq14, ⟨a14_0, m14_0, c14_0⟩, ⟨a14_1, m14_1, c14_1⟩⟩ := k14
  replace o14 : dQ kT 3 2 hq14 aq14 := o14
  try (conv => arg 4; dsimp only)
  try (conv => arg 5; dsimp only [List.cons_append, List.nil_append, List.append_nil])
  have jb := And.intro o14.up o14.2.2
  have jl := jb.1.1
  have jh := jb.2
  have jt := (jb.1.2.1 _ (List.getElem_mem (show 0 < aq14.length by omega))).1
  refine f0 m0 fun e14_0 l14_0 => ?_
  subst e14_0
  refine f0 (mS m0) fun e14_1 l14_1 => ?_
  subst e14_1
  refine l4 (Est rfl (Ns [_, _] ty_Query rfl) (fun _ _ => (Eu (Eq_ (Ew Z2 (Em rfl (l4 (Est rfl (N.call (pre := [_]) v8 rfl rfl rfl dc rfl (fun w Lp hA => hA.ro hbs)) (fun x16 o16 => ?_)))))))))
  replace o16 : 0 ≤ x16 ∧ ((14 : Int) ≤ 0 → x16 = 0) ∧ (0 < (14 : Int) → x16 < (14 : Int)) := o16
  try (conv => arg 5; dsimp only [List.cons_append, List.nil_append, List.append_nil])
  refine Eu (E.block (Ew Z2 (Ey rfl ((Y.eql rfl rfl).yd) (l4 (a4b om fun hb90 hce90 htl90 hcx90 hok90 => (d7 (a1w fun oa90_1 om90_1 oc90_1 oe90 oi90_0 on90_1 => ?_)))))))
  subst oe90
  subst on90_1
  refine f0 m0 fun _ ol90_1 => (Ei rfl (j4 (fun q17 => ?_) (fun q17 => ?_)))
  ·refine Eu (j9 rfl (H1 [hb90, b5, b4] (fun j => !(Nat.beq j 8)) mixed (B1 0 rfl rfl dc (f9 fo_Query_0 ty_Is dc rfl) kr (O1 1 rfl rfl dc (I7 ty_Is rfl ((F6.pt (mS (mS (mS (mS m0)))) (by simp)).sub (cs' := [_]) 0 rfl) rfl) kr (B1 2 rfl rfl dc (i0 rfl) kr (B6 3 rfl rfl kr (fun _ _ => SameI.out) (Nb [_, _, _, _] [_, _, _, _] us_Is d9 rfl rfl) (fun b22 _ => (l3 (A := [_]) (Own.ints (e := tI) (xs := [17, 18, 3, -1]) rfl (by simp [maxLen]) (by simp only [List.forall_mem_cons]; exact ⟨i6, i6, i6, i6, List.forall_mem_nil _⟩)) rfl (o4 (B6 4 rfl rfl kr (fun _ _ => SameI.out) (N.call (pre := [_]) (G4 dc) rfl rfl rfl dc rfl (fun w Lp hA => ⟨hA.ow m0, hA.ro hbs⟩)) (fun x23 o23 => ?_)))))))))))
   replace o23 : x23 ∈ ([17, 18, 3, -1]) := o23
   try (conv => arg 5; dsimp only [List.cons_append, List.nil_append, List.append_nil])
   have jp : -10 ≤ x23 ∧ x23 ≤ 20 := by simp at o23; omega
   refine B6 5 rfl rfl kr (fun _ _ => SameI.out) (Nb [_] [_] us_Is d9 rfl rfl) (fun b24 _ => (a2S (B6 6 rfl rfl kr (fun _ _ => SameI.out) (u4 (E := Enc.int) (ex := x23) us_Is d9 rfl rfl rfl (Own.int i6) rfl bn bn dc) (fun p25 _ => (B1 7 rfl rfl dc (f9 fo_Query_0 ty_Is dc rfl) kr (p9 (B6 8 rfl rfl kr (fun h => by cases h) (Ns [_, _] ty_Is rfl) (fun _ _ => (I5 kr (n9 (Et (Ew Z2 (p9 (p9 (p9 (l3 (A := [_]) (I6 (x := aq14[0]) oi90_0 Own.ow) rfl (d7 (O7 (xs := aq14) (ce := [_, _]) om hok90 (i9 (congrArg (ow C2 [_]) (List.set_getElem_self (show 0 < List.length aq14 by omega))) (Ey rfl (o1 (cs := [_, _]) ty_Query rfl (Has.pt (mS m0)) rfl) (p9 ?_)))))))))))))))))))))
   refine Est rfl (Ns [_, _] ty_Query rfl) (fun _ _ => (Eu (E.ret (d7 (l4 (o4 (g9 (g9 ?_))))))))
   exact J7 br rfl rfl (mS (mS (mS m0))) ty_Query rfl (hq14 ++ [x23], aq14, (_, _, _), (_, _, _)) (show dQ dT 3 3 (hq14 ++ [x23]) aq14 from by exact a5R jb) rfl (J := _) (.refl _) (.inl rfl)
  ·refine Eu (j8 rfl (Ew Z2 (Ey rfl ((Y.eql rfl rfl).yd) (Ei rfl (j4 (fun q27 => ?_) (fun q27 => ?_))))))
   ·refine Eu (j9 rfl (H1 [hb90, b5, b4] (fun j => !(Nat.beq j 9)) mixed (B1 0 rfl rfl dc (f9 fo_Query_1 ty_Atoms dc rfl) kr (O1 1 rfl rfl dc (I7 ty_Atoms rfl ((F6.pt (mS (mS (mS (mS m0)))) (by simp)).sub (cs' := [_]) 1 rfl) rfl) kr (B1 2 rfl rfl dc (o6 us_Atoms ty_Atom rfl hok90.1 rfl 0 rfl om) kr (B1 3 rfl rfl dc (f9 fo_Atom_1 ty_Is dc rfl) kr (O1 4 rfl rfl dc (I7 ty_Is rfl ((F6.pt (mS m0) (by simp)).sub (cs' := [_]) 1 rfl) rfl) kr (B1 5 rfl rfl dc (i0 rfl) kr (B6 6 rfl rfl kr (fun _ _ => SameI.out) (Nb [_, _, _, _] [_, _, _, _] us_Is d9 rfl rfl) (fun b35 _ => (l3 (A := [_]) (Own.ints (e := tI) (xs := [-1, 9, 17, 18]) rfl (by simp [maxLen]) (by simp only [List.forall_mem_cons]; exact ⟨i6, i6, i6, i6, List.forall_mem_nil _⟩)) rfl (o4 (B6 7 rfl rfl kr (fun _ _ => SameI.out) (N.call (pre := [_]) (G4 dc) rfl rfl rfl dc rfl (fun w Lp hA => ⟨hA.ow m0, hA.ro hbs⟩)) (fun x36 o36 => ?_))))))))))))))
    replace o36 : x36 ∈ ([-1, 9, 17, 18]) := o36
    try (conv => arg 5; dsimp only [List.cons_append, List.nil_append, List.append_nil])
    have jp : -10 ≤ x36 ∧ x36 ≤ 20 := by simp at o36; omega
    have jd : dT x36 := by simp at o36; unfold dT; omega
    refine a0J (mS (mS m0)) om fun ab37 ae37 => (B1 8 rfl rfl dc (o6 us_Is d9 rfl ae37 rfl 0 rfl om) kr (g9 (B6 9 rfl rfl kr (fun _ _ => SameI.out) (N.set (E := Enc.int) (j := 0) (ex := x36) (ce := [_]) d9 rfl rfl rfl rfl (Own.int i6) ae37 (Nat.zero_add _) rfl (by first | (simp; omega) | omega | (simp; done))) (fun _ _ => (I5 kr (n9 (Et (Ew Z2 (o4 (o4 (g9 (l3 (A := [_]) (I6 (x := (aq14[0].1, aq14[0].2.set 0 x36)) oi90_0 Own.ow) rfl (d7 (O7 (xs := aq14) (ce := [_, _]) om hok90 (Ey rfl (o1 (cs := [_, _]) ty_Query rfl (Has.pt (mS (mS (mS m0)))) rfl) (p9 (Est rfl (Ns [_, _] ty_Query rfl) (fun _ _ => (Eu (E.ret (d7 (B7 ?_))))))))))))))))))))))
    refine l4 (g9 (g9 ?_))
    exact J7 br rfl rfl (mS (mS (mS m0))) ty_Query rfl (hq14, aq14.set 0 (aq14[0].1, aq14[0].2.set 0 x36), (_, _, _), (_, _, _)) (show dQ dT 3 3 hq14 (aq14.set 0 (aq14[0].1, aq14[0].2.set 0 x36)) from by exact a5C jb.1 jd) rfl (J := _) (.refl _) (.inl rfl)
   ·refine Eu (j8 rfl (Ew Z2 (Ey rfl ((Y.eql rfl rfl).yd) (Ei rfl (j4 (fun q38 => ?_) (fun q38 => ?_))))))
    ·refine Eu (j9 rfl (H1 [hb90, b5, b4] (fun j => !(Nat.beq j 7)) mixed (B1 0 rfl rfl dc (f9 fo_Query_1 ty_Atoms dc rfl) kr (O1 1 rfl rfl dc (I7 ty_Atoms rfl ((F6.pt (mS (mS (mS (mS m0)))) (by simp)).sub (cs' := [_]) 1 rfl) rfl) kr (B1 2 rfl rfl dc (i0 rfl) kr (l4 (B6 3 rfl rfl kr (fun _ _ => SameI.out) (N.call (pre := [_]) v8 rfl rfl rfl dc rfl (fun w Lp hA => hA.ro hbs)) (fun x43 o43 => ?_))))))))
     replace o43 : 0 ≤ x43 ∧ ((5 : Int) ≤ 0 → x43 = 0) ∧ (0 < (5 : Int) → x43 < (5 : Int)) := o43
     try (conv => arg 5; dsimp only [List.cons_append, List.nil_append, List.append_nil])
     refine B1 4 rfl rfl dc (Y.sub rfl rfl om om) kr (B1 5 rfl rfl dc (o6 us_Atoms ty_Atom rfl hok90.1 rfl 0 rfl om) kr (B1 6 rfl rfl dc (f9 fo_Atom_0 d9 dc rfl) kr (g9 (B6 7 rfl rfl kr (fun h => by cases h) (a6E (vs := [_]) (cs' := [_, _] ++ htl90) d9 rfl rfl rfl rfl rfl bl rfl) (fun _ _ => (I5 kr (n9 (Et (Ew Z2 (l4 (d7 (l4 (l3 (A := [_]) (I6 (x := ((x43 - 1), aq14[0].2)) i6 Own.ow) rfl (d7 (O7 (xs := aq14) (ce := [_, _]) om hok90 (Ey rfl (o1 (cs := [_, _]) ty_Query rfl (Has.pt (mS (mS m0))) rfl) (B7 (Est rfl (Ns [_, _] ty_Query rfl) (fun _ _ => (Eu (E.ret (d7 ?_))))))))))))))))))))))
     refine o4 (l4 (g9 (g9 ?_)))
     exact J7 br rfl rfl (mS (mS (mS m0))) ty_Query rfl (hq14, aq14.set 0 ((x43 - 1), aq14[0].2), (_, _, _), (_, _, _)) (show dQ dT 3 3 hq14 (aq14.set 0 ((x43 - 1), aq14[0].2)) from by exact a6Q jb.1) rfl (J := _) (.refl _) (.inl rfl)
    ·refine Eu (j8 rfl (f5 (n9 (Et (Ew Z2 (g9 (g9 (g9 (l3 (A := [_]) (I6 (x := aq14[0]) oi90_0 Own.ow) rfl (d7 (O7 (xs := aq14) (ce := [_, _]) om hok90 (i9 (congrArg (ow C2 [_]) (List.set_getElem_self (show 0 < List.length aq14 by omega))) (Ey rfl (o1 (cs := [_, _]) ty_Query rfl (Has.pt (mS (mS m0))) rfl) (B7 (Est rfl (Ns [_, _] ty_Query rfl) (fun _ _ => (Eu (E.ret (d7 (o4 (l4 (g9 (g9 ?_)))))))))))))))))))))))
     exact J7 br rfl rfl (mS (mS (mS m0))) ty_Query rfl (hq14, aq14, (_, _, _), (_, _, _)) (show dQ dT 3 3 hq14 aq14 from by exact jb.1) rfl (J := _) (.refl _) (.inl rfl)
 ·have jb := a9c
  refine Eu (j8 rfl (f5 (Et (Eq_ (Ew Z2 (Em rfl (l4 (Est rfl (N.call (pre := [_]) v8 rfl rfl rfl dc rfl (fun w Lp hA => hA.ro hbs)) (fun x16 o16 => ?_)))))))))
  replace o16 : 0 ≤ x16 ∧ ((14 : Int) ≤ 0 → x16 = 0) ∧ (0 < (14 : Int) → x16 < (14 : Int)) := o16
  try (conv => arg 5; dsimp only [List.cons_append, List.nil_append, List.append_nil])
  refine Eu (E.block (Ew Z2 (Ey rfl ((Y.eql rfl rfl).yd) ?_)))
  obtain ⟨aq0, haq⟩ : ∃ z : List (Int × List Int), z = [(0, [10])] := ⟨_, rfl⟩
  rw [← haq] at jb
  have jl := jb.1.1
  have jh := jb.2
  have jt := (jb.1.2.1 _ (List.getElem_mem (show 0 < aq0.length by omega))).1
  refine g9 (i9 (congrArg (ow C2 [_]) haq.symm) (a4b om fun hb90 hce90 htl90 hcx90 hok90 => (d7 (a1w fun oa90_1 om90_1 oc90_1 oe90 oi90_0 on90_1 => ?_))))
  subst oe90
  subst on90_1
  refine f0 m0 fun _ ol90_1 => (Ei rfl (j4 (fun q17 => ?_) (fun q17 => ?_)))
  ·refine Eu (j9 rfl (H1 [hb90, b5, b4] (fun j => !(Nat.beq j 8)) mixed (B1 0 rfl rfl dc (f9 fo_Query_0 ty_Is dc rfl) kr (O1 1 rfl rfl dc (I7 ty_Is rfl ((F6.pt (mS (mS (mS (mS m0)))) (by simp)).sub (cs' := [_]) 0 rfl) rfl) kr (B1 2 rfl rfl dc (i0 rfl) kr (B6 3 rfl rfl kr (fun _ _ => SameI.out) (Nb [_, _, _, _] [_, _, _, _] us_Is d9 rfl rfl) (fun b22 _ => (l3 (A := [_]) (Own.ints (e := tI) (xs := [17, 18, 3, -1]) rfl (by simp [maxLen]) (by simp only [List.forall_mem_cons]; exact ⟨i6, i6, i6, i6, List.forall_mem_nil _⟩)) rfl (o4 (B6 4 rfl rfl kr (fun _ _ => SameI.out) (N.call (pre := [_]) (G4 dc) rfl rfl rfl dc rfl (fun w Lp hA => ⟨hA.ow m0, hA.ro hbs⟩)) (fun x23 o23 => ?_)))))))))))
   replace o23 : x23 ∈ ([17, 18, 3, -1]) := o23
   try (conv => arg 5; dsimp only [List.cons_append, List.nil_append, List.append_nil])
   have jp : -10 ≤ x23 ∧ x23 ≤ 20 := by simp at o23; omega
   refine B6 5 rfl rfl kr (fun _ _ => SameI.out) (Nb [_] [_] us_Is d9 rfl rfl) (fun b24 _ => (l3 (A := []) (Own.nil (E := Enc.int) (e := tI) (a := none)) rfl (d7 (d7 (B6 6 rfl rfl kr (fun _ _ => SameI.out) (u4 (E := Enc.int) (ex := x23) us_Is d9 rfl rfl rfl (Own.int i6) rfl bn bn dc) (fun p25 _ => (B1 7 rfl rfl dc (f9 fo_Query_0 ty_Is dc rfl) kr (p9 (B6 8 rfl rfl kr (fun h => by cases h) (Ns [_, _] ty_Is rfl) (fun _ _ => (I5 kr (n9 (Et (Ew Z2 (p9 (p9 (p9 (l3 (A := [_]) (I6 (x := aq0[0]) oi90_0 Own.ow) rfl (d7 (O7 (xs := aq0) (ce := [_, _]) om hok90 (i9 (congrArg (ow C2 [_]) (List.set_getElem_self (show 0 < List.length aq0 by omega))) ?_)))))))))))))))))))))
   refine Ey rfl (o1 (cs := [_, _]) ty_Query rfl (Has.pt (mS m0)) rfl) (B7 (Est rfl (Ns [_, _] ty_Query rfl) (fun _ _ => (Eu (E.ret (d7 (l4 (o4 (g9 (g9 ?_))))))))))
   exact J7 br rfl rfl (mS (mS (mS m0))) ty_Query rfl ([] ++ [x23], aq0, (_, _, _), (_, _, _)) (show dQ dT 3 3 ([] ++ [x23] : List Int) aq0 from by exact a5R jb) rfl (J := _) (.refl _) (.inl rfl)
  ·refine Eu (j8 rfl (Ew Z2 (Ey rfl ((Y.eql rfl rfl).yd) (Ei rfl (j4 (fun q27 => ?_) (fun q27 => ?_))))))
   ·refine Eu (j9 rfl (H1 [hb90, b5, b4] (fun j => !(Nat.beq j 9)) mixed (B1 0 rfl rfl dc (f9 fo_Query_1 ty_Atoms dc rfl) kr (O1 1 rfl rfl dc (I7 ty_Atoms rfl ((F6.pt (mS (mS (mS (mS m0)))) (by simp)).sub (cs' := [_]) 1 rfl) rfl) kr (B1 2 rfl rfl dc (o6 us_Atoms ty_Atom rfl hok90.1 rfl 0 rfl om) kr (B1 3 rfl rfl dc (f9 fo_Atom_1 ty_Is dc rfl) kr (O1 4 rfl rfl dc (I7 ty_Is rfl ((F6.pt (mS m0) (by simp)).sub (cs' := [_]) 1 rfl) rfl) kr (B1 5 rfl rfl dc (i0 rfl) kr (B6 6 rfl rfl kr (fun _ _ => SameI.out) (Nb [_, _, _, _] [_, _, _, _] us_Is d9 rfl rfl) (fun b35 _ => (l3 (A := [_]) (Own.ints (e := tI) (xs := [-1, 9, 17, 18]) rfl (by simp [maxLen]) (by simp only [List.forall_mem_cons]; exact ⟨i6, i6, i6, i6, List.forall_mem_nil _⟩)) rfl (o4 (B6 7 rfl rfl kr (fun _ _ => SameI.out) (N.call (pre := [_]) (G4 dc) rfl rfl rfl dc rfl (fun w Lp hA => ⟨hA.ow m0, hA.ro hbs⟩)) (fun x36 o36 => ?_))))))))))))))
    replace o36 : x36 ∈ ([-1, 9, 17, 18]) := o36
    try (conv => arg 5; dsimp only [List.cons_append, List.nil_append, List.append_nil])
    have jp : -10 ≤ x36 ∧ x36 ≤ 20 := by simp at o36; omega
    have jd : dT x36 := by simp at o36; unfold dT; omega
    refine a0J (mS (mS m0)) om fun ab37 ae37 => (B1 8 rfl rfl dc (o6 us_Is d9 rfl ae37 rfl 0 rfl om) kr (g9 (B6 9 rfl rfl kr (fun _ _ => SameI.out) (N.set (E := Enc.int) (j := 0) (ex := x36) (ce := [_]) d9 rfl rfl rfl rfl (Own.int i6) ae37 (Nat.zero_add _) rfl (by first | (simp; omega) | omega | (simp; done))) (fun _ _ => (I5 kr (n9 (Et (Ew Z2 (o4 (o4 (g9 (l3 (A := [_]) (I6 (x := (aq0[0].1, aq0[0].2.set 0 x36)) oi90_0 Own.ow) rfl (d7 (O7 (xs := aq0) (ce := [_, _]) om hok90 (Ey rfl (o1 (cs := [_, _]) ty_Query rfl (Has.pt (mS (mS (mS m0)))) rfl) (o4 (Est rfl (Ns [_, _] ty_Query rfl) (fun _ _ => (Eu (E.ret (d7 (l3 (A := []) (Own.nil (E := Enc.int) (e := tI) (a := none)) rfl ?_))))))))))))))))))))))
    refine l4 (g9 (g9 ?_))
    exact J7 br rfl rfl (mS (mS (mS m0))) ty_Query rfl ([], aq0.set 0 (aq0[0].1, aq0[0].2.set 0 x36), (none, 0, 0), (_, _, _)) (show dQ dT 3 3 ([] : List Int) (aq0.set 0 (aq0[0].1, aq0[0].2.set 0 x36)) from by exact a5C jb.1 jd) rfl (J := _) (.refl _) (.inl rfl)
   ·refine Eu (j8 rfl (Ew Z2 (Ey rfl ((Y.eql rfl rfl).yd) (Ei rfl (j4 (fun q38 => ?_) (fun q38 => ?_))))))
    ·refine Eu (j9 rfl (H1 [hb90, b5, b4] (fun j => !(Nat.beq j 7)) mixed (B1 0 rfl rfl dc (f9 fo_Query_1 ty_Atoms dc rfl) kr (O1 1 rfl rfl dc (I7 ty_Atoms rfl ((F6.pt (mS (mS (mS (mS m0)))) (by simp)).sub (cs' := [_]) 1 rfl) rfl) kr (B1 2 rfl rfl dc (i0 rfl) kr (l4 (B6 3 rfl rfl kr (fun _ _ => SameI.out) (N.call (pre := [_]) v8 rfl rfl rfl dc rfl (fun w Lp hA => hA.ro hbs)) (fun x43 o43 => ?_))))))))
     replace o43 : 0 ≤ x43 ∧ ((5 : Int) ≤ 0 → x43 = 0) ∧ (0 < (5 : Int) → x43 < (5 : Int)) := o43
     try (conv => arg 5; dsimp only [List.cons_append, List.nil_append, List.append_nil])
     refine B1 4 rfl rfl dc (Y.sub rfl rfl om om) kr (B1 5 rfl rfl dc (o6 us_Atoms ty_Atom rfl hok90.1 rfl 0 rfl om) kr (B1 6 rfl rfl dc (f9 fo_Atom_0 d9 dc rfl) kr (g9 (B6 7 rfl rfl kr (fun h => by cases h) (a6E (vs := [_]) (cs' := [_, _] ++ htl90) d9 rfl rfl rfl rfl rfl bl rfl) (fun _ _ => (I5 kr (n9 (Et (Ew Z2 (l4 (d7 (l4 (l3 (A := [_]) (I6 (x := ((x43 - 1), aq0[0].2)) i6 Own.ow) rfl (d7 (O7 (xs := aq0) (ce := [_, _]) om hok90 (Ey rfl (o1 (cs := [_, _]) ty_Query rfl (Has.pt (mS (mS m0))) rfl) (l4 (Est rfl (Ns [_, _] ty_Query rfl) (fun _ _ => (Eu (E.ret (d7 ?_))))))))))))))))))))))
     refine l3 (A := []) (Own.nil (E := Enc.int) (e := tI) (a := none)) rfl (l4 (g9 (g9 ?_)))
     exact J7 br rfl rfl (mS (mS (mS m0))) ty_Query rfl ([], aq0.set 0 ((x43 - 1), aq0[0].2), (none, 0, 0), (_, _, _)) (show dQ dT 3 3 ([] : List Int) (aq0.set 0 ((x43 - 1), aq0[0].2)) from by exact a6Q jb.1) rfl (J := _) (.refl _) (.inl rfl)
    ·refine Eu (j8 rfl (f5 (n9 (Et (Ew Z2 (g9 (g9 (g9 (l3 (A := [_]) (I6 (x := aq0[0]) oi90_0 Own.ow) rfl (d7 (O7 (xs := aq0) (ce := [_, _]) om hok90 (i9 (congrArg (ow C2 [_]) (List.set_getElem_self (show 0 < List.length aq0 by omega))) (Ey rfl (o1 (cs := [_, _]) ty_Query rfl (Has.pt (mS (mS m0))) rfl) (l4 (Est rfl (Ns [_, _] ty_Query rfl) (fun _ _ => (Eu (E.ret (d7 (l3 (A := []) (Own.nil (E := Enc.int) (e := tI) (a := none)) rfl (l4 (g9 (g9 ?_)))))))))))))))))))))))
     exact J7 br rfl rfl (mS (mS (mS m0))) ty_Query rfl ([], aq0, (none, 0, 0), (_, _, _)) (show dQ dT 3 3 ([] : List Int) aq0 from by exact jb.1) rfl (J := _) (.refl _) (.inl rfl)
theorem a1b {bs : List UInt8} : Tr Tryz.prog 53 [.pointer (some ⟨b_c, 0, none⟩)] (fun w L => Ro w L J3 [.slice a_b m_b c_b] bs) [cur b_c a_b m_b c_b] (κ := (List Int) × (List Int) × (List (Int × List Int)) × (List (Int × List Int)) × (Option Addr × Nat × Nat) × (Option Addr × Nat × Nat) × (Option Addr × Nat × Nat) × Option Addr × Nat × Nat) (fun k => (1 ≤ k.1.length ∧ k.1.length ≤ 4) ∧ dQ dT 3 3 k.2.1 k.2.2.1 ∧ k.2.2.2.1.length ≤ 9 ∧ ∀ f ∈ k.2.2.2.1, 1 ≤ f.2.length ∧ f.2.length ≤ 4) (fun k => .tuple #[.slice k.2.2.2.2.1.1 k.2.2.2.2.1.2.1 k.2.2.2.2.1.2.2, .agg #[.slice k.2.2.2.2.2.1.1 k.2.2.2.2.2.1.2.1 k.2.2.2.2.2.1.2.2, .slice k.2.2.2.2.2.2.1.1 k.2.2.2.2.2.2.1.2.1 k.2.2.2.2.2.2.1.2.2], .slice k.2.2.2.2.2.2.2.1 k.2.2.2.2.2.2.2.2.1 k.2.2.2.2.2.2.2.2.2]) (fun k => [ow eIs [.slice k.2.2.2.2.1.1 k.2.2.2.2.1.2.1 k.2.2.2.2.1.2.2] k.1, ow eIs [.slice k.2.2.2.2.2.1.1 k.2.2.2.2.2.1.2.1 k.2.2.2.2.2.1.2.2] k.2.1, ow C2 [.slice k.2.2.2.2.2.2.1.1 k.2.2.2.2.2.2.1.2.1 k.2.2.2.2.2.2.1.2.2] k.2.2.1, ow B9 [.slice k.2.2.2.2.2.2.2.1 k.2.2.2.2.2.2.2.2.1 k.2.2.2.2.2.2.2.2.2] k.2.2.2.1, cur b_c a_b m_b c_b]) := by
 refine Tr.intro Tryz.func53 rfl (n := 35) rfl (by decide +kernel) bl (fr := [(0, .pointer (some ⟨b_c, 0, none⟩))]) rfl fun w L hR => ?_
 have hbs := hR
 obtain ⟨rfl, lb⟩ := hbs.slen
 refine Ew Z3 (Ei rfl (Est rfl (N.alloc ty_Query dc) (fun b3 _ => (Ei rfl (Ev Z3 (Em rfl (d7 (Est rfl (N.call (pre := [_]) U9 rfl rfl rfl dc rfl (fun w Lp hA => hA.ro hbs)) (fun k9 o9 => ?_)))))))))
 obtain ⟨xs9, ⟨a9, m9, c9⟩⟩ := k9
 replace o9 : 1 ≤ xs9.length ∧ xs9.length ≤ 3 ∧ ∀ z ∈ xs9, 1 ≤ z ∧ z ≤ 3 := o9
 try (conv => arg 4; dsimp only)
 try (conv => arg 5; dsimp only [List.cons_append, List.nil_append, List.append_nil])
 refine f0 m0 fun e9 l9 => ?_
 subst e9
 refine Ei rfl (Ev Z5 (Em rfl (Em rfl (d7 (Est rfl (N.call (pre := [_]) (V7 o9.1 o9.2.2) rfl rfl rfl dc rfl (fun w Lp hA => ⟨hA.ow m0, hA.ro hbs⟩)) (fun k12 o12 => ?_))))))
 obtain ⟨hq12, aq12, ⟨a12_0, m12_0, c12_0⟩, ⟨a12_1, m12_1, c12_1⟩⟩ := k12
 replace o12 : dQ kT 3 2 hq12 aq12 := o12
 try (conv => arg 4; dsimp only)
 try (conv => arg 5; dsimp only [List.cons_append, List.nil_append, List.append_nil])
 refine f0 m0 fun e12_0 l12_0 => ?_
 subst e12_0
 refine f0 (mS m0) fun e12_1 l12_1 => ?_
 subst e12_1
 refine Est rfl (N.alloc ty_Query dc) (fun b6 _ => (Est rfl (Ns [_, _] ty_Query rfl) (fun _ _ => (Ev Z4 (Em rfl (Em rfl (l4 (Est rfl (N.call (pre := [_]) (a0E o9.1 o9.2.2 dc) rfl rfl rfl dc rfl (fun w Lp hA => ⟨hA.ow (mS (mS (mS m0))), hA.ro hbs⟩)) (fun k15 o15 => ?_)))))))))
 obtain ⟨fl15, ⟨a15, m15, c15⟩⟩ := k15
 replace o15 : (↑fl15.length : Int) ≤ (8 : Int) ∧ ∀ f ∈ fl15, 1 ≤ f.2.length ∧ f.2.length ≤ 3 := o15
 try (conv => arg 4; dsimp only)
 try (conv => arg 5; dsimp only [List.cons_append, List.nil_append, List.append_nil])
 refine f0 m0 fun e15 l15 => ?_
 subst e15
 refine Ei rfl (Eu (Eq_ (Ew Z2 (Em rfl (d7 (Est rfl (N.call (pre := [_]) v8 rfl rfl rfl dc rfl (fun w Lp hA => hA.ro hbs)) (fun x17 o17 => ?_)))))))
 replace o17 : 0 ≤ x17 ∧ ((16 : Int) ≤ 0 → x17 = 0) ∧ (0 < (16 : Int) → x17 < (16 : Int)) := o17
 try (conv => arg 5; dsimp only [List.cons_append, List.nil_append, List.append_nil])
 refine Eu (E.block (Ew Z2 (Ey rfl ((Y.eql rfl rfl).yd) (Ei rfl (j4 (fun q18 => ?_) (fun q18 => ?_))))))
 ·refine Eu (j9 rfl (Ez Z4 (Em rfl (Em rfl (Est rfl (N.call (pre := [_]) a5k rfl rfl rfl dc rfl (fun w Lp hA => ⟨hA.ow (mS (mS (mS (mS m0)))), hA.ro hbs⟩)) (fun k22 o22 => ?_))))))
  obtain ⟨hq22, aq22, ⟨a22_0, m22_0, c22_0⟩, ⟨a22_1, m22_1, c22_1⟩⟩ := k22
  replace o22 : dQ dT 3 3 hq22 aq22 := o22
  try (conv => arg 4; dsimp only)
  try (conv => arg 5; dsimp only [List.cons_append, List.nil_append, List.append_nil])
  refine f0 m0 fun e22_0 l22_0 => ?_
  subst e22_0
  refine f0 (mS m0) fun e22_1 l22_1 => ?_
  subst e22_1
  refine o4 (Est rfl (Ns [_, _] ty_Query rfl) (fun _ _ => (En (n9 (Et (Eq_ (D.region (fun j => !(Nat.beq j 4)) mixed (Dyp 0 rfl (i0 rfl) (Dy 1 rfl (o1 (cs := [_, _]) ty_Query rfl (Has.pt m0) rfl) (Dyp 2 rfl (i0 rfl) (Dyp 3 rfl (D8 rfl) (a7x (t7 4 rfl rfl kr (fun h => by cases h) (Ns [_, _] ty_Query rfl) (fun _ _ => (Dyp 5 rfl (D8 rfl) (o0 kr (Et (E.ret (B7 (o4 (o4 (a7x (p9 (o4 ?_))))))))))))))))))))))))
  refine o4 (o4 (o4 ?_))
  exact a5u br rfl rfl rfl rfl (mS (mS (mS (mS (mS m0))))) ty_Query rfl (xs9, hq22, aq22, fl15, (_, _, _), (_, _, _), (_, _, _), (_, _, _)) (show (1 ≤ xs9.length ∧ xs9.length ≤ 4) ∧ dQ dT 3 3 hq22 aq22 ∧ fl15.length ≤ 9 ∧ ∀ f ∈ fl15, 1 ≤ f.2.length ∧ f.2.length ≤ 4 from by exact ⟨⟨by omega, by omega⟩, o22, Q3 o15⟩) rfl (J := _) (.refl _) (.inl rfl)
 ·refine Eu (j8 rfl (Ew Z2 (Ey rfl ((Y.eql rfl rfl).yd) (Ei rfl (j4 (fun q23 => ?_) (fun q23 => ?_))))))
  ·refine Eu (j9 rfl (Ez Z4 (Em rfl (Em rfl (Est rfl (N.call (pre := [_]) a1P rfl rfl rfl dc rfl (fun w Lp hA => ⟨hA.ow (mS (mS (mS (mS m0)))), hA.ro hbs⟩)) (fun k27 o27 => ?_))))))
   obtain ⟨fl27, ⟨a27, m27, c27⟩⟩ := k27
   replace o27 : fl27.length ≤ 9 ∧ ∀ f ∈ fl27, 1 ≤ f.2.length ∧ f.2.length ≤ 4 := o27
   try (conv => arg 4; dsimp only)
   try (conv => arg 5; dsimp only [List.cons_append, List.nil_append, List.append_nil])
   refine f0 m0 fun e27 l27 => ?_
   subst e27
   refine Ei rfl (En (n9 (Et (Eq_ (D.region (fun j => !(Nat.beq j 4)) mixed (Dyp 0 rfl (i0 rfl) (Dy 1 rfl (o1 (cs := [_, _]) ty_Query rfl (Has.pt (mS (mS (mS m0)))) rfl) (Dyp 2 rfl (i0 rfl) (Dyp 3 rfl (D8 rfl) (a2S (t7 4 rfl rfl kr (fun h => by cases h) (Ns [_, _] ty_Query rfl) (fun _ _ => (Dyp 5 rfl (D8 rfl) (o0 kr (Et (E.ret (d7 (p9 (p9 (a2S (B7 (o4 (o4 ?_)))))))))))))))))))))))
   refine o4 (o4 ?_)
   exact a5u br rfl rfl rfl rfl (mS (mS (mS (mS (mS m0))))) ty_Query rfl (xs9, hq12, aq12, fl27, (_, _, _), (_, _, _), (_, _, _), (_, _, _)) (show (1 ≤ xs9.length ∧ xs9.length ≤ 4) ∧ dQ dT 3 3 hq12 aq12 ∧ fl27.length ≤ 9 ∧ ∀ f ∈ fl27, 1 ≤ f.2.length ∧ f.2.length ≤ 4 from by exact ⟨⟨by omega, by omega⟩, o12.up, o27⟩) rfl (J := _) (.refl _) (.inl rfl)
  ·refine Eu (j8 rfl (Ew Z2 (Ey rfl ((Y.eql rfl rfl).yd) (Ei rfl (j4 (fun q28 => ?_) (fun q28 => ?_))))))
   ·refine Eu (j9 rfl (Ez Z3 (Em rfl (Est rfl (N.call (pre := [_]) a1l rfl rfl rfl dc rfl (fun w Lp hA => hA.ro hbs)) (fun k31 o31 => ?_)))))
    obtain ⟨xs31, ⟨a31, m31, c31⟩⟩ := k31
    replace o31 : 1 ≤ xs31.length ∧ xs31.length ≤ 4 := o31
    try (conv => arg 4; dsimp only)
    try (conv => arg 5; dsimp only [List.cons_append, List.nil_append, List.append_nil])
    refine f0 m0 fun e31 l31 => ?_
    subst e31
    refine Ei rfl (En (n9 (Et (Eq_ (D.region (fun j => !(Nat.beq j 4)) mixed (Dyp 0 rfl (i0 rfl) (Dy 1 rfl (o1 (cs := [_, _]) ty_Query rfl (Has.pt (mS (mS (mS m0)))) rfl) (Dyp 2 rfl (i0 rfl) (Dyp 3 rfl (D8 rfl) (a2S (t7 4 rfl rfl kr (fun h => by cases h) (Ns [_, _] ty_Query rfl) (fun _ _ => (Dyp 5 rfl (D8 rfl) (o0 kr (Et (E.ret (l4 (p9 (p9 (o4 (B7 (o4 (o4 ?_)))))))))))))))))))))))
    refine o4 (o4 ?_)
    exact a5u br rfl rfl rfl rfl (mS (mS (mS (mS (mS m0))))) ty_Query rfl (xs31, hq12, aq12, fl15, (_, _, _), (_, _, _), (_, _, _), (_, _, _)) (show (1 ≤ xs31.length ∧ xs31.length ≤ 4) ∧ dQ dT 3 3 hq12 aq12 ∧ fl15.length ≤ 9 ∧ ∀ f ∈ fl15, 1 ≤ f.2.length ∧ f.2.length ≤ 4 from by exact ⟨⟨by omega, by omega⟩, o12.up, Q3 o15⟩) rfl (J := _) (.refl _) (.inl rfl)
   ·refine Eu (j8 rfl (f5 (n9 (Et (Eq_ (D.region (fun j => !(Nat.beq j 4)) mixed (Dyp 0 rfl (i0 rfl) (Dy 1 rfl (o1 (cs := [_, _]) ty_Query rfl (Has.pt (mS (mS m0))) rfl) (Dyp 2 rfl (i0 rfl) (Dyp 3 rfl (D8 rfl) (p9 (t7 4 rfl rfl kr (fun h => by cases h) (Ns [_, _] ty_Query rfl) (fun _ _ => (Dyp 5 rfl (D8 rfl) (o0 kr (Et (E.ret (g9 (B7 (B7 (p9 (B7 (o4 (o4 (o4 ?_)))))))))))))))))))))))))
    refine o4 ?_
    exact a5u br rfl rfl rfl rfl (mS (mS (mS (mS (mS m0))))) ty_Query rfl (xs9, hq12, aq12, fl15, (_, _, _), (_, _, _), (_, _, _), (_, _, _)) (show (1 ≤ xs9.length ∧ xs9.length ≤ 4) ∧ dQ dT 3 3 hq12 aq12 ∧ fl15.length ≤ 9 ∧ ∀ f ∈ fl15, 1 ≤ f.2.length ∧ f.2.length ≤ 4 from by exact ⟨⟨by omega, by omega⟩, o12.up, Q3 o15⟩) rfl (J := _) (.refl _) (.inl rfl)
theorem Y7 {bs : List UInt8} : Tr Tryz.prog 71 [.pointer (some ⟨b_c, 0, none⟩)] (fun w L => Ro w L J3 [.slice a_b m_b c_b] bs) [cur b_c a_b m_b c_b] (κ := (List Int) × (List Int) × (Option Addr × Nat × Nat) × Option Addr × Nat × Nat) (fun k => k.1.length ≤ 5 ∧ k.2.1.length ≤ 4) (fun k => .agg #[.slice k.2.2.1.1 k.2.2.1.2.1 k.2.2.1.2.2, .slice k.2.2.2.1 k.2.2.2.2.1 k.2.2.2.2.2]) (fun k => [ow eIs [.slice k.2.2.1.1 k.2.2.1.2.1 k.2.2.1.2.2] k.1, ow eIs [.slice k.2.2.2.1 k.2.2.2.2.1 k.2.2.2.2.2] k.2.1, cur b_c a_b m_b c_b]) := by
 refine Tr.intro Tryz.func71 rfl (n := 34) rfl (by decide +kernel) bl (fr := [(0, .pointer (some ⟨b_c, 0, none⟩))]) rfl fun w L hR => ?_
 have hbs := hR
 obtain ⟨rfl, lb⟩ := hbs.slen
 refine Ew Z1 (Est rfl (N.alloc ty_Binding dc) (fun b2 _ => (Ev Z3 (Ey rfl ((E3 (pvs := []) (cs := [_, _]) ty_Binding pl_Binding rfl rfl).yd) (Est rfl (N.alloc ty_Binding dc) (fun b3 _ => (Est rfl (Ns [_, _] ty_Binding rfl) (fun _ _ => (Eu (Eq_ (Ew Z1 (Ei rfl (Eu (E.block (l3 (A := []) (Own.nil (E := Enc.int) (e := tI) (a := none)) rfl (l3 (A := []) (Own.nil (E := Enc.int) (e := tI) (a := none)) rfl (E.loop (κ := Nat × (List Int) × Option Addr × Nat × Nat × (List Int) × Option Addr × Nat × Nat) (fun g => g.1 ≤ 4 ∧ g.2.1.length ≤ g.1 ∧ g.2.2.2.2.2.1.length ≤ g.1) (fun g => [(0, .pointer (some ⟨b_c, 0, none⟩)), (2, .pointer (some ⟨b2, 0, none⟩)), (3, .pointer (some ⟨b3, 0, none⟩)), (4, .int .i64 (↑g.1 : Int))]) (fun g => [ow eIs [.slice g.2.2.2.2.2.2.1 g.2.2.2.2.2.2.2.1 g.2.2.2.2.2.2.2.2] g.2.2.2.2.2.1, ow eIs [.slice g.2.2.1 g.2.2.2.1 g.2.2.2.2.1] g.2.1, pt b3 36 [.slice g.2.2.1 g.2.2.2.1 g.2.2.2.2.1, .slice g.2.2.2.2.2.2.1 g.2.2.2.2.2.2.2.1 g.2.2.2.2.2.2.2.2], pt b2 36 [.slice none 0 0, .slice none 0 0], cur b_c a_b bs.length c_b]) (fun g => 4 - g.1) (0, [], none, 0, 0, [], none, 0, 0) ⟨Nat.zero_le _, by simp⟩ ⟨rfl, rfl, rfl, rfl, trivial⟩ (.refl _) (fun g pg => ?_))))))))))))))))))
 obtain ⟨g, bv, aA0_0, mA0_0, cA0_0, bw, aA0_1, mA0_1, cA0_1⟩ := g
 try dsimp only at pg
 try dsimp only
 obtain ⟨pk, pa⟩ := pg
 refine f0 (mS m0) fun eaA0_0 laA0_0 => ?_
 subst eaA0_0
 refine f0 m0 fun eaA0_1 laA0_1 => ?_
 subst eaA0_1
 refine Eq_ (Ew Z2 (Em rfl (Ey rfl ((Y.lss rfl rfl).yd) (j4 (fun q7 => ?_) (fun q7 => ?_)))))
 ·refine Eu (j9 rfl (f5 (Et (Eq_ (E.block (Ew Z2 (Em rfl (o4 (Est rfl (N.call (pre := [_]) F9 rfl rfl rfl dc rfl (fun w Lp hA => hA.ro hbs)) (fun o11 o11 => ?_))))))))))
  replace o11 : True := o11
  try (conv => arg 5; dsimp only [List.cons_append, List.nil_append, List.append_nil])
  refine u5 (fun q11 => ?_) (fun q11 => ?_)
  ·refine Eu (j9 rfl (Ew Z8 (Ey rfl ((f9 fo_Binding_0 ty_Is dc rfl).yd) (Ey rfl (f6 ty_Is rfl (Hz (mS (mS (mS m0))) 0 rfl) rfl) (Em rfl (Ey rfl ((Y.add rfl rfl om om).yd) (Est rfl (Nb [_] [_] us_Is d9 rfl rfl) (fun b16 _ => (l4 (Est rfl (u4 (E := Enc.int) (ex := (10 + (g : Int))) us_Is d9 rfl rfl rfl (Own.int i6) rfl bn bn dc) (fun p17 _ => (Ey rfl ((f9 fo_Binding_0 ty_Is dc rfl).yd) (l4 (Est rfl (Ns [_, _] ty_Is rfl) (fun _ _ => (Eu (H1 [b3, b2] (fun j => !(Nat.beq j 7)) mixed (B1 0 rfl rfl dc (f9 fo_Binding_1 ty_Is dc rfl) kr (O1 1 rfl rfl dc (I7 ty_Is rfl ((F6.pt m0 (by simp)).sub (cs' := [_]) 1 rfl) rfl) kr (B1 2 rfl rfl dc (i0 rfl) kr (g9 (B6 3 rfl rfl kr (fun _ _ => SameI.out) (N.call (pre := [_]) v8 rfl rfl rfl dc rfl (fun w Lp hA => hA.ro hbs)) (fun x22 o22 => ?_)))))))))))))))))))))))
   replace o22 : 0 ≤ x22 ∧ ((4 : Int) ≤ 0 → x22 = 0) ∧ (0 < (4 : Int) → x22 < (4 : Int)) := o22
   try (conv => arg 5; dsimp only [List.cons_append, List.nil_append, List.append_nil])
   refine B6 4 rfl rfl kr (fun _ _ => SameI.out) (Nb [_] [_] us_Is d9 rfl rfl) (fun b23 _ => (o4 (B6 5 rfl rfl kr (fun _ _ => SameI.out) (u4 (E := Enc.int) (ex := x22) us_Is d9 rfl rfl rfl (Own.int i6) rfl bn bn dc) (fun p24 _ => (B1 6 rfl rfl dc (f9 fo_Binding_1 ty_Is dc rfl) kr (g9 (B6 7 rfl rfl kr (fun h => by cases h) (Ns [_, _] ty_Is rfl) (fun _ _ => (I5 kr (n9 (Et (Ez Z3 (Em rfl (Ey rfl ((Y.add rfl rfl om om).yd) (Ei rfl (Eu (g9 (o4 (g9 (o4 (o4 ?_)))))))))))))))))))))
   exact Ea (g + 1, bv ++ [(10 + (g : Int))], p17.1, ((bv).length + 1), p17.2, bw ++ [x22], p24.1, ((bw).length + 1), p24.2) ⟨oz, (show (bv ++ [(10 + (g : Int))]).length ≤ (g + 1) ∧ (bw ++ [x22]).length ≤ (g + 1) from by first | omega | (simp only [List.length_append, List.length_singleton]; omega))⟩
  ·refine Eu (j8 rfl (f5 (n9 (Et (Ez Z3 (Em rfl (Ey rfl ((Y.add rfl rfl om om).yd) (Ei rfl (Eu (o4 (o4 (o4 (o4 ?_)))))))))))))
   exact Ea (g + 1, bv, aA0_0, (bv).length, cA0_0, bw, aA0_1, (bw).length, cA0_1) ⟨oz, (show bv.length ≤ (g + 1) ∧ bw.length ≤ (g + 1) from by first | omega | (simp only [List.length_append, List.length_singleton]; omega))⟩
 ·refine Eu (j8 rfl (E.exit (l2 (l2 (w8 (Et (Eq_ (Ew Z2 (Em rfl (o4 (Est rfl (N.call (pre := [_]) F9 rfl rfl rfl dc rfl (fun w Lp hA => hA.ro hbs)) (fun o27 o27 => ?_))))))))))))
  replace o27 : True := o27
  try (conv => arg 5; dsimp only [List.cons_append, List.nil_append, List.append_nil])
  refine u5 (fun q27 => ?_) (fun q27 => ?_)
  ·refine Eu (j9 rfl (Ez Z6 (Ey rfl ((f9 fo_Binding_0 ty_Is dc rfl).yd) (Ey rfl (f6 ty_Is rfl (Hz (mS (mS (mS m0))) 0 rfl) rfl) (Est rfl (Nb [_] [_] us_Is d9 rfl rfl) (fun b30 _ => (l4 (Est rfl (u4 (E := Enc.int) (ex := 12) us_Is d9 rfl rfl rfl (Own.int i6) rfl bn bn dc) (fun p31 _ => (Ey rfl ((f9 fo_Binding_0 ty_Is dc rfl).yd) (l4 (Est rfl (Ns [_, _] ty_Is rfl) (fun _ _ => (Ev Z2 (Ey rfl (o1 (cs := [_, _]) ty_Binding rfl (Has.pt m0) rfl) (o4 (Est rfl (Ns [_, _] ty_Binding rfl) (fun _ _ => (Eu (E.ret (o4 (l4 (o4 (g9 ?_))))))))))))))))))))))))
   refine g9 ?_
   exact J7 br rfl rfl (mS (mS (mS m0))) ty_Binding rfl (bv ++ [12], bw, (_, _, _), (_, _, _)) (show (bv ++ [12]).length ≤ 5 ∧ bw.length ≤ 4 from by first | omega | (simp only [List.length_append, List.length_singleton]; omega)) rfl (J := _) (.refl _) (.inl rfl)
  ·refine Eu (j8 rfl (f5 (Et (Ew Z2 (Ey rfl (o1 (cs := [_, _]) ty_Binding rfl (Has.pt (mS (mS (mS m0)))) rfl) (o4 (Est rfl (Ns [_, _] ty_Binding rfl) (fun _ _ => (Eu (E.ret (g9 (l4 (l4 (g9 (g9 ?_)))))))))))))))
   exact J7 br rfl rfl (mS (mS (mS m0))) ty_Binding rfl (bv, bw, (_, _, _), (_, _, _)) (show bv.length ≤ 5 ∧ bw.length ≤ 4 from by first | omega | (simp only [List.length_append, List.length_singleton]; omega)) rfl (J := _) (.refl _) (.inl rfl)
end Go.Proofs.YtfnbilpemdgkkaaGreatDoor
