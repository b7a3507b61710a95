import Derived.Test.YtlfhopooaejpfaaGreatT120
import Derived.Test.YtlfhopooaejpfaaGreatT70
import Derived.Test.YtlfhopooaejpfaaGreatEd
import Derived.Test.YtlfhopooaejpfaaGreatHc
section
namespace Go.Proofs.YtlfhopooaejpfaaGreat
open Go.RowKit
set_option linter.unusedVariables false
theorem b4C {α : Type} {E : Enc α} {w : World} {L : List Nat} {e : TypeId} : Ro w L (Enc.sl e E) [.slice none 0 0] [] :=
  ⟨[], ⟨none, 0, 0, [], [], [], rfl, rfl, Nat.zero_le _, rfl, ⟨rfl, rfl⟩, ⟨⟨Nat.le_refl _, Nat.zero_le _⟩, .inl ⟨rfl, rfl⟩⟩⟩, by simp⟩
end Go.Proofs.YtlfhopooaejpfaaGreat
end
section
namespace Go.Proofs.YtlfhopooaejpfaaGreat
open Go.RowKit
set_option linter.all false
set_option maxHeartbeats 2000000
attribute [local irreducible] Nop Yd Yp Ent Has Tr FnP FnP2 Src M0 S8 V1 W0 G4
variable {s : List Int} {b_c m_s c_s m_b c_b : Nat} {a_s a_b : Option Addr}
theorem a3r {bs : List UInt8} (h1 : 1 ≤ s.length) (hsz : ∀ z ∈ s, 1 ≤ z ∧ z ≤ 3) : Tr Tryz.prog 105 [.pointer (some ⟨b_c, 0, none⟩), .slice a_s m_s c_s] (fun w L => Ro w L eIs [.slice a_s m_s c_s] s ∧ Ro w L U3 [.slice a_b m_b c_b] bs) [cur b_c a_b m_b c_b] (κ := (List Int) × (List (Int × List Int)) × (Option Addr × Nat × Nat) × Option Addr × Nat × Nat) (fun k => dQ kT 3 2 k.1 k.2.1) (fun k => .agg #[.slice k.2.2.1.1 k.2.2.1.2.1 k.2.2.1.2.2, .slice k.2.2.2.1 k.2.2.2.2.1 k.2.2.2.2.2]) (fun k => [ow eIs [.slice k.2.2.1.1 k.2.2.1.2.1 k.2.2.1.2.2] k.1, ow G8 [.slice k.2.2.2.1 k.2.2.2.2.1 k.2.2.2.2.2] k.2.1, cur b_c a_b m_b c_b]) := by
 refine Tr.intro Tryz.func105 rfl (n := 79) rfl (by decide +kernel) bl (fr := [(0, .pointer (some ⟨b_c, 0, none⟩)), (1, .slice a_s m_s c_s)]) rfl fun w L hR => ?_
 obtain ⟨hs, hbs⟩ := hR
 obtain ⟨rfl, ls⟩ := hs.slen
 obtain ⟨rfl, lb⟩ := hbs.slen
 refine Ew Z1 (Est rfl (N.alloc ty_Query dc) (fun b4 _ => (Ev Z3 (Ey rfl ((I6 (pvs := []) (cs := [_, _]) ty_Query b0C rfl rfl).yd) (Est rfl (N.alloc ty_Query dc) (fun b5 _ => (Est rfl (Ns [_, _] ty_Query rfl) (fun _ _ => (Eu (Eq_ (Ew Z4 (Em rfl (j6 (Est rfl (N.call (pre := [_]) x5 rfl rfl rfl dc rfl (fun w Lp hA => hA.ro hbs)) (fun x14 o14 => ?_)))))))))))))))
 replace o14 : 0 ≤ x14 ∧ ((3 : Int) ≤ 0 → x14 = 0) ∧ (0 < (3 : Int) → x14 < (3 : Int)) := o14
 try (conv => arg 5; dsimp only [List.cons_append, List.nil_append, List.append_nil])
 refine Ey rfl ((Y.add rfl rfl om om).yd) (Ei rfl (Eu (E.block (n9 (A := []) (Own.nil (E := a0X) (e := tAtom) (a := none)) rfl (E.loop (κ := Nat × (List (Int × List Int)) × Option Addr × Nat × Nat) (fun g => g.1 ≤ (1 + x14).toNat ∧ g.2.1.length = g.1 ∧ ∀ a ∈ g.2.1, dA kT a) (fun g => [(0, .pointer (some ⟨b_c, 0, none⟩)), (1, .slice a_s s.length c_s), (4, .pointer (some ⟨b4, 0, none⟩)), (5, .pointer (some ⟨b5, 0, none⟩)), (6, .int .i64 (1 + x14 - (↑g.1 : Int)))]) (fun g => [ow G8 [.slice g.2.2.1 g.2.2.2.1 g.2.2.2.2] g.2.1, cur b_c a_b bs.length c_b, pt b5 28 [.slice none 0 0, .slice g.2.2.1 g.2.2.2.1 g.2.2.2.2], pt b4 28 [.slice none 0 0, .slice none 0 0]]) (fun g => (1 + x14).toNat - g.1) (0, [], none, 0, 0) ⟨Nat.zero_le _, by simp⟩ ⟨rfl, rfl, rfl, rfl, frI om, trivial⟩ (.refl _) (fun g pg => ?_))))))
 obtain ⟨g, ats, aA0_1, mA0_1, cA0_1⟩ := g
 try dsimp only at pg
 try dsimp only
 obtain ⟨pk, pa⟩ := pg
 have pa0 := pa
 refine i9 m0 fun eaA0_1 laA0_1 => ?_
 subst eaA0_1
 refine Eq_ (Ew Z2 (Em rfl (Ey rfl ((Y.gtr rfl rfl).yd) (n0 (fun q17 => ?_) (fun q17 => ?_)))))
 ·refine Eu (l4 rfl (i8 (Et (Eq_ (E.block (Ew Z7 (Em rfl (Em rfl (Ey rfl ((Y.len us_Is rfl).yd) (f7 (Est rfl (N.call (pre := [_]) x5 rfl rfl rfl dc rfl (fun w Lp hA => hA.ro hbs)) (fun x23 o23 => ?_))))))))))))
  replace o23 : 0 ≤ x23 ∧ ((↑s.length : Int) ≤ 0 → x23 = 0) ∧ (0 < (↑s.length : Int) → x23 < (↑s.length : Int)) := o23
  try (conv => arg 5; dsimp only [List.cons_append, List.nil_append, List.append_nil])
  have jx : x23.toNat < s.length := by omega
  have jz := hsz _ (List.getElem_mem jx)
  refine Ey rfl ((I6 (pvs := [_]) (cs := [_, _]) ty_Atom b1L rfl rfl).yd) (Est rfl (N.alloc ty_Atom dc) (fun b7 _ => (Est rfl (Ns [_, _] ty_Atom rfl) (fun _ _ => (Eu (Eq_ (Ew Z1 (Ei rfl (Eu (E.block (n9 (A := []) (Own.nil (E := Enc.int) (e := tI) (a := none)) rfl (E.loop (κ := Nat × (List Int) × Option Addr × Nat × Nat) (fun h => h.1 ≤ s[x23.toNat].toNat ∧ h.2.1.length = h.1 ∧ ∀ t ∈ h.2.1, kT t) (fun h => [(0, .pointer (some ⟨b_c, 0, none⟩)), (1, .slice a_s s.length c_s), (4, .pointer (some ⟨b4, 0, none⟩)), (5, .pointer (some ⟨b5, 0, none⟩)), (6, .int .i64 (1 + x14 - (g : Int))), (7, .pointer (some ⟨b7, 0, none⟩)), (8, .int .i64 (↑h.1 : Int))]) (fun h => [ow eIs [.slice h.2.2.1 h.2.2.2.1 h.2.2.2.2] h.2.1, pt b7 81 [.int .i64 x23, .slice h.2.2.1 h.2.2.2.1 h.2.2.2.2], cur b_c a_b bs.length c_b, ow G8 [.slice aA0_1 (ats).length cA0_1] ats, pt b5 28 [.slice none 0 0, .slice aA0_1 (ats).length cA0_1], pt b4 28 [.slice none 0 0, .slice none 0 0]]) (fun h => s[x23.toNat].toNat - h.1) (0, [], none, 0, 0) ⟨Nat.zero_le _, by simp⟩ ⟨rfl, rfl, rfl, rfl, rfl, rfl, rfl, trivial⟩ (.refl _) (fun h ph => ?_)))))))))))))
  obtain ⟨h, tms, aA1_0, mA1_0, cA1_0⟩ := h
  try dsimp only at ph
  try dsimp only
  obtain ⟨pk, pa⟩ := ph
  refine i9 m0 fun eaA1_0 laA1_0 => ?_
  subst eaA1_0
  refine Eq_ (Ew Z7 (Em rfl (Em rfl (Ey rfl ((i7 fo_Atom_0 f0 dc rfl).yd) (Ey rfl (f8 f0 rfl (Hz (mS m0) 0 rfl) rfl) ?_)))))
  obtain ⟨eb29, eo29, ea29, ei29, eh29⟩ := hs.elemI x23.toNat om
  refine Ey rfl ((o6 us_Is f0 rfl ea29 rfl x23.toNat om om).yd) (Ey rfl (f8 f0 rfl (eh29 _) rfl) (Ey rfl ((Y.lss rfl rfl).yd) (n0 (fun q31 => ?_) (fun q31 => ?_))))
  ·refine Eu (l4 rfl (i8 (Et (Eq_ (E.block (Ew Z4 (Em rfl (j6 (Est rfl (N.call (pre := [_]) x5 rfl rfl rfl dc rfl (fun w Lp hA => hA.ro hbs)) (fun x35 o35 => ?_))))))))))
   replace o35 : 0 ≤ x35 ∧ ((4 : Int) ≤ 0 → x35 = 0) ∧ (0 < (4 : Int) → x35 < (4 : Int)) := o35
   try (conv => arg 5; dsimp only [List.cons_append, List.nil_append, List.append_nil])
   refine Ey rfl ((Y.add rfl rfl om om).yd) (Ei rfl (Eu (Eq_ (Ew Z2 (Em rfl (Est rfl (N.call (pre := [_]) R5 rfl rfl rfl dc rfl (fun w Lp hA => hA.ro hbs)) (fun o38 o38 => ?_)))))))
   replace o38 : True := o38
   try (conv => arg 5; dsimp only [List.cons_append, List.nil_append, List.append_nil])
   refine Ent.b (fun q38 => ?_) (fun q38 => ?_)
   ·refine Eu (l4 rfl (Ez Z3 (Em rfl (Est rfl (N.call (pre := [_]) x5 rfl rfl rfl dc rfl (fun w Lp hA => hA.ro hbs)) (fun x40 o40 => ?_)))))
    replace o40 : 0 ≤ x40 ∧ ((4 : Int) ≤ 0 → x40 = 0) ∧ (0 < (4 : Int) → x40 < (4 : Int)) := o40
    try (conv => arg 5; dsimp only [List.cons_append, List.nil_append, List.append_nil])
    refine Ei rfl (Eu (Ez Z7 (Ey rfl ((i7 fo_Atom_1 ty_Is dc rfl).yd) (Ey rfl (f8 ty_Is rfl (Hz (mS (mS m0)) 1 rfl) rfl) (Em rfl (Est rfl (Nb [_] [_] us_Is f0 rfl rfl) (fun b44 _ => (j6 (Est rfl (y6 (E := Enc.int) (ex := x40) us_Is f0 rfl rfl rfl (Own.int i6) rfl bn bn dc) (fun p45 _ => (Ey rfl ((i7 fo_Atom_1 ty_Is dc rfl).yd) (j6 (Est rfl (Ns [_, _] ty_Is rfl) (fun _ _ => (En (o4 (Et (Ez Z3 (Em rfl (Ey rfl ((Y.add rfl rfl om om).yd) (Ei rfl (Eu (w9 (w9 ?_))))))))))))))))))))))))
    refine w9 (w9 (v7 (w9 ?_)))
    exact Ea (h + 1, tms ++ [x40], p45.1, ((tms).length + 1), p45.2) ⟨oz, (show (tms ++ [x40]).length = (h + 1) ∧ ∀ t ∈ (tms ++ [x40]), kT t from by exact b0i pa (by unfold kT; omega))⟩
   ·refine Eu (l6 rfl (i8 (Et (Ez Z7 (Ey rfl ((i7 fo_Atom_1 ty_Is dc rfl).yd) (Ey rfl (f8 ty_Is rfl (Hz (mS (mS m0)) 1 rfl) rfl) (Em rfl (Est rfl (Nb [_] [_] us_Is f0 rfl rfl) (fun b44 _ => (j6 (Est rfl (y6 (E := Enc.int) (ex := (10 + x35)) us_Is f0 rfl rfl rfl (Own.int i6) rfl bn bn dc) (fun p45 _ => (Ey rfl ((i7 fo_Atom_1 ty_Is dc rfl).yd) (j6 (Est rfl (Ns [_, _] ty_Is rfl) (fun _ _ => (En (o4 (Et (Ez Z3 (Em rfl (Ey rfl ((Y.add rfl rfl om om).yd) (Ei rfl (Eu (w9 (w9 (w9 ?_)))))))))))))))))))))))))))
    refine w9 (v7 (w9 ?_))
    exact Ea (h + 1, tms ++ [(10 + x35)], p45.1, ((tms).length + 1), p45.2) ⟨oz, (show (tms ++ [(10 + x35)]).length = (h + 1) ∧ ∀ t ∈ (tms ++ [(10 + x35)]), kT t from by exact b0i pa (by unfold kT; omega))⟩
  ·refine Eu (l6 rfl (E.exit (n8 (n8 (w5 (Et (Ez Z7 (Ey rfl ((i7 fo_Query_1 ty_Atoms dc rfl).yd) (Ey rfl (f8 ty_Atoms rfl (Hz (mS (mS (mS (mS m0)))) 1 rfl) rfl) (Ey rfl (o0 (cs := [_, _]) ty_Atom rfl (Has.pt (mS m0)) rfl) (Est rfl (Nb [_] [_, _] us_Atoms ty_Atom rfl rfl) (fun b50 _ => (f7 (f7 (v7 (Est rfl (y6 (E := a0X) (ex := (x23, tms)) us_Atoms ty_Atom rfl rfl rfl (U1 (x := (x23, tms)) i6 Own.ow) rfl bn bn dc) (fun p51 _ => (Ey rfl ((i7 fo_Query_1 ty_Atoms dc rfl).yd) (m6 (Est rfl (Ns [_, _] ty_Atoms rfl) (fun _ _ => (En (o4 (Et (Ez Z3 (Em rfl (Ey rfl ((Y.sub rfl rfl om om).yd) (Ei rfl (Eu (j6 ?_))))))))))))))))))))))))))))))
   refine Ent.drop (m6 (f7 (m6 (m6 ?_))))
   exact u9 br (g + 1, ats ++ [(x23, tms)], p51.1, ((ats).length + 1), p51.2) ⟨rfl, rfl, rfl, rfl, frI om, trivial⟩ (.refl _) ⟨oz, (show (ats ++ [(x23, tms)]).length = (g + 1) ∧ ∀ a ∈ (ats ++ [(x23, tms)]), dA kT a from by exact b5l pa0 om om pa.2)⟩ oz
 ·have pb := pa0
  have jv := b2W (is := fun t => inR t 10 17) (show ats.length ≤ 3 by omega) pa0.2
  refine Eu (l6 rfl (E.exit (n8 (n8 (w5 (Et (Ew Z3 (Ey rfl (o0 (cs := [_, _]) ty_Query rfl (Has.pt (mS (mS m0))) rfl) (Est rfl (N.call (a4u (b5o om pa0.2)) rfl rfl rfl dc rfl (fun w Lp hA => ⟨b4C, hA.ow m0⟩)) (fun k54 _ => ?_))))))))))
  obtain ⟨a54, m54, c54⟩ := k54
  refine i9 m0 fun e54 l54 => ?_
  subst e54
  refine Ei rfl (Eu (Eq_ (Ew Z1 (Ei rfl (Eu (E.block (n9 (A := []) (Own.nil (E := Enc.int) (e := tI) (a := none)) rfl (E.loop (κ := Nat × (List Int) × Option Addr × Nat × Nat) (fun r => r.1 ≤ (B7 (fun t => inR t 10 17) ats).length ∧ r.2.1.length ≤ 2) (fun r => [(0, .pointer (some ⟨b_c, 0, none⟩)), (4, .pointer (some ⟨b4, 0, none⟩)), (5, .pointer (some ⟨b5, 0, none⟩)), (10, .slice a54 (B7 (fun t => inR t 10 17) ats).length c54), (11, .int .i64 (↑r.1 : Int))]) (fun r => [ow eIs [.slice r.2.2.1 r.2.2.2.1 r.2.2.2.2] r.2.1, ow eIs [.slice a54 (B7 (fun t => inR t 10 17) ats).length c54] (B7 (fun t => inR t 10 17) ats), ow G8 [.slice aA0_1 (ats).length cA0_1] ats, cur b_c a_b bs.length c_b, pt b5 28 [.slice r.2.2.1 r.2.2.2.1 r.2.2.2.2, .slice aA0_1 (ats).length cA0_1], pt b4 28 [.slice none 0 0, .slice none 0 0]]) (fun r => (B7 (fun t => inR t 10 17) ats).length - r.1) (0, [], none, 0, 0) ⟨Nat.zero_le _, by simp⟩ ⟨rfl, rfl, rfl, rfl, rfl, trivial⟩ (.refl _) (fun r pr => ?_)))))))))
  obtain ⟨r, hd, aA2_0, mA2_0, cA2_0⟩ := r
  try dsimp only at pr
  try dsimp only
  obtain ⟨pk, pa⟩ := pr
  refine i9 m0 fun eaA2_0 laA2_0 => ?_
  subst eaA2_0
  refine Eq_ (Ew Z10 (Em rfl (Em rfl (Ey rfl ((Y.len us_Is rfl).yd) (Ey rfl ((Y.lss rfl rfl).yd) (n0 (fun q58 => ?_) (fun q58 => ?_)))))))
  ·refine Em rfl (Ey rfl ((i7 fo_Query_0 ty_Is dc rfl).yd) (Ey rfl (f8 ty_Is rfl (Hz (mS (mS (mS (mS m0)))) 0 rfl) rfl) (Ey rfl ((Y.len us_Is rfl).yd) (Ey rfl ((Y.lss rfl rfl).yd) (n0 (fun q63 => ?_) (fun q63 => ?_))))))
   ·refine Ey rfl ((s6 rfl rfl).yd) (Eu (l4 rfl (i8 (Et (Eq_ (E.block (Ew Z2 (Em rfl (m6 (Est rfl (N.call (pre := [_]) R5 rfl rfl rfl dc rfl (fun w Lp hA => hA.ro hbs)) (fun o68 o68 => ?_)))))))))))
    replace o68 : True := o68
    try (conv => arg 5; dsimp only [List.cons_append, List.nil_append, List.append_nil])
    refine Ent.b (fun q68 => ?_) (fun q68 => ?_)
    ·refine Eu (l4 rfl (D.region (fun j => !(Nat.beq j 7) && !(Nat.beq j 9)) mixed (Dyp 0 rfl (i7 fo_Query_0 ty_Is dc rfl) (Dy 1 rfl (f8 ty_Is rfl (Hz (mS (mS (mS (mS m0)))) 0 rfl) rfl) (Dyp 2 rfl (j4 rfl) (Dyp 3 rfl (j4 rfl) (a0R (mS (mS m0)) om fun ab73 ae73 => (b5Z r (mS (mS m0)) om fun ei73 => (Dyp 4 rfl (o6 us_Is f0 rfl ae73 rfl r rfl om) (Dy 5 rfl (f8 f0 rfl (b4z ae73 (mS (mS m0)) om) rfl) (u7 6 rfl rfl kr (fun _ => rfl) (Nb [_] [_] us_Is f0 rfl rfl) (fun b75 _ => (j6 (u7 7 rfl rfl kr (fun h => by cases h) (y6 (E := Enc.int) (ex := (B7 (fun t => inR t 10 17) ats)[r]) us_Is f0 rfl rfl rfl (Own.int ei73) rfl bn bn dc) (fun p76 _ => (Dyp 8 rfl (i7 fo_Query_0 ty_Is dc rfl) (v7 (u7 9 rfl rfl kr (fun h => by cases h) (Ns [_, _] ty_Is rfl) (fun _ _ => (o3 kr (o4 (Et (Ez Z3 (Em rfl ?_))))))))))))))))))))))))
     refine Ey rfl ((Y.add rfl rfl om om).yd) (Ei rfl (Eu (w9 (f7 (m6 (w9 (w9 (w9 ?_))))))))
     exact Ea (r + 1, hd ++ [(B7 (fun t => inR t 10 17) ats)[r]], p76.1, ((hd).length + 1), p76.2) ⟨oz, (show (hd ++ [(B7 (fun t => inR t 10 17) ats)[r]]).length ≤ 2 from by first | omega | (simp only [List.length_append, List.length_singleton]; omega))⟩
    ·refine Eu (l6 rfl (i8 (o4 (Et (Ez Z3 (Em rfl (Ey rfl ((Y.add rfl rfl om om).yd) (Ei rfl (Eu (w9 (w9 (j6 (w9 (w9 (w9 ?_)))))))))))))))
     exact Ea (r + 1, hd, aA2_0, (hd).length, cA2_0) ⟨oz, (show hd.length ≤ 2 from by first | omega | (simp only [List.length_append, List.length_singleton]; omega))⟩
   ·refine Ey rfl ((s6 rfl rfl).yd) (Eu (l6 rfl (E.exit (n8 (n8 (w5 (Et (Ew Z2 (Ey rfl (o0 (cs := [_, _]) ty_Query rfl (Has.pt (mS (mS (mS (mS m0))))) rfl) (w9 (Est rfl (Ns [_, _] ty_Query rfl) (fun _ _ => (Eu (E.ret (m6 (j6 (v7 (j6 (j6 ?_)))))))))))))))))))
    exact J2 br rfl rfl (mS (mS (mS m0))) ty_Query rfl (hd, ats, (_, _, _), (_, _, _)) (show dQ kT 3 2 hd ats from by exact ⟨⟨by omega, by omega⟩, pb.2, by omega⟩) rfl (J := _) (.refl _) (.inl rfl)
  ·refine Em rfl (Es rfl (Es rfl (Es rfl (Es rfl (Ey rfl ((r9 rfl rfl).yd) (Eu (l6 rfl (E.exit (n8 (n8 (w5 (Et (Ew Z2 (Ey rfl (o0 (cs := [_, _]) ty_Query rfl (Has.pt (mS (mS (mS (mS m0))))) rfl) (w9 (Est rfl (Ns [_, _] ty_Query rfl) (fun _ _ => (Eu (E.ret (m6 (j6 (v7 (j6 (j6 ?_))))))))))))))))))))))))
   exact J2 br rfl rfl (mS (mS (mS m0))) ty_Query rfl (hd, ats, (_, _, _), (_, _, _)) (show dQ kT 3 2 hd ats from by exact ⟨⟨by omega, by omega⟩, pb.2, by omega⟩) rfl (J := _) (.refl _) (.inl rfl)
theorem a9s {bs : List UInt8} : Tr Tryz.prog 107 [.pointer (some ⟨b_c, 0, none⟩), .slice a_s m_s c_s] (fun w L => Ro w L eIs [.slice a_s m_s c_s] s ∧ Ro w L U3 [.slice a_b m_b c_b] bs) [cur b_c a_b m_b c_b] (κ := (List Int) × (List (Int × List Int)) × (Option Addr × Nat × Nat) × Option Addr × Nat × Nat) (fun k => dQ dT 3 3 k.1 k.2.1) (fun k => .agg #[.slice k.2.2.1.1 k.2.2.1.2.1 k.2.2.1.2.2, .slice k.2.2.2.1 k.2.2.2.2.1 k.2.2.2.2.2]) (fun k => [ow eIs [.slice k.2.2.1.1 k.2.2.1.2.1 k.2.2.1.2.2] k.1, ow G8 [.slice k.2.2.2.1 k.2.2.2.2.1 k.2.2.2.2.2] k.2.1, cur b_c a_b m_b c_b]) := by
 refine Tr.intro Tryz.func107 rfl (n := 48) rfl (by decide +kernel) bl (fr := [(0, .pointer (some ⟨b_c, 0, none⟩)), (1, .slice a_s m_s c_s)]) rfl fun w L hR => ?_
 obtain ⟨hs, hbs⟩ := hR
 obtain ⟨rfl, ls⟩ := hs.slen
 obtain ⟨rfl, lb⟩ := hbs.slen
 refine Ew Z1 (Est rfl (N.alloc ty_Query dc) (fun b4 _ => (Ev Z6 (Est rfl (Nb [_] [_] us_Is f0 rfl rfl) (fun b6 _ => (n9 (A := _ :: _) (R3 (E := Enc.int) (e := tI) (Own.int i6)) rfl (Ey rfl ((I6 (pvs := [_]) (cs := [_, _]) ty_Atom b1L rfl rfl).yd) (Est rfl (Nb [_] [_, _] us_Atoms ty_Atom rfl rfl) (fun b8 _ => (f7 (f7 (n9 (A := _ :: _) (R3 (E := a0X) (e := tAtom) (U1 (x := (0, [10])) i6 Own.ow)) rfl (Ey rfl ((I6 (pvs := [_]) (cs := [_, _]) ty_Query b0C rfl rfl).yd) (Est rfl (N.alloc ty_Query dc) (fun b5 _ => (Est rfl (Ns [_, _] ty_Query rfl) (fun _ _ => (Eu (Eq_ (Ew Z2 (Em rfl (Est rfl (k6 L6 rfl rfl rfl dc (fun w Lp hA => hA.ro hs)) (fun _ _ => (Ent.b (fun q11 => ?_) (fun q11 => ?_)))))))))))))))))))))))))
 ·refine Eu (l4 rfl (Ez Z4 (Em rfl (Em rfl (m6 (Est rfl (N.call (pre := [_]) (a3r (a0V q11).1 (a0V q11).2.2) rfl rfl rfl dc rfl (fun w Lp hA => ⟨hA.ro hs, hA.ro hbs⟩)) (fun k14 o14 => ?_)))))))
  obtain ⟨hq14, aq14, ⟨a14_0, m14_0, c14_0⟩, ⟨a14_1, m14_1, c14_1⟩⟩ := k14
  replace o14 : dQ kT 3 2 hq14 aq14 := o14
  try (conv => arg 4; dsimp only)
  try (conv => arg 5; dsimp only [List.cons_append, List.nil_append, List.append_nil])
  have jb := And.intro o14.up o14.2.2
  have jl := jb.1.1
  have jh := jb.2
  have jt := (jb.1.2.1 _ (List.getElem_mem (show 0 < aq14.length by omega))).1
  refine i9 m0 fun e14_0 l14_0 => ?_
  subst e14_0
  refine i9 (mS m0) fun e14_1 l14_1 => ?_
  subst e14_1
  refine m6 (Est rfl (Ns [_, _] ty_Query rfl) (fun _ _ => (Eu (Eq_ (Ew Z2 (Em rfl (m6 (Est rfl (N.call (pre := [_]) x5 rfl rfl rfl dc rfl (fun w Lp hA => hA.ro hbs)) (fun x16 o16 => ?_)))))))))
  replace o16 : 0 ≤ x16 ∧ ((14 : Int) ≤ 0 → x16 = 0) ∧ (0 < (14 : Int) → x16 < (14 : Int)) := o16
  try (conv => arg 5; dsimp only [List.cons_append, List.nil_append, List.append_nil])
  refine Eu (E.block (Ew Z2 (Ey rfl ((Y.eql rfl rfl).yd) (m6 (a8F om fun hb90 hce90 htl90 hcx90 hok90 => (f7 (a8G fun oa90_1 om90_1 oc90_1 oe90 oi90_0 on90_1 => ?_)))))))
  subst oe90
  subst on90_1
  refine i9 m0 fun _ ol90_1 => (Ei rfl (n0 (fun q17 => ?_) (fun q17 => ?_)))
  ·refine Eu (l4 rfl (O0 [hb90, b5, b4] (fun j => !(Nat.beq j 8)) mixed (C0 0 rfl rfl dc (i7 fo_Query_0 ty_Is dc rfl) kr (Y6 1 rfl rfl dc (R2 ty_Is rfl ((O9.pt (mS (mS (mS (mS m0)))) (by simp)).sub (cs' := [_]) 0 rfl) rfl) kr (C0 2 rfl rfl dc (j4 rfl) kr (F3 3 rfl rfl kr (fun _ _ => SameI.out) (Nb [_, _, _, _] [_, _, _, _] us_Is f0 rfl rfl) (fun b22 _ => (n9 (A := [_]) (Own.ints (e := tI) (xs := [17, 18, 3, -1]) rfl (by simp [maxLen]) (by simp only [List.forall_mem_cons]; exact ⟨i6, i6, i6, i6, List.forall_mem_nil _⟩)) rfl (v7 (F3 4 rfl rfl kr (fun _ _ => SameI.out) (N.call (pre := [_]) (G9 dc) rfl rfl rfl dc rfl (fun w Lp hA => ⟨hA.ow m0, hA.ro hbs⟩)) (fun x23 o23 => ?_)))))))))))
   replace o23 : x23 ∈ ([17, 18, 3, -1]) := o23
   try (conv => arg 5; dsimp only [List.cons_append, List.nil_append, List.append_nil])
   have jp : -10 ≤ x23 ∧ x23 ≤ 20 := by simp at o23; omega
   refine F3 5 rfl rfl kr (fun _ _ => SameI.out) (Nb [_] [_] us_Is f0 rfl rfl) (fun b24 _ => (M3 (F3 6 rfl rfl kr (fun _ _ => SameI.out) (y6 (E := Enc.int) (ex := x23) us_Is f0 rfl rfl rfl (Own.int i6) rfl bn bn dc) (fun p25 _ => (C0 7 rfl rfl dc (i7 fo_Query_0 ty_Is dc rfl) kr (v8 (F3 8 rfl rfl kr (fun h => by cases h) (Ns [_, _] ty_Is rfl) (fun _ _ => (Q6 kr (o4 (Et (Ew Z2 (v8 (v8 (v8 (n9 (A := [_]) (U1 (x := aq14[0]) oi90_0 Own.ow) rfl (f7 (a0j (xs := aq14) (ce := [_, _]) om hok90 (j8 (congrArg (ow G8 [_]) (List.set_getElem_self (show 0 < List.length aq14 by omega))) (Ey rfl (o0 (cs := [_, _]) ty_Query rfl (Has.pt (mS m0)) rfl) (v8 ?_)))))))))))))))))))))
   refine Est rfl (Ns [_, _] ty_Query rfl) (fun _ _ => (Eu (E.ret (f7 (m6 (v7 (j6 (j6 ?_))))))))
   exact J2 br rfl rfl (mS (mS (mS m0))) ty_Query rfl (hq14 ++ [x23], aq14, (_, _, _), (_, _, _)) (show dQ dT 3 3 (hq14 ++ [x23]) aq14 from by exact b1p jb) rfl (J := _) (.refl _) (.inl rfl)
  ·refine Eu (l6 rfl (Ew Z2 (Ey rfl ((Y.eql rfl rfl).yd) (Ei rfl (n0 (fun q27 => ?_) (fun q27 => ?_))))))
   ·refine Eu (l4 rfl (O0 [hb90, b5, b4] (fun j => !(Nat.beq j 9)) mixed (C0 0 rfl rfl dc (i7 fo_Query_1 ty_Atoms dc rfl) kr (Y6 1 rfl rfl dc (R2 ty_Atoms rfl ((O9.pt (mS (mS (mS (mS m0)))) (by simp)).sub (cs' := [_]) 1 rfl) rfl) kr (C0 2 rfl rfl dc (o6 us_Atoms ty_Atom rfl hok90.1 rfl 0 rfl om) kr (C0 3 rfl rfl dc (i7 fo_Atom_1 ty_Is dc rfl) kr (Y6 4 rfl rfl dc (R2 ty_Is rfl ((O9.pt (mS m0) (by simp)).sub (cs' := [_]) 1 rfl) rfl) kr (C0 5 rfl rfl dc (j4 rfl) kr (F3 6 rfl rfl kr (fun _ _ => SameI.out) (Nb [_, _, _, _] [_, _, _, _] us_Is f0 rfl rfl) (fun b35 _ => (n9 (A := [_]) (Own.ints (e := tI) (xs := [-1, 9, 17, 18]) rfl (by simp [maxLen]) (by simp only [List.forall_mem_cons]; exact ⟨i6, i6, i6, i6, List.forall_mem_nil _⟩)) rfl (v7 (F3 7 rfl rfl kr (fun _ _ => SameI.out) (N.call (pre := [_]) (G9 dc) rfl rfl rfl dc rfl (fun w Lp hA => ⟨hA.ow m0, hA.ro hbs⟩)) (fun x36 o36 => ?_))))))))))))))
    replace o36 : x36 ∈ ([-1, 9, 17, 18]) := o36
    try (conv => arg 5; dsimp only [List.cons_append, List.nil_append, List.append_nil])
    have jp : -10 ≤ x36 ∧ x36 ≤ 20 := by simp at o36; omega
    have jd : dT x36 := by simp at o36; unfold dT; omega
    refine a0R (mS (mS m0)) om fun ab37 ae37 => (C0 8 rfl rfl dc (o6 us_Is f0 rfl ae37 rfl 0 rfl om) kr (j6 (F3 9 rfl rfl kr (fun _ _ => SameI.out) (N.set (E := Enc.int) (j := 0) (ex := x36) (ce := [_]) f0 rfl rfl rfl rfl (Own.int i6) ae37 (Nat.zero_add _) rfl (by first | (simp; omega) | omega | (simp; done))) (fun _ _ => (Q6 kr (o4 (Et (Ew Z2 (v7 (v7 (j6 (n9 (A := [_]) (U1 (x := (aq14[0].1, aq14[0].2.set 0 x36)) oi90_0 Own.ow) rfl (f7 (a0j (xs := aq14) (ce := [_, _]) om hok90 (Ey rfl (o0 (cs := [_, _]) ty_Query rfl (Has.pt (mS (mS (mS m0)))) rfl) (v8 (Est rfl (Ns [_, _] ty_Query rfl) (fun _ _ => (Eu (E.ret (f7 (w9 ?_))))))))))))))))))))))
    refine m6 (j6 (j6 ?_))
    exact J2 br rfl rfl (mS (mS (mS m0))) ty_Query rfl (hq14, aq14.set 0 (aq14[0].1, aq14[0].2.set 0 x36), (_, _, _), (_, _, _)) (show dQ dT 3 3 hq14 (aq14.set 0 (aq14[0].1, aq14[0].2.set 0 x36)) from by exact b1I jb.1 jd) rfl (J := _) (.refl _) (.inl rfl)
   ·refine Eu (l6 rfl (Ew Z2 (Ey rfl ((Y.eql rfl rfl).yd) (Ei rfl (n0 (fun q38 => ?_) (fun q38 => ?_))))))
    ·refine Eu (l4 rfl (O0 [hb90, b5, b4] (fun j => !(Nat.beq j 7)) mixed (C0 0 rfl rfl dc (i7 fo_Query_1 ty_Atoms dc rfl) kr (Y6 1 rfl rfl dc (R2 ty_Atoms rfl ((O9.pt (mS (mS (mS (mS m0)))) (by simp)).sub (cs' := [_]) 1 rfl) rfl) kr (C0 2 rfl rfl dc (j4 rfl) kr (m6 (F3 3 rfl rfl kr (fun _ _ => SameI.out) (N.call (pre := [_]) x5 rfl rfl rfl dc rfl (fun w Lp hA => hA.ro hbs)) (fun x43 o43 => ?_))))))))
     replace o43 : 0 ≤ x43 ∧ ((5 : Int) ≤ 0 → x43 = 0) ∧ (0 < (5 : Int) → x43 < (5 : Int)) := o43
     try (conv => arg 5; dsimp only [List.cons_append, List.nil_append, List.append_nil])
     refine C0 4 rfl rfl dc (Y.sub rfl rfl om om) kr (C0 5 rfl rfl dc (o6 us_Atoms ty_Atom rfl hok90.1 rfl 0 rfl om) kr (C0 6 rfl rfl dc (i7 fo_Atom_0 f0 dc rfl) kr (j6 (F3 7 rfl rfl kr (fun h => by cases h) (a9e (vs := [_]) (cs' := [_, _] ++ htl90) f0 rfl rfl rfl rfl rfl bl rfl) (fun _ _ => (Q6 kr (o4 (Et (Ew Z2 (m6 (f7 (m6 (n9 (A := [_]) (U1 (x := ((x43 - 1), aq14[0].2)) i6 Own.ow) rfl (f7 (a0j (xs := aq14) (ce := [_, _]) om hok90 (Ey rfl (o0 (cs := [_, _]) ty_Query rfl (Has.pt (mS (mS m0))) rfl) (w9 (Est rfl (Ns [_, _] ty_Query rfl) (fun _ _ => (Eu (E.ret (f7 ?_))))))))))))))))))))))
     refine v7 (m6 (j6 (j6 ?_)))
     exact J2 br rfl rfl (mS (mS (mS m0))) ty_Query rfl (hq14, aq14.set 0 ((x43 - 1), aq14[0].2), (_, _, _), (_, _, _)) (show dQ dT 3 3 hq14 (aq14.set 0 ((x43 - 1), aq14[0].2)) from by exact b2V jb.1) rfl (J := _) (.refl _) (.inl rfl)
    ·refine Eu (l6 rfl (i8 (o4 (Et (Ew Z2 (j6 (j6 (j6 (n9 (A := [_]) (U1 (x := aq14[0]) oi90_0 Own.ow) rfl (f7 (a0j (xs := aq14) (ce := [_, _]) om hok90 (j8 (congrArg (ow G8 [_]) (List.set_getElem_self (show 0 < List.length aq14 by omega))) (Ey rfl (o0 (cs := [_, _]) ty_Query rfl (Has.pt (mS (mS m0))) rfl) (w9 (Est rfl (Ns [_, _] ty_Query rfl) (fun _ _ => (Eu (E.ret (f7 (v7 (m6 (j6 (j6 ?_)))))))))))))))))))))))
     exact J2 br rfl rfl (mS (mS (mS m0))) ty_Query rfl (hq14, aq14, (_, _, _), (_, _, _)) (show dQ dT 3 3 hq14 aq14 from by exact jb.1) rfl (J := _) (.refl _) (.inl rfl)
 ·have jb := b5q
  refine Eu (l6 rfl (i8 (Et (Eq_ (Ew Z2 (Em rfl (m6 (Est rfl (N.call (pre := [_]) x5 rfl rfl rfl dc rfl (fun w Lp hA => hA.ro hbs)) (fun x16 o16 => ?_)))))))))
  replace o16 : 0 ≤ x16 ∧ ((14 : Int) ≤ 0 → x16 = 0) ∧ (0 < (14 : Int) → x16 < (14 : Int)) := o16
  try (conv => arg 5; dsimp only [List.cons_append, List.nil_append, List.append_nil])
  refine Eu (E.block (Ew Z2 (Ey rfl ((Y.eql rfl rfl).yd) ?_)))
  obtain ⟨aq0, haq⟩ : ∃ z : List (Int × List Int), z = [(0, [10])] := ⟨_, rfl⟩
  rw [← haq] at jb
  have jl := jb.1.1
  have jh := jb.2
  have jt := (jb.1.2.1 _ (List.getElem_mem (show 0 < aq0.length by omega))).1
  refine j6 (j8 (congrArg (ow G8 [_]) haq.symm) (a8F om fun hb90 hce90 htl90 hcx90 hok90 => (f7 (a8G fun oa90_1 om90_1 oc90_1 oe90 oi90_0 on90_1 => ?_))))
  subst oe90
  subst on90_1
  refine i9 m0 fun _ ol90_1 => (Ei rfl (n0 (fun q17 => ?_) (fun q17 => ?_)))
  ·refine Eu (l4 rfl (O0 [hb90, b5, b4] (fun j => !(Nat.beq j 8)) mixed (C0 0 rfl rfl dc (i7 fo_Query_0 ty_Is dc rfl) kr (Y6 1 rfl rfl dc (R2 ty_Is rfl ((O9.pt (mS (mS (mS (mS m0)))) (by simp)).sub (cs' := [_]) 0 rfl) rfl) kr (C0 2 rfl rfl dc (j4 rfl) kr (F3 3 rfl rfl kr (fun _ _ => SameI.out) (Nb [_, _, _, _] [_, _, _, _] us_Is f0 rfl rfl) (fun b22 _ => (n9 (A := [_]) (Own.ints (e := tI) (xs := [17, 18, 3, -1]) rfl (by simp [maxLen]) (by simp only [List.forall_mem_cons]; exact ⟨i6, i6, i6, i6, List.forall_mem_nil _⟩)) rfl (v7 (F3 4 rfl rfl kr (fun _ _ => SameI.out) (N.call (pre := [_]) (G9 dc) rfl rfl rfl dc rfl (fun w Lp hA => ⟨hA.ow m0, hA.ro hbs⟩)) (fun x23 o23 => ?_)))))))))))
   replace o23 : x23 ∈ ([17, 18, 3, -1]) := o23
   try (conv => arg 5; dsimp only [List.cons_append, List.nil_append, List.append_nil])
   have jp : -10 ≤ x23 ∧ x23 ≤ 20 := by simp at o23; omega
   refine F3 5 rfl rfl kr (fun _ _ => SameI.out) (Nb [_] [_] us_Is f0 rfl rfl) (fun b24 _ => (n9 (A := []) (Own.nil (E := Enc.int) (e := tI) (a := none)) rfl (f7 (f7 (F3 6 rfl rfl kr (fun _ _ => SameI.out) (y6 (E := Enc.int) (ex := x23) us_Is f0 rfl rfl rfl (Own.int i6) rfl bn bn dc) (fun p25 _ => (C0 7 rfl rfl dc (i7 fo_Query_0 ty_Is dc rfl) kr (v8 (F3 8 rfl rfl kr (fun h => by cases h) (Ns [_, _] ty_Is rfl) (fun _ _ => (Q6 kr (o4 (Et (Ew Z2 (v8 (v8 (v8 (n9 (A := [_]) (U1 (x := aq0[0]) oi90_0 Own.ow) rfl (f7 (a0j (xs := aq0) (ce := [_, _]) om hok90 (j8 (congrArg (ow G8 [_]) (List.set_getElem_self (show 0 < List.length aq0 by omega))) ?_)))))))))))))))))))))
   refine Ey rfl (o0 (cs := [_, _]) ty_Query rfl (Has.pt (mS m0)) rfl) (w9 (Est rfl (Ns [_, _] ty_Query rfl) (fun _ _ => (Eu (E.ret (f7 (m6 (v7 (j6 (j6 ?_))))))))))
   exact J2 br rfl rfl (mS (mS (mS m0))) ty_Query rfl ([] ++ [x23], aq0, (_, _, _), (_, _, _)) (show dQ dT 3 3 ([] ++ [x23] : List Int) aq0 from by exact b1p jb) rfl (J := _) (.refl _) (.inl rfl)
  ·refine Eu (l6 rfl (Ew Z2 (Ey rfl ((Y.eql rfl rfl).yd) (Ei rfl (n0 (fun q27 => ?_) (fun q27 => ?_))))))
   ·refine Eu (l4 rfl (O0 [hb90, b5, b4] (fun j => !(Nat.beq j 9)) mixed (C0 0 rfl rfl dc (i7 fo_Query_1 ty_Atoms dc rfl) kr (Y6 1 rfl rfl dc (R2 ty_Atoms rfl ((O9.pt (mS (mS (mS (mS m0)))) (by simp)).sub (cs' := [_]) 1 rfl) rfl) kr (C0 2 rfl rfl dc (o6 us_Atoms ty_Atom rfl hok90.1 rfl 0 rfl om) kr (C0 3 rfl rfl dc (i7 fo_Atom_1 ty_Is dc rfl) kr (Y6 4 rfl rfl dc (R2 ty_Is rfl ((O9.pt (mS m0) (by simp)).sub (cs' := [_]) 1 rfl) rfl) kr (C0 5 rfl rfl dc (j4 rfl) kr (F3 6 rfl rfl kr (fun _ _ => SameI.out) (Nb [_, _, _, _] [_, _, _, _] us_Is f0 rfl rfl) (fun b35 _ => (n9 (A := [_]) (Own.ints (e := tI) (xs := [-1, 9, 17, 18]) rfl (by simp [maxLen]) (by simp only [List.forall_mem_cons]; exact ⟨i6, i6, i6, i6, List.forall_mem_nil _⟩)) rfl (v7 (F3 7 rfl rfl kr (fun _ _ => SameI.out) (N.call (pre := [_]) (G9 dc) rfl rfl rfl dc rfl (fun w Lp hA => ⟨hA.ow m0, hA.ro hbs⟩)) (fun x36 o36 => ?_))))))))))))))
    replace o36 : x36 ∈ ([-1, 9, 17, 18]) := o36
    try (conv => arg 5; dsimp only [List.cons_append, List.nil_append, List.append_nil])
    have jp : -10 ≤ x36 ∧ x36 ≤ 20 := by simp at o36; omega
    have jd : dT x36 := by simp at o36; unfold dT; omega
    refine a0R (mS (mS m0)) om fun ab37 ae37 => (C0 8 rfl rfl dc (o6 us_Is f0 rfl ae37 rfl 0 rfl om) kr (j6 (F3 9 rfl rfl kr (fun _ _ => SameI.out) (N.set (E := Enc.int) (j := 0) (ex := x36) (ce := [_]) f0 rfl rfl rfl rfl (Own.int i6) ae37 (Nat.zero_add _) rfl (by first | (simp; omega) | omega | (simp; done))) (fun _ _ => (Q6 kr (o4 (Et (Ew Z2 (v7 (v7 (j6 (n9 (A := [_]) (U1 (x := (aq0[0].1, aq0[0].2.set 0 x36)) oi90_0 Own.ow) rfl (f7 (a0j (xs := aq0) (ce := [_, _]) om hok90 (Ey rfl (o0 (cs := [_, _]) ty_Query rfl (Has.pt (mS (mS (mS m0)))) rfl) (v7 (Est rfl (Ns [_, _] ty_Query rfl) (fun _ _ => (Eu (E.ret (f7 (n9 (A := []) (Own.nil (E := Enc.int) (e := tI) (a := none)) rfl ?_))))))))))))))))))))))
    refine m6 (j6 (j6 ?_))
    exact J2 br rfl rfl (mS (mS (mS m0))) ty_Query rfl ([], aq0.set 0 (aq0[0].1, aq0[0].2.set 0 x36), (none, 0, 0), (_, _, _)) (show dQ dT 3 3 ([] : List Int) (aq0.set 0 (aq0[0].1, aq0[0].2.set 0 x36)) from by exact b1I jb.1 jd) rfl (J := _) (.refl _) (.inl rfl)
   ·refine Eu (l6 rfl (Ew Z2 (Ey rfl ((Y.eql rfl rfl).yd) (Ei rfl (n0 (fun q38 => ?_) (fun q38 => ?_))))))
    ·refine Eu (l4 rfl (O0 [hb90, b5, b4] (fun j => !(Nat.beq j 7)) mixed (C0 0 rfl rfl dc (i7 fo_Query_1 ty_Atoms dc rfl) kr (Y6 1 rfl rfl dc (R2 ty_Atoms rfl ((O9.pt (mS (mS (mS (mS m0)))) (by simp)).sub (cs' := [_]) 1 rfl) rfl) kr (C0 2 rfl rfl dc (j4 rfl) kr (m6 (F3 3 rfl rfl kr (fun _ _ => SameI.out) (N.call (pre := [_]) x5 rfl rfl rfl dc rfl (fun w Lp hA => hA.ro hbs)) (fun x43 o43 => ?_))))))))
     replace o43 : 0 ≤ x43 ∧ ((5 : Int) ≤ 0 → x43 = 0) ∧ (0 < (5 : Int) → x43 < (5 : Int)) := o43
     try (conv => arg 5; dsimp only [List.cons_append, List.nil_append, List.append_nil])
     refine C0 4 rfl rfl dc (Y.sub rfl rfl om om) kr (C0 5 rfl rfl dc (o6 us_Atoms ty_Atom rfl hok90.1 rfl 0 rfl om) kr (C0 6 rfl rfl dc (i7 fo_Atom_0 f0 dc rfl) kr (j6 (F3 7 rfl rfl kr (fun h => by cases h) (a9e (vs := [_]) (cs' := [_, _] ++ htl90) f0 rfl rfl rfl rfl rfl bl rfl) (fun _ _ => (Q6 kr (o4 (Et (Ew Z2 (m6 (f7 (m6 (n9 (A := [_]) (U1 (x := ((x43 - 1), aq0[0].2)) i6 Own.ow) rfl (f7 (a0j (xs := aq0) (ce := [_, _]) om hok90 (Ey rfl (o0 (cs := [_, _]) ty_Query rfl (Has.pt (mS (mS m0))) rfl) (m6 (Est rfl (Ns [_, _] ty_Query rfl) (fun _ _ => (Eu (E.ret (f7 ?_))))))))))))))))))))))
     refine n9 (A := []) (Own.nil (E := Enc.int) (e := tI) (a := none)) rfl (m6 (j6 (j6 ?_)))
     exact J2 br rfl rfl (mS (mS (mS m0))) ty_Query rfl ([], aq0.set 0 ((x43 - 1), aq0[0].2), (none, 0, 0), (_, _, _)) (show dQ dT 3 3 ([] : List Int) (aq0.set 0 ((x43 - 1), aq0[0].2)) from by exact b2V jb.1) rfl (J := _) (.refl _) (.inl rfl)
    ·refine Eu (l6 rfl (i8 (o4 (Et (Ew Z2 (j6 (j6 (j6 (n9 (A := [_]) (U1 (x := aq0[0]) oi90_0 Own.ow) rfl (f7 (a0j (xs := aq0) (ce := [_, _]) om hok90 (j8 (congrArg (ow G8 [_]) (List.set_getElem_self (show 0 < List.length aq0 by omega))) (Ey rfl (o0 (cs := [_, _]) ty_Query rfl (Has.pt (mS (mS m0))) rfl) (m6 (Est rfl (Ns [_, _] ty_Query rfl) (fun _ _ => (Eu (E.ret (f7 (n9 (A := []) (Own.nil (E := Enc.int) (e := tI) (a := none)) rfl (m6 (j6 (j6 ?_)))))))))))))))))))))))
     exact J2 br rfl rfl (mS (mS (mS m0))) ty_Query rfl ([], aq0, (none, 0, 0), (_, _, _)) (show dQ dT 3 3 ([] : List Int) aq0 from by exact jb.1) rfl (J := _) (.refl _) (.inl rfl)
end Go.Proofs.YtlfhopooaejpfaaGreat
end
