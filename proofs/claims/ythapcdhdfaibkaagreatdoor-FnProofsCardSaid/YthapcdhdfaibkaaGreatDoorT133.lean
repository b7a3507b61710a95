import Derived.Test.YthapcdhdfaibkaaGreatDoorT130
import Derived.Test.YthapcdhdfaibkaaGreatDoorT128
section
namespace Go.Proofs.YthapcdhdfaibkaaGreatDoor
open Go.RowKit
set_option linter.all false
set_option maxHeartbeats 2000000
attribute [local irreducible] Nop Yd Yp Ent Has Tr FnP FnP2 Src o2 c8 N0 a0b E6
theorem b3u {a_code : Option Addr} {m_code c_code : Nat} {code : List UInt8} : Tr Tryz.prog 6 [.slice a_code m_code c_code] (fun w L => Ro w L Y6 [.slice a_code m_code c_code] code) [] (κ := Unit) (fun k => True) (fun k => .bool (decide (1048576 < (code.length : Int)))) (fun k => []) := by
 refine Tr.intro Tryz.func6 rfl (n := 6) rfl (by decide +kernel) bl (fr := [(0, .slice a_code m_code c_code)]) rfl fun w L hR => ?_
 have hcode := hR
 obtain ⟨rfl, lcode⟩ := hcode.slen
 refine Ew Z1 (Ei rfl (Ev Z4 (Em rfl (Ey rfl ((Y.len us_U8s rfl).yd) (Ey rfl ((Y.gtr rfl rfl).yd) (Ei rfl ?_))))))
 exact Eu (E.ret (Fb rfl rfl (by simp_all)))
theorem b0y {b_c : Nat} {a_s : Option Addr} {m_s c_s : Nat} {s : List Int} {a_b : Option Addr} {m_b c_b : Nat} {bs : List UInt8} (h1 : 1 ≤ s.length) (hsz : ∀ z ∈ s, 1 ≤ z ∧ z ≤ 3) : Tr Tryz.prog 239 [.pointer (some ⟨b_c, 0, none⟩), .slice a_s m_s c_s] (fun w L => Ro w L eIs [.slice a_s m_s c_s] s ∧ Ro w L Y6 [.slice a_b m_b c_b] bs) [cur b_c a_b m_b c_b] (κ := (List Int) × (List (Int × List Int)) × (Option Addr × Nat × Nat) × Option Addr × Nat × Nat) (fun k => sQ k.1 k.2.1 ∧ (∀ u, S7 u (k.1, k.2.1) = true → a7W k.2.1)) (fun k => .agg #[.slice k.2.2.1.1 k.2.2.1.2.1 k.2.2.1.2.2, .slice k.2.2.2.1 k.2.2.2.2.1 k.2.2.2.2.2]) (fun k => [ow eIs [.slice k.2.2.1.1 k.2.2.1.2.1 k.2.2.1.2.2] k.1, ow Z0 [.slice k.2.2.2.1 k.2.2.2.2.1 k.2.2.2.2.2] k.2.1, cur b_c a_b m_b c_b]) := by
 refine Tr.intro Tryz.func239 rfl (n := 38) rfl (by decide +kernel) bl (fr := [(0, .pointer (some ⟨b_c, 0, none⟩)), (1, .slice a_s m_s c_s)]) rfl fun w L hR => ?_
 obtain ⟨hs, hbs⟩ := hR
 obtain ⟨rfl, ls⟩ := hs.slen
 obtain ⟨rfl, lb⟩ := hbs.slen
 refine Ew Z1 (Est rfl (N.alloc ty_Query dc) (fun b4 _ => (Ev Z5 (Em rfl (Em rfl (d9 (Est rfl (N.call (pre := [_]) (a3n fc fc) rfl rfl rfl dc rfl (fun w Lp hA => ⟨hA.ro hs, hA.ro hbs⟩)) (fun k10 o10 => ?_))))))))
 obtain ⟨hq10, aq10, ⟨a10_0, m10_0, c10_0⟩, ⟨a10_1, m10_1, c10_1⟩⟩ := k10
 replace o10 : dQ kT 3 2 hq10 aq10 := o10
 try (conv => arg 4; dsimp only)
 try (conv => arg 5; dsimp only [List.cons_append, List.nil_append, List.append_nil])
 have jl := o10.1
 have jh := o10.2.2
 have jt := (o10.2.1 _ (List.getElem_mem (show 0 < aq10.length by omega))).1
 refine d7 m0 fun e10_0 l10_0 => ?_
 subst e10_0
 refine d7 (mS m0) fun e10_1 l10_1 => ?_
 subst e10_1
 refine Est rfl (N.alloc ty_Query dc) (fun b5 _ => (Est rfl (Ns [_, _] ty_Query rfl) (fun _ _ => (Eu (Eq_ (Ew Z8 (Ey rfl ((f5 fo_Query_1 ty_Atoms dc rfl).yd) (Ey rfl (g9 ty_Atoms rfl (Hz m0 1 rfl) rfl) (Ey rfl ((Y.len us_Atoms rfl).yd) (Ey rfl ((Y.lss rfl rfl).yd) (o3 (fun q14 => ?_) (fun q14 => ?_))))))))))))
 ·refine Em rfl (Em rfl (o4 (Est rfl (N.call (pre := [_]) P4 rfl rfl rfl dc rfl (fun w Lp hA => hA.ro hbs)) (fun o17 o17 => ?_))))
  replace o17 : True := o17
  try (conv => arg 5; dsimp only [List.cons_append, List.nil_append, List.append_nil])
  refine Ent.b (fun q17 => ?_) (fun q17 => ?_)
  ·refine Ey rfl ((t8 rfl rfl).yd) (Eu (n8 rfl (Ew Z6 (Ey rfl ((f5 fo_Query_1 ty_Atoms dc rfl).yd) (Ey rfl (g9 ty_Atoms rfl (Hz (mS m0) 1 rfl) rfl) (a1m (mS (mS (mS m0))) om fun ab21 ae21 => (o4 (a3t (x := aq10[0]) 0 (List.getElem?_eq_getElem om) fun ce21 => ?_))))))))
   refine d9 (a7g fun oa21_1 om21_1 oc21_1 oe21 oi21_0 on21_1 => ?_)
   subst oe21
   subst on21_1
   refine Ey rfl ((v8 us_Atoms ty_Atom rfl ae21 rfl 0 rfl om).yd) (Ey rfl (o6 (cs := [_, _]) ty_Atom rfl (Has.hole ae21 (mS m0)) rfl) (Est rfl (N.alloc ty_Atom dc) (fun b6 _ => (Est rfl (Ns [_, _] ty_Atom rfl) (fun _ _ => (Ev Z7 (Ey rfl ((f5 fo_Atom_0 f9 dc rfl).yd) (Ey rfl (g9 f9 rfl (Hz m0 0 rfl) rfl) (Ey rfl ((f5 fo_Atom_1 ty_Is dc rfl).yd) (Ey rfl (g9 ty_Is rfl (Hz m0 1 rfl) rfl) (Est rfl (N.call (b0A fc) rfl rfl rfl dc rfl (fun w Lp hA => ⟨oi21_0, hA.ow (mS m0)⟩)) (fun k27 _ => ?_))))))))))))
   obtain ⟨a27, m27, c27⟩ := k27
   try (conv => arg 4; dsimp only)
   try (conv => arg 5; dsimp only [List.cons_append, List.nil_append, List.append_nil])
   refine d7 m0 fun e27 l27 => ?_
   subst e27
   refine Est rfl (N.alloc ty_Atom dc) (fun b7 _ => (Est rfl (Ns [_, _] ty_Atom rfl) (fun _ _ => (Ev Z4 (o4 (j9 (a2H (V7 (x := aq10[0]) oi21_0 Own.ow) rfl (j4 (congrArg (ow Z0 [_]) (List.set_getElem_self om)) (Ey rfl ((f5 fo_Atom_1 ty_Is dc rfl).yd) (Ey rfl (g9 ty_Is rfl (Hz (mS m0) 1 rfl) rfl) (a1m (mS (mS m0)) om fun ab30 ae30 => (Ey rfl ((v8 us_Is f9 rfl ae30 rfl 0 rfl om).yd) (j8 (Est rfl (N.set (E := Enc.int) (j := 0) (ex := 15) (ce := [_]) f9 rfl rfl rfl rfl (Own.int i6) ae30 (Nat.zero_add _) rfl (by first | (simp; omega) | omega | (simp; done))) (fun _ _ => (Eu (Ez Z7 (Ey rfl ((f5 fo_Query_1 ty_Atoms dc rfl).yd) (Ey rfl (g9 ty_Atoms rfl ((Has.pt (mS (mS (mS (mS (mS m0)))))).sub (cs' := [_]) 1 rfl) rfl) (Ey rfl (o6 (cs := [_, _]) ty_Atom rfl (Has.pt (mS (mS m0))) rfl) (Est rfl (Nb [_] [_, _] us_Atoms ty_Atom rfl rfl) (fun b34 _ => (d9 (d9 (j8 (Est rfl (C7 (E := a3X) (ex := (aq10[0].1, aq10[0].2.set 0 15)) us_Atoms ty_Atom rfl rfl rfl (V7 (x := (aq10[0].1, aq10[0].2.set 0 15)) oi21_0 Own.ow) rfl bn bn dc) (fun p35 _ => (Ey rfl ((f5 fo_Query_1 ty_Atoms dc rfl).yd) (j9 (Est rfl (Ns [_, _] ty_Atoms rfl) (fun _ _ => (Ev Z2 (Ey rfl (o6 (cs := [_, _]) ty_Query rfl (Has.pt m0) rfl) (B1 (Est rfl (Ns [_, _] ty_Query rfl) (fun _ _ => (Eu (E.ret (j8 (B1 (B1 (j8 (j8 ?_)))))))))))))))))))))))))))))))))))))))))))
   exact O2 br rfl rfl (mS (mS (mS m0))) ty_Query rfl (hq10, aq10 ++ [(aq10[0].1, aq10[0].2.set 0 15)], (_, _, _), (_, _, _)) (show sQ hq10 (aq10 ++ [(aq10[0].1, aq10[0].2.set 0 15)]) ∧ (∀ u, S7 u (hq10, (aq10 ++ [(aq10[0].1, aq10[0].2.set 0 15)])) = true → a7W (aq10 ++ [(aq10[0].1, aq10[0].2.set 0 15)])) from by first | exact ⟨o10.up.small, fun u _ => a5t (o10.mono b0K (Nat.le_refl _) (Nat.le_refl _)).2.1⟩ | exact ⟨(a3k o10).small4, fun u _ => a5t (a3k o10).2.1⟩) rfl (J := _) (.refl _) (.inl rfl)
  ·refine Ey rfl ((t8 rfl rfl).yd) (Eu (o0 rfl (i7 (Et (Ew Z2 (Ey rfl (o6 (cs := [_, _]) ty_Query rfl (Has.pt (mS m0)) rfl) (j9 (Est rfl (Ns [_, _] ty_Query rfl) (fun _ _ => (Eu (E.ret (j9 (j9 (o4 (j8 (j8 ?_))))))))))))))))
   exact O2 br rfl rfl (mS (mS (mS m0))) ty_Query rfl (hq10, aq10, (_, _, _), (_, _, _)) (show sQ hq10 aq10 ∧ (∀ u, S7 u (hq10, aq10) = true → a7W aq10) from by first | exact ⟨o10.up.small, fun u _ => a5t (o10.mono b0K (Nat.le_refl _) (Nat.le_refl _)).2.1⟩ | exact ⟨(a3k o10).small4, fun u _ => a5t (a3k o10).2.1⟩) rfl (J := _) (.refl _) (.inl rfl)
 ·refine Em rfl (Es rfl (Es rfl (Ey rfl ((t7 rfl rfl).yd) (Eu (o0 rfl (i7 (Et (Ew Z2 (Ey rfl (o6 (cs := [_, _]) ty_Query rfl (Has.pt m0) rfl) (j9 (Est rfl (Ns [_, _] ty_Query rfl) (fun _ _ => (Eu (E.ret (o4 (o4 (j9 (j8 (j8 ?_)))))))))))))))))))
  exact O2 br rfl rfl (mS (mS (mS m0))) ty_Query rfl (hq10, aq10, (_, _, _), (_, _, _)) (show sQ hq10 aq10 ∧ (∀ u, S7 u (hq10, aq10) = true → a7W aq10) from by first | exact ⟨o10.up.small, fun u _ => a5t (o10.mono b0K (Nat.le_refl _) (Nat.le_refl _)).2.1⟩ | exact ⟨(a3k o10).small4, fun u _ => a5t (a3k o10).2.1⟩) rfl (J := _) (.refl _) (.inl rfl)
end Go.Proofs.YthapcdhdfaibkaaGreatDoor
end
section
namespace Go.Proofs.YthapcdhdfaibkaaGreatDoor
open Go.RowKit
set_option linter.all false
set_option maxHeartbeats 2000000
attribute [local irreducible] Nop Yd Yp Ent Has Tr FnP FnP2 Src o2 c8 N0 a0b E6
variable {b_c m_b c_b : Nat} {a_b : Option Addr}
theorem a9x {bs : List UInt8} : Tr Tryz.prog 238 [.pointer (some ⟨b_c, 0, none⟩)] (fun w L => Ro w L Y6 [.slice a_b m_b c_b] bs) [cur b_c a_b m_b c_b] (κ := (List Int) × (List (Int × List Int × Int × Int × Int)) × (List Int) × (List (Int × List Int)) × (Option Addr × Nat × Nat) × (Option Addr × Nat × Nat) × (Option Addr × Nat × Nat) × Option Addr × Nat × Nat) (fun k => (1 ≤ k.1.length ∧ k.1.length ≤ 4) ∧ (k.2.1.length ≤ 5 ∧ ∀ m ∈ k.2.1, m.2.1.length ≤ 4) ∧ sQ k.2.2.1 k.2.2.2.1) (fun k => .tuple #[.slice k.2.2.2.2.1.1 k.2.2.2.2.1.2.1 k.2.2.2.2.1.2.2, .slice k.2.2.2.2.2.1.1 k.2.2.2.2.2.1.2.1 k.2.2.2.2.2.1.2.2, .agg #[.slice k.2.2.2.2.2.2.1.1 k.2.2.2.2.2.2.1.2.1 k.2.2.2.2.2.2.1.2.2, .slice k.2.2.2.2.2.2.2.1 k.2.2.2.2.2.2.2.2.1 k.2.2.2.2.2.2.2.2.2]]) (fun k => [ow eIs [.slice k.2.2.2.2.1.1 k.2.2.2.2.1.2.1 k.2.2.2.2.1.2.2] k.1, ow F5 [.slice k.2.2.2.2.2.1.1 k.2.2.2.2.2.1.2.1 k.2.2.2.2.2.1.2.2] k.2.1, ow eIs [.slice k.2.2.2.2.2.2.1.1 k.2.2.2.2.2.2.1.2.1 k.2.2.2.2.2.2.1.2.2] k.2.2.1, ow Z0 [.slice k.2.2.2.2.2.2.2.1 k.2.2.2.2.2.2.2.2.1 k.2.2.2.2.2.2.2.2.2] k.2.2.2.1, cur b_c a_b m_b c_b]) := by
 refine Tr.intro Tryz.func238 rfl (n := 28) rfl (by decide +kernel) bl (fr := [(0, .pointer (some ⟨b_c, 0, none⟩))]) rfl fun w L hR => ?_
 have hbs := hR
 obtain ⟨rfl, lb⟩ := hbs.slen
 refine Ew Z3 (Ei rfl (Ei rfl (Est rfl (N.alloc ty_Query dc) (fun b4 _ => (Ev Z10 (Em rfl (d9 (Est rfl (N.call (pre := [_]) b0v rfl rfl rfl dc rfl (fun w Lp hA => hA.ro hbs)) (fun k10 o10 => ?_)))))))))
 obtain ⟨xs10, ms10, hq10, aq10, ⟨a10_0, m10_0, c10_0⟩, ⟨a10_1, m10_1, c10_1⟩, ⟨a10_2, m10_2, c10_2⟩, ⟨a10_3, m10_3, c10_3⟩⟩ := k10
 replace o10 : (1 ≤ xs10.length ∧ xs10.length ≤ 4) ∧ (ms10.length ≤ 5 ∧ ∀ m ∈ ms10, m.2.1.length ≤ 4) ∧ dQ dT 3 3 hq10 aq10 := o10
 try (conv => arg 4; dsimp only)
 try (conv => arg 5; dsimp only [List.cons_append, List.nil_append, List.append_nil])
 refine d7 m0 fun e10_0 l10_0 => ?_
 subst e10_0
 refine d7 (mS m0) fun e10_1 l10_1 => ?_
 subst e10_1
 refine d7 (mS (mS m0)) fun e10_2 l10_2 => ?_
 subst e10_2
 refine d7 (mS (mS (mS m0))) fun e10_3 l10_3 => ?_
 subst e10_3
 refine Em rfl (Ey rfl ((Y.ext rfl rfl).yd) (Ey rfl ((Y.ext rfl rfl).yd) (Ey rfl ((Y.ext rfl rfl).yd) (Est rfl (N.alloc ty_Query dc) (fun b7 _ => (Ei rfl (Ei rfl (Est rfl (Ns [_, _] ty_Query rfl) (fun _ _ => (Eu (Eq_ (Ew Z6 (Em rfl (Est rfl (l0 M9 rfl rfl rfl dc (fun w Lp hA => hA.ow (mS m0))) (fun _ _ => (Ent.b (fun q15 => ?_) (fun q15 => ?_)))))))))))))))))
 ·refine Em rfl (Em rfl (w6 (Est rfl (N.call (pre := [_]) P4 rfl rfl rfl dc rfl (fun w Lp hA => hA.ro hbs)) (fun o18 o18 => ?_))))
  replace o18 : True := o18
  try (conv => arg 5; dsimp only [List.cons_append, List.nil_append, List.append_nil])
  refine Ent.b (fun q18 => ?_) (fun q18 => ?_)
  ·refine Ey rfl ((t8 rfl rfl).yd) (Eu (n8 rfl (Ew Z8 (Em rfl (Em rfl (Em rfl (Em rfl (Est rfl (N.call (pre := [_]) (b0y (a0s q15).1 (a0s q15).2.2) rfl rfl rfl dc rfl (fun w Lp hA => ⟨hA.ow (mS m0), hA.ro hbs⟩)) (fun k24 o24 => ?_)))))))))
   obtain ⟨hq24, aq24, ⟨a24_0, m24_0, c24_0⟩, ⟨a24_1, m24_1, c24_1⟩⟩ := k24
   replace o24 : sQ hq24 aq24 ∧ (∀ u, S7 u (hq24, aq24) = true → a7W aq24) := o24
   try (conv => arg 4; dsimp only)
   try (conv => arg 5; dsimp only [List.cons_append, List.nil_append, List.append_nil])
   refine d7 m0 fun e24_0 l24_0 => ?_
   subst e24_0
   refine d7 (mS m0) fun e24_1 l24_1 => ?_
   subst e24_1
   refine Ei rfl (Ei rfl (D8 (Est rfl (Ns [_, _] ty_Query rfl) (fun _ _ => (Eu (E.ret (n0 (j8 (j8 (B1 (B1 (w6 (j9 (j9 (j9 (j9 ?_))))))))))))))))
   exact a6d br rfl rfl rfl rfl (mS (mS (mS (mS (mS m0))))) ty_Query rfl (xs10, ms10, hq24, aq24, (_, _, _), (_, _, _), (_, _, _), (_, _, _)) (show (1 ≤ xs10.length ∧ xs10.length ≤ 4) ∧ (ms10.length ≤ 5 ∧ ∀ m ∈ ms10, m.2.1.length ≤ 4) ∧ sQ hq24 aq24 from by first | exact ⟨o10.1, o10.2.1, o24.1⟩ | exact ⟨o10.1, o10.2.1, o10.2.2.small⟩) rfl (J := _) (.refl _) (.inl rfl)
  ·refine Ey rfl ((t8 rfl rfl).yd) (Eu (o0 rfl (i7 (Et (Eq_ (D.region (fun j => !(Nat.beq j 5)) mixed (Dyp 0 rfl (i8 rfl) (Dyp 1 rfl (i8 rfl) (Dy 2 rfl (o6 (cs := [_, _]) ty_Query rfl (Has.pt (mS m0)) rfl) (Dyp 3 rfl (C2 rfl) (Dyp 4 rfl (C2 rfl) (B1 (t6 5 rfl rfl kr (fun h => by cases h) (Ns [_, _] ty_Query rfl) (fun _ _ => (r9 kr (Et (E.ret (B1 (B1 (B1 (B1 (w6 (j9 (j9 (j9 (j9 ?_))))))))))))))))))))))))))
   exact a6d br rfl rfl rfl rfl (mS (mS (mS (mS (mS m0))))) ty_Query rfl (xs10, ms10, hq10, aq10, (_, _, _), (_, _, _), (_, _, _), (_, _, _)) (show (1 ≤ xs10.length ∧ xs10.length ≤ 4) ∧ (ms10.length ≤ 5 ∧ ∀ m ∈ ms10, m.2.1.length ≤ 4) ∧ sQ hq10 aq10 from by first | exact ⟨o10.1, o10.2.1, o24.1⟩ | exact ⟨o10.1, o10.2.1, o10.2.2.small⟩) rfl (J := _) (.refl _) (.inl rfl)
 ·refine Em rfl (Es rfl (Es rfl (Ey rfl ((t7 rfl rfl).yd) (Eu (o0 rfl (i7 (Et (Eq_ (D.region (fun j => !(Nat.beq j 5)) mixed (Dyp 0 rfl (i8 rfl) (Dyp 1 rfl (i8 rfl) (Dy 2 rfl (o6 (cs := [_, _]) ty_Query rfl (Has.pt m0) rfl) (Dyp 3 rfl (C2 rfl) (Dyp 4 rfl (C2 rfl) (B1 (t6 5 rfl rfl kr (fun h => by cases h) (Ns [_, _] ty_Query rfl) (fun _ _ => (r9 kr (Et (E.ret (w6 (w6 (w6 (w6 (B1 (j9 (j9 (j9 (j9 ?_)))))))))))))))))))))))))))))
  exact a6d br rfl rfl rfl rfl (mS (mS (mS (mS (mS m0))))) ty_Query rfl (xs10, ms10, hq10, aq10, (_, _, _), (_, _, _), (_, _, _), (_, _, _)) (show (1 ≤ xs10.length ∧ xs10.length ≤ 4) ∧ (ms10.length ≤ 5 ∧ ∀ m ∈ ms10, m.2.1.length ≤ 4) ∧ sQ hq10 aq10 from by first | exact ⟨o10.1, o10.2.1, o24.1⟩ | exact ⟨o10.1, o10.2.1, o10.2.2.small⟩) rfl (J := _) (.refl _) (.inl rfl)
theorem a9h {bs : List UInt8} : Tr Tryz.prog 258 [.pointer (some ⟨b_c, 0, none⟩)] (fun w L => Ro w L Y6 [.slice a_b m_b c_b] bs) [cur b_c a_b m_b c_b] (κ := (List Int) × (List (Int × List Int × Int × Int × Int)) × (List (Int × Int × List Int)) × (List Int) × (List (Int × List Int)) × (Option Addr × Nat × Nat) × (Option Addr × Nat × Nat) × (Option Addr × Nat × Nat) × (Option Addr × Nat × Nat) × Option Addr × Nat × Nat) (fun k => (1 ≤ k.1.length ∧ k.1.length ≤ 4) ∧ (k.2.1.length ≤ 5 ∧ ∀ m ∈ k.2.1, m.2.1.length ≤ 4) ∧ (k.2.2.1.length ≤ 4 ∧ ∀ r ∈ k.2.2.1, r.2.2.length ≤ 4) ∧ sQ k.2.2.2.1 k.2.2.2.2.1) (fun k => .tuple #[.slice k.2.2.2.2.2.1.1 k.2.2.2.2.2.1.2.1 k.2.2.2.2.2.1.2.2, .slice k.2.2.2.2.2.2.1.1 k.2.2.2.2.2.2.1.2.1 k.2.2.2.2.2.2.1.2.2, .slice k.2.2.2.2.2.2.2.1.1 k.2.2.2.2.2.2.2.1.2.1 k.2.2.2.2.2.2.2.1.2.2, .agg #[.slice k.2.2.2.2.2.2.2.2.1.1 k.2.2.2.2.2.2.2.2.1.2.1 k.2.2.2.2.2.2.2.2.1.2.2, .slice k.2.2.2.2.2.2.2.2.2.1 k.2.2.2.2.2.2.2.2.2.2.1 k.2.2.2.2.2.2.2.2.2.2.2]]) (fun k => [ow eIs [.slice k.2.2.2.2.2.1.1 k.2.2.2.2.2.1.2.1 k.2.2.2.2.2.1.2.2] k.1, ow F5 [.slice k.2.2.2.2.2.2.1.1 k.2.2.2.2.2.2.1.2.1 k.2.2.2.2.2.2.1.2.2] k.2.1, ow J9 [.slice k.2.2.2.2.2.2.2.1.1 k.2.2.2.2.2.2.2.1.2.1 k.2.2.2.2.2.2.2.1.2.2] k.2.2.1, ow eIs [.slice k.2.2.2.2.2.2.2.2.1.1 k.2.2.2.2.2.2.2.2.1.2.1 k.2.2.2.2.2.2.2.2.1.2.2] k.2.2.2.1, ow Z0 [.slice k.2.2.2.2.2.2.2.2.2.1 k.2.2.2.2.2.2.2.2.2.2.1 k.2.2.2.2.2.2.2.2.2.2.2] k.2.2.2.2.1, cur b_c a_b m_b c_b]) := by
 refine Tr.intro Tryz.func258 rfl (n := 34) rfl (by decide +kernel) bl (fr := [(0, .pointer (some ⟨b_c, 0, none⟩))]) rfl fun w L hR => ?_
 have hbs := hR
 obtain ⟨rfl, lb⟩ := hbs.slen
 refine Ew Z4 (Ei rfl (Ei rfl (Ei rfl (Est rfl (N.alloc ty_Query dc) (fun b5 _ => (Ev Z10 (Em rfl (d9 (Est rfl (N.call (pre := [_]) a9x rfl rfl rfl dc rfl (fun w Lp hA => hA.ro hbs)) (fun k12 o12 => ?_))))))))))
 obtain ⟨xs12, ms12, hq12, aq12, ⟨a12_0, m12_0, c12_0⟩, ⟨a12_1, m12_1, c12_1⟩, ⟨a12_2, m12_2, c12_2⟩, ⟨a12_3, m12_3, c12_3⟩⟩ := k12
 replace o12 : (1 ≤ xs12.length ∧ xs12.length ≤ 4) ∧ (ms12.length ≤ 5 ∧ ∀ m ∈ ms12, m.2.1.length ≤ 4) ∧ sQ hq12 aq12 := o12
 try (conv => arg 4; dsimp only)
 try (conv => arg 5; dsimp only [List.cons_append, List.nil_append, List.append_nil])
 refine d7 m0 fun e12_0 l12_0 => ?_
 subst e12_0
 refine d7 (mS m0) fun e12_1 l12_1 => ?_
 subst e12_1
 refine d7 (mS (mS m0)) fun e12_2 l12_2 => ?_
 subst e12_2
 refine d7 (mS (mS (mS m0))) fun e12_3 l12_3 => ?_
 subst e12_3
 refine Em rfl (Ey rfl ((Y.ext rfl rfl).yd) (Ey rfl ((Y.ext rfl rfl).yd) (Ey rfl ((Y.ext rfl rfl).yd) (Est rfl (N.alloc ty_Query dc) (fun b8 _ => (Ei rfl (Ei rfl (Est rfl (Ns [_, _] ty_Query rfl) (fun _ _ => (Ev Z2 (Est rfl (Nb [] [] us_Rules ty_Rule rfl rfl) (fun b16 _ => (Ent.drop (Ei rfl (Eu (Eq_ (Ew Z2 (Em rfl (Est rfl (l0 M9 rfl rfl rfl dc (fun w Lp hA => hA.ow (mS m0))) (fun _ _ => (Ent.b (fun q18 => ?_) (fun q18 => ?_))))))))))))))))))))))
 ·refine Eu (n8 rfl (Ez Z4 (Em rfl (Em rfl (w6 (Est rfl (N.call (pre := [_]) (a4B (a0s q18).1 (a0s q18).2.2 (a0s q18).2.1) rfl rfl rfl dc rfl (fun w Lp hA => ⟨hA.ow (mS m0), hA.ro hbs⟩)) (fun k21 o21 => ?_)))))))
  obtain ⟨rl21, ⟨a21, m21, c21⟩⟩ := k21
  replace o21 : rl21.length ≤ 3 ∧ ∀ r ∈ rl21, (0 ≤ r.1 ∧ r.1 ≤ 3) ∧ (0 ≤ r.2.1 ∧ r.2.1 ≤ 3) ∧ r.2.2.length ≤ 3 := o21
  try (conv => arg 4; dsimp only)
  try (conv => arg 5; dsimp only [List.cons_append, List.nil_append, List.append_nil])
  refine d7 m0 fun e21 l21 => ?_
  subst e21
  refine Ei rfl (Eu (Eq_ (Ew Z2 (Em rfl (d9 (Est rfl (N.call (pre := [_]) P4 rfl rfl rfl dc rfl (fun w Lp hA => hA.ro hbs)) (fun o23 o23 => ?_)))))))
  replace o23 : True := o23
  try (conv => arg 5; dsimp only [List.cons_append, List.nil_append, List.append_nil])
  refine Ent.b (fun q23 => ?_) (fun q23 => ?_)
  ·refine Eu (n8 rfl (Ez Z7 (Em rfl (Em rfl (Em rfl (Est rfl (N.call (pre := [_]) a3L rfl rfl rfl dc rfl (fun w Lp hA => ⟨hA.ow (mS (mS m0)), hA.ro hbs⟩)) (fun k27 o27 => ?_)))))))
   obtain ⟨rf27, rt27, rm27, ⟨a27, m27, c27⟩⟩ := k27
   replace o27 : (-10 ≤ rf27 ∧ rf27 ≤ 10) ∧ (-10 ≤ rt27 ∧ rt27 ≤ 10) ∧ rm27.length ≤ 4 := o27
   try (conv => arg 4; dsimp only)
   try (conv => arg 5; dsimp only [List.cons_append, List.nil_append, List.append_nil])
   refine d7 m0 fun e27 l27 => ?_
   subst e27
   refine Est rfl (Nb [_] [_, _, _] us_Rules ty_Rule rfl rfl) (fun b28 _ => (d9 (d9 (o4 (Est rfl (C7 (E := a1N) (ex := (rf27, rt27, rm27)) us_Rules ty_Rule rfl rfl rfl (a6g (x := (rf27, rt27, rm27)) i6 i6 Own.ow) rfl bn bn dc) (fun p29 _ => (Ei rfl (Eu (Eq_ (D.region (fun j => !(Nat.beq j 7)) mixed (Dyp 0 rfl (i8 rfl) (Dyp 1 rfl (i8 rfl) (Dyp 2 rfl (i8 rfl) (Dy 3 rfl (o6 (cs := [_, _]) ty_Query rfl (Has.pt (mS (mS m0))) rfl) (Dyp 4 rfl (C2 rfl) (Dyp 5 rfl (C2 rfl) (Dyp 6 rfl (C2 rfl) (w8 (t6 7 rfl rfl kr (fun h => by cases h) (Ns [_, _] ty_Query rfl) (fun _ _ => (r9 kr (Et (E.ret (w8 (w8 (o4 (w8 (w8 (B1 (w6 (w6 (w6 (w6 (w6 ?_))))))))))))))))))))))))))))))))))
   exact a9d br rfl rfl rfl rfl rfl (mS (mS (mS (mS (mS (mS m0)))))) ty_Query rfl (xs12, ms12, rl21 ++ [(rf27, rt27, rm27)], hq12, aq12, (_, _, _), (_, _, _), (_, _, _), (_, _, _), (_, _, _)) (show (1 ≤ xs12.length ∧ xs12.length ≤ 4) ∧ (ms12.length ≤ 5 ∧ ∀ m ∈ ms12, m.2.1.length ≤ 4) ∧ ((rl21 ++ [(rf27, rt27, rm27)]).length ≤ 4 ∧ ∀ r ∈ (rl21 ++ [(rf27, rt27, rm27)]), r.2.2.length ≤ 4) ∧ sQ hq12 aq12 from by first | exact ⟨o12.1, o12.2.1, a8N o21 o27.2.2, o12.2.2⟩ | exact ⟨o12.1, o12.2.1, b0I o21, o12.2.2⟩ | exact ⟨o12.1, o12.2.1, ⟨by simp, fun r hr => by simp at hr; rw [hr]; exact o27.2.2⟩, o12.2.2⟩ | exact ⟨o12.1, o12.2.1, ⟨by simp, fun r hr => by simp at hr⟩, o12.2.2⟩) rfl (J := _) (.refl _) (.inl rfl)
  ·refine Eu (o0 rfl (i7 (Et (Eq_ (D.region (fun j => !(Nat.beq j 7)) mixed (Dyp 0 rfl (i8 rfl) (Dyp 1 rfl (i8 rfl) (Dyp 2 rfl (i8 rfl) (Dy 3 rfl (o6 (cs := [_, _]) ty_Query rfl (Has.pt (mS (mS m0))) rfl) (Dyp 4 rfl (C2 rfl) (Dyp 5 rfl (C2 rfl) (Dyp 6 rfl (C2 rfl) (w8 (t6 7 rfl rfl kr (fun h => by cases h) (Ns [_, _] ty_Query rfl) (fun _ _ => (r9 kr (Et (E.ret (w8 (w8 (j9 (w8 (w8 (B1 (w6 (w6 (w6 (w6 (w6 ?_)))))))))))))))))))))))))))))
   exact a9d br rfl rfl rfl rfl rfl (mS (mS (mS (mS (mS (mS m0)))))) ty_Query rfl (xs12, ms12, rl21, hq12, aq12, (_, _, _), (_, _, _), (_, _, _), (_, _, _), (_, _, _)) (show (1 ≤ xs12.length ∧ xs12.length ≤ 4) ∧ (ms12.length ≤ 5 ∧ ∀ m ∈ ms12, m.2.1.length ≤ 4) ∧ (rl21.length ≤ 4 ∧ ∀ r ∈ rl21, r.2.2.length ≤ 4) ∧ sQ hq12 aq12 from by first | exact ⟨o12.1, o12.2.1, a8N o21 o27.2.2, o12.2.2⟩ | exact ⟨o12.1, o12.2.1, b0I o21, o12.2.2⟩ | exact ⟨o12.1, o12.2.1, ⟨by simp, fun r hr => by simp at hr; rw [hr]; exact o27.2.2⟩, o12.2.2⟩ | exact ⟨o12.1, o12.2.1, ⟨by simp, fun r hr => by simp at hr⟩, o12.2.2⟩) rfl (J := _) (.refl _) (.inl rfl)
 ·refine Eu (o0 rfl (i7 (Et (Eq_ (Ew Z2 (Em rfl (w6 (Est rfl (N.call (pre := [_]) P4 rfl rfl rfl dc rfl (fun w Lp hA => hA.ro hbs)) (fun o23 o23 => ?_)))))))))
  replace o23 : True := o23
  try (conv => arg 5; dsimp only [List.cons_append, List.nil_append, List.append_nil])
  refine Ent.b (fun q23 => ?_) (fun q23 => ?_)
  ·refine Eu (n8 rfl (Ez Z7 (Em rfl (Em rfl (Em rfl (Est rfl (N.call (pre := [_]) a3L rfl rfl rfl dc rfl (fun w Lp hA => ⟨hA.ow (mS m0), hA.ro hbs⟩)) (fun k27 o27 => ?_)))))))
   obtain ⟨rf27, rt27, rm27, ⟨a27, m27, c27⟩⟩ := k27
   replace o27 : (-10 ≤ rf27 ∧ rf27 ≤ 10) ∧ (-10 ≤ rt27 ∧ rt27 ≤ 10) ∧ rm27.length ≤ 4 := o27
   try (conv => arg 4; dsimp only)
   try (conv => arg 5; dsimp only [List.cons_append, List.nil_append, List.append_nil])
   refine d7 m0 fun e27 l27 => ?_
   subst e27
   refine Est rfl (Nb [_] [_, _, _] us_Rules ty_Rule rfl rfl) (fun b28 _ => (u9 (A := []) (Own.nil (E := a1N) (e := tRule) (a := (some ⟨b16, 0, none⟩))) rfl (j8 (j8 (j8 (Est rfl (C7 (E := a1N) (ex := (rf27, rt27, rm27)) us_Rules ty_Rule rfl rfl rfl (a6g (x := (rf27, rt27, rm27)) i6 i6 Own.ow) rfl bn bn dc) (fun p29 _ => (Ei rfl (Eu (Eq_ (D.region (fun j => !(Nat.beq j 7)) mixed (Dyp 0 rfl (i8 rfl) (Dyp 1 rfl (i8 rfl) (Dyp 2 rfl (i8 rfl) (Dy 3 rfl (o6 (cs := [_, _]) ty_Query rfl (Has.pt (mS (mS m0))) rfl) (Dyp 4 rfl (C2 rfl) (Dyp 5 rfl (C2 rfl) (Dyp 6 rfl (C2 rfl) (w8 (t6 7 rfl rfl kr (fun h => by cases h) (Ns [_, _] ty_Query rfl) (fun _ _ => (r9 kr (Et (E.ret (w8 (w8 (o4 (w8 (w8 (B1 (w6 (w6 (w6 (w6 (w6 ?_)))))))))))))))))))))))))))))))))))
   exact a9d br rfl rfl rfl rfl rfl (mS (mS (mS (mS (mS (mS m0)))))) ty_Query rfl (xs12, ms12, [] ++ [(rf27, rt27, rm27)], hq12, aq12, (_, _, _), (_, _, _), (_, _, _), (_, _, _), (_, _, _)) (show (1 ≤ xs12.length ∧ xs12.length ≤ 4) ∧ (ms12.length ≤ 5 ∧ ∀ m ∈ ms12, m.2.1.length ≤ 4) ∧ (([] ++ [(rf27, rt27, rm27)] : List (Int × Int × List Int)).length ≤ 4 ∧ ∀ r ∈ ([] ++ [(rf27, rt27, rm27)] : List (Int × Int × List Int)), r.2.2.length ≤ 4) ∧ sQ hq12 aq12 from by first | exact ⟨o12.1, o12.2.1, a8N o21 o27.2.2, o12.2.2⟩ | exact ⟨o12.1, o12.2.1, b0I o21, o12.2.2⟩ | exact ⟨o12.1, o12.2.1, ⟨by simp, fun r hr => by simp at hr; rw [hr]; exact o27.2.2⟩, o12.2.2⟩ | exact ⟨o12.1, o12.2.1, ⟨by simp, fun r hr => by simp at hr⟩, o12.2.2⟩) rfl (J := _) (.refl _) (.inl rfl)
  ·refine Eu (o0 rfl (i7 (Et (Eq_ (D.region (fun j => !(Nat.beq j 7)) mixed (Dyp 0 rfl (i8 rfl) (Dyp 1 rfl (i8 rfl) (Dyp 2 rfl (i8 rfl) (Dy 3 rfl (o6 (cs := [_, _]) ty_Query rfl (Has.pt (mS m0)) rfl) (Dyp 4 rfl (C2 rfl) (Dyp 5 rfl (C2 rfl) (Dyp 6 rfl (C2 rfl) (B1 (t6 7 rfl rfl kr (fun h => by cases h) (Ns [_, _] ty_Query rfl) (fun _ _ => (r9 kr (Et (E.ret (B1 (B1 (u9 (A := []) (Own.nil (E := a1N) (e := tRule) (a := (some ⟨b16, 0, none⟩))) rfl (w8 (w8 (B1 (w6 (w6 (w6 (w6 (w6 ?_)))))))))))))))))))))))))))))
   exact a9d br rfl rfl rfl rfl rfl (mS (mS (mS (mS (mS (mS m0)))))) ty_Query rfl (xs12, ms12, [], hq12, aq12, (_, _, _), (_, _, _), ((some ⟨b16, 0, none⟩), 0, 0), (_, _, _), (_, _, _)) (show (1 ≤ xs12.length ∧ xs12.length ≤ 4) ∧ (ms12.length ≤ 5 ∧ ∀ m ∈ ms12, m.2.1.length ≤ 4) ∧ (([] : List (Int × Int × List Int)).length ≤ 4 ∧ ∀ r ∈ ([] : List (Int × Int × List Int)), r.2.2.length ≤ 4) ∧ sQ hq12 aq12 from by first | exact ⟨o12.1, o12.2.1, a8N o21 o27.2.2, o12.2.2⟩ | exact ⟨o12.1, o12.2.1, b0I o21, o12.2.2⟩ | exact ⟨o12.1, o12.2.1, ⟨by simp, fun r hr => by simp at hr; rw [hr]; exact o27.2.2⟩, o12.2.2⟩ | exact ⟨o12.1, o12.2.1, ⟨by simp, fun r hr => by simp at hr⟩, o12.2.2⟩) rfl (J := _) (.refl _) (.inl rfl)
end Go.Proofs.YthapcdhdfaibkaaGreatDoor
end
