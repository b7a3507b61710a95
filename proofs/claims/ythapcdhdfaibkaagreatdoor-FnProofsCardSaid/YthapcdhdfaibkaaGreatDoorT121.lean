import Derived.Test.YthapcdhdfaibkaaGreatDoorT120
import Derived.Test.YthapcdhdfaibkaaGreatDoorT30
import Derived.Test.YthapcdhdfaibkaaGreatDoorEe
section
namespace Go.Proofs.YthapcdhdfaibkaaGreatDoor
open Go.RowKit
set_option linter.unusedVariables false
section
variable {α : Type} {E : Enc α} {n : Nat} {w0 : World} {L0 : List Nat} {fr : Fr} {R : List HP} {G : Act → World → Prop} {e : TypeId} {a : Option Addr} {m c : Nat} {xs : List α} {x : α}
def b7P (k m c : Nat) (tl cx : List Value) : Prop := m ≤ c ∧ c ≤ maxLen ∧ tl.length + k = c * k ∧ cx.length + k = m * k ∧ tl.take cx.length = cx
theorem b0s (hx : 0 < xs.length) (h : ∀ b ce tl cx, a = some ⟨b, 0, none⟩ ∧ m = xs.length ∧ b7P E.k m c tl cx → Ent n w0 L0 fr (pt b e (ce ++ tl) :: ow E ce (xs[0]'hx) :: els E cx (xs.drop 1) :: R) G) : Ent n w0 L0 fr (ow (Enc.sl e E) [.slice a m c] xs :: R) G := fun ac w h1 h2 => by
  obtain ⟨L, ⟨Lo, LR, rfl, ho, hR⟩, hn, hst⟩ := h2
  obtain ⟨ccs, L1, L2, rfl, g1, g2, g3, h0, g4⟩ := a1L ho
  match xs, hx, g1, g3, h with
  | x :: xs, hx, g1, g3, h =>
    obtain ⟨c1, c2, La, Lb, rfl, rfl, k1, k2⟩ := g3
    have e1 := E.len k1
    have e2 := k2.len
    rcases g4 with ⟨_, h3, _⟩ | ⟨g, cur, h2, h3, h4, h5, h6, h7, rfl⟩
    · simp at g1; omega
    · have e3 : cur.toList = c1 ++ cur.toList.drop E.k := by
        have h8 := congrArg (List.take E.k) h7
        rw [List.take_take, List.take_append_of_le_length (by omega), ← e1, List.take_length, e1, Nat.min_eq_left (by rw [g1]; simp only [List.length_cons, Nat.succ_mul]; omega)] at h8
        rw [← h8, List.take_append_drop]
      have hl : cur.toList.length = c * E.k := by simpa using h6
      refine h g c1 (cur.toList.drop E.k) c2 ⟨h2, g1, h4, h5, ?_, ?_, ?_⟩ ac w h1 ⟨[g] ++ (La ++ (Lb ++ LR)), ⟨[g], La ++ (Lb ++ LR), rfl, ⟨rfl, ?_⟩, La, Lb ++ LR, rfl, k1, Lb, LR, rfl, ?_, hR⟩, ?_, ?_⟩
      · have := congrArg List.length e3
        rw [List.length_append, hl] at this
        omega
      · rw [e2, g1, List.length_cons, Nat.succ_mul]
      · have h8 := h7
        rw [e3, ← e1, List.take_append, e1] at h8
        have h9 := (List.append_inj' h8 (by
          rw [List.length_take]
          have h10 : (cur.toList.drop E.k).length = c * E.k - E.k := by rw [List.length_drop, hl]
          have h11 : m * E.k = xs.length * E.k + E.k := by rw [g1, List.length_cons, Nat.succ_mul]
          have h12 : m * E.k ≤ c * E.k := Nat.mul_le_mul_right _ h4
          rw [h10, e2]; omega)).2
        rw [e2]
        have h11 : m * E.k - E.k = xs.length * E.k := by rw [g1, List.length_cons, Nat.succ_mul]; omega
        rwa [h11] at h9
      · rw [← e3]; exact h3
      · exact k2
      · simpa [List.append_assoc] using hn
      · simpa [List.append_assoc] using hst
theorem a1q {b : Nat} {ce tl cx : List Value} (hx : 0 < xs.length) (hk : a = some ⟨b, 0, none⟩ ∧ m = xs.length ∧ b7P E.k m c tl cx) (h : Ent n w0 L0 fr (ow (Enc.sl e E) [.slice a m c] (xs.set 0 x) :: R) G) :
    Ent n w0 L0 fr (pt b e (ce ++ tl) :: ow E ce x :: els E cx (xs.drop 1) :: R) G := fun ac w h1 h2 => by
  obtain ⟨L, ⟨L1, L2, rfl, ⟨rfl, p1⟩, La, L3, rfl, k1, Lb, LR, rfl, k2, hR⟩, hn, hst⟩ := h2
  obtain ⟨rfl, rfl, z1, z2, z3, z4, z5⟩ := hk
  match xs, hx, z1, z4, k2, h with
  | y :: xs, hx, z1, z4, k2, h =>
    have e1 := E.len k1
    have k2' : C0 E w cx xs Lb true := k2
    have e2 := k2'.len
    refine h ac w h1 ⟨([b] ++ (La ++ Lb)) ++ LR, ⟨[b] ++ (La ++ Lb), LR, rfl, ?_, hR⟩, by simpa [List.append_assoc] using hn, by simpa [List.append_assoc] using hst⟩
    refine ⟨_, _, c, ce ++ cx, [b], La ++ Lb, rfl, by simp, by simp only [List.length_cons] at z1 ⊢; omega, rfl, ⟨ce, cx, La, Lb, rfl, rfl, k1, k2'⟩, ?_⟩
    show (row _ _ _ _ _ _).holds _ _
    refine ⟨by rw [List.length_append, e1]; omega, .inr ⟨b, (ce ++ tl).toArray, rfl, p1, z1, z2, by simp; omega, ?_, rfl⟩⟩
    have h8 : (y :: xs).length * E.k = ce.length + cx.length := by omega
    rw [List.toList_toArray, h8, List.take_append, List.take_of_length_le (by omega), Nat.add_sub_cancel_left, z5]
end
end Go.Proofs.YthapcdhdfaibkaaGreatDoor
end
section
namespace Go.Proofs.YthapcdhdfaibkaaGreatDoor
open Go.RowKit
set_option linter.unusedVariables false
section
variable {α β : Type} {E : Enc α} {E2 : Enc β} {e2 : TypeId} {n : Nat} {w0 : World} {L0 : List Nat} {fr : Fr} {R : List HP} {G : Act → World → Prop} {e : TypeId} {a : Option Addr} {m c : Nat} {xs : List α} {ys : List (List β)} {cs cx : List Value}
end
end Go.Proofs.YthapcdhdfaibkaaGreatDoor
end
section
namespace Go.Proofs.YthapcdhdfaibkaaGreatDoor
open Go.RowKit
set_option linter.all false
set_option maxHeartbeats 2000000
attribute [local irreducible] Nop Yd Yp Ent Has Tr FnP FnP2 Src o2 c8 N0 a0b E6
variable {s : List Int} {b_c m_s c_s m_b c_b : Nat} {a_s a_b : Option Addr}
theorem a3n {bs : List UInt8} (h1 : 1 ≤ s.length) (hsz : ∀ z ∈ s, 1 ≤ z ∧ z ≤ 3) : Tr Tryz.prog 184 [.pointer (some ⟨b_c, 0, none⟩), .slice a_s m_s c_s] (fun w L => Ro w L eIs [.slice a_s m_s c_s] s ∧ Ro w L Y6 [.slice a_b m_b c_b] bs) [cur b_c a_b m_b c_b] (κ := (List Int) × (List (Int × List Int)) × (Option Addr × Nat × Nat) × Option Addr × Nat × Nat) (fun k => dQ kT 3 2 k.1 k.2.1) (fun k => .agg #[.slice k.2.2.1.1 k.2.2.1.2.1 k.2.2.1.2.2, .slice k.2.2.2.1 k.2.2.2.2.1 k.2.2.2.2.2]) (fun k => [ow eIs [.slice k.2.2.1.1 k.2.2.1.2.1 k.2.2.1.2.2] k.1, ow Z0 [.slice k.2.2.2.1 k.2.2.2.2.1 k.2.2.2.2.2] k.2.1, cur b_c a_b m_b c_b]) := by
 refine Tr.intro Tryz.func184 rfl (n := 79) rfl (by decide +kernel) bl (fr := [(0, .pointer (some ⟨b_c, 0, none⟩)), (1, .slice a_s m_s c_s)]) rfl fun w L hR => ?_
 obtain ⟨hs, hbs⟩ := hR
 obtain ⟨rfl, ls⟩ := hs.slen
 obtain ⟨rfl, lb⟩ := hbs.slen
 refine Ew Z1 (Est rfl (N.alloc ty_Query dc) (fun b4 _ => (Ev Z3 (Ey rfl ((I2 (pvs := []) (cs := [_, _]) ty_Query b1P rfl rfl).yd) (Est rfl (N.alloc ty_Query dc) (fun b5 _ => (Est rfl (Ns [_, _] ty_Query rfl) (fun _ _ => (Eu (Eq_ (Ew Z4 (Em rfl (j8 (Est rfl (N.call (pre := [_]) y7 rfl rfl rfl dc rfl (fun w Lp hA => hA.ro hbs)) (fun x14 o14 => ?_)))))))))))))))
 replace o14 : 0 ≤ x14 ∧ ((3 : Int) ≤ 0 → x14 = 0) ∧ (0 < (3 : Int) → x14 < (3 : Int)) := o14
 try (conv => arg 5; dsimp only [List.cons_append, List.nil_append, List.append_nil])
 refine Ey rfl ((Y.add rfl rfl om om).yd) (Ei rfl (Eu (E.block (u9 (A := []) (Own.nil (E := a3X) (e := tAtom) (a := none)) rfl (E.loop (κ := Nat × (List (Int × List Int)) × Option Addr × Nat × Nat) (fun g => g.1 ≤ (1 + x14).toNat ∧ g.2.1.length = g.1 ∧ ∀ a ∈ g.2.1, dA kT a) (fun g => [(0, .pointer (some ⟨b_c, 0, none⟩)), (1, .slice a_s s.length c_s), (4, .pointer (some ⟨b4, 0, none⟩)), (5, .pointer (some ⟨b5, 0, none⟩)), (6, .int .i64 (1 + x14 - (↑g.1 : Int)))]) (fun g => [ow Z0 [.slice g.2.2.1 g.2.2.2.1 g.2.2.2.2] g.2.1, cur b_c a_b bs.length c_b, pt b5 28 [.slice none 0 0, .slice g.2.2.1 g.2.2.2.1 g.2.2.2.2], pt b4 28 [.slice none 0 0, .slice none 0 0]]) (fun g => (1 + x14).toNat - g.1) (0, [], none, 0, 0) ⟨Nat.zero_le _, by simp⟩ ⟨rfl, rfl, rfl, rfl, frI om, trivial⟩ (.refl _) (fun g pg => ?_))))))
 obtain ⟨g, ats, aA0_1, mA0_1, cA0_1⟩ := g
 try dsimp only at pg
 try dsimp only
 obtain ⟨pk, pa⟩ := pg
 have pa0 := pa
 refine d7 m0 fun eaA0_1 laA0_1 => ?_
 subst eaA0_1
 refine Eq_ (Ew Z2 (Em rfl (Ey rfl ((Y.gtr rfl rfl).yd) (o3 (fun q17 => ?_) (fun q17 => ?_)))))
 ·refine Eu (n8 rfl (i7 (Et (Eq_ (E.block (Ew Z7 (Em rfl (Em rfl (Ey rfl ((Y.len us_Is rfl).yd) (d9 (Est rfl (N.call (pre := [_]) y7 rfl rfl rfl dc rfl (fun w Lp hA => hA.ro hbs)) (fun x23 o23 => ?_))))))))))))
  replace o23 : 0 ≤ x23 ∧ ((↑s.length : Int) ≤ 0 → x23 = 0) ∧ (0 < (↑s.length : Int) → x23 < (↑s.length : Int)) := o23
  try (conv => arg 5; dsimp only [List.cons_append, List.nil_append, List.append_nil])
  have jx : x23.toNat < s.length := by omega
  have jz := hsz _ (List.getElem_mem jx)
  refine Ey rfl ((I2 (pvs := [_]) (cs := [_, _]) ty_Atom a9D rfl rfl).yd) (Est rfl (N.alloc ty_Atom dc) (fun b7 _ => (Est rfl (Ns [_, _] ty_Atom rfl) (fun _ _ => (Eu (Eq_ (Ew Z1 (Ei rfl (Eu (E.block (u9 (A := []) (Own.nil (E := Enc.int) (e := tI) (a := none)) rfl (E.loop (κ := Nat × (List Int) × Option Addr × Nat × Nat) (fun h => h.1 ≤ s[x23.toNat].toNat ∧ h.2.1.length = h.1 ∧ ∀ t ∈ h.2.1, kT t) (fun h => [(0, .pointer (some ⟨b_c, 0, none⟩)), (1, .slice a_s s.length c_s), (4, .pointer (some ⟨b4, 0, none⟩)), (5, .pointer (some ⟨b5, 0, none⟩)), (6, .int .i64 (1 + x14 - (g : Int))), (7, .pointer (some ⟨b7, 0, none⟩)), (8, .int .i64 (↑h.1 : Int))]) (fun h => [ow eIs [.slice h.2.2.1 h.2.2.2.1 h.2.2.2.2] h.2.1, pt b7 111 [.int .i64 x23, .slice h.2.2.1 h.2.2.2.1 h.2.2.2.2], cur b_c a_b bs.length c_b, ow Z0 [.slice aA0_1 (ats).length cA0_1] ats, pt b5 28 [.slice none 0 0, .slice aA0_1 (ats).length cA0_1], pt b4 28 [.slice none 0 0, .slice none 0 0]]) (fun h => s[x23.toNat].toNat - h.1) (0, [], none, 0, 0) ⟨Nat.zero_le _, by simp⟩ ⟨rfl, rfl, rfl, rfl, rfl, rfl, rfl, trivial⟩ (.refl _) (fun h ph => ?_)))))))))))))
  obtain ⟨h, tms, aA1_0, mA1_0, cA1_0⟩ := h
  try dsimp only at ph
  try dsimp only
  obtain ⟨pk, pa⟩ := ph
  refine d7 m0 fun eaA1_0 laA1_0 => ?_
  subst eaA1_0
  refine Eq_ (Ew Z7 (Em rfl (Em rfl (Ey rfl ((f5 fo_Atom_0 f9 dc rfl).yd) (Ey rfl (g9 f9 rfl (Hz (mS m0) 0 rfl) rfl) ?_)))))
  obtain ⟨eb29, eo29, ea29, ei29, eh29⟩ := hs.elemI x23.toNat om
  refine Ey rfl ((v8 us_Is f9 rfl ea29 rfl x23.toNat om om).yd) (Ey rfl (g9 f9 rfl (eh29 _) rfl) (Ey rfl ((Y.lss rfl rfl).yd) (o3 (fun q31 => ?_) (fun q31 => ?_))))
  ·refine Eu (n8 rfl (i7 (Et (Eq_ (E.block (Ew Z4 (Em rfl (j8 (Est rfl (N.call (pre := [_]) y7 rfl rfl rfl dc rfl (fun w Lp hA => hA.ro hbs)) (fun x35 o35 => ?_))))))))))
   replace o35 : 0 ≤ x35 ∧ ((4 : Int) ≤ 0 → x35 = 0) ∧ (0 < (4 : Int) → x35 < (4 : Int)) := o35
   try (conv => arg 5; dsimp only [List.cons_append, List.nil_append, List.append_nil])
   refine Ey rfl ((Y.add rfl rfl om om).yd) (Ei rfl (Eu (Eq_ (Ew Z2 (Em rfl (Est rfl (N.call (pre := [_]) P4 rfl rfl rfl dc rfl (fun w Lp hA => hA.ro hbs)) (fun o38 o38 => ?_)))))))
   replace o38 : True := o38
   try (conv => arg 5; dsimp only [List.cons_append, List.nil_append, List.append_nil])
   refine Ent.b (fun q38 => ?_) (fun q38 => ?_)
   ·refine Eu (n8 rfl (Ez Z3 (Em rfl (Est rfl (N.call (pre := [_]) y7 rfl rfl rfl dc rfl (fun w Lp hA => hA.ro hbs)) (fun x40 o40 => ?_)))))
    replace o40 : 0 ≤ x40 ∧ ((4 : Int) ≤ 0 → x40 = 0) ∧ (0 < (4 : Int) → x40 < (4 : Int)) := o40
    try (conv => arg 5; dsimp only [List.cons_append, List.nil_append, List.append_nil])
    refine Ei rfl (Eu (Ez Z7 (Ey rfl ((f5 fo_Atom_1 ty_Is dc rfl).yd) (Ey rfl (g9 ty_Is rfl (Hz (mS (mS m0)) 1 rfl) rfl) (Em rfl (Est rfl (Nb [_] [_] us_Is f9 rfl rfl) (fun b44 _ => (j8 (Est rfl (C7 (E := Enc.int) (ex := x40) us_Is f9 rfl rfl rfl (Own.int i6) rfl bn bn dc) (fun p45 _ => (Ey rfl ((f5 fo_Atom_1 ty_Is dc rfl).yd) (j8 (Est rfl (Ns [_, _] ty_Is rfl) (fun _ _ => (En (s9 (Et (Ez Z3 (Em rfl (Ey rfl ((Y.add rfl rfl om om).yd) (Ei rfl (Eu (w6 (w6 (w6 (w6 (j9 (w6 ?_))))))))))))))))))))))))))))
    exact Ea (h + 1, tms ++ [x40], p45.1, ((tms).length + 1), p45.2) ⟨oz, (show (tms ++ [x40]).length = (h + 1) ∧ ∀ t ∈ (tms ++ [x40]), kT t from by exact b0Y pa (by unfold kT; omega))⟩
   ·refine Eu (o0 rfl (i7 (Et (Ez Z7 (Ey rfl ((f5 fo_Atom_1 ty_Is dc rfl).yd) (Ey rfl (g9 ty_Is rfl (Hz (mS (mS m0)) 1 rfl) rfl) (Em rfl (Est rfl (Nb [_] [_] us_Is f9 rfl rfl) (fun b44 _ => (j8 (Est rfl (C7 (E := Enc.int) (ex := (10 + x35)) us_Is f9 rfl rfl rfl (Own.int i6) rfl bn bn dc) (fun p45 _ => (Ey rfl ((f5 fo_Atom_1 ty_Is dc rfl).yd) (j8 (Est rfl (Ns [_, _] ty_Is rfl) (fun _ _ => (En (s9 (Et (Ez Z3 (Em rfl (Ey rfl ((Y.add rfl rfl om om).yd) (Ei rfl (Eu (w6 (w6 (w6 (w6 (j9 (w6 ?_))))))))))))))))))))))))))))))
    exact Ea (h + 1, tms ++ [(10 + x35)], p45.1, ((tms).length + 1), p45.2) ⟨oz, (show (tms ++ [(10 + x35)]).length = (h + 1) ∧ ∀ t ∈ (tms ++ [(10 + x35)]), kT t from by exact b0Y pa (by unfold kT; omega))⟩
  ·refine Eu (o0 rfl (E.exit (q1 (q1 (y4 (Et (Ez Z7 (Ey rfl ((f5 fo_Query_1 ty_Atoms dc rfl).yd) (Ey rfl (g9 ty_Atoms rfl (Hz (mS (mS (mS (mS m0)))) 1 rfl) rfl) (Ey rfl (o6 (cs := [_, _]) ty_Atom rfl (Has.pt (mS m0)) rfl) (Est rfl (Nb [_] [_, _] us_Atoms ty_Atom rfl rfl) (fun b50 _ => (d9 (d9 (j9 (Est rfl (C7 (E := a3X) (ex := (x23, tms)) us_Atoms ty_Atom rfl rfl rfl (V7 (x := (x23, tms)) i6 Own.ow) rfl bn bn dc) (fun p51 _ => (Ey rfl ((f5 fo_Query_1 ty_Atoms dc rfl).yd) (o4 (Est rfl (Ns [_, _] ty_Atoms rfl) (fun _ _ => (En (s9 (Et (Ez Z3 (Em rfl (Ey rfl ((Y.sub rfl rfl om om).yd) (Ei rfl (Eu (j8 (Ent.drop (o4 (d9 (o4 (o4 ?_)))))))))))))))))))))))))))))))))))
   exact x6 br (g + 1, ats ++ [(x23, tms)], p51.1, ((ats).length + 1), p51.2) ⟨rfl, rfl, rfl, rfl, frI om, trivial⟩ (.refl _) ⟨oz, (show (ats ++ [(x23, tms)]).length = (g + 1) ∧ ∀ a ∈ (ats ++ [(x23, tms)]), dA kT a from by exact b6S pa0 om om pa.2)⟩ oz
 ·have pb := pa0
  have jv := b4j (is := fun t => inR t 10 17) (show ats.length ≤ 3 by omega) pa0.2
  refine Eu (o0 rfl (E.exit (q1 (q1 (y4 (Et (Ew Z3 (Ey rfl (o6 (cs := [_, _]) ty_Query rfl (Has.pt (mS (mS m0))) rfl) (Est rfl (N.call (b0z (b6A om pa0.2)) rfl rfl rfl dc rfl (fun w Lp hA => ⟨b1W, hA.ow m0⟩)) (fun k54 _ => ?_))))))))))
  obtain ⟨a54, m54, c54⟩ := k54
  refine d7 m0 fun e54 l54 => ?_
  subst e54
  refine Ei rfl (Eu (Eq_ (Ew Z1 (Ei rfl (Eu (E.block (u9 (A := []) (Own.nil (E := Enc.int) (e := tI) (a := none)) rfl (E.loop (κ := Nat × (List Int) × Option Addr × Nat × Nat) (fun r => r.1 ≤ (G5 (fun t => inR t 10 17) ats).length ∧ r.2.1.length ≤ 2) (fun r => [(0, .pointer (some ⟨b_c, 0, none⟩)), (4, .pointer (some ⟨b4, 0, none⟩)), (5, .pointer (some ⟨b5, 0, none⟩)), (10, .slice a54 (G5 (fun t => inR t 10 17) ats).length c54), (11, .int .i64 (↑r.1 : Int))]) (fun r => [ow eIs [.slice r.2.2.1 r.2.2.2.1 r.2.2.2.2] r.2.1, ow eIs [.slice a54 (G5 (fun t => inR t 10 17) ats).length c54] (G5 (fun t => inR t 10 17) ats), ow Z0 [.slice aA0_1 (ats).length cA0_1] ats, cur b_c a_b bs.length c_b, pt b5 28 [.slice r.2.2.1 r.2.2.2.1 r.2.2.2.2, .slice aA0_1 (ats).length cA0_1], pt b4 28 [.slice none 0 0, .slice none 0 0]]) (fun r => (G5 (fun t => inR t 10 17) ats).length - r.1) (0, [], none, 0, 0) ⟨Nat.zero_le _, by simp⟩ ⟨rfl, rfl, rfl, rfl, rfl, trivial⟩ (.refl _) (fun r pr => ?_)))))))))
  obtain ⟨r, hd, aA2_0, mA2_0, cA2_0⟩ := r
  try dsimp only at pr
  try dsimp only
  obtain ⟨pk, pa⟩ := pr
  refine d7 m0 fun eaA2_0 laA2_0 => ?_
  subst eaA2_0
  refine Eq_ (Ew Z10 (Em rfl (Em rfl (Ey rfl ((Y.len us_Is rfl).yd) (Ey rfl ((Y.lss rfl rfl).yd) (o3 (fun q58 => ?_) (fun q58 => ?_)))))))
  ·refine Em rfl (Ey rfl ((f5 fo_Query_0 ty_Is dc rfl).yd) (Ey rfl (g9 ty_Is rfl (Hz (mS (mS (mS (mS m0)))) 0 rfl) rfl) (Ey rfl ((Y.len us_Is rfl).yd) (Ey rfl ((Y.lss rfl rfl).yd) (o3 (fun q63 => ?_) (fun q63 => ?_))))))
   ·refine Ey rfl ((t8 rfl rfl).yd) (Eu (n8 rfl (i7 (Et (Eq_ (E.block (Ew Z2 (Em rfl (o4 (Est rfl (N.call (pre := [_]) P4 rfl rfl rfl dc rfl (fun w Lp hA => hA.ro hbs)) (fun o68 o68 => ?_)))))))))))
    replace o68 : True := o68
    try (conv => arg 5; dsimp only [List.cons_append, List.nil_append, List.append_nil])
    refine Ent.b (fun q68 => ?_) (fun q68 => ?_)
    ·refine Eu (n8 rfl (D.region (fun j => !(Nat.beq j 7) && !(Nat.beq j 9)) mixed (Dyp 0 rfl (f5 fo_Query_0 ty_Is dc rfl) (Dy 1 rfl (g9 ty_Is rfl (Hz (mS (mS (mS (mS m0)))) 0 rfl) rfl) (Dyp 2 rfl (i8 rfl) (Dyp 3 rfl (i8 rfl) (a1m (mS (mS m0)) om fun ab73 ae73 => (b2M r (mS (mS m0)) om fun ei73 => (Dyp 4 rfl (v8 us_Is f9 rfl ae73 rfl r rfl om) (Dy 5 rfl (g9 f9 rfl (b1U ae73 (mS (mS m0)) om) rfl) (t6 6 rfl rfl kr (fun _ => rfl) (Nb [_] [_] us_Is f9 rfl rfl) (fun b75 _ => (j8 (t6 7 rfl rfl kr (fun h => by cases h) (C7 (E := Enc.int) (ex := (G5 (fun t => inR t 10 17) ats)[r]) us_Is f9 rfl rfl rfl (Own.int ei73) rfl bn bn dc) (fun p76 _ => (Dyp 8 rfl (f5 fo_Query_0 ty_Is dc rfl) (j9 (t6 9 rfl rfl kr (fun h => by cases h) (Ns [_, _] ty_Is rfl) (fun _ _ => (r9 kr (s9 (Et (Ez Z3 (Em rfl (Ey rfl ((Y.add rfl rfl om om).yd) (Ei rfl (Eu (w6 (d9 (o4 (w6 (w6 (w6 ?_)))))))))))))))))))))))))))))))))
     exact Ea (r + 1, hd ++ [(G5 (fun t => inR t 10 17) ats)[r]], p76.1, ((hd).length + 1), p76.2) ⟨oz, (show (hd ++ [(G5 (fun t => inR t 10 17) ats)[r]]).length ≤ 2 from by first | omega | (simp only [List.length_append, List.length_singleton]; omega))⟩
    ·refine Eu (o0 rfl (i7 (s9 (Et (Ez Z3 (Em rfl (Ey rfl ((Y.add rfl rfl om om).yd) (Ei rfl (Eu (w6 (w6 (j8 (w6 (w6 (w6 ?_)))))))))))))))
     exact Ea (r + 1, hd, aA2_0, (hd).length, cA2_0) ⟨oz, (show hd.length ≤ 2 from by first | omega | (simp only [List.length_append, List.length_singleton]; omega))⟩
   ·refine Ey rfl ((t8 rfl rfl).yd) (Eu (o0 rfl (E.exit (q1 (q1 (y4 (Et (Ew Z2 (Ey rfl (o6 (cs := [_, _]) ty_Query rfl (Has.pt (mS (mS (mS (mS m0))))) rfl) (w6 (Est rfl (Ns [_, _] ty_Query rfl) (fun _ _ => (Eu (E.ret (o4 (j8 (j9 (j8 (j8 ?_)))))))))))))))))))
    exact O2 br rfl rfl (mS (mS (mS m0))) ty_Query rfl (hd, ats, (_, _, _), (_, _, _)) (show dQ kT 3 2 hd ats from by exact ⟨⟨by omega, by omega⟩, pb.2, by omega⟩) rfl (J := _) (.refl _) (.inl rfl)
  ·refine Em rfl (Es rfl (Es rfl (Es rfl (Es rfl (Ey rfl ((t7 rfl rfl).yd) (Eu (o0 rfl (E.exit (q1 (q1 (y4 (Et (Ew Z2 (Ey rfl (o6 (cs := [_, _]) ty_Query rfl (Has.pt (mS (mS (mS (mS m0))))) rfl) (w6 (Est rfl (Ns [_, _] ty_Query rfl) (fun _ _ => (Eu (E.ret (o4 (j8 (j9 (j8 (j8 ?_))))))))))))))))))))))))
   exact O2 br rfl rfl (mS (mS (mS m0))) ty_Query rfl (hd, ats, (_, _, _), (_, _, _)) (show dQ kT 3 2 hd ats from by exact ⟨⟨by omega, by omega⟩, pb.2, by omega⟩) rfl (J := _) (.refl _) (.inl rfl)
theorem b0Z {bs : List UInt8} : Tr Tryz.prog 287 [.pointer (some ⟨b_c, 0, none⟩), .slice a_s m_s c_s] (fun w L => Ro w L eIs [.slice a_s m_s c_s] s ∧ Ro w L Y6 [.slice a_b m_b c_b] bs) [cur b_c a_b m_b c_b] (κ := (List Int) × (List (Int × List Int)) × (Option Addr × Nat × Nat) × Option Addr × Nat × Nat) (fun k => dQ dT 3 3 k.1 k.2.1) (fun k => .agg #[.slice k.2.2.1.1 k.2.2.1.2.1 k.2.2.1.2.2, .slice k.2.2.2.1 k.2.2.2.2.1 k.2.2.2.2.2]) (fun k => [ow eIs [.slice k.2.2.1.1 k.2.2.1.2.1 k.2.2.1.2.2] k.1, ow Z0 [.slice k.2.2.2.1 k.2.2.2.2.1 k.2.2.2.2.2] k.2.1, cur b_c a_b m_b c_b]) := by
 refine Tr.intro Tryz.func287 rfl (n := 48) rfl (by decide +kernel) bl (fr := [(0, .pointer (some ⟨b_c, 0, none⟩)), (1, .slice a_s m_s c_s)]) rfl fun w L hR => ?_
 obtain ⟨hs, hbs⟩ := hR
 obtain ⟨rfl, ls⟩ := hs.slen
 obtain ⟨rfl, lb⟩ := hbs.slen
 refine Ew Z1 (Est rfl (N.alloc ty_Query dc) (fun b4 _ => (Ev Z6 (Est rfl (Nb [_] [_] us_Is f9 rfl rfl) (fun b6 _ => (u9 (A := _ :: _) (a2a (E := Enc.int) (e := tI) (Own.int i6)) rfl (Ey rfl ((I2 (pvs := [_]) (cs := [_, _]) ty_Atom a9D rfl rfl).yd) (Est rfl (Nb [_] [_, _] us_Atoms ty_Atom rfl rfl) (fun b8 _ => (d9 (d9 (u9 (A := _ :: _) (a2a (E := a3X) (e := tAtom) (V7 (x := (0, [10])) i6 Own.ow)) rfl (Ey rfl ((I2 (pvs := [_]) (cs := [_, _]) ty_Query b1P rfl rfl).yd) (Est rfl (N.alloc ty_Query dc) (fun b5 _ => (Est rfl (Ns [_, _] ty_Query rfl) (fun _ _ => (Eu (Eq_ (Ew Z2 (Em rfl (Est rfl (l0 M9 rfl rfl rfl dc (fun w Lp hA => hA.ro hs)) (fun _ _ => (Ent.b (fun q11 => ?_) (fun q11 => ?_)))))))))))))))))))))))))
 ·refine Eu (n8 rfl (Ez Z4 (Em rfl (Em rfl (o4 (Est rfl (N.call (pre := [_]) (a3n (a0s q11).1 (a0s q11).2.2) rfl rfl rfl dc rfl (fun w Lp hA => ⟨hA.ro hs, hA.ro hbs⟩)) (fun k14 o14 => ?_)))))))
  obtain ⟨hq14, aq14, ⟨a14_0, m14_0, c14_0⟩, ⟨a14_1, m14_1, c14_1⟩⟩ := k14
  replace o14 : dQ kT 3 2 hq14 aq14 := o14
  try (conv => arg 4; dsimp only)
  try (conv => arg 5; dsimp only [List.cons_append, List.nil_append, List.append_nil])
  have jb := And.intro o14.up o14.2.2
  have jl := jb.1.1
  have jh := jb.2
  have jt := (jb.1.2.1 _ (List.getElem_mem (show 0 < aq14.length by omega))).1
  refine d7 m0 fun e14_0 l14_0 => ?_
  subst e14_0
  refine d7 (mS m0) fun e14_1 l14_1 => ?_
  subst e14_1
  refine o4 (Est rfl (Ns [_, _] ty_Query rfl) (fun _ _ => (Eu (Eq_ (Ew Z2 (Em rfl (o4 (Est rfl (N.call (pre := [_]) y7 rfl rfl rfl dc rfl (fun w Lp hA => hA.ro hbs)) (fun x16 o16 => ?_)))))))))
  replace o16 : 0 ≤ x16 ∧ ((14 : Int) ≤ 0 → x16 = 0) ∧ (0 < (14 : Int) → x16 < (14 : Int)) := o16
  try (conv => arg 5; dsimp only [List.cons_append, List.nil_append, List.append_nil])
  refine Eu (E.block (Ew Z2 (Ey rfl ((Y.eql rfl rfl).yd) (o4 (b0s om fun hb90 hce90 htl90 hcx90 hok90 => (d9 (a7g fun oa90_1 om90_1 oc90_1 oe90 oi90_0 on90_1 => ?_)))))))
  subst oe90
  subst on90_1
  refine d7 m0 fun _ ol90_1 => (Ei rfl (o3 (fun q17 => ?_) (fun q17 => ?_)))
  ·refine Eu (n8 rfl (U9 [hb90, b5, b4] (fun j => !(Nat.beq j 8)) mixed (C6 0 rfl rfl dc (f5 fo_Query_0 ty_Is dc rfl) kr (a1v 1 rfl rfl dc (a1l ty_Is rfl ((Y8.pt (mS (mS (mS (mS m0)))) (by simp)).sub (cs' := [_]) 0 rfl) rfl) kr (C6 2 rfl rfl dc (i8 rfl) kr (I6 3 rfl rfl kr (fun _ _ => SameI.out) (Nb [_, _, _, _] [_, _, _, _] us_Is f9 rfl rfl) (fun b22 _ => (u9 (A := [_]) (Own.ints (e := tI) (xs := [17, 18, 3, -1]) rfl (by simp [maxLen]) (by simp only [List.forall_mem_cons]; exact ⟨i6, i6, i6, i6, List.forall_mem_nil _⟩)) rfl (j9 (I6 4 rfl rfl kr (fun _ _ => SameI.out) (N.call (pre := [_]) (J3 dc) rfl rfl rfl dc rfl (fun w Lp hA => ⟨hA.ow m0, hA.ro hbs⟩)) (fun x23 o23 => ?_)))))))))))
   replace o23 : x23 ∈ ([17, 18, 3, -1]) := o23
   try (conv => arg 5; dsimp only [List.cons_append, List.nil_append, List.append_nil])
   have jp : -10 ≤ x23 ∧ x23 ≤ 20 := by simp at o23; omega
   refine I6 5 rfl rfl kr (fun _ _ => SameI.out) (Nb [_] [_] us_Is f9 rfl rfl) (fun b24 _ => (w8 (I6 6 rfl rfl kr (fun _ _ => SameI.out) (C7 (E := Enc.int) (ex := x23) us_Is f9 rfl rfl rfl (Own.int i6) rfl bn bn dc) (fun p25 _ => (C6 7 rfl rfl dc (f5 fo_Query_0 ty_Is dc rfl) kr (B1 (I6 8 rfl rfl kr (fun h => by cases h) (Ns [_, _] ty_Is rfl) (fun _ _ => (a0k kr (s9 (Et (Ew Z2 (B1 (B1 (B1 (u9 (A := [_]) (V7 (x := aq14[0]) oi90_0 Own.ow) rfl (d9 (a1q (xs := aq14) (ce := [_, _]) om hok90 (j4 (congrArg (ow Z0 [_]) (List.set_getElem_self (show 0 < List.length aq14 by omega))) (Ey rfl (o6 (cs := [_, _]) ty_Query rfl (Has.pt (mS m0)) rfl) (B1 (Est rfl (Ns [_, _] ty_Query rfl) (fun _ _ => (Eu (E.ret (d9 (o4 (j9 (j8 (j8 ?_))))))))))))))))))))))))))))))
   exact O2 br rfl rfl (mS (mS (mS m0))) ty_Query rfl (hq14 ++ [x23], aq14, (_, _, _), (_, _, _)) (show dQ dT 3 3 (hq14 ++ [x23]) aq14 from by exact b2j jb) rfl (J := _) (.refl _) (.inl rfl)
  ·refine Eu (o0 rfl (Ew Z2 (Ey rfl ((Y.eql rfl rfl).yd) (Ei rfl (o3 (fun q27 => ?_) (fun q27 => ?_))))))
   ·refine Eu (n8 rfl (U9 [hb90, b5, b4] (fun j => !(Nat.beq j 9)) mixed (C6 0 rfl rfl dc (f5 fo_Query_1 ty_Atoms dc rfl) kr (a1v 1 rfl rfl dc (a1l ty_Atoms rfl ((Y8.pt (mS (mS (mS (mS m0)))) (by simp)).sub (cs' := [_]) 1 rfl) rfl) kr (C6 2 rfl rfl dc (v8 us_Atoms ty_Atom rfl hok90.1 rfl 0 rfl om) kr (C6 3 rfl rfl dc (f5 fo_Atom_1 ty_Is dc rfl) kr (a1v 4 rfl rfl dc (a1l ty_Is rfl ((Y8.pt (mS m0) (by simp)).sub (cs' := [_]) 1 rfl) rfl) kr (C6 5 rfl rfl dc (i8 rfl) kr (I6 6 rfl rfl kr (fun _ _ => SameI.out) (Nb [_, _, _, _] [_, _, _, _] us_Is f9 rfl rfl) (fun b35 _ => (u9 (A := [_]) (Own.ints (e := tI) (xs := [-1, 9, 17, 18]) rfl (by simp [maxLen]) (by simp only [List.forall_mem_cons]; exact ⟨i6, i6, i6, i6, List.forall_mem_nil _⟩)) rfl (j9 (I6 7 rfl rfl kr (fun _ _ => SameI.out) (N.call (pre := [_]) (J3 dc) rfl rfl rfl dc rfl (fun w Lp hA => ⟨hA.ow m0, hA.ro hbs⟩)) (fun x36 o36 => ?_))))))))))))))
    replace o36 : x36 ∈ ([-1, 9, 17, 18]) := o36
    try (conv => arg 5; dsimp only [List.cons_append, List.nil_append, List.append_nil])
    have jp : -10 ≤ x36 ∧ x36 ≤ 20 := by simp at o36; omega
    have jd : dT x36 := by simp at o36; unfold dT; omega
    refine a1m (mS (mS m0)) om fun ab37 ae37 => (C6 8 rfl rfl dc (v8 us_Is f9 rfl ae37 rfl 0 rfl om) kr (j8 (I6 9 rfl rfl kr (fun _ _ => SameI.out) (N.set (E := Enc.int) (j := 0) (ex := x36) (ce := [_]) f9 rfl rfl rfl rfl (Own.int i6) ae37 (Nat.zero_add _) rfl (by first | (simp; omega) | omega | (simp; done))) (fun _ _ => (a0k kr (s9 (Et (Ew Z2 (j9 (j9 (j8 (u9 (A := [_]) (V7 (x := (aq14[0].1, aq14[0].2.set 0 x36)) oi90_0 Own.ow) rfl (d9 (a1q (xs := aq14) (ce := [_, _]) om hok90 (Ey rfl (o6 (cs := [_, _]) ty_Query rfl (Has.pt (mS (mS (mS m0)))) rfl) (B1 (Est rfl (Ns [_, _] ty_Query rfl) (fun _ _ => (Eu (E.ret (d9 (w6 (o4 (j8 (j8 ?_)))))))))))))))))))))))))
    exact O2 br rfl rfl (mS (mS (mS m0))) ty_Query rfl (hq14, aq14.set 0 (aq14[0].1, aq14[0].2.set 0 x36), (_, _, _), (_, _, _)) (show dQ dT 3 3 hq14 (aq14.set 0 (aq14[0].1, aq14[0].2.set 0 x36)) from by exact b2r jb.1 jd) rfl (J := _) (.refl _) (.inl rfl)
   ·refine Eu (o0 rfl (Ew Z2 (Ey rfl ((Y.eql rfl rfl).yd) (Ei rfl (o3 (fun q38 => ?_) (fun q38 => ?_))))))
    ·refine Eu (n8 rfl (U9 [hb90, b5, b4] (fun j => !(Nat.beq j 7)) mixed (C6 0 rfl rfl dc (f5 fo_Query_1 ty_Atoms dc rfl) kr (a1v 1 rfl rfl dc (a1l ty_Atoms rfl ((Y8.pt (mS (mS (mS (mS m0)))) (by simp)).sub (cs' := [_]) 1 rfl) rfl) kr (C6 2 rfl rfl dc (i8 rfl) kr (o4 (I6 3 rfl rfl kr (fun _ _ => SameI.out) (N.call (pre := [_]) y7 rfl rfl rfl dc rfl (fun w Lp hA => hA.ro hbs)) (fun x43 o43 => ?_))))))))
     replace o43 : 0 ≤ x43 ∧ ((5 : Int) ≤ 0 → x43 = 0) ∧ (0 < (5 : Int) → x43 < (5 : Int)) := o43
     try (conv => arg 5; dsimp only [List.cons_append, List.nil_append, List.append_nil])
     refine C6 4 rfl rfl dc (Y.sub rfl rfl om om) kr (C6 5 rfl rfl dc (v8 us_Atoms ty_Atom rfl hok90.1 rfl 0 rfl om) kr (C6 6 rfl rfl dc (f5 fo_Atom_0 f9 dc rfl) kr (j8 (I6 7 rfl rfl kr (fun h => by cases h) (b0M (vs := [_]) (cs' := [_, _] ++ htl90) f9 rfl rfl rfl rfl rfl bl rfl) (fun _ _ => (a0k kr (s9 (Et (Ew Z2 (o4 (d9 (o4 (u9 (A := [_]) (V7 (x := ((x43 - 1), aq14[0].2)) i6 Own.ow) rfl (d9 (a1q (xs := aq14) (ce := [_, _]) om hok90 (Ey rfl (o6 (cs := [_, _]) ty_Query rfl (Has.pt (mS (mS m0))) rfl) (w6 (Est rfl (Ns [_, _] ty_Query rfl) (fun _ _ => (Eu (E.ret (d9 (j9 (o4 (j8 (j8 ?_))))))))))))))))))))))))))
     exact O2 br rfl rfl (mS (mS (mS m0))) ty_Query rfl (hq14, aq14.set 0 ((x43 - 1), aq14[0].2), (_, _, _), (_, _, _)) (show dQ dT 3 3 hq14 (aq14.set 0 ((x43 - 1), aq14[0].2)) from by exact b4k jb.1) rfl (J := _) (.refl _) (.inl rfl)
    ·refine Eu (o0 rfl (i7 (s9 (Et (Ew Z2 (j8 (j8 (j8 (u9 (A := [_]) (V7 (x := aq14[0]) oi90_0 Own.ow) rfl (d9 (a1q (xs := aq14) (ce := [_, _]) om hok90 (j4 (congrArg (ow Z0 [_]) (List.set_getElem_self (show 0 < List.length aq14 by omega))) (Ey rfl (o6 (cs := [_, _]) ty_Query rfl (Has.pt (mS (mS m0))) rfl) (w6 (Est rfl (Ns [_, _] ty_Query rfl) (fun _ _ => (Eu (E.ret (d9 (j9 (o4 (j8 (j8 ?_)))))))))))))))))))))))
     exact O2 br rfl rfl (mS (mS (mS m0))) ty_Query rfl (hq14, aq14, (_, _, _), (_, _, _)) (show dQ dT 3 3 hq14 aq14 from by exact jb.1) rfl (J := _) (.refl _) (.inl rfl)
 ·have jb := b7a
  refine Eu (o0 rfl (i7 (Et (Eq_ (Ew Z2 (Em rfl (o4 (Est rfl (N.call (pre := [_]) y7 rfl rfl rfl dc rfl (fun w Lp hA => hA.ro hbs)) (fun x16 o16 => ?_)))))))))
  replace o16 : 0 ≤ x16 ∧ ((14 : Int) ≤ 0 → x16 = 0) ∧ (0 < (14 : Int) → x16 < (14 : Int)) := o16
  try (conv => arg 5; dsimp only [List.cons_append, List.nil_append, List.append_nil])
  refine Eu (E.block (Ew Z2 (Ey rfl ((Y.eql rfl rfl).yd) ?_)))
  obtain ⟨aq0, haq⟩ : ∃ z : List (Int × List Int), z = [(0, [10])] := ⟨_, rfl⟩
  rw [← haq] at jb
  have jl := jb.1.1
  have jh := jb.2
  have jt := (jb.1.2.1 _ (List.getElem_mem (show 0 < aq0.length by omega))).1
  refine j8 (j4 (congrArg (ow Z0 [_]) haq.symm) (b0s om fun hb90 hce90 htl90 hcx90 hok90 => (d9 (a7g fun oa90_1 om90_1 oc90_1 oe90 oi90_0 on90_1 => ?_))))
  subst oe90
  subst on90_1
  refine d7 m0 fun _ ol90_1 => (Ei rfl (o3 (fun q17 => ?_) (fun q17 => ?_)))
  ·refine Eu (n8 rfl (U9 [hb90, b5, b4] (fun j => !(Nat.beq j 8)) mixed (C6 0 rfl rfl dc (f5 fo_Query_0 ty_Is dc rfl) kr (a1v 1 rfl rfl dc (a1l ty_Is rfl ((Y8.pt (mS (mS (mS (mS m0)))) (by simp)).sub (cs' := [_]) 0 rfl) rfl) kr (C6 2 rfl rfl dc (i8 rfl) kr (I6 3 rfl rfl kr (fun _ _ => SameI.out) (Nb [_, _, _, _] [_, _, _, _] us_Is f9 rfl rfl) (fun b22 _ => (u9 (A := [_]) (Own.ints (e := tI) (xs := [17, 18, 3, -1]) rfl (by simp [maxLen]) (by simp only [List.forall_mem_cons]; exact ⟨i6, i6, i6, i6, List.forall_mem_nil _⟩)) rfl (j9 (I6 4 rfl rfl kr (fun _ _ => SameI.out) (N.call (pre := [_]) (J3 dc) rfl rfl rfl dc rfl (fun w Lp hA => ⟨hA.ow m0, hA.ro hbs⟩)) (fun x23 o23 => ?_)))))))))))
   replace o23 : x23 ∈ ([17, 18, 3, -1]) := o23
   try (conv => arg 5; dsimp only [List.cons_append, List.nil_append, List.append_nil])
   have jp : -10 ≤ x23 ∧ x23 ≤ 20 := by simp at o23; omega
   refine I6 5 rfl rfl kr (fun _ _ => SameI.out) (Nb [_] [_] us_Is f9 rfl rfl) (fun b24 _ => (u9 (A := []) (Own.nil (E := Enc.int) (e := tI) (a := none)) rfl (d9 (d9 (I6 6 rfl rfl kr (fun _ _ => SameI.out) (C7 (E := Enc.int) (ex := x23) us_Is f9 rfl rfl rfl (Own.int i6) rfl bn bn dc) (fun p25 _ => (C6 7 rfl rfl dc (f5 fo_Query_0 ty_Is dc rfl) kr (B1 (I6 8 rfl rfl kr (fun h => by cases h) (Ns [_, _] ty_Is rfl) (fun _ _ => (a0k kr (s9 (Et (Ew Z2 (B1 (B1 (B1 (u9 (A := [_]) (V7 (x := aq0[0]) oi90_0 Own.ow) rfl (d9 (a1q (xs := aq0) (ce := [_, _]) om hok90 (j4 (congrArg (ow Z0 [_]) (List.set_getElem_self (show 0 < List.length aq0 by omega))) (Ey rfl (o6 (cs := [_, _]) ty_Query rfl (Has.pt (mS m0)) rfl) (w6 (Est rfl (Ns [_, _] ty_Query rfl) (fun _ _ => (Eu (E.ret (d9 (o4 (j9 (j8 (j8 ?_))))))))))))))))))))))))))))))))
   exact O2 br rfl rfl (mS (mS (mS m0))) ty_Query rfl ([] ++ [x23], aq0, (_, _, _), (_, _, _)) (show dQ dT 3 3 ([] ++ [x23] : List Int) aq0 from by exact b2j jb) rfl (J := _) (.refl _) (.inl rfl)
  ·refine Eu (o0 rfl (Ew Z2 (Ey rfl ((Y.eql rfl rfl).yd) (Ei rfl (o3 (fun q27 => ?_) (fun q27 => ?_))))))
   ·refine Eu (n8 rfl (U9 [hb90, b5, b4] (fun j => !(Nat.beq j 9)) mixed (C6 0 rfl rfl dc (f5 fo_Query_1 ty_Atoms dc rfl) kr (a1v 1 rfl rfl dc (a1l ty_Atoms rfl ((Y8.pt (mS (mS (mS (mS m0)))) (by simp)).sub (cs' := [_]) 1 rfl) rfl) kr (C6 2 rfl rfl dc (v8 us_Atoms ty_Atom rfl hok90.1 rfl 0 rfl om) kr (C6 3 rfl rfl dc (f5 fo_Atom_1 ty_Is dc rfl) kr (a1v 4 rfl rfl dc (a1l ty_Is rfl ((Y8.pt (mS m0) (by simp)).sub (cs' := [_]) 1 rfl) rfl) kr (C6 5 rfl rfl dc (i8 rfl) kr (I6 6 rfl rfl kr (fun _ _ => SameI.out) (Nb [_, _, _, _] [_, _, _, _] us_Is f9 rfl rfl) (fun b35 _ => (u9 (A := [_]) (Own.ints (e := tI) (xs := [-1, 9, 17, 18]) rfl (by simp [maxLen]) (by simp only [List.forall_mem_cons]; exact ⟨i6, i6, i6, i6, List.forall_mem_nil _⟩)) rfl (j9 (I6 7 rfl rfl kr (fun _ _ => SameI.out) (N.call (pre := [_]) (J3 dc) rfl rfl rfl dc rfl (fun w Lp hA => ⟨hA.ow m0, hA.ro hbs⟩)) (fun x36 o36 => ?_))))))))))))))
    replace o36 : x36 ∈ ([-1, 9, 17, 18]) := o36
    try (conv => arg 5; dsimp only [List.cons_append, List.nil_append, List.append_nil])
    have jp : -10 ≤ x36 ∧ x36 ≤ 20 := by simp at o36; omega
    have jd : dT x36 := by simp at o36; unfold dT; omega
    refine a1m (mS (mS m0)) om fun ab37 ae37 => (C6 8 rfl rfl dc (v8 us_Is f9 rfl ae37 rfl 0 rfl om) kr (j8 (I6 9 rfl rfl kr (fun _ _ => SameI.out) (N.set (E := Enc.int) (j := 0) (ex := x36) (ce := [_]) f9 rfl rfl rfl rfl (Own.int i6) ae37 (Nat.zero_add _) rfl (by first | (simp; omega) | omega | (simp; done))) (fun _ _ => (a0k kr (s9 (Et (Ew Z2 (j9 (j9 (j8 (u9 (A := [_]) (V7 (x := (aq0[0].1, aq0[0].2.set 0 x36)) oi90_0 Own.ow) rfl (d9 (a1q (xs := aq0) (ce := [_, _]) om hok90 (Ey rfl (o6 (cs := [_, _]) ty_Query rfl (Has.pt (mS (mS (mS m0)))) rfl) (j9 (Est rfl (Ns [_, _] ty_Query rfl) (fun _ _ => (Eu (E.ret (d9 (u9 (A := []) (Own.nil (E := Enc.int) (e := tI) (a := none)) rfl (o4 (j8 (j8 ?_)))))))))))))))))))))))))
    exact O2 br rfl rfl (mS (mS (mS m0))) ty_Query rfl ([], aq0.set 0 (aq0[0].1, aq0[0].2.set 0 x36), (none, 0, 0), (_, _, _)) (show dQ dT 3 3 ([] : List Int) (aq0.set 0 (aq0[0].1, aq0[0].2.set 0 x36)) from by exact b2r jb.1 jd) rfl (J := _) (.refl _) (.inl rfl)
   ·refine Eu (o0 rfl (Ew Z2 (Ey rfl ((Y.eql rfl rfl).yd) (Ei rfl (o3 (fun q38 => ?_) (fun q38 => ?_))))))
    ·refine Eu (n8 rfl (U9 [hb90, b5, b4] (fun j => !(Nat.beq j 7)) mixed (C6 0 rfl rfl dc (f5 fo_Query_1 ty_Atoms dc rfl) kr (a1v 1 rfl rfl dc (a1l ty_Atoms rfl ((Y8.pt (mS (mS (mS (mS m0)))) (by simp)).sub (cs' := [_]) 1 rfl) rfl) kr (C6 2 rfl rfl dc (i8 rfl) kr (o4 (I6 3 rfl rfl kr (fun _ _ => SameI.out) (N.call (pre := [_]) y7 rfl rfl rfl dc rfl (fun w Lp hA => hA.ro hbs)) (fun x43 o43 => ?_))))))))
     replace o43 : 0 ≤ x43 ∧ ((5 : Int) ≤ 0 → x43 = 0) ∧ (0 < (5 : Int) → x43 < (5 : Int)) := o43
     try (conv => arg 5; dsimp only [List.cons_append, List.nil_append, List.append_nil])
     refine C6 4 rfl rfl dc (Y.sub rfl rfl om om) kr (C6 5 rfl rfl dc (v8 us_Atoms ty_Atom rfl hok90.1 rfl 0 rfl om) kr (C6 6 rfl rfl dc (f5 fo_Atom_0 f9 dc rfl) kr (j8 (I6 7 rfl rfl kr (fun h => by cases h) (b0M (vs := [_]) (cs' := [_, _] ++ htl90) f9 rfl rfl rfl rfl rfl bl rfl) (fun _ _ => (a0k kr (s9 (Et (Ew Z2 (o4 (d9 (o4 (u9 (A := [_]) (V7 (x := ((x43 - 1), aq0[0].2)) i6 Own.ow) rfl (d9 (a1q (xs := aq0) (ce := [_, _]) om hok90 (Ey rfl (o6 (cs := [_, _]) ty_Query rfl (Has.pt (mS (mS m0))) rfl) (o4 (Est rfl (Ns [_, _] ty_Query rfl) (fun _ _ => (Eu (E.ret (d9 (u9 (A := []) (Own.nil (E := Enc.int) (e := tI) (a := none)) rfl (o4 (j8 (j8 ?_))))))))))))))))))))))))))
     exact O2 br rfl rfl (mS (mS (mS m0))) ty_Query rfl ([], aq0.set 0 ((x43 - 1), aq0[0].2), (none, 0, 0), (_, _, _)) (show dQ dT 3 3 ([] : List Int) (aq0.set 0 ((x43 - 1), aq0[0].2)) from by exact b4k jb.1) rfl (J := _) (.refl _) (.inl rfl)
    ·refine Eu (o0 rfl (i7 (s9 (Et (Ew Z2 (j8 (j8 (j8 (u9 (A := [_]) (V7 (x := aq0[0]) oi90_0 Own.ow) rfl (d9 (a1q (xs := aq0) (ce := [_, _]) om hok90 (j4 (congrArg (ow Z0 [_]) (List.set_getElem_self (show 0 < List.length aq0 by omega))) (Ey rfl (o6 (cs := [_, _]) ty_Query rfl (Has.pt (mS (mS m0))) rfl) (o4 (Est rfl (Ns [_, _] ty_Query rfl) (fun _ _ => (Eu (E.ret (d9 (u9 (A := []) (Own.nil (E := Enc.int) (e := tI) (a := none)) rfl (o4 (j8 (j8 ?_)))))))))))))))))))))))
     exact O2 br rfl rfl (mS (mS (mS m0))) ty_Query rfl ([], aq0, (none, 0, 0), (_, _, _)) (show dQ dT 3 3 ([] : List Int) aq0 from by exact jb.1) rfl (J := _) (.refl _) (.inl rfl)
end Go.Proofs.YthapcdhdfaibkaaGreatDoor
end
