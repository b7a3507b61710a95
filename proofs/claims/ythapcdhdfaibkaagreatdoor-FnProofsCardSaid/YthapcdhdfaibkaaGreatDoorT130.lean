import Derived.Test.YthapcdhdfaibkaaGreatDoorT121
import Derived.Test.YthapcdhdfaibkaaGreatDoorT37
import Derived.Test.YthapcdhdfaibkaaGreatDoorHn
namespace Go.Proofs.YthapcdhdfaibkaaGreatDoor
open Go.RowKit
set_option linter.all false
set_option maxHeartbeats 2000000
attribute [local irreducible] Nop Yd Yp Ent Has Tr FnP FnP2 Src o2 c8 N0 a0b E6
variable {s : List Int} {b_c m_s c_s m_b c_b : Nat} {a_s a_b : Option Addr}
theorem a4K {bs : List UInt8} (h1 : 1 ≤ s.length) (hsz : ∀ z ∈ s, 1 ≤ z ∧ z ≤ 3) (h3 : s.length ≤ 3) : Tr Tryz.prog 343 [.pointer (some ⟨b_c, 0, none⟩), .slice a_s m_s c_s] (fun w L => Ro w L eIs [.slice a_s m_s c_s] s ∧ Ro w L Y6 [.slice a_b m_b c_b] bs) [cur b_c a_b m_b c_b] (κ := Int × (List Int) × Int × Int × Int × Option Addr × Nat × Nat) (fun k => (-10 ≤ k.1 ∧ k.1 ≤ 10) ∧ k.2.1.length ≤ 3 ∧ (-10 ≤ k.2.2.1 ∧ k.2.2.1 ≤ 100) ∧ (-10 ≤ k.2.2.2.1 ∧ k.2.2.2.1 ≤ 100) ∧ -10 ≤ k.2.2.2.2.1 ∧ k.2.2.2.2.1 ≤ 100) (fun k => .agg #[.int .i64 k.1, .slice k.2.2.2.2.2.1 k.2.2.2.2.2.2.1 k.2.2.2.2.2.2.2, .int .i64 k.2.2.1, .int .i64 k.2.2.2.1, .int .i64 k.2.2.2.2.1]) (fun k => [ow eIs [.slice k.2.2.2.2.2.1 k.2.2.2.2.2.2.1 k.2.2.2.2.2.2.2] k.2.1, cur b_c a_b m_b c_b]) := by
 refine Tr.intro Tryz.func343 rfl (n := 38) rfl (by decide +kernel) bl (fr := [(0, .pointer (some ⟨b_c, 0, none⟩)), (1, .slice a_s m_s c_s)]) rfl fun w L hR => ?_
 obtain ⟨hs, hbs⟩ := hR
 obtain ⟨rfl, ls⟩ := hs.slen
 obtain ⟨rfl, lb⟩ := hbs.slen
 refine Ew Z1 (Est rfl (N.alloc ty_Method dc) (fun b4 _ => (Ev Z15 (Em rfl (Em rfl (Ey rfl ((Y.len us_Is rfl).yd) (d9 (Est rfl (N.call (pre := [_]) y7 rfl rfl rfl dc rfl (fun w Lp hA => hA.ro hbs)) (fun x10 o10 => ?_)))))))))
 replace o10 : 0 ≤ x10 ∧ ((↑s.length : Int) ≤ 0 → x10 = 0) ∧ (0 < (↑s.length : Int) → x10 < (↑s.length : Int)) := o10
 try (conv => arg 5; dsimp only [List.cons_append, List.nil_append, List.append_nil])
 have jx : x10.toNat < s.length := by omega
 have jz := hsz _ (List.getElem_mem jx)
 refine Em rfl (Est rfl (Nb [_, _, _, _, _] [_, _, _, _, _] us_Is f9 rfl rfl) (fun b12 _ => (u9 (A := [_]) (Own.ints (e := tI) (xs := [0, 0, 0, 1, 2]) rfl (by simp [maxLen]) (by simp only [List.forall_mem_cons]; exact ⟨i6, i6, i6, i6, i6, List.forall_mem_nil _⟩)) rfl (d9 (Est rfl (N.call (pre := [_]) (J3 dc) rfl rfl rfl dc rfl (fun w Lp hA => ⟨hA.ow m0, hA.ro hbs⟩)) (fun x13 o13 => ?_))))))
 replace o13 : x13 ∈ ([0, 0, 0, 1, 2]) := o13
 try (conv => arg 5; dsimp only [List.cons_append, List.nil_append, List.append_nil])
 have jp : 0 ≤ x13 ∧ x13 ≤ 2 := by simp at o13; omega
 refine Em rfl (Est rfl (N.call (pre := [_]) y7 rfl rfl rfl dc rfl (fun w Lp hA => hA.ro hbs)) (fun x15 o15 => ?_))
 replace o15 : 0 ≤ x15 ∧ ((5 : Int) ≤ 0 → x15 = 0) ∧ (0 < (5 : Int) → x15 < (5 : Int)) := o15
 try (conv => arg 5; dsimp only [List.cons_append, List.nil_append, List.append_nil])
 refine Em rfl (Est rfl (N.call (pre := [_]) y7 rfl rfl rfl dc rfl (fun w Lp hA => hA.ro hbs)) (fun x17 o17 => ?_))
 replace o17 : 0 ≤ x17 ∧ ((6 : Int) ≤ 0 → x17 = 0) ∧ (0 < (6 : Int) → x17 < (6 : Int)) := o17
 try (conv => arg 5; dsimp only [List.cons_append, List.nil_append, List.append_nil])
 refine Ey rfl ((Y.add rfl rfl om om).yd) (Ey rfl ((I2 (pvs := [_, _, _, _]) (cs := [_, _, _, _, _]) ty_Method b0p rfl rfl).yd) (Est rfl (N.alloc ty_Method dc) (fun b5 _ => (Est rfl (Ns [_, _, _, _, _] ty_Method rfl) (fun _ _ => (Eu (Eq_ (Ew Z1 (Ei rfl (Eu (E.block (u9 (A := []) (Own.nil (E := Enc.int) (e := tI) (a := none)) rfl (E.loop (κ := Nat × (List Int) × Option Addr × Nat × Nat) (fun g => g.1 ≤ s[x10.toNat].toNat ∧ g.2.1.length ≤ g.1) (fun g => [(0, .pointer (some ⟨b_c, 0, none⟩)), (1, .slice a_s s.length c_s), (4, .pointer (some ⟨b4, 0, none⟩)), (5, .pointer (some ⟨b5, 0, none⟩)), (6, .int .i64 (↑g.1 : Int))]) (fun g => [ow eIs [.slice g.2.2.1 g.2.2.2.1 g.2.2.2.2] g.2.1, pt b5 125 [.int .i64 x10, .slice g.2.2.1 g.2.2.2.1 g.2.2.2.2, .int .i64 x13, .int .i64 x15, .int .i64 (1 + x17)], cur b_c a_b bs.length c_b, ow eIs [.slice (some ⟨b12, 0, none⟩) 5 5] ([0, 0, 0, 1, 2]), pt b4 125 [.int .i64 0, .slice none 0 0, .int .i64 0, .int .i64 0, .int .i64 0]]) (fun g => s[x10.toNat].toNat - g.1) (0, [], none, 0, 0) ⟨Nat.zero_le _, by simp⟩ ⟨rfl, rfl, rfl, rfl, rfl, trivial⟩ (.refl _) (fun g pg => ?_))))))))))))))
 obtain ⟨g, ms, aA0_0, mA0_0, cA0_0⟩ := g
 try dsimp only at pg
 try dsimp only
 obtain ⟨pk, pa⟩ := pg
 refine d7 m0 fun eaA0_0 laA0_0 => ?_
 subst eaA0_0
 refine Eq_ (Ew Z7 (Em rfl (Em rfl (Ey rfl ((f5 fo_Method_0 f9 dc rfl).yd) (Ey rfl (g9 f9 rfl (Hz (mS m0) 0 rfl) rfl) ?_)))))
 obtain ⟨eb24, eo24, ea24, ei24, eh24⟩ := hs.elemI x10.toNat om
 refine Ey rfl ((v8 us_Is f9 rfl ea24 rfl x10.toNat om om).yd) (Ey rfl (g9 f9 rfl (eh24 _) rfl) (Ey rfl ((Y.lss rfl rfl).yd) (o3 (fun q26 => ?_) (fun q26 => ?_))))
 ·refine Eu (n8 rfl (i7 (Et (Eq_ (E.block (Ew Z2 (Em rfl (j8 (Est rfl (N.call (pre := [_]) P4 rfl rfl rfl dc rfl (fun w Lp hA => hA.ro hbs)) (fun o30 o30 => ?_))))))))))
  replace o30 : True := o30
  try (conv => arg 5; dsimp only [List.cons_append, List.nil_append, List.append_nil])
  refine Ent.b (fun q30 => ?_) (fun q30 => ?_)
  ·refine Eu (n8 rfl (Ez Z7 (Ey rfl ((f5 fo_Method_1 ty_Is dc rfl).yd) (Ey rfl (g9 ty_Is rfl (Hz (mS (mS m0)) 1 rfl) rfl) (Em rfl (Est rfl (Nb [_] [_] us_Is f9 rfl rfl) (fun b34 _ => (j8 (Est rfl (C7 (E := Enc.int) (ex := (g : Int)) us_Is f9 rfl rfl rfl (Own.int i6) rfl bn bn dc) (fun p35 _ => (Ey rfl ((f5 fo_Method_1 ty_Is dc rfl).yd) (j8 (Est rfl (Ns [_, _, _, _, _] ty_Is rfl) (fun _ _ => (En (s9 (Et (Ez Z3 (Em rfl (Ey rfl ((Y.add rfl rfl om om).yd) (Ei rfl (Eu (j9 (j9 (j9 (o4 (j9 ?_)))))))))))))))))))))))))))
   exact Ea (g + 1, ms ++ [(g : Int)], p35.1, ((ms).length + 1), p35.2) ⟨oz, (show (ms ++ [(g : Int)]).length ≤ (g + 1) from by first | omega | (simp only [List.length_append, List.length_singleton]; omega))⟩
  ·refine Eu (o0 rfl (i7 (s9 (Et (Ez Z3 (Em rfl (Ey rfl ((Y.add rfl rfl om om).yd) (Ei rfl (Eu (j9 (j9 (j8 (j9 (j9 ?_))))))))))))))
   exact Ea (g + 1, ms, aA0_0, (ms).length, cA0_0) ⟨oz, (show ms.length ≤ (g + 1) from by first | omega | (simp only [List.length_append, List.length_singleton]; omega))⟩
 ·refine Eu (o0 rfl (E.exit (q1 (q1 (y4 (Et (Ew Z2 (Ey rfl (o6 (cs := [_, _, _, _, _]) ty_Method rfl (Has.pt (mS m0)) rfl) (j9 (Est rfl (Ns [_, _, _, _, _] ty_Method rfl) (fun _ _ => (Eu (E.ret (d9 (o4 (d9 ?_))))))))))))))))
  exact O2 br rfl rfl (mS (mS m0)) ty_Method rfl (x10, ms, x13, x15, (1 + x17), (_, _, _)) (show (-10 ≤ x10 ∧ x10 ≤ 10) ∧ ms.length ≤ 3 ∧ (-10 ≤ x13 ∧ x13 ≤ 100) ∧ (-10 ≤ x15 ∧ x15 ≤ 100) ∧ -10 ≤ (1 + x17) ∧ (1 + x17) ≤ 100 from by first | omega | (simp only [List.length_append, List.length_singleton, List.length_nil, List.length_cons]; omega)) rfl (J := _) (.refl _) (.inl rfl)
theorem a8b {bs : List UInt8} (h1 : 1 ≤ s.length) (hsz : ∀ z ∈ s, 1 ≤ z ∧ z ≤ 3) (h3 : s.length ≤ 3) : Tr Tryz.prog 285 [.pointer (some ⟨b_c, 0, none⟩), .slice a_s m_s c_s] (fun w L => Ro w L eIs [.slice a_s m_s c_s] s ∧ Ro w L Y6 [.slice a_b m_b c_b] bs) [cur b_c a_b m_b c_b] (κ := (List (Int × List Int × Int × Int × Int)) × Option Addr × Nat × Nat) (fun k => (1 ≤ k.1.length ∧ k.1.length ≤ 4) ∧ ∀ m ∈ k.1, m.2.1.length ≤ 4) (fun k => .slice k.2.1 k.2.2.1 k.2.2.2) (fun k => [ow F5 [.slice k.2.1 k.2.2.1 k.2.2.2] k.1, cur b_c a_b m_b c_b]) := by
 refine Tr.intro Tryz.func285 rfl (n := 24) rfl (by decide +kernel) bl (fr := [(0, .pointer (some ⟨b_c, 0, none⟩)), (1, .slice a_s m_s c_s)]) rfl fun w L hR => ?_
 obtain ⟨hs, hbs⟩ := hR
 obtain ⟨rfl, ls⟩ := hs.slen
 obtain ⟨rfl, lb⟩ := hbs.slen
 refine Ew Z1 (Ei rfl (Ev Z2 (Est rfl (Nb [] [] us_Methods ty_Method rfl rfl) (fun b8 _ => (Ent.drop (Ei rfl (Eu (Eq_ (Ew Z4 (Em rfl (Est rfl (N.call (pre := [_]) y7 rfl rfl rfl dc rfl (fun w Lp hA => hA.ro hbs)) (fun x10 o10 => ?_))))))))))))
 replace o10 : 0 ≤ x10 ∧ ((4 : Int) ≤ 0 → x10 = 0) ∧ (0 < (4 : Int) → x10 < (4 : Int)) := o10
 try (conv => arg 5; dsimp only [List.cons_append, List.nil_append, List.append_nil])
 refine Ey rfl ((Y.add rfl rfl om om).yd) (Ei rfl (Eu (E.block (u9 (A := []) (Own.nil (E := a1y) (e := tMethod) (a := (some ⟨b8, 0, none⟩))) rfl (E.loop (κ := Nat × (List (Int × List Int × Int × Int × Int)) × Option Addr × Nat × Nat) (fun g => g.1 ≤ (1 + x10).toNat ∧ g.2.1.length = g.1 ∧ ∀ m ∈ g.2.1, m.2.1.length ≤ 4) (fun g => [(0, .pointer (some ⟨b_c, 0, none⟩)), (1, .slice a_s s.length c_s), (5, .slice g.2.2.1 g.2.2.2.1 g.2.2.2.2), (6, .int .i64 (1 + x10 - (↑g.1 : Int)))]) (fun g => [ow F5 [.slice g.2.2.1 g.2.2.2.1 g.2.2.2.2] g.2.1, cur b_c a_b bs.length c_b]) (fun g => (1 + x10).toNat - g.1) (0, [], (some ⟨b8, 0, none⟩), 0, 0) ⟨Nat.zero_le _, by simp⟩ ⟨rfl, rfl, rfl, frI om, trivial⟩ (.refl _) (fun g pg => ?_))))))
 obtain ⟨g, ys, aA0_0, mA0_0, cA0_0⟩ := g
 try dsimp only at pg
 try dsimp only
 obtain ⟨pk, pa⟩ := pg
 refine d7 m0 fun eaA0_0 laA0_0 => ?_
 subst eaA0_0
 refine Eq_ (Ew Z2 (Em rfl (Ey rfl ((Y.gtr rfl rfl).yd) (o3 (fun q13 => ?_) (fun q13 => ?_)))))
 ·refine Eu (n8 rfl (i7 (Et (Eq_ (E.block (Ew Z5 (Em rfl (Em rfl (d9 (Est rfl (N.call (pre := [_]) (a4K fc fc fc) rfl rfl rfl dc rfl (fun w Lp hA => ⟨hA.ro hs, hA.ro hbs⟩)) (fun k18 o18 => ?_)))))))))))
  obtain ⟨mr18, mi18, ml18, mc18, mq18, ⟨a18, m18, c18⟩⟩ := k18
  replace o18 : (-10 ≤ mr18 ∧ mr18 ≤ 10) ∧ mi18.length ≤ 3 ∧ (-10 ≤ ml18 ∧ ml18 ≤ 100) ∧ (-10 ≤ mc18 ∧ mc18 ≤ 100) ∧ -10 ≤ mq18 ∧ mq18 ≤ 100 := o18
  try (conv => arg 4; dsimp only)
  try (conv => arg 5; dsimp only [List.cons_append, List.nil_append, List.append_nil])
  refine d7 m0 fun e18 l18 => ?_
  subst e18
  refine Est rfl (N.alloc ty_Method dc) (fun b7 _ => (Est rfl (Ns [_, _, _, _, _] ty_Method rfl) (fun _ _ => (Eu (Ez Z5 (Em rfl (Ey rfl (o6 (cs := [_, _, _, _, _]) ty_Method rfl (Has.pt m0) rfl) (Est rfl (Nb [_] [_, _, _, _, _] us_Methods ty_Method rfl rfl) (fun b21 _ => (j8 (d9 (j9 (Est rfl (C7 (E := a1y) (ex := (mr18, mi18, ml18, mc18, mq18)) us_Methods ty_Method rfl rfl rfl (a7f (x := (mr18, mi18, ml18, mc18, mq18)) i6 Own.ow i6 i6 i6) rfl bn bn dc) (fun p22 _ => (Ei rfl (En (s9 (Et (Ez Z3 (Em rfl (Ey rfl ((Y.sub rfl rfl om om).yd) (Ei rfl (Eu (d9 (Ent.drop (d9 (d9 ?_)))))))))))))))))))))))))))
  exact x6 br (g + 1, ys ++ [(mr18, mi18, ml18, mc18, mq18)], p22.1, ((ys).length + 1), p22.2) ⟨rfl, rfl, rfl, frI om, trivial⟩ (.refl _) ⟨oz, (show (ys ++ [(mr18, mi18, ml18, mc18, mq18)]).length = (g + 1) ∧ ∀ m ∈ (ys ++ [(mr18, mi18, ml18, mc18, mq18)]), m.2.1.length ≤ 4 from by exact b6G pa om)⟩ oz
 ·refine Eu (o0 rfl (E.exit (q1 (q1 (y4 (Et (Ew Z2 (Em rfl (Ei rfl (Eu (E.ret (d9 (d9 ?_)))))))))))))
  exact F.r1 br rfl rfl (ys, (_, _, _)) (show (1 ≤ ys.length ∧ ys.length ≤ 4) ∧ ∀ m ∈ ys, m.2.1.length ≤ 4 from by exact ⟨by omega, pa.2⟩) rfl (J := _) (.refl _) (.inl rfl)
theorem a6A {bs : List UInt8} : Tr Tryz.prog 286 [.pointer (some ⟨b_c, 0, none⟩), .slice a_s m_s c_s] (fun w L => Ro w L eIs [.slice a_s m_s c_s] s ∧ Ro w L Y6 [.slice a_b m_b c_b] bs) [cur b_c a_b m_b c_b] (κ := Int × (List Int) × Int × Int × Int × Option Addr × Nat × Nat) (fun k => (-10 ≤ k.1 ∧ k.1 ≤ 10) ∧ k.2.1.length ≤ 4 ∧ (-10 ≤ k.2.2.1 ∧ k.2.2.1 ≤ 100) ∧ (-10 ≤ k.2.2.2.1 ∧ k.2.2.2.1 ≤ 100) ∧ -10 ≤ k.2.2.2.2.1 ∧ k.2.2.2.2.1 ≤ 100) (fun k => .agg #[.int .i64 k.1, .slice k.2.2.2.2.2.1 k.2.2.2.2.2.2.1 k.2.2.2.2.2.2.2, .int .i64 k.2.2.1, .int .i64 k.2.2.2.1, .int .i64 k.2.2.2.2.1]) (fun k => [ow eIs [.slice k.2.2.2.2.2.1 k.2.2.2.2.2.2.1 k.2.2.2.2.2.2.2] k.2.1, cur b_c a_b m_b c_b]) := by
 refine Tr.intro Tryz.func286 rfl (n := 43) rfl (by decide +kernel) bl (fr := [(0, .pointer (some ⟨b_c, 0, none⟩)), (1, .slice a_s m_s c_s)]) rfl fun w L hR => ?_
 obtain ⟨hs, hbs⟩ := hR
 obtain ⟨rfl, ls⟩ := hs.slen
 obtain ⟨rfl, lb⟩ := hbs.slen
 refine Ew Z1 (Est rfl (N.alloc ty_Method dc) (fun b4 _ => (Ev Z3 (Ey rfl ((I2 (pvs := [_]) (cs := [_, _, _, _, _]) ty_Method b0p rfl rfl).yd) (Est rfl (N.alloc ty_Method dc) (fun b5 _ => (Est rfl (Ns [_, _, _, _, _] ty_Method rfl) (fun _ _ => (Eu (Eq_ (Ew Z2 (Em rfl (Est rfl (l0 M9 rfl rfl rfl dc (fun w Lp hA => hA.ro hs)) (fun _ _ => (Ent.b (fun q8 => ?_) (fun q8 => ?_))))))))))))))))
 ·refine Eu (n8 rfl (Ez Z4 (Em rfl (Em rfl (j8 (Est rfl (N.call (pre := [_]) (a4K (a0s q8).1 (a0s q8).2.2 (a0s q8).2.1) rfl rfl rfl dc rfl (fun w Lp hA => ⟨hA.ro hs, hA.ro hbs⟩)) (fun k11 o11 => ?_)))))))
  obtain ⟨mr11, mi11, ml11, mc11, mq11, ⟨a11, m11, c11⟩⟩ := k11
  replace o11 : (-10 ≤ mr11 ∧ mr11 ≤ 10) ∧ mi11.length ≤ 3 ∧ (-10 ≤ ml11 ∧ ml11 ≤ 100) ∧ (-10 ≤ mc11 ∧ mc11 ≤ 100) ∧ -10 ≤ mq11 ∧ mq11 ≤ 100 := o11
  try (conv => arg 4; dsimp only)
  try (conv => arg 5; dsimp only [List.cons_append, List.nil_append, List.append_nil])
  refine d7 m0 fun e11 l11 => ?_
  subst e11
  refine j8 (Est rfl (Ns [_, _, _, _, _] ty_Method rfl) (fun _ _ => (Eu (Eq_ (Ew Z2 (Em rfl (j8 (Est rfl (N.call (pre := [_]) y7 rfl rfl rfl dc rfl (fun w Lp hA => hA.ro hbs)) (fun x13 o13 => ?_)))))))))
  replace o13 : 0 ≤ x13 ∧ ((10 : Int) ≤ 0 → x13 = 0) ∧ (0 < (10 : Int) → x13 < (10 : Int)) := o13
  try (conv => arg 5; dsimp only [List.cons_append, List.nil_append, List.append_nil])
  refine Eu (E.block (Ew Z2 (Ey rfl ((Y.eql rfl rfl).yd) (Ei rfl (o3 (fun q14 => ?_) (fun q14 => ?_))))))
  ·refine Eu (n8 rfl (Ez Z5 (Em rfl (Est rfl (Nb [_, _, _] [_, _, _] us_Is f9 rfl rfl) (fun b17 _ => (u9 (A := [_]) (Own.ints (e := tI) (xs := [-1, 9, 10]) rfl (by simp [maxLen]) (by simp only [List.forall_mem_cons]; exact ⟨i6, i6, i6, List.forall_mem_nil _⟩)) rfl (d9 (Est rfl (N.call (pre := [_]) (J3 dc) rfl rfl rfl dc rfl (fun w Lp hA => ⟨hA.ow m0, hA.ro hbs⟩)) (fun x18 o18 => ?_)))))))))
   replace o18 : x18 ∈ ([-1, 9, 10]) := o18
   try (conv => arg 5; dsimp only [List.cons_append, List.nil_append, List.append_nil])
   have jp : -10 ≤ x18 ∧ x18 ≤ 100 := by simp at o18; omega
   refine Ey rfl ((f5 fo_Method_2 f9 dc rfl).yd) (j8 (Est rfl (Ns [_, _, _, _, _] f9 rfl) (fun _ _ => (En (s9 (Et (Ew Z2 (Ey rfl (o6 (cs := [_, _, _, _, _]) ty_Method rfl (Has.pt m0) rfl) (j9 (Est rfl (Ns [_, _, _, _, _] ty_Method rfl) (fun _ _ => (Eu (E.ret (j9 (o4 (d9 ?_))))))))))))))))
   exact O2 br rfl rfl (mS (mS m0)) ty_Method rfl (mr11, mi11, x18, mc11, mq11, (_, _, _)) (show (-10 ≤ mr11 ∧ mr11 ≤ 10) ∧ mi11.length ≤ 4 ∧ (-10 ≤ x18 ∧ x18 ≤ 100) ∧ (-10 ≤ mc11 ∧ mc11 ≤ 100) ∧ -10 ≤ mq11 ∧ mq11 ≤ 100 from by first | omega | (simp only [List.length_append, List.length_singleton, List.length_nil, List.length_cons]; omega)) rfl (J := _) (.refl _) (.inl rfl)
  ·refine Eu (o0 rfl (Ew Z2 (Ey rfl ((Y.eql rfl rfl).yd) (Ei rfl (o3 (fun q20 => ?_) (fun q20 => ?_))))))
   ·refine Eu (n8 rfl (U9 [b5] (fun j => !(Nat.beq j 8)) mixed (C6 0 rfl rfl dc (f5 fo_Method_1 ty_Is dc rfl) kr (a1v 1 rfl rfl dc (a1l ty_Is rfl ((Y8.pt (mS m0) (by simp)).sub (cs' := [_]) 1 rfl) rfl) kr (C6 2 rfl rfl dc (i8 rfl) kr (I6 3 rfl rfl kr (fun _ _ => SameI.out) (N.call (pre := [_]) y7 rfl rfl rfl dc rfl (fun w Lp hA => hA.ro hbs)) (fun x25 o25 => ?_)))))))
    replace o25 : 0 ≤ x25 ∧ ((5 : Int) ≤ 0 → x25 = 0) ∧ (0 < (5 : Int) → x25 < (5 : Int)) := o25
    try (conv => arg 5; dsimp only [List.cons_append, List.nil_append, List.append_nil])
    refine C6 4 rfl rfl dc (Y.sub rfl rfl om om) kr (I6 5 rfl rfl kr (fun _ _ => SameI.out) (Nb [_] [_] us_Is f9 rfl rfl) (fun b27 _ => (o4 (I6 6 rfl rfl kr (fun _ _ => SameI.out) (C7 (E := Enc.int) (ex := (x25 - 1)) us_Is f9 rfl rfl rfl (Own.int i6) rfl bn bn dc) (fun p28 _ => (C6 7 rfl rfl dc (f5 fo_Method_1 ty_Is dc rfl) kr (j8 (I6 8 rfl rfl kr (fun h => by cases h) (Ns [_, _, _, _, _] ty_Is rfl) (fun _ _ => (a0k kr (s9 (Et (Ew Z2 (Ey rfl (o6 (cs := [_, _, _, _, _]) ty_Method rfl (Has.pt m0) rfl) (o4 (Est rfl (Ns [_, _, _, _, _] ty_Method rfl) (fun _ _ => (Eu (E.ret (j8 (o4 (d9 ?_))))))))))))))))))))))
    exact O2 br rfl rfl (mS (mS m0)) ty_Method rfl (mr11, mi11 ++ [(x25 - 1)], ml11, mc11, mq11, (_, _, _)) (show (-10 ≤ mr11 ∧ mr11 ≤ 10) ∧ (mi11 ++ [(x25 - 1)]).length ≤ 4 ∧ (-10 ≤ ml11 ∧ ml11 ≤ 100) ∧ (-10 ≤ mc11 ∧ mc11 ≤ 100) ∧ -10 ≤ mq11 ∧ mq11 ≤ 100 from by first | omega | (simp only [List.length_append, List.length_singleton, List.length_nil, List.length_cons]; omega)) rfl (J := _) (.refl _) (.inl rfl)
   ·refine Eu (o0 rfl (Ew Z2 (Ey rfl ((Y.eql rfl rfl).yd) (Ei rfl (o3 (fun q30 => ?_) (fun q30 => ?_))))))
    ·refine Eu (n8 rfl (Ez Z5 (Em rfl (Est rfl (Nb [_, _, _] [_, _, _] us_Is f9 rfl rfl) (fun b33 _ => (u9 (A := [_]) (Own.ints (e := tI) (xs := [0, 99, 100]) rfl (by simp [maxLen]) (by simp only [List.forall_mem_cons]; exact ⟨i6, i6, i6, List.forall_mem_nil _⟩)) rfl (d9 (Est rfl (N.call (pre := [_]) (J3 dc) rfl rfl rfl dc rfl (fun w Lp hA => ⟨hA.ow m0, hA.ro hbs⟩)) (fun x34 o34 => ?_)))))))))
     replace o34 : x34 ∈ ([0, 99, 100]) := o34
     try (conv => arg 5; dsimp only [List.cons_append, List.nil_append, List.append_nil])
     have jp : -10 ≤ x34 ∧ x34 ≤ 100 := by simp at o34; omega
     refine Ey rfl ((f5 fo_Method_4 f9 dc rfl).yd) (j8 (Est rfl (Ns [_, _, _, _, _] f9 rfl) (fun _ _ => (En (s9 (Et (Ew Z2 (Ey rfl (o6 (cs := [_, _, _, _, _]) ty_Method rfl (Has.pt m0) rfl) (j9 (Est rfl (Ns [_, _, _, _, _] ty_Method rfl) (fun _ _ => (Eu (E.ret (j9 (o4 (d9 ?_))))))))))))))))
     exact O2 br rfl rfl (mS (mS m0)) ty_Method rfl (mr11, mi11, ml11, mc11, x34, (_, _, _)) (show (-10 ≤ mr11 ∧ mr11 ≤ 10) ∧ mi11.length ≤ 4 ∧ (-10 ≤ ml11 ∧ ml11 ≤ 100) ∧ (-10 ≤ mc11 ∧ mc11 ≤ 100) ∧ -10 ≤ x34 ∧ x34 ≤ 100 from by first | omega | (simp only [List.length_append, List.length_singleton, List.length_nil, List.length_cons]; omega)) rfl (J := _) (.refl _) (.inl rfl)
    ·refine Eu (o0 rfl (Ew Z2 (Ey rfl ((Y.eql rfl rfl).yd) (Ei rfl (o3 (fun q36 => ?_) (fun q36 => ?_))))))
     ·refine Eu (n8 rfl (Ez Z5 (Em rfl (Est rfl (Nb [_, _, _] [_, _, _] us_Is f9 rfl rfl) (fun b39 _ => (u9 (A := [_]) (Own.ints (e := tI) (xs := [-1, 99, 100]) rfl (by simp [maxLen]) (by simp only [List.forall_mem_cons]; exact ⟨i6, i6, i6, List.forall_mem_nil _⟩)) rfl (d9 (Est rfl (N.call (pre := [_]) (J3 dc) rfl rfl rfl dc rfl (fun w Lp hA => ⟨hA.ow m0, hA.ro hbs⟩)) (fun x40 o40 => ?_)))))))))
      replace o40 : x40 ∈ ([-1, 99, 100]) := o40
      try (conv => arg 5; dsimp only [List.cons_append, List.nil_append, List.append_nil])
      have jp : -10 ≤ x40 ∧ x40 ≤ 100 := by simp at o40; omega
      refine Ey rfl ((f5 fo_Method_3 f9 dc rfl).yd) (j8 (Est rfl (Ns [_, _, _, _, _] f9 rfl) (fun _ _ => (En (s9 (Et (Ew Z2 (Ey rfl (o6 (cs := [_, _, _, _, _]) ty_Method rfl (Has.pt m0) rfl) (j9 (Est rfl (Ns [_, _, _, _, _] ty_Method rfl) (fun _ _ => (Eu (E.ret (j9 (o4 (d9 ?_))))))))))))))))
      exact O2 br rfl rfl (mS (mS m0)) ty_Method rfl (mr11, mi11, ml11, x40, mq11, (_, _, _)) (show (-10 ≤ mr11 ∧ mr11 ≤ 10) ∧ mi11.length ≤ 4 ∧ (-10 ≤ ml11 ∧ ml11 ≤ 100) ∧ (-10 ≤ x40 ∧ x40 ≤ 100) ∧ -10 ≤ mq11 ∧ mq11 ≤ 100 from by first | omega | (simp only [List.length_append, List.length_singleton, List.length_nil, List.length_cons]; omega)) rfl (J := _) (.refl _) (.inl rfl)
     ·refine Eu (o0 rfl (i7 (s9 (Et (Ew Z2 (Ey rfl (o6 (cs := [_, _, _, _, _]) ty_Method rfl (Has.pt (mS m0)) rfl) (o4 (Est rfl (Ns [_, _, _, _, _] ty_Method rfl) (fun _ _ => (Eu (E.ret (o4 (j8 (d9 ?_))))))))))))))
      exact O2 br rfl rfl (mS (mS m0)) ty_Method rfl (mr11, mi11, ml11, mc11, mq11, (_, _, _)) (show (-10 ≤ mr11 ∧ mr11 ≤ 10) ∧ mi11.length ≤ 4 ∧ (-10 ≤ ml11 ∧ ml11 ≤ 100) ∧ (-10 ≤ mc11 ∧ mc11 ≤ 100) ∧ -10 ≤ mq11 ∧ mq11 ≤ 100 from by first | omega | (simp only [List.length_append, List.length_singleton, List.length_nil, List.length_cons]; omega)) rfl (J := _) (.refl _) (.inl rfl)
 ·refine Eu (o0 rfl (i7 (Et (Eq_ (Ew Z2 (Em rfl (j8 (Est rfl (N.call (pre := [_]) y7 rfl rfl rfl dc rfl (fun w Lp hA => hA.ro hbs)) (fun x13 o13 => ?_)))))))))
  replace o13 : 0 ≤ x13 ∧ ((10 : Int) ≤ 0 → x13 = 0) ∧ (0 < (10 : Int) → x13 < (10 : Int)) := o13
  try (conv => arg 5; dsimp only [List.cons_append, List.nil_append, List.append_nil])
  refine Eu (E.block (Ew Z2 (Ey rfl ((Y.eql rfl rfl).yd) (Ei rfl (o3 (fun q14 => ?_) (fun q14 => ?_))))))
  ·refine Eu (n8 rfl (Ez Z5 (Em rfl (Est rfl (Nb [_, _, _] [_, _, _] us_Is f9 rfl rfl) (fun b17 _ => (u9 (A := [_]) (Own.ints (e := tI) (xs := [-1, 9, 10]) rfl (by simp [maxLen]) (by simp only [List.forall_mem_cons]; exact ⟨i6, i6, i6, List.forall_mem_nil _⟩)) rfl (d9 (Est rfl (N.call (pre := [_]) (J3 dc) rfl rfl rfl dc rfl (fun w Lp hA => ⟨hA.ow m0, hA.ro hbs⟩)) (fun x18 o18 => ?_)))))))))
   replace o18 : x18 ∈ ([-1, 9, 10]) := o18
   try (conv => arg 5; dsimp only [List.cons_append, List.nil_append, List.append_nil])
   have jp : -10 ≤ x18 ∧ x18 ≤ 100 := by simp at o18; omega
   refine Ey rfl ((f5 fo_Method_2 f9 dc rfl).yd) (j8 (Est rfl (Ns [_, _, _, _, _] f9 rfl) (fun _ _ => (En (s9 (Et (Ew Z2 (Ey rfl (o6 (cs := [_, _, _, _, _]) ty_Method rfl (Has.pt m0) rfl) (o4 (Est rfl (Ns [_, _, _, _, _] ty_Method rfl) (fun _ _ => (Eu (E.ret (u9 (A := []) (Own.nil (E := Enc.int) (e := tI) (a := none)) rfl (o4 (d9 ?_))))))))))))))))
   exact O2 br rfl rfl (mS (mS m0)) ty_Method rfl (0, [], x18, 0, 1, (none, 0, 0)) (show (-10 ≤ (0 : Int) ∧ (0 : Int) ≤ 10) ∧ ([] : List Int).length ≤ 4 ∧ (-10 ≤ x18 ∧ x18 ≤ 100) ∧ (-10 ≤ (0 : Int) ∧ (0 : Int) ≤ 100) ∧ -10 ≤ (1 : Int) ∧ (1 : Int) ≤ 100 from by first | omega | (simp only [List.length_append, List.length_singleton, List.length_nil, List.length_cons]; omega)) rfl (J := _) (.refl _) (.inl rfl)
  ·refine Eu (o0 rfl (Ew Z2 (Ey rfl ((Y.eql rfl rfl).yd) (Ei rfl (o3 (fun q20 => ?_) (fun q20 => ?_))))))
   ·refine Eu (n8 rfl (U9 [b5] (fun j => !(Nat.beq j 8)) mixed (C6 0 rfl rfl dc (f5 fo_Method_1 ty_Is dc rfl) kr (a1v 1 rfl rfl dc (a1l ty_Is rfl ((Y8.pt (mS m0) (by simp)).sub (cs' := [_]) 1 rfl) rfl) kr (C6 2 rfl rfl dc (i8 rfl) kr (I6 3 rfl rfl kr (fun _ _ => SameI.out) (N.call (pre := [_]) y7 rfl rfl rfl dc rfl (fun w Lp hA => hA.ro hbs)) (fun x25 o25 => ?_)))))))
    replace o25 : 0 ≤ x25 ∧ ((5 : Int) ≤ 0 → x25 = 0) ∧ (0 < (5 : Int) → x25 < (5 : Int)) := o25
    try (conv => arg 5; dsimp only [List.cons_append, List.nil_append, List.append_nil])
    refine C6 4 rfl rfl dc (Y.sub rfl rfl om om) kr (I6 5 rfl rfl kr (fun _ _ => SameI.out) (Nb [_] [_] us_Is f9 rfl rfl) (fun b27 _ => (u9 (A := []) (Own.nil (E := Enc.int) (e := tI) (a := none)) rfl (d9 (d9 (I6 6 rfl rfl kr (fun _ _ => SameI.out) (C7 (E := Enc.int) (ex := (x25 - 1)) us_Is f9 rfl rfl rfl (Own.int i6) rfl bn bn dc) (fun p28 _ => (C6 7 rfl rfl dc (f5 fo_Method_1 ty_Is dc rfl) kr (j8 (I6 8 rfl rfl kr (fun h => by cases h) (Ns [_, _, _, _, _] ty_Is rfl) (fun _ _ => (a0k kr (s9 (Et (Ew Z2 (Ey rfl (o6 (cs := [_, _, _, _, _]) ty_Method rfl (Has.pt m0) rfl) (o4 (Est rfl (Ns [_, _, _, _, _] ty_Method rfl) (fun _ _ => (Eu (E.ret (j8 (o4 (d9 ?_))))))))))))))))))))))))
    exact O2 br rfl rfl (mS (mS m0)) ty_Method rfl (0, [] ++ [(x25 - 1)], 0, 0, 1, (_, _, _)) (show (-10 ≤ (0 : Int) ∧ (0 : Int) ≤ 10) ∧ ([] ++ [(x25 - 1)] : List Int).length ≤ 4 ∧ (-10 ≤ (0 : Int) ∧ (0 : Int) ≤ 100) ∧ (-10 ≤ (0 : Int) ∧ (0 : Int) ≤ 100) ∧ -10 ≤ (1 : Int) ∧ (1 : Int) ≤ 100 from by first | omega | (simp only [List.length_append, List.length_singleton, List.length_nil, List.length_cons]; omega)) rfl (J := _) (.refl _) (.inl rfl)
   ·refine Eu (o0 rfl (Ew Z2 (Ey rfl ((Y.eql rfl rfl).yd) (Ei rfl (o3 (fun q30 => ?_) (fun q30 => ?_))))))
    ·refine Eu (n8 rfl (Ez Z5 (Em rfl (Est rfl (Nb [_, _, _] [_, _, _] us_Is f9 rfl rfl) (fun b33 _ => (u9 (A := [_]) (Own.ints (e := tI) (xs := [0, 99, 100]) rfl (by simp [maxLen]) (by simp only [List.forall_mem_cons]; exact ⟨i6, i6, i6, List.forall_mem_nil _⟩)) rfl (d9 (Est rfl (N.call (pre := [_]) (J3 dc) rfl rfl rfl dc rfl (fun w Lp hA => ⟨hA.ow m0, hA.ro hbs⟩)) (fun x34 o34 => ?_)))))))))
     replace o34 : x34 ∈ ([0, 99, 100]) := o34
     try (conv => arg 5; dsimp only [List.cons_append, List.nil_append, List.append_nil])
     have jp : -10 ≤ x34 ∧ x34 ≤ 100 := by simp at o34; omega
     refine Ey rfl ((f5 fo_Method_4 f9 dc rfl).yd) (j8 (Est rfl (Ns [_, _, _, _, _] f9 rfl) (fun _ _ => (En (s9 (Et (Ew Z2 (Ey rfl (o6 (cs := [_, _, _, _, _]) ty_Method rfl (Has.pt m0) rfl) (o4 (Est rfl (Ns [_, _, _, _, _] ty_Method rfl) (fun _ _ => (Eu (E.ret (u9 (A := []) (Own.nil (E := Enc.int) (e := tI) (a := none)) rfl (o4 (d9 ?_))))))))))))))))
     exact O2 br rfl rfl (mS (mS m0)) ty_Method rfl (0, [], 0, 0, x34, (none, 0, 0)) (show (-10 ≤ (0 : Int) ∧ (0 : Int) ≤ 10) ∧ ([] : List Int).length ≤ 4 ∧ (-10 ≤ (0 : Int) ∧ (0 : Int) ≤ 100) ∧ (-10 ≤ (0 : Int) ∧ (0 : Int) ≤ 100) ∧ -10 ≤ x34 ∧ x34 ≤ 100 from by first | omega | (simp only [List.length_append, List.length_singleton, List.length_nil, List.length_cons]; omega)) rfl (J := _) (.refl _) (.inl rfl)
    ·refine Eu (o0 rfl (Ew Z2 (Ey rfl ((Y.eql rfl rfl).yd) (Ei rfl (o3 (fun q36 => ?_) (fun q36 => ?_))))))
     ·refine Eu (n8 rfl (Ez Z5 (Em rfl (Est rfl (Nb [_, _, _] [_, _, _] us_Is f9 rfl rfl) (fun b39 _ => (u9 (A := [_]) (Own.ints (e := tI) (xs := [-1, 99, 100]) rfl (by simp [maxLen]) (by simp only [List.forall_mem_cons]; exact ⟨i6, i6, i6, List.forall_mem_nil _⟩)) rfl (d9 (Est rfl (N.call (pre := [_]) (J3 dc) rfl rfl rfl dc rfl (fun w Lp hA => ⟨hA.ow m0, hA.ro hbs⟩)) (fun x40 o40 => ?_)))))))))
      replace o40 : x40 ∈ ([-1, 99, 100]) := o40
      try (conv => arg 5; dsimp only [List.cons_append, List.nil_append, List.append_nil])
      have jp : -10 ≤ x40 ∧ x40 ≤ 100 := by simp at o40; omega
      refine Ey rfl ((f5 fo_Method_3 f9 dc rfl).yd) (j8 (Est rfl (Ns [_, _, _, _, _] f9 rfl) (fun _ _ => (En (s9 (Et (Ew Z2 (Ey rfl (o6 (cs := [_, _, _, _, _]) ty_Method rfl (Has.pt m0) rfl) (o4 (Est rfl (Ns [_, _, _, _, _] ty_Method rfl) (fun _ _ => (Eu (E.ret (u9 (A := []) (Own.nil (E := Enc.int) (e := tI) (a := none)) rfl (o4 (d9 ?_))))))))))))))))
      exact O2 br rfl rfl (mS (mS m0)) ty_Method rfl (0, [], 0, x40, 1, (none, 0, 0)) (show (-10 ≤ (0 : Int) ∧ (0 : Int) ≤ 10) ∧ ([] : List Int).length ≤ 4 ∧ (-10 ≤ (0 : Int) ∧ (0 : Int) ≤ 100) ∧ (-10 ≤ x40 ∧ x40 ≤ 100) ∧ -10 ≤ (1 : Int) ∧ (1 : Int) ≤ 100 from by first | omega | (simp only [List.length_append, List.length_singleton, List.length_nil, List.length_cons]; omega)) rfl (J := _) (.refl _) (.inl rfl)
     ·refine Eu (o0 rfl (i7 (s9 (Et (Ew Z2 (Ey rfl (o6 (cs := [_, _, _, _, _]) ty_Method rfl (Has.pt (mS m0)) rfl) (j8 (Est rfl (Ns [_, _, _, _, _] ty_Method rfl) (fun _ _ => (Eu (E.ret (u9 (A := []) (Own.nil (E := Enc.int) (e := tI) (a := none)) rfl (j8 (d9 ?_))))))))))))))
      exact O2 br rfl rfl (mS (mS m0)) ty_Method rfl (0, [], 0, 0, 1, (none, 0, 0)) (show (-10 ≤ (0 : Int) ∧ (0 : Int) ≤ 10) ∧ ([] : List Int).length ≤ 4 ∧ (-10 ≤ (0 : Int) ∧ (0 : Int) ≤ 100) ∧ (-10 ≤ (0 : Int) ∧ (0 : Int) ≤ 100) ∧ -10 ≤ (1 : Int) ∧ (1 : Int) ≤ 100 from by first | omega | (simp only [List.length_append, List.length_singleton, List.length_nil, List.length_cons]; omega)) rfl (J := _) (.refl _) (.inl rfl)
theorem b0v {bs : List UInt8} : Tr Tryz.prog 183 [.pointer (some ⟨b_c, 0, none⟩)] (fun w L => Ro w L Y6 [.slice a_b m_b c_b] bs) [cur b_c a_b m_b c_b] (κ := (List Int) × (List (Int × List Int × Int × Int × Int)) × (List Int) × (List (Int × List Int)) × (Option Addr × Nat × Nat) × (Option Addr × Nat × Nat) × (Option Addr × Nat × Nat) × Option Addr × Nat × Nat) (fun k => (1 ≤ k.1.length ∧ k.1.length ≤ 4) ∧ (k.2.1.length ≤ 5 ∧ ∀ m ∈ k.2.1, m.2.1.length ≤ 4) ∧ dQ dT 3 3 k.2.2.1 k.2.2.2.1) (fun k => .tuple #[.slice k.2.2.2.2.1.1 k.2.2.2.2.1.2.1 k.2.2.2.2.1.2.2, .slice k.2.2.2.2.2.1.1 k.2.2.2.2.2.1.2.1 k.2.2.2.2.2.1.2.2, .agg #[.slice k.2.2.2.2.2.2.1.1 k.2.2.2.2.2.2.1.2.1 k.2.2.2.2.2.2.1.2.2, .slice k.2.2.2.2.2.2.2.1 k.2.2.2.2.2.2.2.2.1 k.2.2.2.2.2.2.2.2.2]]) (fun k => [ow eIs [.slice k.2.2.2.2.1.1 k.2.2.2.2.1.2.1 k.2.2.2.2.1.2.2] k.1, ow F5 [.slice k.2.2.2.2.2.1.1 k.2.2.2.2.2.1.2.1 k.2.2.2.2.2.1.2.2] k.2.1, ow eIs [.slice k.2.2.2.2.2.2.1.1 k.2.2.2.2.2.2.1.2.1 k.2.2.2.2.2.2.1.2.2] k.2.2.1, ow Z0 [.slice k.2.2.2.2.2.2.2.1 k.2.2.2.2.2.2.2.2.1 k.2.2.2.2.2.2.2.2.2] k.2.2.2.1, cur b_c a_b m_b c_b]) := by
 refine Tr.intro Tryz.func183 rfl (n := 38) rfl (by decide +kernel) bl (fr := [(0, .pointer (some ⟨b_c, 0, none⟩))]) rfl fun w L hR => ?_
 have hbs := hR
 obtain ⟨rfl, lb⟩ := hbs.slen
 refine Ew Z3 (Ei rfl (Ei rfl (Est rfl (N.alloc ty_Query dc) (fun b4 _ => (Ev Z3 (Em rfl (d9 (Est rfl (N.call (pre := [_]) a4I rfl rfl rfl dc rfl (fun w Lp hA => hA.ro hbs)) (fun k9 o9 => ?_)))))))))
 obtain ⟨xs9, ⟨a9, m9, c9⟩⟩ := k9
 replace o9 : 1 ≤ xs9.length ∧ xs9.length ≤ 3 ∧ ∀ z ∈ xs9, 1 ≤ z ∧ z ≤ 3 := o9
 try (conv => arg 4; dsimp only)
 try (conv => arg 5; dsimp only [List.cons_append, List.nil_append, List.append_nil])
 refine d7 m0 fun e9 l9 => ?_
 subst e9
 refine Ei rfl (Ev Z4 (Em rfl (Em rfl (d9 (Est rfl (N.call (pre := [_]) (a8b o9.1 o9.2.2 o9.2.1) rfl rfl rfl dc rfl (fun w Lp hA => ⟨hA.ow m0, hA.ro hbs⟩)) (fun k12 o12 => ?_))))))
 obtain ⟨ms12, ⟨a12, m12, c12⟩⟩ := k12
 replace o12 : (1 ≤ ms12.length ∧ ms12.length ≤ 4) ∧ ∀ m ∈ ms12, m.2.1.length ≤ 4 := o12
 try (conv => arg 4; dsimp only)
 try (conv => arg 5; dsimp only [List.cons_append, List.nil_append, List.append_nil])
 refine d7 m0 fun e12 l12 => ?_
 subst e12
 refine Ei rfl (Ev Z5 (Em rfl (Em rfl (d9 (Est rfl (N.call (pre := [_]) (a3n o9.1 o9.2.2) rfl rfl rfl dc rfl (fun w Lp hA => ⟨hA.ow (mS m0), hA.ro hbs⟩)) (fun k15 o15 => ?_))))))
 obtain ⟨hq15, aq15, ⟨a15_0, m15_0, c15_0⟩, ⟨a15_1, m15_1, c15_1⟩⟩ := k15
 replace o15 : dQ kT 3 2 hq15 aq15 := o15
 try (conv => arg 4; dsimp only)
 try (conv => arg 5; dsimp only [List.cons_append, List.nil_append, List.append_nil])
 refine d7 m0 fun e15_0 l15_0 => ?_
 subst e15_0
 refine d7 (mS m0) fun e15_1 l15_1 => ?_
 subst e15_1
 refine Est rfl (N.alloc ty_Query dc) (fun b7 _ => (Est rfl (Ns [_, _] ty_Query rfl) (fun _ _ => (Eu (Eq_ (Ew Z2 (Em rfl (o4 (Est rfl (N.call (pre := [_]) y7 rfl rfl rfl dc rfl (fun w Lp hA => hA.ro hbs)) (fun x17 o17 => ?_))))))))))
 replace o17 : 0 ≤ x17 ∧ ((20 : Int) ≤ 0 → x17 = 0) ∧ (0 < (20 : Int) → x17 < (20 : Int)) := o17
 try (conv => arg 5; dsimp only [List.cons_append, List.nil_append, List.append_nil])
 refine Eu (E.block (Ew Z2 (Ey rfl ((Y.eql rfl rfl).yd) (Ei rfl (o3 (fun q18 => ?_) (fun q18 => ?_))))))
 ·refine Eu (n8 rfl (Ez Z7 (Em rfl (Em rfl (Em rfl (Est rfl (N.call (pre := [_]) a6A rfl rfl rfl dc rfl (fun w Lp hA => ⟨hA.ow (mS (mS (mS (mS m0)))), hA.ro hbs⟩)) (fun k23 o23 => ?_)))))))
  obtain ⟨mr23, mi23, ml23, mc23, mq23, ⟨a23, m23, c23⟩⟩ := k23
  replace o23 : (-10 ≤ mr23 ∧ mr23 ≤ 10) ∧ mi23.length ≤ 4 ∧ (-10 ≤ ml23 ∧ ml23 ≤ 100) ∧ (-10 ≤ mc23 ∧ mc23 ≤ 100) ∧ -10 ≤ mq23 ∧ mq23 ≤ 100 := o23
  try (conv => arg 4; dsimp only)
  try (conv => arg 5; dsimp only [List.cons_append, List.nil_append, List.append_nil])
  refine d7 m0 fun e23 l23 => ?_
  subst e23
  refine Est rfl (Nb [_] [_, _, _, _, _] us_Methods ty_Method rfl rfl) (fun b24 _ => (d9 (d9 (B1 (Est rfl (C7 (E := a1y) (ex := (mr23, mi23, ml23, mc23, mq23)) us_Methods ty_Method rfl rfl rfl (a7f (x := (mr23, mi23, ml23, mc23, mq23)) i6 Own.ow i6 i6 i6) rfl bn bn dc) (fun p25 _ => (Ei rfl (En (s9 (Et (Eq_ (D.region (fun j => !(Nat.beq j 5)) mixed (Dyp 0 rfl (i8 rfl) (Dyp 1 rfl (i8 rfl) (Dy 2 rfl (o6 (cs := [_, _]) ty_Query rfl (Has.pt (mS (mS m0))) rfl) (Dyp 3 rfl (C2 rfl) (Dyp 4 rfl (C2 rfl) (B1 (t6 5 rfl rfl kr (fun h => by cases h) (Ns [_, _] ty_Query rfl) (fun _ _ => (r9 kr (Et (E.ret (w6 (w6 (o4 (B1 (w6 (j9 (j9 (j9 (j9 ?_))))))))))))))))))))))))))))))))
  exact a6d br rfl rfl rfl rfl (mS (mS (mS (mS (mS m0))))) ty_Query rfl (xs9, ms12 ++ [(mr23, mi23, ml23, mc23, mq23)], hq15, aq15, (_, _, _), (_, _, _), (_, _, _), (_, _, _)) (show (1 ≤ xs9.length ∧ xs9.length ≤ 4) ∧ ((ms12 ++ [(mr23, mi23, ml23, mc23, mq23)]).length ≤ 5 ∧ ∀ m ∈ (ms12 ++ [(mr23, mi23, ml23, mc23, mq23)]), m.2.1.length ≤ 4) ∧ dQ dT 3 3 hq15 aq15 from by exact ⟨⟨by omega, by omega⟩, b7o o12 o23.2.1, o15.up⟩) rfl (J := _) (.refl _) (.inl rfl)
 ·refine Eu (o0 rfl (Ew Z2 (Ey rfl ((Y.eql rfl rfl).yd) (Ei rfl (o3 (fun q26 => ?_) (fun q26 => ?_))))))
  ·refine Eu (n8 rfl (Ez Z4 (Em rfl (Em rfl (Est rfl (N.call (pre := [_]) b0Z rfl rfl rfl dc rfl (fun w Lp hA => ⟨hA.ow (mS (mS (mS (mS m0)))), hA.ro hbs⟩)) (fun k30 o30 => ?_))))))
   obtain ⟨hq30, aq30, ⟨a30_0, m30_0, c30_0⟩, ⟨a30_1, m30_1, c30_1⟩⟩ := k30
   replace o30 : dQ dT 3 3 hq30 aq30 := o30
   try (conv => arg 4; dsimp only)
   try (conv => arg 5; dsimp only [List.cons_append, List.nil_append, List.append_nil])
   refine d7 m0 fun e30_0 l30_0 => ?_
   subst e30_0
   refine d7 (mS m0) fun e30_1 l30_1 => ?_
   subst e30_1
   refine o4 (Est rfl (Ns [_, _] ty_Query rfl) (fun _ _ => (En (s9 (Et (Eq_ (D.region (fun j => !(Nat.beq j 5)) mixed (Dyp 0 rfl (i8 rfl) (Dyp 1 rfl (i8 rfl) (Dy 2 rfl (o6 (cs := [_, _]) ty_Query rfl (Has.pt m0) rfl) (Dyp 3 rfl (C2 rfl) (Dyp 4 rfl (C2 rfl) (D8 (t6 5 rfl rfl kr (fun h => by cases h) (Ns [_, _] ty_Query rfl) (fun _ _ => (r9 kr (Et (E.ret (o4 (o4 (w8 (D8 (B1 (j9 (j9 (j9 (j9 ?_)))))))))))))))))))))))))))
   exact a6d br rfl rfl rfl rfl (mS (mS (mS (mS (mS m0))))) ty_Query rfl (xs9, ms12, hq30, aq30, (_, _, _), (_, _, _), (_, _, _), (_, _, _)) (show (1 ≤ xs9.length ∧ xs9.length ≤ 4) ∧ (ms12.length ≤ 5 ∧ ∀ m ∈ ms12, m.2.1.length ≤ 4) ∧ dQ dT 3 3 hq30 aq30 from by exact ⟨⟨by omega, by omega⟩, b3g o12, o30⟩) rfl (J := _) (.refl _) (.inl rfl)
  ·refine Eu (o0 rfl (Ew Z2 (Ey rfl ((Y.eql rfl rfl).yd) (Ei rfl (o3 (fun q31 => ?_) (fun q31 => ?_))))))
   ·refine Eu (n8 rfl (Ez Z3 (Em rfl (Est rfl (N.call (pre := [_]) a6H rfl rfl rfl dc rfl (fun w Lp hA => hA.ro hbs)) (fun k34 o34 => ?_)))))
    obtain ⟨xs34, ⟨a34, m34, c34⟩⟩ := k34
    replace o34 : 1 ≤ xs34.length ∧ xs34.length ≤ 4 := o34
    try (conv => arg 4; dsimp only)
    try (conv => arg 5; dsimp only [List.cons_append, List.nil_append, List.append_nil])
    refine d7 m0 fun e34 l34 => ?_
    subst e34
    refine Ei rfl (En (s9 (Et (Eq_ (D.region (fun j => !(Nat.beq j 5)) mixed (Dyp 0 rfl (i8 rfl) (Dyp 1 rfl (i8 rfl) (Dy 2 rfl (o6 (cs := [_, _]) ty_Query rfl (Has.pt (mS (mS m0))) rfl) (Dyp 3 rfl (C2 rfl) (Dyp 4 rfl (C2 rfl) (w8 (t6 5 rfl rfl kr (fun h => by cases h) (Ns [_, _] ty_Query rfl) (fun _ _ => (r9 kr (Et (E.ret (w6 (w6 (B1 (j9 (w6 (j9 (j9 (j9 (j9 ?_)))))))))))))))))))))))))
    exact a6d br rfl rfl rfl rfl (mS (mS (mS (mS (mS m0))))) ty_Query rfl (xs34, ms12, hq15, aq15, (_, _, _), (_, _, _), (_, _, _), (_, _, _)) (show (1 ≤ xs34.length ∧ xs34.length ≤ 4) ∧ (ms12.length ≤ 5 ∧ ∀ m ∈ ms12, m.2.1.length ≤ 4) ∧ dQ dT 3 3 hq15 aq15 from by exact ⟨o34, b3g o12, o15.up⟩) rfl (J := _) (.refl _) (.inl rfl)
   ·refine Eu (o0 rfl (i7 (s9 (Et (Eq_ (D.region (fun j => !(Nat.beq j 5)) mixed (Dyp 0 rfl (i8 rfl) (Dyp 1 rfl (i8 rfl) (Dy 2 rfl (o6 (cs := [_, _]) ty_Query rfl (Has.pt (mS m0)) rfl) (Dyp 3 rfl (C2 rfl) (Dyp 4 rfl (C2 rfl) (B1 (t6 5 rfl rfl kr (fun h => by cases h) (Ns [_, _] ty_Query rfl) (fun _ _ => (r9 kr (Et (E.ret (j9 (j9 (w6 (B1 (w6 (j9 (j9 (j9 (j9 ?_))))))))))))))))))))))))))
    exact a6d br rfl rfl rfl rfl (mS (mS (mS (mS (mS m0))))) ty_Query rfl (xs9, ms12, hq15, aq15, (_, _, _), (_, _, _), (_, _, _), (_, _, _)) (show (1 ≤ xs9.length ∧ xs9.length ≤ 4) ∧ (ms12.length ≤ 5 ∧ ∀ m ∈ ms12, m.2.1.length ≤ 4) ∧ dQ dT 3 3 hq15 aq15 from by exact ⟨⟨by omega, by omega⟩, b3g o12, o15.up⟩) rfl (J := _) (.refl _) (.inl rfl)
end Go.Proofs.YthapcdhdfaibkaaGreatDoor
