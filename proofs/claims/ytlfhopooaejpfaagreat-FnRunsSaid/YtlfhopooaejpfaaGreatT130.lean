import Derived.Test.YtlfhopooaejpfaaGreatT90
import Derived.Test.YtlfhopooaejpfaaGreatHq
namespace Go.Proofs.YtlfhopooaejpfaaGreat
open Go.RowKit
set_option linter.all false
set_option maxHeartbeats 2000000
attribute [local irreducible] Nop Yd Yp Ent Has Tr FnP FnP2 Src M0 S8 V1 W0 G4
variable {c6 best : List (Int × Int)} {l : List (Int × List Int × Int × Int × Int)} {a6 : List (Int × List Int)} {s f9 H0 : List Int} {b_c m_s c_s m_b c_b m_l c_l m_code c_code m_steps c_steps t6 r5 s7 o1 m_bound c_bound m_best c_best : Nat} {a_s a_b a_l a_code a_steps r6 o2 a_bound a_best : Option Addr}
theorem a2S {bs : List UInt8} (h1 : 1 ≤ s.length) (hsz : ∀ z ∈ s, 1 ≤ z ∧ z ≤ 3) (h3 : s.length ≤ 3) : Tr Tryz.prog 170 [.pointer (some ⟨b_c, 0, none⟩), .slice a_s m_s c_s] (fun w L => Ro w L eIs [.slice a_s m_s c_s] s ∧ Ro w L U3 [.slice a_b m_b c_b] bs) [cur b_c a_b m_b c_b] (κ := Int × (List Int) × Int × Int × Int × Option Addr × Nat × Nat) (fun k => (-10 ≤ k.1 ∧ k.1 ≤ 10) ∧ k.2.1.length ≤ 3 ∧ (-10 ≤ k.2.2.1 ∧ k.2.2.1 ≤ 100) ∧ (-10 ≤ k.2.2.2.1 ∧ k.2.2.2.1 ≤ 100) ∧ -10 ≤ k.2.2.2.2.1 ∧ k.2.2.2.2.1 ≤ 100) (fun k => .agg #[.int .i64 k.1, .slice k.2.2.2.2.2.1 k.2.2.2.2.2.2.1 k.2.2.2.2.2.2.2, .int .i64 k.2.2.1, .int .i64 k.2.2.2.1, .int .i64 k.2.2.2.2.1]) (fun k => [ow eIs [.slice k.2.2.2.2.2.1 k.2.2.2.2.2.2.1 k.2.2.2.2.2.2.2] k.2.1, cur b_c a_b m_b c_b]) := by
 refine Tr.intro Tryz.func170 rfl (n := 38) rfl (by decide +kernel) bl (fr := [(0, .pointer (some ⟨b_c, 0, none⟩)), (1, .slice a_s m_s c_s)]) rfl fun w L hR => ?_
 obtain ⟨hs, hbs⟩ := hR
 obtain ⟨rfl, ls⟩ := hs.slen
 obtain ⟨rfl, lb⟩ := hbs.slen
 refine Ew Z1 (Est rfl (N.alloc ty_Method dc) (fun b4 _ => (Ev Z15 (Em rfl (Em rfl (Ey rfl ((Y.len us_Is rfl).yd) (f7 (Est rfl (N.call (pre := [_]) x5 rfl rfl rfl dc rfl (fun w Lp hA => hA.ro hbs)) (fun x10 o10 => ?_)))))))))
 replace o10 : 0 ≤ x10 ∧ ((↑s.length : Int) ≤ 0 → x10 = 0) ∧ (0 < (↑s.length : Int) → x10 < (↑s.length : Int)) := o10
 try (conv => arg 5; dsimp only [List.cons_append, List.nil_append, List.append_nil])
 have jx : x10.toNat < s.length := by omega
 have jz := hsz _ (List.getElem_mem jx)
 refine Em rfl (Est rfl (Nb [_, _, _, _, _] [_, _, _, _, _] us_Is f0 rfl rfl) (fun b12 _ => (n9 (A := [_]) (Own.ints (e := tI) (xs := [0, 0, 0, 1, 2]) rfl (by simp [maxLen]) (by simp only [List.forall_mem_cons]; exact ⟨i6, i6, i6, i6, i6, List.forall_mem_nil _⟩)) rfl (f7 (Est rfl (N.call (pre := [_]) (G9 dc) rfl rfl rfl dc rfl (fun w Lp hA => ⟨hA.ow m0, hA.ro hbs⟩)) (fun x13 o13 => ?_))))))
 replace o13 : x13 ∈ ([0, 0, 0, 1, 2]) := o13
 try (conv => arg 5; dsimp only [List.cons_append, List.nil_append, List.append_nil])
 have jp : 0 ≤ x13 ∧ x13 ≤ 2 := by simp at o13; omega
 refine Em rfl (Est rfl (N.call (pre := [_]) x5 rfl rfl rfl dc rfl (fun w Lp hA => hA.ro hbs)) (fun x15 o15 => ?_))
 replace o15 : 0 ≤ x15 ∧ ((5 : Int) ≤ 0 → x15 = 0) ∧ (0 < (5 : Int) → x15 < (5 : Int)) := o15
 try (conv => arg 5; dsimp only [List.cons_append, List.nil_append, List.append_nil])
 refine Em rfl (Est rfl (N.call (pre := [_]) x5 rfl rfl rfl dc rfl (fun w Lp hA => hA.ro hbs)) (fun x17 o17 => ?_))
 replace o17 : 0 ≤ x17 ∧ ((6 : Int) ≤ 0 → x17 = 0) ∧ (0 < (6 : Int) → x17 < (6 : Int)) := o17
 try (conv => arg 5; dsimp only [List.cons_append, List.nil_append, List.append_nil])
 refine Ey rfl ((Y.add rfl rfl om om).yd) (Ey rfl ((I6 (pvs := [_, _, _, _]) (cs := [_, _, _, _, _]) ty_Method a8D rfl rfl).yd) (Est rfl (N.alloc ty_Method dc) (fun b5 _ => (Est rfl (Ns [_, _, _, _, _] ty_Method rfl) (fun _ _ => (Eu (Eq_ (Ew Z1 (Ei rfl (Eu (E.block (n9 (A := []) (Own.nil (E := Enc.int) (e := tI) (a := none)) rfl (E.loop (κ := Nat × (List Int) × Option Addr × Nat × Nat) (fun g => g.1 ≤ s[x10.toNat].toNat ∧ g.2.1.length ≤ g.1) (fun g => [(0, .pointer (some ⟨b_c, 0, none⟩)), (1, .slice a_s s.length c_s), (4, .pointer (some ⟨b4, 0, none⟩)), (5, .pointer (some ⟨b5, 0, none⟩)), (6, .int .i64 (↑g.1 : Int))]) (fun g => [ow eIs [.slice g.2.2.1 g.2.2.2.1 g.2.2.2.2] g.2.1, pt b5 86 [.int .i64 x10, .slice g.2.2.1 g.2.2.2.1 g.2.2.2.2, .int .i64 x13, .int .i64 x15, .int .i64 (1 + x17)], cur b_c a_b bs.length c_b, ow eIs [.slice (some ⟨b12, 0, none⟩) 5 5] ([0, 0, 0, 1, 2]), pt b4 86 [.int .i64 0, .slice none 0 0, .int .i64 0, .int .i64 0, .int .i64 0]]) (fun g => s[x10.toNat].toNat - g.1) (0, [], none, 0, 0) ⟨Nat.zero_le _, by simp⟩ ⟨rfl, rfl, rfl, rfl, rfl, trivial⟩ (.refl _) (fun g pg => ?_))))))))))))))
 obtain ⟨g, ms, aA0_0, mA0_0, cA0_0⟩ := g
 try dsimp only at pg
 try dsimp only
 obtain ⟨pk, pa⟩ := pg
 refine i9 m0 fun eaA0_0 laA0_0 => ?_
 subst eaA0_0
 refine Eq_ (Ew Z7 (Em rfl (Em rfl (Ey rfl ((i7 fo_Method_0 f0 dc rfl).yd) (Ey rfl (f8 f0 rfl (Hz (mS m0) 0 rfl) rfl) ?_)))))
 obtain ⟨eb24, eo24, ea24, ei24, eh24⟩ := hs.elemI x10.toNat om
 refine Ey rfl ((o6 us_Is f0 rfl ea24 rfl x10.toNat om om).yd) (Ey rfl (f8 f0 rfl (eh24 _) rfl) (Ey rfl ((Y.lss rfl rfl).yd) (n0 (fun q26 => ?_) (fun q26 => ?_))))
 ·refine Eu (l4 rfl (i8 (Et (Eq_ (E.block (Ew Z2 (Em rfl (j6 (Est rfl (N.call (pre := [_]) R5 rfl rfl rfl dc rfl (fun w Lp hA => hA.ro hbs)) (fun o30 o30 => ?_))))))))))
  replace o30 : True := o30
  try (conv => arg 5; dsimp only [List.cons_append, List.nil_append, List.append_nil])
  refine Ent.b (fun q30 => ?_) (fun q30 => ?_)
  ·refine Eu (l4 rfl (Ez Z7 (Ey rfl ((i7 fo_Method_1 ty_Is dc rfl).yd) (Ey rfl (f8 ty_Is rfl (Hz (mS (mS m0)) 1 rfl) rfl) (Em rfl (Est rfl (Nb [_] [_] us_Is f0 rfl rfl) (fun b34 _ => (j6 (Est rfl (y6 (E := Enc.int) (ex := (g : Int)) us_Is f0 rfl rfl rfl (Own.int i6) rfl bn bn dc) (fun p35 _ => (Ey rfl ((i7 fo_Method_1 ty_Is dc rfl).yd) (j6 (Est rfl (Ns [_, _, _, _, _] ty_Is rfl) (fun _ _ => (En (o4 (Et (Ez Z3 (Em rfl (Ey rfl ((Y.add rfl rfl om om).yd) (Ei rfl (Eu (v7 (v7 (v7 ?_)))))))))))))))))))))))))
   refine m6 (v7 ?_)
   exact Ea (g + 1, ms ++ [(g : Int)], p35.1, ((ms).length + 1), p35.2) ⟨oz, (show (ms ++ [(g : Int)]).length ≤ (g + 1) from by first | omega | (simp only [List.length_append, List.length_singleton]; omega))⟩
  ·refine Eu (l6 rfl (i8 (o4 (Et (Ez Z3 (Em rfl (Ey rfl ((Y.add rfl rfl om om).yd) (Ei rfl (Eu (v7 (v7 (j6 (v7 (v7 ?_))))))))))))))
   exact Ea (g + 1, ms, aA0_0, (ms).length, cA0_0) ⟨oz, (show ms.length ≤ (g + 1) from by first | omega | (simp only [List.length_append, List.length_singleton]; omega))⟩
 ·refine Eu (l6 rfl (E.exit (n8 (n8 (w5 (Et (Ew Z2 (Ey rfl (o0 (cs := [_, _, _, _, _]) ty_Method rfl (Has.pt (mS m0)) rfl) (v7 (Est rfl (Ns [_, _, _, _, _] ty_Method rfl) (fun _ _ => (Eu (E.ret (f7 (m6 (f7 ?_))))))))))))))))
  exact J2 br rfl rfl (mS (mS m0)) ty_Method rfl (x10, ms, x13, x15, (1 + x17), (_, _, _)) (show (-10 ≤ x10 ∧ x10 ≤ 10) ∧ ms.length ≤ 3 ∧ (-10 ≤ x13 ∧ x13 ≤ 100) ∧ (-10 ≤ x15 ∧ x15 ≤ 100) ∧ -10 ≤ (1 + x17) ∧ (1 + x17) ≤ 100 from by first | omega | (simp only [List.length_append, List.length_singleton, List.length_nil, List.length_cons]; omega)) rfl (J := _) (.refl _) (.inl rfl)
theorem a2C {bs : List UInt8} (h1 : 1 ≤ s.length) (hsz : ∀ z ∈ s, 1 ≤ z ∧ z ≤ 3) (h3 : s.length ≤ 3) : Tr Tryz.prog 104 [.pointer (some ⟨b_c, 0, none⟩), .slice a_s m_s c_s] (fun w L => Ro w L eIs [.slice a_s m_s c_s] s ∧ Ro w L U3 [.slice a_b m_b c_b] bs) [cur b_c a_b m_b c_b] (κ := (List (Int × List Int × Int × Int × Int)) × Option Addr × Nat × Nat) (fun k => (1 ≤ k.1.length ∧ k.1.length ≤ 4) ∧ ∀ m ∈ k.1, m.2.1.length ≤ 4) (fun k => .slice k.2.1 k.2.2.1 k.2.2.2) (fun k => [ow C8 [.slice k.2.1 k.2.2.1 k.2.2.2] k.1, cur b_c a_b m_b c_b]) := by
 refine Tr.intro Tryz.func104 rfl (n := 24) rfl (by decide +kernel) bl (fr := [(0, .pointer (some ⟨b_c, 0, none⟩)), (1, .slice a_s m_s c_s)]) rfl fun w L hR => ?_
 obtain ⟨hs, hbs⟩ := hR
 obtain ⟨rfl, ls⟩ := hs.slen
 obtain ⟨rfl, lb⟩ := hbs.slen
 refine Ew Z1 (Ei rfl (Ev Z2 (Est rfl (Nb [] [] us_Methods ty_Method rfl rfl) (fun b8 _ => (Ent.drop (Ei rfl (Eu (Eq_ (Ew Z4 (Em rfl (Est rfl (N.call (pre := [_]) x5 rfl rfl rfl dc rfl (fun w Lp hA => hA.ro hbs)) (fun x10 o10 => ?_))))))))))))
 replace o10 : 0 ≤ x10 ∧ ((4 : Int) ≤ 0 → x10 = 0) ∧ (0 < (4 : Int) → x10 < (4 : Int)) := o10
 try (conv => arg 5; dsimp only [List.cons_append, List.nil_append, List.append_nil])
 refine Ey rfl ((Y.add rfl rfl om om).yd) (Ei rfl (Eu (E.block (n9 (A := []) (Own.nil (E := Z0) (e := tMethod) (a := (some ⟨b8, 0, none⟩))) rfl (E.loop (κ := Nat × (List (Int × List Int × Int × Int × Int)) × Option Addr × Nat × Nat) (fun g => g.1 ≤ (1 + x10).toNat ∧ g.2.1.length = g.1 ∧ ∀ m ∈ g.2.1, m.2.1.length ≤ 4) (fun g => [(0, .pointer (some ⟨b_c, 0, none⟩)), (1, .slice a_s s.length c_s), (5, .slice g.2.2.1 g.2.2.2.1 g.2.2.2.2), (6, .int .i64 (1 + x10 - (↑g.1 : Int)))]) (fun g => [ow C8 [.slice g.2.2.1 g.2.2.2.1 g.2.2.2.2] g.2.1, cur b_c a_b bs.length c_b]) (fun g => (1 + x10).toNat - g.1) (0, [], (some ⟨b8, 0, none⟩), 0, 0) ⟨Nat.zero_le _, by simp⟩ ⟨rfl, rfl, rfl, frI om, trivial⟩ (.refl _) (fun g pg => ?_))))))
 obtain ⟨g, ys, aA0_0, mA0_0, cA0_0⟩ := g
 try dsimp only at pg
 try dsimp only
 obtain ⟨pk, pa⟩ := pg
 refine i9 m0 fun eaA0_0 laA0_0 => ?_
 subst eaA0_0
 refine Eq_ (Ew Z2 (Em rfl (Ey rfl ((Y.gtr rfl rfl).yd) (n0 (fun q13 => ?_) (fun q13 => ?_)))))
 ·refine Eu (l4 rfl (i8 (Et (Eq_ (E.block (Ew Z5 (Em rfl (Em rfl (f7 (Est rfl (N.call (pre := [_]) (a2S fc fc fc) rfl rfl rfl dc rfl (fun w Lp hA => ⟨hA.ro hs, hA.ro hbs⟩)) (fun k18 o18 => ?_)))))))))))
  obtain ⟨mr18, mi18, ml18, mc18, mq18, ⟨a18, m18, c18⟩⟩ := k18
  replace o18 : (-10 ≤ mr18 ∧ mr18 ≤ 10) ∧ mi18.length ≤ 3 ∧ (-10 ≤ ml18 ∧ ml18 ≤ 100) ∧ (-10 ≤ mc18 ∧ mc18 ≤ 100) ∧ -10 ≤ mq18 ∧ mq18 ≤ 100 := o18
  try (conv => arg 4; dsimp only)
  try (conv => arg 5; dsimp only [List.cons_append, List.nil_append, List.append_nil])
  refine i9 m0 fun e18 l18 => ?_
  subst e18
  refine Est rfl (N.alloc ty_Method dc) (fun b7 _ => (Est rfl (Ns [_, _, _, _, _] ty_Method rfl) (fun _ _ => (Eu (Ez Z5 (Em rfl (Ey rfl (o0 (cs := [_, _, _, _, _]) ty_Method rfl (Has.pt m0) rfl) (Est rfl (Nb [_] [_, _, _, _, _] us_Methods ty_Method rfl rfl) (fun b21 _ => (j6 (f7 (v7 (Est rfl (y6 (E := Z0) (ex := (mr18, mi18, ml18, mc18, mq18)) us_Methods ty_Method rfl rfl rfl (a2J (x := (mr18, mi18, ml18, mc18, mq18)) i6 Own.ow i6 i6 i6) rfl bn bn dc) (fun p22 _ => (Ei rfl (En (o4 (Et (Ez Z3 (Em rfl (Ey rfl ((Y.sub rfl rfl om om).yd) (Ei rfl (Eu (f7 (Ent.drop ?_)))))))))))))))))))))))))
  refine f7 (f7 ?_)
  exact u9 br (g + 1, ys ++ [(mr18, mi18, ml18, mc18, mq18)], p22.1, ((ys).length + 1), p22.2) ⟨rfl, rfl, rfl, frI om, trivial⟩ (.refl _) ⟨oz, (show (ys ++ [(mr18, mi18, ml18, mc18, mq18)]).length = (g + 1) ∧ ∀ m ∈ (ys ++ [(mr18, mi18, ml18, mc18, mq18)]), m.2.1.length ≤ 4 from by exact b5I pa om)⟩ oz
 ·refine Eu (l6 rfl (E.exit (n8 (n8 (w5 (Et (Ew Z2 (Em rfl (Ei rfl (Eu (E.ret (f7 (f7 ?_)))))))))))))
  exact F.r1 br rfl rfl (ys, (_, _, _)) (show (1 ≤ ys.length ∧ ys.length ≤ 4) ∧ ∀ m ∈ ys, m.2.1.length ≤ 4 from by exact ⟨by omega, pa.2⟩) rfl (J := _) (.refl _) (.inl rfl)
theorem a1V {bs : List UInt8} : Tr Tryz.prog 106 [.pointer (some ⟨b_c, 0, none⟩), .slice a_s m_s c_s] (fun w L => Ro w L eIs [.slice a_s m_s c_s] s ∧ Ro w L U3 [.slice a_b m_b c_b] bs) [cur b_c a_b m_b c_b] (κ := Int × (List Int) × Int × Int × Int × Option Addr × Nat × Nat) (fun k => (-10 ≤ k.1 ∧ k.1 ≤ 10) ∧ k.2.1.length ≤ 4 ∧ (-10 ≤ k.2.2.1 ∧ k.2.2.1 ≤ 100) ∧ (-10 ≤ k.2.2.2.1 ∧ k.2.2.2.1 ≤ 100) ∧ -10 ≤ k.2.2.2.2.1 ∧ k.2.2.2.2.1 ≤ 100) (fun k => .agg #[.int .i64 k.1, .slice k.2.2.2.2.2.1 k.2.2.2.2.2.2.1 k.2.2.2.2.2.2.2, .int .i64 k.2.2.1, .int .i64 k.2.2.2.1, .int .i64 k.2.2.2.2.1]) (fun k => [ow eIs [.slice k.2.2.2.2.2.1 k.2.2.2.2.2.2.1 k.2.2.2.2.2.2.2] k.2.1, cur b_c a_b m_b c_b]) := by
 refine Tr.intro Tryz.func106 rfl (n := 43) rfl (by decide +kernel) bl (fr := [(0, .pointer (some ⟨b_c, 0, none⟩)), (1, .slice a_s m_s c_s)]) rfl fun w L hR => ?_
 obtain ⟨hs, hbs⟩ := hR
 obtain ⟨rfl, ls⟩ := hs.slen
 obtain ⟨rfl, lb⟩ := hbs.slen
 refine Ew Z1 (Est rfl (N.alloc ty_Method dc) (fun b4 _ => (Ev Z3 (Ey rfl ((I6 (pvs := [_]) (cs := [_, _, _, _, _]) ty_Method a8D rfl rfl).yd) (Est rfl (N.alloc ty_Method dc) (fun b5 _ => (Est rfl (Ns [_, _, _, _, _] ty_Method rfl) (fun _ _ => (Eu (Eq_ (Ew Z2 (Em rfl (Est rfl (k6 L6 rfl rfl rfl dc (fun w Lp hA => hA.ro hs)) (fun _ _ => (Ent.b (fun q8 => ?_) (fun q8 => ?_))))))))))))))))
 ·refine Eu (l4 rfl (Ez Z4 (Em rfl (Em rfl (j6 (Est rfl (N.call (pre := [_]) (a2S (a0V q8).1 (a0V q8).2.2 (a0V q8).2.1) rfl rfl rfl dc rfl (fun w Lp hA => ⟨hA.ro hs, hA.ro hbs⟩)) (fun k11 o11 => ?_)))))))
  obtain ⟨mr11, mi11, ml11, mc11, mq11, ⟨a11, m11, c11⟩⟩ := k11
  replace o11 : (-10 ≤ mr11 ∧ mr11 ≤ 10) ∧ mi11.length ≤ 3 ∧ (-10 ≤ ml11 ∧ ml11 ≤ 100) ∧ (-10 ≤ mc11 ∧ mc11 ≤ 100) ∧ -10 ≤ mq11 ∧ mq11 ≤ 100 := o11
  try (conv => arg 4; dsimp only)
  try (conv => arg 5; dsimp only [List.cons_append, List.nil_append, List.append_nil])
  refine i9 m0 fun e11 l11 => ?_
  subst e11
  refine j6 (Est rfl (Ns [_, _, _, _, _] ty_Method rfl) (fun _ _ => (Eu (Eq_ (Ew Z2 (Em rfl (j6 (Est rfl (N.call (pre := [_]) x5 rfl rfl rfl dc rfl (fun w Lp hA => hA.ro hbs)) (fun x13 o13 => ?_)))))))))
  replace o13 : 0 ≤ x13 ∧ ((10 : Int) ≤ 0 → x13 = 0) ∧ (0 < (10 : Int) → x13 < (10 : Int)) := o13
  try (conv => arg 5; dsimp only [List.cons_append, List.nil_append, List.append_nil])
  refine Eu (E.block (Ew Z2 (Ey rfl ((Y.eql rfl rfl).yd) (Ei rfl (n0 (fun q14 => ?_) (fun q14 => ?_))))))
  ·refine Eu (l4 rfl (Ez Z5 (Em rfl (Est rfl (Nb [_, _, _] [_, _, _] us_Is f0 rfl rfl) (fun b17 _ => (n9 (A := [_]) (Own.ints (e := tI) (xs := [-1, 9, 10]) rfl (by simp [maxLen]) (by simp only [List.forall_mem_cons]; exact ⟨i6, i6, i6, List.forall_mem_nil _⟩)) rfl (f7 (Est rfl (N.call (pre := [_]) (G9 dc) rfl rfl rfl dc rfl (fun w Lp hA => ⟨hA.ow m0, hA.ro hbs⟩)) (fun x18 o18 => ?_)))))))))
   replace o18 : x18 ∈ ([-1, 9, 10]) := o18
   try (conv => arg 5; dsimp only [List.cons_append, List.nil_append, List.append_nil])
   have jp : -10 ≤ x18 ∧ x18 ≤ 100 := by simp at o18; omega
   refine Ey rfl ((i7 fo_Method_2 f0 dc rfl).yd) (j6 (Est rfl (Ns [_, _, _, _, _] f0 rfl) (fun _ _ => (En (o4 (Et (Ew Z2 (Ey rfl (o0 (cs := [_, _, _, _, _]) ty_Method rfl (Has.pt m0) rfl) (v7 (Est rfl (Ns [_, _, _, _, _] ty_Method rfl) (fun _ _ => (Eu (E.ret (v7 (m6 (f7 ?_))))))))))))))))
   exact J2 br rfl rfl (mS (mS m0)) ty_Method rfl (mr11, mi11, x18, mc11, mq11, (_, _, _)) (show (-10 ≤ mr11 ∧ mr11 ≤ 10) ∧ mi11.length ≤ 4 ∧ (-10 ≤ x18 ∧ x18 ≤ 100) ∧ (-10 ≤ mc11 ∧ mc11 ≤ 100) ∧ -10 ≤ mq11 ∧ mq11 ≤ 100 from by first | omega | (simp only [List.length_append, List.length_singleton, List.length_nil, List.length_cons]; omega)) rfl (J := _) (.refl _) (.inl rfl)
  ·refine Eu (l6 rfl (Ew Z2 (Ey rfl ((Y.eql rfl rfl).yd) (Ei rfl (n0 (fun q20 => ?_) (fun q20 => ?_))))))
   ·refine Eu (l4 rfl (O0 [b5] (fun j => !(Nat.beq j 8)) mixed (C0 0 rfl rfl dc (i7 fo_Method_1 ty_Is dc rfl) kr (Y6 1 rfl rfl dc (R2 ty_Is rfl ((O9.pt (mS m0) (by simp)).sub (cs' := [_]) 1 rfl) rfl) kr (C0 2 rfl rfl dc (j4 rfl) kr (F3 3 rfl rfl kr (fun _ _ => SameI.out) (N.call (pre := [_]) x5 rfl rfl rfl dc rfl (fun w Lp hA => hA.ro hbs)) (fun x25 o25 => ?_)))))))
    replace o25 : 0 ≤ x25 ∧ ((5 : Int) ≤ 0 → x25 = 0) ∧ (0 < (5 : Int) → x25 < (5 : Int)) := o25
    try (conv => arg 5; dsimp only [List.cons_append, List.nil_append, List.append_nil])
    refine C0 4 rfl rfl dc (Y.sub rfl rfl om om) kr (F3 5 rfl rfl kr (fun _ _ => SameI.out) (Nb [_] [_] us_Is f0 rfl rfl) (fun b27 _ => (m6 (F3 6 rfl rfl kr (fun _ _ => SameI.out) (y6 (E := Enc.int) (ex := (x25 - 1)) us_Is f0 rfl rfl rfl (Own.int i6) rfl bn bn dc) (fun p28 _ => (C0 7 rfl rfl dc (i7 fo_Method_1 ty_Is dc rfl) kr (j6 (F3 8 rfl rfl kr (fun h => by cases h) (Ns [_, _, _, _, _] ty_Is rfl) (fun _ _ => (Q6 kr (o4 (Et (Ew Z2 (Ey rfl (o0 (cs := [_, _, _, _, _]) ty_Method rfl (Has.pt m0) rfl) (m6 (Est rfl (Ns [_, _, _, _, _] ty_Method rfl) (fun _ _ => (Eu (E.ret (j6 (m6 (f7 ?_))))))))))))))))))))))
    exact J2 br rfl rfl (mS (mS m0)) ty_Method rfl (mr11, mi11 ++ [(x25 - 1)], ml11, mc11, mq11, (_, _, _)) (show (-10 ≤ mr11 ∧ mr11 ≤ 10) ∧ (mi11 ++ [(x25 - 1)]).length ≤ 4 ∧ (-10 ≤ ml11 ∧ ml11 ≤ 100) ∧ (-10 ≤ mc11 ∧ mc11 ≤ 100) ∧ -10 ≤ mq11 ∧ mq11 ≤ 100 from by first | omega | (simp only [List.length_append, List.length_singleton, List.length_nil, List.length_cons]; omega)) rfl (J := _) (.refl _) (.inl rfl)
   ·refine Eu (l6 rfl (Ew Z2 (Ey rfl ((Y.eql rfl rfl).yd) (Ei rfl (n0 (fun q30 => ?_) (fun q30 => ?_))))))
    ·refine Eu (l4 rfl (Ez Z5 (Em rfl (Est rfl (Nb [_, _, _] [_, _, _] us_Is f0 rfl rfl) (fun b33 _ => (n9 (A := [_]) (Own.ints (e := tI) (xs := [0, 99, 100]) rfl (by simp [maxLen]) (by simp only [List.forall_mem_cons]; exact ⟨i6, i6, i6, List.forall_mem_nil _⟩)) rfl (f7 (Est rfl (N.call (pre := [_]) (G9 dc) rfl rfl rfl dc rfl (fun w Lp hA => ⟨hA.ow m0, hA.ro hbs⟩)) (fun x34 o34 => ?_)))))))))
     replace o34 : x34 ∈ ([0, 99, 100]) := o34
     try (conv => arg 5; dsimp only [List.cons_append, List.nil_append, List.append_nil])
     have jp : -10 ≤ x34 ∧ x34 ≤ 100 := by simp at o34; omega
     refine Ey rfl ((i7 fo_Method_4 f0 dc rfl).yd) (j6 (Est rfl (Ns [_, _, _, _, _] f0 rfl) (fun _ _ => (En (o4 (Et (Ew Z2 (Ey rfl (o0 (cs := [_, _, _, _, _]) ty_Method rfl (Has.pt m0) rfl) (v7 (Est rfl (Ns [_, _, _, _, _] ty_Method rfl) (fun _ _ => (Eu (E.ret (v7 (m6 (f7 ?_))))))))))))))))
     exact J2 br rfl rfl (mS (mS m0)) ty_Method rfl (mr11, mi11, ml11, mc11, x34, (_, _, _)) (show (-10 ≤ mr11 ∧ mr11 ≤ 10) ∧ mi11.length ≤ 4 ∧ (-10 ≤ ml11 ∧ ml11 ≤ 100) ∧ (-10 ≤ mc11 ∧ mc11 ≤ 100) ∧ -10 ≤ x34 ∧ x34 ≤ 100 from by first | omega | (simp only [List.length_append, List.length_singleton, List.length_nil, List.length_cons]; omega)) rfl (J := _) (.refl _) (.inl rfl)
    ·refine Eu (l6 rfl (Ew Z2 (Ey rfl ((Y.eql rfl rfl).yd) (Ei rfl (n0 (fun q36 => ?_) (fun q36 => ?_))))))
     ·refine Eu (l4 rfl (Ez Z5 (Em rfl (Est rfl (Nb [_, _, _] [_, _, _] us_Is f0 rfl rfl) (fun b39 _ => (n9 (A := [_]) (Own.ints (e := tI) (xs := [-1, 99, 100]) rfl (by simp [maxLen]) (by simp only [List.forall_mem_cons]; exact ⟨i6, i6, i6, List.forall_mem_nil _⟩)) rfl (f7 (Est rfl (N.call (pre := [_]) (G9 dc) rfl rfl rfl dc rfl (fun w Lp hA => ⟨hA.ow m0, hA.ro hbs⟩)) (fun x40 o40 => ?_)))))))))
      replace o40 : x40 ∈ ([-1, 99, 100]) := o40
      try (conv => arg 5; dsimp only [List.cons_append, List.nil_append, List.append_nil])
      have jp : -10 ≤ x40 ∧ x40 ≤ 100 := by simp at o40; omega
      refine Ey rfl ((i7 fo_Method_3 f0 dc rfl).yd) (j6 (Est rfl (Ns [_, _, _, _, _] f0 rfl) (fun _ _ => (En (o4 (Et (Ew Z2 (Ey rfl (o0 (cs := [_, _, _, _, _]) ty_Method rfl (Has.pt m0) rfl) (v7 (Est rfl (Ns [_, _, _, _, _] ty_Method rfl) (fun _ _ => (Eu (E.ret (v7 (m6 (f7 ?_))))))))))))))))
      exact J2 br rfl rfl (mS (mS m0)) ty_Method rfl (mr11, mi11, ml11, x40, mq11, (_, _, _)) (show (-10 ≤ mr11 ∧ mr11 ≤ 10) ∧ mi11.length ≤ 4 ∧ (-10 ≤ ml11 ∧ ml11 ≤ 100) ∧ (-10 ≤ x40 ∧ x40 ≤ 100) ∧ -10 ≤ mq11 ∧ mq11 ≤ 100 from by first | omega | (simp only [List.length_append, List.length_singleton, List.length_nil, List.length_cons]; omega)) rfl (J := _) (.refl _) (.inl rfl)
     ·refine Eu (l6 rfl (i8 (o4 (Et (Ew Z2 (Ey rfl (o0 (cs := [_, _, _, _, _]) ty_Method rfl (Has.pt (mS m0)) rfl) (m6 (Est rfl (Ns [_, _, _, _, _] ty_Method rfl) (fun _ _ => (Eu (E.ret (m6 (j6 (f7 ?_))))))))))))))
      exact J2 br rfl rfl (mS (mS m0)) ty_Method rfl (mr11, mi11, ml11, mc11, mq11, (_, _, _)) (show (-10 ≤ mr11 ∧ mr11 ≤ 10) ∧ mi11.length ≤ 4 ∧ (-10 ≤ ml11 ∧ ml11 ≤ 100) ∧ (-10 ≤ mc11 ∧ mc11 ≤ 100) ∧ -10 ≤ mq11 ∧ mq11 ≤ 100 from by first | omega | (simp only [List.length_append, List.length_singleton, List.length_nil, List.length_cons]; omega)) rfl (J := _) (.refl _) (.inl rfl)
 ·refine Eu (l6 rfl (i8 (Et (Eq_ (Ew Z2 (Em rfl (j6 (Est rfl (N.call (pre := [_]) x5 rfl rfl rfl dc rfl (fun w Lp hA => hA.ro hbs)) (fun x13 o13 => ?_)))))))))
  replace o13 : 0 ≤ x13 ∧ ((10 : Int) ≤ 0 → x13 = 0) ∧ (0 < (10 : Int) → x13 < (10 : Int)) := o13
  try (conv => arg 5; dsimp only [List.cons_append, List.nil_append, List.append_nil])
  refine Eu (E.block (Ew Z2 (Ey rfl ((Y.eql rfl rfl).yd) (Ei rfl (n0 (fun q14 => ?_) (fun q14 => ?_))))))
  ·refine Eu (l4 rfl (Ez Z5 (Em rfl (Est rfl (Nb [_, _, _] [_, _, _] us_Is f0 rfl rfl) (fun b17 _ => (n9 (A := [_]) (Own.ints (e := tI) (xs := [-1, 9, 10]) rfl (by simp [maxLen]) (by simp only [List.forall_mem_cons]; exact ⟨i6, i6, i6, List.forall_mem_nil _⟩)) rfl (f7 (Est rfl (N.call (pre := [_]) (G9 dc) rfl rfl rfl dc rfl (fun w Lp hA => ⟨hA.ow m0, hA.ro hbs⟩)) (fun x18 o18 => ?_)))))))))
   replace o18 : x18 ∈ ([-1, 9, 10]) := o18
   try (conv => arg 5; dsimp only [List.cons_append, List.nil_append, List.append_nil])
   have jp : -10 ≤ x18 ∧ x18 ≤ 100 := by simp at o18; omega
   refine Ey rfl ((i7 fo_Method_2 f0 dc rfl).yd) (j6 (Est rfl (Ns [_, _, _, _, _] f0 rfl) (fun _ _ => (En (o4 (Et (Ew Z2 (Ey rfl (o0 (cs := [_, _, _, _, _]) ty_Method rfl (Has.pt m0) rfl) (m6 (Est rfl (Ns [_, _, _, _, _] ty_Method rfl) (fun _ _ => (Eu (E.ret (n9 (A := []) (Own.nil (E := Enc.int) (e := tI) (a := none)) rfl (m6 (f7 ?_))))))))))))))))
   exact J2 br rfl rfl (mS (mS m0)) ty_Method rfl (0, [], x18, 0, 1, (none, 0, 0)) (show (-10 ≤ (0 : Int) ∧ (0 : Int) ≤ 10) ∧ ([] : List Int).length ≤ 4 ∧ (-10 ≤ x18 ∧ x18 ≤ 100) ∧ (-10 ≤ (0 : Int) ∧ (0 : Int) ≤ 100) ∧ -10 ≤ (1 : Int) ∧ (1 : Int) ≤ 100 from by first | omega | (simp only [List.length_append, List.length_singleton, List.length_nil, List.length_cons]; omega)) rfl (J := _) (.refl _) (.inl rfl)
  ·refine Eu (l6 rfl (Ew Z2 (Ey rfl ((Y.eql rfl rfl).yd) (Ei rfl (n0 (fun q20 => ?_) (fun q20 => ?_))))))
   ·refine Eu (l4 rfl (O0 [b5] (fun j => !(Nat.beq j 8)) mixed (C0 0 rfl rfl dc (i7 fo_Method_1 ty_Is dc rfl) kr (Y6 1 rfl rfl dc (R2 ty_Is rfl ((O9.pt (mS m0) (by simp)).sub (cs' := [_]) 1 rfl) rfl) kr (C0 2 rfl rfl dc (j4 rfl) kr (F3 3 rfl rfl kr (fun _ _ => SameI.out) (N.call (pre := [_]) x5 rfl rfl rfl dc rfl (fun w Lp hA => hA.ro hbs)) (fun x25 o25 => ?_)))))))
    replace o25 : 0 ≤ x25 ∧ ((5 : Int) ≤ 0 → x25 = 0) ∧ (0 < (5 : Int) → x25 < (5 : Int)) := o25
    try (conv => arg 5; dsimp only [List.cons_append, List.nil_append, List.append_nil])
    refine C0 4 rfl rfl dc (Y.sub rfl rfl om om) kr (F3 5 rfl rfl kr (fun _ _ => SameI.out) (Nb [_] [_] us_Is f0 rfl rfl) (fun b27 _ => (n9 (A := []) (Own.nil (E := Enc.int) (e := tI) (a := none)) rfl (f7 (f7 (F3 6 rfl rfl kr (fun _ _ => SameI.out) (y6 (E := Enc.int) (ex := (x25 - 1)) us_Is f0 rfl rfl rfl (Own.int i6) rfl bn bn dc) (fun p28 _ => (C0 7 rfl rfl dc (i7 fo_Method_1 ty_Is dc rfl) kr (j6 (F3 8 rfl rfl kr (fun h => by cases h) (Ns [_, _, _, _, _] ty_Is rfl) (fun _ _ => (Q6 kr (o4 (Et (Ew Z2 (Ey rfl (o0 (cs := [_, _, _, _, _]) ty_Method rfl (Has.pt m0) rfl) (m6 (Est rfl (Ns [_, _, _, _, _] ty_Method rfl) (fun _ _ => (Eu (E.ret (j6 (m6 (f7 ?_))))))))))))))))))))))))
    exact J2 br rfl rfl (mS (mS m0)) ty_Method rfl (0, [] ++ [(x25 - 1)], 0, 0, 1, (_, _, _)) (show (-10 ≤ (0 : Int) ∧ (0 : Int) ≤ 10) ∧ ([] ++ [(x25 - 1)] : List Int).length ≤ 4 ∧ (-10 ≤ (0 : Int) ∧ (0 : Int) ≤ 100) ∧ (-10 ≤ (0 : Int) ∧ (0 : Int) ≤ 100) ∧ -10 ≤ (1 : Int) ∧ (1 : Int) ≤ 100 from by first | omega | (simp only [List.length_append, List.length_singleton, List.length_nil, List.length_cons]; omega)) rfl (J := _) (.refl _) (.inl rfl)
   ·refine Eu (l6 rfl (Ew Z2 (Ey rfl ((Y.eql rfl rfl).yd) (Ei rfl (n0 (fun q30 => ?_) (fun q30 => ?_))))))
    ·refine Eu (l4 rfl (Ez Z5 (Em rfl (Est rfl (Nb [_, _, _] [_, _, _] us_Is f0 rfl rfl) (fun b33 _ => (n9 (A := [_]) (Own.ints (e := tI) (xs := [0, 99, 100]) rfl (by simp [maxLen]) (by simp only [List.forall_mem_cons]; exact ⟨i6, i6, i6, List.forall_mem_nil _⟩)) rfl (f7 (Est rfl (N.call (pre := [_]) (G9 dc) rfl rfl rfl dc rfl (fun w Lp hA => ⟨hA.ow m0, hA.ro hbs⟩)) (fun x34 o34 => ?_)))))))))
     replace o34 : x34 ∈ ([0, 99, 100]) := o34
     try (conv => arg 5; dsimp only [List.cons_append, List.nil_append, List.append_nil])
     have jp : -10 ≤ x34 ∧ x34 ≤ 100 := by simp at o34; omega
     refine Ey rfl ((i7 fo_Method_4 f0 dc rfl).yd) (j6 (Est rfl (Ns [_, _, _, _, _] f0 rfl) (fun _ _ => (En (o4 (Et (Ew Z2 (Ey rfl (o0 (cs := [_, _, _, _, _]) ty_Method rfl (Has.pt m0) rfl) (m6 (Est rfl (Ns [_, _, _, _, _] ty_Method rfl) (fun _ _ => (Eu (E.ret (n9 (A := []) (Own.nil (E := Enc.int) (e := tI) (a := none)) rfl (m6 (f7 ?_))))))))))))))))
     exact J2 br rfl rfl (mS (mS m0)) ty_Method rfl (0, [], 0, 0, x34, (none, 0, 0)) (show (-10 ≤ (0 : Int) ∧ (0 : Int) ≤ 10) ∧ ([] : List Int).length ≤ 4 ∧ (-10 ≤ (0 : Int) ∧ (0 : Int) ≤ 100) ∧ (-10 ≤ (0 : Int) ∧ (0 : Int) ≤ 100) ∧ -10 ≤ x34 ∧ x34 ≤ 100 from by first | omega | (simp only [List.length_append, List.length_singleton, List.length_nil, List.length_cons]; omega)) rfl (J := _) (.refl _) (.inl rfl)
    ·refine Eu (l6 rfl (Ew Z2 (Ey rfl ((Y.eql rfl rfl).yd) (Ei rfl (n0 (fun q36 => ?_) (fun q36 => ?_))))))
     ·refine Eu (l4 rfl (Ez Z5 (Em rfl (Est rfl (Nb [_, _, _] [_, _, _] us_Is f0 rfl rfl) (fun b39 _ => (n9 (A := [_]) (Own.ints (e := tI) (xs := [-1, 99, 100]) rfl (by simp [maxLen]) (by simp only [List.forall_mem_cons]; exact ⟨i6, i6, i6, List.forall_mem_nil _⟩)) rfl (f7 (Est rfl (N.call (pre := [_]) (G9 dc) rfl rfl rfl dc rfl (fun w Lp hA => ⟨hA.ow m0, hA.ro hbs⟩)) (fun x40 o40 => ?_)))))))))
      replace o40 : x40 ∈ ([-1, 99, 100]) := o40
      try (conv => arg 5; dsimp only [List.cons_append, List.nil_append, List.append_nil])
      have jp : -10 ≤ x40 ∧ x40 ≤ 100 := by simp at o40; omega
      refine Ey rfl ((i7 fo_Method_3 f0 dc rfl).yd) (j6 (Est rfl (Ns [_, _, _, _, _] f0 rfl) (fun _ _ => (En (o4 (Et (Ew Z2 (Ey rfl (o0 (cs := [_, _, _, _, _]) ty_Method rfl (Has.pt m0) rfl) (m6 (Est rfl (Ns [_, _, _, _, _] ty_Method rfl) (fun _ _ => (Eu (E.ret (n9 (A := []) (Own.nil (E := Enc.int) (e := tI) (a := none)) rfl (m6 (f7 ?_))))))))))))))))
      exact J2 br rfl rfl (mS (mS m0)) ty_Method rfl (0, [], 0, x40, 1, (none, 0, 0)) (show (-10 ≤ (0 : Int) ∧ (0 : Int) ≤ 10) ∧ ([] : List Int).length ≤ 4 ∧ (-10 ≤ (0 : Int) ∧ (0 : Int) ≤ 100) ∧ (-10 ≤ x40 ∧ x40 ≤ 100) ∧ -10 ≤ (1 : Int) ∧ (1 : Int) ≤ 100 from by first | omega | (simp only [List.length_append, List.length_singleton, List.length_nil, List.length_cons]; omega)) rfl (J := _) (.refl _) (.inl rfl)
     ·refine Eu (l6 rfl (i8 (o4 (Et (Ew Z2 (Ey rfl (o0 (cs := [_, _, _, _, _]) ty_Method rfl (Has.pt (mS m0)) rfl) (j6 (Est rfl (Ns [_, _, _, _, _] ty_Method rfl) (fun _ _ => (Eu (E.ret (n9 (A := []) (Own.nil (E := Enc.int) (e := tI) (a := none)) rfl (j6 (f7 ?_))))))))))))))
      exact J2 br rfl rfl (mS (mS m0)) ty_Method rfl (0, [], 0, 0, 1, (none, 0, 0)) (show (-10 ≤ (0 : Int) ∧ (0 : Int) ≤ 10) ∧ ([] : List Int).length ≤ 4 ∧ (-10 ≤ (0 : Int) ∧ (0 : Int) ≤ 100) ∧ (-10 ≤ (0 : Int) ∧ (0 : Int) ≤ 100) ∧ -10 ≤ (1 : Int) ∧ (1 : Int) ≤ 100 from by first | omega | (simp only [List.length_append, List.length_singleton, List.length_nil, List.length_cons]; omega)) rfl (J := _) (.refl _) (.inl rfl)
theorem a7e {bs : List UInt8} (hl : l.length ≤ 5) (hli : ∀ m ∈ l, m.2.1.length ≤ 4) : Tr Tryz.prog 197 [.pointer (some ⟨b_c, 0, none⟩), .slice a_l m_l c_l] (fun w L => Ro w L C8 [.slice a_l m_l c_l] l ∧ Ro w L U3 [.slice a_b m_b c_b] bs) [cur b_c a_b m_b c_b] (κ := Int × (List Int) × Option Addr × Nat × Nat) (fun k => (0 ≤ k.1 ∧ k.1 ≤ 10) ∧ k.2.1.length ≤ 4) (fun k => .agg #[.int .i64 k.1, .slice k.2.2.1 k.2.2.2.1 k.2.2.2.2]) (fun k => [ow eIs [.slice k.2.2.1 k.2.2.2.1 k.2.2.2.2] k.2.1, cur b_c a_b m_b c_b]) := by
 refine Tr.intro Tryz.func197 rfl (n := 37) rfl (by decide +kernel) bl (fr := [(0, .pointer (some ⟨b_c, 0, none⟩)), (1, .slice a_l m_l c_l)]) rfl fun w L hR => ?_
 obtain ⟨hl, hbs⟩ := hR
 obtain ⟨rfl, ll⟩ := hl.slen
 obtain ⟨rfl, lb⟩ := hbs.slen
 refine Ew Z1 (Est rfl (N.alloc ty_Access dc) (fun b4 _ => (Eu (Eq_ (Ew Z3 (Em rfl (Ey rfl ((Y.len us_Methods rfl).yd) (Ey rfl ((Y.eql rfl rfl).yd) (n0 (fun q10 => ?_) (fun q10 => ?_))))))))))
 ·refine Eu (l4 rfl (Ew Z2 (Ey rfl ((I6 (pvs := []) (cs := [_, _]) ty_Access a1Z rfl rfl).yd) (Est rfl (Ns [_, _] ty_Access rfl) (fun _ _ => (Eu (E.ret (l0 (n9 (A := []) (Own.nil (E := Enc.int) (e := tI) (a := none)) rfl (j6 (f7 ?_)))))))))))
  exact J2 br rfl rfl (mS (mS m0)) ty_Access rfl (0, [], (none, 0, 0)) (show (0 ≤ (0 : Int) ∧ (0 : Int) ≤ 10) ∧ ([] : List Int).length ≤ 4 from by first | omega | simp) rfl (J := _) (.refl _) (.inl rfl)
 ·refine Eu (l6 rfl (i8 (Et (Ew Z7 (Em rfl (Em rfl (Ey rfl ((Y.len us_Methods rfl).yd) (f7 (Est rfl (N.call (pre := [_]) x5 rfl rfl rfl dc rfl (fun w Lp hA => hA.ro hbs)) (fun x15 o15 => ?_))))))))))
  replace o15 : 0 ≤ x15 ∧ ((↑l.length : Int) ≤ 0 → x15 = 0) ∧ (0 < (↑l.length : Int) → x15 < (↑l.length : Int)) := o15
  try (conv => arg 5; dsimp only [List.cons_append, List.nil_append, List.append_nil])
  have jx : x15.toNat < l.length := by omega
  have jz := hli _ (List.getElem_mem jx)
  refine Ey rfl ((I6 (pvs := [_]) (cs := [_, _]) ty_Access a1Z rfl rfl).yd) (Est rfl (N.alloc ty_Access dc) (fun b5 _ => (Est rfl (Ns [_, _] ty_Access rfl) (fun _ _ => (Eu (Eq_ (Ew Z1 (Ei rfl (Eu (E.block (n9 (A := []) (Own.nil (E := Enc.int) (e := tI) (a := none)) rfl (E.loop (κ := Nat × (List Int) × Option Addr × Nat × Nat) (fun g => g.1 ≤ l[x15.toNat].2.1.length ∧ g.2.1.length = g.1) (fun g => [(0, .pointer (some ⟨b_c, 0, none⟩)), (1, .slice a_l l.length c_l), (4, .pointer (some ⟨b4, 0, none⟩)), (5, .pointer (some ⟨b5, 0, none⟩)), (6, .int .i64 (↑g.1 : Int))]) (fun g => [ow eIs [.slice g.2.2.1 g.2.2.2.1 g.2.2.2.2] g.2.1, pt b5 74 [.int .i64 x15, .slice g.2.2.1 g.2.2.2.1 g.2.2.2.2], cur b_c a_b bs.length c_b, pt b4 74 [.int .i64 0, .slice none 0 0]]) (fun g => l[x15.toNat].2.1.length - g.1) (0, [], none, 0, 0) ⟨Nat.zero_le _, by rfl⟩ ⟨rfl, rfl, rfl, rfl, rfl, trivial⟩ (.refl _) (fun g pg => ?_)))))))))))))
  obtain ⟨g, vs, aA0_0, mA0_0, cA0_0⟩ := g
  try dsimp only at pg
  try dsimp only
  obtain ⟨pk, pa⟩ := pg
  refine i9 m0 fun eaA0_0 laA0_0 => ?_
  subst eaA0_0
  refine Eq_ (Ew Z9 (Em rfl (Em rfl (Ey rfl ((i7 fo_Access_0 f0 dc rfl).yd) (Ey rfl (f8 f0 rfl (Hz (mS m0) 0 rfl) rfl) ?_)))))
  obtain ⟨eb21, eo21, ec21, ea21, er21, el21, eh21⟩ := hl.elem x15.toNat om
  obtain ⟨xa21_0, xc21_0, rfl, ei21_0, xh21_0, ei21_2, ei21_3, ei21_4⟩ := H9 er21
  have := xh21_0.slen.2
  refine Ey rfl ((o6 us_Methods ty_Method rfl ea21 rfl x15.toNat om om).yd) (Ey rfl ((i7 fo_Method_1 ty_Is dc rfl).yd) (Ey rfl (f8 ty_Is rfl ((eh21 _).sub (cs' := [_]) 1 rfl) rfl) (Ey rfl ((Y.len us_Is rfl).yd) (Ey rfl ((Y.lss rfl rfl).yd) (n0 (fun q25 => ?_) (fun q25 => ?_))))))
  ·refine Eu (l4 rfl (i8 (Et (Eq_ (E.block (Ew Z3 (Em rfl (j6 (Est rfl (N.call (pre := [_]) x5 rfl rfl rfl dc rfl (fun w Lp hA => hA.ro hbs)) (fun x29 o29 => ?_))))))))))
   replace o29 : 0 ≤ x29 ∧ ((4 : Int) ≤ 0 → x29 = 0) ∧ (0 < (4 : Int) → x29 < (4 : Int)) := o29
   try (conv => arg 5; dsimp only [List.cons_append, List.nil_append, List.append_nil])
   refine Ei rfl (Eu (Ez Z7 (Ey rfl ((i7 fo_Access_1 ty_Is dc rfl).yd) (Ey rfl (f8 ty_Is rfl (Hz (mS (mS m0)) 1 rfl) rfl) (Em rfl (Est rfl (Nb [_] [_] us_Is f0 rfl rfl) (fun b33 _ => (j6 (Est rfl (y6 (E := Enc.int) (ex := x29) us_Is f0 rfl rfl rfl (Own.int i6) rfl bn bn dc) (fun p34 _ => (Ey rfl ((i7 fo_Access_1 ty_Is dc rfl).yd) (j6 (Est rfl (Ns [_, _] ty_Is rfl) (fun _ _ => (En (o4 (Et (Ez Z3 (Em rfl (Ey rfl ((Y.add rfl rfl om om).yd) (Ei rfl (Eu (m6 (m6 ?_))))))))))))))))))))))))
   refine j6 (m6 ?_)
   exact Ea (g + 1, vs ++ [x29], p34.1, ((vs).length + 1), p34.2) ⟨oz, (show (vs ++ [x29]).length = (g + 1) from by simp [pa])⟩
  ·refine Eu (l6 rfl (E.exit (n8 (n8 (w5 (Et (Ew Z2 (Ey rfl (o0 (cs := [_, _]) ty_Access rfl (Has.pt (mS m0)) rfl) (m6 (Est rfl (Ns [_, _] ty_Access rfl) (fun _ _ => (Eu (E.ret (f7 (m6 (f7 ?_))))))))))))))))
   exact J2 br rfl rfl (mS (mS m0)) ty_Access rfl (x15, vs, (_, _, _)) (show (0 ≤ x15 ∧ x15 ≤ 10) ∧ vs.length ≤ 4 from by first | omega | simp) rfl (J := _) (.refl _) (.inl rfl)
theorem a4S {bs : List UInt8} (hl : l.length ≤ 5) (hli : ∀ m ∈ l, m.2.1.length ≤ 4) : Tr Tryz.prog 138 [.pointer (some ⟨b_c, 0, none⟩), .slice a_l m_l c_l] (fun w L => Ro w L C8 [.slice a_l m_l c_l] l ∧ Ro w L U3 [.slice a_b m_b c_b] bs) [cur b_c a_b m_b c_b] (κ := Int × (List Int) × Option Addr × Nat × Nat) (fun k => (-10 ≤ k.1 ∧ k.1 ≤ 10) ∧ k.2.1.length ≤ 5) (fun k => .agg #[.int .i64 k.1, .slice k.2.2.1 k.2.2.2.1 k.2.2.2.2]) (fun k => [ow eIs [.slice k.2.2.1 k.2.2.2.1 k.2.2.2.2] k.2.1, cur b_c a_b m_b c_b]) := by
 refine Tr.intro Tryz.func138 rfl (n := 28) rfl (by decide +kernel) bl (fr := [(0, .pointer (some ⟨b_c, 0, none⟩)), (1, .slice a_l m_l c_l)]) rfl fun w L hR => ?_
 obtain ⟨hl, hbs⟩ := hR
 obtain ⟨rfl, ll⟩ := hl.slen
 obtain ⟨rfl, lb⟩ := hbs.slen
 refine Ew Z1 (Est rfl (N.alloc ty_Access dc) (fun b4 _ => (Ev Z5 (Em rfl (Em rfl (f7 (Est rfl (N.call (pre := [_]) (a7e fo fo) rfl rfl rfl dc rfl (fun w Lp hA => ⟨hA.ro hl, hA.ro hbs⟩)) (fun k8 o8 => ?_))))))))
 obtain ⟨am8, av8, ⟨a8, m8, c8⟩⟩ := k8
 replace o8 : (0 ≤ am8 ∧ am8 ≤ 10) ∧ av8.length ≤ 4 := o8
 try (conv => arg 4; dsimp only)
 try (conv => arg 5; dsimp only [List.cons_append, List.nil_append, List.append_nil])
 refine i9 m0 fun e8 l8 => ?_
 subst e8
 refine Est rfl (N.alloc ty_Access dc) (fun b5 _ => (Est rfl (Ns [_, _] ty_Access rfl) (fun _ _ => (Eu (Eq_ (Ew Z2 (Em rfl (j6 (Est rfl (N.call (pre := [_]) x5 rfl rfl rfl dc rfl (fun w Lp hA => hA.ro hbs)) (fun x10 o10 => ?_))))))))))
 replace o10 : 0 ≤ x10 ∧ ((12 : Int) ≤ 0 → x10 = 0) ∧ (0 < (12 : Int) → x10 < (12 : Int)) := o10
 try (conv => arg 5; dsimp only [List.cons_append, List.nil_append, List.append_nil])
 refine Eu (E.block (Ew Z2 (Ey rfl ((Y.eql rfl rfl).yd) (Ei rfl (n0 (fun q11 => ?_) (fun q11 => ?_))))))
 ·refine Eu (l4 rfl (Ez Z5 (Em rfl (Est rfl (N.call (pre := [_]) x5 rfl rfl rfl dc rfl (fun w Lp hA => hA.ro hbs)) (fun x14 o14 => ?_)))))
  replace o14 : 0 ≤ x14 ∧ ((7 : Int) ≤ 0 → x14 = 0) ∧ (0 < (7 : Int) → x14 < (7 : Int)) := o14
  try (conv => arg 5; dsimp only [List.cons_append, List.nil_append, List.append_nil])
  refine Ey rfl ((Y.sub rfl rfl om om).yd) (Ey rfl ((i7 fo_Access_0 f0 dc rfl).yd) (f7 (Est rfl (Ns [_, _] f0 rfl) (fun _ _ => (En (o4 (Et (Ew Z2 (Ey rfl (o0 (cs := [_, _]) ty_Access rfl (Has.pt m0) rfl) (m6 (Est rfl (Ns [_, _] ty_Access rfl) (fun _ _ => (Eu (E.ret (m6 (m6 (f7 ?_)))))))))))))))))
  exact J2 br rfl rfl (mS (mS m0)) ty_Access rfl ((x14 - 1), av8, (_, _, _)) (show (-10 ≤ (x14 - 1) ∧ (x14 - 1) ≤ 10) ∧ av8.length ≤ 5 from by first | omega | (simp only [List.length_append, List.length_singleton, List.length_nil, List.length_cons]; omega)) rfl (J := _) (.refl _) (.inl rfl)
 ·refine Eu (l6 rfl (Ew Z2 (Ey rfl ((Y.eql rfl rfl).yd) (Ei rfl (n0 (fun q17 => ?_) (fun q17 => ?_))))))
  ·refine Eu (l4 rfl (O0 [b5] (fun j => !(Nat.beq j 8)) mixed (C0 0 rfl rfl dc (i7 fo_Access_1 ty_Is dc rfl) kr (Y6 1 rfl rfl dc (R2 ty_Is rfl ((O9.pt (mS m0) (by simp)).sub (cs' := [_]) 1 rfl) rfl) kr (C0 2 rfl rfl dc (j4 rfl) kr (F3 3 rfl rfl kr (fun _ _ => SameI.out) (Nb [_, _, _] [_, _, _] us_Is f0 rfl rfl) (fun b22 _ => (n9 (A := [_]) (Own.ints (e := tI) (xs := [-1, 3, 10]) rfl (by simp [maxLen]) (by simp only [List.forall_mem_cons]; exact ⟨i6, i6, i6, List.forall_mem_nil _⟩)) rfl (f7 (F3 4 rfl rfl kr (fun _ _ => SameI.out) (N.call (pre := [_]) (G9 dc) rfl rfl rfl dc rfl (fun w Lp hA => ⟨hA.ow m0, hA.ro hbs⟩)) (fun x23 o23 => ?_)))))))))))
   replace o23 : x23 ∈ ([-1, 3, 10]) := o23
   try (conv => arg 5; dsimp only [List.cons_append, List.nil_append, List.append_nil])
   have jp : -10 ≤ x23 ∧ x23 ≤ 10 := by simp at o23; omega
   refine F3 5 rfl rfl kr (fun _ _ => SameI.out) (Nb [_] [_] us_Is f0 rfl rfl) (fun b24 _ => (v7 (F3 6 rfl rfl kr (fun _ _ => SameI.out) (y6 (E := Enc.int) (ex := x23) us_Is f0 rfl rfl rfl (Own.int i6) rfl bn bn dc) (fun p25 _ => (C0 7 rfl rfl dc (i7 fo_Access_1 ty_Is dc rfl) kr (m6 (F3 8 rfl rfl kr (fun h => by cases h) (Ns [_, _] ty_Is rfl) (fun _ _ => (Q6 kr (o4 (Et (Ew Z2 (Ey rfl (o0 (cs := [_, _]) ty_Access rfl (Has.pt m0) rfl) (v7 (Est rfl (Ns [_, _] ty_Access rfl) (fun _ _ => (Eu (E.ret (j6 (m6 (f7 ?_)))))))))))))))))))))
   exact J2 br rfl rfl (mS (mS m0)) ty_Access rfl (am8, av8 ++ [x23], (_, _, _)) (show (-10 ≤ am8 ∧ am8 ≤ 10) ∧ (av8 ++ [x23]).length ≤ 5 from by first | omega | (simp only [List.length_append, List.length_singleton, List.length_nil, List.length_cons]; omega)) rfl (J := _) (.refl _) (.inl rfl)
  ·refine Eu (l6 rfl (i8 (o4 (Et (Ew Z2 (Ey rfl (o0 (cs := [_, _]) ty_Access rfl (Has.pt (mS m0)) rfl) (m6 (Est rfl (Ns [_, _] ty_Access rfl) (fun _ _ => (Eu (E.ret (m6 (j6 (f7 ?_))))))))))))))
   exact J2 br rfl rfl (mS (mS m0)) ty_Access rfl (am8, av8, (_, _, _)) (show (-10 ≤ am8 ∧ am8 ≤ 10) ∧ av8.length ≤ 5 from by first | omega | (simp only [List.length_append, List.length_singleton, List.length_nil, List.length_cons]; omega)) rfl (J := _) (.refl _) (.inl rfl)
theorem a8K {bs : List UInt8} : Tr Tryz.prog 137 [.pointer (some ⟨b_c, 0, none⟩)] (fun w L => Ro w L U3 [.slice a_b m_b c_b] bs) [cur b_c a_b m_b c_b] (κ := (List Int) × (List (Int × List Int × Int × Int × Int)) × (List (Int × List Int)) × (Option Addr × Nat × Nat) × (Option Addr × Nat × Nat) × Option Addr × Nat × Nat) (fun k => (1 ≤ k.1.length ∧ k.1.length ≤ 4) ∧ (k.2.1.length ≤ 5 ∧ ∀ m ∈ k.2.1, m.2.1.length ≤ 4) ∧ k.2.2.1.length ≤ 9 ∧ ∀ f ∈ k.2.2.1, 1 ≤ f.2.length ∧ f.2.length ≤ 4) (fun k => .tuple #[.slice k.2.2.2.1.1 k.2.2.2.1.2.1 k.2.2.2.1.2.2, .slice k.2.2.2.2.1.1 k.2.2.2.2.1.2.1 k.2.2.2.2.1.2.2, .slice k.2.2.2.2.2.1 k.2.2.2.2.2.2.1 k.2.2.2.2.2.2.2]) (fun k => [ow eIs [.slice k.2.2.2.1.1 k.2.2.2.1.2.1 k.2.2.2.1.2.2] k.1, ow C8 [.slice k.2.2.2.2.1.1 k.2.2.2.2.1.2.1 k.2.2.2.2.1.2.2] k.2.1, ow r7 [.slice k.2.2.2.2.2.1 k.2.2.2.2.2.2.1 k.2.2.2.2.2.2.2] k.2.2.1, cur b_c a_b m_b c_b]) := by
 refine Tr.intro Tryz.func137 rfl (n := 38) rfl (by decide +kernel) bl (fr := [(0, .pointer (some ⟨b_c, 0, none⟩))]) rfl fun w L hR => ?_
 have hbs := hR
 obtain ⟨rfl, lb⟩ := hbs.slen
 refine Ew Z3 (Ei rfl (Ei rfl (Ei rfl (Ev Z3 (Em rfl (Est rfl (N.call (pre := [_]) a1x rfl rfl rfl dc rfl (fun w Lp hA => hA.ro hbs)) (fun k9 o9 => ?_)))))))
 obtain ⟨xs9, ⟨a9, m9, c9⟩⟩ := k9
 replace o9 : 1 ≤ xs9.length ∧ xs9.length ≤ 3 ∧ ∀ z ∈ xs9, 1 ≤ z ∧ z ≤ 3 := o9
 try (conv => arg 4; dsimp only)
 try (conv => arg 5; dsimp only [List.cons_append, List.nil_append, List.append_nil])
 refine i9 m0 fun e9 l9 => ?_
 subst e9
 refine Ei rfl (Ev Z4 (Em rfl (Em rfl (f7 (Est rfl (N.call (pre := [_]) (a2C o9.1 o9.2.2 o9.2.1) rfl rfl rfl dc rfl (fun w Lp hA => ⟨hA.ow m0, hA.ro hbs⟩)) (fun k12 o12 => ?_))))))
 obtain ⟨ms12, ⟨a12, m12, c12⟩⟩ := k12
 replace o12 : (1 ≤ ms12.length ∧ ms12.length ≤ 4) ∧ ∀ m ∈ ms12, m.2.1.length ≤ 4 := o12
 try (conv => arg 4; dsimp only)
 try (conv => arg 5; dsimp only [List.cons_append, List.nil_append, List.append_nil])
 refine i9 m0 fun e12 l12 => ?_
 subst e12
 refine Ei rfl (Ev Z4 (Em rfl (Em rfl (f7 (Est rfl (N.call (pre := [_]) (a3D o9.1 o9.2.2 (by first | omega | decide)) rfl rfl rfl dc rfl (fun w Lp hA => ⟨hA.ow (mS m0), hA.ro hbs⟩)) (fun k15 o15 => ?_))))))
 obtain ⟨fl15, ⟨a15, m15, c15⟩⟩ := k15
 replace o15 : (↑fl15.length : Int) ≤ (8 : Int) ∧ ∀ f ∈ fl15, 1 ≤ f.2.length ∧ f.2.length ≤ 3 := o15
 try (conv => arg 4; dsimp only)
 try (conv => arg 5; dsimp only [List.cons_append, List.nil_append, List.append_nil])
 refine i9 m0 fun e15 l15 => ?_
 subst e15
 refine Ei rfl (Eu (Eq_ (Ew Z2 (Em rfl (f7 (Est rfl (N.call (pre := [_]) x5 rfl rfl rfl dc rfl (fun w Lp hA => hA.ro hbs)) (fun x17 o17 => ?_)))))))
 replace o17 : 0 ≤ x17 ∧ ((20 : Int) ≤ 0 → x17 = 0) ∧ (0 < (20 : Int) → x17 < (20 : Int)) := o17
 try (conv => arg 5; dsimp only [List.cons_append, List.nil_append, List.append_nil])
 refine Eu (E.block (Ew Z2 (Ey rfl ((Y.eql rfl rfl).yd) (Ei rfl (n0 (fun q18 => ?_) (fun q18 => ?_))))))
 ·refine Eu (l4 rfl (Ez Z7 (Em rfl (Em rfl (Em rfl (Est rfl (N.call (pre := [_]) a1V rfl rfl rfl dc rfl (fun w Lp hA => ⟨hA.ow (mS (mS m0)), hA.ro hbs⟩)) (fun k23 o23 => ?_)))))))
  obtain ⟨mr23, mi23, ml23, mc23, mq23, ⟨a23, m23, c23⟩⟩ := k23
  replace o23 : (-10 ≤ mr23 ∧ mr23 ≤ 10) ∧ mi23.length ≤ 4 ∧ (-10 ≤ ml23 ∧ ml23 ≤ 100) ∧ (-10 ≤ mc23 ∧ mc23 ≤ 100) ∧ -10 ≤ mq23 ∧ mq23 ≤ 100 := o23
  try (conv => arg 4; dsimp only)
  try (conv => arg 5; dsimp only [List.cons_append, List.nil_append, List.append_nil])
  refine i9 m0 fun e23 l23 => ?_
  subst e23
  refine Est rfl (Nb [_] [_, _, _, _, _] us_Methods ty_Method rfl rfl) (fun b24 _ => (f7 (f7 (v7 (Est rfl (y6 (E := Z0) (ex := (mr23, mi23, ml23, mc23, mq23)) us_Methods ty_Method rfl rfl rfl (a2J (x := (mr23, mi23, ml23, mc23, mq23)) i6 Own.ow i6 i6 i6) rfl bn bn dc) (fun p25 _ => (Ei rfl (En (o4 (Et (Ew Z6 (Em rfl (Em rfl (Em rfl (Ei rfl (Ei rfl (Ei rfl (Eu (E.ret (j6 (f7 (m6 ?_))))))))))))))))))))))
  refine m6 (m6 (m6 (m6 ?_)))
  exact a7U br rfl rfl rfl rfl (xs9, ms12 ++ [(mr23, mi23, ml23, mc23, mq23)], fl15, (_, _, _), (_, _, _), (_, _, _)) (show (1 ≤ xs9.length ∧ xs9.length ≤ 4) ∧ ((ms12 ++ [(mr23, mi23, ml23, mc23, mq23)]).length ≤ 5 ∧ ∀ m ∈ (ms12 ++ [(mr23, mi23, ml23, mc23, mq23)]), m.2.1.length ≤ 4) ∧ fl15.length ≤ 9 ∧ ∀ f ∈ fl15, 1 ≤ f.2.length ∧ f.2.length ≤ 4 from by exact ⟨⟨by omega, by omega⟩, b3t o12 o23.2.1, a0J o15⟩) rfl (J := _) (.refl _) (.inl rfl)
 ·refine Eu (l6 rfl (Ew Z2 (Ey rfl ((Y.eql rfl rfl).yd) (Ei rfl (n0 (fun q26 => ?_) (fun q26 => ?_))))))
  ·refine Eu (l4 rfl (Ez Z4 (Em rfl (Em rfl (Est rfl (N.call (pre := [_]) a0S rfl rfl rfl dc rfl (fun w Lp hA => ⟨hA.ow (mS (mS m0)), hA.ro hbs⟩)) (fun k30 o30 => ?_))))))
   obtain ⟨fl30, ⟨a30, m30, c30⟩⟩ := k30
   replace o30 : fl30.length ≤ 9 ∧ ∀ f ∈ fl30, 1 ≤ f.2.length ∧ f.2.length ≤ 4 := o30
   try (conv => arg 4; dsimp only)
   try (conv => arg 5; dsimp only [List.cons_append, List.nil_append, List.append_nil])
   refine i9 m0 fun e30 l30 => ?_
   subst e30
   refine Ei rfl (En (o4 (Et (Ew Z6 (Em rfl (Em rfl (Em rfl (Ei rfl (Ei rfl (Ei rfl (Eu (E.ret (m6 (v7 (m6 (m6 (m6 (m6 ?_))))))))))))))))))
   exact a7U br rfl rfl rfl rfl (xs9, ms12, fl30, (_, _, _), (_, _, _), (_, _, _)) (show (1 ≤ xs9.length ∧ xs9.length ≤ 4) ∧ (ms12.length ≤ 5 ∧ ∀ m ∈ ms12, m.2.1.length ≤ 4) ∧ fl30.length ≤ 9 ∧ ∀ f ∈ fl30, 1 ≤ f.2.length ∧ f.2.length ≤ 4 from by exact ⟨⟨by omega, by omega⟩, a5j o12, o30⟩) rfl (J := _) (.refl _) (.inl rfl)
  ·refine Eu (l6 rfl (Ew Z2 (Ey rfl ((Y.eql rfl rfl).yd) (Ei rfl (n0 (fun q31 => ?_) (fun q31 => ?_))))))
   ·refine Eu (l4 rfl (Ez Z3 (Em rfl (Est rfl (N.call (pre := [_]) a1T rfl rfl rfl dc rfl (fun w Lp hA => hA.ro hbs)) (fun k34 o34 => ?_)))))
    obtain ⟨xs34, ⟨a34, m34, c34⟩⟩ := k34
    replace o34 : 1 ≤ xs34.length ∧ xs34.length ≤ 4 := o34
    try (conv => arg 4; dsimp only)
    try (conv => arg 5; dsimp only [List.cons_append, List.nil_append, List.append_nil])
    refine i9 m0 fun e34 l34 => ?_
    subst e34
    refine Ei rfl (En (o4 (Et (Ew Z6 (Em rfl (Em rfl (Em rfl (Ei rfl (Ei rfl (Ei rfl (Eu (E.ret (j6 (m6 (j6 (m6 (m6 (m6 (m6 ?_)))))))))))))))))))
    exact a7U br rfl rfl rfl rfl (xs34, ms12, fl15, (_, _, _), (_, _, _), (_, _, _)) (show (1 ≤ xs34.length ∧ xs34.length ≤ 4) ∧ (ms12.length ≤ 5 ∧ ∀ m ∈ ms12, m.2.1.length ≤ 4) ∧ fl15.length ≤ 9 ∧ ∀ f ∈ fl15, 1 ≤ f.2.length ∧ f.2.length ≤ 4 from by exact ⟨o34, a5j o12, a0J o15⟩) rfl (J := _) (.refl _) (.inl rfl)
   ·refine Eu (l6 rfl (i8 (o4 (Et (Ew Z6 (Em rfl (Em rfl (Em rfl (Ei rfl (Ei rfl (Ei rfl (Eu (E.ret (f7 (j6 (m6 (m6 (m6 (m6 (m6 ?_))))))))))))))))))))
    exact a7U br rfl rfl rfl rfl (xs9, ms12, fl15, (_, _, _), (_, _, _), (_, _, _)) (show (1 ≤ xs9.length ∧ xs9.length ≤ 4) ∧ (ms12.length ≤ 5 ∧ ∀ m ∈ ms12, m.2.1.length ≤ 4) ∧ fl15.length ≤ 9 ∧ ∀ f ∈ fl15, 1 ≤ f.2.length ∧ f.2.length ≤ 4 from by exact ⟨⟨by omega, by omega⟩, a5j o12, a0J o15⟩) rfl (J := _) (.refl _) (.inl rfl)
theorem a8U {bs : List UInt8} : Tr Tryz.prog 38 [.pointer (some ⟨b_c, 0, none⟩)] (fun w L => Ro w L U3 [.slice a_b m_b c_b] bs) [cur b_c a_b m_b c_b] (κ := (List Int) × (List (Int × List Int × Int × Int × Int)) × (List Int) × (List (Int × List Int)) × (Option Addr × Nat × Nat) × (Option Addr × Nat × Nat) × (Option Addr × Nat × Nat) × Option Addr × Nat × Nat) (fun k => (1 ≤ k.1.length ∧ k.1.length ≤ 4) ∧ (k.2.1.length ≤ 5 ∧ ∀ m ∈ k.2.1, m.2.1.length ≤ 4) ∧ dQ dT 3 3 k.2.2.1 k.2.2.2.1) (fun k => .tuple #[.slice k.2.2.2.2.1.1 k.2.2.2.2.1.2.1 k.2.2.2.2.1.2.2, .slice k.2.2.2.2.2.1.1 k.2.2.2.2.2.1.2.1 k.2.2.2.2.2.1.2.2, .agg #[.slice k.2.2.2.2.2.2.1.1 k.2.2.2.2.2.2.1.2.1 k.2.2.2.2.2.2.1.2.2, .slice k.2.2.2.2.2.2.2.1 k.2.2.2.2.2.2.2.2.1 k.2.2.2.2.2.2.2.2.2]]) (fun k => [ow eIs [.slice k.2.2.2.2.1.1 k.2.2.2.2.1.2.1 k.2.2.2.2.1.2.2] k.1, ow C8 [.slice k.2.2.2.2.2.1.1 k.2.2.2.2.2.1.2.1 k.2.2.2.2.2.1.2.2] k.2.1, ow eIs [.slice k.2.2.2.2.2.2.1.1 k.2.2.2.2.2.2.1.2.1 k.2.2.2.2.2.2.1.2.2] k.2.2.1, ow G8 [.slice k.2.2.2.2.2.2.2.1 k.2.2.2.2.2.2.2.2.1 k.2.2.2.2.2.2.2.2.2] k.2.2.2.1, cur b_c a_b m_b c_b]) := by
 refine Tr.intro Tryz.func38 rfl (n := 38) rfl (by decide +kernel) bl (fr := [(0, .pointer (some ⟨b_c, 0, none⟩))]) rfl fun w L hR => ?_
 have hbs := hR
 obtain ⟨rfl, lb⟩ := hbs.slen
 refine Ew Z3 (Ei rfl (Ei rfl (Est rfl (N.alloc ty_Query dc) (fun b4 _ => (Ev Z3 (Em rfl (f7 (Est rfl (N.call (pre := [_]) a1x rfl rfl rfl dc rfl (fun w Lp hA => hA.ro hbs)) (fun k9 o9 => ?_)))))))))
 obtain ⟨xs9, ⟨a9, m9, c9⟩⟩ := k9
 replace o9 : 1 ≤ xs9.length ∧ xs9.length ≤ 3 ∧ ∀ z ∈ xs9, 1 ≤ z ∧ z ≤ 3 := o9
 try (conv => arg 4; dsimp only)
 try (conv => arg 5; dsimp only [List.cons_append, List.nil_append, List.append_nil])
 refine i9 m0 fun e9 l9 => ?_
 subst e9
 refine Ei rfl (Ev Z4 (Em rfl (Em rfl (f7 (Est rfl (N.call (pre := [_]) (a2C o9.1 o9.2.2 o9.2.1) rfl rfl rfl dc rfl (fun w Lp hA => ⟨hA.ow m0, hA.ro hbs⟩)) (fun k12 o12 => ?_))))))
 obtain ⟨ms12, ⟨a12, m12, c12⟩⟩ := k12
 replace o12 : (1 ≤ ms12.length ∧ ms12.length ≤ 4) ∧ ∀ m ∈ ms12, m.2.1.length ≤ 4 := o12
 try (conv => arg 4; dsimp only)
 try (conv => arg 5; dsimp only [List.cons_append, List.nil_append, List.append_nil])
 refine i9 m0 fun e12 l12 => ?_
 subst e12
 refine Ei rfl (Ev Z5 (Em rfl (Em rfl (f7 (Est rfl (N.call (pre := [_]) (a3r o9.1 o9.2.2) rfl rfl rfl dc rfl (fun w Lp hA => ⟨hA.ow (mS m0), hA.ro hbs⟩)) (fun k15 o15 => ?_))))))
 obtain ⟨hq15, aq15, ⟨a15_0, m15_0, c15_0⟩, ⟨a15_1, m15_1, c15_1⟩⟩ := k15
 replace o15 : dQ kT 3 2 hq15 aq15 := o15
 try (conv => arg 4; dsimp only)
 try (conv => arg 5; dsimp only [List.cons_append, List.nil_append, List.append_nil])
 refine i9 m0 fun e15_0 l15_0 => ?_
 subst e15_0
 refine i9 (mS m0) fun e15_1 l15_1 => ?_
 subst e15_1
 refine Est rfl (N.alloc ty_Query dc) (fun b7 _ => (Est rfl (Ns [_, _] ty_Query rfl) (fun _ _ => (Eu (Eq_ (Ew Z2 (Em rfl (m6 (Est rfl (N.call (pre := [_]) x5 rfl rfl rfl dc rfl (fun w Lp hA => hA.ro hbs)) (fun x17 o17 => ?_))))))))))
 replace o17 : 0 ≤ x17 ∧ ((20 : Int) ≤ 0 → x17 = 0) ∧ (0 < (20 : Int) → x17 < (20 : Int)) := o17
 try (conv => arg 5; dsimp only [List.cons_append, List.nil_append, List.append_nil])
 refine Eu (E.block (Ew Z2 (Ey rfl ((Y.eql rfl rfl).yd) (Ei rfl (n0 (fun q18 => ?_) (fun q18 => ?_))))))
 ·refine Eu (l4 rfl (Ez Z7 (Em rfl (Em rfl (Em rfl (Est rfl (N.call (pre := [_]) a1V rfl rfl rfl dc rfl (fun w Lp hA => ⟨hA.ow (mS (mS (mS (mS m0)))), hA.ro hbs⟩)) (fun k23 o23 => ?_)))))))
  obtain ⟨mr23, mi23, ml23, mc23, mq23, ⟨a23, m23, c23⟩⟩ := k23
  replace o23 : (-10 ≤ mr23 ∧ mr23 ≤ 10) ∧ mi23.length ≤ 4 ∧ (-10 ≤ ml23 ∧ ml23 ≤ 100) ∧ (-10 ≤ mc23 ∧ mc23 ≤ 100) ∧ -10 ≤ mq23 ∧ mq23 ≤ 100 := o23
  try (conv => arg 4; dsimp only)
  try (conv => arg 5; dsimp only [List.cons_append, List.nil_append, List.append_nil])
  refine i9 m0 fun e23 l23 => ?_
  subst e23
  refine Est rfl (Nb [_] [_, _, _, _, _] us_Methods ty_Method rfl rfl) (fun b24 _ => (f7 (f7 (v8 (Est rfl (y6 (E := Z0) (ex := (mr23, mi23, ml23, mc23, mq23)) us_Methods ty_Method rfl rfl rfl (a2J (x := (mr23, mi23, ml23, mc23, mq23)) i6 Own.ow i6 i6 i6) rfl bn bn dc) (fun p25 _ => (Ei rfl (En (o4 (Et (Eq_ (D.region (fun j => !(Nat.beq j 5)) mixed (Dyp 0 rfl (j4 rfl) (Dyp 1 rfl (j4 rfl) (Dy 2 rfl (o0 (cs := [_, _]) ty_Query rfl (Has.pt (mS (mS m0))) rfl) (Dyp 3 rfl (G1 rfl) (Dyp 4 rfl (G1 rfl) (v8 (u7 5 rfl rfl kr (fun h => by cases h) (Ns [_, _] ty_Query rfl) (fun _ _ => (o3 kr (Et (E.ret (w9 (w9 ?_)))))))))))))))))))))))))
  refine m6 (v8 (w9 (v7 (v7 (v7 (v7 ?_))))))
  exact a9f br rfl rfl rfl rfl (mS (mS (mS (mS (mS m0))))) ty_Query rfl (xs9, ms12 ++ [(mr23, mi23, ml23, mc23, mq23)], hq15, aq15, (_, _, _), (_, _, _), (_, _, _), (_, _, _)) (show (1 ≤ xs9.length ∧ xs9.length ≤ 4) ∧ ((ms12 ++ [(mr23, mi23, ml23, mc23, mq23)]).length ≤ 5 ∧ ∀ m ∈ (ms12 ++ [(mr23, mi23, ml23, mc23, mq23)]), m.2.1.length ≤ 4) ∧ dQ dT 3 3 hq15 aq15 from by exact ⟨⟨by omega, by omega⟩, b3t o12 o23.2.1, o15.up⟩) rfl (J := _) (.refl _) (.inl rfl)
 ·refine Eu (l6 rfl (Ew Z2 (Ey rfl ((Y.eql rfl rfl).yd) (Ei rfl (n0 (fun q26 => ?_) (fun q26 => ?_))))))
  ·refine Eu (l4 rfl (Ez Z4 (Em rfl (Em rfl (Est rfl (N.call (pre := [_]) a9s rfl rfl rfl dc rfl (fun w Lp hA => ⟨hA.ow (mS (mS (mS (mS m0)))), hA.ro hbs⟩)) (fun k30 o30 => ?_))))))
   obtain ⟨hq30, aq30, ⟨a30_0, m30_0, c30_0⟩, ⟨a30_1, m30_1, c30_1⟩⟩ := k30
   replace o30 : dQ dT 3 3 hq30 aq30 := o30
   try (conv => arg 4; dsimp only)
   try (conv => arg 5; dsimp only [List.cons_append, List.nil_append, List.append_nil])
   refine i9 m0 fun e30_0 l30_0 => ?_
   subst e30_0
   refine i9 (mS m0) fun e30_1 l30_1 => ?_
   subst e30_1
   refine m6 (Est rfl (Ns [_, _] ty_Query rfl) (fun _ _ => (En (o4 (Et (Eq_ (D.region (fun j => !(Nat.beq j 5)) mixed (Dyp 0 rfl (j4 rfl) (Dyp 1 rfl (j4 rfl) (Dy 2 rfl (o0 (cs := [_, _]) ty_Query rfl (Has.pt m0) rfl) (Dyp 3 rfl (G1 rfl) (Dyp 4 rfl (G1 rfl) (Y0 (u7 5 rfl rfl kr (fun h => by cases h) (Ns [_, _] ty_Query rfl) (fun _ _ => (o3 kr (Et (E.ret (m6 (m6 (M3 (Y0 (v8 (v7 ?_))))))))))))))))))))))))
   refine v7 (v7 (v7 ?_))
   exact a9f br rfl rfl rfl rfl (mS (mS (mS (mS (mS m0))))) ty_Query rfl (xs9, ms12, hq30, aq30, (_, _, _), (_, _, _), (_, _, _), (_, _, _)) (show (1 ≤ xs9.length ∧ xs9.length ≤ 4) ∧ (ms12.length ≤ 5 ∧ ∀ m ∈ ms12, m.2.1.length ≤ 4) ∧ dQ dT 3 3 hq30 aq30 from by exact ⟨⟨by omega, by omega⟩, a5j o12, o30⟩) rfl (J := _) (.refl _) (.inl rfl)
  ·refine Eu (l6 rfl (Ew Z2 (Ey rfl ((Y.eql rfl rfl).yd) (Ei rfl (n0 (fun q31 => ?_) (fun q31 => ?_))))))
   ·refine Eu (l4 rfl (Ez Z3 (Em rfl (Est rfl (N.call (pre := [_]) a1T rfl rfl rfl dc rfl (fun w Lp hA => hA.ro hbs)) (fun k34 o34 => ?_)))))
    obtain ⟨xs34, ⟨a34, m34, c34⟩⟩ := k34
    replace o34 : 1 ≤ xs34.length ∧ xs34.length ≤ 4 := o34
    try (conv => arg 4; dsimp only)
    try (conv => arg 5; dsimp only [List.cons_append, List.nil_append, List.append_nil])
    refine i9 m0 fun e34 l34 => ?_
    subst e34
    refine Ei rfl (En (o4 (Et (Eq_ (D.region (fun j => !(Nat.beq j 5)) mixed (Dyp 0 rfl (j4 rfl) (Dyp 1 rfl (j4 rfl) (Dy 2 rfl (o0 (cs := [_, _]) ty_Query rfl (Has.pt (mS (mS m0))) rfl) (Dyp 3 rfl (G1 rfl) (Dyp 4 rfl (G1 rfl) (M3 (u7 5 rfl rfl kr (fun h => by cases h) (Ns [_, _] ty_Query rfl) (fun _ _ => (o3 kr (Et (E.ret (w9 (w9 (v8 (v7 (w9 (v7 (v7 ?_)))))))))))))))))))))))
    refine v7 (v7 ?_)
    exact a9f br rfl rfl rfl rfl (mS (mS (mS (mS (mS m0))))) ty_Query rfl (xs34, ms12, hq15, aq15, (_, _, _), (_, _, _), (_, _, _), (_, _, _)) (show (1 ≤ xs34.length ∧ xs34.length ≤ 4) ∧ (ms12.length ≤ 5 ∧ ∀ m ∈ ms12, m.2.1.length ≤ 4) ∧ dQ dT 3 3 hq15 aq15 from by exact ⟨o34, a5j o12, o15.up⟩) rfl (J := _) (.refl _) (.inl rfl)
   ·refine Eu (l6 rfl (i8 (o4 (Et (Eq_ (D.region (fun j => !(Nat.beq j 5)) mixed (Dyp 0 rfl (j4 rfl) (Dyp 1 rfl (j4 rfl) (Dy 2 rfl (o0 (cs := [_, _]) ty_Query rfl (Has.pt (mS m0)) rfl) (Dyp 3 rfl (G1 rfl) (Dyp 4 rfl (G1 rfl) (v8 (u7 5 rfl rfl kr (fun h => by cases h) (Ns [_, _] ty_Query rfl) (fun _ _ => (o3 kr (Et (E.ret (v7 (v7 (w9 (v8 (w9 (v7 (v7 (v7 ?_)))))))))))))))))))))))))
    refine v7 ?_
    exact a9f br rfl rfl rfl rfl (mS (mS (mS (mS (mS m0))))) ty_Query rfl (xs9, ms12, hq15, aq15, (_, _, _), (_, _, _), (_, _, _), (_, _, _)) (show (1 ≤ xs9.length ∧ xs9.length ≤ 4) ∧ (ms12.length ≤ 5 ∧ ∀ m ∈ ms12, m.2.1.length ≤ 4) ∧ dQ dT 3 3 hq15 aq15 from by exact ⟨⟨by omega, by omega⟩, a5j o12, o15.up⟩) rfl (J := _) (.refl _) (.inl rfl)
theorem a9F {code : List UInt8} (hcl : code.length ≤ 1048576) : Tr Tryz.prog 74 [.slice a_code m_code c_code] (fun w L => Ro w L U3 [.slice a_code m_code c_code] code) [] (κ := (List (Int × List Int × Int × Int × Int)) × (List (Int × List Int)) × (Option Addr × Nat × Nat) × Option Addr × Nat × Nat) (fun k => (k.1.length ≤ 5 ∧ ∀ m ∈ k.1, m.2.1.length ≤ 4) ∧ k.2.1.length ≤ 7 ∧ ∀ z ∈ k.2.1, z.2.length ≤ 5) (fun k => .tuple #[.slice k.2.2.1.1 k.2.2.1.2.1 k.2.2.1.2.2, .slice k.2.2.2.1 k.2.2.2.2.1 k.2.2.2.2.2]) (fun k => [ow C8 [.slice k.2.2.1.1 k.2.2.1.2.1 k.2.2.1.2.2] k.1, ow B5 [.slice k.2.2.2.1 k.2.2.2.2.1 k.2.2.2.2.2] k.2.1]) := by
 refine Tr.intro Tryz.func74 rfl (n := 33) rfl (by decide +kernel) bl (fr := [(0, .slice a_code m_code c_code)]) rfl fun w L hR => ?_
 have hcode := hR
 obtain ⟨rfl, lcode⟩ := hcode.slen
 refine Ew Z2 (Ei rfl (Ei rfl (Ev Z3 (Em rfl (Est rfl (N.call (a5a om) rfl rfl rfl dc rfl (fun w Lp hA => hA.ro hcode)) (fun b11 _ => ?_))))))
 have hbs := hcode
 refine Ei rfl (Ev Z9 (Em rfl (Est rfl (N.call (pre := [_]) a8K rfl rfl rfl dc rfl (fun w Lp hA => hA.ro hbs)) (fun k14 o14 => ?_))))
 obtain ⟨xs14, ms14, fl14, ⟨a14_0, m14_0, c14_0⟩, ⟨a14_1, m14_1, c14_1⟩, ⟨a14_2, m14_2, c14_2⟩⟩ := k14
 replace o14 : (1 ≤ xs14.length ∧ xs14.length ≤ 4) ∧ (ms14.length ≤ 5 ∧ ∀ m ∈ ms14, m.2.1.length ≤ 4) ∧ fl14.length ≤ 9 ∧ ∀ f ∈ fl14, 1 ≤ f.2.length ∧ f.2.length ≤ 4 := o14
 try (conv => arg 4; dsimp only)
 try (conv => arg 5; dsimp only [List.cons_append, List.nil_append, List.append_nil])
 refine i9 m0 fun e14_0 l14_0 => ?_
 subst e14_0
 refine i9 (mS m0) fun e14_1 l14_1 => ?_
 subst e14_1
 refine i9 (mS (mS m0)) fun e14_2 l14_2 => ?_
 subst e14_2
 refine Em rfl (Ey rfl ((Y.ext rfl rfl).yd) (Ey rfl ((Y.ext rfl rfl).yd) (Ey rfl ((Y.ext rfl rfl).yd) (Ei rfl (Ei rfl (Ei rfl (Ev Z2 (Est rfl (Nb [] [] us_Accesss ty_Access rfl rfl) (fun b18 _ => (Ent.drop (Ei rfl (Eu (Eq_ (Ew Z3 (Em rfl (m6 (Est rfl (N.call (pre := [_]) x5 rfl rfl rfl dc rfl (fun w Lp hA => hA.ro hbs)) (fun x20 o20 => ?_))))))))))))))))))
 replace o20 : 0 ≤ x20 ∧ ((8 : Int) ≤ 0 → x20 = 0) ∧ (0 < (8 : Int) → x20 < (8 : Int)) := o20
 try (conv => arg 5; dsimp only [List.cons_append, List.nil_append, List.append_nil])
 refine Ei rfl (Eu (E.block (n9 (A := []) (Own.nil (E := O3) (e := tAccess) (a := (some ⟨b18, 0, none⟩))) rfl (E.loop (κ := Nat × (List (Int × List Int)) × Option Addr × Nat × Nat) (fun g => g.1 ≤ (x20).toNat ∧ g.2.1.length = g.1 ∧ ∀ z ∈ g.2.1, z.2.length ≤ 5) (fun g => [(4, .pointer (some ⟨b11, 0, none⟩)), (6, .slice a14_1 (ms14).length c14_1), (8, .slice g.2.2.1 g.2.2.2.1 g.2.2.2.2), (9, .int .i64 (x20 - (↑g.1 : Int)))]) (fun g => [ow B5 [.slice g.2.2.1 g.2.2.2.1 g.2.2.2.2] g.2.1, cur b11 a_code code.length c_code, ow eIs [.slice a14_0 (xs14).length c14_0] xs14, ow C8 [.slice a14_1 (ms14).length c14_1] ms14, ow r7 [.slice a14_2 (fl14).length c14_2] fl14]) (fun g => (x20).toNat - g.1) (0, [], (some ⟨b18, 0, none⟩), 0, 0) ⟨Nat.zero_le _, by simp⟩ ⟨rfl, rfl, rfl, frI om, trivial⟩ (.refl _) (fun g pg => ?_)))))
 obtain ⟨g, ys, aA0_0, mA0_0, cA0_0⟩ := g
 try dsimp only at pg
 try dsimp only
 obtain ⟨pk, pa⟩ := pg
 refine i9 m0 fun eaA0_0 laA0_0 => ?_
 subst eaA0_0
 refine Eq_ (Ew Z2 (Em rfl (Ey rfl ((Y.gtr rfl rfl).yd) (n0 (fun q22 => ?_) (fun q22 => ?_)))))
 ·refine Eu (l4 rfl (i8 (Et (Eq_ (E.block (Ez Z7 (Em rfl (Em rfl (Em rfl (f7 (Est rfl (N.call (pre := [_]) (a4S o14.2.1.1 o14.2.1.2) rfl rfl rfl dc rfl (fun w Lp hA => ⟨hA.ow (mS (mS m0)), hA.ro hbs⟩)) (fun k28 o28 => ?_))))))))))))
  obtain ⟨am28, av28, ⟨a28, m28, c28⟩⟩ := k28
  replace o28 : (-10 ≤ am28 ∧ am28 ≤ 10) ∧ av28.length ≤ 5 := o28
  try (conv => arg 4; dsimp only)
  try (conv => arg 5; dsimp only [List.cons_append, List.nil_append, List.append_nil])
  refine i9 m0 fun e28 l28 => ?_
  subst e28
  refine Est rfl (Nb [_] [_, _] us_Accesss ty_Access rfl rfl) (fun b29 _ => (f7 (f7 (m6 (Est rfl (y6 (E := O3) (ex := (am28, av28)) us_Accesss ty_Access rfl rfl rfl (a2I (x := (am28, av28)) i6 Own.ow) rfl bn bn dc) (fun p30 _ => (Ei rfl (En (o4 (Et (Ez Z3 (Em rfl (Ey rfl ((Y.sub rfl rfl om om).yd) (Ei rfl (Eu (v7 (v7 (v7 (v7 (v7 ?_))))))))))))))))))))
  exact u9 br (g + 1, ys ++ [(am28, av28)], p30.1, ((ys).length + 1), p30.2) ⟨rfl, rfl, rfl, frI om, trivial⟩ (.refl _) ⟨oz, (show (ys ++ [(am28, av28)]).length = (g + 1) ∧ ∀ z ∈ (ys ++ [(am28, av28)]), z.2.length ≤ 5 from by exact b5b pa om)⟩ oz
 ·refine Eu (l6 rfl (E.exit (n8 (n8 (w5 (Et (Ew Z4 (Em rfl (Em rfl (Ei rfl (Ei rfl (Eu (E.ret (m6 (f7 (f7 ?_))))))))))))))))
  exact b0H br rfl rfl rfl (ms14, ys, (_, _, _), (_, _, _)) (show (ms14.length ≤ 5 ∧ ∀ m ∈ ms14, m.2.1.length ≤ 4) ∧ ys.length ≤ 7 ∧ ∀ z ∈ ys, z.2.length ≤ 5 from by exact ⟨o14.2.1, by omega, pa.2⟩) rfl (J := _) (.refl _) (.inl rfl)
theorem a2x {code : List UInt8} (hcl : code.length ≤ 1048576) : Tr Tryz.prog 21 [.slice a_code m_code c_code] (fun w L => Ro w L U3 [.slice a_code m_code c_code] code) [] (κ := (List (Int × List Int × Int × Int × Int)) × (List (Int × List Int)) × (Option Addr × Nat × Nat) × Option Addr × Nat × Nat) (fun k => (k.1.length ≤ 5 ∧ ∀ m ∈ k.1, m.2.1.length ≤ 4) ∧ k.2.1.length ≤ 7 ∧ ∀ z ∈ k.2.1, z.2.length ≤ 5) (fun k => .tuple #[.slice k.2.2.1.1 k.2.2.1.2.1 k.2.2.1.2.2, .slice k.2.2.2.1 k.2.2.2.2.1 k.2.2.2.2.2]) (fun k => [ow C8 [.slice k.2.2.1.1 k.2.2.1.2.1 k.2.2.1.2.2] k.1, ow B5 [.slice k.2.2.2.1 k.2.2.2.2.1 k.2.2.2.2.2] k.2.1]) := by
 refine Tr.intro Tryz.func21 rfl (n := 13) rfl (by decide +kernel) bl (fr := [(0, .slice a_code m_code c_code)]) rfl fun w L hR => ?_
 have hcode := hR
 obtain ⟨rfl, lcode⟩ := hcode.slen
 refine Ew Z2 (Ei rfl (Ei rfl (Ev Z7 (Em rfl (Est rfl (N.call (a9F fc) rfl rfl rfl dc rfl (fun w Lp hA => hA.ro hcode)) (fun k8 o8 => ?_))))))
 obtain ⟨ms8, lg8, ⟨a8_0, m8_0, c8_0⟩, ⟨a8_1, m8_1, c8_1⟩⟩ := k8
 replace o8 : (ms8.length ≤ 5 ∧ ∀ m ∈ ms8, m.2.1.length ≤ 4) ∧ lg8.length ≤ 7 ∧ ∀ z ∈ lg8, z.2.length ≤ 5 := o8
 try (conv => arg 4; dsimp only)
 try (conv => arg 5; dsimp only [List.cons_append, List.nil_append, List.append_nil])
 refine i9 m0 fun e8_0 l8_0 => ?_
 subst e8_0
 refine i9 (mS m0) fun e8_1 l8_1 => ?_
 subst e8_1
 refine Em rfl (Ey rfl ((Y.ext rfl rfl).yd) (Ey rfl ((Y.ext rfl rfl).yd) (Ei rfl (Ei rfl (Ev Z4 (Em rfl (Em rfl (Ei rfl (Ei rfl (Eu (E.ret (f7 (f7 (f7 (f7 ?_)))))))))))))))
 exact b0H br rfl rfl rfl (ms8, lg8, (_, _, _), (_, _, _)) (show (ms8.length ≤ 5 ∧ ∀ m ∈ ms8, m.2.1.length ≤ 4) ∧ lg8.length ≤ 7 ∧ ∀ z ∈ lg8, z.2.length ≤ 5 from by first | omega | (refine ⟨?_, ?_⟩ <;> omega) | grind) rfl (J := _) (.refl _) (.inl rfl)
theorem a5T {b0D : Int} {T4 : Int} {b_l : Nat} : Tr Tryz.prog 69 [.agg #[.int .i64 b0D, .int .i64 T4], .pointer (some ⟨b_l, 0, none⟩)] (fun w L => (I64 b0D ∧ I64 T4) ∧ RoPt w L b_l [.slice a_l m_l c_l] ∧ Ro w L C8 [.slice a_l m_l c_l] l) [] (κ := Unit) (fun k => True) (fun k => .bool (!(inR T4 0 ((l.length : Int) - 1) && decide ((atM l T4).2.2.1 = 0)))) (fun k => []) := by
 refine Tr.intro Tryz.func69 rfl (n := 20) rfl (by decide +kernel) bl (fr := [(0, .agg #[.int .i64 b0D, .int .i64 T4]), (1, .pointer (some ⟨b_l, 0, none⟩))]) rfl fun w L hR => ?_
 obtain ⟨⟨b8E, a7i⟩, hb_l, hl⟩ := hR
 obtain ⟨rfl, ll⟩ := hl.slen
 refine Ew Z2 (Est rfl (N.box (cs := [_, _]) rfl dc rfl) (fun b2 _ => (Ei rfl (Ev Z17 (Ey rfl ((i7 fo_Step_1 f0 dc rfl).yd) (Ey rfl (f8 f0 rfl (Hz m0 1 rfl) rfl) (Ey rfl (f8 ty_Methods rfl (hb_l.has) rfl) (Ey rfl ((Y.len us_Methods rfl).yd) (Ey rfl ((Y.sub rfl rfl om om).yd) (Est rfl (k6 I1 rfl rfl rfl dc tv) (fun _ _ => (Ent.b (fun q9 => ?_) (fun q9 => ?_)))))))))))))
 ·obtain ⟨z1, z2⟩ := a1G q9
  refine Ey rfl ((Y.not (b := true) rfl).yd) (Em rfl (Ey rfl (f8 ty_Methods rfl (hb_l.has) rfl) (Ey rfl ((i7 fo_Step_1 f0 dc rfl).yd) (Ey rfl (f8 f0 rfl (Hz m0 1 rfl) rfl) ?_))))
  obtain ⟨eb15, eo15, ec15, ea15, er15, el15, eh15⟩ := hl.elem T4.toNat om
  obtain ⟨xa15_0, xc15_0, rfl, ei15_0, xh15_0, ei15_2, ei15_3, ei15_4⟩ := H9 er15
  have := xh15_0.slen.2
  refine Ey rfl ((o6 us_Methods ty_Method rfl ea15 rfl T4.toNat om om).yd) (Ey rfl ((i7 fo_Method_2 f0 dc rfl).yd) (Ey rfl (f8 f0 rfl ((eh15 _).sub (cs' := [_]) 2 rfl) rfl) (Ey rfl ((Y.neq rfl rfl).yd) (Ey rfl ((r9 rfl rfl).yd) (Ei rfl ?_)))))
  exact Eu (E.ret (Fb rfl rfl (by rw [q9, K8 (show T4.toNat < l.length by omega)]; simp)))
 ·refine Ey rfl ((Y.not (b := false) rfl).yd) (Em rfl (Es rfl (Es rfl (Es rfl (Es rfl (Es rfl (Es rfl (Es rfl (Ey rfl ((s6 rfl rfl).yd) (Ei rfl ?_))))))))))
  exact Eu (E.ret (Fb rfl rfl (by rw [q9]; rfl)))
theorem a3t : Tr Tryz.prog 16 [.slice a_l m_l c_l, .slice a_steps m_steps c_steps] (fun w L => Ro w L C8 [.slice a_l m_l c_l] l ∧ Ro w L H5 [.slice a_steps m_steps c_steps] c6) [] (κ := Unit) (fun k => True) (fun k => .bool (a0C l c6)) (fun k => []) := by
 refine Tr.intro Tryz.func16 rfl (n := 9) rfl (by decide +kernel) bl (fr := [(0, .slice a_l m_l c_l), (1, .slice a_steps m_steps c_steps)]) rfl fun w L hR => ?_
 obtain ⟨hl, hsteps⟩ := hR
 obtain ⟨rfl, ll⟩ := hl.slen
 obtain ⟨rfl, lsteps⟩ := hsteps.slen
 refine Ew Z2 (Est rfl (N.box (cs := [_]) rfl dc rfl) (fun b2 _ => (Ei rfl (Ev Z5 (Em rfl (Ey rfl ((Y.fn (vs := [_]) rfl).yd) (Est rfl (k6 (a4A (f := (fun z => !(inR z.2 0 ((l.length : Int) - 1) && decide ((atM l z.2).2.2.1 = 0)))) (D_f := (fun _ => True)) (by intros; exact trivial)) rfl rfl rfl dc (fun w Lp hA => ⟨hA.ro hsteps, b2n (D := (fun _ => True)) (fun hd => a5T) (fun w' hk => ⟨(hA.pt m0).keep hk, (hA.ro hl).keep hk⟩)⟩)) (fun _ _ => (Ey rfl ((Y.not rfl).yd) (Ei rfl ?_))))))))))
 exact Eu (E.ret (Fb rfl rfl (by rw [a0C, List.all_eq_not_any_not])))
theorem a7y : Tr Tryz.prog 24 [.slice a_l m_l c_l, .slice a_steps m_steps c_steps] (fun w L => Ro w L C8 [.slice a_l m_l c_l] l ∧ Ro w L H5 [.slice a_steps m_steps c_steps] c6) [] (κ := Unit) (fun k => True) (fun k => .bool (a0C l c6)) (fun k => []) := by
 refine Tr.intro Tryz.func24 rfl (n := 34) rfl (by decide +kernel) bl (fr := [(0, .slice a_l m_l c_l), (1, .slice a_steps m_steps c_steps)]) rfl fun w L hR => ?_
 obtain ⟨hl, hsteps⟩ := hR
 obtain ⟨rfl, ll⟩ := hl.slen
 obtain ⟨rfl, lsteps⟩ := hsteps.slen
 refine Ew Z1 (Ei rfl (Eu (Eq_ (Ew Z1 (Ei rfl (Eu (E.block (E.loop (κ := Nat) (fun g => g ≤ c6.length ∧ a0C l c6 = a0C l (c6.drop g)) (fun g => [(0, .slice a_l l.length c_l), (1, .slice a_steps c6.length c_steps), (5, .int .i64 (g : Int))]) (fun g => []) (fun g => c6.length - g) 0 ⟨Nat.zero_le _, by rfl⟩ ⟨rfl, rfl, rfl, trivial⟩ (.refl _) (fun g pg => ?_)))))))))
 obtain ⟨pk, pa⟩ := pg
 refine Eq_ (Ew Z4 (Em rfl (Em rfl (Ey rfl ((Y.len us_Steps rfl).yd) (Ey rfl ((Y.lss rfl rfl).yd) (n0 (fun q9 => ?_) (fun q9 => ?_)))))))
 ·refine Eu (l4 rfl (i8 (Et (Eq_ (E.block (Ew Z22 (Em rfl (Em rfl ?_))))))))
  obtain ⟨eb14, eo14, ec14, ea14, er14, el14, eh14⟩ := hsteps.elem g om
  obtain ⟨rfl, ei14_0, ei14_1⟩ := a0p er14
  refine Ey rfl ((o6 us_Steps ty_Step rfl ea14 rfl g rfl om).yd) (Ey rfl ((i7 fo_Step_1 f0 dc rfl).yd) (Ey rfl (f8 f0 rfl ((eh14 _).sub (cs' := [_]) 1 rfl) rfl) (Em rfl (Ey rfl ((Y.len us_Methods rfl).yd) (Ey rfl ((Y.sub rfl rfl om om).yd) (Est rfl (k6 F9 rfl rfl rfl dc tv) (fun _ _ => (Ent.b (fun q20 => ?_) (fun q20 => ?_)))))))))
  ·obtain ⟨z1, z2⟩ := a1G q20
   refine Ey rfl ((Y.not (b := true) rfl).yd) (Em rfl (Em rfl (Em rfl (Em rfl (Ey rfl ((o6 us_Steps ty_Step rfl ea14 rfl g rfl om).yd) (Ey rfl ((i7 fo_Step_1 f0 dc rfl).yd) (Ey rfl (f8 f0 rfl ((eh14 _).sub (cs' := [_]) 1 rfl) rfl) ?_)))))))
   obtain ⟨eb29, eo29, ec29, ea29, er29, el29, eh29⟩ := hl.elem c6[g].2.toNat om
   obtain ⟨xa29_0, xc29_0, rfl, ei29_0, xh29_0, ei29_2, ei29_3, ei29_4⟩ := H9 er29
   have := xh29_0.slen.2
   refine Ey rfl ((o6 us_Methods ty_Method rfl ea29 rfl c6[g].2.toNat om om).yd) (Ey rfl ((i7 fo_Method_2 f0 dc rfl).yd) (Ey rfl (f8 f0 rfl ((eh29 _).sub (cs' := [_]) 2 rfl) rfl) (Ey rfl ((Y.neq rfl rfl).yd) (n0 (fun q32 => ?_) (fun q32 => ?_)))))
   ·refine Ey rfl ((r9 rfl rfl).yd) (Eu (l4 rfl (Ew Z1 (Ei rfl ?_))))
    exact Eu (E.ret (t7 (l0 (l0 (t7 (l0 (Fb rfl rfl (by rw [pa, b5S om om q32]))))))))
   ·refine Ey rfl ((r9 rfl rfl).yd) (Eu (l6 rfl (i8 (o4 (Et (Ez Z3 (Em rfl (Ey rfl ((Y.add rfl rfl om om).yd) (Ei rfl ?_)))))))))
    exact Eu (u9 br (g + 1) rs (.refl _) ⟨by omega, by rw [pa]; exact b4c om q20 om (Decidable.not_not.1 q32)⟩ om)
  ·refine Ey rfl ((Y.not (b := false) rfl).yd) (Em rfl (Es rfl (Es rfl (Es rfl (Es rfl (Es rfl (Es rfl (Es rfl (Es rfl (Es rfl (Es rfl (Ey rfl ((s6 rfl rfl).yd) (Eu (l4 rfl (Ew Z1 (Ei rfl ?_))))))))))))))))
   exact Eu (E.ret (t7 (l0 (l0 (t7 (l0 (Fb rfl rfl (by rw [pa, b5L om q20]))))))))
 ·refine Eu (l6 rfl (E.exit (n8 (n8 (w5 (Et (Ew Z1 (Ei rfl ?_))))))))
  exact Eu (E.ret (Fb rfl rfl (by rw [pa, b5h om])))
theorem a1d (hs : c6.length ≤ 1000) : Tr Tryz.prog 111 [.slice a_l m_l c_l, .slice a_steps m_steps c_steps] (fun w L => Ro w L C8 [.slice a_l m_l c_l] l ∧ Ro w L H5 [.slice a_steps m_steps c_steps] c6) [] (κ := Int) (fun k => 0 ≤ k ∧ k ≤ 99000) (fun k => .int .i64 k) (fun k => []) := by
 refine Tr.intro Tryz.func111 rfl (n := 46) rfl (by decide +kernel) bl (fr := [(0, .slice a_l m_l c_l), (1, .slice a_steps m_steps c_steps)]) rfl fun w L hR => ?_
 obtain ⟨hl, hsteps⟩ := hR
 obtain ⟨rfl, ll⟩ := hl.slen
 obtain ⟨rfl, lsteps⟩ := hsteps.slen
 refine Ew Z1 (Ei rfl (Ev Z1 (Ei rfl (Eu (Eq_ (Ew Z1 (Ei rfl (Eu (E.block (E.loop (κ := Nat × Int) (fun g => g.1 ≤ c6.length ∧ 0 ≤ g.2 ∧ g.2 ≤ 99 * g.1) (fun g => [(0, .slice a_l l.length c_l), (1, .slice a_steps c6.length c_steps), (5, .int .i64 g.2), (6, .int .i64 (↑g.1 : Int))]) (fun g => []) (fun g => c6.length - g.1) (0, 0) ⟨Nat.zero_le _, by omega⟩ ⟨rfl, rfl, rfl, rfl, trivial⟩ (.refl _) (fun g pg => ?_)))))))))))
 obtain ⟨g, nn⟩ := g
 try dsimp only at pg
 try dsimp only
 obtain ⟨pk, pa⟩ := pg
 refine Eq_ (Ew Z4 (Em rfl (Em rfl (Ey rfl ((Y.len us_Steps rfl).yd) (Ey rfl ((Y.lss rfl rfl).yd) (n0 (fun q10 => ?_) (fun q10 => ?_)))))))
 ·refine Eu (l4 rfl (i8 (Et (Eq_ (E.block (Ew Z21 (Em rfl (Em rfl ?_))))))))
  obtain ⟨eb15, eo15, ec15, ea15, er15, el15, eh15⟩ := hsteps.elem g om
  obtain ⟨rfl, ei15_0, ei15_1⟩ := a0p er15
  refine Ey rfl ((o6 us_Steps ty_Step rfl ea15 rfl g rfl om).yd) (Ey rfl ((i7 fo_Step_1 f0 dc rfl).yd) (Ey rfl (f8 f0 rfl ((eh15 _).sub (cs' := [_]) 1 rfl) rfl) (Em rfl (Ey rfl ((Y.len us_Methods rfl).yd) (Ey rfl ((Y.sub rfl rfl om om).yd) (Est rfl (k6 F9 rfl rfl rfl dc tv) (fun _ _ => (Ent.b (fun q21 => ?_) (fun q21 => ?_)))))))))
  ·obtain ⟨z3, z4⟩ := a1G q21
   refine Em rfl (Em rfl (Em rfl (Em rfl (Ey rfl ((o6 us_Steps ty_Step rfl ea15 rfl g rfl om).yd) (Ey rfl ((i7 fo_Step_1 f0 dc rfl).yd) (Ey rfl (f8 f0 rfl ((eh15 _).sub (cs' := [_]) 1 rfl) rfl) ?_))))))
   obtain ⟨eb29, eo29, ec29, ea29, er29, el29, eh29⟩ := hl.elem c6[g].2.toNat om
   obtain ⟨xa29_0, xc29_0, rfl, ei29_0, xh29_0, ei29_2, ei29_3, ei29_4⟩ := H9 er29
   have := xh29_0.slen.2
   refine Ey rfl ((o6 us_Methods ty_Method rfl ea29 rfl c6[g].2.toNat om om).yd) (Ey rfl ((i7 fo_Method_3 f0 dc rfl).yd) (Ey rfl (f8 f0 rfl ((eh29 _).sub (cs' := [_]) 3 rfl) rfl) (Est rfl (k6 F9 rfl rfl rfl dc tv) (fun _ _ => (Ent.b (fun q32 => ?_) (fun q32 => ?_))))))
   ·obtain ⟨z1, z2⟩ := a1G q32
    refine Ey rfl ((s6 rfl rfl).yd) (Eu (l4 rfl (Ez Z12 (Em rfl (Em rfl (Em rfl (Em rfl (Ey rfl ((o6 us_Steps ty_Step rfl ea15 rfl g rfl om).yd) (Ey rfl ((i7 fo_Step_1 f0 dc rfl).yd) (Ey rfl (f8 f0 rfl ((eh15 _).sub (cs' := [_]) 1 rfl) rfl) (Ey rfl ((o6 us_Methods ty_Method rfl ea29 rfl c6[g].2.toNat om om).yd) (Ey rfl ((i7 fo_Method_3 f0 dc rfl).yd) (Ey rfl (f8 f0 rfl ((eh29 _).sub (cs' := [_]) 3 rfl) rfl) (Ey rfl ((Y.add rfl rfl om om).yd) (Ei rfl (En (o4 (Et (Ez Z3 (Em rfl (Ey rfl ((Y.add rfl rfl om om).yd) ?_)))))))))))))))))))))
    refine Ei rfl ?_
    exact Eu (u9 br (g + 1, (nn + (l[c6[g].2.toNat].2.2.2.1))) rs (.refl _) ⟨oz, oz⟩ oz)
   ·refine Ey rfl ((s6 rfl rfl).yd) (Eu (l6 rfl (i8 (o4 (Et (Ez Z3 (Em rfl (Ey rfl ((Y.add rfl rfl om om).yd) (Ei rfl ?_)))))))))
    exact Eu (u9 br (g + 1, nn) rs (.refl _) ⟨oz, oz⟩ oz)
  ·refine Em rfl (Es rfl (Es rfl (Es rfl (Es rfl (Es rfl (Es rfl (Es rfl (Es rfl (Es rfl (Es rfl (Ey rfl ((r9 rfl rfl).yd) (Eu (l6 rfl (i8 (o4 (Et (Ez Z3 (Em rfl (Ey rfl ((Y.add rfl rfl om om).yd) (Ei rfl ?_))))))))))))))))))))
   exact Eu (u9 br (g + 1, nn) rs (.refl _) ⟨oz, oz⟩ oz)
 ·refine Eu (l6 rfl (E.exit (n8 (n8 (w5 (Et (Ew Z2 (Em rfl (Ei rfl ?_)))))))))
  exact Eu (E.ret (F.r1 br rfl rfl nn (show 0 ≤ nn ∧ nn ≤ 99000 from by omega) rfl (J := _) (.refl _) (.inl rfl)))
theorem a4D (Nr : Nat) (hNr : a6.length - c6.length = Nr) (ih : ∀ {a_l : Option Addr} {m_l c_l : Nat} {l : List (Int × List Int × Int × Int × Int)} {r6 : Option Addr} {t6 r5 : Nat} {f9 : List Int} {o2 : Option Addr} {s7 o1 : Nat} {a6 : List (Int × List Int)} {a_steps : Option Addr} {m_steps c_steps : Nat} {c6 : List (Int × Int)} {a_bound : Option Addr} {m_bound c_bound : Nat} {H0 : List Int} {a_best : Option Addr} {m_best c_best : Nat} {best : List (Int × Int)} (hln : l.length ≤ 1000) (hqa : a6.length ≤ 4) (hqt : ∀ a ∈ a6, a.2.length ≤ 3) (hst : c6.length ≤ a6.length) (hbd : H0.length ≤ 3 * c6.length) (hbe : best.length ≤ 4), a6.length - c6.length < Nr → Tr Tryz.prog 110 [.slice a_l m_l c_l, .agg #[.slice r6 t6 r5, .slice o2 s7 o1], .slice a_steps m_steps c_steps, .slice a_bound m_bound c_bound, .slice a_best m_best c_best] (fun w L => Ro w L C8 [.slice a_l m_l c_l] l ∧ Ro w L eIs [.slice r6 t6 r5] f9 ∧ Ro w L G8 [.slice o2 s7 o1] a6 ∧ Ro w L H5 [.slice a_steps m_steps c_steps] c6 ∧ Ro w L eIs [.slice a_bound m_bound c_bound] H0) [ow H5 [.slice a_best m_best c_best] best] (κ := (List (Int × Int)) × Option Addr × Nat × Nat) (fun k => k.1.length ≤ 4) (fun k => .slice k.2.1 k.2.2.1 k.2.2.2) (fun k => [ow H5 [.slice k.2.1 k.2.2.1 k.2.2.2] k.1])) (hln : l.length ≤ 1000) (hqa : a6.length ≤ 4) (hqt : ∀ a ∈ a6, a.2.length ≤ 3) (hst : c6.length ≤ a6.length) (hbd : H0.length ≤ 3 * c6.length) (hbe : best.length ≤ 4) : Tr Tryz.prog 110 [.slice a_l m_l c_l, .agg #[.slice r6 t6 r5, .slice o2 s7 o1], .slice a_steps m_steps c_steps, .slice a_bound m_bound c_bound, .slice a_best m_best c_best] (fun w L => Ro w L C8 [.slice a_l m_l c_l] l ∧ Ro w L eIs [.slice r6 t6 r5] f9 ∧ Ro w L G8 [.slice o2 s7 o1] a6 ∧ Ro w L H5 [.slice a_steps m_steps c_steps] c6 ∧ Ro w L eIs [.slice a_bound m_bound c_bound] H0) [ow H5 [.slice a_best m_best c_best] best] (κ := (List (Int × Int)) × Option Addr × Nat × Nat) (fun k => k.1.length ≤ 4) (fun k => .slice k.2.1 k.2.2.1 k.2.2.2) (fun k => [ow H5 [.slice k.2.1 k.2.2.1 k.2.2.2] k.1]) := by
 refine Tr.intro Tryz.func110 rfl (n := 103) rfl (by decide +kernel) bl (fr := [(0, .slice a_l m_l c_l), (1, .agg #[.slice r6 t6 r5, .slice o2 s7 o1]), (2, .slice a_steps m_steps c_steps), (3, .slice a_bound m_bound c_bound), (4, .slice a_best m_best c_best)]) rfl fun w L hR => ?_
 obtain ⟨hl, y8, v6, hsteps, hbound⟩ := hR
 obtain ⟨rfl, ll⟩ := hl.slen
 obtain ⟨rfl, N5⟩ := y8.slen
 obtain ⟨rfl, K9⟩ := v6.slen
 obtain ⟨rfl, lsteps⟩ := hsteps.slen
 obtain ⟨rfl, lbound⟩ := hbound.slen
 refine i9 m0 fun ebest lbest => ?_
 subst ebest
 refine Ew Z2 (Est rfl (N.box (cs := [_, _]) rfl dc rfl) (fun b6 _ => (Ei rfl (Eu (Eq_ (Ew Z6 (Em rfl (Ey rfl ((Y.len us_Steps rfl).yd) (Ey rfl ((i7 fo_Query_1 ty_Atoms dc rfl).yd) (Ey rfl (f8 ty_Atoms rfl (Hz m0 1 rfl) rfl) (Ey rfl ((Y.len us_Atoms rfl).yd) (Ey rfl ((Y.eql rfl rfl).yd) (n0 (fun q21 => ?_) (fun q21 => ?_))))))))))))))
 ·refine Eu (l4 rfl (Eq_ (Ew Z12 (Em rfl (Ey rfl ((Y.len us_Steps rfl).yd) (Ey rfl ((Y.eql rfl rfl).yd) (n0 (fun q24 => ?_) (fun q24 => ?_))))))))
  ·refine Em rfl (Es rfl (Es rfl (Es rfl (Es rfl (Es rfl (Es rfl (Es rfl (Ey rfl ((s6 rfl rfl).yd) (Eu (l4 rfl (Ew Z4 (Est rfl (Nb [] [] us_Steps ty_Step rfl rfl) (fun b34 _ => (Ent.drop (Em rfl (Est rfl (J3 (E := X6) (Plain.pair Plain.int Plain.int) us_Steps ty_Step rfl rfl rfl hsteps bn bn dc) (fun p36 _ => (Ei rfl ?_))))))))))))))))))
   exact Eu (E.ret (l0 (l0 (F.r1 br rfl rfl (c6, (_, _, _)) (show c6.length ≤ 4 from by omega) rfl (J := _) (.refl _) (.inl rfl)))))
  ·refine Em rfl (Em rfl (Em rfl (Est rfl (N.call (a1d om) rfl rfl rfl dc rfl (fun w Lp hA => ⟨hA.ro hl, hA.ro hsteps⟩)) (fun x28 o28 => ?_))))
   replace o28 : 0 ≤ x28 ∧ x28 ≤ 99000 := o28
   try (conv => arg 5; dsimp only [List.cons_append, List.nil_append, List.append_nil])
   refine Em rfl (Em rfl (Est rfl (N.call (a1d om) rfl rfl rfl dc rfl (fun w Lp hA => ⟨hA.ro hl, hA.ow (mS m0)⟩)) (fun x31 o31 => ?_)))
   replace o31 : 0 ≤ x31 ∧ x31 ≤ 99000 := o31
   try (conv => arg 5; dsimp only [List.cons_append, List.nil_append, List.append_nil])
   refine Ey rfl ((Y.lss rfl rfl).yd) (n0 (fun q32 => ?_) (fun q32 => ?_))
   ·refine Ey rfl ((r9 rfl rfl).yd) (Eu (l4 rfl (Ew Z4 (Est rfl (Nb [] [] us_Steps ty_Step rfl rfl) (fun b34 _ => (Ent.drop (Em rfl (Est rfl (J3 (E := X6) (Plain.pair Plain.int Plain.int) us_Steps ty_Step rfl rfl rfl hsteps bn bn dc) (fun p36 _ => (Ei rfl ?_))))))))))
    exact Eu (E.ret (l0 (l0 (F.r1 br rfl rfl (c6, (_, _, _)) (show c6.length ≤ 4 from by omega) rfl (J := _) (.refl _) (.inl rfl)))))
   ·refine Ey rfl ((r9 rfl rfl).yd) (Eu (l6 rfl (i8 (Et (Ew Z2 (Em rfl (Ei rfl (Eu (E.ret (l0 (f7 ?_)))))))))))
    exact F.r1 br rfl rfl (best, (_, _, _)) (show best.length ≤ 4 from by omega) rfl (J := _) (.refl _) (.inl rfl)
 ·refine Eu (l6 rfl (i8 (Et (Eq_ (Ew Z1 (Ei rfl (Eu (E.block (E.loop (κ := Nat × (List (Int × Int)) × Option Addr × Nat × Nat) (fun g => g.1 ≤ a6.length ∧ g.2.1.length ≤ 4) (fun g => [(0, .slice a_l l.length c_l), (2, .slice a_steps c6.length c_steps), (3, .slice a_bound H0.length c_bound), (4, .slice g.2.2.1 g.2.2.2.1 g.2.2.2.2), (6, .pointer (some ⟨b6, 0, none⟩)), (11, .int .i64 (↑g.1 : Int))]) (fun g => [pt b6 28 [.slice r6 f9.length r5, .slice o2 a6.length o1], ow H5 [.slice g.2.2.1 g.2.2.2.1 g.2.2.2.2] g.2.1]) (fun g => a6.length - g.1) (0, best, a_best, best.length, c_best) ⟨Nat.zero_le _, by omega⟩ ⟨rfl, rfl, rfl, rfl, rfl, rfl, trivial⟩ (.refl _) (fun g pg => ?_))))))))))
  obtain ⟨g, bs, aA0_0, mA0_0, cA0_0⟩ := g
  try dsimp only at pg
  try dsimp only
  obtain ⟨pk, pa⟩ := pg
  refine i9 (mS m0) fun eaA0_0 laA0_0 => ?_
  subst eaA0_0
  refine Eq_ (Ew Z5 (Em rfl (Ey rfl ((i7 fo_Query_1 ty_Atoms dc rfl).yd) (Ey rfl (f8 ty_Atoms rfl (Hz m0 1 rfl) rfl) (Ey rfl ((Y.len us_Atoms rfl).yd) (Ey rfl ((Y.lss rfl rfl).yd) (n0 (fun q42 => ?_) (fun q42 => ?_))))))))
  ·refine Eu (l4 rfl (i8 (Et (Eq_ (E.block (Ew Z1 (Ei rfl (Eu (Eq_ (Ew Z1 (Ei rfl (Eu (E.block (E.loop (κ := Nat × Bool) (fun k => k.1 ≤ c6.length ∧ True) (fun k => [(0, .slice a_l l.length c_l), (2, .slice a_steps c6.length c_steps), (3, .slice a_bound H0.length c_bound), (4, .slice aA0_0 (bs).length cA0_0), (6, .pointer (some ⟨b6, 0, none⟩)), (11, .int .i64 (g : Int)), (12, .bool k.2), (13, .int .i64 (↑k.1 : Int))]) (fun k => [pt b6 28 [.slice r6 f9.length r5, .slice o2 a6.length o1], ow H5 [.slice aA0_0 (bs).length cA0_0] bs]) (fun k => c6.length - k.1) (0, false) ⟨Nat.zero_le _, by trivial⟩ ⟨rfl, rfl, rfl, rfl, rfl, rfl, rfl, rfl, trivial⟩ (.refl _) (fun k pk => ?_)))))))))))))))
   obtain ⟨k, ub⟩ := k
   try dsimp only at pk
   try dsimp only
   obtain ⟨pk, pa⟩ := pk
   refine Eq_ (Ew Z4 (Em rfl (Em rfl (Ey rfl ((Y.len us_Steps rfl).yd) (Ey rfl ((Y.lss rfl rfl).yd) (n0 (fun q48 => ?_) (fun q48 => ?_)))))))
   ·refine Eu (l4 rfl (i8 (Et (Eq_ (E.block (Ez Z11 (Em rfl (Ent.b (fun q51 => ?_) (fun q51 => ?_)))))))))
    ·refine Em rfl (Es rfl (Es rfl (Es rfl (Es rfl (Es rfl (Es rfl (Es rfl (Ey rfl ((s6 rfl rfl).yd) (Ei rfl (En (o4 (Et (Ez Z3 (Em rfl (Ey rfl ((Y.add rfl rfl om om).yd) (Ei rfl (Eu (f7 (f7 ?_)))))))))))))))))))
     exact Ea (k + 1, true) ⟨oz, (show True from by trivial)⟩
    ·refine Em rfl (Em rfl (Em rfl ?_))
     obtain ⟨eb55, eo55, ec55, ea55, er55, el55, eh55⟩ := hsteps.elem k om
     obtain ⟨rfl, ei55_0, ei55_1⟩ := a0p er55
     refine Ey rfl ((o6 us_Steps ty_Step rfl ea55 rfl k rfl om).yd) (Ey rfl ((i7 fo_Step_0 f0 dc rfl).yd) (Ey rfl (f8 f0 rfl ((eh55 _).sub (cs' := [_]) 0 rfl) rfl) (Em rfl (Ey rfl ((Y.eql rfl rfl).yd) (Ey rfl ((r9 rfl rfl).yd) (Ei rfl (En (o4 (Et (Ez Z3 (Em rfl (Ey rfl ((Y.add rfl rfl om om).yd) (Ei rfl (Eu (f7 (f7 ?_))))))))))))))))
     exact Ea (k + 1, decide (c6[k].1 = (g : Int))) ⟨oz, (show True from by trivial)⟩
   ·refine Eu (l6 rfl (E.exit (n8 (n8 (w5 (Et (Ew Z1 (Ei rfl (Eu (E.block (E.loop (κ := Nat × (List (Int × Int)) × Option Addr × Nat × Nat) (fun m => m.1 ≤ l.length ∧ m.2.1.length ≤ 4) (fun m => [(0, .slice a_l l.length c_l), (2, .slice a_steps c6.length c_steps), (3, .slice a_bound H0.length c_bound), (4, .slice m.2.2.1 m.2.2.2.1 m.2.2.2.2), (6, .pointer (some ⟨b6, 0, none⟩)), (11, .int .i64 (g : Int)), (12, .bool ub), (14, .int .i64 (↑m.1 : Int))]) (fun m => [pt b6 28 [.slice r6 f9.length r5, .slice o2 a6.length o1], ow H5 [.slice m.2.2.1 m.2.2.2.1 m.2.2.2.2] m.2.1]) (fun m => l.length - m.1) (0, bs, aA0_0, (bs).length, cA0_0) ⟨Nat.zero_le _, by omega⟩ ⟨rfl, rfl, rfl, rfl, rfl, rfl, rfl, rfl, trivial⟩ (.refl _) (fun m pm => ?_))))))))))))
    obtain ⟨m, bt, aA2_0, mA2_0, cA2_0⟩ := m
    try dsimp only at pm
    try dsimp only
    obtain ⟨pk, pa⟩ := pm
    refine i9 (mS m0) fun eaA2_0 laA2_0 => ?_
    subst eaA2_0
    refine Eq_ (Ew Z8 (Em rfl (Em rfl (Ey rfl ((Y.len us_Methods rfl).yd) (Ey rfl ((Y.lss rfl rfl).yd) (n0 (fun q64 => ?_) (fun q64 => ?_)))))))
    ·refine Em rfl (Em rfl (Ent.b (fun q66 => ?_) (fun q66 => ?_)))
     ·refine Ey rfl ((Y.not (b := true) rfl).yd) (Ey rfl ((s6 rfl rfl).yd) (Eu (l6 rfl (E.exit (n8 (n8 (w5 (o4 (Et (Ez Z3 (Em rfl (Ey rfl ((Y.add rfl rfl om om).yd) (Ei rfl (Eu (f7 (f7 ?_))))))))))))))))
      exact Ea (g + 1, bt, aA2_0, (bt).length, cA2_0) ⟨oz, oz⟩
     ·refine Ey rfl ((Y.not (b := false) rfl).yd) (Ey rfl ((s6 rfl rfl).yd) (Eu (l4 rfl (i8 (Et (Eq_ (E.block (Eq_ (D.region (fun j => true) mixed (Dyp 0 rfl (j4 rfl) (Dyp 1 rfl (j4 rfl) ?_)))))))))))
      obtain ⟨eb73, eo73, ec73, ea73, er73, el73, eh73⟩ := hl.elem m om
      obtain ⟨xa73_0, xc73_0, rfl, ei73_0, xh73_0, ei73_2, ei73_3, ei73_4⟩ := H9 er73
      have := xh73_0.slen.2
      refine Dyp 2 rfl (o6 us_Methods ty_Method rfl ea73 rfl m rfl om) (Dy 3 rfl (o0 (cs := [_, _, _, _, _]) ty_Method rfl (eh73 _) rfl) (Dyp 4 rfl (i7 fo_Query_1 ty_Atoms dc rfl) (Dy 5 rfl (f8 ty_Atoms rfl (Hz m0 1 rfl) rfl) (Dyp 6 rfl (j4 rfl) ?_))))
      obtain ⟨eb78, eo78, ec78, ea78, er78, el78, eh78⟩ := v6.elem g om
      obtain ⟨xa78_0, xc78_0, rfl, ei78_0, xh78_0⟩ := P1 er78
      have := xh78_0.slen.2
      refine Dyp 7 rfl (o6 us_Atoms ty_Atom rfl ea78 rfl g rfl om) (Dy 8 rfl (o0 (cs := [_, _]) ty_Atom rfl (eh78 _) rfl) (Dyp 9 rfl (j4 rfl) (u7 10 rfl rfl kr (fun _ => rfl) (k6 a1F rfl rfl rfl dc (fun w Lp hA => ⟨ei73_0, hA.ro xh73_0, ei73_2, ei73_3, ei73_4, ei78_0, hA.ro xh78_0, hA.ro hbound⟩)) (fun _ _ => (Ent.b (fun q81 => ?_) (fun q81 => ?_))))))
      ·refine o3 kr (Et (l4 rfl (Ew Z9 (Est rfl (Nb [] [] us_Steps ty_Step rfl rfl) (fun b82 _ => (Ent.drop (Em rfl (Est rfl (J3 (E := X6) (Plain.pair Plain.int Plain.int) us_Steps ty_Step rfl rfl rfl hsteps bn bn dc) (fun p84 _ => (Em rfl (Em rfl (Ey rfl ((I6 (pvs := [_, _]) (cs := [_, _]) ty_Step pl_Step rfl rfl).yd) (Est rfl (Nb [_] [_, _] us_Steps ty_Step rfl rfl) (fun b88 _ => (f7 (Est rfl (y6 (E := X6) (ex := ((g : Int), (m : Int))) us_Steps ty_Step rfl rfl rfl (a7m (x := ((g : Int), (m : Int))) i6 i6) rfl bn bn dc) (fun p89 _ => (Ei rfl (Eu (D.region (fun j => !(Nat.beq j 11)) mixed (Dyp 0 rfl (j4 rfl) (Dy 1 rfl (o0 (cs := [_, _]) ty_Query rfl (Has.pt (mS m0)) rfl) (Dyp 2 rfl (j4 rfl) (Dyp 3 rfl (j4 rfl) ?_))))))))))))))))))))))))
       refine Dyp 4 rfl (i7 fo_Query_1 ty_Atoms dc rfl) (Dy 5 rfl (f8 ty_Atoms rfl (Hz (mS m0) 1 rfl) rfl) (Dyp 6 rfl (j4 rfl) (Dyp 7 rfl (o6 us_Atoms ty_Atom rfl ea78 rfl g rfl om) (Dy 8 rfl (o0 (cs := [_, _]) ty_Atom rfl (eh78 _) rfl) (Dyp 10 rfl (j4 rfl) (u7 9 rfl rfl kr (fun _ => rfl) (N.call (a2c om (hqt _ (List.getElem_mem (show g < a6.length by omega)))) rfl rfl rfl dc rfl (fun w Lp hA => ⟨hA.ro hbound, ei78_0, hA.ro xh78_0⟩)) (fun k99 _ => ?_)))))))
       obtain ⟨a99, m99, c99⟩ := k99
       refine i9 m0 fun e99 l99 => ?_
       subst e99
       refine m6 (u7 11 rfl rfl kr (fun h => by cases h) (N.call (pre := [_]) (ih (by first | assumption | omega) (by first | assumption | omega) (by first | assumption | omega) (by simp only [List.length_append, List.length_singleton, List.length_cons, List.length_nil]; omega) (by have j1 := a9G (b := H0) (a := (a6[g].1, a6[g].2)); dsimp only at j1; have j2 := hqt _ (List.getElem_mem (show g < a6.length by omega)); simp only [List.length_append, List.length_singleton, List.length_cons, List.length_nil]; omega) (by first | assumption | omega) (by simp only [List.length_append, List.length_singleton, List.length_cons, List.length_nil]; omega)) rfl rfl rfl dc rfl (fun w Lp hA => ⟨hA.ro hl, hA.ro y8, hA.ro v6, hA.ow (mS m0), hA.ow m0⟩)) (fun k101 o101 => ?_))
       obtain ⟨xs101, ⟨a101, m101, c101⟩⟩ := k101
       replace o101 : xs101.length ≤ 4 := o101
       try (conv => arg 4; dsimp only)
       try (conv => arg 5; dsimp only [List.cons_append, List.nil_append, List.append_nil])
       refine i9 m0 fun e101 l101 => ?_
       subst e101
       refine Dyp 12 rfl (G1 rfl) (o3 kr (o4 (Et (Ez Z3 (Em rfl (Ey rfl ((Y.add rfl rfl om om).yd) (Ei rfl (Eu (f7 (Ent.drop (f7 (Ent.drop (f7 ?_)))))))))))))
       exact Ea (m + 1, xs101, a101, (xs101).length, c101) ⟨oz, oz⟩
      ·refine o3 kr (Et (l6 rfl (i8 (o4 (Et (Ez Z3 (Em rfl (Ey rfl ((Y.add rfl rfl om om).yd) (Ei rfl (Eu (f7 (f7 ?_))))))))))))
       exact Ea (m + 1, bt, aA2_0, (bt).length, cA2_0) ⟨oz, oz⟩
    ·refine Em rfl (Es rfl (Es rfl (Ey rfl ((r9 rfl rfl).yd) (Eu (l6 rfl (E.exit (n8 (n8 (w5 (o4 (Et (Ez Z3 (Em rfl (Ey rfl ((Y.add rfl rfl om om).yd) (Ei rfl (Eu (f7 (f7 ?_))))))))))))))))))
     exact Ea (g + 1, bt, aA2_0, (bt).length, cA2_0) ⟨oz, oz⟩
  ·refine Eu (l6 rfl (E.exit (n8 (n8 (w5 (Et (Ew Z2 (Em rfl (Ei rfl (Eu (E.ret (f7 ?_))))))))))))
   exact F.r1 br rfl rfl (bs, (_, _, _)) (show bs.length ≤ 4 from by omega) rfl (J := _) (.refl _) (.inl rfl)
theorem a6D (hln : l.length ≤ 1000) (hqa : a6.length ≤ 4) (hqt : ∀ a ∈ a6, a.2.length ≤ 3) (hst : c6.length ≤ a6.length) (hbd : H0.length ≤ 3 * c6.length) (hbe : best.length ≤ 4) : Tr Tryz.prog 110 [.slice a_l m_l c_l, .agg #[.slice r6 t6 r5, .slice o2 s7 o1], .slice a_steps m_steps c_steps, .slice a_bound m_bound c_bound, .slice a_best m_best c_best] (fun w L => Ro w L C8 [.slice a_l m_l c_l] l ∧ Ro w L eIs [.slice r6 t6 r5] f9 ∧ Ro w L G8 [.slice o2 s7 o1] a6 ∧ Ro w L H5 [.slice a_steps m_steps c_steps] c6 ∧ Ro w L eIs [.slice a_bound m_bound c_bound] H0) [ow H5 [.slice a_best m_best c_best] best] (κ := (List (Int × Int)) × Option Addr × Nat × Nat) (fun k => k.1.length ≤ 4) (fun k => .slice k.2.1 k.2.2.1 k.2.2.2) (fun k => [ow H5 [.slice k.2.1 k.2.2.1 k.2.2.2] k.1]) := by
 have main : ∀ (Nr : Nat) {a_l : Option Addr} {m_l c_l : Nat} {l : List (Int × List Int × Int × Int × Int)} {r6 : Option Addr} {t6 r5 : Nat} {f9 : List Int} {o2 : Option Addr} {s7 o1 : Nat} {a6 : List (Int × List Int)} {a_steps : Option Addr} {m_steps c_steps : Nat} {c6 : List (Int × Int)} {a_bound : Option Addr} {m_bound c_bound : Nat} {H0 : List Int} {a_best : Option Addr} {m_best c_best : Nat} {best : List (Int × Int)} (hln : l.length ≤ 1000) (hqa : a6.length ≤ 4) (hqt : ∀ a ∈ a6, a.2.length ≤ 3) (hst : c6.length ≤ a6.length) (hbd : H0.length ≤ 3 * c6.length) (hbe : best.length ≤ 4), a6.length - c6.length = Nr → Tr Tryz.prog 110 [.slice a_l m_l c_l, .agg #[.slice r6 t6 r5, .slice o2 s7 o1], .slice a_steps m_steps c_steps, .slice a_bound m_bound c_bound, .slice a_best m_best c_best] (fun w L => Ro w L C8 [.slice a_l m_l c_l] l ∧ Ro w L eIs [.slice r6 t6 r5] f9 ∧ Ro w L G8 [.slice o2 s7 o1] a6 ∧ Ro w L H5 [.slice a_steps m_steps c_steps] c6 ∧ Ro w L eIs [.slice a_bound m_bound c_bound] H0) [ow H5 [.slice a_best m_best c_best] best] (κ := (List (Int × Int)) × Option Addr × Nat × Nat) (fun k => k.1.length ≤ 4) (fun k => .slice k.2.1 k.2.2.1 k.2.2.2) (fun k => [ow H5 [.slice k.2.1 k.2.2.1 k.2.2.2] k.1]) := by
  intro Nr
  induction Nr using Nat.strongRecOn with
  | ind Nr IH =>
   intro a_l m_l c_l l r6 t6 r5 f9 o2 s7 o1 a6 a_steps m_steps c_steps c6 a_bound m_bound c_bound H0 a_best m_best c_best best hln hqa hqt hst hbd hbe hNr
   exact a4D Nr hNr (fun hln hqa hqt hst hbd hbe hlt => IH _ hlt hln hqa hqt hst hbd hbe rfl) hln hqa hqt hst hbd hbe
 exact main _ hln hqa hqt hst hbd hbe rfl
theorem a4i (hz : O5 (fun x => x.2.length) a6 ≤ 1048576) : Tr Tryz.prog 41 [.slice a_s m_s c_s, .slice a_l m_l c_l, .agg #[.slice r6 t6 r5, .slice o2 s7 o1]] (fun w L => Ro w L eIs [.slice a_s m_s c_s] s ∧ Ro w L C8 [.slice a_l m_l c_l] l ∧ Ro w L eIs [.slice r6 t6 r5] f9 ∧ Ro w L G8 [.slice o2 s7 o1] a6) [] (κ := (List (Int × Int)) × Int × Bool × Option Addr × Nat × Nat) (fun k => k.1.length ≤ 4 ∧ 0 ≤ k.2.1 ∧ k.2.1 ≤ 99000) (fun k => .tuple #[.slice k.2.2.2.1 k.2.2.2.2.1 k.2.2.2.2.2, .int .i64 k.2.1, .bool k.2.2.1]) (fun k => [ow H5 [.slice k.2.2.2.1 k.2.2.2.2.1 k.2.2.2.2.2] k.1]) := by
 refine Tr.intro Tryz.func41 rfl (n := 29) rfl (by decide +kernel) bl (fr := [(0, .slice a_s m_s c_s), (1, .slice a_l m_l c_l), (2, .agg #[.slice r6 t6 r5, .slice o2 s7 o1])]) rfl fun w L hR => ?_
 obtain ⟨hs, hl, y8, v6⟩ := hR
 obtain ⟨rfl, ls⟩ := hs.slen
 obtain ⟨rfl, ll⟩ := hl.slen
 obtain ⟨rfl, N5⟩ := y8.slen
 obtain ⟨rfl, K9⟩ := v6.slen
 refine Ew Z4 (Est rfl (N.box (cs := [_, _]) rfl dc rfl) (fun b5 _ => (Ei rfl (Ei rfl (Ei rfl (Eu (Eq_ (Ew Z5 (Em rfl (Em rfl (Ey rfl (o0 (cs := [_, _]) ty_Query rfl (Has.pt m0) rfl) (Est rfl (k6 (a2d (by first | assumption | omega | simp)) rfl rfl rfl dc (fun w Lp hA => ⟨hA.ro hs, hA.ro hl, hA.ro y8, hA.ro v6⟩)) (fun _ _ => (Ent.b (fun q13 => ?_) (fun q13 => ?_)))))))))))))))
 ·have jq := R6 (s := s) (q := (f9, a6)) (Bool.and_eq_true_iff.1 q13).2
  have jl := (a0t (Bool.and_eq_true_iff.1 q13).1).2
  refine Ey rfl ((Y.not (b := true) rfl).yd) (Eu (l6 rfl (i8 (Et (Ew Z7 (Em rfl (Ey rfl (o0 (cs := [_, _]) ty_Query rfl (Has.pt m0) rfl) (Est rfl (Nb [] [] us_Steps ty_Step rfl rfl) (fun b18 _ => (Ent.drop (Est rfl (Nb [] [] us_Is f0 rfl rfl) (fun b19 _ => (Ent.drop (Est rfl (Nb [] [] us_Steps ty_Step rfl rfl) (fun b20 _ => (Ent.drop (n9 (A := []) (Own.nil (E := X6) (e := tStep) (a := (some ⟨b20, 0, none⟩))) rfl (Est rfl (N.call (pre := [_]) (a6D (Nat.le_trans jl dc) jq.1 jq.2.2 (by first | assumption | omega | simp) (by first | assumption | omega | simp) (by first | assumption | omega | simp)) rfl rfl rfl dc rfl (fun w Lp hA => ⟨hA.ro hl, hA.ro y8, hA.ro v6, a8H, a8H⟩)) (fun k21 o21 => ?_)))))))))))))))))))
  obtain ⟨xs21, ⟨a21, m21, c21⟩⟩ := k21
  replace o21 : xs21.length ≤ 4 := o21
  try (conv => arg 4; dsimp only)
  try (conv => arg 5; dsimp only [List.cons_append, List.nil_append, List.append_nil])
  refine i9 m0 fun e21 l21 => ?_
  subst e21
  refine Ei rfl (Ev Z10 (Em rfl (Em rfl (Em rfl (Est rfl (N.call (a1d (by first | assumption | omega | simp)) rfl rfl rfl dc rfl (fun w Lp hA => ⟨hA.ro hl, hA.ow m0⟩)) (fun x25 o25 => ?_))))))
  replace o25 : 0 ≤ x25 ∧ x25 ≤ 99000 := o25
  try (conv => arg 5; dsimp only [List.cons_append, List.nil_append, List.append_nil])
  refine Em rfl (Ey rfl ((Y.len us_Steps rfl).yd) (Ey rfl ((Y.gtr rfl rfl).yd) (Ei rfl (Ei rfl (Ei rfl ?_)))))
  exact Eu (E.ret (a7U br rfl rfl rfl rfl (xs21, x25, decide (0 < (↑((xs21).length) : Int)), (_, _, _)) (show xs21.length ≤ 4 ∧ 0 ≤ x25 ∧ x25 ≤ 99000 from by first | omega | (simp only [List.length_nil]; omega)) rfl (J := _) (.refl _) (.inl rfl)))
 ·refine Ey rfl ((Y.not (b := false) rfl).yd) (Eu (l4 rfl (Ew Z4 (Est rfl (Nb [] [] us_Steps ty_Step rfl rfl) (fun b15 _ => (Ent.drop (Ei rfl (Ei rfl (Ei rfl (Eu (E.ret (l0 (n9 (A := []) (Own.nil (E := X6) (e := tStep) (a := (some ⟨b15, 0, none⟩))) rfl ?_)))))))))))))
  exact a7U br rfl rfl rfl rfl ([], 0, false, ((some ⟨b15, 0, none⟩), 0, 0)) (show ([] : List (Int × Int)).length ≤ 4 ∧ 0 ≤ (0 : Int) ∧ (0 : Int) ≤ 99000 from by first | omega | (simp only [List.length_nil]; omega)) rfl (J := _) (.refl _) (.inl rfl)
theorem a4B {code : List UInt8} (hcl : code.length ≤ 1048576) : Tr Tryz.prog 6 [.slice a_code m_code c_code] (fun w L => Ro w L U3 [.slice a_code m_code c_code] code) [] (κ := (List Int) × (List (Int × List Int × Int × Int × Int)) × (List Int) × (List (Int × List Int)) × (List (Int × Int)) × (List (Int × List Int)) × Int × (Option Addr × Nat × Nat) × (Option Addr × Nat × Nat) × (Option Addr × Nat × Nat) × (Option Addr × Nat × Nat) × (Option Addr × Nat × Nat) × Option Addr × Nat × Nat) (fun k => (1 ≤ k.1.length ∧ k.1.length ≤ 4) ∧ (k.2.1.length ≤ 5 ∧ ∀ m ∈ k.2.1, m.2.1.length ≤ 4) ∧ dQ dT 3 3 k.2.2.1 k.2.2.2.1 ∧ k.2.2.2.2.1.length ≤ 4 ∧ (k.2.2.2.2.2.1.length ≤ 9 ∧ ∀ f ∈ k.2.2.2.2.2.1, 1 ≤ f.2.length ∧ f.2.length ≤ 4) ∧ -1 ≤ k.2.2.2.2.2.2.1 ∧ k.2.2.2.2.2.2.1 ≤ 4) (fun k => .tuple #[.slice k.2.2.2.2.2.2.2.1.1 k.2.2.2.2.2.2.2.1.2.1 k.2.2.2.2.2.2.2.1.2.2, .slice k.2.2.2.2.2.2.2.2.1.1 k.2.2.2.2.2.2.2.2.1.2.1 k.2.2.2.2.2.2.2.2.1.2.2, .agg #[.slice k.2.2.2.2.2.2.2.2.2.1.1 k.2.2.2.2.2.2.2.2.2.1.2.1 k.2.2.2.2.2.2.2.2.2.1.2.2, .slice k.2.2.2.2.2.2.2.2.2.2.1.1 k.2.2.2.2.2.2.2.2.2.2.1.2.1 k.2.2.2.2.2.2.2.2.2.2.1.2.2], .slice k.2.2.2.2.2.2.2.2.2.2.2.1.1 k.2.2.2.2.2.2.2.2.2.2.2.1.2.1 k.2.2.2.2.2.2.2.2.2.2.2.1.2.2, .slice k.2.2.2.2.2.2.2.2.2.2.2.2.1 k.2.2.2.2.2.2.2.2.2.2.2.2.2.1 k.2.2.2.2.2.2.2.2.2.2.2.2.2.2, .int .i64 k.2.2.2.2.2.2.1]) (fun k => [ow eIs [.slice k.2.2.2.2.2.2.2.1.1 k.2.2.2.2.2.2.2.1.2.1 k.2.2.2.2.2.2.2.1.2.2] k.1, ow C8 [.slice k.2.2.2.2.2.2.2.2.1.1 k.2.2.2.2.2.2.2.2.1.2.1 k.2.2.2.2.2.2.2.2.1.2.2] k.2.1, ow eIs [.slice k.2.2.2.2.2.2.2.2.2.1.1 k.2.2.2.2.2.2.2.2.2.1.2.1 k.2.2.2.2.2.2.2.2.2.1.2.2] k.2.2.1, ow G8 [.slice k.2.2.2.2.2.2.2.2.2.2.1.1 k.2.2.2.2.2.2.2.2.2.2.1.2.1 k.2.2.2.2.2.2.2.2.2.2.1.2.2] k.2.2.2.1, ow H5 [.slice k.2.2.2.2.2.2.2.2.2.2.2.1.1 k.2.2.2.2.2.2.2.2.2.2.2.1.2.1 k.2.2.2.2.2.2.2.2.2.2.2.1.2.2] k.2.2.2.2.1, ow r7 [.slice k.2.2.2.2.2.2.2.2.2.2.2.2.1 k.2.2.2.2.2.2.2.2.2.2.2.2.2.1 k.2.2.2.2.2.2.2.2.2.2.2.2.2.2] k.2.2.2.2.2.1]) := by
 refine Tr.intro Tryz.func6 rfl (n := 51) rfl (by decide +kernel) bl (fr := [(0, .slice a_code m_code c_code)]) rfl fun w L hR => ?_
 have hcode := hR
 obtain ⟨rfl, lcode⟩ := hcode.slen
 refine Ew Z6 (Ei rfl (Ei rfl (Est rfl (N.alloc ty_Query dc) (fun b4 _ => (Ei rfl (Ei rfl (Ei rfl (Ev Z3 (Em rfl (Est rfl (N.call (a5a fc) rfl rfl rfl dc rfl (fun w Lp hA => hA.ro hcode)) (fun b16 _ => ?_)))))))))))
 have hbs := hcode
 refine Ei rfl (Ev Z10 (Em rfl (Est rfl (N.call (pre := [_]) a8U rfl rfl rfl dc rfl (fun w Lp hA => hA.ro hbs)) (fun k19 o19 => ?_))))
 obtain ⟨xs19, ms19, hq19, aq19, ⟨a19_0, m19_0, c19_0⟩, ⟨a19_1, m19_1, c19_1⟩, ⟨a19_2, m19_2, c19_2⟩, ⟨a19_3, m19_3, c19_3⟩⟩ := k19
 replace o19 : (1 ≤ xs19.length ∧ xs19.length ≤ 4) ∧ (ms19.length ≤ 5 ∧ ∀ m ∈ ms19, m.2.1.length ≤ 4) ∧ dQ dT 3 3 hq19 aq19 := o19
 try (conv => arg 4; dsimp only)
 try (conv => arg 5; dsimp only [List.cons_append, List.nil_append, List.append_nil])
 have jq := b0c o19.2.2.small
 have jf := b5t (s := xs19) (ms := ms19) (q := (hq19, aq19)) (by have := o19.2.2.1; show aq19.length ≤ 4; omega)
 refine i9 m0 fun e19_0 l19_0 => ?_
 subst e19_0
 refine i9 (mS m0) fun e19_1 l19_1 => ?_
 subst e19_1
 refine i9 (mS (mS m0)) fun e19_2 l19_2 => ?_
 subst e19_2
 refine i9 (mS (mS (mS m0))) fun e19_3 l19_3 => ?_
 subst e19_3
 refine Em rfl (Ey rfl ((Y.ext rfl rfl).yd) (Ey rfl ((Y.ext rfl rfl).yd) (Ey rfl ((Y.ext rfl rfl).yd) (Est rfl (N.alloc ty_Query dc) (fun b11 _ => (Ei rfl (Ei rfl (Est rfl (Ns [_, _] ty_Query rfl) (fun _ _ => (Ev Z9 (Em rfl (Em rfl (Ey rfl (o0 (cs := [_, _]) ty_Query rfl (Has.pt m0) rfl) (Est rfl (N.call (a5M fc) rfl rfl rfl dc rfl (fun w Lp hA => ⟨hA.ow (mS m0), hA.ow (mS (mS m0)), hA.ow (mS (mS (mS m0))), hA.ow (mS (mS (mS (mS m0))))⟩)) (fun k27 _ => ?_)))))))))))))))
 obtain ⟨a27, m27, c27⟩ := k27
 refine i9 m0 fun e27 l27 => ?_
 subst e27
 refine Em rfl (Ey rfl ((Y.ext rfl rfl).yd) (Ey rfl ((Y.ext rfl rfl).yd) (Ei rfl (Ei rfl (Eu (Eq_ (Ew Z2 (Em rfl (v8 (Est rfl (N.call (pre := [_]) R5 rfl rfl rfl dc rfl (fun w Lp hA => hA.ro hbs)) (fun o31 o31 => ?_)))))))))))
 replace o31 : True := o31
 try (conv => arg 5; dsimp only [List.cons_append, List.nil_append, List.append_nil])
 refine Ent.b (fun q31 => ?_) (fun q31 => ?_)
 ·refine Eu (l4 rfl (Ez Z9 (Em rfl (Em rfl (Ey rfl (o0 (cs := [_, _]) ty_Query rfl (Has.pt (mS (mS m0))) rfl) (Est rfl (N.call (a4i fc) rfl rfl rfl dc rfl (fun w Lp hA => ⟨hA.ow (mS (mS (mS m0))), hA.ow (mS (mS (mS (mS m0)))), hA.ow (mS (mS (mS (mS (mS m0))))), hA.ow (mS (mS (mS (mS (mS (mS m0))))))⟩)) (fun k36 o36 => ?_)))))))
  obtain ⟨xs36, y36, b36, ⟨a36, m36, c36⟩⟩ := k36
  replace o36 : xs36.length ≤ 4 ∧ 0 ≤ y36 ∧ y36 ≤ 99000 := o36
  try (conv => arg 4; dsimp only)
  try (conv => arg 5; dsimp only [List.cons_append, List.nil_append, List.append_nil])
  refine i9 m0 fun e36 l36 => ?_
  subst e36
  refine Em rfl (Ey rfl ((Y.ext rfl rfl).yd) (Ey rfl ((Y.ext rfl rfl).yd) (Ey rfl ((Y.ext rfl rfl).yd) (Ei rfl (Ev Z4 (Em rfl (Em rfl (f7 (Est rfl (N.call (pre := [_]) a0S rfl rfl rfl dc rfl (fun w Lp hA => ⟨hA.ow (mS (mS (mS m0))), hA.ro hbs⟩)) (fun k42 o42 => ?_))))))))))
  obtain ⟨fl42, ⟨a42, m42, c42⟩⟩ := k42
  replace o42 : fl42.length ≤ 9 ∧ ∀ f ∈ fl42, 1 ≤ f.2.length ∧ f.2.length ≤ 4 := o42
  try (conv => arg 4; dsimp only)
  try (conv => arg 5; dsimp only [List.cons_append, List.nil_append, List.append_nil])
  refine i9 m0 fun e42 l42 => ?_
  subst e42
  refine Ei rfl (Eu (Eq_ (O0 [b11] (fun j => true) mixed (C0 0 rfl rfl dc (j4 rfl) kr (C0 1 rfl rfl dc (j4 rfl) kr (Y6 2 rfl rfl dc (b3v (cs := [_, _]) ty_Query rfl (O9.pt (mS (mS (mS (mS m0)))) (by simp)) rfl) kr (C0 3 rfl rfl dc (j4 rfl) kr (C0 4 rfl rfl dc (j4 rfl) kr (C0 5 rfl rfl dc (j4 rfl) kr (f7 (F3 6 rfl rfl kr (fun _ _ => SameI.out) (N.call (pre := [_]) x5 rfl rfl rfl dc rfl (fun w Lp hA => hA.ro hbs)) (fun x49 o49 => ?_))))))))))))
  replace o49 : 0 ≤ x49 ∧ ((6 : Int) ≤ 0 → x49 = 0) ∧ (0 < (6 : Int) → x49 < (6 : Int)) := o49
  try (conv => arg 5; dsimp only [List.cons_append, List.nil_append, List.append_nil])
  refine C0 7 rfl rfl dc (Y.sub rfl rfl om om) kr (C0 8 rfl rfl dc (G1 rfl) kr (C0 9 rfl rfl dc (G1 rfl) kr (a0W (F3 10 rfl rfl kr (fun _ _ => SameI.out) (Ns [_, _] ty_Query rfl) (fun _ _ => (C0 11 rfl rfl dc (G1 rfl) kr (C0 12 rfl rfl dc (G1 rfl) kr (C0 13 rfl rfl dc (G1 rfl) kr (Q6 kr (Et (E.ret (j6 (m6 (a0W (a0W (a0W (a0W (w9 ?_))))))))))))))))))
  refine w9 (w9 (w9 (w9 (w9 ?_))))
  exact b0G br rfl rfl rfl rfl rfl rfl rfl (mS (mS (mS (mS (mS (mS m0)))))) ty_Query rfl (xs19, ms19, hq19, aq19, xs36, fl42, (x49 - 1), (_, _, _), (_, _, _), (_, _, _), (_, _, _), (_, _, _), (_, _, _)) (show (1 ≤ xs19.length ∧ xs19.length ≤ 4) ∧ (ms19.length ≤ 5 ∧ ∀ m ∈ ms19, m.2.1.length ≤ 4) ∧ dQ dT 3 3 hq19 aq19 ∧ xs36.length ≤ 4 ∧ (fl42.length ≤ 9 ∧ ∀ f ∈ fl42, 1 ≤ f.2.length ∧ f.2.length ≤ 4) ∧ -1 ≤ (x49 - 1) ∧ (x49 - 1) ≤ 4 from by first | exact ⟨o19.1, o19.2.1, o19.2.2, jf, o42, by omega, by omega⟩ | exact ⟨o19.1, o19.2.1, o19.2.2, o36.1, o42, by omega, by omega⟩) rfl (J := _) (.refl _) (.inl rfl)
 ·refine Eu (l6 rfl (i8 (Et (Ew Z4 (Em rfl (Em rfl (Est rfl (N.call (pre := [_]) a0S rfl rfl rfl dc rfl (fun w Lp hA => ⟨hA.ow (mS (mS m0)), hA.ro hbs⟩)) (fun k42 o42 => ?_))))))))
  obtain ⟨fl42, ⟨a42, m42, c42⟩⟩ := k42
  replace o42 : fl42.length ≤ 9 ∧ ∀ f ∈ fl42, 1 ≤ f.2.length ∧ f.2.length ≤ 4 := o42
  try (conv => arg 4; dsimp only)
  try (conv => arg 5; dsimp only [List.cons_append, List.nil_append, List.append_nil])
  refine i9 m0 fun e42 l42 => ?_
  subst e42
  refine Ei rfl (Eu (Eq_ (O0 [b11] (fun j => true) mixed (C0 0 rfl rfl dc (j4 rfl) kr (C0 1 rfl rfl dc (j4 rfl) kr (Y6 2 rfl rfl dc (b3v (cs := [_, _]) ty_Query rfl (O9.pt (mS (mS (mS m0))) (by simp)) rfl) kr (C0 3 rfl rfl dc (j4 rfl) kr (C0 4 rfl rfl dc (j4 rfl) kr (C0 5 rfl rfl dc (j4 rfl) kr (f7 (F3 6 rfl rfl kr (fun _ _ => SameI.out) (N.call (pre := [_]) x5 rfl rfl rfl dc rfl (fun w Lp hA => hA.ro hbs)) (fun x49 o49 => ?_))))))))))))
  replace o49 : 0 ≤ x49 ∧ ((6 : Int) ≤ 0 → x49 = 0) ∧ (0 < (6 : Int) → x49 < (6 : Int)) := o49
  try (conv => arg 5; dsimp only [List.cons_append, List.nil_append, List.append_nil])
  refine C0 7 rfl rfl dc (Y.sub rfl rfl om om) kr (C0 8 rfl rfl dc (G1 rfl) kr (C0 9 rfl rfl dc (G1 rfl) kr (Y0 (F3 10 rfl rfl kr (fun _ _ => SameI.out) (Ns [_, _] ty_Query rfl) (fun _ _ => (C0 11 rfl rfl dc (G1 rfl) kr (C0 12 rfl rfl dc (G1 rfl) kr (C0 13 rfl rfl dc (G1 rfl) kr (Q6 kr (Et (E.ret (j6 (m6 (Y0 (Y0 (Y0 (Y0 (w9 ?_))))))))))))))))))
  refine w9 (w9 (w9 (w9 (w9 ?_))))
  exact b0G br rfl rfl rfl rfl rfl rfl rfl (mS (mS (mS (mS (mS (mS m0)))))) ty_Query rfl (xs19, ms19, hq19, aq19, a1u xs19 ms19 (hq19, aq19), fl42, (x49 - 1), (_, _, _), (_, _, _), (_, _, _), (_, _, _), (_, _, _), (_, _, _)) (show (1 ≤ xs19.length ∧ xs19.length ≤ 4) ∧ (ms19.length ≤ 5 ∧ ∀ m ∈ ms19, m.2.1.length ≤ 4) ∧ dQ dT 3 3 hq19 aq19 ∧ (a1u xs19 ms19 (hq19, aq19)).length ≤ 4 ∧ (fl42.length ≤ 9 ∧ ∀ f ∈ fl42, 1 ≤ f.2.length ∧ f.2.length ≤ 4) ∧ -1 ≤ (x49 - 1) ∧ (x49 - 1) ≤ 4 from by first | exact ⟨o19.1, o19.2.1, o19.2.2, jf, o42, by omega, by omega⟩ | exact ⟨o19.1, o19.2.1, o19.2.2, o36.1, o42, by omega, by omega⟩) rfl (J := _) (.refl _) (.inl rfl)
end Go.Proofs.YtlfhopooaejpfaaGreat
