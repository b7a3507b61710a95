import Derived.Test.YthapcdhdfaibkaaGreatDoorT86
import Derived.Test.YthapcdhdfaibkaaGreatDoorHq
namespace Go.Proofs.YthapcdhdfaibkaaGreatDoor
open Go.RowKit
set_option linter.all false
set_option maxHeartbeats 2000000
attribute [local irreducible] Nop Yd Yp Ent Has Tr FnP FnP2 Src M5 U1 V6 W3 G3
variable {s : List Int} {b_c m_s c_s m_b c_b : Nat} {a_s a_b : Option Addr}
theorem a4Y {bs : List UInt8} (h1 : 1 ≤ s.length) (hsz : ∀ z ∈ s, 1 ≤ z ∧ z ≤ 3) (h3 : s.length ≤ 3) : Tr Tryz.prog 343 [.pointer (some ⟨b_c, 0, none⟩), .slice a_s m_s c_s] (fun w L => Ro w L eIs [.slice a_s m_s c_s] s ∧ Ro w L a0B [.slice a_b m_b c_b] bs) [cur b_c a_b m_b c_b] (κ := Int × (List Int) × Int × Int × Int × SL) (fun k => (-10 ≤ k.1 ∧ k.1 ≤ 10) ∧ k.2.1.length ≤ 3 ∧ (-10 ≤ k.2.2.1 ∧ k.2.2.1 ≤ 100) ∧ (-10 ≤ k.2.2.2.1 ∧ k.2.2.2.1 ≤ 100) ∧ -10 ≤ k.2.2.2.2.1 ∧ k.2.2.2.2.1 ≤ 100) (fun k => .agg #[.int .i64 k.1, .slice k.2.2.2.2.2.1 k.2.2.2.2.2.2.1 k.2.2.2.2.2.2.2, .int .i64 k.2.2.1, .int .i64 k.2.2.2.1, .int .i64 k.2.2.2.2.1]) (fun k => [ow eIs [.slice k.2.2.2.2.2.1 k.2.2.2.2.2.2.1 k.2.2.2.2.2.2.2] k.2.1, cur b_c a_b m_b c_b]) := by
 refine Ti2 Tryz.func343 38 rfl fun w L hR => ?_
 obtain ⟨hs, hbs⟩ := hR
 obtain ⟨rfl, ls⟩ := hs.slen
 obtain ⟨rfl, lb⟩ := hbs.slen
 refine Ew Z1<|Est rfl (N.alloc ty_Method dc)<|fun b4 _ => Ev Z15<|Em rfl<|Em rfl<|Yln us_Is rfl<|f5<|Est rfl (N.call (pre := [_]) C4 rfl rfl rfl dc rfl<|fun w Lp hA => hA.ro hbs)<|fun x10 o10 => ?_
 try dsimp only at o10
 try (conv => arg 5; dsimp only [ca, na])
 have jx : x10.toNat < s.length := by omega
 have jz := hsz _ (List.getElem_mem jx)
 refine Em rfl<|Est rfl (Nb [_, _, _, _, _] [_, _, _, _, _] us_Is i7 rfl rfl)<|fun b12 _ => l6 (A := [_]) (Own.ints (e := tI) (xs := [0, 0, 0, 1, 2]) rfl (by simp [maxLen]) (by simp only [List.forall_mem_cons]; exact ⟨i6, i6, i6, i6, i6, List.forall_mem_nil _⟩)) rfl<|f5<|Est rfl (N.call (pre := [_]) (M0 dc) rfl rfl rfl dc rfl<|fun w Lp hA => ⟨hA.ow m0, hA.ro hbs⟩)<|fun x13 o13 => ?_
 try dsimp only at o13
 try (conv => arg 5; dsimp only [ca, na])
 have jp : 0 ≤ x13 ∧ x13 ≤ 2 := by simp at o13; omega
 refine Em rfl<|Est rfl (N.call (pre := [_]) C4 rfl rfl rfl dc rfl<|fun w Lp hA => hA.ro hbs)<|fun x15 o15 => ?_
 try dsimp only at o15
 try (conv => arg 5; dsimp only [ca, na])
 refine Em rfl<|Est rfl (N.call (pre := [_]) C4 rfl rfl rfl dc rfl<|fun w Lp hA => hA.ro hbs)<|fun x17 o17 => ?_
 try dsimp only at o17
 try (conv => arg 5; dsimp only [ca, na])
 refine Yad rfl om om<|Ey rfl ((M4 (pvs := [_, _, _, _]) (cs := [_, _, _, _, _]) ty_Method b1q rfl rfl).yd)<|Est rfl (N.alloc ty_Method dc)<|fun b5 _ => Est rfl (Ns [_, _, _, _, _] ty_Method rfl)<|fun _ _ => Eu<|Eq_<|Ew Z1<|Ei rfl<|Eu<|E.block<|l6 (A := []) (Own.nil (E := Enc.int) (e := tI) (a := none)) rfl<|Lo (κ := Nat × (List Int) × SL) (fun g => g.1 ≤ s[x10.toNat].toNat ∧ g.2.1.length ≤ g.1) (fun g => [(0, .pointer<|some ⟨b_c, 0, none⟩), (1, .slice a_s s.length c_s), (4, .pointer<|some ⟨b4, 0, none⟩), (5, .pointer<|some ⟨b5, 0, none⟩), (6, .int .i64 (↑g.1 : Int))]) (fun g => [ow eIs [.slice g.2.2.1 g.2.2.2.1 g.2.2.2.2] g.2.1, pt b5 125 [.int .i64 x10, .slice g.2.2.1 g.2.2.2.1 g.2.2.2.2, .int .i64 x13, .int .i64 x15, .int .i64<|1 + x17], cur b_c a_b bs.length c_b, ow eIs [.slice (some ⟨b12, 0, none⟩) 5 5]<|[0, 0, 0, 1, 2], pt b4 125 [.int .i64 0, .slice none 0 0, .int .i64 0, .int .i64 0, .int .i64 0]]) (fun g => s[x10.toNat].toNat - g.1) (0, [], none, 0, 0) ⟨Nat.zero_le _, by simp⟩<|fun g pg => ?_
 obtain ⟨g, ms, aA0_0, mA0_0, cA0_0⟩ := g
 try dsimp only at pg
 try dsimp only
 obtain ⟨pk, pa⟩ := pg
 refine r8 m0 ?_
 rintro rfl laA0_0
 refine Eq_<|Ew Z7<|Em rfl<|Em rfl<|Lz fo_Method_0 i7 rfl (mS m0) rfl ?_
 obtain ⟨eb24, eo24, ea24, ei24, eh24⟩ := hs.elemI x10.toNat om
 refine Il us_Is i7 rfl ea24 x10.toNat om om rfl (eh24 _)<|Ylt rfl<|l3 (fun q26 => ?_)<|fun q26 => ?_
 ·refine Eu<|Ct<|Eq_<|E.block<|Ew Z2<|Em rfl<|i8<|Est rfl (N.call (pre := [_]) a0g rfl rfl rfl dc rfl<|fun w Lp hA => hA.ro hbs)<|fun o30 o30 => ?_
  try dsimp only at o30
  try (conv => arg 5; dsimp only [ca, na])
  refine Ent.b (fun q30 => ?_)<|fun q30 => ?_
  ·refine Eu<|r6 rfl<|Ez Z7<|Lz fo_Method_1 ty_Is rfl (mS<|mS m0) rfl<|Em rfl<|Est rfl (Nb [_] [_] us_Is i7 rfl rfl)<|fun b34 _ => i8<|Est rfl (B0 (E := Enc.int) (ex := (g : Int)) us_Is i7 rfl rfl rfl (Own.int i6) rfl bn bn dc)<|fun p35 _ => Ey rfl ((C2 fo_Method_1 ty_Is dc rfl).yd)<|i8<|Est rfl (Ns [_, _, _, _, _] ty_Is rfl)<|fun _ _ => En<|o6<|Et<|Ez Z3<|Em rfl<|Yad rfl om om<|Ei rfl<|Eu<|s4<|s4<|s4<|a4G<|s4 ?_
   exact Ea (g + 1, ms ++ [(g : Int)], p35.1, ((ms).length + 1), p35.2) ⟨oz, (show (ms ++ [(g : Int)]).length ≤ (g + 1) from by first | omega | (simp only [List.length_append, List.length_singleton]; omega))⟩
  ·refine Eu<|r7 rfl<|v8<|o6<|Et<|Ez Z3<|Em rfl<|Yad rfl om om<|Ei rfl<|Eu<|s4<|s4<|i8<|s4<|s4 ?_
   exact Ea (g + 1, ms, aA0_0, _, cA0_0) ⟨oz, (show ms.length ≤ (g + 1) from by first | omega | (simp only [List.length_append, List.length_singleton]; omega))⟩
 ·refine Eu<|r7 rfl<|E.exit<|l4<|l4<|w8<|Et<|Ew Z2<|Ey rfl (k7 (cs := [_, _, _, _, _]) ty_Method rfl (Has.pt<|mS m0) rfl)<|s4<|Est rfl (Ns [_, _, _, _, _] ty_Method rfl)<|fun _ _ => Eu<|E.ret<|f5<|a4G<|f5 ?_
  exact S0 br rfl rfl (mS<|mS m0) ty_Method rfl (x10, ms, x13, x15, (1 + x17), (_, _, _)) (show (-10 ≤ x10 ∧ x10 ≤ 10) ∧ ms.length ≤ 3 ∧ (-10 ≤ x13 ∧ x13 ≤ 100) ∧ (-10 ≤ x15 ∧ x15 ≤ 100) ∧ -10 ≤ (1 + x17) ∧ (1 + x17) ≤ 100 from by first | omega | (simp only [List.length_append, List.length_singleton, List.length_nil, List.length_cons]; omega)) rfl (J := _) (.refl _)<|.inl rfl
theorem a8w {bs : List UInt8} (h1 : 1 ≤ s.length) (hsz : ∀ z ∈ s, 1 ≤ z ∧ z ≤ 3) (h3 : s.length ≤ 3) : Tr Tryz.prog 285 [.pointer (some ⟨b_c, 0, none⟩), .slice a_s m_s c_s] (fun w L => Ro w L eIs [.slice a_s m_s c_s] s ∧ Ro w L a0B [.slice a_b m_b c_b] bs) [cur b_c a_b m_b c_b] (κ := (List (Int × List Int × Int × Int × Int)) × SL) (fun k => (1 ≤ k.1.length ∧ k.1.length ≤ 4) ∧ ∀ m ∈ k.1, m.2.1.length ≤ 4) (fun k => .slice k.2.1 k.2.2.1 k.2.2.2) (fun k => [ow G0 [.slice k.2.1 k.2.2.1 k.2.2.2] k.1, cur b_c a_b m_b c_b]) := by
 refine Ti2 Tryz.func285 24 rfl fun w L hR => ?_
 obtain ⟨hs, hbs⟩ := hR
 obtain ⟨rfl, ls⟩ := hs.slen
 obtain ⟨rfl, lb⟩ := hbs.slen
 refine Ew Z1<|Ei rfl<|Ev Z2<|Est rfl (Nb [] [] us_Methods ty_Method rfl rfl)<|fun b8 _ => Ent.drop<|Ei rfl<|Eu<|Eq_<|Ew Z4<|Em rfl<|Est rfl (N.call (pre := [_]) C4 rfl rfl rfl dc rfl<|fun w Lp hA => hA.ro hbs)<|fun x10 o10 => ?_
 try dsimp only at o10
 try (conv => arg 5; dsimp only [ca, na])
 refine Yad rfl om om<|Ei rfl<|Eu<|E.block<|l6 (A := []) (Own.nil (E := a0e) (e := tMethod) (a := (some ⟨b8, 0, none⟩))) rfl<|E.loop (κ := Nat × (List<|Int × List Int × Int × Int × Int) × SL) (fun g => g.1 ≤ (1 + x10).toNat ∧ g.2.1.length = g.1 ∧ ∀ m ∈ g.2.1, m.2.1.length ≤ 4) (fun g => [(0, .pointer<|some ⟨b_c, 0, none⟩), (1, .slice a_s s.length c_s), (5, .slice g.2.2.1 g.2.2.2.1 g.2.2.2.2), (6, .int .i64<|1 + x10 - (↑g.1 : Int))]) (fun g => [ow G0 [.slice g.2.2.1 g.2.2.2.1 g.2.2.2.2] g.2.1, cur b_c a_b bs.length c_b]) (fun g => (1 + x10).toNat - g.1) (0, [], (some ⟨b8, 0, none⟩), 0, 0) ⟨Nat.zero_le _, by simp⟩ ⟨rfl, rfl, rfl, frI om, trivial⟩ (.refl _)<|fun g pg => ?_
 obtain ⟨g, ys, aA0_0, mA0_0, cA0_0⟩ := g
 try dsimp only at pg
 try dsimp only
 obtain ⟨pk, pa⟩ := pg
 refine r8 m0 ?_
 rintro rfl laA0_0
 refine Eq_<|Ew Z2<|Em rfl<|Ey rfl ((Y.gtr rfl rfl).yd)<|l3 (fun q13 => ?_)<|fun q13 => ?_
 ·refine Eu<|Ct<|Eq_<|E.block<|Ew Z5<|Em rfl<|Em rfl<|f5<|Est rfl (N.call (pre := [_]) (a4Y fc fc fc) rfl rfl rfl dc rfl<|fun w Lp hA => ⟨hA.ro hs, hA.ro hbs⟩)<|fun k18 o18 => ?_
  obtain ⟨mr18, mi18, ml18, mc18, mq18, ⟨a18, m18, c18⟩⟩ := k18
  try dsimp only at o18
  try (conv => arg 4; dsimp only)
  try (conv => arg 5; dsimp only [ca, na])
  refine r8 m0 ?_
  rintro rfl l18
  refine Est rfl (N.alloc ty_Method dc)<|fun b7 _ => Est rfl (Ns [_, _, _, _, _] ty_Method rfl)<|fun _ _ => Eu<|Ez Z5<|Em rfl<|Ey rfl (k7 (cs := [_, _, _, _, _]) ty_Method rfl (Has.pt m0) rfl)<|Est rfl (Nb [_] [_, _, _, _, _] us_Methods ty_Method rfl rfl)<|fun b21 _ => i8<|f5<|s4<|Est rfl (B0 (E := a0e) (ex := (mr18, mi18, ml18, mc18, mq18)) us_Methods ty_Method rfl rfl rfl (a7M (x := (mr18, mi18, ml18, mc18, mq18)) i6 Own.ow i6 i6 i6) rfl bn bn dc)<|fun p22 _ => Ei rfl<|En<|o6<|Et<|Ez Z3<|Em rfl<|Ey rfl ((Y.sub rfl rfl om om).yd)<|Ei rfl<|Eu<|f5<|Ent.drop<|f5<|f5 ?_
  exact t7 br (g + 1, ys ++ [(mr18, mi18, ml18, mc18, mq18)], p22.1, ((ys).length + 1), p22.2) ⟨rfl, rfl, rfl, frI om, trivial⟩ (.refl _) ⟨oz, (show (ys ++ [(mr18, mi18, ml18, mc18, mq18)]).length = (g + 1) ∧ ∀ m ∈ (ys ++ [(mr18, mi18, ml18, mc18, mq18)]), m.2.1.length ≤ 4 from by exact b8K pa om)⟩ oz
 ·refine Eu<|r7 rfl<|E.exit<|l4<|l4<|w8<|Et<|Ew Z2<|Em rfl<|Ei rfl<|Eu<|E.ret<|f5<|f5<|F.r1 br rfl rfl (ys, (_, _, _)) (show (1 ≤ ys.length ∧ ys.length ≤ 4) ∧ ∀ m ∈ ys, m.2.1.length ≤ 4 from by exact ⟨by omega, pa.2⟩) rfl (J := _) (.refl _)<|.inl rfl
theorem a7G {bs : List UInt8} : Tr Tryz.prog 286 [.pointer (some ⟨b_c, 0, none⟩), .slice a_s m_s c_s] (fun w L => Ro w L eIs [.slice a_s m_s c_s] s ∧ Ro w L a0B [.slice a_b m_b c_b] bs) [cur b_c a_b m_b c_b] (κ := Int × (List Int) × Int × Int × Int × SL) (fun k => (-10 ≤ k.1 ∧ k.1 ≤ 10) ∧ k.2.1.length ≤ 4 ∧ (-10 ≤ k.2.2.1 ∧ k.2.2.1 ≤ 100) ∧ (-10 ≤ k.2.2.2.1 ∧ k.2.2.2.1 ≤ 100) ∧ -10 ≤ k.2.2.2.2.1 ∧ k.2.2.2.2.1 ≤ 100) (fun k => .agg #[.int .i64 k.1, .slice k.2.2.2.2.2.1 k.2.2.2.2.2.2.1 k.2.2.2.2.2.2.2, .int .i64 k.2.2.1, .int .i64 k.2.2.2.1, .int .i64 k.2.2.2.2.1]) (fun k => [ow eIs [.slice k.2.2.2.2.2.1 k.2.2.2.2.2.2.1 k.2.2.2.2.2.2.2] k.2.1, cur b_c a_b m_b c_b]) := by
 refine Ti2 Tryz.func286 43 rfl fun w L hR => ?_
 obtain ⟨hs, hbs⟩ := hR
 obtain ⟨rfl, ls⟩ := hs.slen
 obtain ⟨rfl, lb⟩ := hbs.slen
 refine Ew Z1<|Est rfl (N.alloc ty_Method dc)<|fun b4 _ => Ev Z3<|Ey rfl ((M4 (pvs := [_]) (cs := [_, _, _, _, _]) ty_Method b1q rfl rfl).yd)<|Est rfl (N.alloc ty_Method dc)<|fun b5 _ => Est rfl (Ns [_, _, _, _, _] ty_Method rfl)<|fun _ _ => Eu<|Eq_<|Ew Z2<|Em rfl<|E0 rfl R6 rfl (fun hA => hA.ro hs)<|Ent.b (fun q8 => ?_)<|fun q8 => ?_
 ·refine Eu<|r6 rfl<|Ez Z4<|Em rfl<|Em rfl<|i8<|Est rfl (N.call (pre := [_]) (a4Y (a1H q8).1 (a1H q8).2.2 (a1H q8).2.1) rfl rfl rfl dc rfl<|fun w Lp hA => ⟨hA.ro hs, hA.ro hbs⟩)<|fun k11 o11 => ?_
  obtain ⟨mr11, mi11, ml11, mc11, mq11, ⟨a11, m11, c11⟩⟩ := k11
  try dsimp only at o11
  try (conv => arg 4; dsimp only)
  try (conv => arg 5; dsimp only [ca, na])
  refine r8 m0 ?_
  rintro rfl l11
  refine i8<|Est rfl (Ns [_, _, _, _, _] ty_Method rfl)<|fun _ _ => Eu<|Eq_<|Ew Z2<|Em rfl<|i8<|Est rfl (N.call (pre := [_]) C4 rfl rfl rfl dc rfl<|fun w Lp hA => hA.ro hbs)<|fun x13 o13 => ?_
  try dsimp only at o13
  try (conv => arg 5; dsimp only [ca, na])
  refine Eu<|E.block<|Ew Z2<|Yeq rfl<|Ei rfl<|l3 (fun q14 => ?_)<|fun q14 => ?_
  ·refine Eu<|r6 rfl<|Ez Z5<|Em rfl<|Est rfl (Nb [_, _, _] [_, _, _] us_Is i7 rfl rfl)<|fun b17 _ => l6 (A := [_]) (Own.ints (e := tI) (xs := [-1, 9, 10]) rfl (by simp [maxLen]) (by simp only [List.forall_mem_cons]; exact ⟨i6, i6, i6, List.forall_mem_nil _⟩)) rfl<|f5<|Est rfl (N.call (pre := [_]) (M0 dc) rfl rfl rfl dc rfl<|fun w Lp hA => ⟨hA.ow m0, hA.ro hbs⟩)<|fun x18 o18 => ?_
   try dsimp only at o18
   try (conv => arg 5; dsimp only [ca, na])
   have jp : -10 ≤ x18 ∧ x18 ≤ 100 := by simp at o18; omega
   refine Ey rfl ((C2 fo_Method_2 i7 dc rfl).yd)<|i8<|Est rfl (Ns [_, _, _, _, _] i7 rfl)<|fun _ _ => En<|o6<|Et<|Ew Z2<|Ey rfl (k7 (cs := [_, _, _, _, _]) ty_Method rfl (Has.pt m0) rfl)<|s4<|Est rfl (Ns [_, _, _, _, _] ty_Method rfl)<|fun _ _ => Eu<|E.ret<|s4<|a4G<|f5 ?_
   exact S0 br rfl rfl (mS<|mS m0) ty_Method rfl (mr11, mi11, x18, mc11, mq11, (_, _, _)) (show (-10 ≤ mr11 ∧ mr11 ≤ 10) ∧ mi11.length ≤ 4 ∧ (-10 ≤ x18 ∧ x18 ≤ 100) ∧ (-10 ≤ mc11 ∧ mc11 ≤ 100) ∧ -10 ≤ mq11 ∧ mq11 ≤ 100 from by first | omega | (simp only [List.length_append, List.length_singleton, List.length_nil, List.length_cons]; omega)) rfl (J := _) (.refl _)<|.inl rfl
  ·refine Eu<|r7 rfl<|Ew Z2<|Yeq rfl<|Ei rfl<|l3 (fun q20 => ?_)<|fun q20 => ?_
   ·refine Eu<|r6 rfl<|S7 [b5] (fun j => !(Nat.beq j 8)) mixed<|C1 0 rfl rfl dc (C2 fo_Method_1 ty_Is dc rfl) kr<|a0a 1 rfl rfl dc (W9 ty_Is rfl ((S3.pt (mS m0) (by simp)).sub (cs' := [_]) 1 rfl) rfl) kr<|C1 2 rfl rfl dc (O5 rfl) kr<|G2 3 rfl rfl kr (fun _ _ => SameI.out) (N.call (pre := [_]) C4 rfl rfl rfl dc rfl<|fun w Lp hA => hA.ro hbs)<|fun x25 o25 => ?_
    try dsimp only at o25
    try (conv => arg 5; dsimp only [ca, na])
    refine C1 4 rfl rfl dc (Y.sub rfl rfl om om) kr<|G2 5 rfl rfl kr (fun _ _ => SameI.out) (Nb [_] [_] us_Is i7 rfl rfl)<|fun b27 _ => a4G<|G2 6 rfl rfl kr (fun _ _ => SameI.out) (B0 (E := Enc.int) (ex := (x25 - 1)) us_Is i7 rfl rfl rfl (Own.int i6) rfl bn bn dc)<|fun p28 _ => C1 7 rfl rfl dc (C2 fo_Method_1 ty_Is dc rfl) kr<|i8<|G2 8 rfl rfl kr (fun h => by cases h) (Ns [_, _, _, _, _] ty_Is rfl)<|fun _ _ => U6 kr<|o6<|Et<|Ew Z2<|Ey rfl (k7 (cs := [_, _, _, _, _]) ty_Method rfl (Has.pt m0) rfl)<|a4G<|Est rfl (Ns [_, _, _, _, _] ty_Method rfl)<|fun _ _ => Eu<|E.ret<|i8<|a4G<|f5 ?_
    exact S0 br rfl rfl (mS<|mS m0) ty_Method rfl (mr11, mi11 ++ [(x25 - 1)], ml11, mc11, mq11, (_, _, _)) (show (-10 ≤ mr11 ∧ mr11 ≤ 10) ∧ (mi11 ++ [(x25 - 1)]).length ≤ 4 ∧ (-10 ≤ ml11 ∧ ml11 ≤ 100) ∧ (-10 ≤ mc11 ∧ mc11 ≤ 100) ∧ -10 ≤ mq11 ∧ mq11 ≤ 100 from by first | omega | (simp only [List.length_append, List.length_singleton, List.length_nil, List.length_cons]; omega)) rfl (J := _) (.refl _)<|.inl rfl
   ·refine Eu<|r7 rfl<|Ew Z2<|Yeq rfl<|Ei rfl<|l3 (fun q30 => ?_)<|fun q30 => ?_
    ·refine Eu<|r6 rfl<|Ez Z5<|Em rfl<|Est rfl (Nb [_, _, _] [_, _, _] us_Is i7 rfl rfl)<|fun b33 _ => l6 (A := [_]) (Own.ints (e := tI) (xs := [0, 99, 100]) rfl (by simp [maxLen]) (by simp only [List.forall_mem_cons]; exact ⟨i6, i6, i6, List.forall_mem_nil _⟩)) rfl<|f5<|Est rfl (N.call (pre := [_]) (M0 dc) rfl rfl rfl dc rfl<|fun w Lp hA => ⟨hA.ow m0, hA.ro hbs⟩)<|fun x34 o34 => ?_
     try dsimp only at o34
     try (conv => arg 5; dsimp only [ca, na])
     have jp : -10 ≤ x34 ∧ x34 ≤ 100 := by simp at o34; omega
     refine Ey rfl ((C2 fo_Method_4 i7 dc rfl).yd)<|i8<|Est rfl (Ns [_, _, _, _, _] i7 rfl)<|fun _ _ => En<|o6<|Et<|Ew Z2<|Ey rfl (k7 (cs := [_, _, _, _, _]) ty_Method rfl (Has.pt m0) rfl)<|s4<|Est rfl (Ns [_, _, _, _, _] ty_Method rfl)<|fun _ _ => Eu<|E.ret<|s4<|a4G<|f5 ?_
     exact S0 br rfl rfl (mS<|mS m0) ty_Method rfl (mr11, mi11, ml11, mc11, x34, (_, _, _)) (show (-10 ≤ mr11 ∧ mr11 ≤ 10) ∧ mi11.length ≤ 4 ∧ (-10 ≤ ml11 ∧ ml11 ≤ 100) ∧ (-10 ≤ mc11 ∧ mc11 ≤ 100) ∧ -10 ≤ x34 ∧ x34 ≤ 100 from by first | omega | (simp only [List.length_append, List.length_singleton, List.length_nil, List.length_cons]; omega)) rfl (J := _) (.refl _)<|.inl rfl
    ·refine Eu<|r7 rfl<|Ew Z2<|Yeq rfl<|Ei rfl<|l3 (fun q36 => ?_)<|fun q36 => ?_
     ·refine Eu<|r6 rfl<|Ez Z5<|Em rfl<|Est rfl (Nb [_, _, _] [_, _, _] us_Is i7 rfl rfl)<|fun b39 _ => l6 (A := [_]) (Own.ints (e := tI) (xs := [-1, 99, 100]) rfl (by simp [maxLen]) (by simp only [List.forall_mem_cons]; exact ⟨i6, i6, i6, List.forall_mem_nil _⟩)) rfl<|f5<|Est rfl (N.call (pre := [_]) (M0 dc) rfl rfl rfl dc rfl<|fun w Lp hA => ⟨hA.ow m0, hA.ro hbs⟩)<|fun x40 o40 => ?_
      try dsimp only at o40
      try (conv => arg 5; dsimp only [ca, na])
      have jp : -10 ≤ x40 ∧ x40 ≤ 100 := by simp at o40; omega
      refine Ey rfl ((C2 fo_Method_3 i7 dc rfl).yd)<|i8<|Est rfl (Ns [_, _, _, _, _] i7 rfl)<|fun _ _ => En<|o6<|Et<|Ew Z2<|Ey rfl (k7 (cs := [_, _, _, _, _]) ty_Method rfl (Has.pt m0) rfl)<|s4<|Est rfl (Ns [_, _, _, _, _] ty_Method rfl)<|fun _ _ => Eu<|E.ret<|s4<|a4G<|f5 ?_
      exact S0 br rfl rfl (mS<|mS m0) ty_Method rfl (mr11, mi11, ml11, x40, mq11, (_, _, _)) (show (-10 ≤ mr11 ∧ mr11 ≤ 10) ∧ mi11.length ≤ 4 ∧ (-10 ≤ ml11 ∧ ml11 ≤ 100) ∧ (-10 ≤ x40 ∧ x40 ≤ 100) ∧ -10 ≤ mq11 ∧ mq11 ≤ 100 from by first | omega | (simp only [List.length_append, List.length_singleton, List.length_nil, List.length_cons]; omega)) rfl (J := _) (.refl _)<|.inl rfl
     ·refine Eu<|r7 rfl<|v8<|o6<|Et<|Ew Z2<|Ey rfl (k7 (cs := [_, _, _, _, _]) ty_Method rfl (Has.pt<|mS m0) rfl)<|a4G<|Est rfl (Ns [_, _, _, _, _] ty_Method rfl)<|fun _ _ => Eu<|E.ret<|a4G<|i8<|f5 ?_
      exact S0 br rfl rfl (mS<|mS m0) ty_Method rfl (mr11, mi11, ml11, mc11, mq11, (_, _, _)) (show (-10 ≤ mr11 ∧ mr11 ≤ 10) ∧ mi11.length ≤ 4 ∧ (-10 ≤ ml11 ∧ ml11 ≤ 100) ∧ (-10 ≤ mc11 ∧ mc11 ≤ 100) ∧ -10 ≤ mq11 ∧ mq11 ≤ 100 from by first | omega | (simp only [List.length_append, List.length_singleton, List.length_nil, List.length_cons]; omega)) rfl (J := _) (.refl _)<|.inl rfl
 ·refine Eu<|Cf<|Eq_<|Ew Z2<|Em rfl<|i8<|Est rfl (N.call (pre := [_]) C4 rfl rfl rfl dc rfl<|fun w Lp hA => hA.ro hbs)<|fun x13 o13 => ?_
  try dsimp only at o13
  try (conv => arg 5; dsimp only [ca, na])
  refine Eu<|E.block<|Ew Z2<|Yeq rfl<|Ei rfl<|l3 (fun q14 => ?_)<|fun q14 => ?_
  ·refine Eu<|r6 rfl<|Ez Z5<|Em rfl<|Est rfl (Nb [_, _, _] [_, _, _] us_Is i7 rfl rfl)<|fun b17 _ => l6 (A := [_]) (Own.ints (e := tI) (xs := [-1, 9, 10]) rfl (by simp [maxLen]) (by simp only [List.forall_mem_cons]; exact ⟨i6, i6, i6, List.forall_mem_nil _⟩)) rfl<|f5<|Est rfl (N.call (pre := [_]) (M0 dc) rfl rfl rfl dc rfl<|fun w Lp hA => ⟨hA.ow m0, hA.ro hbs⟩)<|fun x18 o18 => ?_
   try dsimp only at o18
   try (conv => arg 5; dsimp only [ca, na])
   have jp : -10 ≤ x18 ∧ x18 ≤ 100 := by simp at o18; omega
   refine Ey rfl ((C2 fo_Method_2 i7 dc rfl).yd)<|i8<|Est rfl (Ns [_, _, _, _, _] i7 rfl)<|fun _ _ => En<|o6<|Et<|Ew Z2<|Ey rfl (k7 (cs := [_, _, _, _, _]) ty_Method rfl (Has.pt m0) rfl)<|a4G<|Est rfl (Ns [_, _, _, _, _] ty_Method rfl)<|fun _ _ => Eu<|E.ret<|l6 (A := []) (Own.nil (E := Enc.int) (e := tI) (a := none)) rfl<|a4G<|f5 ?_
   exact S0 br rfl rfl (mS<|mS m0) ty_Method rfl (0, [], x18, 0, 1, (none, 0, 0)) (show (-10 ≤ (0 : Int) ∧ (0 : Int) ≤ 10) ∧ ([] : List Int).length ≤ 4 ∧ (-10 ≤ x18 ∧ x18 ≤ 100) ∧ (-10 ≤ (0 : Int) ∧ (0 : Int) ≤ 100) ∧ -10 ≤ (1 : Int) ∧ (1 : Int) ≤ 100 from by first | omega | (simp only [List.length_append, List.length_singleton, List.length_nil, List.length_cons]; omega)) rfl (J := _) (.refl _)<|.inl rfl
  ·refine Eu<|r7 rfl<|Ew Z2<|Yeq rfl<|Ei rfl<|l3 (fun q20 => ?_)<|fun q20 => ?_
   ·refine Eu<|r6 rfl<|S7 [b5] (fun j => !(Nat.beq j 8)) mixed<|C1 0 rfl rfl dc (C2 fo_Method_1 ty_Is dc rfl) kr<|a0a 1 rfl rfl dc (W9 ty_Is rfl ((S3.pt (mS m0) (by simp)).sub (cs' := [_]) 1 rfl) rfl) kr<|C1 2 rfl rfl dc (O5 rfl) kr<|G2 3 rfl rfl kr (fun _ _ => SameI.out) (N.call (pre := [_]) C4 rfl rfl rfl dc rfl<|fun w Lp hA => hA.ro hbs)<|fun x25 o25 => ?_
    try dsimp only at o25
    try (conv => arg 5; dsimp only [ca, na])
    refine C1 4 rfl rfl dc (Y.sub rfl rfl om om) kr<|G2 5 rfl rfl kr (fun _ _ => SameI.out) (Nb [_] [_] us_Is i7 rfl rfl)<|fun b27 _ => l6 (A := []) (Own.nil (E := Enc.int) (e := tI) (a := none)) rfl<|f5<|f5<|G2 6 rfl rfl kr (fun _ _ => SameI.out) (B0 (E := Enc.int) (ex := (x25 - 1)) us_Is i7 rfl rfl rfl (Own.int i6) rfl bn bn dc)<|fun p28 _ => C1 7 rfl rfl dc (C2 fo_Method_1 ty_Is dc rfl) kr<|i8<|G2 8 rfl rfl kr (fun h => by cases h) (Ns [_, _, _, _, _] ty_Is rfl)<|fun _ _ => U6 kr<|o6<|Et<|Ew Z2<|Ey rfl (k7 (cs := [_, _, _, _, _]) ty_Method rfl (Has.pt m0) rfl)<|a4G<|Est rfl (Ns [_, _, _, _, _] ty_Method rfl)<|fun _ _ => Eu<|E.ret<|i8<|a4G<|f5 ?_
    exact S0 br rfl rfl (mS<|mS m0) ty_Method rfl (0, [] ++ [(x25 - 1)], 0, 0, 1, (_, _, _)) (show (-10 ≤ (0 : Int) ∧ (0 : Int) ≤ 10) ∧ ([] ++ [(x25 - 1)] : List Int).length ≤ 4 ∧ (-10 ≤ (0 : Int) ∧ (0 : Int) ≤ 100) ∧ (-10 ≤ (0 : Int) ∧ (0 : Int) ≤ 100) ∧ -10 ≤ (1 : Int) ∧ (1 : Int) ≤ 100 from by first | omega | (simp only [List.length_append, List.length_singleton, List.length_nil, List.length_cons]; omega)) rfl (J := _) (.refl _)<|.inl rfl
   ·refine Eu<|r7 rfl<|Ew Z2<|Yeq rfl<|Ei rfl<|l3 (fun q30 => ?_)<|fun q30 => ?_
    ·refine Eu<|r6 rfl<|Ez Z5<|Em rfl<|Est rfl (Nb [_, _, _] [_, _, _] us_Is i7 rfl rfl)<|fun b33 _ => l6 (A := [_]) (Own.ints (e := tI) (xs := [0, 99, 100]) rfl (by simp [maxLen]) (by simp only [List.forall_mem_cons]; exact ⟨i6, i6, i6, List.forall_mem_nil _⟩)) rfl<|f5<|Est rfl (N.call (pre := [_]) (M0 dc) rfl rfl rfl dc rfl<|fun w Lp hA => ⟨hA.ow m0, hA.ro hbs⟩)<|fun x34 o34 => ?_
     try dsimp only at o34
     try (conv => arg 5; dsimp only [ca, na])
     have jp : -10 ≤ x34 ∧ x34 ≤ 100 := by simp at o34; omega
     refine Ey rfl ((C2 fo_Method_4 i7 dc rfl).yd)<|i8<|Est rfl (Ns [_, _, _, _, _] i7 rfl)<|fun _ _ => En<|o6<|Et<|Ew Z2<|Ey rfl (k7 (cs := [_, _, _, _, _]) ty_Method rfl (Has.pt m0) rfl)<|a4G<|Est rfl (Ns [_, _, _, _, _] ty_Method rfl)<|fun _ _ => Eu<|E.ret<|l6 (A := []) (Own.nil (E := Enc.int) (e := tI) (a := none)) rfl<|a4G<|f5 ?_
     exact S0 br rfl rfl (mS<|mS m0) ty_Method rfl (0, [], 0, 0, x34, (none, 0, 0)) (show (-10 ≤ (0 : Int) ∧ (0 : Int) ≤ 10) ∧ ([] : List Int).length ≤ 4 ∧ (-10 ≤ (0 : Int) ∧ (0 : Int) ≤ 100) ∧ (-10 ≤ (0 : Int) ∧ (0 : Int) ≤ 100) ∧ -10 ≤ x34 ∧ x34 ≤ 100 from by first | omega | (simp only [List.length_append, List.length_singleton, List.length_nil, List.length_cons]; omega)) rfl (J := _) (.refl _)<|.inl rfl
    ·refine Eu<|r7 rfl<|Ew Z2<|Yeq rfl<|Ei rfl<|l3 (fun q36 => ?_)<|fun q36 => ?_
     ·refine Eu<|r6 rfl<|Ez Z5<|Em rfl<|Est rfl (Nb [_, _, _] [_, _, _] us_Is i7 rfl rfl)<|fun b39 _ => l6 (A := [_]) (Own.ints (e := tI) (xs := [-1, 99, 100]) rfl (by simp [maxLen]) (by simp only [List.forall_mem_cons]; exact ⟨i6, i6, i6, List.forall_mem_nil _⟩)) rfl<|f5<|Est rfl (N.call (pre := [_]) (M0 dc) rfl rfl rfl dc rfl<|fun w Lp hA => ⟨hA.ow m0, hA.ro hbs⟩)<|fun x40 o40 => ?_
      try dsimp only at o40
      try (conv => arg 5; dsimp only [ca, na])
      have jp : -10 ≤ x40 ∧ x40 ≤ 100 := by simp at o40; omega
      refine Ey rfl ((C2 fo_Method_3 i7 dc rfl).yd)<|i8<|Est rfl (Ns [_, _, _, _, _] i7 rfl)<|fun _ _ => En<|o6<|Et<|Ew Z2<|Ey rfl (k7 (cs := [_, _, _, _, _]) ty_Method rfl (Has.pt m0) rfl)<|a4G<|Est rfl (Ns [_, _, _, _, _] ty_Method rfl)<|fun _ _ => Eu<|E.ret<|l6 (A := []) (Own.nil (E := Enc.int) (e := tI) (a := none)) rfl<|a4G<|f5 ?_
      exact S0 br rfl rfl (mS<|mS m0) ty_Method rfl (0, [], 0, x40, 1, (none, 0, 0)) (show (-10 ≤ (0 : Int) ∧ (0 : Int) ≤ 10) ∧ ([] : List Int).length ≤ 4 ∧ (-10 ≤ (0 : Int) ∧ (0 : Int) ≤ 100) ∧ (-10 ≤ x40 ∧ x40 ≤ 100) ∧ -10 ≤ (1 : Int) ∧ (1 : Int) ≤ 100 from by first | omega | (simp only [List.length_append, List.length_singleton, List.length_nil, List.length_cons]; omega)) rfl (J := _) (.refl _)<|.inl rfl
     ·refine Eu<|r7 rfl<|v8<|o6<|Et<|Ew Z2<|Ey rfl (k7 (cs := [_, _, _, _, _]) ty_Method rfl (Has.pt<|mS m0) rfl)<|i8<|Est rfl (Ns [_, _, _, _, _] ty_Method rfl)<|fun _ _ => Eu<|E.ret<|l6 (A := []) (Own.nil (E := Enc.int) (e := tI) (a := none)) rfl<|i8<|f5 ?_
      exact S0 br rfl rfl (mS<|mS m0) ty_Method rfl (0, [], 0, 0, 1, (none, 0, 0)) (show (-10 ≤ (0 : Int) ∧ (0 : Int) ≤ 10) ∧ ([] : List Int).length ≤ 4 ∧ (-10 ≤ (0 : Int) ∧ (0 : Int) ≤ 100) ∧ (-10 ≤ (0 : Int) ∧ (0 : Int) ≤ 100) ∧ -10 ≤ (1 : Int) ∧ (1 : Int) ≤ 100 from by first | omega | (simp only [List.length_append, List.length_singleton, List.length_nil, List.length_cons]; omega)) rfl (J := _) (.refl _)<|.inl rfl
theorem b1G {bs : List UInt8} : Tr Tryz.prog 183 [.pointer (some ⟨b_c, 0, none⟩)] (fun w L => Ro w L a0B [.slice a_b m_b c_b] bs) [cur b_c a_b m_b c_b] (κ := (List Int) × (List (Int × List Int × Int × Int × Int)) × (List Int) × (List IL) × (SL) × (SL) × (SL) × SL) (fun k => (1 ≤ k.1.length ∧ k.1.length ≤ 4) ∧ (k.2.1.length ≤ 5 ∧ ∀ m ∈ k.2.1, m.2.1.length ≤ 4) ∧ dQ dT 3 3 k.2.2.1 k.2.2.2.1) (fun k => .tuple #[.slice k.2.2.2.2.1.1 k.2.2.2.2.1.2.1 k.2.2.2.2.1.2.2, .slice k.2.2.2.2.2.1.1 k.2.2.2.2.2.1.2.1 k.2.2.2.2.2.1.2.2, .agg #[.slice k.2.2.2.2.2.2.1.1 k.2.2.2.2.2.2.1.2.1 k.2.2.2.2.2.2.1.2.2, .slice k.2.2.2.2.2.2.2.1 k.2.2.2.2.2.2.2.2.1 k.2.2.2.2.2.2.2.2.2]]) (fun k => [ow eIs [.slice k.2.2.2.2.1.1 k.2.2.2.2.1.2.1 k.2.2.2.2.1.2.2] k.1, ow G0 [.slice k.2.2.2.2.2.1.1 k.2.2.2.2.2.1.2.1 k.2.2.2.2.2.1.2.2] k.2.1, ow eIs [.slice k.2.2.2.2.2.2.1.1 k.2.2.2.2.2.2.1.2.1 k.2.2.2.2.2.2.1.2.2] k.2.2.1, ow B1 [.slice k.2.2.2.2.2.2.2.1 k.2.2.2.2.2.2.2.2.1 k.2.2.2.2.2.2.2.2.2] k.2.2.2.1, cur b_c a_b m_b c_b]) := by
 refine Ti1 Tryz.func183 38 rfl fun w L hR => ?_
 have hbs := hR
 obtain ⟨rfl, lb⟩ := hbs.slen
 refine Ew Z3<|Ei rfl<|Ei rfl<|Est rfl (N.alloc ty_Query dc)<|fun b4 _ => Ev Z3<|Em rfl<|f5<|Est rfl (N.call (pre := [_]) a5h rfl rfl rfl dc rfl<|fun w Lp hA => hA.ro hbs)<|fun k9 o9 => ?_
 obtain ⟨xs9, ⟨a9, m9, c9⟩⟩ := k9
 try dsimp only at o9
 try (conv => arg 4; dsimp only)
 try (conv => arg 5; dsimp only [ca, na])
 refine r8 m0 ?_
 rintro rfl l9
 refine Ei rfl<|Ev Z4<|Em rfl<|Em rfl<|f5<|Est rfl (N.call (pre := [_]) (a8w o9.1 o9.2.2 o9.2.1) rfl rfl rfl dc rfl<|fun w Lp hA => ⟨hA.ow m0, hA.ro hbs⟩)<|fun k12 o12 => ?_
 obtain ⟨ms12, ⟨a12, m12, c12⟩⟩ := k12
 try dsimp only at o12
 try (conv => arg 4; dsimp only)
 try (conv => arg 5; dsimp only [ca, na])
 refine r8 m0 ?_
 rintro rfl l12
 refine Ei rfl<|Ev Z5<|Em rfl<|Em rfl<|f5<|Est rfl (N.call (pre := [_]) (a3x o9.1 o9.2.2) rfl rfl rfl dc rfl<|fun w Lp hA => ⟨hA.ow<|mS m0, hA.ro hbs⟩)<|fun k15 o15 => ?_
 obtain ⟨hq15, aq15, ⟨a15_0, m15_0, c15_0⟩, ⟨a15_1, m15_1, c15_1⟩⟩ := k15
 try dsimp only at o15
 try (conv => arg 4; dsimp only)
 try (conv => arg 5; dsimp only [ca, na])
 refine r8 m0 ?_
 rintro rfl l15_0
 refine r8 (mS m0) ?_
 rintro rfl l15_1
 refine Est rfl (N.alloc ty_Query dc)<|fun b7 _ => Est rfl (Ns [_, _] ty_Query rfl)<|fun _ _ => Eu<|Eq_<|Ew Z2<|Em rfl<|a4G<|Est rfl (N.call (pre := [_]) C4 rfl rfl rfl dc rfl<|fun w Lp hA => hA.ro hbs)<|fun x17 o17 => ?_
 try dsimp only at o17
 try (conv => arg 5; dsimp only [ca, na])
 refine Eu<|E.block<|Ew Z2<|Yeq rfl<|Ei rfl<|l3 (fun q18 => ?_)<|fun q18 => ?_
 ·refine Eu<|r6 rfl<|Ez Z7<|Em rfl<|Em rfl<|Em rfl<|Est rfl (N.call (pre := [_]) a7G rfl rfl rfl dc rfl<|fun w Lp hA => ⟨hA.ow<|mS<|mS<|mS<|mS m0, hA.ro hbs⟩)<|fun k23 o23 => ?_
  obtain ⟨mr23, mi23, ml23, mc23, mq23, ⟨a23, m23, c23⟩⟩ := k23
  try dsimp only at o23
  try (conv => arg 4; dsimp only)
  try (conv => arg 5; dsimp only [ca, na])
  refine r8 m0 ?_
  rintro rfl l23
  refine Est rfl (Nb [_] [_, _, _, _, _] us_Methods ty_Method rfl rfl)<|fun b24 _ => f5<|f5<|w7<|Est rfl (B0 (E := a0e) (ex := (mr23, mi23, ml23, mc23, mq23)) us_Methods ty_Method rfl rfl rfl (a7M (x := (mr23, mi23, ml23, mc23, mq23)) i6 Own.ow i6 i6 i6) rfl bn bn dc)<|fun p25 _ => Ei rfl<|En<|o6<|Et<|Eq_<|D.region (fun j => !(Nat.beq j 5)) mixed<|Dm 0 rfl<|Dm 1 rfl<|Dy 2 rfl (k7 (cs := [_, _]) ty_Query rfl (Has.pt<|mS<|mS m0) rfl)<|Dyp 3 rfl (G7 rfl)<|Dyp 4 rfl (G7 rfl)<|w7<|E7 5 rfl rfl kr (fun h => by cases h) (Ns [_, _] ty_Query rfl)<|fun _ _ => n9 kr<|Et<|E.ret<|y7<|y7<|a4G<|w7<|y7<|s4<|s4<|s4<|s4<|a8c br rfl rfl rfl rfl (mS<|mS<|mS<|mS<|mS m0) ty_Query rfl (xs9, ms12 ++ [(mr23, mi23, ml23, mc23, mq23)], hq15, aq15, (_, _, _), (_, _, _), (_, _, _), (_, _, _)) (show (1 ≤ xs9.length ∧ xs9.length ≤ 4) ∧ ((ms12 ++ [(mr23, mi23, ml23, mc23, mq23)]).length ≤ 5 ∧ ∀ m ∈ (ms12 ++ [(mr23, mi23, ml23, mc23, mq23)]), m.2.1.length ≤ 4) ∧ dQ dT 3 3 hq15 aq15 from by exact ⟨⟨by omega, by omega⟩, b9V o12 o23.2.1, o15.up⟩) rfl (J := _) (.refl _)<|.inl rfl
 ·refine Eu<|r7 rfl<|Ew Z2<|Yeq rfl<|Ei rfl<|l3 (fun q26 => ?_)<|fun q26 => ?_
  ·refine Eu<|r6 rfl<|Ez Z4<|Em rfl<|Em rfl<|Est rfl (N.call (pre := [_]) b2Z rfl rfl rfl dc rfl<|fun w Lp hA => ⟨hA.ow<|mS<|mS<|mS<|mS m0, hA.ro hbs⟩)<|fun k30 o30 => ?_
   obtain ⟨hq30, aq30, ⟨a30_0, m30_0, c30_0⟩, ⟨a30_1, m30_1, c30_1⟩⟩ := k30
   try dsimp only at o30
   try (conv => arg 4; dsimp only)
   try (conv => arg 5; dsimp only [ca, na])
   refine r8 m0 ?_
   rintro rfl l30_0
   refine r8 (mS m0) ?_
   rintro rfl l30_1
   refine a4G<|Est rfl (Ns [_, _] ty_Query rfl)<|fun _ _ => En<|o6<|Et<|Eq_<|D.region (fun j => !(Nat.beq j 5)) mixed<|Dm 0 rfl<|Dm 1 rfl<|Dy 2 rfl (k7 (cs := [_, _]) ty_Query rfl (Has.pt m0) rfl)<|Dyp 3 rfl (G7 rfl)<|Dyp 4 rfl (G7 rfl)<|L4<|E7 5 rfl rfl kr (fun h => by cases h) (Ns [_, _] ty_Query rfl)<|fun _ _ => n9 kr<|Et<|E.ret<|a4G<|a4G<|H4<|L4<|w7<|s4<|s4<|s4<|s4<|a8c br rfl rfl rfl rfl (mS<|mS<|mS<|mS<|mS m0) ty_Query rfl (xs9, ms12, hq30, aq30, (_, _, _), (_, _, _), (_, _, _), (_, _, _)) (show (1 ≤ xs9.length ∧ xs9.length ≤ 4) ∧ (ms12.length ≤ 5 ∧ ∀ m ∈ ms12, m.2.1.length ≤ 4) ∧ dQ dT 3 3 hq30 aq30 from by exact ⟨⟨by omega, by omega⟩, b4t o12, o30⟩) rfl (J := _) (.refl _)<|.inl rfl
  ·refine Eu<|r7 rfl<|Ew Z2<|Yeq rfl<|Ei rfl<|l3 (fun q31 => ?_)<|fun q31 => ?_
   ·refine Eu<|r6 rfl<|Ez Z3<|Em rfl<|Est rfl (N.call (pre := [_]) a7D rfl rfl rfl dc rfl<|fun w Lp hA => hA.ro hbs)<|fun k34 o34 => ?_
    obtain ⟨xs34, ⟨a34, m34, c34⟩⟩ := k34
    try dsimp only at o34
    try (conv => arg 4; dsimp only)
    try (conv => arg 5; dsimp only [ca, na])
    refine r8 m0 ?_
    rintro rfl l34
    refine Ei rfl<|En<|o6<|Et<|Eq_<|D.region (fun j => !(Nat.beq j 5)) mixed<|Dm 0 rfl<|Dm 1 rfl<|Dy 2 rfl (k7 (cs := [_, _]) ty_Query rfl (Has.pt<|mS<|mS m0) rfl)<|Dyp 3 rfl (G7 rfl)<|Dyp 4 rfl (G7 rfl)<|H4<|E7 5 rfl rfl kr (fun h => by cases h) (Ns [_, _] ty_Query rfl)<|fun _ _ => n9 kr<|Et<|E.ret<|y7<|y7<|w7<|s4<|y7<|s4<|s4<|s4<|s4<|a8c br rfl rfl rfl rfl (mS<|mS<|mS<|mS<|mS m0) ty_Query rfl (xs34, ms12, hq15, aq15, (_, _, _), (_, _, _), (_, _, _), (_, _, _)) (show (1 ≤ xs34.length ∧ xs34.length ≤ 4) ∧ (ms12.length ≤ 5 ∧ ∀ m ∈ ms12, m.2.1.length ≤ 4) ∧ dQ dT 3 3 hq15 aq15 from by exact ⟨o34, b4t o12, o15.up⟩) rfl (J := _) (.refl _)<|.inl rfl
   ·refine Eu<|r7 rfl<|v8<|o6<|Et<|Eq_<|D.region (fun j => !(Nat.beq j 5)) mixed<|Dm 0 rfl<|Dm 1 rfl<|Dy 2 rfl (k7 (cs := [_, _]) ty_Query rfl (Has.pt<|mS m0) rfl)<|Dyp 3 rfl (G7 rfl)<|Dyp 4 rfl (G7 rfl)<|w7<|E7 5 rfl rfl kr (fun h => by cases h) (Ns [_, _] ty_Query rfl)<|fun _ _ => n9 kr<|Et<|E.ret<|s4<|s4<|y7<|w7<|y7<|s4<|s4<|s4<|s4<|a8c br rfl rfl rfl rfl (mS<|mS<|mS<|mS<|mS m0) ty_Query rfl (xs9, ms12, hq15, aq15, (_, _, _), (_, _, _), (_, _, _), (_, _, _)) (show (1 ≤ xs9.length ∧ xs9.length ≤ 4) ∧ (ms12.length ≤ 5 ∧ ∀ m ∈ ms12, m.2.1.length ≤ 4) ∧ dQ dT 3 3 hq15 aq15 from by exact ⟨⟨by omega, by omega⟩, b4t o12, o15.up⟩) rfl (J := _) (.refl _)<|.inl rfl
end Go.Proofs.YthapcdhdfaibkaaGreatDoor
