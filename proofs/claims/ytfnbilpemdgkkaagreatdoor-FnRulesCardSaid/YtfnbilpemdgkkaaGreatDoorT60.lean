import Derived.Test.YtfnbilpemdgkkaaGreatDoorEh
import Derived.Test.YtfnbilpemdgkkaaGreatDoorT1
namespace Go.Proofs.YtfnbilpemdgkkaaGreatDoor
open Go.RowKit
set_option linter.all false
set_option maxHeartbeats 2000000
attribute [local irreducible] Nop Yd Yp Ent Has Tr FnP FnP2 Src J1 P8 U7 W9 E0
variable {i n i7 r6 : Int} {l n0 : List Int} {m_l c_l z8 x4 : Nat} {a_l x5 : Option Addr}
theorem a0y (hn : 0 ≤ i ∧ i ≤ 9) : Tr Tryz.prog 216 [.int .i64 i] (fun w L => True) [] (κ := Unit) (fun k => True) (fun k => y5 (n9 i)) (fun k => []) := by
 refine f8 Tryz.func216 rfl (n := 15) rfl (by decide +kernel) bl (fr := [(0, .int .i64 i)]) rfl fun w L hR => (Ew Z1 (Ei rfl (Eu (Eq_ (Ew Z2 (Em rfl (Ey rfl ((Y.lss rfl rfl).yd) (j8 (fun q4 => ?_) (fun q4 => ?_)))))))))
 ·refine Eu (l3 rfl (Ew Z5 (Em rfl (Em rfl (Ey rfl ((Y.add rfl rfl om om).yd) (Ey rfl ((b4V b1d rfl rfl rfl om (by show _ ≤ ((36 : Nat) : Int); omega)).yd) (Ei rfl ?_)))))))
  exact Eu (E.ret (j0 (Fg rfl rfl () (by rw [show (n9 i) = ((List.drop i.toNat ([48, 49, 50, 51, 52, 53, 54, 55, 56, 57, 97, 98, 99, 100, 101, 102, 103, 104, 105, 106, 107, 108, 109, 110, 111, 112, 113, 114, 115, 116, 117, 118, 119, 120, 121, 122] : List UInt8)).take ((i + 1).toNat - i.toNat)) from (by exact (a9f hn).symm)]; try rfl) rfl)))
 ·exact absurd q4 om
theorem V9 {base : Int} (hn : 0 ≤ i ∧ i ≤ 9) (hb : base = 10) : Tr Tryz.prog 202 [.int .i64 i, .int .i64 base] (fun w L => True) [] (κ := Unit) (fun k => True) (fun k => y5 (n9 i)) (fun k => []) := by
 refine f8 Tryz.func202 rfl (n := 54) rfl (by decide +kernel) bl (fr := [(0, .int .i64 i), (1, .int .i64 base)]) rfl fun w L hR => (Ew Z1 (Ei rfl (Eu (Eq_ (Ew Z2 (Em rfl (Ey rfl ((Y.eql rfl rfl).yd) (j8 (fun q11 => ?_) (fun q11 => ?_)))))))))
 ·refine Eu (l3 rfl (Eq_ (Ew Z6 (Em rfl (Ey rfl ((Y.leq rfl rfl).yd) (j8 (fun q13 => ?_) (fun q13 => ?_)))))))
  ·refine Em rfl (Em rfl (Ey rfl ((Y.lss rfl rfl).yd) (j8 (fun q16 => ?_) (fun q16 => ?_))))
   ·refine Ey rfl ((o0 rfl rfl).yd) (Eu (l3 rfl (Ew Z3 (Em rfl (Est rfl (f5 (a0y fc) rfl rfl rfl dc tv) (fun _ _ => (Ei rfl ?_)))))))
    exact Eu (E.ret (j0 (j0 (Fg rfl rfl () rfl rfl))))
   ·exact absurd q16 om
  ·exact absurd hn.1 q13
 ·exact absurd hb q11
theorem a0S (hn : 0 ≤ i ∧ i ≤ 9) : Tr Tryz.prog 184 [.int .i64 i] (fun w L => True) [] (κ := Unit) (fun k => True) (fun k => y5 (n9 i)) (fun k => []) := by
 refine f8 Tryz.func184 rfl (n := 5) rfl (by decide +kernel) bl (fr := [(0, .int .i64 i)]) rfl fun w L hR => (Ew Z1 (Ei rfl (Ev Z3 (Em rfl (Est rfl (f5 (V9 fc fc) rfl rfl rfl dc tv) (fun _ _ => (Ei rfl ?_)))))))
 exact Eu (E.ret (Fg rfl rfl () rfl rfl))
theorem a4D (hn : 0 ≤ i ∧ i ≤ 9) : Tr Tryz.prog 153 [.int .i64 i] (fun w L => True) [] (κ := Unit) (fun k => True) (fun k => y5 (n9 i)) (fun k => []) := by
 refine f8 Tryz.func153 rfl (n := 5) rfl (by decide +kernel) bl (fr := [(0, .int .i64 i)]) rfl fun w L hR => (Ew Z1 (Ei rfl (Ev Z3 (Em rfl (Est rfl (f5 (a0S fc) rfl rfl rfl dc tv) (fun _ _ => (Ei rfl ?_)))))))
 exact Eu (E.ret (Fg rfl rfl () rfl rfl))
theorem R9 (hn : 0 ≤ n ∧ n ≤ 9) : Tr Tryz.prog 104 [.int .i64 n] (fun w L => True) [] (κ := Unit) (fun k => True) (fun k => y5 (n9 n)) (fun k => []) := by
 refine f8 Tryz.func104 rfl (n := 5) rfl (by decide +kernel) bl (fr := [(0, .int .i64 n)]) rfl fun w L hR => (Ew Z1 (Ei rfl (Ev Z3 (Em rfl (Est rfl (f5 (a4D fc) rfl rfl rfl dc tv) (fun _ _ => (Ei rfl ?_)))))))
 exact Eu (E.ret (Fg rfl rfl () rfl rfl))
theorem N5 : Tr Tryz.prog 113 [.int .i64 n] (fun w L => I64 n) [] (κ := Unit) (fun k => True) (fun k => y5 (n9 n)) (fun k => []) := by
 refine f8 Tryz.func113 rfl (n := 31) rfl (by decide +kernel) bl (fr := [(0, .int .i64 n)]) rfl fun w L hR => ?_
 have i6n := hR
 refine Ew Z1 (Ei rfl (Eu (Eq_ (Ew Z2 (Em rfl (Ey rfl ((Y.eql rfl rfl).yd) (j8 (fun q7 => ?_) (fun q7 => ?_))))))))
 ·refine Eu (l3 rfl (Ew Z1 (Ei rfl ?_)))
  exact Eu (E.ret (j0 (Fg rfl rfl () (by rw [show (n9 n) = ([48]) from (by rw [q7]; exact a8O)]; try rfl) rfl)))
 ·refine Eu (l4 rfl (d9 (Et (Ew Z1 (Ei rfl (Ev Z3 (Em rfl (Ey rfl ((Y.lss rfl rfl).yd) (Ei rfl (Eu (Eq_ (E.block (E.loop (κ := Nat) (fun g => g ≤ 20 ∧ True) (fun g => [(0, .int .i64 ((itN n g).1)), (3, y5 ((itN n g).2)), (4, .bool (decide (n < 0)))]) (fun g => []) (fun g => 20 - g) (0) ⟨Nat.zero_le _, by simp⟩ ⟨frI (by rfl), frS (by rfl), rfl, trivial⟩ (.refl _) (fun g pg => ?_))))))))))))))
  try dsimp only
  obtain ⟨pk, pa⟩ := pg
  have j6 := b2L (g := g) i6n
  have jl := a2R (n := n) (g := g)
  refine Eq_ (Ew Z2 (Em rfl (Ey rfl ((Y.neq rfl rfl).yd) (j8 (fun q11 => ?_) (fun q11 => ?_)))))
  ·refine Eu (l3 rfl (d9 (Et (E.block (Ew Z3 (Em rfl ?_))))))
   have j7 : -9 ≤ (itN n g).1.tmod 10 ∧ (itN n g).1.tmod 10 ≤ 9 := b1z
   refine Ey rfl ((Y.rem rfl rfl i6 dc).yd) (Ei rfl (Eu (Eq_ (Ew Z2 (Em rfl (Ey rfl ((Y.lss rfl rfl).yd) (j8 (fun q15 => ?_) (fun q15 => ?_))))))))
   ·refine Eu (l3 rfl (Ez Z3 (Em rfl (Ey rfl ((Y.neg rfl om).yd) (Ei rfl (Ev Z8 (Em rfl (Ey rfl ((Y.add rfl rfl om om).yd) (Ey rfl ((b0m a8o a2F rfl om).yd) (Est rfl (Nb [_] [_] us_U8s a2E rfl rfl) (fun b21 _ => (Ey rfl (b2h us_U8s a2F b1d rfl m0 om) (Em rfl (Ey rfl ((I7 rfl rfl (by first | omega | (simp only [List.length_append, List.length_cons, List.length_nil] at *; omega))).yd) (Ei rfl (Eu (Ez Z3 (Em rfl (Ey rfl ((Y.quo rfl rfl i6 dc).yd) (Ei rfl ?_))))))))))))))))))))
    have jg := a9w i6n q11
    refine En (o2 (Et (Ent.drop ?_)))
    exact u7 br (g + 1) ⟨frI (by first | exact X9 q11 | exact M9 q11 (.inl rfl) om | exact M9 q11 (.inr rfl) om), frS (by first | exact X9 q11 | exact M9 q11 (.inl rfl) om | exact M9 q11 (.inr rfl) om), rfl, trivial⟩ (.refl _) ⟨oz, (show True from by trivial)⟩ oz
   ·refine Eu (l4 rfl (d9 (Et (Ew Z8 (Em rfl (Ey rfl ((Y.add rfl rfl om om).yd) (Ey rfl ((b0m a8o a2F rfl om).yd) (Est rfl (Nb [_] [_] us_U8s a2E rfl rfl) (fun b21 _ => (Ey rfl (b2h us_U8s a2F b1d rfl m0 om) (Em rfl (Ey rfl ((I7 rfl rfl (by first | omega | (simp only [List.length_append, List.length_cons, List.length_nil] at *; omega))).yd) (Ei rfl (Eu (Ez Z3 (Em rfl (Ey rfl ((Y.quo rfl rfl i6 dc).yd) (Ei rfl ?_))))))))))))))))))
    have jg := a9w i6n q11
    refine En (o2 (Et (Ent.drop ?_)))
    exact u7 br (g + 1) ⟨frI (by first | exact X9 q11 | exact M9 q11 (.inl rfl) om | exact M9 q11 (.inr rfl) om), frS (by first | exact X9 q11 | exact M9 q11 (.inl rfl) om | exact M9 q11 (.inr rfl) om), rfl, trivial⟩ (.refl _) ⟨oz, (show True from by trivial)⟩ oz
  ·refine Eu (l4 rfl (E.exit (n8 (n8 (w7 (Et (Eq_ (Ew Z1 (Em rfl (j8 (fun q27 => ?_) (fun q27 => ?_)))))))))))
   ·refine Eu (l3 rfl (Ew Z3 (Em rfl (Ey rfl ((I7 rfl rfl (by first | omega | (simp only [List.length_append, List.length_cons, List.length_nil] at *; omega))).yd) (Ei rfl ?_)))))
    exact Eu (E.ret (j0 (Fg rfl rfl () (by rw [show (n9 n) = (([45]) ++ ((itN n g).2)) from (by rw [a4I pk om]; exact (X8 q7 q27).symm)]; try rfl) rfl)))
   ·refine Eu (l4 rfl (d9 (Et (Ew Z2 (Em rfl (Ei rfl ?_))))))
    exact Eu (E.ret (Fg rfl rfl () (by rw [show (n9 n) = ((itN n g).2) from (by rw [a4I pk om]; exact (Y1 q7 q27).symm)]; try rfl) rfl))
theorem a5S {by_ : List UInt8} (hz : l.length ≤ 1000000) (hb : by_.length ≤ 100) (hv : ∀ x ∈ l, 0 ≤ x ∧ x ≤ 9) : Tr Tryz.prog 61 [.slice a_l m_l c_l, y5 by_] (fun w L => Ro w L eIs [.slice a_l m_l c_l] l) [] (κ := Unit) (fun k => True) (fun k => y5 (Lib.join (l.map n9) by_)) (fun k => []) := by
 refine f8 Tryz.func61 rfl (n := 24) rfl (by decide +kernel) bl (fr := [(0, .slice a_l m_l c_l), (1, y5 by_)]) rfl fun w L hR => ?_
 have hl := hR
 obtain ⟨rfl, ll⟩ := hl.slen
 refine Ew Z1 (Ei rfl (Ev Z2 (Est rfl (Nb [] [] us_Ss ty_S rfl rfl) (fun b8 _ => (Ent.drop (Ei rfl (Eu (Eq_ (Ew Z3 (Em rfl (Ey rfl ((Y.len us_Is rfl).yd) (Em rfl (Eu (E.block (o1 (A := []) (Own.nil (E := Enc.str) (e := tS) (a := (some ⟨b8, 0, none⟩))) rfl (f9 (congrArg (ow eSs [_]) (show [] = (l.take 0).map n9 from by rfl)) (E.loop (κ := Nat × Option Addr × Nat × Nat) (fun g => g.1 ≤ l.length ∧ True) (fun g => [(1, y5 by_), (5, .slice g.2.1 g.2.2.1 g.2.2.2), (9, .slice a_l l.length c_l), (10, .int .i64 (↑l.length : Int)), (11, .int .i64 (↑g.1 : Int))]) (fun g => [ow eSs [.slice g.2.1 g.2.2.1 g.2.2.2] ((l.take g.1).map n9)]) (fun g => l.length - g.1) (0, (some ⟨b8, 0, none⟩), 0, 0) ⟨Nat.zero_le _, by simp⟩ ⟨rfl, rfl, rfl, rfl, rfl, trivial⟩ (.refl _) (fun g pg => ?_))))))))))))))))))
 obtain ⟨g, aA0_0, mA0_0, cA0_0⟩ := g
 try dsimp only at pg
 try dsimp only
 obtain ⟨pk, pa⟩ := pg
 have jt := List.length_take_le g l
 refine d8 m0 fun eaA0_0 laA0_0 => ?_
 subst eaA0_0
 refine Ew Z1 (Ey rfl ((Y.lss rfl rfl).yd) (j8 (fun q12 => ?_) (fun q12 => ?_)))
 ·obtain ⟨eb13, eo13, ea13, ei13, eh13⟩ := hl.elemI g om
  refine Eu (Eq_ (l3 rfl (d9 (Et (Eq_ (E.block (Ew Z3 (Ey rfl ((r8 us_Is f4 rfl ea13 rfl g rfl om).yd) (Ey rfl (f7 f4 rfl (eh13 _) rfl) (Ei rfl (Eu (Ez Z6 (Em rfl (Em rfl (Est rfl (f5 (R9 (hv _ (List.getElem_mem om))) rfl rfl rfl dc tv) (fun _ _ => (Est rfl (Nb [_] [_] us_Ss ty_S rfl rfl) (fun b18 _ => (d7 (Est rfl (N.push (E := Enc.str) (ex := n9 l[g]) us_Ss ty_S rfl rfl rfl Own.str rfl bn bn dc) (fun p19 _ => (Ei rfl (En (o2 (Et (Ez Z2 (Ey rfl ((Y.add rfl rfl om om).yd) (Em rfl (Eu (f9 (congrArg (ow eSs [_]) (show ((l.take g).map n9) ++ [n9 l[g]] = (l.take (g + 1)).map n9 from by rw [List.take_succ_eq_append_getElem (show g < l.length by omega), List.map_append]; rfl)) ?_))))))))))))))))))))))))))))))
  exact Ea (g + 1, p19.1, (((l.take g).map n9).length + 1), p19.2) ⟨oz, trivial⟩
 ·refine Eu (Eq_ (l4 rfl (E.exit (n8 (n8 (w7 (Et (Ew Z4 (Em rfl (Em rfl (Est rfl (f5 (b2K (by simp only [List.length_map, List.length_take]; omega) (Nat.le_trans (P7 (K := 21) (fun x => F0) (show (l.take g).length ≤ 1000000 by rw [List.length_take]; omega)) om)) rfl rfl rfl dc (fun w Lp hA => hA.ow m0)) (fun _ _ => (Ei rfl ?_)))))))))))))
  exact Eu (E.ret (Fg rfl rfl () (by rw [show (Lib.join (l.map n9) by_) = (Lib.join ((l.take g).map n9) by_) from (by rw [List.take_of_length_le om])]; try rfl) rfl))
theorem a5T (hz : l.length ≤ 1000000) : Tr Tryz.prog 63 [.slice a_l m_l c_l] (fun w L => Ro w L eIs [.slice a_l m_l c_l] l) [] (κ := Unit) (fun k => True) (fun k => y5 (Lib.join (l.map n9) [44])) (fun k => []) := by
 refine f8 Tryz.func63 rfl (n := 23) rfl (by decide +kernel) bl (fr := [(0, .slice a_l m_l c_l)]) rfl fun w L hR => ?_
 have hl := hR
 obtain ⟨rfl, ll⟩ := hl.slen
 refine Ew Z1 (Ei rfl (Ev Z1 (Ei rfl (Eu (Eq_ (Ew Z1 (Ei rfl (Eu (E.block (E.loop (κ := Nat) (fun g => g ≤ l.length ∧ True) (fun g => [(0, .slice a_l l.length c_l), (3, y5 (Lib.join ((l.take g).map n9) [44])), (4, .int .i64 (g : Int))]) (fun g => []) (fun g => l.length - g) (0) ⟨Nat.zero_le _, by simp⟩ ⟨rfl, frS (by simp [Lib.join_nil]), rfl, trivial⟩ (.refl _) (fun g pg => ?_)))))))))))
 try dsimp only
 obtain ⟨pk, pa⟩ := pg
 have jl := a5N (f := n9) (K := 21) (l := l) (g := g) (n := 1000000) (B := 22000000) (sep := [44]) (fun x => F0) hz dc
 refine Eq_ (Ew Z4 (Em rfl (Em rfl (Ey rfl ((Y.len us_Is rfl).yd) (Ey rfl ((Y.lss rfl rfl).yd) (j8 (fun q8 => ?_) (fun q8 => ?_)))))))
 ·refine Eu (l3 rfl (d9 (Et (Eq_ (E.block (Eq_ (Ew Z2 (Em rfl (Ey rfl ((Y.gtr rfl rfl).yd) (j8 (fun q12 => ?_) (fun q12 => ?_)))))))))))
  ·refine Eu (l3 rfl (Ez Z3 (Em rfl (Ey rfl ((I7 rfl rfl (by first | omega | (simp only [List.length_append, List.length_cons, List.length_nil] at *; omega))).yd) (Ei rfl (Eu (Ez Z8 (Em rfl (Em rfl (Em rfl ?_))))))))))
   obtain ⟨eb18, eo18, ea18, ei18, eh18⟩ := hl.elemI g om
   refine Ey rfl ((r8 us_Is f4 rfl ea18 rfl g rfl om).yd) (Ey rfl (f7 f4 rfl (eh18 _) rfl) (Est rfl (f5 N5 rfl rfl rfl dc (fun w Lp hA => ei18)) (fun _ _ => ?_)))
   have ji := F0 (n := l[g])
   refine Ey rfl ((I7 rfl rfl (by first | omega | (simp only [List.length_append, List.length_cons, List.length_nil] at *; omega))).yd) (Ei rfl (En (o2 (Et (Ez Z3 (Em rfl (Ey rfl ((Y.add rfl rfl om om).yd) (Ei rfl ?_))))))))
   exact Eu (u7 br (g + 1) ⟨rfl, frS (by first | exact a3K (f := n9) om om | exact a3V (f := n9) om om), rfl, trivial⟩ (.refl _) ⟨oz, trivial⟩ oz)
  ·refine Eu (l4 rfl (d9 (Et (Ez Z8 (Em rfl (Em rfl (Em rfl ?_)))))))
   obtain ⟨eb18, eo18, ea18, ei18, eh18⟩ := hl.elemI g om
   refine Ey rfl ((r8 us_Is f4 rfl ea18 rfl g rfl om).yd) (Ey rfl (f7 f4 rfl (eh18 _) rfl) (Est rfl (f5 N5 rfl rfl rfl dc (fun w Lp hA => ei18)) (fun _ _ => ?_)))
   have ji := F0 (n := l[g])
   refine Ey rfl ((I7 rfl rfl (by first | omega | (simp only [List.length_append, List.length_cons, List.length_nil] at *; omega))).yd) (Ei rfl (En (o2 (Et (Ez Z3 (Em rfl (Ey rfl ((Y.add rfl rfl om om).yd) (Ei rfl ?_))))))))
   exact Eu (u7 br (g + 1) ⟨rfl, frS (by first | exact a3K (f := n9) om om | exact a3V (f := n9) om om), rfl, trivial⟩ (.refl _) ⟨oz, trivial⟩ oz)
 ·refine Eu (l4 rfl (E.exit (n8 (n8 (w7 (Et (Ew Z2 (Em rfl (Ei rfl ?_)))))))))
  exact Eu (E.ret (Fg rfl rfl () (by rw [show (Lib.join (l.map n9) [44]) = (Lib.join ((l.take g).map n9) [44]) from (by rw [List.take_of_length_le om])]; try rfl) rfl))
theorem a2p {rel : Int} : Tr Tryz.prog 101 [.int .i64 rel] (fun w L => True) [] (κ := Unit) (fun k => True) (fun k => .bool (inR rel 0 2)) (fun k => []) := by
 refine f8 Tryz.func101 rfl (n := 5) rfl (by decide +kernel) bl (fr := [(0, .int .i64 rel)]) rfl fun w L hR => (Ew Z1 (Ei rfl (Ev Z3 (Em rfl (Est rfl (f5 G0 rfl rfl rfl dc tv) (fun _ _ => (Ei rfl ?_)))))))
 exact Eu (E.ret (Fg rfl rfl () rfl rfl))
theorem R1 : Tr Tryz.prog 46 [.agg #[.int .i64 i7, .int .i64 r6, .slice x5 z8 x4]] (fun w L => I64 i7 ∧ I64 r6 ∧ Ro w L eIs [.slice x5 z8 x4] n0) [] (κ := Unit) (fun k => True) (fun k => y5 (x6 (i7, r6, n0))) (fun k => []) := by
 refine f8 Tryz.func46 rfl (n := 40) rfl (by decide +kernel) bl (fr := [(0, .agg #[.int .i64 i7, .int .i64 r6, .slice x5 z8 x4])]) rfl fun w L hR => ?_
 obtain ⟨F4, L4, B6⟩ := hR
 obtain ⟨rfl, Y5⟩ := B6.slen
 refine Ew Z2 (Est rfl (N.box (cs := [_, _, _]) rfl dc rfl) (fun b1 _ => (Ei rfl (Eu (Eq_ (Ew Z23 (Ey rfl ((g9 fo_Rule_0 f4 dc rfl).yd) (Ey rfl (f7 f4 rfl (Hz m0 0 rfl) rfl) (Est rfl (f5 a2p rfl rfl rfl dc tv) (fun _ _ => (r5 (fun q5 => ?_) (fun q5 => ?_))))))))))))
 ·refine Ey rfl ((Y.not (b := true) rfl).yd) (Em rfl (Ey rfl ((g9 fo_Rule_1 f4 dc rfl).yd) (Ey rfl (f7 f4 rfl (Hz m0 1 rfl) rfl) (Est rfl (f5 a2p rfl rfl rfl dc tv) (fun _ _ => (r5 (fun q10 => ?_) (fun q10 => ?_)))))))
  ·refine Ey rfl ((Y.not (b := true) rfl).yd) (Ey rfl ((o6 rfl rfl).yd) (Em rfl (Ey rfl ((g9 fo_Rule_2 ty_Is dc rfl).yd) (Ey rfl (f7 ty_Is rfl (Hz m0 2 rfl) rfl) (Ey rfl ((Y.len us_Is rfl).yd) (Est rfl (f5 G0 rfl rfl rfl dc tv) (fun _ _ => (r5 (fun q17 => ?_) (fun q17 => ?_)))))))))
   ·refine Ey rfl ((Y.not (b := true) rfl).yd) (Ey rfl ((o6 rfl rfl).yd) (Em rfl (Ey rfl ((g9 fo_Rule_2 ty_Is dc rfl).yd) (Ey rfl (f7 ty_Is rfl (Hz m0 2 rfl) rfl) (Est rfl (f5 V5 rfl rfl rfl dc (fun w Lp hA => ⟨hA.ro B6, (by first | assumption | omega), (by first | assumption | omega)⟩)) (fun _ _ => (r5 (fun q23 => ?_) (fun q23 => ?_))))))))
    ·have j1 := F0 (n := i7)
     have j2 := F0 (n := r6)
     have j3 := P7 (f := n9) (K := 21) (l := n0) (n := 3) (sep := [44]) (fun x => F0) (by simp only [inR, decide_eq_true_eq] at q17; omega)
     have jF : 0 ≤ i7 ∧ i7 ≤ 9 := by simp only [inR, decide_eq_true_eq] at q5; omega
     have jT : 0 ≤ r6 ∧ r6 ≤ 9 := by simp only [inR, decide_eq_true_eq] at q10; omega
     have jM := a5m q23
     refine Ey rfl ((Y.not (b := true) rfl).yd) (Ey rfl ((o6 rfl rfl).yd) (Eu (l4 rfl (d9 (Et (Eq_ (D.region (fun j => true) mixed (Dyp 0 rfl (g9 fo_Rule_0 f4 dc rfl) (Dy 1 rfl (f7 f4 rfl (Hz m0 0 rfl) rfl) (Dyp 5 rfl (g9 fo_Rule_1 f4 dc rfl) (Dy 6 rfl (f7 f4 rfl (Hz m0 1 rfl) rfl) (Dyp 10 rfl (g9 fo_Rule_2 ty_Is dc rfl) (Dy 11 rfl (f7 ty_Is rfl (Hz m0 2 rfl) rfl) (w3 2 rfl rfl kr (fun _ => rfl) (f5 (R9 jF) rfl rfl rfl dc tv) (fun _ _ => (Dyp 3 rfl (I7 rfl rfl (by first | omega | (simp only [List.length_append, List.length_cons, List.length_nil] at *; omega))) (Dyp 4 rfl (I7 rfl rfl (by first | omega | (simp only [List.length_append, List.length_cons, List.length_nil] at *; omega))) (w3 7 rfl rfl kr (fun _ => rfl) (f5 (R9 jT) rfl rfl rfl dc tv) (fun _ _ => (Dyp 8 rfl (I7 rfl rfl (by first | omega | (simp only [List.length_append, List.length_cons, List.length_nil] at *; omega))) (Dyp 9 rfl (I7 rfl rfl (by first | omega | (simp only [List.length_append, List.length_cons, List.length_nil] at *; omega))) (w3 12 rfl rfl kr (fun _ => rfl) (f5 (a5S (by simp only [inR, decide_eq_true_eq] at q17; omega) dc jM) rfl rfl rfl dc (fun w Lp hA => hA.ro B6)) (fun _ _ => ?_)))))))))))))))))))))))
     refine Dyp 13 rfl (I7 rfl rfl (by first | omega | (simp only [List.length_append, List.length_cons, List.length_nil] at *; omega))) (Dyp 14 rfl (F1 rfl) ?_)
     exact o3 kr (Et (E.ret (Fg rfl rfl () (by rw [show (x6 (i7, r6, n0)) = (((((([114]) ++ (n9 i7)) ++ ([32, 103, 105, 118, 101, 115, 32, 114])) ++ (n9 r6)) ++ ([32])) ++ (Lib.join (n0.map n9) ([44]))) from (by rw [x6, q5, q10, q17, q23]; rfl)]; try rfl) rfl)))
    ·refine Ey rfl ((Y.not (b := false) rfl).yd) (Ey rfl ((o6 rfl rfl).yd) (Eu (l3 rfl (Ew Z1 (Ei rfl ?_)))))
     exact Eu (E.ret (j0 (Fg rfl rfl () (by rw [show (x6 (i7, r6, n0)) = ([]) from (by rw [x6, q5, q10, q17, q23]; rfl)]; try rfl) rfl)))
   ·refine Ey rfl ((Y.not (b := false) rfl).yd) (Ey rfl ((o6 rfl rfl).yd) (Em rfl (Es rfl (Es rfl (Es rfl (Es rfl (Ey rfl ((o0 rfl rfl).yd) (Eu (l3 rfl (Ew Z1 (Ei rfl ?_)))))))))))
    exact Eu (E.ret (j0 (Fg rfl rfl () (by rw [show (x6 (i7, r6, n0)) = ([]) from (by rw [x6, q5, q10, q17]; rfl)]; try rfl) rfl)))
  ·refine Ey rfl ((Y.not (b := false) rfl).yd) (Ey rfl ((o6 rfl rfl).yd) (Em rfl (Es rfl (Es rfl (Es rfl (Es rfl (Es rfl (Ey rfl ((o0 rfl rfl).yd) (Em rfl (Es rfl (Es rfl (Es rfl (Es rfl (Ey rfl ((o0 rfl rfl).yd) ?_))))))))))))))
   refine Eu (l3 rfl (Ew Z1 (Ei rfl ?_)))
   exact Eu (E.ret (j0 (Fg rfl rfl () (by rw [show (x6 (i7, r6, n0)) = ([]) from (by rw [x6, q5, q10]; rfl)]; try rfl) rfl)))
 ·refine Ey rfl ((Y.not (b := false) rfl).yd) (Em rfl (Es rfl (Es rfl (Es rfl (Es rfl (Ey rfl ((o0 rfl rfl).yd) (Em rfl (Es rfl (Es rfl (Es rfl (Es rfl (Es rfl (Ey rfl ((o0 rfl rfl).yd) (Em rfl ?_))))))))))))))
  refine Es rfl (Es rfl (Es rfl (Es rfl (Ey rfl ((o0 rfl rfl).yd) (Eu (l3 rfl (Ew Z1 (Ei rfl ?_))))))))
  exact Eu (E.ret (j0 (Fg rfl rfl () (by rw [show (x6 (i7, r6, n0)) = ([]) from (by rw [x6, q5]; rfl)]; try rfl) rfl)))
theorem a2V : Tr Tryz.prog 50 [.agg #[.int .i64 i7, .int .i64 r6, .slice x5 z8 x4]] (fun w L => I64 i7 ∧ I64 r6 ∧ Ro w L eIs [.slice x5 z8 x4] n0) [] (κ := Unit) (fun k => True) (fun k => y5 (x6 (i7, r6, n0))) (fun k => []) := by
 refine f8 Tryz.func50 rfl (n := 49) rfl (by decide +kernel) bl (fr := [(0, .agg #[.int .i64 i7, .int .i64 r6, .slice x5 z8 x4])]) rfl fun w L hR => ?_
 obtain ⟨F4, L4, B6⟩ := hR
 obtain ⟨rfl, Y5⟩ := B6.slen
 refine Ew Z2 (Est rfl (N.box (cs := [_, _, _]) rfl dc rfl) (fun b1 _ => (Ei rfl (Eu (Eq_ (Ew Z17 (Ey rfl ((g9 fo_Rule_0 f4 dc rfl).yd) (Ey rfl (f7 f4 rfl (Hz m0 0 rfl) rfl) (Est rfl (f5 E5 rfl rfl rfl dc tv) (fun _ _ => (r5 (fun q6 => ?_) (fun q6 => ?_))))))))))))
 ·refine Ey rfl ((Y.not (b := true) rfl).yd) (Em rfl (Ey rfl ((g9 fo_Rule_1 f4 dc rfl).yd) (Ey rfl (f7 f4 rfl (Hz m0 1 rfl) rfl) (Est rfl (f5 E5 rfl rfl rfl dc tv) (fun _ _ => (r5 (fun q11 => ?_) (fun q11 => ?_)))))))
  ·refine Ey rfl ((Y.not (b := true) rfl).yd) (Ey rfl ((o6 rfl rfl).yd) (Em rfl (Ey rfl ((g9 fo_Rule_2 ty_Is dc rfl).yd) (Ey rfl (f7 ty_Is rfl (Hz m0 2 rfl) rfl) (Ey rfl ((Y.len us_Is rfl).yd) (Est rfl (f5 E5 rfl rfl rfl dc tv) (fun _ _ => (r5 (fun q18 => ?_) (fun q18 => ?_)))))))))
   ·have j1 := F0 (n := i7)
    have j2 := F0 (n := r6)
    have j3 := P7 (f := n9) (K := 21) (l := n0) (n := 3) (sep := [44]) (fun x => F0) (by simp only [inR, decide_eq_true_eq] at q18; omega)
    refine Ey rfl ((Y.not (b := true) rfl).yd) (Ey rfl ((o6 rfl rfl).yd) (Eu (l4 rfl (d9 (Et (Eq_ (Ew Z1 (Ei rfl (Eu (E.block (E.loop (κ := Nat) (fun g => g ≤ n0.length ∧ E4 n0 3 = E4 (n0.drop g) 3) (fun g => [(1, .pointer (some ⟨b1, 0, none⟩)), (3, .int .i64 (g : Int))]) (fun g => [pt b1 73 [.int .i64 i7, .int .i64 r6, .slice x5 n0.length x4]]) (fun g => n0.length - g) 0 ⟨Nat.zero_le _, by rfl⟩ ⟨rfl, rfl, trivial⟩ (.refl _) (fun g pg => ?_))))))))))))
    obtain ⟨pk, pa⟩ := pg
    refine Eq_ (Ew Z5 (Em rfl (Ey rfl ((g9 fo_Rule_2 ty_Is dc rfl).yd) (Ey rfl (f7 ty_Is rfl (Hz m0 2 rfl) rfl) (Ey rfl ((Y.len us_Is rfl).yd) (Ey rfl ((Y.lss rfl rfl).yd) (j8 (fun q25 => ?_) (fun q25 => ?_))))))))
    ·refine Eu (l3 rfl (d9 (Et (Eq_ (E.block (Ew Z7 (Ey rfl ((g9 fo_Rule_2 ty_Is dc rfl).yd) (Ey rfl (f7 ty_Is rfl (Hz m0 2 rfl) rfl) (Em rfl ?_)))))))))
     obtain ⟨eb31, eo31, ea31, ei31, eh31⟩ := B6.elemI g om
     refine Ey rfl ((r8 us_Is f4 rfl ea31 rfl g rfl om).yd) (Ey rfl (f7 f4 rfl (eh31 _) rfl) (Est rfl (f5 E5 rfl rfl rfl dc tv) (fun _ _ => (r5 (fun q33 => ?_) (fun q33 => ?_)))))
     ·refine Ey rfl ((Y.not (b := true) rfl).yd) (Eu (l4 rfl (d9 (o2 (Et (Ez Z3 (Em rfl (Ey rfl ((Y.add rfl rfl om om).yd) (Ei rfl ?_)))))))))
      exact Eu (u7 br (g + 1) ⟨rfl, rfl, trivial⟩ (.refl _) ⟨by omega, by rw [pa]; exact a8z om q33⟩ om)
     ·refine Ey rfl ((Y.not (b := false) rfl).yd) (Eu (l3 rfl (Ew Z1 (Ei rfl ?_))))
      exact Eu (E.ret (w8 (j0 (j0 (w8 (j0 (Fg rfl rfl () (by rw [show (x6 (i7, r6, n0)) = ([]) from (by rw [x6, q6, q11, q18, pa, b1m om q33]; rfl)]; try rfl) rfl)))))))
    ·refine Eu (l4 rfl (E.exit (n8 (n8 (w7 (Et (Eq_ (D.region (fun j => true) mixed (Dyp 0 rfl (g9 fo_Rule_0 f4 dc rfl) (Dy 1 rfl (f7 f4 rfl (Hz m0 0 rfl) rfl) (Dyp 5 rfl (g9 fo_Rule_1 f4 dc rfl) (Dy 6 rfl (f7 f4 rfl (Hz m0 1 rfl) rfl) (Dyp 10 rfl (g9 fo_Rule_2 ty_Is dc rfl) (Dy 11 rfl (f7 ty_Is rfl (Hz m0 2 rfl) rfl) (w3 2 rfl rfl kr (fun _ => rfl) (f5 N5 rfl rfl rfl dc (fun w Lp hA => F4)) (fun _ _ => (Dyp 3 rfl (I7 rfl rfl (by first | omega | (simp only [List.length_append, List.length_cons, List.length_nil] at *; omega))) (Dyp 4 rfl (I7 rfl rfl (by first | omega | (simp only [List.length_append, List.length_cons, List.length_nil] at *; omega))) (w3 7 rfl rfl kr (fun _ => rfl) (f5 N5 rfl rfl rfl dc (fun w Lp hA => L4)) (fun _ _ => (Dyp 8 rfl (I7 rfl rfl (by first | omega | (simp only [List.length_append, List.length_cons, List.length_nil] at *; omega))) (Dyp 9 rfl (I7 rfl rfl (by first | omega | (simp only [List.length_append, List.length_cons, List.length_nil] at *; omega))) (w3 12 rfl rfl kr (fun _ => rfl) (f5 (a5T (by simp only [inR, decide_eq_true_eq] at q18; omega)) rfl rfl rfl dc (fun w Lp hA => hA.ro B6)) (fun _ _ => (Dyp 13 rfl (I7 rfl rfl (by first | omega | (simp only [List.length_append, List.length_cons, List.length_nil] at *; omega))) (Dyp 14 rfl (F1 rfl) ?_))))))))))))))))))))))))))
     exact o3 kr (Et (E.ret (Fg rfl rfl () (by rw [show (x6 (i7, r6, n0)) = (((((([114]) ++ (n9 i7)) ++ ([32, 103, 105, 118, 101, 115, 32, 114])) ++ (n9 r6)) ++ ([32])) ++ (Lib.join (n0.map n9) [44])) from (by rw [x6, q6, q11, q18, pa, a9X om]; rfl)]; try rfl) rfl)))
   ·refine Ey rfl ((Y.not (b := false) rfl).yd) (Ey rfl ((o6 rfl rfl).yd) (Eu (l3 rfl (Ew Z1 (Ei rfl ?_)))))
    exact Eu (E.ret (j0 (Fg rfl rfl () (by rw [show (x6 (i7, r6, n0)) = ([]) from (by rw [x6, q6, q11, q18]; rfl)]; try rfl) rfl)))
  ·refine Ey rfl ((Y.not (b := false) rfl).yd) (Ey rfl ((o6 rfl rfl).yd) (Em rfl (Es rfl (Es rfl (Es rfl (Es rfl (Es rfl (Ey rfl ((o0 rfl rfl).yd) (Eu (l3 rfl (Ew Z1 (Ei rfl ?_))))))))))))
   exact Eu (E.ret (j0 (Fg rfl rfl () (by rw [show (x6 (i7, r6, n0)) = ([]) from (by rw [x6, q6, q11]; rfl)]; try rfl) rfl)))
 ·refine Ey rfl ((Y.not (b := false) rfl).yd) (Em rfl (Es rfl (Es rfl (Es rfl (Es rfl (Ey rfl ((o0 rfl rfl).yd) (Em rfl (Es rfl (Es rfl (Es rfl (Es rfl (Es rfl (Ey rfl ((o0 rfl rfl).yd) (Eu (l3 rfl (Ew Z1 (Ei rfl ?_)))))))))))))))))
  exact Eu (E.ret (j0 (Fg rfl rfl () (by rw [show (x6 (i7, r6, n0)) = ([]) from (by rw [x6, q6]; rfl)]; try rfl) rfl)))
end Go.Proofs.YtfnbilpemdgkkaaGreatDoor
