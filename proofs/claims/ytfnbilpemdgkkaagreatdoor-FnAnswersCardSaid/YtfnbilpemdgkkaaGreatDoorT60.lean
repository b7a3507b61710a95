import Derived.Test.YtfnbilpemdgkkaaGreatDoorEh
import Derived.Test.YtfnbilpemdgkkaaGreatDoorT1
namespace Go.Proofs.YtfnbilpemdgkkaaGreatDoor
open Go.RowKit
set_option linter.all false
set_option maxHeartbeats 2000000
attribute [local irreducible] Nop Yd Yp Ent Has Tr FnP FnP2 Src J8 P6 S7 U6 E7
variable {i n : Int} {l : List Int} {m_l c_l : Nat} {a_l : Option Addr}
theorem Y8 (hn : 0 ≤ i ∧ i ≤ 9) : Tr Tryz.prog 216 [.int .i64 i] (fun w L => True) [] (κ := Unit) (fun k => True) (fun k => E4 (z7 i)) (fun k => []) := by
 refine Tr.intro Tryz.func216 rfl (n := 15) rfl (by decide +kernel) bl (fr := [(0, .int .i64 i)]) rfl fun w L hR => (Ew Z1 (Ei rfl (Eu (Eq_ (Ew Z2 (Em rfl (Ey rfl ((Y.lss rfl rfl).yd) (j4 (fun q4 => ?_) (fun q4 => ?_)))))))))
 ·refine Eu (j9 rfl (Ew Z5 (Em rfl (Em rfl (Ey rfl ((Y.add rfl rfl om om).yd) (Ey rfl ((b0Y a7F rfl rfl rfl om (by show _ ≤ ((36 : Nat) : Int); omega)).yd) (Ei rfl ?_)))))))
  exact Eu (E.ret (j5 (Fg rfl rfl () (by rw [show (z7 i) = ((List.drop i.toNat ([48, 49, 50, 51, 52, 53, 54, 55, 56, 57, 97, 98, 99, 100, 101, 102, 103, 104, 105, 106, 107, 108, 109, 110, 111, 112, 113, 114, 115, 116, 117, 118, 119, 120, 121, 122] : List UInt8)).take ((i + 1).toNat - i.toNat)) from (by exact (a7d hn).symm)]; try rfl) rfl)))
 ·exact absurd q4 om
theorem V5 {base : Int} (hn : 0 ≤ i ∧ i ≤ 9) (hb : base = 10) : Tr Tryz.prog 202 [.int .i64 i, .int .i64 base] (fun w L => True) [] (κ := Unit) (fun k => True) (fun k => E4 (z7 i)) (fun k => []) := by
 refine Tr.intro Tryz.func202 rfl (n := 54) rfl (by decide +kernel) bl (fr := [(0, .int .i64 i), (1, .int .i64 base)]) rfl fun w L hR => (Ew Z1 (Ei rfl (Eu (Eq_ (Ew Z2 (Em rfl (Ey rfl ((Y.eql rfl rfl).yd) (j4 (fun q11 => ?_) (fun q11 => ?_)))))))))
 ·refine Eu (j9 rfl (Eq_ (Ew Z6 (Em rfl (Ey rfl ((Y.leq rfl rfl).yd) (j4 (fun q13 => ?_) (fun q13 => ?_)))))))
  ·refine Em rfl (Em rfl (Ey rfl ((Y.lss rfl rfl).yd) (j4 (fun q16 => ?_) (fun q16 => ?_))))
   ·refine Ey rfl ((v6 rfl rfl).yd) (Eu (j9 rfl (Ew Z3 (Em rfl (Est rfl (i8 (Y8 fc) rfl rfl rfl dc tv) (fun _ _ => (Ei rfl ?_)))))))
    exact Eu (E.ret (j5 (j5 (Fg rfl rfl () rfl rfl))))
   ·exact absurd q16 om
  ·exact absurd hn.1 q13
 ·exact absurd hb q11
theorem a0e (hn : 0 ≤ i ∧ i ≤ 9) : Tr Tryz.prog 184 [.int .i64 i] (fun w L => True) [] (κ := Unit) (fun k => True) (fun k => E4 (z7 i)) (fun k => []) := by
 refine Tr.intro Tryz.func184 rfl (n := 5) rfl (by decide +kernel) bl (fr := [(0, .int .i64 i)]) rfl fun w L hR => (Ew Z1 (Ei rfl (Ev Z3 (Em rfl (Est rfl (i8 (V5 fc fc) rfl rfl rfl dc tv) (fun _ _ => (Ei rfl ?_)))))))
 exact Eu (E.ret (Fg rfl rfl () rfl rfl))
theorem a3m (hn : 0 ≤ i ∧ i ≤ 9) : Tr Tryz.prog 153 [.int .i64 i] (fun w L => True) [] (κ := Unit) (fun k => True) (fun k => E4 (z7 i)) (fun k => []) := by
 refine Tr.intro Tryz.func153 rfl (n := 5) rfl (by decide +kernel) bl (fr := [(0, .int .i64 i)]) rfl fun w L hR => (Ew Z1 (Ei rfl (Ev Z3 (Em rfl (Est rfl (i8 (a0e fc) rfl rfl rfl dc tv) (fun _ _ => (Ei rfl ?_)))))))
 exact Eu (E.ret (Fg rfl rfl () rfl rfl))
theorem a1Z (hn : 0 ≤ n ∧ n ≤ 9) : Tr Tryz.prog 104 [.int .i64 n] (fun w L => True) [] (κ := Unit) (fun k => True) (fun k => E4 (z7 n)) (fun k => []) := by
 refine Tr.intro Tryz.func104 rfl (n := 5) rfl (by decide +kernel) bl (fr := [(0, .int .i64 n)]) rfl fun w L hR => (Ew Z1 (Ei rfl (Ev Z3 (Em rfl (Est rfl (i8 (a3m fc) rfl rfl rfl dc tv) (fun _ _ => (Ei rfl ?_)))))))
 exact Eu (E.ret (Fg rfl rfl () rfl rfl))
theorem Y1 : Tr Tryz.prog 113 [.int .i64 n] (fun w L => I64 n) [] (κ := Unit) (fun k => True) (fun k => E4 (z7 n)) (fun k => []) := by
 refine Tr.intro Tryz.func113 rfl (n := 31) rfl (by decide +kernel) bl (fr := [(0, .int .i64 n)]) rfl fun w L hR => ?_
 have i6n := hR
 refine Ew Z1 (Ei rfl (Eu (Eq_ (Ew Z2 (Em rfl (Ey rfl ((Y.eql rfl rfl).yd) (j4 (fun q7 => ?_) (fun q7 => ?_))))))))
 ·refine Eu (j9 rfl (Ew Z1 (Ei rfl ?_)))
  exact Eu (E.ret (j5 (Fg rfl rfl () (by rw [show (z7 n) = ([48]) from (by rw [q7]; exact a6p)]; try rfl) rfl)))
 ·refine Eu (j8 rfl (f5 (Et (Ew Z1 (Ei rfl (Ev Z3 (Em rfl (Ey rfl ((Y.lss rfl rfl).yd) (Ei rfl (Eu (Eq_ (E.block (E.loop (κ := Nat) (fun g => g ≤ 20 ∧ True) (fun g => [(0, .int .i64 ((itN n g).1)), (3, E4 ((itN n g).2)), (4, .bool (decide (n < 0)))]) (fun g => []) (fun g => 20 - g) (0) ⟨Nat.zero_le _, by simp⟩ ⟨frI (by rfl), frS (by rfl), rfl, trivial⟩ (.refl _) (fun g pg => ?_))))))))))))))
  try dsimp only
  obtain ⟨pk, pa⟩ := pg
  have j6 := a9h (g := g) i6n
  have jl := a3l (n := n) (g := g)
  refine Eq_ (Ew Z2 (Em rfl (Ey rfl ((Y.neq rfl rfl).yd) (j4 (fun q11 => ?_) (fun q11 => ?_)))))
  ·refine Eu (j9 rfl (f5 (Et (E.block (Ew Z3 (Em rfl ?_))))))
   have j7 : -9 ≤ (itN n g).1.tmod 10 ∧ (itN n g).1.tmod 10 ≤ 9 := a8e
   refine Ey rfl ((Y.rem rfl rfl i6 dc).yd) (Ei rfl (Eu (Eq_ (Ew Z2 (Em rfl (Ey rfl ((Y.lss rfl rfl).yd) (j4 (fun q15 => ?_) (fun q15 => ?_))))))))
   ·refine Eu (j9 rfl (Ez Z3 (Em rfl (Ey rfl ((Y.neg rfl om).yd) (Ei rfl (Ev Z8 (Em rfl (Ey rfl ((Y.add rfl rfl om om).yd) (Ey rfl ((a7A a6w a1B rfl om).yd) (Est rfl (Nb [_] [_] us_U8s a1E rfl rfl) (fun b21 _ => (Ey rfl (a8K us_U8s a1B a7F rfl m0 om) (Em rfl (Ey rfl ((K9 rfl rfl (by first | omega | (simp only [List.length_append, List.length_cons, List.length_nil] at *; omega))).yd) (Ei rfl (Eu (Ez Z3 (Em rfl (Ey rfl ((Y.quo rfl rfl i6 dc).yd) (Ei rfl ?_))))))))))))))))))))
    have jg := a7k i6n q11
    refine En (n9 (Et (Ent.drop ?_)))
    exact t8 br (g + 1) ⟨frI (by first | exact a0h q11 | exact O2 q11 (.inl rfl) om | exact O2 q11 (.inr rfl) om), frS (by first | exact a0h q11 | exact O2 q11 (.inl rfl) om | exact O2 q11 (.inr rfl) om), rfl, trivial⟩ (.refl _) ⟨oz, (show True from by trivial)⟩ oz
   ·refine Eu (j8 rfl (f5 (Et (Ew Z8 (Em rfl (Ey rfl ((Y.add rfl rfl om om).yd) (Ey rfl ((a7A a6w a1B rfl om).yd) (Est rfl (Nb [_] [_] us_U8s a1E rfl rfl) (fun b21 _ => (Ey rfl (a8K us_U8s a1B a7F rfl m0 om) (Em rfl (Ey rfl ((K9 rfl rfl (by first | omega | (simp only [List.length_append, List.length_cons, List.length_nil] at *; omega))).yd) (Ei rfl (Eu (Ez Z3 (Em rfl (Ey rfl ((Y.quo rfl rfl i6 dc).yd) (Ei rfl ?_))))))))))))))))))
    have jg := a7k i6n q11
    refine En (n9 (Et (Ent.drop ?_)))
    exact t8 br (g + 1) ⟨frI (by first | exact a0h q11 | exact O2 q11 (.inl rfl) om | exact O2 q11 (.inr rfl) om), frS (by first | exact a0h q11 | exact O2 q11 (.inl rfl) om | exact O2 q11 (.inr rfl) om), rfl, trivial⟩ (.refl _) ⟨oz, (show True from by trivial)⟩ oz
  ·refine Eu (j8 rfl (E.exit (l2 (l2 (w8 (Et (Eq_ (Ew Z1 (Em rfl (j4 (fun q27 => ?_) (fun q27 => ?_)))))))))))
   ·refine Eu (j9 rfl (Ew Z3 (Em rfl (Ey rfl ((K9 rfl rfl (by first | omega | (simp only [List.length_append, List.length_cons, List.length_nil] at *; omega))).yd) (Ei rfl ?_)))))
    exact Eu (E.ret (j5 (Fg rfl rfl () (by rw [show (z7 n) = (([45]) ++ ((itN n g).2)) from (by rw [a5J pk om]; exact (a6T q7 q27).symm)]; try rfl) rfl)))
   ·refine Eu (j8 rfl (f5 (Et (Ew Z2 (Em rfl (Ei rfl ?_))))))
    exact Eu (E.ret (Fg rfl rfl () (by rw [show (z7 n) = ((itN n g).2) from (by rw [a5J pk om]; exact (a6P q7 q27).symm)]; try rfl) rfl))
theorem a4g {by_ : List UInt8} (hz : l.length ≤ 1000000) (hb : by_.length ≤ 100) (hv : ∀ x ∈ l, 0 ≤ x ∧ x ≤ 9) : Tr Tryz.prog 61 [.slice a_l m_l c_l, E4 by_] (fun w L => Ro w L eIs [.slice a_l m_l c_l] l) [] (κ := Unit) (fun k => True) (fun k => E4 (Lib.join (l.map z7) by_)) (fun k => []) := by
 refine Tr.intro Tryz.func61 rfl (n := 24) rfl (by decide +kernel) bl (fr := [(0, .slice a_l m_l c_l), (1, E4 by_)]) rfl fun w L hR => ?_
 have hl := hR
 obtain ⟨rfl, ll⟩ := hl.slen
 refine Ew Z1 (Ei rfl (Ev Z2 (Est rfl (Nb [] [] us_Ss ty_S rfl rfl) (fun b8 _ => (Ent.drop (Ei rfl (Eu (Eq_ (Ew Z3 (Em rfl (Ey rfl ((Y.len us_Is rfl).yd) (Em rfl (Eu (E.block (l3 (A := []) (Own.nil (E := Enc.str) (e := tS) (a := (some ⟨b8, 0, none⟩))) rfl (i9 (congrArg (ow eSs [_]) (show [] = (l.take 0).map z7 from by rfl)) (E.loop (κ := Nat × Option Addr × Nat × Nat) (fun g => g.1 ≤ l.length ∧ True) (fun g => [(1, E4 by_), (5, .slice g.2.1 g.2.2.1 g.2.2.2), (9, .slice a_l l.length c_l), (10, .int .i64 (↑l.length : Int)), (11, .int .i64 (↑g.1 : Int))]) (fun g => [ow eSs [.slice g.2.1 g.2.2.1 g.2.2.2] ((l.take g.1).map z7)]) (fun g => l.length - g.1) (0, (some ⟨b8, 0, none⟩), 0, 0) ⟨Nat.zero_le _, by simp⟩ ⟨rfl, rfl, rfl, rfl, rfl, trivial⟩ (.refl _) (fun g pg => ?_))))))))))))))))))
 obtain ⟨g, aA0_0, mA0_0, cA0_0⟩ := g
 try dsimp only at pg
 try dsimp only
 obtain ⟨pk, pa⟩ := pg
 have jt := List.length_take_le g l
 refine f0 m0 fun eaA0_0 laA0_0 => ?_
 subst eaA0_0
 refine Ew Z1 (Ey rfl ((Y.lss rfl rfl).yd) (j4 (fun q12 => ?_) (fun q12 => ?_)))
 ·obtain ⟨eb13, eo13, ea13, ei13, eh13⟩ := hl.elemI g om
  refine Eu (Eq_ (j9 rfl (f5 (Et (Eq_ (E.block (Ew Z3 (Ey rfl ((o6 us_Is d9 rfl ea13 rfl g rfl om).yd) (Ey rfl (f6 d9 rfl (eh13 _) rfl) (Ei rfl (Eu (Ez Z6 (Em rfl (Em rfl (Est rfl (i8 (a1Z (hv _ (List.getElem_mem om))) rfl rfl rfl dc tv) (fun _ _ => (Est rfl (Nb [_] [_] us_Ss ty_S rfl rfl) (fun b18 _ => (d7 (Est rfl (u4 (E := Enc.str) (ex := z7 l[g]) us_Ss ty_S rfl rfl rfl Own.str rfl bn bn dc) (fun p19 _ => (Ei rfl (En (n9 (Et (Ez Z2 (Ey rfl ((Y.add rfl rfl om om).yd) (Em rfl (Eu (i9 (congrArg (ow eSs [_]) (show ((l.take g).map z7) ++ [z7 l[g]] = (l.take (g + 1)).map z7 from by rw [List.take_succ_eq_append_getElem (show g < l.length by omega), List.map_append]; rfl)) ?_))))))))))))))))))))))))))))))
  exact Ea (g + 1, p19.1, (((l.take g).map z7).length + 1), p19.2) ⟨oz, trivial⟩
 ·refine Eu (Eq_ (j8 rfl (E.exit (l2 (l2 (w8 (Et (Ew Z4 (Em rfl (Em rfl (Est rfl (i8 (a5E (by simp only [List.length_map, List.length_take]; omega) (Nat.le_trans (N3 (K := 21) (fun x => O5) (show (l.take g).length ≤ 1000000 by rw [List.length_take]; omega)) om)) rfl rfl rfl dc (fun w Lp hA => hA.ow m0)) (fun _ _ => (Ei rfl ?_)))))))))))))
  exact Eu (E.ret (Fg rfl rfl () (by rw [show (Lib.join (l.map z7) by_) = (Lib.join ((l.take g).map z7) by_) from (by rw [List.take_of_length_le om])]; try rfl) rfl))
theorem a1d (hz : l.length ≤ 1000000) : Tr Tryz.prog 63 [.slice a_l m_l c_l] (fun w L => Ro w L eIs [.slice a_l m_l c_l] l) [] (κ := Unit) (fun k => True) (fun k => E4 (Lib.join (l.map z7) [44])) (fun k => []) := by
 refine Tr.intro Tryz.func63 rfl (n := 23) rfl (by decide +kernel) bl (fr := [(0, .slice a_l m_l c_l)]) rfl fun w L hR => ?_
 have hl := hR
 obtain ⟨rfl, ll⟩ := hl.slen
 refine Ew Z1 (Ei rfl (Ev Z1 (Ei rfl (Eu (Eq_ (Ew Z1 (Ei rfl (Eu (E.block (E.loop (κ := Nat) (fun g => g ≤ l.length ∧ True) (fun g => [(0, .slice a_l l.length c_l), (3, E4 (Lib.join ((l.take g).map z7) [44])), (4, .int .i64 (g : Int))]) (fun g => []) (fun g => l.length - g) (0) ⟨Nat.zero_le _, by simp⟩ ⟨rfl, frS (by simp [Lib.join_nil]), rfl, trivial⟩ (.refl _) (fun g pg => ?_)))))))))))
 try dsimp only
 obtain ⟨pk, pa⟩ := pg
 have jl := a4i (f := z7) (K := 21) (l := l) (g := g) (n := 1000000) (B := 22000000) (sep := [44]) (fun x => O5) hz dc
 refine Eq_ (Ew Z4 (Em rfl (Em rfl (Ey rfl ((Y.len us_Is rfl).yd) (Ey rfl ((Y.lss rfl rfl).yd) (j4 (fun q8 => ?_) (fun q8 => ?_)))))))
 ·refine Eu (j9 rfl (f5 (Et (Eq_ (E.block (Eq_ (Ew Z2 (Em rfl (Ey rfl ((Y.gtr rfl rfl).yd) (j4 (fun q12 => ?_) (fun q12 => ?_)))))))))))
  ·refine Eu (j9 rfl (Ez Z3 (Em rfl (Ey rfl ((K9 rfl rfl (by first | omega | (simp only [List.length_append, List.length_cons, List.length_nil] at *; omega))).yd) (Ei rfl (Eu (Ez Z8 (Em rfl (Em rfl (Em rfl ?_))))))))))
   obtain ⟨eb18, eo18, ea18, ei18, eh18⟩ := hl.elemI g om
   refine Ey rfl ((o6 us_Is d9 rfl ea18 rfl g rfl om).yd) (Ey rfl (f6 d9 rfl (eh18 _) rfl) (Est rfl (i8 Y1 rfl rfl rfl dc (fun w Lp hA => ei18)) (fun _ _ => ?_)))
   have ji := O5 (n := l[g])
   refine Ey rfl ((K9 rfl rfl (by first | omega | (simp only [List.length_append, List.length_cons, List.length_nil] at *; omega))).yd) (Ei rfl (En (n9 (Et (Ez Z3 (Em rfl (Ey rfl ((Y.add rfl rfl om om).yd) (Ei rfl ?_))))))))
   exact Eu (t8 br (g + 1) ⟨rfl, frS (by first | exact a0M (f := z7) om om | exact a0O (f := z7) om om), rfl, trivial⟩ (.refl _) ⟨oz, trivial⟩ oz)
  ·refine Eu (j8 rfl (f5 (Et (Ez Z8 (Em rfl (Em rfl (Em rfl ?_)))))))
   obtain ⟨eb18, eo18, ea18, ei18, eh18⟩ := hl.elemI g om
   refine Ey rfl ((o6 us_Is d9 rfl ea18 rfl g rfl om).yd) (Ey rfl (f6 d9 rfl (eh18 _) rfl) (Est rfl (i8 Y1 rfl rfl rfl dc (fun w Lp hA => ei18)) (fun _ _ => ?_)))
   have ji := O5 (n := l[g])
   refine Ey rfl ((K9 rfl rfl (by first | omega | (simp only [List.length_append, List.length_cons, List.length_nil] at *; omega))).yd) (Ei rfl (En (n9 (Et (Ez Z3 (Em rfl (Ey rfl ((Y.add rfl rfl om om).yd) (Ei rfl ?_))))))))
   exact Eu (t8 br (g + 1) ⟨rfl, frS (by first | exact a0M (f := z7) om om | exact a0O (f := z7) om om), rfl, trivial⟩ (.refl _) ⟨oz, trivial⟩ oz)
 ·refine Eu (j8 rfl (E.exit (l2 (l2 (w8 (Et (Ew Z2 (Em rfl (Ei rfl ?_)))))))))
  exact Eu (E.ret (Fg rfl rfl () (by rw [show (Lib.join (l.map z7) [44]) = (Lib.join ((l.take g).map z7) [44]) from (by rw [List.take_of_length_le om])]; try rfl) rfl))
end Go.Proofs.YtfnbilpemdgkkaaGreatDoor
