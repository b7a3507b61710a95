import Derived.Test.YthapcdhdfaibkaaGreatDoorEh
import Derived.Test.YthapcdhdfaibkaaGreatDoorT1
namespace Go.Proofs.YthapcdhdfaibkaaGreatDoor
open Go.RowKit
set_option linter.all false
set_option maxHeartbeats 2000000
attribute [local irreducible] Nop Yd Yp Ent Has Tr FnP FnP2 Src o2 c8 N0 a0b E6
variable {i n : Int} {l : List Int} {m_l c_l : Nat} {a_l : Option Addr}
theorem a4p (hn : 0 ≤ i ∧ i ≤ 9) : Tr Tryz.prog 382 [.int .i64 i] (fun w L => True) [] (κ := Unit) (fun k => True) (fun k => P5 (D3 i)) (fun k => []) := by
 refine Tr.intro Tryz.func382 rfl (n := 15) rfl (by decide +kernel) bl (fr := [(0, .int .i64 i)]) rfl fun w L hR => (Ew Z1 (Ei rfl (Eu (Eq_ (Ew Z2 (Em rfl (Ey rfl ((Y.lss rfl rfl).yd) (o3 (fun q4 => ?_) (fun q4 => ?_)))))))))
 ·refine Eu (n8 rfl (Ew Z5 (Em rfl (Em rfl (Ey rfl ((Y.add rfl rfl om om).yd) (Ey rfl ((b8V b5n rfl rfl rfl om (by show _ ≤ ((36 : Nat) : Int); omega)).yd) (Ei rfl ?_)))))))
  exact Eu (E.ret (n0 (Fg rfl rfl () (by rw [show (D3 i) = ((List.drop i.toNat ([48, 49, 50, 51, 52, 53, 54, 55, 56, 57, 97, 98, 99, 100, 101, 102, 103, 104, 105, 106, 107, 108, 109, 110, 111, 112, 113, 114, 115, 116, 117, 118, 119, 120, 121, 122] : List UInt8)).take ((i + 1).toNat - i.toNat)) from (by exact (b3I hn).symm)]; try rfl) rfl)))
 ·exact absurd q4 om
theorem a3j {base : Int} (hn : 0 ≤ i ∧ i ≤ 9) (hb : base = 10) : Tr Tryz.prog 373 [.int .i64 i, .int .i64 base] (fun w L => True) [] (κ := Unit) (fun k => True) (fun k => P5 (D3 i)) (fun k => []) := by
 refine Tr.intro Tryz.func373 rfl (n := 54) rfl (by decide +kernel) bl (fr := [(0, .int .i64 i), (1, .int .i64 base)]) rfl fun w L hR => (Ew Z1 (Ei rfl (Eu (Eq_ (Ew Z2 (Em rfl (Ey rfl ((Y.eql rfl rfl).yd) (o3 (fun q11 => ?_) (fun q11 => ?_)))))))))
 ·refine Eu (n8 rfl (Eq_ (Ew Z6 (Em rfl (Ey rfl ((Y.leq rfl rfl).yd) (o3 (fun q13 => ?_) (fun q13 => ?_)))))))
  ·refine Em rfl (Em rfl (Ey rfl ((Y.lss rfl rfl).yd) (o3 (fun q16 => ?_) (fun q16 => ?_))))
   ·refine Ey rfl ((t8 rfl rfl).yd) (Eu (n8 rfl (Ew Z3 (Em rfl (Est rfl (l0 (a4p fc) rfl rfl rfl dc tv) (fun _ _ => (Ei rfl ?_)))))))
    exact Eu (E.ret (n0 (n0 (Fg rfl rfl () rfl rfl))))
   ·exact absurd q16 om
  ·exact absurd hn.1 q13
 ·exact absurd hb q11
theorem a4y (hn : 0 ≤ i ∧ i ≤ 9) : Tr Tryz.prog 340 [.int .i64 i] (fun w L => True) [] (κ := Unit) (fun k => True) (fun k => P5 (D3 i)) (fun k => []) := by
 refine Tr.intro Tryz.func340 rfl (n := 5) rfl (by decide +kernel) bl (fr := [(0, .int .i64 i)]) rfl fun w L hR => (Ew Z1 (Ei rfl (Ev Z3 (Em rfl (Est rfl (l0 (a3j fc fc) rfl rfl rfl dc tv) (fun _ _ => (Ei rfl ?_)))))))
 exact Eu (E.ret (Fg rfl rfl () rfl rfl))
theorem a9w (hn : 0 ≤ i ∧ i ≤ 9) : Tr Tryz.prog 280 [.int .i64 i] (fun w L => True) [] (κ := Unit) (fun k => True) (fun k => P5 (D3 i)) (fun k => []) := by
 refine Tr.intro Tryz.func280 rfl (n := 5) rfl (by decide +kernel) bl (fr := [(0, .int .i64 i)]) rfl fun w L hR => (Ew Z1 (Ei rfl (Ev Z3 (Em rfl (Est rfl (l0 (a4y fc) rfl rfl rfl dc tv) (fun _ _ => (Ei rfl ?_)))))))
 exact Eu (E.ret (Fg rfl rfl () rfl rfl))
theorem a2A (hn : 0 ≤ n ∧ n ≤ 9) : Tr Tryz.prog 177 [.int .i64 n] (fun w L => True) [] (κ := Unit) (fun k => True) (fun k => P5 (D3 n)) (fun k => []) := by
 refine Tr.intro Tryz.func177 rfl (n := 5) rfl (by decide +kernel) bl (fr := [(0, .int .i64 n)]) rfl fun w L hR => (Ew Z1 (Ei rfl (Ev Z3 (Em rfl (Est rfl (l0 (a9w fc) rfl rfl rfl dc tv) (fun _ _ => (Ei rfl ?_)))))))
 exact Eu (E.ret (Fg rfl rfl () rfl rfl))
theorem a0F : Tr Tryz.prog 180 [.int .i64 n] (fun w L => I64 n) [] (κ := Unit) (fun k => True) (fun k => P5 (D3 n)) (fun k => []) := by
 refine Tr.intro Tryz.func180 rfl (n := 31) rfl (by decide +kernel) bl (fr := [(0, .int .i64 n)]) rfl fun w L hR => ?_
 have i6n := hR
 refine Ew Z1 (Ei rfl (Eu (Eq_ (Ew Z2 (Em rfl (Ey rfl ((Y.eql rfl rfl).yd) (o3 (fun q7 => ?_) (fun q7 => ?_))))))))
 ·refine Eu (n8 rfl (Ew Z1 (Ei rfl ?_)))
  exact Eu (E.ret (n0 (Fg rfl rfl () (by rw [show (D3 n) = ([48]) from (by rw [q7]; exact b3B)]; try rfl) rfl)))
 ·refine Eu (o0 rfl (i7 (Et (Ew Z1 (Ei rfl (Ev Z3 (Em rfl (Ey rfl ((Y.lss rfl rfl).yd) (Ei rfl (Eu (Eq_ (E.block (E.loop (κ := Nat) (fun g => g ≤ 20 ∧ True) (fun g => [(0, .int .i64 ((itN n g).1)), (3, P5 ((itN n g).2)), (4, .bool (decide (n < 0)))]) (fun g => []) (fun g => 20 - g) (0) ⟨Nat.zero_le _, by simp⟩ ⟨frI (by rfl), frS (by rfl), rfl, trivial⟩ (.refl _) (fun g pg => ?_))))))))))))))
  try dsimp only
  obtain ⟨pk, pa⟩ := pg
  have j6 := b6p (g := g) i6n
  have jl := a9e (n := n) (g := g)
  refine Eq_ (Ew Z2 (Em rfl (Ey rfl ((Y.neq rfl rfl).yd) (o3 (fun q11 => ?_) (fun q11 => ?_)))))
  ·refine Eu (n8 rfl (i7 (Et (E.block (Ew Z3 (Em rfl ?_))))))
   have j7 : -9 ≤ (itN n g).1.tmod 10 ∧ (itN n g).1.tmod 10 ≤ 9 := b5i
   refine Ey rfl ((Y.rem rfl rfl i6 dc).yd) (Ei rfl (Eu (Eq_ (Ew Z2 (Em rfl (Ey rfl ((Y.lss rfl rfl).yd) (o3 (fun q15 => ?_) (fun q15 => ?_))))))))
   ·refine Eu (n8 rfl (Ez Z3 (Em rfl (Ey rfl ((Y.neg rfl om).yd) (Ei rfl (Ev Z8 (Em rfl (Ey rfl ((Y.add rfl rfl om om).yd) (Ey rfl ((b4T b3a a7k rfl om).yd) (Est rfl (Nb [_] [_] us_U8s a7l rfl rfl) (fun b21 _ => (Ey rfl (b6m us_U8s a7k b5n rfl m0 om) (Em rfl (Ey rfl ((H1 rfl rfl (by first | omega | (simp only [List.length_append, List.length_cons, List.length_nil] at *; omega))).yd) (Ei rfl (Eu (Ez Z3 (Em rfl (Ey rfl ((Y.quo rfl rfl i6 dc).yd) (Ei rfl ?_))))))))))))))))))))
    have jg := b4c i6n q11
    refine En (s9 (Et (Ent.drop ?_)))
    exact x6 br (g + 1) ⟨frI (by first | exact a3z q11 | exact a1p q11 (.inl rfl) om | exact a1p q11 (.inr rfl) om), frS (by first | exact a3z q11 | exact a1p q11 (.inl rfl) om | exact a1p q11 (.inr rfl) om), rfl, trivial⟩ (.refl _) ⟨oz, (show True from by trivial)⟩ oz
   ·refine Eu (o0 rfl (i7 (Et (Ew Z8 (Em rfl (Ey rfl ((Y.add rfl rfl om om).yd) (Ey rfl ((b4T b3a a7k rfl om).yd) (Est rfl (Nb [_] [_] us_U8s a7l rfl rfl) (fun b21 _ => (Ey rfl (b6m us_U8s a7k b5n rfl m0 om) (Em rfl (Ey rfl ((H1 rfl rfl (by first | omega | (simp only [List.length_append, List.length_cons, List.length_nil] at *; omega))).yd) (Ei rfl (Eu (Ez Z3 (Em rfl (Ey rfl ((Y.quo rfl rfl i6 dc).yd) (Ei rfl ?_))))))))))))))))))
    have jg := b4c i6n q11
    refine En (s9 (Et (Ent.drop ?_)))
    exact x6 br (g + 1) ⟨frI (by first | exact a3z q11 | exact a1p q11 (.inl rfl) om | exact a1p q11 (.inr rfl) om), frS (by first | exact a3z q11 | exact a1p q11 (.inl rfl) om | exact a1p q11 (.inr rfl) om), rfl, trivial⟩ (.refl _) ⟨oz, (show True from by trivial)⟩ oz
  ·refine Eu (o0 rfl (E.exit (q1 (q1 (y4 (Et (Eq_ (Ew Z1 (Em rfl (o3 (fun q27 => ?_) (fun q27 => ?_)))))))))))
   ·refine Eu (n8 rfl (Ew Z3 (Em rfl (Ey rfl ((H1 rfl rfl (by first | omega | (simp only [List.length_append, List.length_cons, List.length_nil] at *; omega))).yd) (Ei rfl ?_)))))
    exact Eu (E.ret (n0 (Fg rfl rfl () (by rw [show (D3 n) = (([45]) ++ ((itN n g).2)) from (by rw [b2C pk om]; exact (b4A q7 q27).symm)]; try rfl) rfl)))
   ·refine Eu (o0 rfl (i7 (Et (Ew Z2 (Em rfl (Ei rfl ?_))))))
    exact Eu (E.ret (Fg rfl rfl () (by rw [show (D3 n) = ((itN n g).2) from (by rw [b2C pk om]; exact (b4e q7 q27).symm)]; try rfl) rfl))
theorem a6l {by_ : List UInt8} (hz : l.length ≤ 1000000) (hb : by_.length ≤ 100) (hv : ∀ x ∈ l, 0 ≤ x ∧ x ≤ 9) : Tr Tryz.prog 282 [.slice a_l m_l c_l, P5 by_] (fun w L => Ro w L eIs [.slice a_l m_l c_l] l) [] (κ := Unit) (fun k => True) (fun k => P5 (Lib.join (l.map D3) by_)) (fun k => []) := by
 refine Tr.intro Tryz.func282 rfl (n := 24) rfl (by decide +kernel) bl (fr := [(0, .slice a_l m_l c_l), (1, P5 by_)]) rfl fun w L hR => ?_
 have hl := hR
 obtain ⟨rfl, ll⟩ := hl.slen
 refine Ew Z1 (Ei rfl (Ev Z2 (Est rfl (Nb [] [] us_Ss ty_S rfl rfl) (fun b8 _ => (Ent.drop (Ei rfl (Eu (Eq_ (Ew Z3 (Em rfl (Ey rfl ((Y.len us_Is rfl).yd) (Em rfl (Eu (E.block (u9 (A := []) (Own.nil (E := Enc.str) (e := tS) (a := (some ⟨b8, 0, none⟩))) rfl (j4 (congrArg (ow eSs [_]) (show [] = (l.take 0).map D3 from by rfl)) (E.loop (κ := Nat × Option Addr × Nat × Nat) (fun g => g.1 ≤ l.length ∧ True) (fun g => [(1, P5 by_), (5, .slice g.2.1 g.2.2.1 g.2.2.2), (9, .slice a_l l.length c_l), (10, .int .i64 (↑l.length : Int)), (11, .int .i64 (↑g.1 : Int))]) (fun g => [ow eSs [.slice g.2.1 g.2.2.1 g.2.2.2] ((l.take g.1).map D3)]) (fun g => l.length - g.1) (0, (some ⟨b8, 0, none⟩), 0, 0) ⟨Nat.zero_le _, by simp⟩ ⟨rfl, rfl, rfl, rfl, rfl, trivial⟩ (.refl _) (fun g pg => ?_))))))))))))))))))
 obtain ⟨g, aA0_0, mA0_0, cA0_0⟩ := g
 try dsimp only at pg
 try dsimp only
 obtain ⟨pk, pa⟩ := pg
 have jt := List.length_take_le g l
 refine d7 m0 fun eaA0_0 laA0_0 => ?_
 subst eaA0_0
 refine Ew Z1 (Ey rfl ((Y.lss rfl rfl).yd) (o3 (fun q12 => ?_) (fun q12 => ?_)))
 ·obtain ⟨eb13, eo13, ea13, ei13, eh13⟩ := hl.elemI g om
  refine Eu (Eq_ (n8 rfl (i7 (Et (Eq_ (E.block (Ew Z3 (Ey rfl ((v8 us_Is f9 rfl ea13 rfl g rfl om).yd) (Ey rfl (g9 f9 rfl (eh13 _) rfl) (Ei rfl (Eu (Ez Z6 (Em rfl (Em rfl (Est rfl (l0 (a2A (hv _ (List.getElem_mem om))) rfl rfl rfl dc tv) (fun _ _ => (Est rfl (Nb [_] [_] us_Ss ty_S rfl rfl) (fun b18 _ => (d9 (Est rfl (C7 (E := Enc.str) (ex := D3 l[g]) us_Ss ty_S rfl rfl rfl Own.str rfl bn bn dc) (fun p19 _ => (Ei rfl (En (s9 (Et (Ez Z2 (Ey rfl ((Y.add rfl rfl om om).yd) (Em rfl (Eu (j4 (congrArg (ow eSs [_]) (show ((l.take g).map D3) ++ [D3 l[g]] = (l.take (g + 1)).map D3 from by rw [List.take_succ_eq_append_getElem (show g < l.length by omega), List.map_append]; rfl)) ?_))))))))))))))))))))))))))))))
  exact Ea (g + 1, p19.1, (((l.take g).map D3).length + 1), p19.2) ⟨oz, trivial⟩
 ·refine Eu (Eq_ (o0 rfl (E.exit (q1 (q1 (y4 (Et (Ew Z4 (Em rfl (Em rfl (Est rfl (l0 (b2E (by simp only [List.length_map, List.length_take]; omega) (Nat.le_trans (X5 (K := 21) (fun x => O4) (show (l.take g).length ≤ 1000000 by rw [List.length_take]; omega)) om)) rfl rfl rfl dc (fun w Lp hA => hA.ow m0)) (fun _ _ => (Ei rfl ?_)))))))))))))
  exact Eu (E.ret (Fg rfl rfl () (by rw [show (Lib.join (l.map D3) by_) = (Lib.join ((l.take g).map D3) by_) from (by rw [List.take_of_length_le om])]; try rfl) rfl))
theorem a6k (hz : l.length ≤ 1000000) : Tr Tryz.prog 283 [.slice a_l m_l c_l] (fun w L => Ro w L eIs [.slice a_l m_l c_l] l) [] (κ := Unit) (fun k => True) (fun k => P5 (Lib.join (l.map D3) [44])) (fun k => []) := by
 refine Tr.intro Tryz.func283 rfl (n := 23) rfl (by decide +kernel) bl (fr := [(0, .slice a_l m_l c_l)]) rfl fun w L hR => ?_
 have hl := hR
 obtain ⟨rfl, ll⟩ := hl.slen
 refine Ew Z1 (Ei rfl (Ev Z1 (Ei rfl (Eu (Eq_ (Ew Z1 (Ei rfl (Eu (E.block (E.loop (κ := Nat) (fun g => g ≤ l.length ∧ True) (fun g => [(0, .slice a_l l.length c_l), (3, P5 (Lib.join ((l.take g).map D3) [44])), (4, .int .i64 (g : Int))]) (fun g => []) (fun g => l.length - g) (0) ⟨Nat.zero_le _, by simp⟩ ⟨rfl, frS (by simp [Lib.join_nil]), rfl, trivial⟩ (.refl _) (fun g pg => ?_)))))))))))
 try dsimp only
 obtain ⟨pk, pa⟩ := pg
 have jl := a6j (f := D3) (K := 21) (l := l) (g := g) (n := 1000000) (B := 22000000) (sep := [44]) (fun x => O4) hz dc
 refine Eq_ (Ew Z4 (Em rfl (Em rfl (Ey rfl ((Y.len us_Is rfl).yd) (Ey rfl ((Y.lss rfl rfl).yd) (o3 (fun q8 => ?_) (fun q8 => ?_)))))))
 ·refine Eu (n8 rfl (i7 (Et (Eq_ (E.block (Eq_ (Ew Z2 (Em rfl (Ey rfl ((Y.gtr rfl rfl).yd) (o3 (fun q12 => ?_) (fun q12 => ?_)))))))))))
  ·refine Eu (n8 rfl (Ez Z3 (Em rfl (Ey rfl ((H1 rfl rfl (by first | omega | (simp only [List.length_append, List.length_cons, List.length_nil] at *; omega))).yd) (Ei rfl (Eu (Ez Z8 (Em rfl (Em rfl (Em rfl ?_))))))))))
   obtain ⟨eb18, eo18, ea18, ei18, eh18⟩ := hl.elemI g om
   refine Ey rfl ((v8 us_Is f9 rfl ea18 rfl g rfl om).yd) (Ey rfl (g9 f9 rfl (eh18 _) rfl) (Est rfl (l0 a0F rfl rfl rfl dc (fun w Lp hA => ei18)) (fun _ _ => ?_)))
   have ji := O4 (n := l[g])
   refine Ey rfl ((H1 rfl rfl (by first | omega | (simp only [List.length_append, List.length_cons, List.length_nil] at *; omega))).yd) (Ei rfl (En (s9 (Et (Ez Z3 (Em rfl (Ey rfl ((Y.add rfl rfl om om).yd) (Ei rfl ?_))))))))
   exact Eu (x6 br (g + 1) ⟨rfl, frS (by first | exact a5E (f := D3) om om | exact a5Q (f := D3) om om), rfl, trivial⟩ (.refl _) ⟨oz, trivial⟩ oz)
  ·refine Eu (o0 rfl (i7 (Et (Ez Z8 (Em rfl (Em rfl (Em rfl ?_)))))))
   obtain ⟨eb18, eo18, ea18, ei18, eh18⟩ := hl.elemI g om
   refine Ey rfl ((v8 us_Is f9 rfl ea18 rfl g rfl om).yd) (Ey rfl (g9 f9 rfl (eh18 _) rfl) (Est rfl (l0 a0F rfl rfl rfl dc (fun w Lp hA => ei18)) (fun _ _ => ?_)))
   have ji := O4 (n := l[g])
   refine Ey rfl ((H1 rfl rfl (by first | omega | (simp only [List.length_append, List.length_cons, List.length_nil] at *; omega))).yd) (Ei rfl (En (s9 (Et (Ez Z3 (Em rfl (Ey rfl ((Y.add rfl rfl om om).yd) (Ei rfl ?_))))))))
   exact Eu (x6 br (g + 1) ⟨rfl, frS (by first | exact a5E (f := D3) om om | exact a5Q (f := D3) om om), rfl, trivial⟩ (.refl _) ⟨oz, trivial⟩ oz)
 ·refine Eu (o0 rfl (E.exit (q1 (q1 (y4 (Et (Ew Z2 (Em rfl (Ei rfl ?_)))))))))
  exact Eu (E.ret (Fg rfl rfl () (by rw [show (Lib.join (l.map D3) [44]) = (Lib.join ((l.take g).map D3) [44]) from (by rw [List.take_of_length_le om])]; try rfl) rfl))
theorem b1q {rel : Int} : Tr Tryz.prog 236 [.int .i64 rel] (fun w L => True) [] (κ := Unit) (fun k => True) (fun k => .bool (inR rel 0 2)) (fun k => []) := by
 refine Tr.intro Tryz.func236 rfl (n := 5) rfl (by decide +kernel) bl (fr := [(0, .int .i64 rel)]) rfl fun w L hR => (Ew Z1 (Ei rfl (Ev Z3 (Em rfl (Est rfl (l0 M8 rfl rfl rfl dc tv) (fun _ _ => (Ei rfl ?_)))))))
 exact Eu (E.ret (Fg rfl rfl () rfl rfl))
end Go.Proofs.YthapcdhdfaibkaaGreatDoor
