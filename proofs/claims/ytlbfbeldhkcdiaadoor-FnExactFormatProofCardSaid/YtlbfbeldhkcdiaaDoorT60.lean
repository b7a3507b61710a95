import Derived.Test.YtlbfbeldhkcdiaaDoorEh
import Derived.Test.YtlbfbeldhkcdiaaDoorT1
namespace Go.Proofs.YtlbfbeldhkcdiaaDoor
open Go.RowKit
set_option linter.unusedVariables false
set_option linter.unusedSimpArgs false
set_option maxHeartbeats 2000000
attribute [local irreducible] Nop Yd Yp Ent Has Tr FnP FnP2 Src listsF opnF opn1 opnR chainB
theorem t_internal_strconv_small {i : Int} (hn : 0 ≤ i ∧ i ≤ 9) : Tr Tryd.prog 105 [.int .i64 i] (fun w L => True) [] (κ := Unit) (fun k => True) (fun k => strV (textI i)) (fun k => []) := by
  refine Tr.intro Tryd.func105 rfl (n := 15) rfl (by decide +kernel) (Nat.le_of_ble_eq_true rfl) (fr := [(0, .int .i64 i)]) rfl fun w L hR => ?_
  refine E.seq (E.region (l := [0]) rfl (E.y rfl rfl (by decide) ((Y.as rfl).yd) ?_))
  refine E.nil (E.thn (E.seq (E.seq (E.region (l := [0, 1]) rfl (E.y rfl rfl (by decide) ((Y.mv rfl).yd) ?_)))))
  refine E.y rfl rfl (by decide) ((Y.lss rfl rfl).yd) (Ent.d (fun q4 => ?_) (fun q4 => ?_))
  · refine E.nil (E.thn (E.ct rfl (E.seq (E.region (l := [0, 1, 2, 3, 4]) rfl (E.y rfl rfl (by decide) ((Y.mv rfl).yd) ?_)))))
    refine E.y rfl rfl (by decide) ((Y.mv rfl).yd) ?_
    refine E.y rfl rfl (by decide) ((Y.add rfl rfl (by omega) (by omega)).yd) ?_
    refine E.y rfl rfl (by decide) ((Y.slS un_S rfl rfl rfl (by omega) (by show _ ≤ ((36 : Nat) : Int); omega)).yd) ?_
    refine E.y rfl rfl (by decide) ((Y.as rfl).yd) ?_
    exact E.nil (E.thn (E.ret (E.thr (F.r1 (Back.refl _ _) rfl rfl () trivial (by rw [show (textI i) = ((List.drop i.toNat ([48, 49, 50, 51, 52, 53, 54, 55, 56, 57, 97, 98, 99, 100, 101, 102, 103, 104, 105, 106, 107, 108, 109, 110, 111, 112, 113, 114, 115, 116, 117, 118, 119, 120, 121, 122] : List UInt8)).take ((i + 1).toNat - i.toNat)) from (by exact (small_dig hn).symm)]; try rfl) (J := _) (.refl _) (.inl rfl)))))
  · exact absurd q4 (by omega)
theorem t_internal_strconv_FormatInt {i : Int} {base : Int} (hn : 0 ≤ i ∧ i ≤ 9) (hb : base = 10) : Tr Tryd.prog 99 [.int .i64 i, .int .i64 base] (fun w L => True) [] (κ := Unit) (fun k => True) (fun k => strV (textI i)) (fun k => []) := by
  refine Tr.intro Tryd.func99 rfl (n := 54) rfl (by decide +kernel) (Nat.le_of_ble_eq_true rfl) (fr := [(0, .int .i64 i), (1, .int .i64 base)]) rfl fun w L hR => ?_
  refine E.seq (E.region (l := [0]) rfl (E.y rfl rfl (by decide) ((Y.as rfl).yd) ?_))
  refine E.nil (E.thn (E.seq (E.seq (E.region (l := [0, 1]) rfl (E.y rfl rfl (by decide) ((Y.mv rfl).yd) ?_)))))
  refine E.y rfl rfl (by decide) ((Y.eql rfl rfl).yd) (Ent.d (fun q11 => ?_) (fun q11 => ?_))
  · refine E.nil (E.thn (E.ct rfl (E.seq (E.seq (E.region (l := [0, 1, 2, 3, 4, 5]) rfl (E.y rfl rfl (by decide) ((Y.mv rfl).yd) ?_))))))
    refine E.y rfl rfl (by decide) ((Y.leq rfl rfl).yd) (Ent.d (fun q13 => ?_) (fun q13 => ?_))
    · refine E.y rfl rfl (by decide) ((Y.mv rfl).yd) ?_
      refine E.y rfl rfl (by decide) ((Y.mv rfl).yd) ?_
      refine E.y rfl rfl (by decide) ((Y.lss rfl rfl).yd) (Ent.d (fun q16 => ?_) (fun q16 => ?_))
      · refine E.y rfl rfl (by decide) ((Y.pkt rfl rfl).yd) ?_
        refine E.nil (E.thn (E.ct rfl (E.seq (E.region (l := [0, 1, 2]) rfl (E.y rfl rfl (by decide) ((Y.mv rfl).yd) ?_)))))
        refine E.st rfl rfl (N.call0 (t_internal_strconv_small (by first | omega | assumption | (constructor <;> omega))) rfl rfl rfl (by decide) (fun w Lp hA => trivial)) (fun _ _ => ?_)
        refine E.y rfl rfl (by decide) ((Y.as rfl).yd) ?_
        exact E.nil (E.thn (E.ret (E.thr (E.thr (F.r1 (Back.refl _ _) rfl rfl () trivial rfl (J := _) (.refl _) (.inl rfl))))))
      · exact absurd q16 (by omega)
    · exact absurd hn.1 q13
  · exact absurd hb q11
theorem t_internal_strconv_Itoa {i : Int} (hn : 0 ≤ i ∧ i ≤ 9) : Tr Tryd.prog 79 [.int .i64 i] (fun w L => True) [] (κ := Unit) (fun k => True) (fun k => strV (textI i)) (fun k => []) := by
  refine Tr.intro Tryd.func79 rfl (n := 5) rfl (by decide +kernel) (Nat.le_of_ble_eq_true rfl) (fr := [(0, .int .i64 i)]) rfl fun w L hR => ?_
  refine E.seq (E.region (l := [0]) rfl (E.y rfl rfl (by decide) ((Y.as rfl).yd) ?_))
  refine E.nil (E.thn (E.seq (E.region (l := [0, 1, 2]) rfl (E.y rfl rfl (by decide) ((Y.mv rfl).yd) ?_))))
  refine E.st rfl rfl (N.call0 (t_internal_strconv_FormatInt (by first | omega | assumption | (constructor <;> omega)) (by first | omega | assumption | (constructor <;> omega))) rfl rfl rfl (by decide) (fun w Lp hA => trivial)) (fun _ _ => ?_)
  refine E.y rfl rfl (by decide) ((Y.as rfl).yd) ?_
  exact E.nil (E.thn (E.ret (F.r1 (Back.refl _ _) rfl rfl () trivial rfl (J := _) (.refl _) (.inl rfl))))
theorem t_strconv_Itoa {i : Int} (hn : 0 ≤ i ∧ i ≤ 9) : Tr Tryd.prog 59 [.int .i64 i] (fun w L => True) [] (κ := Unit) (fun k => True) (fun k => strV (textI i)) (fun k => []) := by
  refine Tr.intro Tryd.func59 rfl (n := 5) rfl (by decide +kernel) (Nat.le_of_ble_eq_true rfl) (fr := [(0, .int .i64 i)]) rfl fun w L hR => ?_
  refine E.seq (E.region (l := [0]) rfl (E.y rfl rfl (by decide) ((Y.as rfl).yd) ?_))
  refine E.nil (E.thn (E.seq (E.region (l := [0, 1, 2]) rfl (E.y rfl rfl (by decide) ((Y.mv rfl).yd) ?_))))
  refine E.st rfl rfl (N.call0 (t_internal_strconv_Itoa (by first | omega | assumption | (constructor <;> omega))) rfl rfl rfl (by decide) (fun w Lp hA => trivial)) (fun _ _ => ?_)
  refine E.y rfl rfl (by decide) ((Y.as rfl).yd) ?_
  exact E.nil (E.thn (E.ret (F.r1 (Back.refl _ _) rfl rfl () trivial rfl (J := _) (.refl _) (.inl rfl))))
theorem t_impl_FormatInt {n : Int} (hn : 0 ≤ n ∧ n ≤ 9) : Tr Tryd.prog 35 [.int .i64 n] (fun w L => True) [] (κ := Unit) (fun k => True) (fun k => strV (textI n)) (fun k => []) := by
  refine Tr.intro Tryd.func35 rfl (n := 5) rfl (by decide +kernel) (Nat.le_of_ble_eq_true rfl) (fr := [(0, .int .i64 n)]) rfl fun w L hR => ?_
  refine E.seq (E.region (l := [0]) rfl (E.y rfl rfl (by decide) ((Y.as rfl).yd) ?_))
  refine E.nil (E.thn (E.seq (E.region (l := [0, 1, 2]) rfl (E.y rfl rfl (by decide) ((Y.mv rfl).yd) ?_))))
  refine E.st rfl rfl (N.call0 (t_strconv_Itoa (by first | omega | assumption | (constructor <;> omega))) rfl rfl rfl (by decide) (fun w Lp hA => trivial)) (fun _ _ => ?_)
  refine E.y rfl rfl (by decide) ((Y.as rfl).yd) ?_
  exact E.nil (E.thn (E.ret (F.r1 (Back.refl _ _) rfl rfl () trivial rfl (J := _) (.refl _) (.inl rfl))))
theorem t_spec_FormatInt {n : Int} : Tr Tryd.prog 29 [.int .i64 n] (fun w L => I64 n) [] (κ := Unit) (fun k => True) (fun k => strV (textI n)) (fun k => []) := by
  refine Tr.intro Tryd.func29 rfl (n := 31) rfl (by decide +kernel) (Nat.le_of_ble_eq_true rfl) (fr := [(0, .int .i64 n)]) rfl fun w L hR => ?_
  have i6n := hR
  refine E.seq (E.region (l := [0]) rfl (E.y rfl rfl (by decide) ((Y.as rfl).yd) ?_))
  refine E.nil (E.thn (E.seq (E.seq (E.region (l := [0, 1]) rfl (E.y rfl rfl (by decide) ((Y.mv rfl).yd) ?_)))))
  refine E.y rfl rfl (by decide) ((Y.eql rfl rfl).yd) (Ent.d (fun q7 => ?_) (fun q7 => ?_))
  · refine E.nil (E.thn (E.ct rfl (E.seq (E.region (l := [0]) rfl (E.y rfl rfl (by decide) ((Y.as rfl).yd) ?_)))))
    exact E.nil (E.thn (E.ret (E.thr (F.r1 (Back.refl _ _) rfl rfl () trivial (by rw [show (textI n) = ([48]) from (by rw [q7]; exact textI_zero)]; try rfl) (J := _) (.refl _) (.inl rfl)))))
  · refine E.nil (E.thn (E.cf rfl (E.skipc (E.thn (E.seq (E.region (l := [0]) rfl (E.y rfl rfl (by decide) ((Y.as rfl).yd) ?_)))))))
    refine E.nil (E.thn (E.seq (E.region (l := [0, 1, 2]) rfl (E.y rfl rfl (by decide) ((Y.mv rfl).yd) ?_))))
    refine E.y rfl rfl (by decide) ((Y.lss rfl rfl).yd) ?_
    refine E.y rfl rfl (by decide) ((Y.as rfl).yd) ?_
    refine E.nil (E.thn (E.seq (E.block (E.loop (κ := Nat) (fun g => g ≤ 20 ∧ True) (fun g => [(0, .int .i64 ((itN n g).1)), (3, strV ((itN n g).2)), (4, .bool (decide (n < 0)))]) (fun g => []) (fun g => 20 - g) (0) ⟨Nat.zero_le _, by simp⟩ ⟨frI (by rfl), frS (by rfl), rfl, trivial⟩ (.refl _) (fun g pg => ?_)))))
    show Ent _ _ _ [(0, .int .i64 ((itN n g).1)), (3, strV ((itN n g).2)), (4, .bool (decide (n < 0)))] [] _
    obtain ⟨pk, pa⟩ := pg
    have j6 := itN_I64 (g := g) i6n
    have jl := itN_len (n := n) (g := g)
    refine E.seq (E.seq (E.region (l := [0, 1]) rfl (E.y rfl rfl (by decide) ((Y.mv rfl).yd) ?_)))
    refine E.y rfl rfl (by decide) ((Y.neq rfl rfl).yd) (Ent.d (fun q11 => ?_) (fun q11 => ?_))
    · refine E.nil (E.thn (E.ct rfl (E.skipc (E.thn (E.block (E.seq (E.region (l := [0, 1, 2]) rfl (E.y rfl rfl (by decide) ((Y.mv rfl).yd) ?_))))))))
      have j7 : -9 ≤ (itN n g).1.tmod 10 ∧ (itN n g).1.tmod 10 ≤ 9 := tmod_ten
      refine E.y rfl rfl (by decide) ((Y.rem rfl rfl (by first | assumption | (unfold I64; (try dsimp only); omega) | grind) (by decide)).yd) ?_
      refine E.y rfl rfl (by decide) ((Y.as rfl).yd) ?_
      refine E.nil (E.thn (E.seq (E.seq (E.region (l := [0, 1]) rfl (E.y rfl rfl (by decide) ((Y.mv rfl).yd) ?_)))))
      refine E.y rfl rfl (by decide) ((Y.lss rfl rfl).yd) (Ent.d (fun q15 => ?_) (fun q15 => ?_))
      · refine E.nil (E.thn (E.ct rfl (E.region (l := [0, 1, 2]) rfl (E.y rfl rfl (by decide) ((Y.mv rfl).yd) ?_))))
        refine E.y rfl rfl (by decide) ((Y.neg rfl (by omega)).yd) ?_
        refine E.y rfl rfl (by decide) ((Y.as rfl).yd) ?_
        refine E.nil (E.thn (E.seq (E.region (l := [0, 1, 2, 3, 4, 5, 6, 7]) rfl (E.y rfl rfl (by decide) ((Y.mv rfl).yd) ?_))))
        refine E.y rfl rfl (by decide) ((Y.add rfl rfl (by omega) (by omega)).yd) ?_
        refine E.y rfl rfl (by decide) ((Y.cvU8 un_I un_U8 rfl (by omega)).yd) ?_
        refine E.st rfl rfl (N.bsl (pvs := [_]) (cs := [_]) us_U8s ty_U8 rfl (by decide) (by decide) (fillZ rfl rfl) rfl (by decide)) (fun b21 _ => ?_)
        refine E.y rfl rfl (by decide) (Y.bs1 us_U8s un_U8 un_S rfl m0 (by omega)) ?_
        refine E.y rfl rfl (by decide) ((Y.mv rfl).yd) ?_
        refine E.y rfl rfl (by decide) ((Y.addS rfl rfl (by first | omega | (simp only [List.length_append, List.length_cons, List.length_nil] at *; omega))).yd) ?_
        refine E.y rfl rfl (by decide) ((Y.as rfl).yd) ?_
        refine E.nil (E.thn (E.region (l := [0, 1, 2]) rfl (E.y rfl rfl (by decide) ((Y.mv rfl).yd) ?_)))
        refine E.y rfl rfl (by decide) ((Y.quo rfl rfl (by first | assumption | (unfold I64; (try dsimp only); omega) | grind) (by decide)).yd) ?_
        refine E.y rfl rfl (by decide) ((Y.as rfl).yd) ?_
        have jg := itN_lt i6n q11
        refine E.nil (E.bln (E.thn (Ent.drop ?_)))
        exact E.again (Back.refl _ _) (g + 1) ⟨frI (by first | exact itN_step1 q11 | exact itN_step2 q11 (.inl rfl) (by omega) | exact itN_step2 q11 (.inr rfl) (by omega)), frS (by first | exact itN_step1 q11 | exact itN_step2 q11 (.inl rfl) (by omega) | exact itN_step2 q11 (.inr rfl) (by omega)), rfl, trivial⟩ (.refl _) ⟨(show g + 1 ≤ 20 from by omega), (show True from by trivial)⟩ (show 20 - (g + 1) < 20 - g from by omega)
      · refine E.nil (E.thn (E.cf rfl (E.skipc (E.thn (E.seq (E.region (l := [0, 1, 2, 3, 4, 5, 6, 7]) rfl (E.y rfl rfl (by decide) ((Y.mv rfl).yd) ?_)))))))
        refine E.y rfl rfl (by decide) ((Y.add rfl rfl (by omega) (by omega)).yd) ?_
        refine E.y rfl rfl (by decide) ((Y.cvU8 un_I un_U8 rfl (by omega)).yd) ?_
        refine E.st rfl rfl (N.bsl (pvs := [_]) (cs := [_]) us_U8s ty_U8 rfl (by decide) (by decide) (fillZ rfl rfl) rfl (by decide)) (fun b21 _ => ?_)
        refine E.y rfl rfl (by decide) (Y.bs1 us_U8s un_U8 un_S rfl m0 (by omega)) ?_
        refine E.y rfl rfl (by decide) ((Y.mv rfl).yd) ?_
        refine E.y rfl rfl (by decide) ((Y.addS rfl rfl (by first | omega | (simp only [List.length_append, List.length_cons, List.length_nil] at *; omega))).yd) ?_
        refine E.y rfl rfl (by decide) ((Y.as rfl).yd) ?_
        refine E.nil (E.thn (E.region (l := [0, 1, 2]) rfl (E.y rfl rfl (by decide) ((Y.mv rfl).yd) ?_)))
        refine E.y rfl rfl (by decide) ((Y.quo rfl rfl (by first | assumption | (unfold I64; (try dsimp only); omega) | grind) (by decide)).yd) ?_
        refine E.y rfl rfl (by decide) ((Y.as rfl).yd) ?_
        have jg := itN_lt i6n q11
        refine E.nil (E.bln (E.thn (Ent.drop ?_)))
        exact E.again (Back.refl _ _) (g + 1) ⟨frI (by first | exact itN_step1 q11 | exact itN_step2 q11 (.inl rfl) (by omega) | exact itN_step2 q11 (.inr rfl) (by omega)), frS (by first | exact itN_step1 q11 | exact itN_step2 q11 (.inl rfl) (by omega) | exact itN_step2 q11 (.inr rfl) (by omega)), rfl, trivial⟩ (.refl _) ⟨(show g + 1 ≤ 20 from by omega), (show True from by trivial)⟩ (show 20 - (g + 1) < 20 - g from by omega)
    · refine E.nil (E.thn (E.cf rfl (E.exit (E.the (E.the (E.blh (E.thn (E.seq (E.seq (E.region (l := [0]) rfl (E.y rfl rfl (by decide) ((Y.mv rfl).yd) (Ent.d (fun q27 => ?_) (fun q27 => ?_)))))))))))))
      · refine E.nil (E.thn (E.ct rfl (E.seq (E.region (l := [0, 1, 2]) rfl (E.y rfl rfl (by decide) ((Y.mv rfl).yd) ?_)))))
        refine E.y rfl rfl (by decide) ((Y.addS rfl rfl (by first | omega | (simp only [List.length_append, List.length_cons, List.length_nil] at *; omega))).yd) ?_
        refine E.y rfl rfl (by decide) ((Y.as rfl).yd) ?_
        exact E.nil (E.thn (E.ret (E.thr (F.r1 (Back.refl _ _) rfl rfl () trivial (by rw [show (textI n) = (([45]) ++ ((itN n g).2)) from (by rw [itN_end pk (by omega)]; exact (textI_neg q7 q27).symm)]; try rfl) (J := _) (.refl _) (.inl rfl)))))
      · refine E.nil (E.thn (E.cf rfl (E.skipc (E.thn (E.seq (E.region (l := [0, 1]) rfl (E.y rfl rfl (by decide) ((Y.mv rfl).yd) ?_)))))))
        refine E.y rfl rfl (by decide) ((Y.as rfl).yd) ?_
        exact E.nil (E.thn (E.ret (F.r1 (Back.refl _ _) rfl rfl () trivial (by rw [show (textI n) = ((itN n g).2) from (by rw [itN_end pk (by omega)]; exact (textI_pos q7 q27).symm)]; try rfl) (J := _) (.refl _) (.inl rfl))))
theorem t_impl_joined {a_l : Option Addr} {m_l c_l : Nat} {l : List Int} {by_ : List UInt8} (hz : l.length ≤ 1000000) (hb : by_.length ≤ 100) (hv : ∀ x ∈ l, 0 ≤ x ∧ x ≤ 9) : Tr Tryd.prog 36 [.slice a_l m_l c_l, strV by_] (fun w L => Ro w L eIs [.slice a_l m_l c_l] l) [] (κ := Unit) (fun k => True) (fun k => strV (Lib.join (l.map textI) by_)) (fun k => []) := by
  refine Tr.intro Tryd.func36 rfl (n := 24) rfl (by decide +kernel) (Nat.le_of_ble_eq_true rfl) (fr := [(0, .slice a_l m_l c_l), (1, strV by_)]) rfl fun w L hR => ?_
  have hl := hR
  obtain ⟨rfl, ll⟩ := hl.slen
  refine E.seq (E.region (l := [0]) rfl (E.y rfl rfl (by decide) ((Y.as rfl).yd) ?_))
  refine E.nil (E.thn (E.seq (E.region (l := [0, 1]) rfl (E.st rfl rfl (N.bsl (pvs := []) (cs := []) us_Ss ty_S rfl (by decide) (by decide) (fillZ rfl rfl) rfl (by decide)) (fun b8 _ => ?_)))))
  refine Ent.drop ?_
  refine E.y rfl rfl (by decide) ((Y.as rfl).yd) ?_
  refine E.nil (E.thn (E.seq (E.seq (E.region (l := [0, 1, 2]) rfl (E.y rfl rfl (by decide) ((Y.mv rfl).yd) ?_)))))
  refine E.y rfl rfl (by decide) ((Y.len us_Is rfl).yd) ?_
  refine E.y rfl rfl (by decide) ((Y.mv rfl).yd) ?_
  refine E.nil (E.thn (E.block (Ent.mkow (A := []) (Own.nil (E := Enc.str) (e := tS) (a := (some ⟨b8, 0, none⟩))) rfl ?_)))
  refine Ent.cv (congrArg (ow eSs [_]) (show [] = (l.take 0).map textI from by rfl)) ?_
  refine E.loop (κ := Nat × Option Addr × Nat × Nat) (fun g => g.1 ≤ l.length ∧ True) (fun g => [(1, strV by_), (5, .slice g.2.1 g.2.2.1 g.2.2.2), (9, .slice a_l l.length c_l), (10, .int .i64 (↑l.length : Int)), (11, .int .i64 (↑g.1 : Int))]) (fun g => [ow eSs [.slice g.2.1 g.2.2.1 g.2.2.2] ((l.take g.1).map textI)]) (fun g => l.length - g.1) (0, (some ⟨b8, 0, none⟩), 0, 0) ⟨Nat.zero_le _, by simp⟩ ⟨rfl, rfl, rfl, rfl, rfl, trivial⟩ (.refl _) (fun g pg => ?_)
  obtain ⟨g, aA0_0, mA0_0, cA0_0⟩ := g
  try dsimp only at pg
  show Ent _ _ _ [(1, strV by_), (5, .slice aA0_0 mA0_0 cA0_0), (9, .slice a_l l.length c_l), (10, .int .i64 (↑l.length : Int)), (11, .int .i64 (↑g : Int))] [ow eSs [.slice aA0_0 mA0_0 cA0_0] ((l.take g).map textI)] _
  obtain ⟨pk, pa⟩ := pg
  have jt := List.length_take_le g l
  refine Ent.lenow m0 fun eaA0_0 laA0_0 => ?_
  subst eaA0_0
  refine E.seq (E.region (l := [0]) rfl (E.y rfl rfl (by decide) ((Y.lss rfl rfl).yd) (Ent.d (fun q12 => ?_) (fun q12 => ?_))))
  · obtain ⟨eb13, eo13, ea13, ei13, eh13⟩ := hl.elemI g (by omega)
    refine E.nil (E.thn (E.seq (E.ct rfl (E.skipc (E.thn (E.seq (E.block (E.seq (E.region (l := [0, 1, 2]) rfl (E.y rfl rfl (by decide) ((Y.ix us_Is ty_I rfl ea13 rfl g rfl (by omega)).yd) ?_))))))))))
    refine E.y rfl rfl (by decide) (Y.ld1 ty_I rfl (eh13 _) rfl) ?_
    refine E.y rfl rfl (by decide) ((Y.as rfl).yd) ?_
    refine E.nil (E.thn (E.region (l := [0, 1, 2, 3, 4, 5]) rfl (E.y rfl rfl (by decide) ((Y.mv rfl).yd) ?_)))
    refine E.y rfl rfl (by decide) ((Y.mv rfl).yd) ?_
    refine E.st rfl rfl (N.call0 (t_impl_FormatInt (hv _ (List.getElem_mem (by omega)))) rfl rfl rfl (by decide) (fun w Lp hA => trivial)) (fun _ _ => ?_)
    refine E.st rfl rfl (N.bsl (pvs := [_]) (cs := [_]) us_Ss ty_S rfl (by decide) (by decide) (fillZ rfl rfl) rfl (by decide)) (fun b18 _ => ?_)
    refine Ent.p1 ?_
    refine E.st rfl rfl (N.push (E := Enc.str) (ex := textI l[g]) us_Ss ty_S rfl rfl rfl Own.str rfl (by first | omega | (simp only [List.length_map, List.length_take, List.length_append, List.length_drop, List.length_cons, List.length_nil]; omega)) (by first | omega | (simp only [List.length_map, List.length_take, List.length_append, List.length_drop, List.length_cons, List.length_nil]; omega)) (by decide)) (fun p19 _ => ?_)
    refine E.y rfl rfl (by decide) ((Y.as rfl).yd) ?_
    refine E.nil (E.bln (E.thn (E.region (l := [0, 1]) rfl (E.y rfl rfl (by decide) ((Y.add rfl rfl (by omega) (by omega)).yd) ?_))))
    refine E.y rfl rfl (by decide) ((Y.mv rfl).yd) ?_
    refine E.nil (E.thn (Ent.cv (congrArg (ow eSs [_]) (show ((l.take g).map textI) ++ [textI l[g]] = (l.take (g + 1)).map textI from by rw [List.take_succ_eq_append_getElem (show g < l.length by omega), List.map_append]; rfl)) ?_))
    exact E.again (Back.refl _ _) (g + 1, p19.1, (((l.take g).map textI).length + 1), p19.2) ⟨rfl, rfl, rfl, rfl, rfl, trivial⟩ (.refl _) ⟨(show g + 1 ≤ l.length from by omega), (show True from by grind [List.drop_eq_getElem_cons, List.drop_eq_nil_of_le, List.take_succ_eq_append_getElem, List.take_of_length_le])⟩ (show l.length - (g + 1) < l.length - g from by omega)
  · refine E.nil (E.thn (E.seq (E.cf rfl (E.exit (E.the (E.the (E.blh (E.thn (E.seq (E.region (l := [0, 1, 2, 3]) rfl (E.y rfl rfl (by decide) ((Y.mv rfl).yd) ?_)))))))))))
    refine E.y rfl rfl (by decide) ((Y.mv rfl).yd) ?_
    refine E.st rfl rfl (N.call0 (tr_join (by simp only [List.length_map, List.length_take]; omega) (Nat.le_trans (join_map_len (K := 21) (fun x => textI_len) (show (l.take g).length ≤ 1000000 by rw [List.length_take]; omega)) (by omega))) rfl rfl rfl (by decide) (fun w Lp hA => hA.ow m0)) (fun _ _ => ?_)
    refine E.y rfl rfl (by decide) ((Y.as rfl).yd) ?_
    exact E.nil (E.thn (E.ret (F.r1 (Back.refl _ _) rfl rfl () trivial (by rw [show (Lib.join (l.map textI) by_) = (Lib.join ((l.take g).map textI) by_) from (by rw [List.take_of_length_le (by omega)])]; try rfl) (J := _) (.refl _) (.inl rfl))))
theorem t_spec_l2List {a_l : Option Addr} {m_l c_l : Nat} {l : List Int} (hz : l.length ≤ 1000000) : Tr Tryd.prog 30 [.slice a_l m_l c_l] (fun w L => Ro w L eIs [.slice a_l m_l c_l] l) [] (κ := Unit) (fun k => True) (fun k => strV (Lib.join (l.map textI) [44])) (fun k => []) := by
  refine Tr.intro Tryd.func30 rfl (n := 23) rfl (by decide +kernel) (Nat.le_of_ble_eq_true rfl) (fr := [(0, .slice a_l m_l c_l)]) rfl fun w L hR => ?_
  have hl := hR
  obtain ⟨rfl, ll⟩ := hl.slen
  refine E.seq (E.region (l := [0]) rfl (E.y rfl rfl (by decide) ((Y.as rfl).yd) ?_))
  refine E.nil (E.thn (E.seq (E.region (l := [0]) rfl (E.y rfl rfl (by decide) ((Y.as rfl).yd) ?_))))
  refine E.nil (E.thn (E.seq (E.seq (E.region (l := [0]) rfl (E.y rfl rfl (by decide) ((Y.as rfl).yd) ?_)))))
  refine E.nil (E.thn (E.block (E.loop (κ := Nat) (fun g => g ≤ l.length ∧ True) (fun g => [(0, .slice a_l l.length c_l), (3, strV (Lib.join ((l.take g).map textI) [44])), (4, .int .i64 (↑g : Int))]) (fun g => []) (fun g => l.length - g) (0) ⟨Nat.zero_le _, by simp⟩ ⟨rfl, frS (by simp [Lib.join_nil]), rfl, trivial⟩ (.refl _) (fun g pg => ?_))))
  show Ent _ _ _ [(0, .slice a_l l.length c_l), (3, strV (Lib.join ((l.take g).map textI) [44])), (4, .int .i64 (↑g : Int))] [] _
  obtain ⟨pk, pa⟩ := pg
  have jl := join_take_len (f := textI) (K := 21) (l := l) (g := g) (n := 1000000) (B := 22000000) (sep := [44]) (fun x => textI_len) hz (by decide)
  refine E.seq (E.seq (E.region (l := [0, 1, 2, 3]) rfl (E.y rfl rfl (by decide) ((Y.mv rfl).yd) ?_)))
  refine E.y rfl rfl (by decide) ((Y.mv rfl).yd) ?_
  refine E.y rfl rfl (by decide) ((Y.len us_Is rfl).yd) ?_
  refine E.y rfl rfl (by decide) ((Y.lss rfl rfl).yd) (Ent.d (fun q8 => ?_) (fun q8 => ?_))
  · refine E.nil (E.thn (E.ct rfl (E.skipc (E.thn (E.seq (E.block (E.seq (E.seq (E.region (l := [0, 1]) rfl (E.y rfl rfl (by decide) ((Y.mv rfl).yd) ?_))))))))))
    refine E.y rfl rfl (by decide) ((Y.gtr rfl rfl).yd) (Ent.d (fun q12 => ?_) (fun q12 => ?_))
    · refine E.nil (E.thn (E.ct rfl (E.region (l := [0, 1, 2]) rfl (E.y rfl rfl (by decide) ((Y.mv rfl).yd) ?_))))
      refine E.y rfl rfl (by decide) ((Y.addS rfl rfl (by first | omega | (simp only [List.length_append, List.length_cons, List.length_nil] at *; omega))).yd) ?_
      refine E.y rfl rfl (by decide) ((Y.as rfl).yd) ?_
      refine E.nil (E.thn (E.region (l := [0, 1, 2, 3, 4, 5, 6, 7]) rfl (E.y rfl rfl (by decide) ((Y.mv rfl).yd) ?_)))
      refine E.y rfl rfl (by decide) ((Y.mv rfl).yd) ?_
      refine E.y rfl rfl (by decide) ((Y.mv rfl).yd) ?_
      obtain ⟨eb18, eo18, ea18, ei18, eh18⟩ := hl.elemI g (by omega)
      refine E.y rfl rfl (by decide) ((Y.ix us_Is ty_I rfl ea18 rfl g rfl (by omega)).yd) ?_
      refine E.y rfl rfl (by decide) (Y.ld1 ty_I rfl (eh18 _) rfl) ?_
      refine E.st rfl rfl (N.call0 t_spec_FormatInt rfl rfl rfl (by decide) (fun w Lp hA => ei18)) (fun _ _ => ?_)
      have ji := textI_len (n := l[g])
      refine E.y rfl rfl (by decide) ((Y.addS rfl rfl (by first | omega | (simp only [List.length_append, List.length_cons, List.length_nil] at *; omega))).yd) ?_
      refine E.y rfl rfl (by decide) ((Y.as rfl).yd) ?_
      refine E.nil (E.bln (E.thn (E.region (l := [0, 1, 2]) rfl (E.y rfl rfl (by decide) ((Y.mv rfl).yd) ?_))))
      refine E.y rfl rfl (by decide) ((Y.add rfl rfl (by omega) (by omega)).yd) ?_
      refine E.y rfl rfl (by decide) ((Y.as rfl).yd) ?_
      exact E.nil (E.thn (E.again (Back.refl _ _) (g + 1) ⟨rfl, frS (by first | exact join_step0 (f := textI) (by omega) (by omega) | exact join_step1 (f := textI) (by omega) (by omega)), rfl, trivial⟩ (.refl _) ⟨(show g + 1 ≤ l.length from by omega), (show True from by grind [List.drop_eq_getElem_cons, List.drop_eq_nil_of_le, List.take_succ_eq_append_getElem, List.take_of_length_le])⟩ (show l.length - (g + 1) < l.length - g from by omega)))
    · refine E.nil (E.thn (E.cf rfl (E.skipc (E.thn (E.region (l := [0, 1, 2, 3, 4, 5, 6, 7]) rfl (E.y rfl rfl (by decide) ((Y.mv rfl).yd) ?_))))))
      refine E.y rfl rfl (by decide) ((Y.mv rfl).yd) ?_
      refine E.y rfl rfl (by decide) ((Y.mv rfl).yd) ?_
      obtain ⟨eb18, eo18, ea18, ei18, eh18⟩ := hl.elemI g (by omega)
      refine E.y rfl rfl (by decide) ((Y.ix us_Is ty_I rfl ea18 rfl g rfl (by omega)).yd) ?_
      refine E.y rfl rfl (by decide) (Y.ld1 ty_I rfl (eh18 _) rfl) ?_
      refine E.st rfl rfl (N.call0 t_spec_FormatInt rfl rfl rfl (by decide) (fun w Lp hA => ei18)) (fun _ _ => ?_)
      have ji := textI_len (n := l[g])
      refine E.y rfl rfl (by decide) ((Y.addS rfl rfl (by first | omega | (simp only [List.length_append, List.length_cons, List.length_nil] at *; omega))).yd) ?_
      refine E.y rfl rfl (by decide) ((Y.as rfl).yd) ?_
      refine E.nil (E.bln (E.thn (E.region (l := [0, 1, 2]) rfl (E.y rfl rfl (by decide) ((Y.mv rfl).yd) ?_))))
      refine E.y rfl rfl (by decide) ((Y.add rfl rfl (by omega) (by omega)).yd) ?_
      refine E.y rfl rfl (by decide) ((Y.as rfl).yd) ?_
      exact E.nil (E.thn (E.again (Back.refl _ _) (g + 1) ⟨rfl, frS (by first | exact join_step0 (f := textI) (by omega) (by omega) | exact join_step1 (f := textI) (by omega) (by omega)), rfl, trivial⟩ (.refl _) ⟨(show g + 1 ≤ l.length from by omega), (show True from by grind [List.drop_eq_getElem_cons, List.drop_eq_nil_of_le, List.take_succ_eq_append_getElem, List.take_of_length_le])⟩ (show l.length - (g + 1) < l.length - g from by omega)))
  · refine E.nil (E.thn (E.cf rfl (E.exit (E.the (E.the (E.blh (E.thn (E.seq (E.region (l := [0, 1]) rfl (E.y rfl rfl (by decide) ((Y.mv rfl).yd) ?_))))))))))
    refine E.y rfl rfl (by decide) ((Y.as rfl).yd) ?_
    exact E.nil (E.thn (E.ret (F.r1 (Back.refl _ _) rfl rfl () trivial (by rw [show (Lib.join (l.map textI) [44]) = (Lib.join ((l.take g).map textI) [44]) from (by rw [List.take_of_length_le (by omega)])]; try rfl) (J := _) (.refl _) (.inl rfl))))
theorem t_impl_isRel {rel : Int} : Tr Tryd.prog 32 [.int .i64 rel] (fun w L => True) [] (κ := Unit) (fun k => True) (fun k => .bool (inR rel 0 2)) (fun k => []) := by
  refine Tr.intro Tryd.func32 rfl (n := 5) rfl (by decide +kernel) (Nat.le_of_ble_eq_true rfl) (fr := [(0, .int .i64 rel)]) rfl fun w L hR => ?_
  refine E.seq (E.region (l := [0]) rfl (E.y rfl rfl (by decide) ((Y.as rfl).yd) ?_))
  refine E.nil (E.thn (E.seq (E.region (l := [0, 1, 2]) rfl (E.y rfl rfl (by decide) ((Y.mv rfl).yd) ?_))))
  refine E.st rfl rfl (N.call0 t_impl_within rfl rfl rfl (by decide) (fun w Lp hA => trivial)) (fun _ _ => ?_)
  refine E.y rfl rfl (by decide) ((Y.as rfl).yd) ?_
  exact E.nil (E.thn (E.ret (F.r1 (Back.refl _ _) rfl rfl () trivial rfl (J := _) (.refl _) (.inl rfl))))
end Go.Proofs.YtlbfbeldhkcdiaaDoor
