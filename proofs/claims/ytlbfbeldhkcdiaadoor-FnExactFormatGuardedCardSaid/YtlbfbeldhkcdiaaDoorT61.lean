import Derived.Test.YtlbfbeldhkcdiaaDoorT60
import Derived.Test.YtlbfbeldhkcdiaaDoorT11
namespace Go.Proofs.YtlbfbeldhkcdiaaDoor
open Go.RowKit
set_option linter.unusedVariables false
set_option linter.unusedSimpArgs false
set_option maxHeartbeats 2000000
attribute [local irreducible] Nop Yd Yp Ent Has Tr FnP FnP2 Src listsF opnF opn1 opnR chainB
theorem t_Index_S {a_s : Option Addr} {m_s c_s : Nat} {s : List (List UInt8)} {v : List UInt8} : Tr Tryd.prog 65 [.slice a_s m_s c_s, strV v] (fun w L => Ro w L eSs [.slice a_s m_s c_s] s) [] (κ := Unit) (fun k => True) (fun k => .int .i64 (idxP (fun z => decide (v = z)) s)) (fun k => []) := by
  refine Tr.intro Tryd.func65 rfl (n := 19) rfl (by decide +kernel) (Nat.le_of_ble_eq_true rfl) (fr := [(0, .slice a_s m_s c_s), (1, strV v)]) rfl fun w L hR => ?_
  have hs := hR
  obtain ⟨rfl, ls⟩ := hs.slen
  refine E.seq (E.region (l := [0]) rfl (E.y rfl rfl (by decide) ((Y.as rfl).yd) ?_))
  refine E.nil (E.thn (E.seq (E.seq (E.region (l := [0, 1, 2]) rfl (E.y rfl rfl (by decide) ((Y.mv rfl).yd) ?_)))))
  refine E.y rfl rfl (by decide) ((Y.len us_Ss rfl).yd) ?_
  refine E.y rfl rfl (by decide) ((Y.mv rfl).yd) ?_
  refine E.nil (E.thn (E.block (E.loop (κ := Nat) (fun g => g ≤ s.length ∧ ∀ x ∈ s.take g, (fun z => decide (v = z)) x = false) (fun g => [(0, .slice a_s s.length c_s), (1, strV v), (7, .int .i64 (↑s.length : Int)), (8, .int .i64 (↑g : Int))]) (fun g => []) (fun g => s.length - g) 0 ⟨by omega, by simp⟩ ⟨rfl, rfl, rfl, rfl, trivial⟩ (.refl _) (fun g pg => ?_))))
  obtain ⟨pk, pa⟩ := pg
  refine E.seq (E.region (l := [0]) rfl (E.y rfl rfl (by decide) ((Y.lss rfl rfl).yd) (Ent.d (fun q9 => ?_) (fun q9 => ?_))))
  · refine E.nil (E.thn (E.seq (E.ct rfl (E.skipc (E.thn (E.seq (E.block (E.seq (E.region (l := [0, 1]) rfl (E.y rfl rfl (by decide) ((Y.mv rfl).yd) ?_))))))))))
    refine E.y rfl rfl (by decide) ((Y.as rfl).yd) ?_
    refine E.nil (E.thn (E.seq (E.region (l := [0, 1, 2, 3, 4, 5]) rfl (E.y rfl rfl (by decide) ((Y.mv rfl).yd) ?_))))
    refine E.y rfl rfl (by decide) ((Y.mv rfl).yd) ?_
    refine E.y rfl rfl (by decide) ((Y.mv rfl).yd) ?_
    obtain ⟨eb14, eo14, ea14, eh14⟩ := hs.elemS g (by omega)
    refine E.y rfl rfl (by decide) ((Y.ix us_Ss ty_S rfl ea14 rfl g rfl (by omega)).yd) ?_
    refine E.y rfl rfl (by decide) (Y.ld1 ty_S rfl (eh14 _) rfl) ?_
    refine E.y rfl rfl (by decide) ((Y.eqlS rfl rfl).yd) (Ent.d (fun q16 => ?_) (fun q16 => ?_))
    · refine E.nil (E.thn (E.ct rfl (E.seq (E.region (l := [0, 1]) rfl (E.y rfl rfl (by decide) ((Y.mv rfl).yd) ?_)))))
      refine E.y rfl rfl (by decide) ((Y.as rfl).yd) ?_
      exact E.nil (E.thn (E.ret (E.blr (E.thr (E.thr (E.blr (E.thr (F.r1 (Back.refl _ _) rfl rfl () trivial (congrArg (Value.int .i64) (by first | exact idxP_hit (by omega) pa (decide_eq_true q16) | exact idxP_miss (by omega) pa)) (J := _) (.refl _) (.inl rfl)))))))))
    · refine E.nil (E.thn (E.cf rfl (E.skipc (E.bln (E.thn (E.region (l := [0, 1]) rfl (E.y rfl rfl (by decide) ((Y.add rfl rfl (by omega) (by omega)).yd) ?_)))))))
      refine E.y rfl rfl (by decide) ((Y.mv rfl).yd) ?_
      exact E.nil (E.thn (E.again (Back.refl _ _) (g + 1) ⟨rfl, rfl, rfl, rfl, trivial⟩ (.refl _) ⟨by omega, take_step (by omega) pa (decide_eq_false q16)⟩ (by omega)))
  · refine E.nil (E.thn (E.seq (E.cf rfl (E.exit (E.the (E.the (E.blh (E.thn (E.seq (E.region (l := [0]) rfl (E.y rfl rfl (by decide) ((Y.as rfl).yd) ?_)))))))))))
    exact E.nil (E.thn (E.ret (F.r1 (Back.refl _ _) rfl rfl () trivial (congrArg (Value.int .i64) (by first | exact idxP_hit (by omega) pa (decide_eq_true q16) | exact idxP_miss (by omega) pa)) (J := _) (.refl _) (.inl rfl))))
theorem t_slices_Contains_string_string {a_s : Option Addr} {m_s c_s : Nat} {s : List (List UInt8)} {v : List UInt8} : Tr Tryd.prog 42 [.slice a_s m_s c_s, strV v] (fun w L => Ro w L eSs [.slice a_s m_s c_s] s) [] (κ := Unit) (fun k => True) (fun k => .bool (s.any (fun z => decide (v = z)))) (fun k => []) := by
  refine Tr.intro Tryd.func42 rfl (n := 9) rfl (by decide +kernel) (Nat.le_of_ble_eq_true rfl) (fr := [(0, .slice a_s m_s c_s), (1, strV v)]) rfl fun w L hR => ?_
  have hs := hR
  obtain ⟨rfl, ls⟩ := hs.slen
  refine E.seq (E.region (l := [0]) rfl (E.y rfl rfl (by decide) ((Y.as rfl).yd) ?_))
  refine E.nil (E.thn (E.seq (E.region (l := [0, 1, 2, 3, 4]) rfl (E.y rfl rfl (by decide) ((Y.mv rfl).yd) ?_))))
  refine E.y rfl rfl (by decide) ((Y.mv rfl).yd) ?_
  refine E.st rfl rfl (N.call0 t_Index_S rfl rfl rfl (by decide) (fun w Lp hA => hA.ro hs)) (fun _ _ => ?_)
  refine E.y rfl rfl (by decide) ((Y.geq rfl rfl).yd) ?_
  refine E.y rfl rfl (by decide) ((Y.as rfl).yd) ?_
  exact E.nil (E.thn (E.ret (F.r1 (Back.refl _ _) rfl rfl () trivial (congrArg Value.bool (by exact idxP_nonneg)) (J := _) (.refl _) (.inl rfl))))
theorem t_impl_termText {t : Int} (ht : okTerm t = true) : Tr Tryd.prog 86 [.int .i64 t] (fun w L => True) [] (κ := Unit) (fun k => True) (fun k => strV (textT t)) (fun k => []) := by
  refine Tr.intro Tryd.func86 rfl (n := 11) rfl (by decide +kernel) (Nat.le_of_ble_eq_true rfl) (fr := [(0, .int .i64 t)]) rfl fun w L hR => ?_
  refine E.seq (E.region (l := [0]) rfl (E.y rfl rfl (by decide) ((Y.as rfl).yd) ?_))
  refine E.nil (E.thn (E.seq (E.seq (E.region (l := [0, 1]) rfl (E.y rfl rfl (by decide) ((Y.mv rfl).yd) ?_)))))
  refine E.st rfl rfl (N.call0 t_impl_IsVar rfl rfl rfl (by decide) (fun w Lp hA => trivial)) (fun _ _ => (Ent.b (fun q4 => ?_) (fun q4 => ?_)))
  · have j4 : 10 ≤ t ∧ t ≤ 17 := by simpa [inR] using q4
    have j5 := textI_len (n := t - 10)
    refine E.nil (E.thn (E.ct rfl (E.seq (E.region (l := [0, 1, 2, 3, 4]) rfl (E.y rfl rfl (by decide) ((Y.mv rfl).yd) ?_)))))
    refine E.y rfl rfl (by decide) ((Y.sub rfl rfl (by omega) (by omega)).yd) ?_
    refine E.st rfl rfl (N.call0 (t_impl_FormatInt (by first | omega | assumption | (constructor <;> omega))) rfl rfl rfl (by decide) (fun w Lp hA => trivial)) (fun _ _ => ?_)
    refine E.y rfl rfl (by decide) ((Y.addS rfl rfl (by first | omega | (simp only [List.length_append, List.length_cons, List.length_nil] at *; omega))).yd) ?_
    refine E.y rfl rfl (by decide) ((Y.as rfl).yd) ?_
    exact E.nil (E.thn (E.ret (E.thr (F.r1 (Back.refl _ _) rfl rfl () trivial (by rw [show (textT t) = (([120]) ++ (textI (t - 10))) from (by rw [textT, if_pos q4])]; try rfl) (J := _) (.refl _) (.inl rfl)))))
  · have j5 := okTerm_val ht q4
    refine E.nil (E.thn (E.cf rfl (E.skipc (E.thn (E.seq (E.region (l := [0, 1, 2]) rfl (E.y rfl rfl (by decide) ((Y.mv rfl).yd) ?_)))))))
    refine E.st rfl rfl (N.call0 (t_impl_FormatInt (by first | omega | assumption | (constructor <;> omega))) rfl rfl rfl (by decide) (fun w Lp hA => trivial)) (fun _ _ => ?_)
    refine E.y rfl rfl (by decide) ((Y.as rfl).yd) ?_
    exact E.nil (E.thn (E.ret (F.r1 (Back.refl _ _) rfl rfl () trivial (by rw [show (textT t) = (textI t) from (by rw [textT, if_neg (by rw [q4]; decide)])]; try rfl) (J := _) (.refl _) (.inl rfl))))
theorem t_spec_l3Term {t : Int} : Tr Tryd.prog 80 [.int .i64 t] (fun w L => I64 t) [] (κ := Unit) (fun k => True) (fun k => strV (textT t)) (fun k => []) := by
  refine Tr.intro Tryd.func80 rfl (n := 11) rfl (by decide +kernel) (Nat.le_of_ble_eq_true rfl) (fr := [(0, .int .i64 t)]) rfl fun w L hR => ?_
  have i6t := hR
  refine E.seq (E.region (l := [0]) rfl (E.y rfl rfl (by decide) ((Y.as rfl).yd) ?_))
  refine E.nil (E.thn (E.seq (E.seq (E.region (l := [0, 1]) rfl (E.y rfl rfl (by decide) ((Y.mv rfl).yd) ?_)))))
  refine E.st rfl rfl (N.call0 t_spec_IsVar rfl rfl rfl (by decide) (fun w Lp hA => trivial)) (fun _ _ => (Ent.b (fun q4 => ?_) (fun q4 => ?_)))
  · have j4 : 10 ≤ t ∧ t ≤ 17 := by simpa [inR] using q4
    have j5 := textI_len (n := t - 10)
    refine E.nil (E.thn (E.ct rfl (E.seq (E.region (l := [0, 1, 2, 3, 4]) rfl (E.y rfl rfl (by decide) ((Y.mv rfl).yd) ?_)))))
    refine E.y rfl rfl (by decide) ((Y.sub rfl rfl (by omega) (by omega)).yd) ?_
    refine E.st rfl rfl (N.call0 t_spec_FormatInt rfl rfl rfl (by decide) (fun w Lp hA => (by first | assumption | (unfold I64; (try dsimp only); omega) | grind))) (fun _ _ => ?_)
    refine E.y rfl rfl (by decide) ((Y.addS rfl rfl (by first | omega | (simp only [List.length_append, List.length_cons, List.length_nil] at *; omega))).yd) ?_
    refine E.y rfl rfl (by decide) ((Y.as rfl).yd) ?_
    exact E.nil (E.thn (E.ret (E.thr (F.r1 (Back.refl _ _) rfl rfl () trivial (by rw [show (textT t) = (([120]) ++ (textI (t - 10))) from (by rw [textT, if_pos q4])]; try rfl) (J := _) (.refl _) (.inl rfl)))))
  · refine E.nil (E.thn (E.cf rfl (E.skipc (E.thn (E.seq (E.region (l := [0, 1, 2]) rfl (E.y rfl rfl (by decide) ((Y.mv rfl).yd) ?_)))))))
    refine E.st rfl rfl (N.call0 t_spec_FormatInt rfl rfl rfl (by decide) (fun w Lp hA => i6t)) (fun _ _ => ?_)
    refine E.y rfl rfl (by decide) ((Y.as rfl).yd) ?_
    exact E.nil (E.thn (E.ret (F.r1 (Back.refl _ _) rfl rfl () trivial (by rw [show (textT t) = (textI t) from (by rw [textT, if_neg (by rw [q4]; decide)])]; try rfl) (J := _) (.refl _) (.inl rfl))))
theorem t_impl_termsText {a_l : Option Addr} {m_l c_l : Nat} {l : List Int} (hz : l.length ≤ 1000) (hv : ∀ t ∈ l, okTerm t = true) : Tr Tryd.prog 64 [.slice a_l m_l c_l] (fun w L => Ro w L eIs [.slice a_l m_l c_l] l) [] (κ := Unit) (fun k => True) (fun k => strV (Lib.join (l.map textT) [44])) (fun k => []) := by
  refine Tr.intro Tryd.func64 rfl (n := 21) rfl (by decide +kernel) (Nat.le_of_ble_eq_true rfl) (fr := [(0, .slice a_l m_l c_l)]) rfl fun w L hR => ?_
  have hl := hR
  obtain ⟨rfl, ll⟩ := hl.slen
  refine E.seq (E.region (l := [0]) rfl (E.y rfl rfl (by decide) ((Y.as rfl).yd) ?_))
  refine E.nil (E.thn (E.seq (E.region (l := [0, 1]) rfl (E.st rfl rfl (N.bsl (pvs := []) (cs := []) us_Ss ty_S rfl (by decide) (by decide) (fillZ rfl rfl) rfl (by decide)) (fun b6 _ => ?_)))))
  refine Ent.drop ?_
  refine E.y rfl rfl (by decide) ((Y.as rfl).yd) ?_
  refine E.nil (E.thn (E.seq (E.seq (E.region (l := [0, 1, 2]) rfl (E.y rfl rfl (by decide) ((Y.mv rfl).yd) ?_)))))
  refine E.y rfl rfl (by decide) ((Y.len us_Is rfl).yd) ?_
  refine E.y rfl rfl (by decide) ((Y.mv rfl).yd) ?_
  refine E.nil (E.thn (E.block (Ent.mkow (A := []) (Own.nil (E := Enc.str) (e := tS) (a := (some ⟨b6, 0, none⟩))) rfl ?_)))
  refine Ent.cv (congrArg (ow eSs [_]) (show [] = (l.take 0).map textT from by rfl)) ?_
  refine E.loop (κ := Nat × Option Addr × Nat × Nat) (fun g => g.1 ≤ l.length ∧ True) (fun g => [(3, .slice g.2.1 g.2.2.1 g.2.2.2), (7, .slice a_l l.length c_l), (8, .int .i64 (↑l.length : Int)), (9, .int .i64 (↑g.1 : Int))]) (fun g => [ow eSs [.slice g.2.1 g.2.2.1 g.2.2.2] ((l.take g.1).map textT)]) (fun g => l.length - g.1) (0, (some ⟨b6, 0, none⟩), 0, 0) ⟨Nat.zero_le _, by simp⟩ ⟨rfl, rfl, rfl, rfl, trivial⟩ (.refl _) (fun g pg => ?_)
  obtain ⟨g, aA0_0, mA0_0, cA0_0⟩ := g
  try dsimp only at pg
  show Ent _ _ _ [(3, .slice aA0_0 mA0_0 cA0_0), (7, .slice a_l l.length c_l), (8, .int .i64 (↑l.length : Int)), (9, .int .i64 (↑g : Int))] [ow eSs [.slice aA0_0 mA0_0 cA0_0] ((l.take g).map textT)] _
  obtain ⟨pk, pa⟩ := pg
  have jt := List.length_take_le g l
  refine Ent.lenow m0 fun eaA0_0 laA0_0 => ?_
  subst eaA0_0
  refine E.seq (E.region (l := [0]) rfl (E.y rfl rfl (by decide) ((Y.lss rfl rfl).yd) (Ent.d (fun q10 => ?_) (fun q10 => ?_))))
  · obtain ⟨eb11, eo11, ea11, ei11, eh11⟩ := hl.elemI g (by omega)
    refine E.nil (E.thn (E.seq (E.ct rfl (E.skipc (E.thn (E.seq (E.block (E.seq (E.region (l := [0, 1, 2]) rfl (E.y rfl rfl (by decide) ((Y.ix us_Is ty_I rfl ea11 rfl g rfl (by omega)).yd) ?_))))))))))
    refine E.y rfl rfl (by decide) (Y.ld1 ty_I rfl (eh11 _) rfl) ?_
    refine E.y rfl rfl (by decide) ((Y.as rfl).yd) ?_
    refine E.nil (E.thn (E.region (l := [0, 1, 2, 3, 4, 5]) rfl (E.y rfl rfl (by decide) ((Y.mv rfl).yd) ?_)))
    refine E.y rfl rfl (by decide) ((Y.mv rfl).yd) ?_
    refine E.st rfl rfl (N.call0 (t_impl_termText (hv _ (List.getElem_mem (by omega)))) rfl rfl rfl (by decide) (fun w Lp hA => trivial)) (fun _ _ => ?_)
    refine E.st rfl rfl (N.bsl (pvs := [_]) (cs := [_]) us_Ss ty_S rfl (by decide) (by decide) (fillZ rfl rfl) rfl (by decide)) (fun b16 _ => ?_)
    refine Ent.p1 ?_
    refine E.st rfl rfl (N.push (E := Enc.str) (ex := textT l[g]) us_Ss ty_S rfl rfl rfl Own.str rfl (by first | omega | (simp only [List.length_map, List.length_take, List.length_append, List.length_drop, List.length_cons, List.length_nil]; omega)) (by first | omega | (simp only [List.length_map, List.length_take, List.length_append, List.length_drop, List.length_cons, List.length_nil]; omega)) (by decide)) (fun p17 _ => ?_)
    refine E.y rfl rfl (by decide) ((Y.as rfl).yd) ?_
    refine E.nil (E.bln (E.thn (E.region (l := [0, 1]) rfl (E.y rfl rfl (by decide) ((Y.add rfl rfl (by omega) (by omega)).yd) ?_))))
    refine E.y rfl rfl (by decide) ((Y.mv rfl).yd) ?_
    refine E.nil (E.thn (Ent.cv (congrArg (ow eSs [_]) (show ((l.take g).map textT) ++ [textT l[g]] = (l.take (g + 1)).map textT from by rw [List.take_succ_eq_append_getElem (by omega), List.map_append]; rfl)) ?_))
    exact E.again (Back.refl _ _) (g + 1, p17.1, (((l.take g).map textT).length + 1), p17.2) ⟨rfl, rfl, rfl, rfl, trivial⟩ (.refl _) ⟨(show g + 1 ≤ l.length from by omega), (show True from by grind [List.drop_eq_getElem_cons, List.drop_eq_nil_of_le, List.take_succ_eq_append_getElem, List.take_of_length_le])⟩ (show l.length - (g + 1) < l.length - g from by omega)
  · refine E.nil (E.thn (E.seq (E.cf rfl (E.exit (E.the (E.the (E.blh (E.thn (E.seq (E.region (l := [0, 1, 2]) rfl (E.y rfl rfl (by decide) ((Y.mv rfl).yd) ?_)))))))))))
    refine E.st rfl rfl (N.call0 (tr_join (by simp only [List.length_map, List.length_take]; omega) (Nat.le_trans (join_map_len (K := 22) (fun x => textT_len) (show _ ≤ 1000 by (try rw [List.length_take]); omega)) (by decide))) rfl rfl rfl (by decide) (fun w Lp hA => hA.ow m0)) (fun _ _ => ?_)
    refine E.y rfl rfl (by decide) ((Y.as rfl).yd) ?_
    exact E.nil (E.thn (E.ret (F.r1 (Back.refl _ _) rfl rfl () trivial (by rw [show (Lib.join (l.map textT) [44]) = (Lib.join ((l.take g).map textT) ([44])) from (by rw [List.take_of_length_le (by omega)])]; try rfl) (J := _) (.refl _) (.inl rfl))))
theorem t_spec_l3Terms {a_l : Option Addr} {m_l c_l : Nat} {l : List Int} (hz : l.length ≤ 1000) : Tr Tryd.prog 60 [.slice a_l m_l c_l] (fun w L => Ro w L eIs [.slice a_l m_l c_l] l) [] (κ := Unit) (fun k => True) (fun k => strV (Lib.join (l.map textT) [44])) (fun k => []) := by
  refine Tr.intro Tryd.func60 rfl (n := 23) rfl (by decide +kernel) (Nat.le_of_ble_eq_true rfl) (fr := [(0, .slice a_l m_l c_l)]) rfl fun w L hR => ?_
  have hl := hR
  obtain ⟨rfl, ll⟩ := hl.slen
  refine E.seq (E.region (l := [0]) rfl (E.y rfl rfl (by decide) ((Y.as rfl).yd) ?_))
  refine E.nil (E.thn (E.seq (E.region (l := [0]) rfl (E.y rfl rfl (by decide) ((Y.as rfl).yd) ?_))))
  refine E.nil (E.thn (E.seq (E.seq (E.region (l := [0]) rfl (E.y rfl rfl (by decide) ((Y.as rfl).yd) ?_)))))
  refine E.nil (E.thn (E.block (E.loop (κ := Nat) (fun g => g ≤ l.length ∧ True) (fun g => [(0, .slice a_l l.length c_l), (3, strV (Lib.join ((l.take g).map textT) [44])), (4, .int .i64 (↑g : Int))]) (fun g => []) (fun g => l.length - g) (0) ⟨Nat.zero_le _, by simp⟩ ⟨rfl, frS (by simp [Lib.join_nil]), rfl, trivial⟩ (.refl _) (fun g pg => ?_))))
  show Ent _ _ _ [(0, .slice a_l l.length c_l), (3, strV (Lib.join ((l.take g).map textT) [44])), (4, .int .i64 (↑g : Int))] [] _
  obtain ⟨pk, pa⟩ := pg
  have jl := join_take_len (f := textT) (K := 22) (l := l) (g := g) (n := 1000) (B := 23000) (sep := [44]) (fun x => textT_len) hz (by decide)
  refine E.seq (E.seq (E.region (l := [0, 1, 2, 3]) rfl (E.y rfl rfl (by decide) ((Y.mv rfl).yd) ?_)))
  refine E.y rfl rfl (by decide) ((Y.mv rfl).yd) ?_
  refine E.y rfl rfl (by decide) ((Y.len us_Is rfl).yd) ?_
  refine E.y rfl rfl (by decide) ((Y.lss rfl rfl).yd) (Ent.d (fun q8 => ?_) (fun q8 => ?_))
  · refine E.nil (E.thn (E.ct rfl (E.skipc (E.thn (E.seq (E.block (E.seq (E.seq (E.region (l := [0, 1]) rfl (E.y rfl rfl (by decide) ((Y.mv rfl).yd) ?_))))))))))
    refine E.y rfl rfl (by decide) ((Y.gtr rfl rfl).yd) (Ent.d (fun q12 => ?_) (fun q12 => ?_))
    · refine E.nil (E.thn (E.ct rfl (E.region (l := [0, 1, 2]) rfl (E.y rfl rfl (by decide) ((Y.mv rfl).yd) ?_))))
      refine E.y rfl rfl (by decide) ((Y.addS rfl rfl (by first | omega | (simp only [List.length_append, List.length_cons, List.length_nil] at *; omega))).yd) ?_
      refine E.y rfl rfl (by decide) ((Y.as rfl).yd) ?_
      refine E.nil (E.thn (E.region (l := [0, 1, 2, 3, 4, 5, 6, 7]) rfl (E.y rfl rfl (by decide) ((Y.mv rfl).yd) ?_)))
      refine E.y rfl rfl (by decide) ((Y.mv rfl).yd) ?_
      refine E.y rfl rfl (by decide) ((Y.mv rfl).yd) ?_
      obtain ⟨eb18, eo18, ea18, ei18, eh18⟩ := hl.elemI g (by omega)
      refine E.y rfl rfl (by decide) ((Y.ix us_Is ty_I rfl ea18 rfl g rfl (by omega)).yd) ?_
      refine E.y rfl rfl (by decide) (Y.ld1 ty_I rfl (eh18 _) rfl) ?_
      refine E.st rfl rfl (N.call0 t_spec_l3Term rfl rfl rfl (by decide) (fun w Lp hA => ei18)) (fun _ _ => ?_)
      have ji := textT_len (t := l[g])
      refine E.y rfl rfl (by decide) ((Y.addS rfl rfl (by first | omega | (simp only [List.length_append, List.length_cons, List.length_nil] at *; omega))).yd) ?_
      refine E.y rfl rfl (by decide) ((Y.as rfl).yd) ?_
      refine E.nil (E.bln (E.thn (E.region (l := [0, 1, 2]) rfl (E.y rfl rfl (by decide) ((Y.mv rfl).yd) ?_))))
      refine E.y rfl rfl (by decide) ((Y.add rfl rfl (by omega) (by omega)).yd) ?_
      refine E.y rfl rfl (by decide) ((Y.as rfl).yd) ?_
      exact E.nil (E.thn (E.again (Back.refl _ _) (g + 1) ⟨rfl, frS (by first | exact join_step0 (f := textT) (by omega) (by omega) | exact join_step1 (f := textT) (by omega) (by omega)), rfl, trivial⟩ (.refl _) ⟨(show g + 1 ≤ l.length from by omega), (show True from by grind [List.drop_eq_getElem_cons, List.drop_eq_nil_of_le, List.take_succ_eq_append_getElem, List.take_of_length_le])⟩ (show l.length - (g + 1) < l.length - g from by omega)))
    · refine E.nil (E.thn (E.cf rfl (E.skipc (E.thn (E.region (l := [0, 1, 2, 3, 4, 5, 6, 7]) rfl (E.y rfl rfl (by decide) ((Y.mv rfl).yd) ?_))))))
      refine E.y rfl rfl (by decide) ((Y.mv rfl).yd) ?_
      refine E.y rfl rfl (by decide) ((Y.mv rfl).yd) ?_
      obtain ⟨eb18, eo18, ea18, ei18, eh18⟩ := hl.elemI g (by omega)
      refine E.y rfl rfl (by decide) ((Y.ix us_Is ty_I rfl ea18 rfl g rfl (by omega)).yd) ?_
      refine E.y rfl rfl (by decide) (Y.ld1 ty_I rfl (eh18 _) rfl) ?_
      refine E.st rfl rfl (N.call0 t_spec_l3Term rfl rfl rfl (by decide) (fun w Lp hA => ei18)) (fun _ _ => ?_)
      have ji := textT_len (t := l[g])
      refine E.y rfl rfl (by decide) ((Y.addS rfl rfl (by first | omega | (simp only [List.length_append, List.length_cons, List.length_nil] at *; omega))).yd) ?_
      refine E.y rfl rfl (by decide) ((Y.as rfl).yd) ?_
      refine E.nil (E.bln (E.thn (E.region (l := [0, 1, 2]) rfl (E.y rfl rfl (by decide) ((Y.mv rfl).yd) ?_))))
      refine E.y rfl rfl (by decide) ((Y.add rfl rfl (by omega) (by omega)).yd) ?_
      refine E.y rfl rfl (by decide) ((Y.as rfl).yd) ?_
      exact E.nil (E.thn (E.again (Back.refl _ _) (g + 1) ⟨rfl, frS (by first | exact join_step0 (f := textT) (by omega) (by omega) | exact join_step1 (f := textT) (by omega) (by omega)), rfl, trivial⟩ (.refl _) ⟨(show g + 1 ≤ l.length from by omega), (show True from by grind [List.drop_eq_getElem_cons, List.drop_eq_nil_of_le, List.take_succ_eq_append_getElem, List.take_of_length_le])⟩ (show l.length - (g + 1) < l.length - g from by omega)))
  · refine E.nil (E.thn (E.cf rfl (E.exit (E.the (E.the (E.blh (E.thn (E.seq (E.region (l := [0, 1]) rfl (E.y rfl rfl (by decide) ((Y.mv rfl).yd) ?_))))))))))
    refine E.y rfl rfl (by decide) ((Y.as rfl).yd) ?_
    exact E.nil (E.thn (E.ret (F.r1 (Back.refl _ _) rfl rfl () trivial (by rw [show (Lib.join (l.map textT) [44]) = (Lib.join ((l.take g).map textT) [44]) from (by rw [List.take_of_length_le (by omega)])]; try rfl) (J := _) (.refl _) (.inl rfl))))
theorem t_impl_FormatAtom {a_Rel : Int} {a_a_Terms : Option Addr} {m_a_Terms c_a_Terms : Nat} {a_Terms : List Int} : Tr Tryd.prog 48 [.agg #[.int .i64 a_Rel, .slice a_a_Terms m_a_Terms c_a_Terms]] (fun w L => I64 a_Rel ∧ Ro w L eIs [.slice a_a_Terms m_a_Terms c_a_Terms] a_Terms) [] (κ := Unit) (fun k => True) (fun k => strV (textA (a_Rel, a_Terms))) (fun k => []) := by
  refine Tr.intro Tryd.func48 rfl (n := 30) rfl (by decide +kernel) (Nat.le_of_ble_eq_true rfl) (fr := [(0, .agg #[.int .i64 a_Rel, .slice a_a_Terms m_a_Terms c_a_Terms])]) rfl fun w L hR => ?_
  obtain ⟨i6a_Rel, ha_Terms⟩ := hR
  obtain ⟨rfl, la_Terms⟩ := ha_Terms.slen
  refine E.seq (E.region (l := [0, 1]) rfl (E.st rfl rfl (N.box (cs := [_, _]) rfl (by decide) rfl) (fun b1 _ => ?_)))
  refine E.y rfl rfl (by decide) ((Y.as rfl).yd) ?_
  refine E.nil (E.thn (E.seq (E.seq (E.region (l := [0, 1, 2, 3, 4, 5, 6, 7, 8, 9, 10, 11, 12, 13, 14, 15, 16]) rfl (E.y rfl rfl (by decide) ((Y.fld fo_Atom_0 ty_I (by decide) rfl).yd) ?_)))))
  refine E.y rfl rfl (by decide) (Y.ld1 ty_I rfl ((Has.pt m0).sub (cs' := [_]) 0 rfl) rfl) ?_
  refine E.st rfl rfl (N.call0 t_impl_isRel rfl rfl rfl (by decide) (fun w Lp hA => trivial)) (fun _ _ => (Ent.b (fun q5 => ?_) (fun q5 => ?_)))
  · refine E.y rfl rfl (by decide) ((Y.not (b := true) rfl).yd) ?_
    refine E.y rfl rfl (by decide) ((Y.mv rfl).yd) ?_
    refine E.y rfl rfl (by decide) ((Y.fld fo_Atom_1 ty_Is (by decide) rfl).yd) ?_
    refine E.y rfl rfl (by decide) (Y.ld1 ty_Is rfl ((Has.pt m0).sub (cs' := [_]) 1 rfl) rfl) ?_
    refine E.y rfl rfl (by decide) ((Y.len us_Is rfl).yd) ?_
    refine E.st rfl rfl (N.call0 t_impl_within rfl rfl rfl (by decide) (fun w Lp hA => trivial)) (fun _ _ => (Ent.b (fun q11 => ?_) (fun q11 => ?_)))
    · refine E.y rfl rfl (by decide) ((Y.not (b := true) rfl).yd) ?_
      refine E.y rfl rfl (by decide) ((Y.pkf rfl rfl).yd) ?_
      refine E.y rfl rfl (by decide) ((Y.mv rfl).yd) ?_
      refine E.y rfl rfl (by decide) ((Y.fld fo_Atom_1 ty_Is (by decide) rfl).yd) ?_
      refine E.y rfl rfl (by decide) (Y.ld1 ty_Is rfl ((Has.pt m0).sub (cs' := [_]) 1 rfl) rfl) ?_
      refine E.st rfl rfl (N.call0 t_impl_areTerms rfl rfl rfl (by decide) (fun w Lp hA => hA.ro ha_Terms)) (fun _ _ => (Ent.b (fun q17 => ?_) (fun q17 => ?_)))
      · have jl3 : a_Terms.length ≤ 1000 := by simp only [inR, decide_eq_true_eq] at q11; omega
        have j1 := textI_len (n := a_Rel)
        have j3 := join_map_len (f := textT) (K := 22) (l := a_Terms) (n := 3) (sep := [44]) (fun x => textT_len) (by simp only [inR, decide_eq_true_eq] at q11; omega)
        have jF : 0 ≤ a_Rel ∧ a_Rel ≤ 9 := by simp only [inR, decide_eq_true_eq] at q5; omega
        refine E.y rfl rfl (by decide) ((Y.not (b := true) rfl).yd) ?_
        refine E.y rfl rfl (by decide) ((Y.pkf rfl rfl).yd) ?_
        refine E.nil (E.thn (E.cf rfl (E.skipc (E.thn (E.seq (D.region (fun j => true) mixed (D.yp 0 rfl rfl (by decide) (Y.fld fo_Atom_0 ty_I (by decide) rfl) (by kernel_rfl) ?_)))))))
        refine D.y 1 rfl rfl (by decide) (Y.ld1 ty_I rfl ((Has.pt m0).sub (cs' := [_]) 0 rfl) rfl) (by kernel_rfl) ?_
        refine D.yp 5 rfl rfl (by decide) (Y.fld fo_Atom_1 ty_Is (by decide) rfl) (by kernel_rfl) ?_
        refine D.y 6 rfl rfl (by decide) (Y.ld1 ty_Is rfl ((Has.pt m0).sub (cs' := [_]) 1 rfl) rfl) (by kernel_rfl) ?_
        refine D.st 2 rfl rfl (by kernel_rfl) (fun _ => rfl) (N.call0 (t_impl_FormatInt jF) rfl rfl rfl (by decide) (fun w Lp hA => trivial)) (fun _ _ => ?_)
        refine D.yp 3 rfl rfl (by decide) (Y.addS rfl rfl (by first | omega | (simp only [List.length_append, List.length_cons, List.length_nil] at *; omega))) (by kernel_rfl) ?_
        refine D.yp 4 rfl rfl (by decide) (Y.addS rfl rfl (by first | omega | (simp only [List.length_append, List.length_cons, List.length_nil] at *; omega))) (by kernel_rfl) ?_
        refine D.st 7 rfl rfl (by kernel_rfl) (fun _ => rfl) (N.call0 (t_impl_termsText jl3 (tm_all q17)) rfl rfl rfl (by decide) (fun w Lp hA => hA.ro ha_Terms)) (fun _ _ => ?_)
        refine D.yp 8 rfl rfl (by decide) (Y.addS rfl rfl (by first | omega | (simp only [List.length_append, List.length_cons, List.length_nil] at *; omega))) (by kernel_rfl) ?_
        refine D.yp 9 rfl rfl (by decide) (Y.addS rfl rfl (by first | omega | (simp only [List.length_append, List.length_cons, List.length_nil] at *; omega))) (by kernel_rfl) ?_
        refine D.yp 10 rfl rfl (by decide) (Y.as rfl) (by kernel_rfl) ?_
        exact D.done (by kernel_rfl) (E.thn (E.ret (F.r1 (Back.refl _ _) rfl rfl () trivial (by rw [show (textA (a_Rel, a_Terms)) = ((((([114]) ++ (textI a_Rel)) ++ ([40])) ++ (Lib.join (a_Terms.map textT) [44])) ++ ([41])) from (by rw [textA, q5, q11, q17]; rfl)]; try rfl) (J := _) (.refl _) (.inl rfl))))
      · refine E.y rfl rfl (by decide) ((Y.not (b := false) rfl).yd) ?_
        refine E.y rfl rfl (by decide) ((Y.pkf rfl rfl).yd) ?_
        refine E.nil (E.thn (E.ct rfl (E.seq (E.region (l := [0]) rfl (E.y rfl rfl (by decide) ((Y.as rfl).yd) ?_)))))
        exact E.nil (E.thn (E.ret (E.thr (F.r1 (Back.refl _ _) rfl rfl () trivial (by rw [show (textA (a_Rel, a_Terms)) = ([]) from (by rw [textA, q5, q11, q17]; rfl)]; try rfl) (J := _) (.refl _) (.inl rfl)))))
    · refine E.y rfl rfl (by decide) ((Y.not (b := false) rfl).yd) ?_
      refine E.y rfl rfl (by decide) ((Y.pkf rfl rfl).yd) ?_
      refine E.y rfl rfl (by decide) ((Y.mv rfl).yd) ?_
      refine E.skip rfl rfl rfl ?_
      refine E.skip rfl rfl rfl ?_
      refine E.skip rfl rfl rfl ?_
      refine E.skip rfl rfl rfl ?_
      refine E.y rfl rfl (by decide) ((Y.pkt rfl rfl).yd) ?_
      refine E.nil (E.thn (E.ct rfl (E.seq (E.region (l := [0]) rfl (E.y rfl rfl (by decide) ((Y.as rfl).yd) ?_)))))
      exact E.nil (E.thn (E.ret (E.thr (F.r1 (Back.refl _ _) rfl rfl () trivial (by rw [show (textA (a_Rel, a_Terms)) = ([]) from (by rw [textA, q5, q11]; rfl)]; try rfl) (J := _) (.refl _) (.inl rfl)))))
  · refine E.y rfl rfl (by decide) ((Y.not (b := false) rfl).yd) ?_
    refine E.y rfl rfl (by decide) ((Y.mv rfl).yd) ?_
    refine E.skip rfl rfl rfl ?_
    refine E.skip rfl rfl rfl ?_
    refine E.skip rfl rfl rfl ?_
    refine E.skip rfl rfl rfl ?_
    refine E.skip rfl rfl rfl ?_
    refine E.y rfl rfl (by decide) ((Y.pkt rfl rfl).yd) ?_
    refine E.y rfl rfl (by decide) ((Y.mv rfl).yd) ?_
    refine E.skip rfl rfl rfl ?_
    refine E.skip rfl rfl rfl ?_
    refine E.skip rfl rfl rfl ?_
    refine E.skip rfl rfl rfl ?_
    refine E.y rfl rfl (by decide) ((Y.pkt rfl rfl).yd) ?_
    refine E.nil (E.thn (E.ct rfl (E.seq (E.region (l := [0]) rfl (E.y rfl rfl (by decide) ((Y.as rfl).yd) ?_)))))
    exact E.nil (E.thn (E.ret (E.thr (F.r1 (Back.refl _ _) rfl rfl () trivial (by rw [show (textA (a_Rel, a_Terms)) = ([]) from (by rw [textA, q5]; rfl)]; try rfl) (J := _) (.refl _) (.inl rfl)))))
theorem t_spec_FormatAtom {a_Rel : Int} {a_a_Terms : Option Addr} {m_a_Terms c_a_Terms : Nat} {a_Terms : List Int} : Tr Tryd.prog 46 [.agg #[.int .i64 a_Rel, .slice a_a_Terms m_a_Terms c_a_Terms]] (fun w L => I64 a_Rel ∧ Ro w L eIs [.slice a_a_Terms m_a_Terms c_a_Terms] a_Terms) [] (κ := Unit) (fun k => True) (fun k => strV (textA (a_Rel, a_Terms))) (fun k => []) := by
  refine Tr.intro Tryd.func46 rfl (n := 39) rfl (by decide +kernel) (Nat.le_of_ble_eq_true rfl) (fr := [(0, .agg #[.int .i64 a_Rel, .slice a_a_Terms m_a_Terms c_a_Terms])]) rfl fun w L hR => ?_
  obtain ⟨i6a_Rel, ha_Terms⟩ := hR
  obtain ⟨rfl, la_Terms⟩ := ha_Terms.slen
  refine E.seq (E.region (l := [0, 1]) rfl (E.st rfl rfl (N.box (cs := [_, _]) rfl (by decide) rfl) (fun b1 _ => ?_)))
  refine E.y rfl rfl (by decide) ((Y.as rfl).yd) ?_
  refine E.nil (E.thn (E.seq (E.seq (E.region (l := [0, 1, 2, 3, 4, 5, 6, 7, 8, 9, 10]) rfl (E.y rfl rfl (by decide) ((Y.fld fo_Atom_0 ty_I (by decide) rfl).yd) ?_)))))
  refine E.y rfl rfl (by decide) (Y.ld1 ty_I rfl ((Has.pt m0).sub (cs' := [_]) 0 rfl) rfl) ?_
  refine E.st rfl rfl (N.call0 t_spec_l1In rfl rfl rfl (by decide) (fun w Lp hA => trivial)) (fun _ _ => (Ent.b (fun q6 => ?_) (fun q6 => ?_)))
  · refine E.y rfl rfl (by decide) ((Y.not (b := true) rfl).yd) ?_
    refine E.y rfl rfl (by decide) ((Y.mv rfl).yd) ?_
    refine E.y rfl rfl (by decide) ((Y.fld fo_Atom_1 ty_Is (by decide) rfl).yd) ?_
    refine E.y rfl rfl (by decide) (Y.ld1 ty_Is rfl ((Has.pt m0).sub (cs' := [_]) 1 rfl) rfl) ?_
    refine E.y rfl rfl (by decide) ((Y.len us_Is rfl).yd) ?_
    refine E.st rfl rfl (N.call0 t_spec_l1In rfl rfl rfl (by decide) (fun w Lp hA => trivial)) (fun _ _ => (Ent.b (fun q12 => ?_) (fun q12 => ?_)))
    · have jl3 : a_Terms.length ≤ 1000 := by simp only [inR, decide_eq_true_eq] at q12; omega
      have j1 := textI_len (n := a_Rel)
      have j3 := join_map_len (f := textT) (K := 22) (l := a_Terms) (n := 3) (sep := [44]) (fun x => textT_len) (by simp only [inR, decide_eq_true_eq] at q12; omega)
      refine E.y rfl rfl (by decide) ((Y.not (b := true) rfl).yd) ?_
      refine E.y rfl rfl (by decide) ((Y.pkf rfl rfl).yd) ?_
      refine E.nil (E.thn (E.cf rfl (E.skipc (E.thn (E.seq (E.seq (E.region (l := [0]) rfl (E.y rfl rfl (by decide) ((Y.as rfl).yd) ?_))))))))
      refine E.nil (E.thn (E.block (E.loop (κ := Nat) (fun g => g ≤ a_Terms.length ∧ (a_Terms.any (fun t => !okTerm t)) = ((a_Terms.drop g).any (fun t => !okTerm t))) (fun g => [(1, .pointer (some ⟨b1, 0, none⟩)), (3, .int .i64 (↑g : Int))]) (fun g => [pt b1 83 [.int .i64 a_Rel, .slice a_a_Terms a_Terms.length c_a_Terms]]) (fun g => a_Terms.length - g) 0 ⟨Nat.zero_le _, by rfl⟩ ⟨rfl, rfl, trivial⟩ (.refl _) (fun g pg => ?_))))
      obtain ⟨pk, pa⟩ := pg
      refine E.seq (E.seq (E.region (l := [0, 1, 2, 3, 4]) rfl (E.y rfl rfl (by decide) ((Y.mv rfl).yd) ?_)))
      refine E.y rfl rfl (by decide) ((Y.fld fo_Atom_1 ty_Is (by decide) rfl).yd) ?_
      refine E.y rfl rfl (by decide) (Y.ld1 ty_Is rfl ((Has.pt m0).sub (cs' := [_]) 1 rfl) rfl) ?_
      refine E.y rfl rfl (by decide) ((Y.len us_Is rfl).yd) ?_
      refine E.y rfl rfl (by decide) ((Y.lss rfl rfl).yd) (Ent.d (fun q19 => ?_) (fun q19 => ?_))
      · refine E.nil (E.thn (E.ct rfl (E.skipc (E.thn (E.seq (E.block (E.seq (E.region (l := [0, 1, 2, 3, 4, 5, 6]) rfl (E.y rfl rfl (by decide) ((Y.fld fo_Atom_1 ty_Is (by decide) rfl).yd) ?_)))))))))
        refine E.y rfl rfl (by decide) (Y.ld1 ty_Is rfl ((Has.pt m0).sub (cs' := [_]) 1 rfl) rfl) ?_
        refine E.y rfl rfl (by decide) ((Y.mv rfl).yd) ?_
        obtain ⟨eb25, eo25, ea25, ei25, eh25⟩ := ha_Terms.elemI g (by omega)
        refine E.y rfl rfl (by decide) ((Y.ix us_Is ty_I rfl ea25 rfl g rfl (by omega)).yd) ?_
        refine E.y rfl rfl (by decide) (Y.ld1 ty_I rfl (eh25 _) rfl) ?_
        refine E.st rfl rfl (N.call0 t_spec_IsTerm rfl rfl rfl (by decide) (fun w Lp hA => trivial)) (fun _ _ => (Ent.b (fun q27 => ?_) (fun q27 => ?_)))
        · refine E.y rfl rfl (by decide) ((Y.not (b := true) rfl).yd) ?_
          refine E.nil (E.thn (E.cf rfl (E.skipc (E.bln (E.thn (E.region (l := [0, 1, 2]) rfl (E.y rfl rfl (by decide) ((Y.mv rfl).yd) ?_)))))))
          refine E.y rfl rfl (by decide) ((Y.add rfl rfl (by omega) (by omega)).yd) ?_
          refine E.y rfl rfl (by decide) ((Y.as rfl).yd) ?_
          exact E.nil (E.thn (E.again (Back.refl _ _) (g + 1) ⟨rfl, rfl, trivial⟩ (.refl _) ⟨by omega, by rw [pa]; exact tm_step (by omega) q27⟩ (by omega)))
        · refine E.y rfl rfl (by decide) ((Y.not (b := false) rfl).yd) ?_
          refine E.nil (E.thn (E.ct rfl (E.seq (E.region (l := [0]) rfl (E.y rfl rfl (by decide) ((Y.as rfl).yd) ?_)))))
          exact E.nil (E.thn (E.ret (E.blr (E.thr (E.thr (E.blr (E.thr (F.r1 (Back.refl _ _) rfl rfl () trivial (by rw [show (textA (a_Rel, a_Terms)) = ([]) from (by rw [textA, q6, q12, pa, tm_no (by omega) q27]; rfl)]; try rfl) (J := _) (.refl _) (.inl rfl)))))))))
      · refine E.nil (E.thn (E.cf rfl (E.exit (E.the (E.the (E.blh (E.thn (E.seq (D.region (fun j => true) mixed (D.yp 0 rfl rfl (by decide) (Y.fld fo_Atom_0 ty_I (by decide) rfl) (by kernel_rfl) ?_))))))))))
        refine D.y 1 rfl rfl (by decide) (Y.ld1 ty_I rfl ((Has.pt m0).sub (cs' := [_]) 0 rfl) rfl) (by kernel_rfl) ?_
        refine D.yp 5 rfl rfl (by decide) (Y.fld fo_Atom_1 ty_Is (by decide) rfl) (by kernel_rfl) ?_
        refine D.y 6 rfl rfl (by decide) (Y.ld1 ty_Is rfl ((Has.pt m0).sub (cs' := [_]) 1 rfl) rfl) (by kernel_rfl) ?_
        refine D.st 2 rfl rfl (by kernel_rfl) (fun _ => rfl) (N.call0 t_spec_FormatInt rfl rfl rfl (by decide) (fun w Lp hA => i6a_Rel)) (fun _ _ => ?_)
        refine D.yp 3 rfl rfl (by decide) (Y.addS rfl rfl (by first | omega | (simp only [List.length_append, List.length_cons, List.length_nil] at *; omega))) (by kernel_rfl) ?_
        refine D.yp 4 rfl rfl (by decide) (Y.addS rfl rfl (by first | omega | (simp only [List.length_append, List.length_cons, List.length_nil] at *; omega))) (by kernel_rfl) ?_
        refine D.st 7 rfl rfl (by kernel_rfl) (fun _ => rfl) (N.call0 (t_spec_l3Terms jl3) rfl rfl rfl (by decide) (fun w Lp hA => hA.ro ha_Terms)) (fun _ _ => ?_)
        refine D.yp 8 rfl rfl (by decide) (Y.addS rfl rfl (by first | omega | (simp only [List.length_append, List.length_cons, List.length_nil] at *; omega))) (by kernel_rfl) ?_
        refine D.yp 9 rfl rfl (by decide) (Y.addS rfl rfl (by first | omega | (simp only [List.length_append, List.length_cons, List.length_nil] at *; omega))) (by kernel_rfl) ?_
        refine D.yp 10 rfl rfl (by decide) (Y.as rfl) (by kernel_rfl) ?_
        exact D.done (by kernel_rfl) (E.thn (E.ret (F.r1 (Back.refl _ _) rfl rfl () trivial (by rw [show (textA (a_Rel, a_Terms)) = ((((([114]) ++ (textI a_Rel)) ++ ([40])) ++ (Lib.join (a_Terms.map textT) [44])) ++ ([41])) from (by rw [textA, q6, q12, pa, tm_end (by omega)]; rfl)]; try rfl) (J := _) (.refl _) (.inl rfl))))
    · refine E.y rfl rfl (by decide) ((Y.not (b := false) rfl).yd) ?_
      refine E.y rfl rfl (by decide) ((Y.pkf rfl rfl).yd) ?_
      refine E.nil (E.thn (E.ct rfl (E.seq (E.region (l := [0]) rfl (E.y rfl rfl (by decide) ((Y.as rfl).yd) ?_)))))
      exact E.nil (E.thn (E.ret (E.thr (F.r1 (Back.refl _ _) rfl rfl () trivial (by rw [show (textA (a_Rel, a_Terms)) = ([]) from (by rw [textA, q6, q12]; rfl)]; try rfl) (J := _) (.refl _) (.inl rfl)))))
  · refine E.y rfl rfl (by decide) ((Y.not (b := false) rfl).yd) ?_
    refine E.y rfl rfl (by decide) ((Y.mv rfl).yd) ?_
    refine E.skip rfl rfl rfl ?_
    refine E.skip rfl rfl rfl ?_
    refine E.skip rfl rfl rfl ?_
    refine E.skip rfl rfl rfl ?_
    refine E.skip rfl rfl rfl ?_
    refine E.y rfl rfl (by decide) ((Y.pkt rfl rfl).yd) ?_
    refine E.nil (E.thn (E.ct rfl (E.seq (E.region (l := [0]) rfl (E.y rfl rfl (by decide) ((Y.as rfl).yd) ?_)))))
    exact E.nil (E.thn (E.ret (E.thr (F.r1 (Back.refl _ _) rfl rfl () trivial (by rw [show (textA (a_Rel, a_Terms)) = ([]) from (by rw [textA, q6]; rfl)]; try rfl) (J := _) (.refl _) (.inl rfl)))))
theorem t_impl_FormatQuery {a_q_Head : Option Addr} {m_q_Head c_q_Head : Nat} {q_Head : List Int} {a_q_Atoms : Option Addr} {m_q_Atoms c_q_Atoms : Nat} {q_Atoms : List (Int × List Int)} (hz : totL (fun x => x.2.length) q_Atoms ≤ 1048576) : Tr Tryd.prog 41 [.agg #[.slice a_q_Head m_q_Head c_q_Head, .slice a_q_Atoms m_q_Atoms c_q_Atoms]] (fun w L => Ro w L eIs [.slice a_q_Head m_q_Head c_q_Head] q_Head ∧ Ro w L eAtoms [.slice a_q_Atoms m_q_Atoms c_q_Atoms] q_Atoms) [] (κ := Unit) (fun k => True) (fun k => strV (textQ (q_Head, q_Atoms))) (fun k => []) := by
  refine Tr.intro Tryd.func41 rfl (n := 46) rfl (by decide +kernel) (Nat.le_of_ble_eq_true rfl) (fr := [(0, .agg #[.slice a_q_Head m_q_Head c_q_Head, .slice a_q_Atoms m_q_Atoms c_q_Atoms])]) rfl fun w L hR => ?_
  obtain ⟨hq_Head, hq_Atoms⟩ := hR
  obtain ⟨rfl, lq_Head⟩ := hq_Head.slen
  obtain ⟨rfl, lq_Atoms⟩ := hq_Atoms.slen
  have jn : q_Atoms.length ≤ 1048576 := by unfold totL at hz; omega
  refine E.seq (E.region (l := [0, 1]) rfl (E.st rfl rfl (N.box (cs := [_, _]) rfl (by decide) rfl) (fun b1 _ => ?_)))
  refine E.y rfl rfl (by decide) ((Y.as rfl).yd) ?_
  refine E.nil (E.thn (E.seq (E.region (l := [0, 1]) rfl (E.st rfl rfl (N.bsl (pvs := []) (cs := []) us_Ss ty_S rfl (by decide) (by decide) (fillZ rfl rfl) rfl (by decide)) (fun b7 _ => ?_)))))
  refine Ent.drop ?_
  refine E.y rfl rfl (by decide) ((Y.as rfl).yd) ?_
  refine E.nil (E.thn (E.seq (E.seq (E.region (l := [0, 1, 2, 3]) rfl (E.y rfl rfl (by decide) ((Y.fld fo_Query_1 ty_Atoms (by decide) rfl).yd) ?_)))))
  refine E.y rfl rfl (by decide) (Y.ld1 ty_Atoms rfl ((Has.pt m0).sub (cs' := [_]) 1 rfl) rfl) ?_
  refine E.y rfl rfl (by decide) ((Y.len us_Atoms rfl).yd) ?_
  refine E.y rfl rfl (by decide) ((Y.mv rfl).yd) ?_
  refine E.nil (E.thn (E.block (Ent.mkow (A := []) (Own.nil (E := Enc.str) (e := tS) (a := (some ⟨b7, 0, none⟩))) rfl ?_)))
  refine Ent.cv (congrArg (ow eSs [_]) (show [] = (q_Atoms.take 0).map textA from by rfl)) ?_
  refine E.loop (κ := Nat × Option Addr × Nat × Nat) (fun g => g.1 ≤ q_Atoms.length ∧ True) (fun g => [(1, .pointer (some ⟨b1, 0, none⟩)), (3, .slice g.2.1 g.2.2.1 g.2.2.2), (9, .slice a_q_Atoms q_Atoms.length c_q_Atoms), (10, .int .i64 (↑q_Atoms.length : Int)), (11, .int .i64 (↑g.1 : Int))]) (fun g => [ow eSs [.slice g.2.1 g.2.2.1 g.2.2.2] ((q_Atoms.take g.1).map textA), pt b1 47 [.slice a_q_Head q_Head.length c_q_Head, .slice a_q_Atoms q_Atoms.length c_q_Atoms]]) (fun g => q_Atoms.length - g.1) (0, (some ⟨b7, 0, none⟩), 0, 0) ⟨Nat.zero_le _, by simp⟩ ⟨rfl, rfl, rfl, rfl, rfl, trivial⟩ (.refl _) (fun g pg => ?_)
  obtain ⟨g, aA0_0, mA0_0, cA0_0⟩ := g
  try dsimp only at pg
  show Ent _ _ _ [(1, .pointer (some ⟨b1, 0, none⟩)), (3, .slice aA0_0 mA0_0 cA0_0), (9, .slice a_q_Atoms q_Atoms.length c_q_Atoms), (10, .int .i64 (↑q_Atoms.length : Int)), (11, .int .i64 (↑g : Int))] [ow eSs [.slice aA0_0 mA0_0 cA0_0] ((q_Atoms.take g).map textA), pt b1 47 [.slice a_q_Head q_Head.length c_q_Head, .slice a_q_Atoms q_Atoms.length c_q_Atoms]] _
  obtain ⟨pk, pa⟩ := pg
  have jt := List.length_take_le g q_Atoms
  refine Ent.lenow m0 fun eaA0_0 laA0_0 => ?_
  subst eaA0_0
  refine E.seq (E.region (l := [0]) rfl (E.y rfl rfl (by decide) ((Y.lss rfl rfl).yd) (Ent.d (fun q12 => ?_) (fun q12 => ?_))))
  · obtain ⟨eb13, eo13, ec13, ea13, er13, el13, eh13⟩ := hq_Atoms.elem g (by omega)
    obtain ⟨xa13_0, xc13_0, rfl, ei13_0, xh13_0⟩ := Ro.pAtom er13
    have := xh13_0.slen.2
    refine E.nil (E.thn (E.seq (E.ct rfl (E.skipc (E.thn (E.seq (E.block (E.seq (E.region (l := [0, 1, 2, 3]) rfl (E.y rfl rfl (by decide) ((Y.ix us_Atoms ty_Atom rfl ea13 rfl g rfl (by omega)).yd) ?_))))))))))
    refine E.y rfl rfl (by decide) (Y.ldS (cs := [_, _]) ty_Atom rfl (eh13 _) rfl) ?_
    refine E.st rfl rfl (N.alloc ty_Atom (by decide)) (fun b5 _ => ?_)
    refine E.st rfl rfl (N.sto (vs := [_, _]) (cs' := [_, _]) ty_Atom rfl rfl rfl rfl rfl (Nat.le_of_ble_eq_true rfl) rfl) (fun _ _ => ?_)
    refine E.nil (E.thn (E.region (l := [0, 1, 2, 3, 4, 5]) rfl (E.y rfl rfl (by decide) ((Y.mv rfl).yd) ?_)))
    refine E.y rfl rfl (by decide) (Y.ldS (cs := [_, _]) ty_Atom rfl (Has.pt m0) rfl) ?_
    refine E.st rfl rfl (N.call0 t_impl_FormatAtom rfl rfl rfl (by decide) (fun w Lp hA => ⟨ei13_0, hA.ro xh13_0⟩)) (fun _ _ => ?_)
    refine E.st rfl rfl (N.bsl (pvs := [_]) (cs := [_]) us_Ss ty_S rfl (by decide) (by decide) (fillZ rfl rfl) rfl (by decide)) (fun b18 _ => ?_)
    refine Ent.p2 ?_
    refine E.st rfl rfl (N.push (E := Enc.str) (ex := textA q_Atoms[g]) us_Ss ty_S rfl rfl rfl Own.str rfl (by first | omega | (simp only [List.length_map, List.length_take, List.length_append, List.length_drop, List.length_cons, List.length_nil]; omega)) (by first | omega | (simp only [List.length_map, List.length_take, List.length_append, List.length_drop, List.length_cons, List.length_nil]; omega)) (by decide)) (fun p19 _ => ?_)
    refine E.y rfl rfl (by decide) ((Y.as rfl).yd) ?_
    refine E.nil (E.bln (E.thn (E.region (l := [0, 1]) rfl (E.y rfl rfl (by decide) ((Y.add rfl rfl (by omega) (by omega)).yd) ?_))))
    refine E.y rfl rfl (by decide) ((Y.mv rfl).yd) ?_
    refine E.nil (E.thn (Ent.p1 ?_))
    refine Ent.drop ?_
    refine Ent.cv (congrArg (ow eSs [_]) (show ((q_Atoms.take g).map textA) ++ [textA q_Atoms[g]] = (q_Atoms.take (g + 1)).map textA from by rw [List.take_succ_eq_append_getElem (by omega), List.map_append]; rfl)) ?_
    refine Ent.p1 ?_
    refine Ent.p1 ?_
    exact E.again (Back.refl _ _) (g + 1, p19.1, (((q_Atoms.take g).map textA).length + 1), p19.2) ⟨rfl, rfl, rfl, rfl, rfl, trivial⟩ (.refl _) ⟨(show g + 1 ≤ q_Atoms.length from by omega), (show True from by grind [List.drop_eq_getElem_cons, List.drop_eq_nil_of_le, List.take_succ_eq_append_getElem, List.take_of_length_le])⟩ (show q_Atoms.length - (g + 1) < q_Atoms.length - g from by omega)
  · refine E.nil (E.thn (E.seq (E.cf rfl (E.exit (E.the (E.the (E.blh (E.thn (E.seq (E.seq (E.region (l := [0, 1, 2, 3, 4, 5, 6, 7, 8, 9, 10, 11, 12]) rfl (E.y rfl rfl (by decide) ((Y.mv rfl).yd) ?_))))))))))))
    have jg : (q_Atoms.take g).map textA = q_Atoms.map textA := by rw [List.take_of_length_le (by omega)]
    refine E.y rfl rfl (by decide) ((Y.len us_Ss rfl).yd) ?_
    refine E.st rfl rfl (N.call0 t_impl_within rfl rfl rfl (by decide) (fun w Lp hA => trivial)) (fun _ _ => (Ent.b (fun q23 => ?_) (fun q23 => ?_)))
    · refine E.y rfl rfl (by decide) ((Y.not (b := true) rfl).yd) ?_
      refine E.y rfl rfl (by decide) ((Y.mv rfl).yd) ?_
      refine E.y rfl rfl (by decide) ((Y.mv rfl).yd) ?_
      refine E.st rfl rfl (N.call0 t_slices_Contains_string_string rfl rfl rfl (by decide) (fun w Lp hA => hA.ow m0)) (fun _ _ => (Ent.b (fun q27 => ?_) (fun q27 => ?_)))
      · refine E.y rfl rfl (by decide) ((Y.pkf rfl rfl).yd) ?_
        refine E.y rfl rfl (by decide) ((Y.mv rfl).yd) ?_
        refine E.skip rfl rfl rfl ?_
        refine E.skip rfl rfl rfl ?_
        refine E.skip rfl rfl rfl ?_
        refine E.y rfl rfl (by decide) ((Y.pkt rfl rfl).yd) ?_
        refine E.nil (E.thn (E.ct rfl (E.seq (E.region (l := [0]) rfl (E.y rfl rfl (by decide) ((Y.as rfl).yd) ?_)))))
        exact E.nil (E.thn (E.ret (E.thr (F.r1 (Back.refl _ _) rfl rfl () trivial (by rw [show (textQ (q_Head, q_Atoms)) = ([]) from (by rw [jg, nT_any] at q27; exact textQ_no3 q27)]; try rfl) (J := _) (.refl _) (.inl rfl)))))
      · refine E.y rfl rfl (by decide) ((Y.pkf rfl rfl).yd) ?_
        refine E.y rfl rfl (by decide) ((Y.mv rfl).yd) ?_
        refine E.y rfl rfl (by decide) (Y.ldS (cs := [_, _]) ty_Query rfl (Has.pt (mS m0)) rfl) ?_
        refine E.st rfl rfl (N.call0 (t_impl_hasHead (by first | omega | assumption)) rfl rfl rfl (by decide) (fun w Lp hA => ⟨hA.ro hq_Head, hA.ro hq_Atoms⟩)) (fun _ _ => (Ent.b (fun q31 => ?_) (fun q31 => ?_)))
        · have jo := okHead_h q31
          have q4 : inR (q_Atoms.length : Int) 1 4 = true := by rw [jg, List.length_map] at q23; exact q23
          have jr : q_Atoms.length ≤ 4 := by simp only [inR, decide_eq_true_eq] at q4; omega
          have jj := join_map_len (f := textA) (K := 100) (l := q_Atoms) (n := 4) (sep := [32, 97, 110, 100, 32]) (fun x => textA_len) jr
          have jh := headT_len (h := q_Head) jo.1
          have jm := join_map_len (f := textT) (K := 22) (l := q_Head) (n := 3) (sep := [44]) (fun x => textT_len) jo.1
          have jl := join_take_len (f := textA) (K := 100) (l := q_Atoms) (g := g) (n := 4) (B := 420) (sep := [32, 97, 110, 100, 32]) (fun x => textA_len) jr (by decide)
          have j0 : nT textA q_Atoms = false := by rw [jg, nT_any] at q27; exact q27
          refine E.y rfl rfl (by decide) ((Y.not (b := true) rfl).yd) ?_
          refine E.y rfl rfl (by decide) ((Y.pkf rfl rfl).yd) ?_
          refine E.nil (E.thn (E.cf rfl (E.skipc (E.thn (E.seq (E.region (l := [0]) rfl (E.y rfl rfl (by decide) ((Y.as rfl).yd) ?_)))))))
          refine E.nil (E.thn (E.seq (E.seq (E.region (l := [0, 1, 2, 3]) rfl (E.y rfl rfl (by decide) ((Y.fld fo_Query_0 ty_Is (by decide) rfl).yd) ?_)))))
          refine E.y rfl rfl (by decide) (Y.ld1 ty_Is rfl ((Has.pt (mS m0)).sub (cs' := [_]) 0 rfl) rfl) ?_
          refine E.y rfl rfl (by decide) ((Y.len us_Is rfl).yd) ?_
          refine E.y rfl rfl (by decide) ((Y.gtr rfl rfl).yd) (Ent.d (fun q37 => ?_) (fun q37 => ?_))
          · refine E.nil (E.thn (E.ct rfl (E.region (l := [0, 1, 2, 3]) rfl (E.y rfl rfl (by decide) ((Y.fld fo_Query_0 ty_Is (by decide) rfl).yd) ?_))))
            refine E.y rfl rfl (by decide) (Y.ld1 ty_Is rfl ((Has.pt (mS m0)).sub (cs' := [_]) 0 rfl) rfl) ?_
            refine E.st rfl rfl (N.call0 (t_impl_termsText (by first | omega | (have := jo.1; omega)) jo.2) rfl rfl rfl (by decide) (fun w Lp hA => hA.ro hq_Head)) (fun _ _ => ?_)
            refine E.y rfl rfl (by decide) ((Y.as rfl).yd) ?_
            refine E.nil (E.thn (E.seq (E.region (l := [0, 1, 2, 3, 4, 5]) rfl (E.y rfl rfl (by decide) ((Y.mv rfl).yd) ?_))))
            refine E.y rfl rfl (by decide) ((Y.addS rfl rfl (by first | omega | (simp only [List.length_append, List.length_cons, List.length_nil] at *; omega))).yd) ?_
            refine E.y rfl rfl (by decide) ((Y.mv rfl).yd) ?_
            refine E.st rfl rfl (N.call0 (tr_join (by simp only [List.length_map, List.length_take]; omega) (by rw [jg]; exact Nat.le_trans jj (by decide))) rfl rfl rfl (by decide) (fun w Lp hA => hA.ow m0)) (fun _ _ => ?_)
            refine E.y rfl rfl (by decide) ((Y.addS rfl rfl (by first | omega | (simp only [List.length_append, List.length_cons, List.length_nil] at *; omega))).yd) ?_
            refine E.y rfl rfl (by decide) ((Y.as rfl).yd) ?_
            exact E.nil (E.thn (E.ret (F.r1 (Back.refl _ _) rfl rfl () trivial (by rw [show (textQ (q_Head, q_Atoms)) = (((Lib.join (q_Head.map textT) [44]) ++ ([32, 105, 102, 32])) ++ (Lib.join ((q_Atoms.take g).map textA) ([32, 97, 110, 100, 32]))) from (by rw [jg]; rw [headT_yes (h := q_Head) (by omega)]; exact textQ_yes q4 q31 j0)]; try rfl) (J := _) (.refl _) (.inl rfl))))
          · refine E.nil (E.thn (E.cf rfl (E.skipc (E.thn (E.seq (E.region (l := [0, 1, 2, 3, 4, 5]) rfl (E.y rfl rfl (by decide) ((Y.mv rfl).yd) ?_)))))))
            refine E.y rfl rfl (by decide) ((Y.addS rfl rfl (by first | omega | (simp only [List.length_append, List.length_cons, List.length_nil] at *; omega))).yd) ?_
            refine E.y rfl rfl (by decide) ((Y.mv rfl).yd) ?_
            refine E.st rfl rfl (N.call0 (tr_join (by simp only [List.length_map, List.length_take]; omega) (by rw [jg]; exact Nat.le_trans jj (by decide))) rfl rfl rfl (by decide) (fun w Lp hA => hA.ow m0)) (fun _ _ => ?_)
            refine E.y rfl rfl (by decide) ((Y.addS rfl rfl (by first | omega | (simp only [List.length_append, List.length_cons, List.length_nil] at *; omega))).yd) ?_
            refine E.y rfl rfl (by decide) ((Y.as rfl).yd) ?_
            exact E.nil (E.thn (E.ret (F.r1 (Back.refl _ _) rfl rfl () trivial (by rw [show (textQ (q_Head, q_Atoms)) = ((([121, 101, 115]) ++ ([32, 105, 102, 32])) ++ (Lib.join ((q_Atoms.take g).map textA) ([32, 97, 110, 100, 32]))) from (by rw [jg]; rw [headT_no (h := q_Head) (by omega)]; exact textQ_yes q4 q31 j0)]; try rfl) (J := _) (.refl _) (.inl rfl))))
        · refine E.y rfl rfl (by decide) ((Y.not (b := false) rfl).yd) ?_
          refine E.y rfl rfl (by decide) ((Y.pkf rfl rfl).yd) ?_
          refine E.nil (E.thn (E.ct rfl (E.seq (E.region (l := [0]) rfl (E.y rfl rfl (by decide) ((Y.as rfl).yd) ?_)))))
          exact E.nil (E.thn (E.ret (E.thr (F.r1 (Back.refl _ _) rfl rfl () trivial (by rw [show (textQ (q_Head, q_Atoms)) = ([]) from (by exact textQ_no2 q31)]; try rfl) (J := _) (.refl _) (.inl rfl)))))
    · refine E.y rfl rfl (by decide) ((Y.not (b := false) rfl).yd) ?_
      refine E.y rfl rfl (by decide) ((Y.mv rfl).yd) ?_
      refine E.skip rfl rfl rfl ?_
      refine E.skip rfl rfl rfl ?_
      refine E.y rfl rfl (by decide) ((Y.pkt rfl rfl).yd) ?_
      refine E.y rfl rfl (by decide) ((Y.mv rfl).yd) ?_
      refine E.skip rfl rfl rfl ?_
      refine E.skip rfl rfl rfl ?_
      refine E.skip rfl rfl rfl ?_
      refine E.y rfl rfl (by decide) ((Y.pkt rfl rfl).yd) ?_
      refine E.nil (E.thn (E.ct rfl (E.seq (E.region (l := [0]) rfl (E.y rfl rfl (by decide) ((Y.as rfl).yd) ?_)))))
      exact E.nil (E.thn (E.ret (E.thr (F.r1 (Back.refl _ _) rfl rfl () trivial (by rw [show (textQ (q_Head, q_Atoms)) = ([]) from (by rw [jg, List.length_map] at q23; exact textQ_no1 q23)]; try rfl) (J := _) (.refl _) (.inl rfl)))))
theorem t_spec_FormatQuery {a_q_Head : Option Addr} {m_q_Head c_q_Head : Nat} {q_Head : List Int} {a_q_Atoms : Option Addr} {m_q_Atoms c_q_Atoms : Nat} {q_Atoms : List (Int × List Int)} (hz : totL (fun x => x.2.length) q_Atoms ≤ 1048576) : Tr Tryd.prog 39 [.agg #[.slice a_q_Head m_q_Head c_q_Head, .slice a_q_Atoms m_q_Atoms c_q_Atoms]] (fun w L => Ro w L eIs [.slice a_q_Head m_q_Head c_q_Head] q_Head ∧ Ro w L eAtoms [.slice a_q_Atoms m_q_Atoms c_q_Atoms] q_Atoms) [] (κ := Unit) (fun k => True) (fun k => strV (textQ (q_Head, q_Atoms))) (fun k => []) := by
  refine Tr.intro Tryd.func39 rfl (n := 68) rfl (by decide +kernel) (Nat.le_of_ble_eq_true rfl) (fr := [(0, .agg #[.slice a_q_Head m_q_Head c_q_Head, .slice a_q_Atoms m_q_Atoms c_q_Atoms])]) rfl fun w L hR => ?_
  obtain ⟨hq_Head, hq_Atoms⟩ := hR
  obtain ⟨rfl, lq_Head⟩ := hq_Head.slen
  obtain ⟨rfl, lq_Atoms⟩ := hq_Atoms.slen
  refine E.seq (E.region (l := [0, 1]) rfl (E.st rfl rfl (N.box (cs := [_, _]) rfl (by decide) rfl) (fun b1 _ => ?_)))
  refine E.y rfl rfl (by decide) ((Y.as rfl).yd) ?_
  refine E.nil (E.thn (E.seq (E.seq (E.region (l := [0, 1, 2, 3, 4, 5, 6, 7, 8, 9, 10]) rfl (E.y rfl rfl (by decide) ((Y.fld fo_Query_1 ty_Atoms (by decide) rfl).yd) ?_)))))
  refine E.y rfl rfl (by decide) (Y.ld1 ty_Atoms rfl ((Has.pt m0).sub (cs' := [_]) 1 rfl) rfl) ?_
  refine E.y rfl rfl (by decide) ((Y.len us_Atoms rfl).yd) ?_
  refine E.st rfl rfl (N.call0 t_spec_l1In rfl rfl rfl (by decide) (fun w Lp hA => trivial)) (fun _ _ => (Ent.b (fun q11 => ?_) (fun q11 => ?_)))
  · refine E.y rfl rfl (by decide) ((Y.not (b := true) rfl).yd) ?_
    refine E.y rfl rfl (by decide) ((Y.mv rfl).yd) ?_
    refine E.y rfl rfl (by decide) ((Y.fld fo_Query_0 ty_Is (by decide) rfl).yd) ?_
    refine E.y rfl rfl (by decide) (Y.ld1 ty_Is rfl ((Has.pt m0).sub (cs' := [_]) 0 rfl) rfl) ?_
    refine E.y rfl rfl (by decide) ((Y.len us_Is rfl).yd) ?_
    refine E.y rfl rfl (by decide) ((Y.gtr rfl rfl).yd) (Ent.d (fun q17 => ?_) (fun q17 => ?_))
    · refine E.y rfl rfl (by decide) ((Y.pkf rfl rfl).yd) ?_
      refine E.nil (E.thn (E.ct rfl (E.seq (E.region (l := [0]) rfl (E.y rfl rfl (by decide) ((Y.as rfl).yd) ?_)))))
      exact E.nil (E.thn (E.ret (E.thr (F.r1 (Back.refl _ _) rfl rfl () trivial (by rw [show (textQ (q_Head, q_Atoms)) = ([]) from (by exact textQ_no2 (okHead_big q17))]; try rfl) (J := _) (.refl _) (.inl rfl)))))
    · have jr : q_Atoms.length ≤ 4 := by have q4 := q11; simp only [inR, decide_eq_true_eq] at q4; omega
      have jh := headT_len (h := q_Head) (by omega)
      have jm := join_map_len (f := textT) (K := 22) (l := q_Head) (n := 3) (sep := [44]) (fun x => textT_len) (by omega)
      refine E.y rfl rfl (by decide) ((Y.pkf rfl rfl).yd) ?_
      refine E.nil (E.thn (E.cf rfl (E.skipc (E.thn (E.seq (E.region (l := [0]) rfl (E.y rfl rfl (by decide) ((Y.as rfl).yd) ?_)))))))
      refine E.nil (E.thn (E.seq (E.seq (E.region (l := [0, 1, 2, 3]) rfl (E.y rfl rfl (by decide) ((Y.fld fo_Query_0 ty_Is (by decide) rfl).yd) ?_)))))
      refine E.y rfl rfl (by decide) (Y.ld1 ty_Is rfl ((Has.pt m0).sub (cs' := [_]) 0 rfl) rfl) ?_
      refine E.y rfl rfl (by decide) ((Y.len us_Is rfl).yd) ?_
      refine E.y rfl rfl (by decide) ((Y.gtr rfl rfl).yd) (Ent.d (fun q22 => ?_) (fun q22 => ?_))
      · refine E.nil (E.thn (E.ct rfl (E.region (l := [0, 1, 2, 3]) rfl (E.y rfl rfl (by decide) ((Y.fld fo_Query_0 ty_Is (by decide) rfl).yd) ?_))))
        refine E.y rfl rfl (by decide) (Y.ld1 ty_Is rfl ((Has.pt m0).sub (cs' := [_]) 0 rfl) rfl) ?_
        refine E.st rfl rfl (N.call0 (t_spec_l3Terms (by first | omega | (have := jo.1; omega))) rfl rfl rfl (by decide) (fun w Lp hA => hA.ro hq_Head)) (fun _ _ => ?_)
        refine E.y rfl rfl (by decide) ((Y.as rfl).yd) ?_
        refine E.nil (E.thn (E.seq (E.region (l := [0, 1, 2]) rfl (E.y rfl rfl (by decide) (Y.ldS (cs := [_, _]) ty_Query rfl (Has.pt m0) rfl) ?_))))
        refine E.st rfl rfl (N.call (t_spec_VarsOf (by first | omega | assumption)) rfl rfl rfl (by decide) rfl (fun w Lp hA => ⟨hA.ro hq_Head, hA.ro hq_Atoms⟩)) (fun k27 _ => ?_)
        obtain ⟨a27, m27, c27⟩ := k27
        refine Ent.lenow m0 fun e27 l27 => ?_
        subst e27
        refine E.y rfl rfl (by decide) ((Y.as rfl).yd) ?_
        refine E.nil (E.thn (E.seq (E.seq (E.region (l := [0]) rfl (E.y rfl rfl (by decide) ((Y.as rfl).yd) ?_)))))
        refine E.nil (E.thn (E.block (E.loop (κ := Nat) (fun g => g ≤ q_Head.length ∧ (q_Head.any (badH q_Atoms)) = ((q_Head.drop g).any (badH q_Atoms))) (fun g => [(1, .pointer (some ⟨b1, 0, none⟩)), (3, strV (Lib.join (q_Head.map textT) [44])), (4, .slice a27 (termsF (fun t => inR t 10 17) q_Atoms).length c27), (5, .int .i64 (↑g : Int))]) (fun g => [ow eIs [.slice a27 (termsF (fun t => inR t 10 17) q_Atoms).length c27] (termsF (fun t => inR t 10 17) q_Atoms), pt b1 47 [.slice a_q_Head q_Head.length c_q_Head, .slice a_q_Atoms q_Atoms.length c_q_Atoms]]) (fun g => q_Head.length - g) 0 ⟨Nat.zero_le _, by rfl⟩ ⟨rfl, rfl, rfl, rfl, trivial⟩ (.refl _) (fun g pg => ?_))))
        obtain ⟨pk, pa⟩ := pg
        have pa1 := pa
        refine E.seq (E.seq (E.region (l := [0, 1, 2, 3, 4]) rfl (E.y rfl rfl (by decide) ((Y.mv rfl).yd) ?_)))
        refine E.y rfl rfl (by decide) ((Y.fld fo_Query_0 ty_Is (by decide) rfl).yd) ?_
        refine E.y rfl rfl (by decide) (Y.ld1 ty_Is rfl ((Has.pt (mS m0)).sub (cs' := [_]) 0 rfl) rfl) ?_
        refine E.y rfl rfl (by decide) ((Y.len us_Is rfl).yd) ?_
        refine E.y rfl rfl (by decide) ((Y.lss rfl rfl).yd) (Ent.d (fun q32 => ?_) (fun q32 => ?_))
        · refine E.nil (E.thn (E.ct rfl (E.skipc (E.thn (E.seq (E.block (E.seq (E.region (l := [0, 1, 2, 3, 4, 5, 6, 7]) rfl (E.y rfl rfl (by decide) ((Y.mv rfl).yd) ?_)))))))))
          refine E.y rfl rfl (by decide) ((Y.fld fo_Query_0 ty_Is (by decide) rfl).yd) ?_
          refine E.y rfl rfl (by decide) (Y.ld1 ty_Is rfl ((Has.pt (mS m0)).sub (cs' := [_]) 0 rfl) rfl) ?_
          refine E.y rfl rfl (by decide) ((Y.mv rfl).yd) ?_
          obtain ⟨eb39, eo39, ea39, ei39, eh39⟩ := hq_Head.elemI g (by omega)
          refine E.y rfl rfl (by decide) ((Y.ix us_Is ty_I rfl ea39 rfl g rfl (by omega)).yd) ?_
          refine E.y rfl rfl (by decide) (Y.ld1 ty_I rfl (eh39 _) rfl) ?_
          refine E.st rfl rfl (N.call0 t_spec_l2Has rfl rfl rfl (by decide) (fun w Lp hA => hA.ow m0)) (fun _ _ => (Ent.b (fun q41 => ?_) (fun q41 => ?_)))
          · refine E.y rfl rfl (by decide) ((Y.not (b := true) rfl).yd) ?_
            refine E.nil (E.thn (E.cf rfl (E.skipc (E.bln (E.thn (E.region (l := [0, 1, 2]) rfl (E.y rfl rfl (by decide) ((Y.mv rfl).yd) ?_)))))))
            refine E.y rfl rfl (by decide) ((Y.add rfl rfl (by omega) (by omega)).yd) ?_
            refine E.y rfl rfl (by decide) ((Y.as rfl).yd) ?_
            refine E.nil (E.thn (Ent.p1 ?_))
            refine Ent.p1 ?_
            exact E.again (Back.refl _ _) (g + 1) ⟨rfl, rfl, rfl, rfl, trivial⟩ (.refl _) ⟨by omega, by rw [pa]; exact badH_step (by omega) q41⟩ (by omega)
          · refine E.y rfl rfl (by decide) ((Y.not (b := false) rfl).yd) ?_
            refine E.nil (E.thn (E.ct rfl (E.seq (E.region (l := [0]) rfl (E.y rfl rfl (by decide) ((Y.as rfl).yd) ?_)))))
            exact E.nil (E.thn (E.ret (E.blr (E.thr (E.thr (E.blr (E.thr (F.r1 (Back.refl _ _) rfl rfl () trivial (by rw [show (textQ (q_Head, q_Atoms)) = ([]) from (by exact textQ_no2 (okHead_any (pa.trans (badH_no (by omega) q41))))]; try rfl) (J := _) (.refl _) (.inl rfl)))))))))
        · refine E.nil (E.thn (E.cf rfl (E.exit (E.the (E.the (E.blh (E.thn (E.seq (E.region (l := [0, 1, 2]) rfl (E.y rfl rfl (by decide) ((Y.mv rfl).yd) ?_))))))))))
          refine E.y rfl rfl (by decide) ((Y.addS rfl rfl (by first | omega | (simp only [List.length_append, List.length_cons, List.length_nil] at *; omega))).yd) ?_
          refine E.y rfl rfl (by decide) ((Y.as rfl).yd) ?_
          refine E.nil (E.thn (E.seq (E.seq (E.region (l := [0]) rfl (E.y rfl rfl (by decide) ((Y.as rfl).yd) ?_)))))
          refine E.nil (E.thn (E.block (E.loop (κ := Nat) (fun r => r ≤ q_Atoms.length ∧ nT textA q_Atoms = nT textA (q_Atoms.drop r)) (fun r => [(1, .pointer (some ⟨b1, 0, none⟩)), (3, strV (headT q_Head ++ [32, 105, 102, 32] ++ Lib.join ((q_Atoms.take r).map textA) [32, 97, 110, 100, 32])), (6, .int .i64 (↑r : Int))]) (fun r => [ow eIs [.slice a27 (termsF (fun t => inR t 10 17) q_Atoms).length c27] (termsF (fun t => inR t 10 17) q_Atoms), pt b1 47 [.slice a_q_Head q_Head.length c_q_Head, .slice a_q_Atoms q_Atoms.length c_q_Atoms]]) (fun r => q_Atoms.length - r) (0) ⟨Nat.zero_le _, by rfl⟩ ⟨rfl, frS (by rw [join_zero, List.append_nil]; first | rw [headT_yes (h := q_Head) (by omega)] | rw [← headT_no (h := q_Head) (by omega)]), rfl, trivial⟩ (.refl _) (fun r pr => ?_))))
          show Ent _ _ _ [(1, .pointer (some ⟨b1, 0, none⟩)), (3, strV (headT q_Head ++ [32, 105, 102, 32] ++ Lib.join ((q_Atoms.take r).map textA) [32, 97, 110, 100, 32])), (6, .int .i64 (↑r : Int))] [ow eIs [.slice a27 (termsF (fun t => inR t 10 17) q_Atoms).length c27] (termsF (fun t => inR t 10 17) q_Atoms), pt b1 47 [.slice a_q_Head q_Head.length c_q_Head, .slice a_q_Atoms q_Atoms.length c_q_Atoms]] _
          obtain ⟨pk, pa⟩ := pr
          have pa2 := pa
          have jl := join_take_len (f := textA) (K := 100) (l := q_Atoms) (g := r) (n := 4) (B := 420) (sep := [32, 97, 110, 100, 32]) (fun x => textA_len) jr (by decide)
          refine E.seq (E.seq (E.region (l := [0, 1, 2, 3, 4]) rfl (E.y rfl rfl (by decide) ((Y.mv rfl).yd) ?_)))
          refine E.y rfl rfl (by decide) ((Y.fld fo_Query_1 ty_Atoms (by decide) rfl).yd) ?_
          refine E.y rfl rfl (by decide) (Y.ld1 ty_Atoms rfl ((Has.pt (mS m0)).sub (cs' := [_]) 1 rfl) rfl) ?_
          refine E.y rfl rfl (by decide) ((Y.len us_Atoms rfl).yd) ?_
          refine E.y rfl rfl (by decide) ((Y.lss rfl rfl).yd) (Ent.d (fun q49 => ?_) (fun q49 => ?_))
          · refine E.nil (E.thn (E.ct rfl (E.skipc (E.thn (E.seq (E.block (E.seq (E.region (l := [0, 1, 2, 3, 4, 5, 6]) rfl (E.y rfl rfl (by decide) ((Y.fld fo_Query_1 ty_Atoms (by decide) rfl).yd) ?_)))))))))
            refine E.y rfl rfl (by decide) (Y.ld1 ty_Atoms rfl ((Has.pt (mS m0)).sub (cs' := [_]) 1 rfl) rfl) ?_
            refine E.y rfl rfl (by decide) ((Y.mv rfl).yd) ?_
            obtain ⟨eb55, eo55, ec55, ea55, er55, el55, eh55⟩ := hq_Atoms.elem r (by omega)
            obtain ⟨xa55_0, xc55_0, rfl, ei55_0, xh55_0⟩ := Ro.pAtom er55
            have := xh55_0.slen.2
            refine E.y rfl rfl (by decide) ((Y.ix us_Atoms ty_Atom rfl ea55 rfl r rfl (by omega)).yd) ?_
            refine E.y rfl rfl (by decide) (Y.ldS (cs := [_, _]) ty_Atom rfl (eh55 _) rfl) ?_
            refine E.st rfl rfl (N.call0 t_spec_FormatAtom rfl rfl rfl (by decide) (fun w Lp hA => ⟨ei55_0, hA.ro xh55_0⟩)) (fun _ _ => ?_)
            refine E.y rfl rfl (by decide) ((Y.as rfl).yd) ?_
            refine E.nil (E.thn (E.seq (E.seq (E.region (l := [0, 1]) rfl (E.y rfl rfl (by decide) ((Y.mv rfl).yd) ?_)))))
            refine E.y rfl rfl (by decide) ((Y.eqlS rfl rfl).yd) (Ent.d (fun q59 => ?_) (fun q59 => ?_))
            · refine E.nil (E.thn (E.ct rfl (E.seq (E.region (l := [0]) rfl (E.y rfl rfl (by decide) ((Y.as rfl).yd) ?_)))))
              exact E.nil (E.thn (E.ret (E.thr (E.blr (E.thr (E.thr (E.blr (E.thr (F.r1 (Back.refl _ _) rfl rfl () trivial (by rw [show (textQ (q_Head, q_Atoms)) = ([]) from (by exact textQ_no3 (pa2.trans (nT_no (by omega) q59)))]; try rfl) (J := _) (.refl _) (.inl rfl))))))))))
            · have ja : (textA (q_Atoms[r].1, q_Atoms[r].2)).length ≤ 100 := textA_len
              refine E.nil (E.thn (E.cf rfl (E.skipc (E.thn (E.seq (E.seq (E.region (l := [0, 1]) rfl (E.y rfl rfl (by decide) ((Y.mv rfl).yd) ?_))))))))
              refine E.y rfl rfl (by decide) ((Y.gtr rfl rfl).yd) (Ent.d (fun q61 => ?_) (fun q61 => ?_))
              · refine E.nil (E.thn (E.ct rfl (E.region (l := [0, 1, 2]) rfl (E.y rfl rfl (by decide) ((Y.mv rfl).yd) ?_))))
                refine E.y rfl rfl (by decide) ((Y.addS rfl rfl (by first | omega | (simp only [List.length_append, List.length_cons, List.length_nil] at *; omega))).yd) ?_
                refine E.y rfl rfl (by decide) ((Y.as rfl).yd) ?_
                refine E.nil (E.thn (E.region (l := [0, 1, 2, 3]) rfl (E.y rfl rfl (by decide) ((Y.mv rfl).yd) ?_)))
                refine E.y rfl rfl (by decide) ((Y.mv rfl).yd) ?_
                refine E.y rfl rfl (by decide) ((Y.addS rfl rfl (by first | omega | (simp only [List.length_append, List.length_cons, List.length_nil] at *; omega))).yd) ?_
                refine E.y rfl rfl (by decide) ((Y.as rfl).yd) ?_
                refine E.nil (E.bln (E.thn (E.region (l := [0, 1, 2]) rfl (E.y rfl rfl (by decide) ((Y.mv rfl).yd) ?_))))
                refine E.y rfl rfl (by decide) ((Y.add rfl rfl (by omega) (by omega)).yd) ?_
                refine E.y rfl rfl (by decide) ((Y.as rfl).yd) ?_
                refine E.nil (E.thn (Ent.p1 ?_))
                refine Ent.p1 ?_
                exact E.again (Back.refl _ _) (r + 1) ⟨rfl, frS (by first | exact join_stepP0 (f := textA) (by omega) (by omega) | exact join_stepP (f := textA) (by omega) (by omega)), rfl, trivial⟩ (.refl _) ⟨(show r + 1 ≤ q_Atoms.length from by omega), (show nT textA q_Atoms = nT textA (q_Atoms.drop (r + 1)) from by rw [pa2]; exact nT_step (by omega) q59)⟩ (show q_Atoms.length - (r + 1) < q_Atoms.length - r from by omega)
              · refine E.nil (E.thn (E.cf rfl (E.skipc (E.thn (E.region (l := [0, 1, 2, 3]) rfl (E.y rfl rfl (by decide) ((Y.mv rfl).yd) ?_))))))
                refine E.y rfl rfl (by decide) ((Y.mv rfl).yd) ?_
                refine E.y rfl rfl (by decide) ((Y.addS rfl rfl (by first | omega | (simp only [List.length_append, List.length_cons, List.length_nil] at *; omega))).yd) ?_
                refine E.y rfl rfl (by decide) ((Y.as rfl).yd) ?_
                refine E.nil (E.bln (E.thn (E.region (l := [0, 1, 2]) rfl (E.y rfl rfl (by decide) ((Y.mv rfl).yd) ?_))))
                refine E.y rfl rfl (by decide) ((Y.add rfl rfl (by omega) (by omega)).yd) ?_
                refine E.y rfl rfl (by decide) ((Y.as rfl).yd) ?_
                refine E.nil (E.thn (Ent.p1 ?_))
                refine Ent.p1 ?_
                exact E.again (Back.refl _ _) (r + 1) ⟨rfl, frS (by first | exact join_stepP0 (f := textA) (by omega) (by omega) | exact join_stepP (f := textA) (by omega) (by omega)), rfl, trivial⟩ (.refl _) ⟨(show r + 1 ≤ q_Atoms.length from by omega), (show nT textA q_Atoms = nT textA (q_Atoms.drop (r + 1)) from by rw [pa2]; exact nT_step (by omega) q59)⟩ (show q_Atoms.length - (r + 1) < q_Atoms.length - r from by omega)
          · refine E.nil (E.thn (E.cf rfl (E.exit (E.the (E.the (E.blh (E.thn (E.seq (E.region (l := [0, 1]) rfl (E.y rfl rfl (by decide) ((Y.mv rfl).yd) ?_))))))))))
            refine E.y rfl rfl (by decide) ((Y.as rfl).yd) ?_
            exact E.nil (E.thn (E.ret (F.r1 (Back.refl _ _) rfl rfl () trivial (by rw [show (textQ (q_Head, q_Atoms)) = (headT q_Head ++ [32, 105, 102, 32] ++ Lib.join ((q_Atoms.take r).map textA) [32, 97, 110, 100, 32]) from (by rw [textQ_yes q11 (okHead_yes q17 (pa1.trans (badH_end (by omega)))) (pa2.trans (nT_end (by omega)))]; rw [List.take_of_length_le (by omega)])]; try rfl) (J := _) (.refl _) (.inl rfl))))
      · refine E.nil (E.thn (E.cf rfl (E.skipc (E.thn (E.seq (E.region (l := [0, 1, 2]) rfl (E.y rfl rfl (by decide) (Y.ldS (cs := [_, _]) ty_Query rfl (Has.pt m0) rfl) ?_)))))))
        refine E.st rfl rfl (N.call (t_spec_VarsOf (by first | omega | assumption)) rfl rfl rfl (by decide) rfl (fun w Lp hA => ⟨hA.ro hq_Head, hA.ro hq_Atoms⟩)) (fun k27 _ => ?_)
        obtain ⟨a27, m27, c27⟩ := k27
        refine Ent.lenow m0 fun e27 l27 => ?_
        subst e27
        refine E.y rfl rfl (by decide) ((Y.as rfl).yd) ?_
        refine E.nil (E.thn (E.seq (E.seq (E.region (l := [0]) rfl (E.y rfl rfl (by decide) ((Y.as rfl).yd) ?_)))))
        refine E.nil (E.thn (E.block (E.loop (κ := Nat) (fun g => g ≤ q_Head.length ∧ (q_Head.any (badH q_Atoms)) = ((q_Head.drop g).any (badH q_Atoms))) (fun g => [(1, .pointer (some ⟨b1, 0, none⟩)), (3, strV ([121, 101, 115])), (4, .slice a27 (termsF (fun t => inR t 10 17) q_Atoms).length c27), (5, .int .i64 (↑g : Int))]) (fun g => [ow eIs [.slice a27 (termsF (fun t => inR t 10 17) q_Atoms).length c27] (termsF (fun t => inR t 10 17) q_Atoms), pt b1 47 [.slice a_q_Head q_Head.length c_q_Head, .slice a_q_Atoms q_Atoms.length c_q_Atoms]]) (fun g => q_Head.length - g) 0 ⟨Nat.zero_le _, by rfl⟩ ⟨rfl, rfl, rfl, rfl, trivial⟩ (.refl _) (fun g pg => ?_))))
        obtain ⟨pk, pa⟩ := pg
        have pa1 := pa
        refine E.seq (E.seq (E.region (l := [0, 1, 2, 3, 4]) rfl (E.y rfl rfl (by decide) ((Y.mv rfl).yd) ?_)))
        refine E.y rfl rfl (by decide) ((Y.fld fo_Query_0 ty_Is (by decide) rfl).yd) ?_
        refine E.y rfl rfl (by decide) (Y.ld1 ty_Is rfl ((Has.pt (mS m0)).sub (cs' := [_]) 0 rfl) rfl) ?_
        refine E.y rfl rfl (by decide) ((Y.len us_Is rfl).yd) ?_
        refine E.y rfl rfl (by decide) ((Y.lss rfl rfl).yd) (Ent.d (fun q32 => ?_) (fun q32 => ?_))
        · refine E.nil (E.thn (E.ct rfl (E.skipc (E.thn (E.seq (E.block (E.seq (E.region (l := [0, 1, 2, 3, 4, 5, 6, 7]) rfl (E.y rfl rfl (by decide) ((Y.mv rfl).yd) ?_)))))))))
          refine E.y rfl rfl (by decide) ((Y.fld fo_Query_0 ty_Is (by decide) rfl).yd) ?_
          refine E.y rfl rfl (by decide) (Y.ld1 ty_Is rfl ((Has.pt (mS m0)).sub (cs' := [_]) 0 rfl) rfl) ?_
          refine E.y rfl rfl (by decide) ((Y.mv rfl).yd) ?_
          obtain ⟨eb39, eo39, ea39, ei39, eh39⟩ := hq_Head.elemI g (by omega)
          refine E.y rfl rfl (by decide) ((Y.ix us_Is ty_I rfl ea39 rfl g rfl (by omega)).yd) ?_
          refine E.y rfl rfl (by decide) (Y.ld1 ty_I rfl (eh39 _) rfl) ?_
          refine E.st rfl rfl (N.call0 t_spec_l2Has rfl rfl rfl (by decide) (fun w Lp hA => hA.ow m0)) (fun _ _ => (Ent.b (fun q41 => ?_) (fun q41 => ?_)))
          · refine E.y rfl rfl (by decide) ((Y.not (b := true) rfl).yd) ?_
            refine E.nil (E.thn (E.cf rfl (E.skipc (E.bln (E.thn (E.region (l := [0, 1, 2]) rfl (E.y rfl rfl (by decide) ((Y.mv rfl).yd) ?_)))))))
            refine E.y rfl rfl (by decide) ((Y.add rfl rfl (by omega) (by omega)).yd) ?_
            refine E.y rfl rfl (by decide) ((Y.as rfl).yd) ?_
            refine E.nil (E.thn (Ent.p1 ?_))
            refine Ent.p1 ?_
            exact E.again (Back.refl _ _) (g + 1) ⟨rfl, rfl, rfl, rfl, trivial⟩ (.refl _) ⟨by omega, by rw [pa]; exact badH_step (by omega) q41⟩ (by omega)
          · refine E.y rfl rfl (by decide) ((Y.not (b := false) rfl).yd) ?_
            refine E.nil (E.thn (E.ct rfl (E.seq (E.region (l := [0]) rfl (E.y rfl rfl (by decide) ((Y.as rfl).yd) ?_)))))
            exact E.nil (E.thn (E.ret (E.blr (E.thr (E.thr (E.blr (E.thr (F.r1 (Back.refl _ _) rfl rfl () trivial (by rw [show (textQ (q_Head, q_Atoms)) = ([]) from (by exact textQ_no2 (okHead_any (pa.trans (badH_no (by omega) q41))))]; try rfl) (J := _) (.refl _) (.inl rfl)))))))))
        · refine E.nil (E.thn (E.cf rfl (E.exit (E.the (E.the (E.blh (E.thn (E.seq (E.region (l := [0, 1, 2]) rfl (E.y rfl rfl (by decide) ((Y.mv rfl).yd) ?_))))))))))
          refine E.y rfl rfl (by decide) ((Y.addS rfl rfl (by first | omega | (simp only [List.length_append, List.length_cons, List.length_nil] at *; omega))).yd) ?_
          refine E.y rfl rfl (by decide) ((Y.as rfl).yd) ?_
          refine E.nil (E.thn (E.seq (E.seq (E.region (l := [0]) rfl (E.y rfl rfl (by decide) ((Y.as rfl).yd) ?_)))))
          refine E.nil (E.thn (E.block (E.loop (κ := Nat) (fun r => r ≤ q_Atoms.length ∧ nT textA q_Atoms = nT textA (q_Atoms.drop r)) (fun r => [(1, .pointer (some ⟨b1, 0, none⟩)), (3, strV (headT q_Head ++ [32, 105, 102, 32] ++ Lib.join ((q_Atoms.take r).map textA) [32, 97, 110, 100, 32])), (6, .int .i64 (↑r : Int))]) (fun r => [ow eIs [.slice a27 (termsF (fun t => inR t 10 17) q_Atoms).length c27] (termsF (fun t => inR t 10 17) q_Atoms), pt b1 47 [.slice a_q_Head q_Head.length c_q_Head, .slice a_q_Atoms q_Atoms.length c_q_Atoms]]) (fun r => q_Atoms.length - r) (0) ⟨Nat.zero_le _, by rfl⟩ ⟨rfl, frS (by rw [join_zero, List.append_nil]; first | rw [headT_yes (h := q_Head) (by omega)] | rw [← headT_no (h := q_Head) (by omega)]), rfl, trivial⟩ (.refl _) (fun r pr => ?_))))
          show Ent _ _ _ [(1, .pointer (some ⟨b1, 0, none⟩)), (3, strV (headT q_Head ++ [32, 105, 102, 32] ++ Lib.join ((q_Atoms.take r).map textA) [32, 97, 110, 100, 32])), (6, .int .i64 (↑r : Int))] [ow eIs [.slice a27 (termsF (fun t => inR t 10 17) q_Atoms).length c27] (termsF (fun t => inR t 10 17) q_Atoms), pt b1 47 [.slice a_q_Head q_Head.length c_q_Head, .slice a_q_Atoms q_Atoms.length c_q_Atoms]] _
          obtain ⟨pk, pa⟩ := pr
          have pa2 := pa
          have jl := join_take_len (f := textA) (K := 100) (l := q_Atoms) (g := r) (n := 4) (B := 420) (sep := [32, 97, 110, 100, 32]) (fun x => textA_len) jr (by decide)
          refine E.seq (E.seq (E.region (l := [0, 1, 2, 3, 4]) rfl (E.y rfl rfl (by decide) ((Y.mv rfl).yd) ?_)))
          refine E.y rfl rfl (by decide) ((Y.fld fo_Query_1 ty_Atoms (by decide) rfl).yd) ?_
          refine E.y rfl rfl (by decide) (Y.ld1 ty_Atoms rfl ((Has.pt (mS m0)).sub (cs' := [_]) 1 rfl) rfl) ?_
          refine E.y rfl rfl (by decide) ((Y.len us_Atoms rfl).yd) ?_
          refine E.y rfl rfl (by decide) ((Y.lss rfl rfl).yd) (Ent.d (fun q49 => ?_) (fun q49 => ?_))
          · refine E.nil (E.thn (E.ct rfl (E.skipc (E.thn (E.seq (E.block (E.seq (E.region (l := [0, 1, 2, 3, 4, 5, 6]) rfl (E.y rfl rfl (by decide) ((Y.fld fo_Query_1 ty_Atoms (by decide) rfl).yd) ?_)))))))))
            refine E.y rfl rfl (by decide) (Y.ld1 ty_Atoms rfl ((Has.pt (mS m0)).sub (cs' := [_]) 1 rfl) rfl) ?_
            refine E.y rfl rfl (by decide) ((Y.mv rfl).yd) ?_
            obtain ⟨eb55, eo55, ec55, ea55, er55, el55, eh55⟩ := hq_Atoms.elem r (by omega)
            obtain ⟨xa55_0, xc55_0, rfl, ei55_0, xh55_0⟩ := Ro.pAtom er55
            have := xh55_0.slen.2
            refine E.y rfl rfl (by decide) ((Y.ix us_Atoms ty_Atom rfl ea55 rfl r rfl (by omega)).yd) ?_
            refine E.y rfl rfl (by decide) (Y.ldS (cs := [_, _]) ty_Atom rfl (eh55 _) rfl) ?_
            refine E.st rfl rfl (N.call0 t_spec_FormatAtom rfl rfl rfl (by decide) (fun w Lp hA => ⟨ei55_0, hA.ro xh55_0⟩)) (fun _ _ => ?_)
            refine E.y rfl rfl (by decide) ((Y.as rfl).yd) ?_
            refine E.nil (E.thn (E.seq (E.seq (E.region (l := [0, 1]) rfl (E.y rfl rfl (by decide) ((Y.mv rfl).yd) ?_)))))
            refine E.y rfl rfl (by decide) ((Y.eqlS rfl rfl).yd) (Ent.d (fun q59 => ?_) (fun q59 => ?_))
            · refine E.nil (E.thn (E.ct rfl (E.seq (E.region (l := [0]) rfl (E.y rfl rfl (by decide) ((Y.as rfl).yd) ?_)))))
              exact E.nil (E.thn (E.ret (E.thr (E.blr (E.thr (E.thr (E.blr (E.thr (F.r1 (Back.refl _ _) rfl rfl () trivial (by rw [show (textQ (q_Head, q_Atoms)) = ([]) from (by exact textQ_no3 (pa2.trans (nT_no (by omega) q59)))]; try rfl) (J := _) (.refl _) (.inl rfl))))))))))
            · have ja : (textA (q_Atoms[r].1, q_Atoms[r].2)).length ≤ 100 := textA_len
              refine E.nil (E.thn (E.cf rfl (E.skipc (E.thn (E.seq (E.seq (E.region (l := [0, 1]) rfl (E.y rfl rfl (by decide) ((Y.mv rfl).yd) ?_))))))))
              refine E.y rfl rfl (by decide) ((Y.gtr rfl rfl).yd) (Ent.d (fun q61 => ?_) (fun q61 => ?_))
              · refine E.nil (E.thn (E.ct rfl (E.region (l := [0, 1, 2]) rfl (E.y rfl rfl (by decide) ((Y.mv rfl).yd) ?_))))
                refine E.y rfl rfl (by decide) ((Y.addS rfl rfl (by first | omega | (simp only [List.length_append, List.length_cons, List.length_nil] at *; omega))).yd) ?_
                refine E.y rfl rfl (by decide) ((Y.as rfl).yd) ?_
                refine E.nil (E.thn (E.region (l := [0, 1, 2, 3]) rfl (E.y rfl rfl (by decide) ((Y.mv rfl).yd) ?_)))
                refine E.y rfl rfl (by decide) ((Y.mv rfl).yd) ?_
                refine E.y rfl rfl (by decide) ((Y.addS rfl rfl (by first | omega | (simp only [List.length_append, List.length_cons, List.length_nil] at *; omega))).yd) ?_
                refine E.y rfl rfl (by decide) ((Y.as rfl).yd) ?_
                refine E.nil (E.bln (E.thn (E.region (l := [0, 1, 2]) rfl (E.y rfl rfl (by decide) ((Y.mv rfl).yd) ?_))))
                refine E.y rfl rfl (by decide) ((Y.add rfl rfl (by omega) (by omega)).yd) ?_
                refine E.y rfl rfl (by decide) ((Y.as rfl).yd) ?_
                refine E.nil (E.thn (Ent.p1 ?_))
                refine Ent.p1 ?_
                exact E.again (Back.refl _ _) (r + 1) ⟨rfl, frS (by first | exact join_stepP0 (f := textA) (by omega) (by omega) | exact join_stepP (f := textA) (by omega) (by omega)), rfl, trivial⟩ (.refl _) ⟨(show r + 1 ≤ q_Atoms.length from by omega), (show nT textA q_Atoms = nT textA (q_Atoms.drop (r + 1)) from by rw [pa2]; exact nT_step (by omega) q59)⟩ (show q_Atoms.length - (r + 1) < q_Atoms.length - r from by omega)
              · refine E.nil (E.thn (E.cf rfl (E.skipc (E.thn (E.region (l := [0, 1, 2, 3]) rfl (E.y rfl rfl (by decide) ((Y.mv rfl).yd) ?_))))))
                refine E.y rfl rfl (by decide) ((Y.mv rfl).yd) ?_
                refine E.y rfl rfl (by decide) ((Y.addS rfl rfl (by first | omega | (simp only [List.length_append, List.length_cons, List.length_nil] at *; omega))).yd) ?_
                refine E.y rfl rfl (by decide) ((Y.as rfl).yd) ?_
                refine E.nil (E.bln (E.thn (E.region (l := [0, 1, 2]) rfl (E.y rfl rfl (by decide) ((Y.mv rfl).yd) ?_))))
                refine E.y rfl rfl (by decide) ((Y.add rfl rfl (by omega) (by omega)).yd) ?_
                refine E.y rfl rfl (by decide) ((Y.as rfl).yd) ?_
                refine E.nil (E.thn (Ent.p1 ?_))
                refine Ent.p1 ?_
                exact E.again (Back.refl _ _) (r + 1) ⟨rfl, frS (by first | exact join_stepP0 (f := textA) (by omega) (by omega) | exact join_stepP (f := textA) (by omega) (by omega)), rfl, trivial⟩ (.refl _) ⟨(show r + 1 ≤ q_Atoms.length from by omega), (show nT textA q_Atoms = nT textA (q_Atoms.drop (r + 1)) from by rw [pa2]; exact nT_step (by omega) q59)⟩ (show q_Atoms.length - (r + 1) < q_Atoms.length - r from by omega)
          · refine E.nil (E.thn (E.cf rfl (E.exit (E.the (E.the (E.blh (E.thn (E.seq (E.region (l := [0, 1]) rfl (E.y rfl rfl (by decide) ((Y.mv rfl).yd) ?_))))))))))
            refine E.y rfl rfl (by decide) ((Y.as rfl).yd) ?_
            exact E.nil (E.thn (E.ret (F.r1 (Back.refl _ _) rfl rfl () trivial (by rw [show (textQ (q_Head, q_Atoms)) = (headT q_Head ++ [32, 105, 102, 32] ++ Lib.join ((q_Atoms.take r).map textA) [32, 97, 110, 100, 32]) from (by rw [textQ_yes q11 (okHead_yes q17 (pa1.trans (badH_end (by omega)))) (pa2.trans (nT_end (by omega)))]; rw [List.take_of_length_le (by omega)])]; try rfl) (J := _) (.refl _) (.inl rfl))))
  · refine E.y rfl rfl (by decide) ((Y.not (b := false) rfl).yd) ?_
    refine E.y rfl rfl (by decide) ((Y.mv rfl).yd) ?_
    refine E.skip rfl rfl rfl ?_
    refine E.skip rfl rfl rfl ?_
    refine E.skip rfl rfl rfl ?_
    refine E.skip rfl rfl rfl ?_
    refine E.y rfl rfl (by decide) ((Y.pkt rfl rfl).yd) ?_
    refine E.nil (E.thn (E.ct rfl (E.seq (E.region (l := [0]) rfl (E.y rfl rfl (by decide) ((Y.as rfl).yd) ?_)))))
    exact E.nil (E.thn (E.ret (E.thr (F.r1 (Back.refl _ _) rfl rfl () trivial (by rw [show (textQ (q_Head, q_Atoms)) = ([]) from (by exact textQ_no1 q11)]; try rfl) (J := _) (.refl _) (.inl rfl)))))
end Go.Proofs.YtlbfbeldhkcdiaaDoor
