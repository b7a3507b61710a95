import Derived.Test.YtnagfcajnbkdoaaT8
import Derived.Test.YtnagfcajnbkdoaaT6
import Derived.Test.YtnagfcajnbkdoaaDh
namespace Go.Proofs.Ytnagfcajnbkdoaa
open Go.RowKit
set_option linter.unusedVariables false
set_option linter.unusedSimpArgs false
attribute [local irreducible] Nop Yd Yp Ent Has Tr FnP FnP2 Src
theorem t_impl_HasFact_1 {x_Rel : Int} {a_x_Values : Option Addr} {m_x_Values c_x_Values : Nat} {x_Values : List Int} {b_f : Nat} {f_Rel : Int} {a_f_Values : Option Addr} {m_f_Values c_f_Values : Nat} {f_Values : List Int} : Tr Try.prog 164 [.agg #[.int .i64 x_Rel, .slice a_x_Values m_x_Values c_x_Values], .pointer (some ⟨b_f, 0, none⟩)] (fun w L => (I64 x_Rel ∧ Ro w L eIs [.slice a_x_Values m_x_Values c_x_Values] x_Values) ∧ RoPt w L b_f [.int .i64 f_Rel, .slice a_f_Values m_f_Values c_f_Values] ∧ I64 f_Rel ∧ Ro w L eIs [.slice a_f_Values m_f_Values c_f_Values] f_Values) [] (κ := Unit) (fun k => True) (fun k => .bool (decide (cmpF (x_Rel, x_Values) (f_Rel, f_Values) = 0))) (fun k => []) := by
  refine Tr.intro Try.func164 rfl (n := 8) rfl (by decide +kernel) (Nat.le_of_ble_eq_true rfl) (fr := [(0, .agg #[.int .i64 x_Rel, .slice a_x_Values m_x_Values c_x_Values]), (1, .pointer (some ⟨b_f, 0, none⟩))]) rfl fun w L hR => ?_
  obtain ⟨⟨i6x_Rel, hx_Values⟩, hb_f, i6f_Rel, hf_Values⟩ := hR
  obtain ⟨rfl, lx_Values⟩ := hx_Values.slen
  obtain ⟨rfl, lf_Values⟩ := hf_Values.slen
  refine E.seq (E.region (l := [0, 1]) rfl (E.st rfl rfl (N.box (cs := [_, _]) rfl (by decide) rfl) (fun b2 _ => ?_)))
  refine E.y rfl rfl (by decide) ((Y.as rfl).yd) ?_
  refine E.nil (E.thn (E.seq (E.region (l := [0, 1, 2, 3, 4]) rfl (E.y rfl rfl (by decide) (Y.ldS (cs := [_, _]) ty_Fact rfl (Has.pt m0) rfl) ?_))))
  refine E.y rfl rfl (by decide) (Y.ldS (cs := [_, _]) ty_Fact rfl (hb_f.has) rfl) ?_
  refine E.st rfl rfl (N.call0 t_impl_CompareFacts rfl rfl rfl (by decide) (fun w Lp hA => ⟨i6x_Rel, hA.ro hx_Values, i6f_Rel, hA.ro hf_Values⟩)) (fun _ _ => ?_)
  refine E.y rfl rfl (by decide) ((Y.eql rfl rfl).yd) ?_
  refine E.y rfl rfl (by decide) ((Y.as rfl).yd) ?_
  exact E.nil (E.thn (E.ret (F.r1 (Back.refl _ _) rfl rfl () trivial rfl (J := _) (.refl _) (.inl rfl))))
theorem t_impl_HasFact {a_l : Option Addr} {m_l c_l : Nat} {l : List (Int × List Int)} {f_Rel : Int} {a_f_Values : Option Addr} {m_f_Values c_f_Values : Nat} {f_Values : List Int} : Tr Try.prog 103 [.slice a_l m_l c_l, .agg #[.int .i64 f_Rel, .slice a_f_Values m_f_Values c_f_Values]] (fun w L => Ro w L eFacts [.slice a_l m_l c_l] l ∧ I64 f_Rel ∧ Ro w L eIs [.slice a_f_Values m_f_Values c_f_Values] f_Values) [] (κ := Unit) (fun k => True) (fun k => .bool (hasF l (f_Rel, f_Values))) (fun k => []) := by
  refine Tr.intro Try.func103 rfl (n := 8) rfl (by decide +kernel) (Nat.le_of_ble_eq_true rfl) (fr := [(0, .slice a_l m_l c_l), (1, .agg #[.int .i64 f_Rel, .slice a_f_Values m_f_Values c_f_Values])]) rfl fun w L hR => ?_
  obtain ⟨hl, i6f_Rel, hf_Values⟩ := hR
  obtain ⟨rfl, ll⟩ := hl.slen
  obtain ⟨rfl, lf_Values⟩ := hf_Values.slen
  refine E.seq (E.region (l := [0, 1]) rfl (E.st rfl rfl (N.box (cs := [_, _]) rfl (by decide) rfl) (fun b3 _ => ?_)))
  refine E.y rfl rfl (by decide) ((Y.as rfl).yd) ?_
  refine E.nil (E.thn (E.seq (E.region (l := [0, 1, 2, 3]) rfl (E.y rfl rfl (by decide) ((Y.mv rfl).yd) ?_))))
  refine E.y rfl rfl (by decide) ((Y.fn (vs := [_]) rfl).yd) ?_
  refine E.st rfl rfl (N.call0 (t_ContainsFunc_Fact (f := (fun z => decide (cmpF z (f_Rel, f_Values) = 0))) (D_f := (fun _ => True)) (fun _ _ => trivial)) rfl rfl rfl (by decide) (fun w Lp hA => ⟨hA.ro hl, FnP.ofFact (D := (fun _ => True)) (fun hd => t_impl_HasFact_1) (fun w' hk => ⟨(hA.pt m0).keep hk, i6f_Rel, (hA.ro hf_Values).keep hk⟩)⟩)) (fun _ _ => ?_)
  refine E.y rfl rfl (by decide) ((Y.as rfl).yd) ?_
  exact E.nil (E.thn (E.ret (F.r1 (Back.refl _ _) rfl rfl () trivial (congrArg Value.bool (by rfl)) (J := _) (.refl _) (.inl rfl))))
theorem t_spec_HasFact {a_l : Option Addr} {m_l c_l : Nat} {l : List (Int × List Int)} {f_Rel : Int} {a_f_Values : Option Addr} {m_f_Values c_f_Values : Nat} {f_Values : List Int} : Tr Try.prog 99 [.slice a_l m_l c_l, .agg #[.int .i64 f_Rel, .slice a_f_Values m_f_Values c_f_Values]] (fun w L => Ro w L eFacts [.slice a_l m_l c_l] l ∧ I64 f_Rel ∧ Ro w L eIs [.slice a_f_Values m_f_Values c_f_Values] f_Values) [] (κ := Unit) (fun k => True) (fun k => .bool (hasF l (f_Rel, f_Values))) (fun k => []) := by
  refine Tr.intro Try.func99 rfl (n := 19) rfl (by decide +kernel) (Nat.le_of_ble_eq_true rfl) (fr := [(0, .slice a_l m_l c_l), (1, .agg #[.int .i64 f_Rel, .slice a_f_Values m_f_Values c_f_Values])]) rfl fun w L hR => ?_
  obtain ⟨hl, i6f_Rel, hf_Values⟩ := hR
  obtain ⟨rfl, ll⟩ := hl.slen
  obtain ⟨rfl, lf_Values⟩ := hf_Values.slen
  refine E.seq (E.region (l := [0, 1]) rfl (E.st rfl rfl (N.box (cs := [_, _]) rfl (by decide) rfl) (fun b3 _ => ?_)))
  refine E.y rfl rfl (by decide) ((Y.as rfl).yd) ?_
  refine E.nil (E.thn (E.seq (E.seq (E.region (l := [0]) rfl (E.y rfl rfl (by decide) ((Y.as rfl).yd) ?_)))))
  refine E.nil (E.thn (E.block (E.loop (κ := Nat) (fun g => g ≤ l.length ∧ hasF l (f_Rel, f_Values) = hasF (l.drop g) (f_Rel, f_Values)) (fun g => [(0, .slice a_l l.length c_l), (3, .pointer (some ⟨b3, 0, none⟩)), (5, .int .i64 (↑g : Int))]) (fun g => [pt b3 69 [.int .i64 f_Rel, .slice a_f_Values f_Values.length c_f_Values]]) (fun g => l.length - g) 0 ⟨Nat.zero_le _, by simp⟩ ⟨rfl, rfl, rfl, trivial⟩ (.refl _) (fun g pg => ?_))))
  obtain ⟨pk, pa⟩ := pg
  refine E.seq (E.seq (E.region (l := [0, 1, 2, 3]) rfl (E.y rfl rfl (by decide) ((Y.mv rfl).yd) ?_)))
  refine E.y rfl rfl (by decide) ((Y.mv rfl).yd) ?_
  refine E.y rfl rfl (by decide) ((Y.len us_Facts rfl).yd) ?_
  refine E.y rfl rfl (by decide) ((Y.lss rfl rfl).yd) (Ent.d (fun q9 => ?_) (fun q9 => ?_))
  · refine E.nil (E.thn (E.ct rfl (E.skipc (E.thn (E.seq (E.block (E.seq (D.region (fun j => true) mixed (D.yp 0 rfl rfl (by decide) (Y.mv rfl) (by kernel_rfl) ?_)))))))))
    refine D.yp 1 rfl rfl (by decide) (Y.mv rfl) (by kernel_rfl) ?_
    obtain ⟨eb14, eo14, ec14, ea14, er14, el14, eh14⟩ := hl.elem g (by omega)
    obtain ⟨xa14_0, xc14_0, rfl, ei14_0, xh14_0⟩ := Ro.pFact er14
    have := xh14_0.slen.2
    refine D.yp 2 rfl rfl (by decide) (Y.ix us_Facts ty_Fact rfl ea14 rfl g rfl (by omega)) (by kernel_rfl) ?_
    refine D.y 3 rfl rfl (by decide) (Y.ldS (cs := [_, _]) ty_Fact rfl (eh14 _) rfl) (by kernel_rfl) ?_
    refine D.y 4 rfl rfl (by decide) (Y.ldS (cs := [_, _]) ty_Fact rfl (Has.pt m0) rfl) (by kernel_rfl) ?_
    refine D.st 5 rfl rfl (by kernel_rfl) (fun _ => rfl) (N.call0 t_spec_CompareFacts rfl rfl rfl (by decide) (fun w Lp hA => ⟨ei14_0, hA.ro xh14_0, i6f_Rel, hA.ro hf_Values⟩)) (fun _ _ => ?_)
    refine D.yp 6 rfl rfl (by decide) (Y.eql rfl rfl) (by kernel_rfl) (Ent.d (fun q18 => ?_) (fun q18 => ?_))
    · refine D.done (by kernel_rfl) (E.thn (E.ct rfl (E.seq (E.region (l := [0]) rfl (E.y rfl rfl (by decide) ((Y.as rfl).yd) ?_)))))
      exact E.nil (E.thn (E.ret (E.blr (E.thr (E.thr (E.blr (E.thr (F.r1 (Back.refl _ _) rfl rfl () trivial (congrArg Value.bool (by grind [hasF, List.drop_eq_getElem_cons, List.drop_eq_nil_of_le, List.take_succ_eq_append_getElem, List.take_of_length_le])) (J := _) (.refl _) (.inl rfl)))))))))
    · refine D.done (by kernel_rfl) (E.thn (E.cf rfl (E.skipc (E.bln (E.thn (E.region (l := [0, 1, 2]) rfl (E.y rfl rfl (by decide) ((Y.mv rfl).yd) ?_)))))))
      refine E.y rfl rfl (by decide) ((Y.add rfl rfl (by omega) (by omega)).yd) ?_
      refine E.y rfl rfl (by decide) ((Y.as rfl).yd) ?_
      exact E.nil (E.thn (E.again (Back.refl _ _) (g + 1) ⟨rfl, rfl, rfl, trivial⟩ (.refl _) ⟨by omega, by grind [hasF, List.drop_eq_getElem_cons, List.drop_eq_nil_of_le, List.take_succ_eq_append_getElem, List.take_of_length_le]⟩ (by omega)))
  · refine E.nil (E.thn (E.cf rfl (E.exit (E.the (E.the (E.blh (E.thn (E.seq (E.region (l := [0]) rfl (E.y rfl rfl (by decide) ((Y.as rfl).yd) ?_))))))))))
    exact E.nil (E.thn (E.ret (F.r1 (Back.refl _ _) rfl rfl () trivial (congrArg Value.bool (by grind [hasF, List.drop_eq_getElem_cons, List.drop_eq_nil_of_le, List.take_succ_eq_append_getElem, List.take_of_length_le])) (J := _) (.refl _) (.inl rfl))))
theorem t_impl_factOf {a_Rel : Int} {a_a_Terms : Option Addr} {m_a_Terms c_a_Terms : Nat} {a_Terms : List Int} {a_b_Vars : Option Addr} {m_b_Vars c_b_Vars : Nat} {b_Vars : List Int} {a_b_Values : Option Addr} {m_b_Values c_b_Values : Nat} {b_Values : List Int} (hz : a_Terms.length ≤ 1048576) : Tr Try.prog 104 [.agg #[.int .i64 a_Rel, .slice a_a_Terms m_a_Terms c_a_Terms], .agg #[.slice a_b_Vars m_b_Vars c_b_Vars, .slice a_b_Values m_b_Values c_b_Values]] (fun w L => I64 a_Rel ∧ Ro w L eIs [.slice a_a_Terms m_a_Terms c_a_Terms] a_Terms ∧ Ro w L eIs [.slice a_b_Vars m_b_Vars c_b_Vars] b_Vars ∧ Ro w L eIs [.slice a_b_Values m_b_Values c_b_Values] b_Values) [] (κ := Option Addr × Nat × Nat) (fun k => True) (fun k => .agg #[.int .i64 ((factO (a_Rel, a_Terms) (b_Vars, b_Values)).1), .slice k.1 k.2.1 k.2.2]) (fun k => [ow eIs [.slice k.1 k.2.1 k.2.2] ((factO (a_Rel, a_Terms) (b_Vars, b_Values)).2)]) := by
  refine Tr.intro Try.func104 rfl (n := 29) rfl (by decide +kernel) (Nat.le_of_ble_eq_true rfl) (fr := [(0, .agg #[.int .i64 a_Rel, .slice a_a_Terms m_a_Terms c_a_Terms]), (1, .agg #[.slice a_b_Vars m_b_Vars c_b_Vars, .slice a_b_Values m_b_Values c_b_Values])]) rfl fun w L hR => ?_
  obtain ⟨i6a_Rel, ha_Terms, hb_Vars, hb_Values⟩ := hR
  obtain ⟨rfl, la_Terms⟩ := ha_Terms.slen
  obtain ⟨rfl, lb_Vars⟩ := hb_Vars.slen
  obtain ⟨rfl, lb_Values⟩ := hb_Values.slen
  have jv := valO_i64s (b := (b_Vars, b_Values)) (l := a_Terms) ha_Terms.i64 hb_Vars.i64 hb_Values.i64
  refine E.seq (E.region (l := [0, 1, 2]) rfl (E.st rfl rfl (N.box (cs := [_, _]) rfl (by decide) rfl) (fun b2 _ => ?_)))
  refine E.st rfl rfl (N.box (cs := [_, _]) rfl (by decide) rfl) (fun b3 _ => ?_)
  refine E.st rfl rfl (N.alloc ty_Fact (by decide)) (fun b4 _ => ?_)
  refine E.nil (E.thn (E.seq (E.region (l := [0, 1, 2, 3, 4, 5]) rfl (E.y rfl rfl (by decide) ((Y.fld fo_Atom_0 ty_I (by decide) rfl).yd) ?_))))
  refine E.y rfl rfl (by decide) (Y.ld1 ty_I rfl ((Has.pt (mS (mS m0))).sub (cs' := [_]) 0 rfl) rfl) ?_
  refine E.st rfl rfl (N.bsl (pvs := []) (cs := []) us_Is ty_I rfl (by decide) (by decide) (fillZ rfl rfl) rfl (by decide)) (fun b10 _ => ?_)
  refine Ent.drop ?_
  refine E.y rfl rfl (by decide) ((Y.bld (pvs := [_, _]) (cs := [_, _]) ty_Fact pl_Fact rfl rfl).yd) ?_
  refine E.st rfl rfl (N.alloc ty_Fact (by decide)) (fun b5 _ => ?_)
  refine E.st rfl rfl (N.sto (vs := [_, _]) (cs' := [_, _]) ty_Fact rfl rfl rfl rfl rfl (Nat.le_of_ble_eq_true rfl) rfl) (fun _ _ => ?_)
  refine E.nil (E.thn (E.seq (E.seq (E.region (l := [0, 1, 2, 3]) rfl (E.y rfl rfl (by decide) ((Y.fld fo_Atom_1 ty_Is (by decide) rfl).yd) ?_)))))
  refine E.y rfl rfl (by decide) (Y.ld1 ty_Is rfl ((Has.pt (mS (mS (mS m0)))).sub (cs' := [_]) 1 rfl) rfl) ?_
  refine E.y rfl rfl (by decide) ((Y.len us_Is rfl).yd) ?_
  refine E.y rfl rfl (by decide) ((Y.mv rfl).yd) ?_
  refine E.nil (E.thn (E.block (Ent.mkow (A := []) (Own.nil (E := Enc.int) (e := tI) (a := (some ⟨b10, 0, none⟩))) rfl ?_)))
  refine Ent.cv (congrArg (ow eIs [_]) (show [] = (a_Terms.take 0).map (valO (b_Vars, b_Values)) from by first | rfl | simp)) ?_
  refine E.loop (κ := Nat × Option Addr × Nat × Nat) (fun g => g.1 ≤ a_Terms.length ∧ True) (fun g => [(3, .pointer (some ⟨b3, 0, none⟩)), (4, .pointer (some ⟨b4, 0, none⟩)), (5, .pointer (some ⟨b5, 0, none⟩)), (13, .slice a_a_Terms a_Terms.length c_a_Terms), (14, .int .i64 (↑a_Terms.length : Int)), (15, .int .i64 (↑g.1 : Int))]) (fun g => [ow eIs [.slice g.2.1 g.2.2.1 g.2.2.2] ((a_Terms.take g.1).map (valO (b_Vars, b_Values))), pt b5 69 [.int .i64 a_Rel, .slice g.2.1 g.2.2.1 g.2.2.2], pt b4 69 [.int .i64 0, .slice none 0 0], pt b3 54 [.slice a_b_Vars b_Vars.length c_b_Vars, .slice a_b_Values b_Values.length c_b_Values], pt b2 112 [.int .i64 a_Rel, .slice a_a_Terms a_Terms.length c_a_Terms]]) (fun g => a_Terms.length - g.1) (0, (some ⟨b10, 0, none⟩), 0, 0) ⟨Nat.zero_le _, by simp⟩ ⟨rfl, rfl, rfl, rfl, rfl, rfl, trivial⟩ (.refl _) (fun g pg => ?_)
  obtain ⟨g, aA0_0, mA0_0, cA0_0⟩ := g
  try dsimp only at pg
  show Ent _ _ _ [(3, .pointer (some ⟨b3, 0, none⟩)), (4, .pointer (some ⟨b4, 0, none⟩)), (5, .pointer (some ⟨b5, 0, none⟩)), (13, .slice a_a_Terms a_Terms.length c_a_Terms), (14, .int .i64 (↑a_Terms.length : Int)), (15, .int .i64 (↑g : Int))] [ow eIs [.slice aA0_0 mA0_0 cA0_0] ((a_Terms.take g).map (valO (b_Vars, b_Values))), pt b5 69 [.int .i64 a_Rel, .slice aA0_0 mA0_0 cA0_0], pt b4 69 [.int .i64 0, .slice none 0 0], pt b3 54 [.slice a_b_Vars b_Vars.length c_b_Vars, .slice a_b_Values b_Values.length c_b_Values], pt b2 112 [.int .i64 a_Rel, .slice a_a_Terms a_Terms.length c_a_Terms]] _
  obtain ⟨pk, pa⟩ := pg
  refine Ent.lenow m0 fun eaA0_0 laA0_0 => ?_
  subst eaA0_0
  refine E.seq (E.region (l := [0]) rfl (E.y rfl rfl (by decide) ((Y.lss rfl rfl).yd) (Ent.d (fun q16 => ?_) (fun q16 => ?_))))
  · obtain ⟨eb17, eo17, ea17, ei17, eh17⟩ := ha_Terms.elemI g (by omega)
    refine E.nil (E.thn (E.seq (E.ct rfl (E.skipc (E.thn (E.seq (E.block (E.seq (E.region (l := [0, 1, 2]) rfl (E.y rfl rfl (by decide) ((Y.ix us_Is ty_I rfl ea17 rfl g rfl (by omega)).yd) ?_))))))))))
    refine E.y rfl rfl (by decide) (Y.ld1 ty_I rfl (eh17 _) rfl) ?_
    refine E.y rfl rfl (by decide) ((Y.as rfl).yd) ?_
    refine E.nil (E.thn (D.region (fun j => !(Nat.beq j 6) && !(Nat.beq j 8)) mixed (D.yp 0 rfl rfl (by decide) (Y.fld fo_Fact_1 ty_Is (by decide) rfl) (by kernel_rfl) ?_)))
    refine D.y 1 rfl rfl (by decide) (Y.ld1 ty_Is rfl ((Has.pt (mS m0)).sub (cs' := [_]) 1 rfl) rfl) (by kernel_rfl) ?_
    refine D.y 2 rfl rfl (by decide) (Y.ldS (cs := [_, _]) ty_Binding rfl (Has.pt (mS (mS (mS m0)))) rfl) (by kernel_rfl) ?_
    refine D.yp 3 rfl rfl (by decide) (Y.mv rfl) (by kernel_rfl) ?_
    refine D.st 4 rfl rfl (by kernel_rfl) (fun _ => rfl) (N.call0 t_impl_ValueOf rfl rfl rfl (by decide) (fun w Lp hA => ⟨hA.ro hb_Vars, hA.ro hb_Values⟩)) (fun _ _ => ?_)
    refine D.st 5 rfl rfl (by kernel_rfl) (fun _ => rfl) (N.bsl (pvs := [_]) (cs := [_]) us_Is ty_I rfl (by decide) (by decide) (fillZ rfl rfl) rfl (by decide)) (fun b24 _ => ?_)
    refine Ent.p1 ?_
    refine D.st 6 rfl rfl (by kernel_rfl) (fun h => by cases h) (N.push (E := Enc.int) (ex := valO (b_Vars, b_Values) a_Terms[g]) us_Is ty_I rfl rfl rfl (Own.int (by first | assumption | (unfold I64; (try dsimp only); omega) | grind)) rfl (by first | omega | (simp only [List.length_map, List.length_take, List.length_append, List.length_drop, List.length_cons, List.length_nil]; omega)) (by first | omega | (simp only [List.length_map, List.length_take, List.length_append, List.length_drop, List.length_cons, List.length_nil]; omega)) (by decide)) (fun p25 _ => ?_)
    refine D.yp 7 rfl rfl (by decide) (Y.fld fo_Fact_1 ty_Is (by decide) rfl) (by kernel_rfl) ?_
    refine Ent.p1 ?_
    refine D.st 8 rfl rfl (by kernel_rfl) (fun h => by cases h) (N.sto (vs := [_]) (cs' := [_, _]) ty_Is rfl rfl rfl rfl rfl (Nat.le_of_ble_eq_true rfl) rfl) (fun _ _ => ?_)
    refine D.done (by kernel_rfl) (E.bln (E.thn (E.region (l := [0, 1]) rfl (E.y rfl rfl (by decide) ((Y.add rfl rfl (by omega) (by omega)).yd) ?_))))
    refine E.y rfl rfl (by decide) ((Y.mv rfl).yd) ?_
    refine E.nil (E.thn (Ent.p1 ?_))
    refine Ent.cv (congrArg (ow eIs [_]) (show ((a_Terms.take g).map (valO (b_Vars, b_Values))) ++ [valO (b_Vars, b_Values) a_Terms[g]] = (a_Terms.take (g + 1)).map (valO (b_Vars, b_Values)) from by grind [factO, List.drop_eq_getElem_cons, List.drop_eq_nil_of_le, List.take_succ_eq_append_getElem, List.take_of_length_le])) ?_
    refine Ent.p4 ?_
    refine Ent.p4 ?_
    refine Ent.p4 ?_
    refine Ent.p4 ?_
    refine Ent.p4 ?_
    exact E.again (Back.refl _ _) (g + 1, p25.1, (((a_Terms.take g).map (valO (b_Vars, b_Values))).length + 1), p25.2) ⟨rfl, rfl, rfl, rfl, rfl, rfl, trivial⟩ (.refl _) ⟨(show g + 1 ≤ a_Terms.length from by omega), (show True from by grind [List.drop_eq_getElem_cons, List.drop_eq_nil_of_le, List.take_succ_eq_append_getElem, List.take_of_length_le])⟩ (show a_Terms.length - (g + 1) < a_Terms.length - g from by omega)
  · refine E.nil (E.thn (E.seq (E.cf rfl (E.exit (E.the (E.the (E.blh (E.thn (E.seq (E.region (l := [0, 1]) rfl (E.y rfl rfl (by decide) (Y.ldS (cs := [_, _]) ty_Fact rfl (Has.pt (mS m0)) rfl) ?_)))))))))))
    refine Ent.p2 ?_
    refine E.st rfl rfl (N.sto (vs := [_, _]) (cs' := [_, _]) ty_Fact rfl rfl rfl rfl rfl (Nat.le_of_ble_eq_true rfl) rfl) (fun _ _ => ?_)
    refine E.nil (E.thn (E.ret (Ent.p1 ?_)))
    refine Ent.cv (congrArg (ow eIs [_]) (show _ = (factO (a_Rel, a_Terms) (b_Vars, b_Values)).2 by grind [factO, List.drop_eq_getElem_cons, List.drop_eq_nil_of_le, List.take_succ_eq_append_getElem, List.take_of_length_le])) ?_
    exact F.c1 (Back.refl _ _) rfl rfl (mS m0) ty_Fact rfl (_, _, _) trivial (by rw [show ((factO (a_Rel, a_Terms) (b_Vars, b_Values)).1) = (a_Rel) from (by grind [factO, List.drop_eq_getElem_cons, List.drop_eq_nil_of_le, List.take_succ_eq_append_getElem, List.take_of_length_le])]; try rfl) (J := _) (.refl _) (.inl rfl)
theorem t_impl_IsMapping_1 {a_Rel : Int} {a_a_Terms : Option Addr} {m_a_Terms c_a_Terms : Nat} {a_Terms : List Int} {b_facts : Nat} {a_facts : Option Addr} {m_facts c_facts : Nat} {facts : List (Int × List Int)} {b_b : Nat} {a_b_Vars : Option Addr} {m_b_Vars c_b_Vars : Nat} {b_Vars : List Int} {a_b_Values : Option Addr} {m_b_Values c_b_Values : Nat} {b_Values : List Int} (hz : a_Terms.length ≤ 1048576) : Tr Try.prog 102 [.agg #[.int .i64 a_Rel, .slice a_a_Terms m_a_Terms c_a_Terms], .pointer (some ⟨b_facts, 0, none⟩), .pointer (some ⟨b_b, 0, none⟩)] (fun w L => (I64 a_Rel ∧ Ro w L eIs [.slice a_a_Terms m_a_Terms c_a_Terms] a_Terms) ∧ RoPt w L b_facts [.slice a_facts m_facts c_facts] ∧ Ro w L eFacts [.slice a_facts m_facts c_facts] facts ∧ RoPt w L b_b [.slice a_b_Vars m_b_Vars c_b_Vars, .slice a_b_Values m_b_Values c_b_Values] ∧ Ro w L eIs [.slice a_b_Vars m_b_Vars c_b_Vars] b_Vars ∧ Ro w L eIs [.slice a_b_Values m_b_Values c_b_Values] b_Values) [] (κ := Unit) (fun k => True) (fun k => .bool (!hasF facts (factO (a_Rel, a_Terms) (b_Vars, b_Values)))) (fun k => []) := by
  refine Tr.intro Try.func102 rfl (n := 11) rfl (by decide +kernel) (Nat.le_of_ble_eq_true rfl) (fr := [(0, .agg #[.int .i64 a_Rel, .slice a_a_Terms m_a_Terms c_a_Terms]), (1, .pointer (some ⟨b_facts, 0, none⟩)), (2, .pointer (some ⟨b_b, 0, none⟩))]) rfl fun w L hR => ?_
  obtain ⟨⟨i6a_Rel, ha_Terms⟩, hb_facts, hfacts, hb_b, hb_Vars, hb_Values⟩ := hR
  obtain ⟨rfl, la_Terms⟩ := ha_Terms.slen
  obtain ⟨rfl, lfacts⟩ := hfacts.slen
  obtain ⟨rfl, lb_Vars⟩ := hb_Vars.slen
  obtain ⟨rfl, lb_Values⟩ := hb_Values.slen
  refine E.seq (E.region (l := [0, 1]) rfl (E.st rfl rfl (N.box (cs := [_, _]) rfl (by decide) rfl) (fun b3 _ => ?_)))
  refine E.y rfl rfl (by decide) ((Y.as rfl).yd) ?_
  refine E.nil (E.thn (E.seq (D.region (fun j => true) mixed (D.y 0 rfl rfl (by decide) (Y.ld1 ty_Facts rfl (hb_facts.has) rfl) (by kernel_rfl) ?_))))
  refine D.y 1 rfl rfl (by decide) (Y.ldS (cs := [_, _]) ty_Atom rfl (Has.pt m0) rfl) (by kernel_rfl) ?_
  refine D.y 2 rfl rfl (by decide) (Y.ldS (cs := [_, _]) ty_Binding rfl (hb_b.has) rfl) (by kernel_rfl) ?_
  refine D.st 3 rfl rfl (by kernel_rfl) (fun _ => rfl) (N.call (t_impl_factOf (by first | omega | assumption)) rfl rfl rfl (by decide) rfl (fun w Lp hA => ⟨i6a_Rel, hA.ro ha_Terms, hA.ro hb_Vars, hA.ro hb_Values⟩)) (fun k8 _ => ?_)
  obtain ⟨a8, m8, c8⟩ := k8
  refine Ent.lenow m0 fun e8 l8 => ?_
  subst e8
  refine D.st 4 rfl rfl (by kernel_rfl) (fun _ => rfl) (N.call0 t_impl_HasFact rfl rfl rfl (by decide) (fun w Lp hA => ⟨hA.ro hfacts, (by first | assumption | (unfold I64; (try dsimp only); omega) | grind), hA.ow m0⟩)) (fun _ _ => ?_)
  refine D.yp 5 rfl rfl (by decide) (Y.not rfl) (by kernel_rfl) ?_
  refine D.yp 6 rfl rfl (by decide) (Y.as rfl) (by kernel_rfl) ?_
  exact D.done (by kernel_rfl) (E.thn (E.ret (F.r1 (Back.refl _ _) rfl rfl () trivial (congrArg Value.bool (by grind [List.drop_eq_getElem_cons, List.drop_eq_nil_of_le, List.take_succ_eq_append_getElem, List.take_of_length_le])) (J := _) (.refl _) (.inl rfl))))
theorem t_impl_IsMapping {a_q_Head : Option Addr} {m_q_Head c_q_Head : Nat} {q_Head : List Int} {a_q_Atoms : Option Addr} {m_q_Atoms c_q_Atoms : Nat} {q_Atoms : List (Int × List Int)} {a_facts : Option Addr} {m_facts c_facts : Nat} {facts : List (Int × List Int)} {a_head : Option Addr} {m_head c_head : Nat} {head : List Int} {a_b_Vars : Option Addr} {m_b_Vars c_b_Vars : Nat} {b_Vars : List Int} {a_b_Values : Option Addr} {m_b_Values c_b_Values : Nat} {b_Values : List Int} (hz : q_Head.length ≤ 1048576) (hq : ∀ x ∈ q_Atoms, x.2.length ≤ 1048576) : Tr Try.prog 32 [.agg #[.slice a_q_Head m_q_Head c_q_Head, .slice a_q_Atoms m_q_Atoms c_q_Atoms], .slice a_facts m_facts c_facts, .slice a_head m_head c_head, .agg #[.slice a_b_Vars m_b_Vars c_b_Vars, .slice a_b_Values m_b_Values c_b_Values]] (fun w L => Ro w L eIs [.slice a_q_Head m_q_Head c_q_Head] q_Head ∧ Ro w L eAtoms [.slice a_q_Atoms m_q_Atoms c_q_Atoms] q_Atoms ∧ Ro w L eFacts [.slice a_facts m_facts c_facts] facts ∧ Ro w L eIs [.slice a_head m_head c_head] head ∧ Ro w L eIs [.slice a_b_Vars m_b_Vars c_b_Vars] b_Vars ∧ Ro w L eIs [.slice a_b_Values m_b_Values c_b_Values] b_Values) [] (κ := Unit) (fun k => True) (fun k => .bool (okMap (q_Head, q_Atoms) facts head (b_Vars, b_Values))) (fun k => []) := by
  refine Tr.intro Try.func32 rfl (n := 30) rfl (by decide +kernel) (Nat.le_of_ble_eq_true rfl) (fr := [(0, .agg #[.slice a_q_Head m_q_Head c_q_Head, .slice a_q_Atoms m_q_Atoms c_q_Atoms]), (1, .slice a_facts m_facts c_facts), (2, .slice a_head m_head c_head), (3, .agg #[.slice a_b_Vars m_b_Vars c_b_Vars, .slice a_b_Values m_b_Values c_b_Values])]) rfl fun w L hR => ?_
  obtain ⟨hq_Head, hq_Atoms, hfacts, hhead, hb_Vars, hb_Values⟩ := hR
  obtain ⟨rfl, lq_Head⟩ := hq_Head.slen
  obtain ⟨rfl, lq_Atoms⟩ := hq_Atoms.slen
  obtain ⟨rfl, lfacts⟩ := hfacts.slen
  obtain ⟨rfl, lhead⟩ := hhead.slen
  obtain ⟨rfl, lb_Vars⟩ := hb_Vars.slen
  obtain ⟨rfl, lb_Values⟩ := hb_Values.slen
  refine E.seq (E.region (l := [0, 1, 2, 3]) rfl (E.st rfl rfl (N.box (cs := [_, _]) rfl (by decide) rfl) (fun b4 _ => ?_)))
  refine E.st rfl rfl (N.box (cs := [_]) rfl (by decide) rfl) (fun b5 _ => ?_)
  refine E.st rfl rfl (N.box (cs := [_, _]) rfl (by decide) rfl) (fun b7 _ => ?_)
  refine E.y rfl rfl (by decide) ((Y.as rfl).yd) ?_
  refine E.nil (E.thn (E.seq (E.region (l := [0, 1, 2, 3, 4, 5, 6, 7, 8, 9, 10, 11, 12, 13, 14, 15, 16, 17, 18, 19, 20, 21]) rfl (E.y rfl rfl (by decide) ((Y.fld fo_Binding_0 ty_Is (by decide) rfl).yd) ?_))))
  refine E.y rfl rfl (by decide) (Y.ld1 ty_Is rfl ((Has.pt m0).sub (cs' := [_]) 0 rfl) rfl) ?_
  refine E.y rfl rfl (by decide) ((Y.len us_Is rfl).yd) ?_
  refine E.y rfl rfl (by decide) ((Y.fld fo_Binding_1 ty_Is (by decide) rfl).yd) ?_
  refine E.y rfl rfl (by decide) (Y.ld1 ty_Is rfl ((Has.pt m0).sub (cs' := [_]) 1 rfl) rfl) ?_
  refine E.y rfl rfl (by decide) ((Y.len us_Is rfl).yd) ?_
  refine E.y rfl rfl (by decide) ((Y.eql rfl rfl).yd) (Ent.d (fun q15 => ?_) (fun q15 => ?_))
  · refine E.y rfl rfl (by decide) ((Y.mv rfl).yd) ?_
    refine E.y rfl rfl (by decide) (Y.ldS (cs := [_, _]) ty_Query rfl (Has.pt (mS (mS m0))) rfl) ?_
    refine E.y rfl rfl (by decide) (Y.ldS (cs := [_, _]) ty_Binding rfl (Has.pt m0) rfl) ?_
    refine E.st rfl rfl (N.call (t_impl_TupleOf (by first | omega | assumption)) rfl rfl rfl (by decide) rfl (fun w Lp hA => ⟨hA.ro hq_Head, hA.ro hq_Atoms, hA.ro hb_Vars, hA.ro hb_Values⟩)) (fun k19 _ => ?_)
    obtain ⟨a19, m19, c19⟩ := k19
    refine Ent.lenow m0 fun e19 l19 => ?_
    subst e19
    refine E.y rfl rfl (by decide) ((Y.mv rfl).yd) ?_
    refine E.st rfl rfl (N.call0 t_slices_Equal_int_int rfl rfl rfl (by decide) (fun w Lp hA => ⟨hA.ow m0, hA.ro hhead⟩)) (fun _ _ => (Ent.b (fun q21 => ?_) (fun q21 => ?_)))
    · refine E.y rfl rfl (by decide) ((Y.pkt rfl rfl).yd) ?_
      refine E.y rfl rfl (by decide) ((Y.mv rfl).yd) ?_
      refine E.y rfl rfl (by decide) ((Y.fld fo_Query_1 ty_Atoms (by decide) rfl).yd) ?_
      refine E.y rfl rfl (by decide) (Y.ld1 ty_Atoms rfl ((Has.pt (mS (mS (mS m0)))).sub (cs' := [_]) 1 rfl) rfl) ?_
      refine E.y rfl rfl (by decide) ((Y.fn (vs := [_, _]) rfl).yd) ?_
      refine E.st rfl rfl (N.call0 (t_ContainsFunc_Atom (f := (fun z => !hasF facts (factO z (b_Vars, b_Values)))) (D_f := (fun z => (z.2.length ≤ 1048576))) (by grind)) rfl rfl rfl (by decide) (fun w Lp hA => ⟨hA.ro hq_Atoms, FnP.ofAtom (D := (fun z => (z.2.length ≤ 1048576))) (fun hd => t_impl_IsMapping_1 hd) (fun w' hk => ⟨(hA.pt (mS (mS m0))).keep hk, (hA.ro hfacts).keep hk, (hA.pt (mS m0)).keep hk, (hA.ro hb_Vars).keep hk, (hA.ro hb_Values).keep hk⟩)⟩)) (fun _ _ => ?_)
      refine E.y rfl rfl (by decide) ((Y.not rfl).yd) ?_
      refine E.y rfl rfl (by decide) ((Y.pkt rfl rfl).yd) ?_
      refine E.y rfl rfl (by decide) ((Y.as rfl).yd) ?_
      exact E.nil (E.thn (E.ret (F.r1 (Back.refl _ _) rfl rfl () trivial (congrArg Value.bool (by grind [okMap, List.drop_eq_getElem_cons, List.drop_eq_nil_of_le, List.take_succ_eq_append_getElem, List.take_of_length_le])) (J := _) (.refl _) (.inl rfl))))
    · refine E.y rfl rfl (by decide) ((Y.pkt rfl rfl).yd) ?_
      refine E.y rfl rfl (by decide) ((Y.mv rfl).yd) ?_
      refine E.skip rfl rfl rfl ?_
      refine E.skip rfl rfl rfl ?_
      refine E.skip rfl rfl rfl ?_
      refine E.skip rfl rfl rfl ?_
      refine E.skip rfl rfl rfl ?_
      refine E.y rfl rfl (by decide) ((Y.pkf rfl rfl).yd) ?_
      refine E.y rfl rfl (by decide) ((Y.as rfl).yd) ?_
      exact E.nil (E.thn (E.ret (F.r1 (Back.refl _ _) rfl rfl () trivial (congrArg Value.bool (by grind [okMap, List.drop_eq_getElem_cons, List.drop_eq_nil_of_le, List.take_succ_eq_append_getElem, List.take_of_length_le])) (J := _) (.refl _) (.inl rfl))))
  · refine E.y rfl rfl (by decide) ((Y.mv rfl).yd) ?_
    refine E.skip rfl rfl rfl ?_
    refine E.skip rfl rfl rfl ?_
    refine E.skip rfl rfl rfl ?_
    refine E.skip rfl rfl rfl ?_
    refine E.skip rfl rfl rfl ?_
    refine E.y rfl rfl (by decide) ((Y.pkf rfl rfl).yd) ?_
    refine E.y rfl rfl (by decide) ((Y.mv rfl).yd) ?_
    refine E.skip rfl rfl rfl ?_
    refine E.skip rfl rfl rfl ?_
    refine E.skip rfl rfl rfl ?_
    refine E.skip rfl rfl rfl ?_
    refine E.skip rfl rfl rfl ?_
    refine E.y rfl rfl (by decide) ((Y.pkf rfl rfl).yd) ?_
    refine E.y rfl rfl (by decide) ((Y.as rfl).yd) ?_
    exact E.nil (E.thn (E.ret (F.r1 (Back.refl _ _) rfl rfl () trivial (congrArg Value.bool (by grind [okMap, List.drop_eq_getElem_cons, List.drop_eq_nil_of_le, List.take_succ_eq_append_getElem, List.take_of_length_le])) (J := _) (.refl _) (.inl rfl))))
theorem t_spec_IsMapping {a_q_Head : Option Addr} {m_q_Head c_q_Head : Nat} {q_Head : List Int} {a_q_Atoms : Option Addr} {m_q_Atoms c_q_Atoms : Nat} {q_Atoms : List (Int × List Int)} {a_facts : Option Addr} {m_facts c_facts : Nat} {facts : List (Int × List Int)} {a_head : Option Addr} {m_head c_head : Nat} {head : List Int} {a_b_Vars : Option Addr} {m_b_Vars c_b_Vars : Nat} {b_Vars : List Int} {a_b_Values : Option Addr} {m_b_Values c_b_Values : Nat} {b_Values : List Int} (hz : q_Head.length ≤ 1048576) (hq : ∀ x ∈ q_Atoms, x.2.length ≤ 1048576) : Tr Try.prog 28 [.agg #[.slice a_q_Head m_q_Head c_q_Head, .slice a_q_Atoms m_q_Atoms c_q_Atoms], .slice a_facts m_facts c_facts, .slice a_head m_head c_head, .agg #[.slice a_b_Vars m_b_Vars c_b_Vars, .slice a_b_Values m_b_Values c_b_Values]] (fun w L => Ro w L eIs [.slice a_q_Head m_q_Head c_q_Head] q_Head ∧ Ro w L eAtoms [.slice a_q_Atoms m_q_Atoms c_q_Atoms] q_Atoms ∧ Ro w L eFacts [.slice a_facts m_facts c_facts] facts ∧ Ro w L eIs [.slice a_head m_head c_head] head ∧ Ro w L eIs [.slice a_b_Vars m_b_Vars c_b_Vars] b_Vars ∧ Ro w L eIs [.slice a_b_Values m_b_Values c_b_Values] b_Values) [] (κ := Unit) (fun k => True) (fun k => .bool (okMap (q_Head, q_Atoms) facts head (b_Vars, b_Values))) (fun k => []) := by
  refine Tr.intro Try.func28 rfl (n := 72) rfl (by decide +kernel) (Nat.le_of_ble_eq_true rfl) (fr := [(0, .agg #[.slice a_q_Head m_q_Head c_q_Head, .slice a_q_Atoms m_q_Atoms c_q_Atoms]), (1, .slice a_facts m_facts c_facts), (2, .slice a_head m_head c_head), (3, .agg #[.slice a_b_Vars m_b_Vars c_b_Vars, .slice a_b_Values m_b_Values c_b_Values])]) rfl fun w L hR => ?_
  obtain ⟨hq_Head, hq_Atoms, hfacts, hhead, hb_Vars, hb_Values⟩ := hR
  obtain ⟨rfl, lq_Head⟩ := hq_Head.slen
  obtain ⟨rfl, lq_Atoms⟩ := hq_Atoms.slen
  obtain ⟨rfl, lfacts⟩ := hfacts.slen
  obtain ⟨rfl, lhead⟩ := hhead.slen
  obtain ⟨rfl, lb_Vars⟩ := hb_Vars.slen
  obtain ⟨rfl, lb_Values⟩ := hb_Values.slen
  have jv := valO_i64ss (b := (b_Vars, b_Values)) hq_Atoms.i64A hb_Vars.i64 hb_Values.i64
  refine E.seq (E.region (l := [0, 1, 2]) rfl (E.st rfl rfl (N.box (cs := [_, _]) rfl (by decide) rfl) (fun b4 _ => ?_)))
  refine E.st rfl rfl (N.box (cs := [_, _]) rfl (by decide) rfl) (fun b7 _ => ?_)
  refine E.y rfl rfl (by decide) ((Y.as rfl).yd) ?_
  refine E.nil (E.thn (E.seq (E.seq (E.region (l := [0, 1, 2, 3, 4, 5, 6, 7, 8, 9, 10, 11, 12, 13, 14]) rfl (E.y rfl rfl (by decide) ((Y.fld fo_Binding_0 ty_Is (by decide) rfl).yd) ?_)))))
  refine E.y rfl rfl (by decide) (Y.ld1 ty_Is rfl ((Has.pt m0).sub (cs' := [_]) 0 rfl) rfl) ?_
  refine E.y rfl rfl (by decide) ((Y.len us_Is rfl).yd) ?_
  refine E.y rfl rfl (by decide) ((Y.fld fo_Binding_1 ty_Is (by decide) rfl).yd) ?_
  refine E.y rfl rfl (by decide) (Y.ld1 ty_Is rfl ((Has.pt m0).sub (cs' := [_]) 1 rfl) rfl) ?_
  refine E.y rfl rfl (by decide) ((Y.len us_Is rfl).yd) ?_
  refine E.y rfl rfl (by decide) ((Y.neq rfl rfl).yd) (Ent.d (fun q18 => ?_) (fun q18 => ?_))
  · refine E.y rfl rfl (by decide) ((Y.mv rfl).yd) ?_
    refine E.skip rfl rfl rfl ?_
    refine E.skip rfl rfl rfl ?_
    refine E.skip rfl rfl rfl ?_
    refine E.skip rfl rfl rfl ?_
    refine E.skip rfl rfl rfl ?_
    refine E.skip rfl rfl rfl ?_
    refine E.y rfl rfl (by decide) ((Y.pkt rfl rfl).yd) ?_
    refine E.nil (E.thn (E.ct rfl (E.seq (E.region (l := [0]) rfl (E.y rfl rfl (by decide) ((Y.as rfl).yd) ?_)))))
    exact E.nil (E.thn (E.ret (E.thr (F.r1 (Back.refl _ _) rfl rfl () trivial (congrArg Value.bool (by grind [okMap, factO, List.drop_eq_getElem_cons, List.drop_eq_nil_of_le, List.take_succ_eq_append_getElem, List.take_of_length_le])) (J := _) (.refl _) (.inl rfl)))))
  · refine E.y rfl rfl (by decide) ((Y.mv rfl).yd) ?_
    refine E.y rfl rfl (by decide) (Y.ldS (cs := [_, _]) ty_Query rfl (Has.pt (mS m0)) rfl) ?_
    refine E.y rfl rfl (by decide) (Y.ldS (cs := [_, _]) ty_Binding rfl (Has.pt m0) rfl) ?_
    refine E.st rfl rfl (N.call (t_spec_TupleOf (by first | omega | assumption)) rfl rfl rfl (by decide) rfl (fun w Lp hA => ⟨hA.ro hq_Head, hA.ro hq_Atoms, hA.ro hb_Vars, hA.ro hb_Values⟩)) (fun k22 _ => ?_)
    obtain ⟨a22, m22, c22⟩ := k22
    refine Ent.lenow m0 fun e22 l22 => ?_
    subst e22
    refine E.y rfl rfl (by decide) ((Y.mv rfl).yd) ?_
    refine E.st rfl rfl (N.call0 t_spec_l2Ints rfl rfl rfl (by decide) (fun w Lp hA => ⟨hA.ow m0, hA.ro hhead⟩)) (fun _ _ => (Ent.b (fun q24 => ?_) (fun q24 => ?_)))
    · refine E.y rfl rfl (by decide) ((Y.not (b := true) rfl).yd) ?_
      refine E.y rfl rfl (by decide) ((Y.pkf rfl rfl).yd) ?_
      refine E.nil (E.thn (E.cf rfl (E.skipc (E.thn (E.seq (E.seq (E.region (l := [0]) rfl (E.y rfl rfl (by decide) ((Y.as rfl).yd) ?_))))))))
      refine E.nil (E.thn (E.block (E.loop (κ := Nat) (fun g => g ≤ q_Atoms.length ∧ q_Atoms.any (fun a => !hasF facts (factO a (b_Vars, b_Values))) = (q_Atoms.drop g).any (fun a => !hasF facts (factO a (b_Vars, b_Values)))) (fun g => [(1, .slice a_facts facts.length c_facts), (4, .pointer (some ⟨b4, 0, none⟩)), (7, .pointer (some ⟨b7, 0, none⟩)), (9, .int .i64 (↑g : Int))]) (fun g => [ow eIs [.slice a22 (q_Head.map (valO (b_Vars, b_Values))).length c22] (q_Head.map (valO (b_Vars, b_Values))), pt b7 54 [.slice a_b_Vars b_Vars.length c_b_Vars, .slice a_b_Values b_Values.length c_b_Values], pt b4 29 [.slice a_q_Head q_Head.length c_q_Head, .slice a_q_Atoms q_Atoms.length c_q_Atoms]]) (fun g => q_Atoms.length - g) 0 ⟨Nat.zero_le _, by simp⟩ ⟨rfl, rfl, rfl, rfl, trivial⟩ (.refl _) (fun g pg => ?_))))
      obtain ⟨pk, pa⟩ := pg
      refine E.seq (E.seq (E.region (l := [0, 1, 2, 3, 4]) rfl (E.y rfl rfl (by decide) ((Y.mv rfl).yd) ?_)))
      refine E.y rfl rfl (by decide) ((Y.fld fo_Query_1 ty_Atoms (by decide) rfl).yd) ?_
      refine E.y rfl rfl (by decide) (Y.ld1 ty_Atoms rfl ((Has.pt (mS (mS m0))).sub (cs' := [_]) 1 rfl) rfl) ?_
      refine E.y rfl rfl (by decide) ((Y.len us_Atoms rfl).yd) ?_
      refine E.y rfl rfl (by decide) ((Y.lss rfl rfl).yd) (Ent.d (fun q31 => ?_) (fun q31 => ?_))
      · refine E.nil (E.thn (E.ct rfl (E.skipc (E.thn (E.seq (E.block (E.seq (E.region (l := [0, 1, 2, 3, 4, 5, 6, 7, 8]) rfl (E.y rfl rfl (by decide) ((Y.fld fo_Query_1 ty_Atoms (by decide) rfl).yd) ?_)))))))))
        refine E.y rfl rfl (by decide) (Y.ld1 ty_Atoms rfl ((Has.pt (mS (mS m0))).sub (cs' := [_]) 1 rfl) rfl) ?_
        refine E.y rfl rfl (by decide) ((Y.mv rfl).yd) ?_
        obtain ⟨eb37, eo37, ec37, ea37, er37, el37, eh37⟩ := hq_Atoms.elem g (by omega)
        obtain ⟨xa37_0, xc37_0, rfl, ei37_0, xh37_0⟩ := Ro.pAtom er37
        have := xh37_0.slen.2
        refine E.y rfl rfl (by decide) ((Y.ix us_Atoms ty_Atom rfl ea37 rfl g rfl (by omega)).yd) ?_
        refine E.y rfl rfl (by decide) ((Y.fld fo_Atom_0 ty_I (by decide) rfl).yd) ?_
        refine E.y rfl rfl (by decide) (Y.ld1 ty_I rfl ((eh37 _).sub (cs' := [_]) 0 rfl) rfl) ?_
        refine E.y rfl rfl (by decide) ((Y.bld (pvs := [_]) (cs := [_, _]) ty_Fact pl_Fact rfl rfl).yd) ?_
        refine E.st rfl rfl (N.alloc ty_Fact (by decide)) (fun b10 _ => ?_)
        refine E.st rfl rfl (N.sto (vs := [_, _]) (cs' := [_, _]) ty_Fact rfl rfl rfl rfl rfl (Nat.le_of_ble_eq_true rfl) rfl) (fun _ _ => ?_)
        refine E.nil (E.thn (E.seq (E.seq (E.region (l := [0]) rfl (E.y rfl rfl (by decide) ((Y.as rfl).yd) ?_)))))
        refine E.nil (E.thn (E.block (Ent.mkow (A := []) (Own.nil (E := Enc.int) (e := tI) (a := none)) rfl ?_)))
        refine Ent.cv (congrArg (ow eIs [_]) (show [] = (q_Atoms[g].2.take 0).map (valO (b_Vars, b_Values)) from by first | rfl | simp)) ?_
        refine E.loop (κ := Nat × Option Addr × Nat × Nat) (fun h => h.1 ≤ q_Atoms[g].2.length ∧ True) (fun h => [(1, .slice a_facts facts.length c_facts), (4, .pointer (some ⟨b4, 0, none⟩)), (7, .pointer (some ⟨b7, 0, none⟩)), (9, .int .i64 (↑g : Int)), (10, .pointer (some ⟨b10, 0, none⟩)), (11, .int .i64 (↑h.1 : Int))]) (fun h => [ow eIs [.slice h.2.1 h.2.2.1 h.2.2.2] ((q_Atoms[g].2.take h.1).map (valO (b_Vars, b_Values))), pt b10 69 [.int .i64 q_Atoms[g].1, .slice h.2.1 h.2.2.1 h.2.2.2], ow eIs [.slice a22 (q_Head.map (valO (b_Vars, b_Values))).length c22] (q_Head.map (valO (b_Vars, b_Values))), pt b7 54 [.slice a_b_Vars b_Vars.length c_b_Vars, .slice a_b_Values b_Values.length c_b_Values], pt b4 29 [.slice a_q_Head q_Head.length c_q_Head, .slice a_q_Atoms q_Atoms.length c_q_Atoms]]) (fun h => q_Atoms[g].2.length - h.1) (0, none, 0, 0) ⟨Nat.zero_le _, by simp⟩ ⟨rfl, rfl, rfl, rfl, rfl, rfl, trivial⟩ (.refl _) (fun h ph => ?_)
        obtain ⟨h, aA1_0, mA1_0, cA1_0⟩ := h
        try dsimp only at ph
        show Ent _ _ _ [(1, .slice a_facts facts.length c_facts), (4, .pointer (some ⟨b4, 0, none⟩)), (7, .pointer (some ⟨b7, 0, none⟩)), (9, .int .i64 (↑g : Int)), (10, .pointer (some ⟨b10, 0, none⟩)), (11, .int .i64 (↑h : Int))] [ow eIs [.slice aA1_0 mA1_0 cA1_0] ((q_Atoms[g].2.take h).map (valO (b_Vars, b_Values))), pt b10 69 [.int .i64 q_Atoms[g].1, .slice aA1_0 mA1_0 cA1_0], ow eIs [.slice a22 (q_Head.map (valO (b_Vars, b_Values))).length c22] (q_Head.map (valO (b_Vars, b_Values))), pt b7 54 [.slice a_b_Vars b_Vars.length c_b_Vars, .slice a_b_Values b_Values.length c_b_Values], pt b4 29 [.slice a_q_Head q_Head.length c_q_Head, .slice a_q_Atoms q_Atoms.length c_q_Atoms]] _
        obtain ⟨pk, pa⟩ := ph
        have hq1 := hq q_Atoms[g] (List.getElem_mem (by omega))
        have jv1 := jv q_Atoms[g] (List.getElem_mem (by omega))
        refine Ent.lenow m0 fun eaA1_0 laA1_0 => ?_
        subst eaA1_0
        refine E.seq (E.seq (E.region (l := [0, 1, 2, 3, 4, 5, 6, 7, 8]) rfl (E.y rfl rfl (by decide) ((Y.mv rfl).yd) ?_)))
        refine E.y rfl rfl (by decide) ((Y.fld fo_Query_1 ty_Atoms (by decide) rfl).yd) ?_
        refine E.y rfl rfl (by decide) (Y.ld1 ty_Atoms rfl ((Has.pt (mS (mS (mS (mS m0))))).sub (cs' := [_]) 1 rfl) rfl) ?_
        refine E.y rfl rfl (by decide) ((Y.mv rfl).yd) ?_
        refine E.y rfl rfl (by decide) ((Y.ix us_Atoms ty_Atom rfl ea37 rfl g rfl (by omega)).yd) ?_
        refine E.y rfl rfl (by decide) ((Y.fld fo_Atom_1 ty_Is (by decide) rfl).yd) ?_
        refine E.y rfl rfl (by decide) (Y.ld1 ty_Is rfl ((eh37 _).sub (cs' := [_]) 1 rfl) rfl) ?_
        refine E.y rfl rfl (by decide) ((Y.len us_Is rfl).yd) ?_
        refine E.y rfl rfl (by decide) ((Y.lss rfl rfl).yd) (Ent.d (fun q49 => ?_) (fun q49 => ?_))
        · refine E.nil (E.thn (E.ct rfl (E.skipc (E.thn (E.seq (E.block (D.region (fun j => !(Nat.beq j 14) && !(Nat.beq j 16)) mixed (D.yp 0 rfl rfl (by decide) (Y.fld fo_Fact_1 ty_Is (by decide) rfl) (by kernel_rfl) ?_))))))))
          refine D.y 1 rfl rfl (by decide) (Y.ld1 ty_Is rfl ((Has.pt (mS m0)).sub (cs' := [_]) 1 rfl) rfl) (by kernel_rfl) ?_
          refine D.y 2 rfl rfl (by decide) (Y.ldS (cs := [_, _]) ty_Binding rfl (Has.pt (mS (mS (mS m0)))) rfl) (by kernel_rfl) ?_
          refine D.yp 3 rfl rfl (by decide) (Y.fld fo_Query_1 ty_Atoms (by decide) rfl) (by kernel_rfl) ?_
          refine D.y 4 rfl rfl (by decide) (Y.ld1 ty_Atoms rfl ((Has.pt (mS (mS (mS (mS m0))))).sub (cs' := [_]) 1 rfl) rfl) (by kernel_rfl) ?_
          refine D.yp 5 rfl rfl (by decide) (Y.mv rfl) (by kernel_rfl) ?_
          refine D.yp 6 rfl rfl (by decide) (Y.ix us_Atoms ty_Atom rfl ea37 rfl g rfl (by omega)) (by kernel_rfl) ?_
          refine D.yp 7 rfl rfl (by decide) (Y.fld fo_Atom_1 ty_Is (by decide) rfl) (by kernel_rfl) ?_
          refine D.y 8 rfl rfl (by decide) (Y.ld1 ty_Is rfl ((eh37 _).sub (cs' := [_]) 1 rfl) rfl) (by kernel_rfl) ?_
          refine D.yp 9 rfl rfl (by decide) (Y.mv rfl) (by kernel_rfl) ?_
          obtain ⟨eb62, eo62, ea62, ei62, eh62⟩ := xh37_0.elemI h (by omega)
          refine D.yp 10 rfl rfl (by decide) (Y.ix us_Is ty_I rfl ea62 rfl h rfl (by omega)) (by kernel_rfl) ?_
          refine D.y 11 rfl rfl (by decide) (Y.ld1 ty_I rfl (eh62 _) rfl) (by kernel_rfl) ?_
          refine D.st 12 rfl rfl (by kernel_rfl) (fun _ => rfl) (N.call0 t_spec_ValueOf rfl rfl rfl (by decide) (fun w Lp hA => ⟨hA.ro hb_Vars, hA.ro hb_Values⟩)) (fun _ _ => ?_)
          refine D.st 13 rfl rfl (by kernel_rfl) (fun _ => rfl) (N.bsl (pvs := [_]) (cs := [_]) us_Is ty_I rfl (by decide) (by decide) (fillZ rfl rfl) rfl (by decide)) (fun b65 _ => ?_)
          refine Ent.p1 ?_
          refine D.st 14 rfl rfl (by kernel_rfl) (fun h => by cases h) (N.push (E := Enc.int) (ex := valO (b_Vars, b_Values) q_Atoms[g].2[h]) us_Is ty_I rfl rfl rfl (Own.int (by first | assumption | (unfold I64; (try dsimp only); omega) | grind)) rfl (by first | omega | (simp only [List.length_map, List.length_take, List.length_append, List.length_drop, List.length_cons, List.length_nil]; omega)) (by first | omega | (simp only [List.length_map, List.length_take, List.length_append, List.length_drop, List.length_cons, List.length_nil]; omega)) (by decide)) (fun p66 _ => ?_)
          refine D.yp 15 rfl rfl (by decide) (Y.fld fo_Fact_1 ty_Is (by decide) rfl) (by kernel_rfl) ?_
          refine Ent.p1 ?_
          refine D.st 16 rfl rfl (by kernel_rfl) (fun h => by cases h) (N.sto (vs := [_]) (cs' := [_, _]) ty_Is rfl rfl rfl rfl rfl (Nat.le_of_ble_eq_true rfl) rfl) (fun _ _ => ?_)
          refine D.done (by kernel_rfl) (E.bln (E.thn (E.region (l := [0, 1, 2]) rfl (E.y rfl rfl (by decide) ((Y.mv rfl).yd) ?_))))
          refine E.y rfl rfl (by decide) ((Y.add rfl rfl (by omega) (by omega)).yd) ?_
          refine E.y rfl rfl (by decide) ((Y.as rfl).yd) ?_
          refine E.nil (E.thn (Ent.p1 ?_))
          refine Ent.cv (congrArg (ow eIs [_]) (show ((q_Atoms[g].2.take h).map (valO (b_Vars, b_Values))) ++ [valO (b_Vars, b_Values) q_Atoms[g].2[h]] = (q_Atoms[g].2.take (h + 1)).map (valO (b_Vars, b_Values)) from by grind [okMap, factO, List.drop_eq_getElem_cons, List.drop_eq_nil_of_le, List.take_succ_eq_append_getElem, List.take_of_length_le])) ?_
          refine Ent.p4 ?_
          refine Ent.p4 ?_
          refine Ent.p4 ?_
          refine Ent.p4 ?_
          refine Ent.p4 ?_
          exact E.again (Back.refl _ _) (h + 1, p66.1, (((q_Atoms[g].2.take h).map (valO (b_Vars, b_Values))).length + 1), p66.2) ⟨rfl, rfl, rfl, rfl, rfl, rfl, trivial⟩ (.refl _) ⟨(show h + 1 ≤ q_Atoms[g].2.length from by omega), (show True from by grind [List.drop_eq_getElem_cons, List.drop_eq_nil_of_le, List.take_succ_eq_append_getElem, List.take_of_length_le])⟩ (show q_Atoms[g].2.length - (h + 1) < q_Atoms[g].2.length - h from by omega)
        · refine E.nil (E.thn (E.cf rfl (E.exit (E.the (E.the (E.blh (E.thn (E.seq (E.region (l := [0, 1, 2, 3]) rfl (E.y rfl rfl (by decide) ((Y.mv rfl).yd) ?_))))))))))
          refine E.y rfl rfl (by decide) (Y.ldS (cs := [_, _]) ty_Fact rfl (Has.pt (mS m0)) rfl) ?_
          refine E.st rfl rfl (N.call0 t_spec_HasFact rfl rfl rfl (by decide) (fun w Lp hA => ⟨hA.ro hfacts, ei37_0, hA.ow m0⟩)) (fun _ _ => (Ent.b (fun q70 => ?_) (fun q70 => ?_)))
          · refine E.y rfl rfl (by decide) ((Y.not (b := true) rfl).yd) ?_
            refine E.nil (E.thn (E.cf rfl (E.skipc (E.bln (E.thn (E.region (l := [0, 1, 2]) rfl (E.y rfl rfl (by decide) ((Y.mv rfl).yd) ?_)))))))
            refine E.y rfl rfl (by decide) ((Y.add rfl rfl (by omega) (by omega)).yd) ?_
            refine E.y rfl rfl (by decide) ((Y.as rfl).yd) ?_
            refine E.nil (E.thn (Ent.drop ?_))
            refine Ent.drop ?_
            refine Ent.p2 ?_
            refine Ent.p2 ?_
            refine Ent.p2 ?_
            exact E.again (Back.refl _ _) (g + 1) ⟨rfl, rfl, rfl, rfl, trivial⟩ (.refl _) ⟨by omega, by grind [factO, List.drop_eq_getElem_cons, List.drop_eq_nil_of_le, List.take_succ_eq_append_getElem, List.take_of_length_le]⟩ (by omega)
          · refine E.y rfl rfl (by decide) ((Y.not (b := false) rfl).yd) ?_
            refine E.nil (E.thn (E.ct rfl (E.seq (E.region (l := [0]) rfl (E.y rfl rfl (by decide) ((Y.as rfl).yd) ?_)))))
            exact E.nil (E.thn (E.ret (E.blr (E.thr (E.thr (E.blr (E.thr (F.r1 (Back.refl _ _) rfl rfl () trivial (congrArg Value.bool (by grind [okMap, factO, List.drop_eq_getElem_cons, List.drop_eq_nil_of_le, List.take_succ_eq_append_getElem, List.take_of_length_le])) (J := _) (.refl _) (.inl rfl)))))))))
      · refine E.nil (E.thn (E.cf rfl (E.exit (E.the (E.the (E.blh (E.thn (E.seq (E.region (l := [0]) rfl (E.y rfl rfl (by decide) ((Y.as rfl).yd) ?_))))))))))
        exact E.nil (E.thn (E.ret (F.r1 (Back.refl _ _) rfl rfl () trivial (congrArg Value.bool (by grind [okMap, factO, List.drop_eq_getElem_cons, List.drop_eq_nil_of_le, List.take_succ_eq_append_getElem, List.take_of_length_le])) (J := _) (.refl _) (.inl rfl))))
    · refine E.y rfl rfl (by decide) ((Y.not (b := false) rfl).yd) ?_
      refine E.y rfl rfl (by decide) ((Y.pkf rfl rfl).yd) ?_
      refine E.nil (E.thn (E.ct rfl (E.seq (E.region (l := [0]) rfl (E.y rfl rfl (by decide) ((Y.as rfl).yd) ?_)))))
      exact E.nil (E.thn (E.ret (E.thr (F.r1 (Back.refl _ _) rfl rfl () trivial (congrArg Value.bool (by grind [okMap, factO, List.drop_eq_getElem_cons, List.drop_eq_nil_of_le, List.take_succ_eq_append_getElem, List.take_of_length_le])) (J := _) (.refl _) (.inl rfl)))))
theorem t_laws_FnExactIsMapping {a_aQ_Head : Option Addr} {m_aQ_Head c_aQ_Head : Nat} {aQ_Head : List Int} {a_aQ_Atoms : Option Addr} {m_aQ_Atoms c_aQ_Atoms : Nat} {aQ_Atoms : List (Int × List Int)} {a_aFacts : Option Addr} {m_aFacts c_aFacts : Nat} {aFacts : List (Int × List Int)} {a_aHead : Option Addr} {m_aHead c_aHead : Nat} {aHead : List Int} {a_aB_Vars : Option Addr} {m_aB_Vars c_aB_Vars : Nat} {aB_Vars : List Int} {a_aB_Values : Option Addr} {m_aB_Values c_aB_Values : Nat} {aB_Values : List Int} : Tr Try.prog 5 [.agg #[.slice a_aQ_Head m_aQ_Head c_aQ_Head, .slice a_aQ_Atoms m_aQ_Atoms c_aQ_Atoms], .slice a_aFacts m_aFacts c_aFacts, .slice a_aHead m_aHead c_aHead, .agg #[.slice a_aB_Vars m_aB_Vars c_aB_Vars, .slice a_aB_Values m_aB_Values c_aB_Values]] (fun w L => Ro w L eIs [.slice a_aQ_Head m_aQ_Head c_aQ_Head] aQ_Head ∧ Ro w L eAtoms [.slice a_aQ_Atoms m_aQ_Atoms c_aQ_Atoms] aQ_Atoms ∧ Ro w L eFacts [.slice a_aFacts m_aFacts c_aFacts] aFacts ∧ Ro w L eIs [.slice a_aHead m_aHead c_aHead] aHead ∧ Ro w L eIs [.slice a_aB_Vars m_aB_Vars c_aB_Vars] aB_Vars ∧ Ro w L eIs [.slice a_aB_Values m_aB_Values c_aB_Values] aB_Values) [] (κ := Unit) (fun k => True) (fun k => .bool (true)) (fun k => []) := by
  refine Tr.intro Try.func5 rfl (n := 79) rfl (by decide +kernel) (Nat.le_of_ble_eq_true rfl) (fr := [(0, .agg #[.slice a_aQ_Head m_aQ_Head c_aQ_Head, .slice a_aQ_Atoms m_aQ_Atoms c_aQ_Atoms]), (1, .slice a_aFacts m_aFacts c_aFacts), (2, .slice a_aHead m_aHead c_aHead), (3, .agg #[.slice a_aB_Vars m_aB_Vars c_aB_Vars, .slice a_aB_Values m_aB_Values c_aB_Values])]) rfl fun w L hR => ?_
  obtain ⟨haQ_Head, haQ_Atoms, haFacts, haHead, haB_Vars, haB_Values⟩ := hR
  obtain ⟨rfl, laQ_Head⟩ := haQ_Head.slen
  obtain ⟨rfl, laQ_Atoms⟩ := haQ_Atoms.slen
  obtain ⟨rfl, laFacts⟩ := haFacts.slen
  obtain ⟨rfl, laHead⟩ := haHead.slen
  obtain ⟨rfl, laB_Vars⟩ := haB_Vars.slen
  obtain ⟨rfl, laB_Values⟩ := haB_Values.slen
  refine E.seq (E.region (l := [0, 1, 2]) rfl (E.st rfl rfl (N.box (cs := [_, _]) rfl (by decide) rfl) (fun b4 _ => ?_)))
  refine E.st rfl rfl (N.box (cs := [_, _]) rfl (by decide) rfl) (fun b7 _ => ?_)
  refine E.y rfl rfl (by decide) ((Y.as rfl).yd) ?_
  refine E.nil (E.thn (E.seq (E.seq (E.region (l := [0, 1, 2]) rfl (E.y rfl rfl (by decide) ((Y.mv rfl).yd) ?_)))))
  refine E.y rfl rfl (by decide) ((Y.len us_Is rfl).yd) ?_
  refine E.y rfl rfl (by decide) ((Y.gtr rfl rfl).yd) (Ent.d (fun q18 => ?_) (fun q18 => ?_))
  · refine E.nil (E.thn (E.ct rfl (E.seq (E.region (l := [0]) rfl (E.y rfl rfl (by decide) ((Y.as rfl).yd) ?_)))))
    exact E.nil (E.thn (E.ret (E.thr (F.r1 (Back.refl _ _) rfl rfl () trivial rfl (J := _) (.refl _) (.inl rfl)))))
  · refine E.nil (E.thn (E.cf rfl (E.skipc (E.thn (E.seq (E.region (l := [0]) rfl (E.y rfl rfl (by decide) ((Y.as rfl).yd) ?_)))))))
    refine E.nil (E.thn (E.seq (E.region (l := [0, 1, 2, 3]) rfl (E.y rfl rfl (by decide) (Y.ldS (cs := [_, _]) ty_lQuery rfl (Has.pt (mS m0)) rfl) ?_))))
    refine E.y rfl rfl (by decide) ((Y.mv rfl).yd) ?_
    refine E.st rfl rfl (N.call0 t_laws_szQuery rfl rfl rfl (by decide) (fun w Lp hA => ⟨hA.ro haQ_Head, hA.ro haQ_Atoms, (by first | assumption | omega), (by first | assumption | omega)⟩)) (fun _ _ => ?_)
    refine E.y rfl rfl (by decide) ((Y.as rfl).yd) ?_
    refine E.nil (E.thn (E.seq (E.seq (E.region (l := [0, 1]) rfl (E.y rfl rfl (by decide) ((Y.mv rfl).yd) ?_)))))
    refine E.y rfl rfl (by decide) ((Y.lss rfl rfl).yd) (Ent.d (fun q23 => ?_) (fun q23 => ?_))
    · have z23 := szR_bad q23 (by omega)
      refine E.nil (E.thn (E.ct rfl (E.seq (E.region (l := [0]) rfl (E.y rfl rfl (by decide) ((Y.as rfl).yd) ?_)))))
      exact E.nil (E.thn (E.ret (E.thr (F.r1 (Back.refl _ _) rfl rfl () trivial rfl (J := _) (.refl _) (.inl rfl)))))
    · obtain ⟨z23, y23⟩ := szR_ok q23 (by omega)
      refine E.nil (E.thn (E.cf rfl (E.skipc (E.thn (E.seq (E.region (l := [0, 1, 2, 3]) rfl (E.y rfl rfl (by decide) ((Y.mv rfl).yd) ?_)))))))
      refine E.y rfl rfl (by decide) ((Y.mv rfl).yd) ?_
      refine E.st rfl rfl (N.call0 t_laws_szFactS rfl rfl rfl (by decide) (fun w Lp hA => ⟨hA.ro haFacts, (by first | assumption | omega), (by first | assumption | omega)⟩)) (fun _ _ => ?_)
      refine E.y rfl rfl (by decide) ((Y.as rfl).yd) ?_
      refine E.nil (E.thn (E.seq (E.seq (E.region (l := [0, 1]) rfl (E.y rfl rfl (by decide) ((Y.mv rfl).yd) ?_)))))
      refine E.y rfl rfl (by decide) ((Y.lss rfl rfl).yd) (Ent.d (fun q28 => ?_) (fun q28 => ?_))
      · have z28 := szR_bad q28 (by omega)
        refine E.nil (E.thn (E.ct rfl (E.seq (E.region (l := [0]) rfl (E.y rfl rfl (by decide) ((Y.as rfl).yd) ?_)))))
        exact E.nil (E.thn (E.ret (E.thr (F.r1 (Back.refl _ _) rfl rfl () trivial rfl (J := _) (.refl _) (.inl rfl)))))
      · obtain ⟨z28, y28⟩ := szR_ok q28 (by omega)
        refine E.nil (E.thn (E.cf rfl (E.skipc (E.thn (E.seq (E.region (l := [0, 1, 2, 3]) rfl (E.y rfl rfl (by decide) (Y.ldS (cs := [_, _]) ty_lBinding rfl (Has.pt m0) rfl) ?_)))))))
        refine E.y rfl rfl (by decide) ((Y.mv rfl).yd) ?_
        refine E.st rfl rfl (N.call0 t_laws_szBinding rfl rfl rfl (by decide) (fun w Lp hA => ⟨hA.ro haB_Vars, hA.ro haB_Values, (by first | assumption | omega), (by first | assumption | omega)⟩)) (fun _ _ => ?_)
        refine E.y rfl rfl (by decide) ((Y.as rfl).yd) ?_
        refine E.nil (E.thn (E.seq (E.seq (E.region (l := [0, 1]) rfl (E.y rfl rfl (by decide) ((Y.mv rfl).yd) ?_)))))
        refine E.y rfl rfl (by decide) ((Y.lss rfl rfl).yd) (Ent.d (fun q33 => ?_) (fun q33 => ?_))
        · have z33 := szR_bad q33 (by omega)
          refine E.nil (E.thn (E.ct rfl (E.seq (E.region (l := [0]) rfl (E.y rfl rfl (by decide) ((Y.as rfl).yd) ?_)))))
          exact E.nil (E.thn (E.ret (E.thr (F.r1 (Back.refl _ _) rfl rfl () trivial rfl (J := _) (.refl _) (.inl rfl)))))
        · obtain ⟨z33, y33⟩ := szR_ok q33 (by omega)
          refine E.nil (E.thn (E.cf rfl (E.skipc (E.thn (E.seq (D.region (fun j => true) mixed (D.y 0 rfl rfl (by decide) (Y.ldS (cs := [_, _]) ty_lQuery rfl (Has.pt (mS m0)) rfl) (by kernel_rfl) ?_)))))))
          refine D.yp 2 rfl rfl (by decide) (Y.mv rfl) (by kernel_rfl) ?_
          refine D.yp 4 rfl rfl (by decide) (Y.mv rfl) (by kernel_rfl) ?_
          refine D.y 6 rfl rfl (by decide) (Y.ldS (cs := [_, _]) ty_lBinding rfl (Has.pt m0) rfl) (by kernel_rfl) ?_
          refine D.st 1 rfl rfl (by kernel_rfl) (fun _ => rfl) (N.call (t_laws_toQuery (by first | omega | assumption) (by first | omega | assumption)) rfl rfl rfl (by decide) rfl (fun w Lp hA => ⟨hA.ro haQ_Head, hA.ro haQ_Atoms⟩)) (fun k35 _ => ?_)
          obtain ⟨⟨a35_0, m35_0, c35_0⟩, ⟨a35_1, m35_1, c35_1⟩⟩ := k35
          refine Ent.lenow m0 fun e35_0 l35_0 => ?_
          subst e35_0
          refine Ent.lenow (mS m0) fun e35_1 l35_1 => ?_
          subst e35_1
          refine D.st 3 rfl rfl (by kernel_rfl) (fun _ => rfl) (N.call (t_laws_toFactS (by first | omega | assumption)) rfl rfl rfl (by decide) rfl (fun w Lp hA => hA.ro haFacts)) (fun k37 _ => ?_)
          obtain ⟨a37, m37, c37⟩ := k37
          refine Ent.lenow m0 fun e37 l37 => ?_
          subst e37
          refine D.st 5 rfl rfl (by kernel_rfl) (fun _ => rfl) (N.call (t_laws_toIntS (by first | omega | assumption)) rfl rfl rfl (by decide) rfl (fun w Lp hA => hA.ro haHead)) (fun k39 _ => ?_)
          obtain ⟨a39, m39, c39⟩ := k39
          refine Ent.lenow m0 fun e39 l39 => ?_
          subst e39
          refine D.st 7 rfl rfl (by kernel_rfl) (fun _ => rfl) (N.call (t_laws_toBinding (by first | omega | assumption) (by first | omega | assumption)) rfl rfl rfl (by decide) rfl (fun w Lp hA => ⟨hA.ro haB_Vars, hA.ro haB_Values⟩)) (fun k41 _ => ?_)
          obtain ⟨⟨a41_0, m41_0, c41_0⟩, ⟨a41_1, m41_1, c41_1⟩⟩ := k41
          refine Ent.lenow m0 fun e41_0 l41_0 => ?_
          subst e41_0
          refine Ent.lenow (mS m0) fun e41_1 l41_1 => ?_
          subst e41_1
          refine D.st 8 rfl rfl (by kernel_rfl) (fun _ => rfl) (N.call0 (t_spec_IsMapping (by first | omega | assumption) (atoms_len (l := aQ_Atoms) (by omega))) rfl rfl rfl (by decide) (fun w Lp hA => ⟨hA.ow (mS (mS (mS (mS m0)))), hA.ow (mS (mS (mS (mS (mS m0))))), hA.ow (mS (mS (mS m0))), hA.ow (mS (mS m0)), hA.ow m0, hA.ow (mS m0)⟩)) (fun _ _ => ?_)
          refine D.yp 9 rfl rfl (by decide) (Y.as rfl) (by kernel_rfl) ?_
          refine D.done (by kernel_rfl) (E.thn (E.seq (E.region (l := [0, 1, 2, 3]) rfl (E.y rfl rfl (by decide) (Y.ldS (cs := [_, _]) ty_lQuery rfl (Has.pt (mS (mS (mS (mS (mS (mS (mS m0)))))))) rfl) ?_))))
          refine E.st rfl rfl (N.call (t_laws_toQuery (by first | omega | assumption) (by first | omega | assumption)) rfl rfl rfl (by decide) rfl (fun w Lp hA => ⟨hA.ro haQ_Head, hA.ro haQ_Atoms⟩)) (fun k44 _ => ?_)
          obtain ⟨⟨a44_0, m44_0, c44_0⟩, ⟨a44_1, m44_1, c44_1⟩⟩ := k44
          refine Ent.lenow m0 fun e44_0 l44_0 => ?_
          subst e44_0
          refine Ent.lenow (mS m0) fun e44_1 l44_1 => ?_
          subst e44_1
          refine E.st rfl rfl (N.alloc ty_Query (by decide)) (fun b11 _ => ?_)
          refine E.st rfl rfl (N.sto (vs := [_, _]) (cs' := [_, _]) ty_Query rfl rfl rfl rfl rfl (Nat.le_of_ble_eq_true rfl) rfl) (fun _ _ => ?_)
          refine E.nil (E.thn (E.seq (E.region (l := [0, 1, 2]) rfl (E.y rfl rfl (by decide) ((Y.mv rfl).yd) ?_))))
          refine E.st rfl rfl (N.call (t_laws_toFactS (by first | omega | assumption)) rfl rfl rfl (by decide) rfl (fun w Lp hA => hA.ro haFacts)) (fun k46 _ => ?_)
          obtain ⟨a46, m46, c46⟩ := k46
          refine Ent.lenow m0 fun e46 l46 => ?_
          subst e46
          refine E.y rfl rfl (by decide) ((Y.as rfl).yd) ?_
          refine E.nil (E.thn (E.seq (E.region (l := [0, 1, 2]) rfl (E.y rfl rfl (by decide) ((Y.mv rfl).yd) ?_))))
          refine E.st rfl rfl (N.call (t_laws_toIntS (by first | omega | assumption)) rfl rfl rfl (by decide) rfl (fun w Lp hA => hA.ro haHead)) (fun k48 _ => ?_)
          obtain ⟨a48, m48, c48⟩ := k48
          refine Ent.lenow m0 fun e48 l48 => ?_
          subst e48
          refine E.y rfl rfl (by decide) ((Y.as rfl).yd) ?_
          refine E.nil (E.thn (E.seq (E.region (l := [0, 1, 2, 3]) rfl (E.y rfl rfl (by decide) (Y.ldS (cs := [_, _]) ty_lBinding rfl (Has.pt (mS (mS (mS (mS (mS (mS (mS (mS (mS (mS (mS m0)))))))))))) rfl) ?_))))
          refine E.st rfl rfl (N.call (t_laws_toBinding (by first | omega | assumption) (by first | omega | assumption)) rfl rfl rfl (by decide) rfl (fun w Lp hA => ⟨hA.ro haB_Vars, hA.ro haB_Values⟩)) (fun k50 _ => ?_)
          obtain ⟨⟨a50_0, m50_0, c50_0⟩, ⟨a50_1, m50_1, c50_1⟩⟩ := k50
          refine Ent.lenow m0 fun e50_0 l50_0 => ?_
          subst e50_0
          refine Ent.lenow (mS m0) fun e50_1 l50_1 => ?_
          subst e50_1
          refine E.st rfl rfl (N.alloc ty_Binding (by decide)) (fun b14 _ => ?_)
          refine E.st rfl rfl (N.sto (vs := [_, _]) (cs' := [_, _]) ty_Binding rfl rfl rfl rfl rfl (Nat.le_of_ble_eq_true rfl) rfl) (fun _ _ => ?_)
          refine E.nil (E.thn (E.seq (E.region (l := [0, 1, 2, 3, 4, 5]) rfl (E.y rfl rfl (by decide) (Y.ldS (cs := [_, _]) ty_Query rfl (Has.pt (mS (mS (mS (mS (mS m0)))))) rfl) ?_))))
          refine E.y rfl rfl (by decide) ((Y.mv rfl).yd) ?_
          refine E.y rfl rfl (by decide) ((Y.mv rfl).yd) ?_
          refine E.y rfl rfl (by decide) (Y.ldS (cs := [_, _]) ty_Binding rfl (Has.pt m0) rfl) ?_
          refine E.st rfl rfl (N.call0 (t_impl_IsMapping (by first | omega | assumption) (atoms_len (l := aQ_Atoms) (by omega))) rfl rfl rfl (by decide) (fun w Lp hA => ⟨hA.ow (mS (mS (mS (mS (mS (mS m0)))))), hA.ow (mS (mS (mS (mS (mS (mS (mS m0))))))), hA.ow (mS (mS (mS (mS m0)))), hA.ow (mS (mS (mS m0))), hA.ow (mS m0), hA.ow (mS (mS m0))⟩)) (fun _ _ => ?_)
          refine E.y rfl rfl (by decide) ((Y.as rfl).yd) ?_
          refine E.nil (E.thn (E.seq (E.seq (E.region (l := [0, 1, 2]) rfl (E.y rfl rfl (by decide) ((Y.mv rfl).yd) ?_)))))
          refine E.y rfl rfl (by decide) ((Y.mv rfl).yd) ?_
          refine E.y rfl rfl (by decide) ((Y.neqB (by kernel_rfl) rfl rfl).yd) (Ent.d (fun q58 => ?_) (fun q58 => ?_))
          · exact absurd rfl q58
          · refine E.nil (E.thn (E.cf rfl (E.skipc (E.thn (E.seq (E.seq (D.region (fun j => true) mixed (D.y 0 rfl rfl (by decide) (Y.ldS (cs := [_, _]) ty_Query rfl (Has.pt (mS (mS (mS (mS (mS m0)))))) rfl) (by kernel_rfl) ?_))))))))
            refine D.y 1 rfl rfl (by decide) (Y.ldS (cs := [_, _]) ty_lQuery rfl (Has.pt (mS (mS (mS (mS (mS (mS (mS (mS (mS (mS (mS (mS (mS (mS (mS m0)))))))))))))))) rfl) (by kernel_rfl) ?_
            refine D.st 2 rfl rfl (by kernel_rfl) (fun _ => rfl) (N.call (t_laws_toQuery (by first | omega | assumption) (by first | omega | assumption)) rfl rfl rfl (by decide) rfl (fun w Lp hA => ⟨hA.ro haQ_Head, hA.ro haQ_Atoms⟩)) (fun k61 _ => ?_)
            obtain ⟨⟨a61_0, m61_0, c61_0⟩, ⟨a61_1, m61_1, c61_1⟩⟩ := k61
            refine Ent.lenow m0 fun e61_0 l61_0 => ?_
            subst e61_0
            refine Ent.lenow (mS m0) fun e61_1 l61_1 => ?_
            subst e61_1
            refine D.st 3 rfl rfl (by kernel_rfl) (fun _ => rfl) (N.call0 t_laws_eqQuery rfl rfl rfl (by decide) (fun w Lp hA => ⟨hA.ow (mS (mS (mS (mS (mS (mS (mS (mS m0)))))))), hA.ow (mS (mS (mS (mS (mS (mS (mS (mS (mS m0))))))))), hA.ow m0, hA.ow (mS m0)⟩)) (fun _ _ => (Ent.b (fun q62 => ?_) (fun q62 => ?_)))
            · refine D.yp 4 rfl rfl (by decide) (Y.not (b := true) rfl) (by kernel_rfl) ?_
              refine D.done (by kernel_rfl) (E.thn (E.cf rfl (E.skipc (E.thn (E.seq (E.seq (E.region (l := [0, 1, 2, 3, 4]) rfl (E.y rfl rfl (by decide) ((Y.mv rfl).yd) ?_))))))))
              refine E.y rfl rfl (by decide) ((Y.mv rfl).yd) ?_
              refine E.st rfl rfl (N.call (t_laws_toFactS (by first | omega | assumption)) rfl rfl rfl (by decide) rfl (fun w Lp hA => hA.ro haFacts)) (fun k66 _ => ?_)
              obtain ⟨a66, m66, c66⟩ := k66
              refine Ent.lenow m0 fun e66 l66 => ?_
              subst e66
              refine E.st rfl rfl (N.call0 t_laws_eqFactS rfl rfl rfl (by decide) (fun w Lp hA => ⟨hA.ow (mS (mS (mS (mS (mS (mS (mS m0))))))), hA.ow m0⟩)) (fun _ _ => (Ent.b (fun q67 => ?_) (fun q67 => ?_)))
              · refine E.y rfl rfl (by decide) ((Y.not (b := true) rfl).yd) ?_
                refine E.nil (E.thn (E.cf rfl (E.skipc (E.thn (E.seq (E.seq (E.region (l := [0, 1, 2, 3, 4]) rfl (E.y rfl rfl (by decide) ((Y.mv rfl).yd) ?_))))))))
                refine E.y rfl rfl (by decide) ((Y.mv rfl).yd) ?_
                refine E.st rfl rfl (N.call (t_laws_toIntS (by first | omega | assumption)) rfl rfl rfl (by decide) rfl (fun w Lp hA => hA.ro haHead)) (fun k71 _ => ?_)
                obtain ⟨a71, m71, c71⟩ := k71
                refine Ent.lenow m0 fun e71 l71 => ?_
                subst e71
                refine E.st rfl rfl (N.call0 t_laws_eqIntS rfl rfl rfl (by decide) (fun w Lp hA => ⟨hA.ow (mS (mS (mS (mS (mS (mS (mS m0))))))), hA.ow m0⟩)) (fun _ _ => (Ent.b (fun q72 => ?_) (fun q72 => ?_)))
                · refine E.y rfl rfl (by decide) ((Y.not (b := true) rfl).yd) ?_
                  refine E.nil (E.thn (E.cf rfl (E.skipc (E.thn (E.seq (E.seq (D.region (fun j => true) mixed (D.y 0 rfl rfl (by decide) (Y.ldS (cs := [_, _]) ty_Binding rfl (Has.pt (mS (mS (mS (mS m0))))) rfl) (by kernel_rfl) ?_))))))))
                  refine D.y 1 rfl rfl (by decide) (Y.ldS (cs := [_, _]) ty_lBinding rfl (Has.pt (mS (mS (mS (mS (mS (mS (mS (mS (mS (mS (mS (mS (mS (mS (mS (mS (mS (mS m0))))))))))))))))))) rfl) (by kernel_rfl) ?_
                  refine D.st 2 rfl rfl (by kernel_rfl) (fun _ => rfl) (N.call (t_laws_toBinding (by first | omega | assumption) (by first | omega | assumption)) rfl rfl rfl (by decide) rfl (fun w Lp hA => ⟨hA.ro haB_Vars, hA.ro haB_Values⟩)) (fun k76 _ => ?_)
                  obtain ⟨⟨a76_0, m76_0, c76_0⟩, ⟨a76_1, m76_1, c76_1⟩⟩ := k76
                  refine Ent.lenow m0 fun e76_0 l76_0 => ?_
                  subst e76_0
                  refine Ent.lenow (mS m0) fun e76_1 l76_1 => ?_
                  subst e76_1
                  refine D.st 3 rfl rfl (by kernel_rfl) (fun _ => rfl) (N.call0 t_laws_eqBinding rfl rfl rfl (by decide) (fun w Lp hA => ⟨hA.ow (mS (mS (mS (mS (mS (mS (mS m0))))))), hA.ow (mS (mS (mS (mS (mS (mS (mS (mS m0)))))))), hA.ow m0, hA.ow (mS m0)⟩)) (fun _ _ => (Ent.b (fun q77 => ?_) (fun q77 => ?_)))
                  · refine D.yp 4 rfl rfl (by decide) (Y.not (b := true) rfl) (by kernel_rfl) ?_
                    refine D.done (by kernel_rfl) (E.thn (E.cf rfl (E.skipc (E.thn (E.seq (E.region (l := [0]) rfl (E.y rfl rfl (by decide) ((Y.as rfl).yd) ?_)))))))
                    exact E.nil (E.thn (E.ret (F.r1 (Back.refl _ _) rfl rfl () trivial rfl (J := _) (.refl _) (.inl rfl))))
                  · refine D.yp 4 rfl rfl (by decide) (Y.not (b := false) rfl) (by kernel_rfl) ?_
                    refine D.done (by kernel_rfl) (E.thn (E.ct rfl (E.seq (E.region (l := [0]) rfl (E.y rfl rfl (by decide) ((Y.as rfl).yd) ?_)))))
                    exact E.nil (E.thn (E.ret (E.thr (F.r1 (Back.refl _ _) rfl rfl () trivial (congrArg Value.bool (by simp_all)) (J := _) (.refl _) (.inl rfl)))))
                · refine E.y rfl rfl (by decide) ((Y.not (b := false) rfl).yd) ?_
                  refine E.nil (E.thn (E.ct rfl (E.seq (E.region (l := [0]) rfl (E.y rfl rfl (by decide) ((Y.as rfl).yd) ?_)))))
                  exact E.nil (E.thn (E.ret (E.thr (F.r1 (Back.refl _ _) rfl rfl () trivial (congrArg Value.bool (by simp_all)) (J := _) (.refl _) (.inl rfl)))))
              · refine E.y rfl rfl (by decide) ((Y.not (b := false) rfl).yd) ?_
                refine E.nil (E.thn (E.ct rfl (E.seq (E.region (l := [0]) rfl (E.y rfl rfl (by decide) ((Y.as rfl).yd) ?_)))))
                exact E.nil (E.thn (E.ret (E.thr (F.r1 (Back.refl _ _) rfl rfl () trivial (congrArg Value.bool (by simp_all)) (J := _) (.refl _) (.inl rfl)))))
            · refine D.yp 4 rfl rfl (by decide) (Y.not (b := false) rfl) (by kernel_rfl) ?_
              refine D.done (by kernel_rfl) (E.thn (E.ct rfl (E.seq (E.region (l := [0]) rfl (E.y rfl rfl (by decide) ((Y.as rfl).yd) ?_)))))
              exact E.nil (E.thn (E.ret (E.thr (F.r1 (Back.refl _ _) rfl rfl () trivial (congrArg Value.bool (by simp_all)) (J := _) (.refl _) (.inl rfl)))))
end Go.Proofs.Ytnagfcajnbkdoaa
