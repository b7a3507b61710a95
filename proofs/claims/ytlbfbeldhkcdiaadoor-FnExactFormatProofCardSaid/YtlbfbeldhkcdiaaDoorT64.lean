import Derived.Test.YtlbfbeldhkcdiaaDoorT63
import Derived.Test.YtlbfbeldhkcdiaaDoorT38
namespace Go.Proofs.YtlbfbeldhkcdiaaDoor
open Go.RowKit
set_option linter.unusedVariables false
set_option linter.unusedSimpArgs false
set_option maxHeartbeats 2000000
attribute [local irreducible] Nop Yd Yp Ent Has Tr FnP FnP2 Src listsF opnF opn1 opnR chainB
theorem t_impl_FormatProof {a_p_Lines : Option Addr} {m_p_Lines c_p_Lines : Nat} {p_Lines : List (Int × (Int × List Int) × Int × List Int)} (hn : p_Lines.length ≤ 1048576) : Tr Tryd.prog 25 [.agg #[.slice a_p_Lines m_p_Lines c_p_Lines]] (fun w L => Ro w L eLines [.slice a_p_Lines m_p_Lines c_p_Lines] p_Lines ∧ RoPt w L gPow powC) [] (κ := Unit) (fun k => True) (fun k => strV (textP p_Lines)) (fun k => []) := by
  refine Tr.intro Tryd.func25 rfl (n := 41) rfl (by decide +kernel) (Nat.le_of_ble_eq_true rfl) (fr := [(0, .agg #[.slice a_p_Lines m_p_Lines c_p_Lines])]) rfl fun w L hR => ?_
  obtain ⟨hp_Lines, htab⟩ := hR
  obtain ⟨rfl, lp_Lines⟩ := hp_Lines.slen
  refine E.seq (E.region (l := [0, 1]) rfl (E.st rfl rfl (N.box (cs := [_]) rfl (by decide) rfl) (fun b1 _ => ?_)))
  refine E.y rfl rfl (by decide) ((Y.as rfl).yd) ?_
  refine E.nil (E.thn (E.seq (E.seq (E.region (l := [0, 1, 2, 3]) rfl (E.y rfl rfl (by decide) ((Y.fld fo_Proof_0 ty_Lines (by decide) rfl).yd) ?_)))))
  refine E.y rfl rfl (by decide) (Y.ld1 ty_Lines rfl ((Has.pt m0).sub (cs' := [_]) 0 rfl) rfl) ?_
  refine E.y rfl rfl (by decide) ((Y.len us_Lines rfl).yd) ?_
  refine E.y rfl rfl (by decide) ((Y.eql rfl rfl).yd) (Ent.d (fun q10 => ?_) (fun q10 => ?_))
  · refine E.nil (E.thn (E.ct rfl (E.seq (E.region (l := [0]) rfl (E.y rfl rfl (by decide) ((Y.as rfl).yd) ?_)))))
    exact E.nil (E.thn (E.ret (E.thr (F.r1 (Back.refl _ _) rfl rfl () trivial (by rw [show (textP p_Lines) = ([110, 111, 110, 101]) from (by exact (textP_none q10).symm)]; try rfl) (J := _) (.refl _) (.inl rfl)))))
  · refine E.nil (E.thn (E.cf rfl (E.skipc (E.thn (E.seq (E.region (l := [0, 1]) rfl (E.st rfl rfl (N.bsl (pvs := []) (cs := []) us_Ss ty_S rfl (by decide) (by decide) (fillZ rfl rfl) rfl (by decide)) (fun b11 _ => ?_))))))))
    refine Ent.drop ?_
    refine E.y rfl rfl (by decide) ((Y.as rfl).yd) ?_
    refine E.nil (E.thn (E.seq (E.seq (E.region (l := [0, 1, 2, 3]) rfl (E.y rfl rfl (by decide) ((Y.fld fo_Proof_0 ty_Lines (by decide) rfl).yd) ?_)))))
    refine E.y rfl rfl (by decide) (Y.ld1 ty_Lines rfl ((Has.pt m0).sub (cs' := [_]) 0 rfl) rfl) ?_
    refine E.y rfl rfl (by decide) ((Y.len us_Lines rfl).yd) ?_
    refine E.y rfl rfl (by decide) ((Y.mv rfl).yd) ?_
    refine E.nil (E.thn (E.block (Ent.mkow (A := []) (Own.nil (E := Enc.str) (e := tS) (a := (some ⟨b11, 0, none⟩))) rfl ?_)))
    refine Ent.cv (congrArg (ow eSs [_]) (show [] = (p_Lines.take 0).map textL from by rfl)) ?_
    refine E.loop (κ := Nat × Option Addr × Nat × Nat) (fun g => g.1 ≤ p_Lines.length ∧ True) (fun g => [(3, .slice g.2.1 g.2.2.1 g.2.2.2), (13, .slice a_p_Lines p_Lines.length c_p_Lines), (14, .int .i64 (↑p_Lines.length : Int)), (15, .int .i64 (↑g.1 : Int))]) (fun g => [ow eSs [.slice g.2.1 g.2.2.1 g.2.2.2] ((p_Lines.take g.1).map textL), pt b1 60 [.slice a_p_Lines p_Lines.length c_p_Lines]]) (fun g => p_Lines.length - g.1) (0, (some ⟨b11, 0, none⟩), 0, 0) ⟨Nat.zero_le _, by simp⟩ ⟨rfl, rfl, rfl, rfl, trivial⟩ (.refl _) (fun g pg => ?_)
    obtain ⟨g, aA0_0, mA0_0, cA0_0⟩ := g
    try dsimp only at pg
    show Ent _ _ _ [(3, .slice aA0_0 mA0_0 cA0_0), (13, .slice a_p_Lines p_Lines.length c_p_Lines), (14, .int .i64 (↑p_Lines.length : Int)), (15, .int .i64 (↑g : Int))] [ow eSs [.slice aA0_0 mA0_0 cA0_0] ((p_Lines.take g).map textL), pt b1 60 [.slice a_p_Lines p_Lines.length c_p_Lines]] _
    obtain ⟨pk, pa⟩ := pg
    have jt := List.length_take_le g p_Lines
    refine Ent.lenow m0 fun eaA0_0 laA0_0 => ?_
    subst eaA0_0
    refine E.seq (E.region (l := [0]) rfl (E.y rfl rfl (by decide) ((Y.lss rfl rfl).yd) (Ent.d (fun q16 => ?_) (fun q16 => ?_))))
    · have jx1 : (textF (p_Lines[g].2.2.1, p_Lines[g].2.2.2)).length ≤ 100 := textF_len
      have jx2 : (textC (p_Lines[g].2.1.1, p_Lines[g].2.1.2)).length ≤ 100 := textC_len
      have jx3 : (textI p_Lines[g].1).length ≤ 21 := textI_len
      obtain ⟨eb17, eo17, ec17, ea17, er17, el17, eh17⟩ := hp_Lines.elem g (by omega)
      obtain ⟨xa17_0, xc17_0, xa17_1, xc17_1, rfl, ei17_0, ei17_1, xh17_0, ei17_3, xh17_1⟩ := Ro.pLine er17
      have := xh17_0.slen.2
      have := xh17_1.slen.2
      refine E.nil (E.thn (E.seq (E.ct rfl (E.skipc (E.thn (E.seq (E.block (E.seq (E.region (l := [0, 1, 2, 3]) rfl (E.y rfl rfl (by decide) ((Y.ix us_Lines ty_Line rfl ea17 rfl g rfl (by omega)).yd) ?_))))))))))
      refine E.y rfl rfl (by decide) (Y.ldS (cs := [_, _, _, _, _]) ty_Line rfl (eh17 _) rfl) ?_
      refine E.st rfl rfl (N.alloc ty_Line (by decide)) (fun b5 _ => ?_)
      refine E.st rfl rfl (N.sto (vs := [_, _, _, _, _]) (cs' := [_, _, _, _, _]) ty_Line rfl rfl rfl rfl rfl (Nat.le_of_ble_eq_true rfl) rfl) (fun _ _ => ?_)
      refine E.nil (E.thn (E.seq (E.region (l := [0, 1, 2, 3, 4]) rfl (E.y rfl rfl (by decide) ((Y.fld fo_Line_0 ty_I (by decide) rfl).yd) ?_))))
      refine E.y rfl rfl (by decide) (Y.ld1 ty_I rfl ((Has.pt m0).sub (cs' := [_]) 0 rfl) rfl) ?_
      refine E.st rfl rfl (N.call0 t_impl_FormatInt_g rfl rfl rfl (by decide) (fun w Lp hA => ⟨ei17_0, hA.rop htab⟩)) (fun _ _ => ?_)
      refine E.y rfl rfl (by decide) ((Y.addS rfl rfl (by first | omega | (simp only [List.length_append, List.length_cons, List.length_nil] at *; omega))).yd) ?_
      refine E.y rfl rfl (by decide) ((Y.as rfl).yd) ?_
      refine E.nil (E.thn (E.seq (E.seq (E.region (l := [0, 1, 2]) rfl (E.y rfl rfl (by decide) ((Y.fld fo_Line_0 ty_I (by decide) rfl).yd) ?_)))))
      refine E.y rfl rfl (by decide) (Y.ld1 ty_I rfl ((Has.pt m0).sub (cs' := [_]) 0 rfl) rfl) ?_
      refine E.y rfl rfl (by decide) ((Y.eql rfl rfl).yd) (Ent.d (fun q25 => ?_) (fun q25 => ?_))
      · refine E.nil (E.thn (E.ct rfl (E.region (l := [0, 1, 2, 3]) rfl (E.y rfl rfl (by decide) ((Y.fld fo_Line_1 ty_Access (by decide) rfl).yd) ?_))))
        refine E.y rfl rfl (by decide) (Y.ldS (cs := [_, _]) ty_Access rfl ((Has.pt m0).sub (cs' := [_, _]) 1 rfl) rfl) ?_
        refine E.st rfl rfl (N.call0 t_impl_FormatAccess rfl rfl rfl (by decide) (fun w Lp hA => ⟨ei17_1, hA.ro xh17_0⟩)) (fun _ _ => ?_)
        refine E.y rfl rfl (by decide) ((Y.as rfl).yd) ?_
        refine E.nil (E.thn (E.region (l := [0, 1, 2, 3, 4, 5, 6, 7, 8, 9]) rfl (E.y rfl rfl (by decide) ((Y.mv rfl).yd) ?_)))
        refine E.y rfl rfl (by decide) ((Y.fld fo_Line_2 ty_Fact (by decide) rfl).yd) ?_
        refine E.y rfl rfl (by decide) (Y.ldS (cs := [_, _]) ty_Fact rfl ((Has.pt m0).sub (cs' := [_, _]) 3 rfl) rfl) ?_
        refine E.st rfl rfl (N.call0 t_impl_FormatFact rfl rfl rfl (by decide) (fun w Lp hA => ⟨ei17_3, hA.ro xh17_1⟩)) (fun _ _ => ?_)
        refine E.y rfl rfl (by decide) ((Y.addS rfl rfl (by first | omega | (simp only [List.length_append, List.length_cons, List.length_nil] at *; omega))).yd) ?_
        refine E.y rfl rfl (by decide) ((Y.mv rfl).yd) ?_
        refine E.y rfl rfl (by decide) ((Y.addS rfl rfl (by first | omega | (simp only [List.length_append, List.length_cons, List.length_nil] at *; omega))).yd) ?_
        refine E.st rfl rfl (N.bsl (pvs := [_]) (cs := [_]) us_Ss ty_S rfl (by decide) (by decide) (fillZ rfl rfl) rfl (by decide)) (fun b36 _ => ?_)
        refine Ent.p2 ?_
        refine E.st rfl rfl (N.push (E := Enc.str) (ex := ((textF p_Lines[g].2.2) ++ ([32, 98, 121, 32])) ++ (textC p_Lines[g].2.1)) us_Ss ty_S rfl rfl rfl Own.str rfl (by first | omega | (simp only [List.length_map, List.length_take, List.length_append, List.length_drop, List.length_cons, List.length_nil]; omega)) (by first | omega | (simp only [List.length_map, List.length_take, List.length_append, List.length_drop, List.length_cons, List.length_nil]; omega)) (by decide)) (fun p37 _ => ?_)
        refine E.y rfl rfl (by decide) ((Y.as rfl).yd) ?_
        refine E.nil (E.bln (E.thn (E.region (l := [0, 1]) rfl (E.y rfl rfl (by decide) ((Y.add rfl rfl (by omega) (by omega)).yd) ?_))))
        refine E.y rfl rfl (by decide) ((Y.mv rfl).yd) ?_
        refine E.nil (E.thn (Ent.p1 ?_))
        refine Ent.drop ?_
        refine Ent.cv (congrArg (ow eSs [_]) (show ((p_Lines.take g).map textL) ++ [((textF p_Lines[g].2.2) ++ ([32, 98, 121, 32])) ++ (textC p_Lines[g].2.1)] = (p_Lines.take (g + 1)).map textL from by rw [List.take_succ_eq_append_getElem (by omega), List.map_append, List.map_singleton, textL]; first | rw [if_pos (by omega)] | rw [if_neg (by omega)])) ?_
        refine Ent.p1 ?_
        refine Ent.p1 ?_
        exact E.again (Back.refl _ _) (g + 1, p37.1, (((p_Lines.take g).map textL).length + 1), p37.2) ⟨rfl, rfl, rfl, rfl, trivial⟩ (.refl _) ⟨(show g + 1 ≤ p_Lines.length from by omega), (show True from by grind [List.drop_eq_getElem_cons, List.drop_eq_nil_of_le, List.take_succ_eq_append_getElem, List.take_of_length_le])⟩ (show p_Lines.length - (g + 1) < p_Lines.length - g from by omega)
      · refine E.nil (E.thn (E.cf rfl (E.skipc (E.thn (E.region (l := [0, 1, 2, 3, 4, 5, 6, 7, 8, 9]) rfl (E.y rfl rfl (by decide) ((Y.mv rfl).yd) ?_))))))
        refine E.y rfl rfl (by decide) ((Y.fld fo_Line_2 ty_Fact (by decide) rfl).yd) ?_
        refine E.y rfl rfl (by decide) (Y.ldS (cs := [_, _]) ty_Fact rfl ((Has.pt m0).sub (cs' := [_, _]) 3 rfl) rfl) ?_
        refine E.st rfl rfl (N.call0 t_impl_FormatFact rfl rfl rfl (by decide) (fun w Lp hA => ⟨ei17_3, hA.ro xh17_1⟩)) (fun _ _ => ?_)
        refine E.y rfl rfl (by decide) ((Y.addS rfl rfl (by first | omega | (simp only [List.length_append, List.length_cons, List.length_nil] at *; omega))).yd) ?_
        refine E.y rfl rfl (by decide) ((Y.mv rfl).yd) ?_
        refine E.y rfl rfl (by decide) ((Y.addS rfl rfl (by first | omega | (simp only [List.length_append, List.length_cons, List.length_nil] at *; omega))).yd) ?_
        refine E.st rfl rfl (N.bsl (pvs := [_]) (cs := [_]) us_Ss ty_S rfl (by decide) (by decide) (fillZ rfl rfl) rfl (by decide)) (fun b36 _ => ?_)
        refine Ent.p2 ?_
        refine E.st rfl rfl (N.push (E := Enc.str) (ex := ((textF p_Lines[g].2.2) ++ ([32, 98, 121, 32])) ++ (([114, 117, 108, 101, 32]) ++ (textI p_Lines[g].1))) us_Ss ty_S rfl rfl rfl Own.str rfl (by first | omega | (simp only [List.length_map, List.length_take, List.length_append, List.length_drop, List.length_cons, List.length_nil]; omega)) (by first | omega | (simp only [List.length_map, List.length_take, List.length_append, List.length_drop, List.length_cons, List.length_nil]; omega)) (by decide)) (fun p37 _ => ?_)
        refine E.y rfl rfl (by decide) ((Y.as rfl).yd) ?_
        refine E.nil (E.bln (E.thn (E.region (l := [0, 1]) rfl (E.y rfl rfl (by decide) ((Y.add rfl rfl (by omega) (by omega)).yd) ?_))))
        refine E.y rfl rfl (by decide) ((Y.mv rfl).yd) ?_
        refine E.nil (E.thn (Ent.p1 ?_))
        refine Ent.drop ?_
        refine Ent.cv (congrArg (ow eSs [_]) (show ((p_Lines.take g).map textL) ++ [((textF p_Lines[g].2.2) ++ ([32, 98, 121, 32])) ++ (([114, 117, 108, 101, 32]) ++ (textI p_Lines[g].1))] = (p_Lines.take (g + 1)).map textL from by rw [List.take_succ_eq_append_getElem (by omega), List.map_append, List.map_singleton, textL]; first | rw [if_pos (by omega)] | rw [if_neg (by omega)])) ?_
        refine Ent.p1 ?_
        refine Ent.p1 ?_
        exact E.again (Back.refl _ _) (g + 1, p37.1, (((p_Lines.take g).map textL).length + 1), p37.2) ⟨rfl, rfl, rfl, rfl, trivial⟩ (.refl _) ⟨(show g + 1 ≤ p_Lines.length from by omega), (show True from by grind [List.drop_eq_getElem_cons, List.drop_eq_nil_of_le, List.take_succ_eq_append_getElem, List.take_of_length_le])⟩ (show p_Lines.length - (g + 1) < p_Lines.length - g from by omega)
    · have jg : (p_Lines.take g).map textL = p_Lines.map textL := by rw [List.take_of_length_le (by omega)]
      have jj := join_map_len (f := textL) (K := 300) (l := p_Lines) (n := 1048576) (sep := [59, 32]) (fun x => textL_len) hn
      refine E.nil (E.thn (E.seq (E.cf rfl (E.exit (E.the (E.the (E.blh (E.thn (E.seq (E.region (l := [0, 1, 2]) rfl (E.y rfl rfl (by decide) ((Y.mv rfl).yd) ?_)))))))))))
      refine E.st rfl rfl (N.call0 (tr_join (by simp only [List.length_map, List.length_take]; omega) (by rw [jg]; exact Nat.le_trans jj (by decide))) rfl rfl rfl (by decide) (fun w Lp hA => hA.ow m0)) (fun _ _ => ?_)
      refine E.y rfl rfl (by decide) ((Y.as rfl).yd) ?_
      exact E.nil (E.thn (E.ret (F.r1 (Back.refl _ _) rfl rfl () trivial (by rw [show (textP p_Lines) = (Lib.join ((p_Lines.take g).map textL) ([59, 32])) from (by rw [jg]; exact textP_some q10)]; try rfl) (J := _) (.refl _) (.inl rfl))))
theorem t_spec_FormatProof {a_p_Lines : Option Addr} {m_p_Lines c_p_Lines : Nat} {p_Lines : List (Int × (Int × List Int) × Int × List Int)} (hn : p_Lines.length ≤ 1048576) : Tr Tryd.prog 23 [.agg #[.slice a_p_Lines m_p_Lines c_p_Lines]] (fun w L => Ro w L eLines [.slice a_p_Lines m_p_Lines c_p_Lines] p_Lines) [] (κ := Unit) (fun k => True) (fun k => strV (textP p_Lines)) (fun k => []) := by
  refine Tr.intro Tryd.func23 rfl (n := 54) rfl (by decide +kernel) (Nat.le_of_ble_eq_true rfl) (fr := [(0, .agg #[.slice a_p_Lines m_p_Lines c_p_Lines])]) rfl fun w L hR => ?_
  have hp_Lines := hR
  obtain ⟨rfl, lp_Lines⟩ := hp_Lines.slen
  refine E.seq (E.region (l := [0, 1]) rfl (E.st rfl rfl (N.box (cs := [_]) rfl (by decide) rfl) (fun b1 _ => ?_)))
  refine E.y rfl rfl (by decide) ((Y.as rfl).yd) ?_
  refine E.nil (E.thn (E.seq (E.region (l := [0]) rfl (E.y rfl rfl (by decide) ((Y.as rfl).yd) ?_))))
  refine E.nil (E.thn (E.seq (E.seq (E.region (l := [0]) rfl (E.y rfl rfl (by decide) ((Y.as rfl).yd) ?_)))))
  refine E.nil (E.thn (E.block (E.loop (κ := Nat) (fun g => g ≤ p_Lines.length ∧ True) (fun g => [(1, .pointer (some ⟨b1, 0, none⟩)), (3, strV (Lib.join ((p_Lines.take g).map textL) [59, 32])), (4, .int .i64 (↑g : Int))]) (fun g => [pt b1 60 [.slice a_p_Lines p_Lines.length c_p_Lines]]) (fun g => p_Lines.length - g) (0) ⟨Nat.zero_le _, by simp⟩ ⟨rfl, frS (by simp [Lib.join_nil]), rfl, trivial⟩ (.refl _) (fun g pg => ?_))))
  show Ent _ _ _ [(1, .pointer (some ⟨b1, 0, none⟩)), (3, strV (Lib.join ((p_Lines.take g).map textL) [59, 32])), (4, .int .i64 (↑g : Int))] [pt b1 60 [.slice a_p_Lines p_Lines.length c_p_Lines]] _
  obtain ⟨pk, pa⟩ := pg
  have jl := join_take_len (f := textL) (K := 300) (l := p_Lines) (g := g) (n := 1048576) (B := 316669952) (sep := [59, 32]) (fun x => textL_len) hn (by decide)
  refine E.seq (E.seq (E.region (l := [0, 1, 2, 3, 4]) rfl (E.y rfl rfl (by decide) ((Y.mv rfl).yd) ?_)))
  refine E.y rfl rfl (by decide) ((Y.fld fo_Proof_0 ty_Lines (by decide) rfl).yd) ?_
  refine E.y rfl rfl (by decide) (Y.ld1 ty_Lines rfl ((Has.pt m0).sub (cs' := [_]) 0 rfl) rfl) ?_
  refine E.y rfl rfl (by decide) ((Y.len us_Lines rfl).yd) ?_
  refine E.y rfl rfl (by decide) ((Y.lss rfl rfl).yd) (Ent.d (fun q10 => ?_) (fun q10 => ?_))
  · have jx1 : (textF (p_Lines[g].2.2.1, p_Lines[g].2.2.2)).length ≤ 100 := textF_len
    have jx2 : (textC (p_Lines[g].2.1.1, p_Lines[g].2.1.2)).length ≤ 100 := textC_len
    have jx3 : (textI p_Lines[g].1).length ≤ 21 := textI_len
    refine E.nil (E.thn (E.ct rfl (E.skipc (E.thn (E.seq (E.block (E.seq (E.region (l := [0, 1, 2, 3, 4, 5, 6, 7, 8]) rfl (E.y rfl rfl (by decide) ((Y.fld fo_Proof_0 ty_Lines (by decide) rfl).yd) ?_)))))))))
    refine E.y rfl rfl (by decide) (Y.ld1 ty_Lines rfl ((Has.pt m0).sub (cs' := [_]) 0 rfl) rfl) ?_
    refine E.y rfl rfl (by decide) ((Y.mv rfl).yd) ?_
    obtain ⟨eb16, eo16, ec16, ea16, er16, el16, eh16⟩ := hp_Lines.elem g (by omega)
    obtain ⟨xa16_0, xc16_0, xa16_1, xc16_1, rfl, ei16_0, ei16_1, xh16_0, ei16_3, xh16_1⟩ := Ro.pLine er16
    have := xh16_0.slen.2
    have := xh16_1.slen.2
    refine E.y rfl rfl (by decide) ((Y.ix us_Lines ty_Line rfl ea16 rfl g rfl (by omega)).yd) ?_
    refine E.y rfl rfl (by decide) ((Y.fld fo_Line_0 ty_I (by decide) rfl).yd) ?_
    refine E.y rfl rfl (by decide) (Y.ld1 ty_I rfl ((eh16 _).sub (cs' := [_]) 0 rfl) rfl) ?_
    refine E.st rfl rfl (N.call0 t_spec_FormatInt rfl rfl rfl (by decide) (fun w Lp hA => ei16_0)) (fun _ _ => ?_)
    refine E.y rfl rfl (by decide) ((Y.addS rfl rfl (by first | omega | (simp only [List.length_append, List.length_cons, List.length_nil] at *; omega))).yd) ?_
    refine E.y rfl rfl (by decide) ((Y.as rfl).yd) ?_
    refine E.nil (E.thn (E.seq (E.seq (E.region (l := [0, 1, 2, 3, 4, 5, 6]) rfl (E.y rfl rfl (by decide) ((Y.fld fo_Proof_0 ty_Lines (by decide) rfl).yd) ?_)))))
    refine E.y rfl rfl (by decide) (Y.ld1 ty_Lines rfl ((Has.pt m0).sub (cs' := [_]) 0 rfl) rfl) ?_
    refine E.y rfl rfl (by decide) ((Y.mv rfl).yd) ?_
    refine E.y rfl rfl (by decide) ((Y.ix us_Lines ty_Line rfl ea16 rfl g rfl (by omega)).yd) ?_
    refine E.y rfl rfl (by decide) ((Y.fld fo_Line_0 ty_I (by decide) rfl).yd) ?_
    refine E.y rfl rfl (by decide) (Y.ld1 ty_I rfl ((eh16 _).sub (cs' := [_]) 0 rfl) rfl) ?_
    refine E.y rfl rfl (by decide) ((Y.eql rfl rfl).yd) (Ent.d (fun q27 => ?_) (fun q27 => ?_))
    · refine E.nil (E.thn (E.ct rfl (E.region (l := [0, 1, 2, 3, 4, 5, 6, 7]) rfl (E.y rfl rfl (by decide) ((Y.fld fo_Proof_0 ty_Lines (by decide) rfl).yd) ?_))))
      refine E.y rfl rfl (by decide) (Y.ld1 ty_Lines rfl ((Has.pt m0).sub (cs' := [_]) 0 rfl) rfl) ?_
      refine E.y rfl rfl (by decide) ((Y.mv rfl).yd) ?_
      refine E.y rfl rfl (by decide) ((Y.ix us_Lines ty_Line rfl ea16 rfl g rfl (by omega)).yd) ?_
      refine E.y rfl rfl (by decide) ((Y.fld fo_Line_1 ty_Access (by decide) rfl).yd) ?_
      refine E.y rfl rfl (by decide) (Y.ldS (cs := [_, _]) ty_Access rfl ((eh16 _).sub (cs' := [_, _]) 1 rfl) rfl) ?_
      refine E.st rfl rfl (N.call0 t_spec_FormatAccess rfl rfl rfl (by decide) (fun w Lp hA => ⟨ei16_1, hA.ro xh16_0⟩)) (fun _ _ => ?_)
      refine E.y rfl rfl (by decide) ((Y.as rfl).yd) ?_
      refine E.nil (E.thn (E.seq (E.seq (E.region (l := [0, 1]) rfl (E.y rfl rfl (by decide) ((Y.mv rfl).yd) ?_)))))
      refine E.y rfl rfl (by decide) ((Y.gtr rfl rfl).yd) (Ent.d (fun q36 => ?_) (fun q36 => ?_))
      · refine E.nil (E.thn (E.ct rfl (E.region (l := [0, 1, 2]) rfl (E.y rfl rfl (by decide) ((Y.mv rfl).yd) ?_))))
        refine E.y rfl rfl (by decide) ((Y.addS rfl rfl (by first | omega | (simp only [List.length_append, List.length_cons, List.length_nil] at *; omega))).yd) ?_
        refine E.y rfl rfl (by decide) ((Y.as rfl).yd) ?_
        refine E.nil (E.thn (E.region (l := [0, 1, 2, 3, 4, 5, 6, 7, 8, 9, 10, 11, 12]) rfl (E.y rfl rfl (by decide) ((Y.mv rfl).yd) ?_)))
        refine E.y rfl rfl (by decide) ((Y.fld fo_Proof_0 ty_Lines (by decide) rfl).yd) ?_
        refine E.y rfl rfl (by decide) (Y.ld1 ty_Lines rfl ((Has.pt m0).sub (cs' := [_]) 0 rfl) rfl) ?_
        refine E.y rfl rfl (by decide) ((Y.mv rfl).yd) ?_
        refine E.y rfl rfl (by decide) ((Y.ix us_Lines ty_Line rfl ea16 rfl g rfl (by omega)).yd) ?_
        refine E.y rfl rfl (by decide) ((Y.fld fo_Line_2 ty_Fact (by decide) rfl).yd) ?_
        refine E.y rfl rfl (by decide) (Y.ldS (cs := [_, _]) ty_Fact rfl ((eh16 _).sub (cs' := [_, _]) 3 rfl) rfl) ?_
        refine E.st rfl rfl (N.call0 t_spec_FormatFact rfl rfl rfl (by decide) (fun w Lp hA => ⟨ei16_3, hA.ro xh16_1⟩)) (fun _ _ => ?_)
        refine E.y rfl rfl (by decide) ((Y.addS rfl rfl (by first | omega | (simp only [List.length_append, List.length_cons, List.length_nil] at *; omega))).yd) ?_
        refine E.y rfl rfl (by decide) ((Y.addS rfl rfl (by first | omega | (simp only [List.length_append, List.length_cons, List.length_nil] at *; omega))).yd) ?_
        refine E.y rfl rfl (by decide) ((Y.mv rfl).yd) ?_
        refine E.y rfl rfl (by decide) ((Y.addS rfl rfl (by first | omega | (simp only [List.length_append, List.length_cons, List.length_nil] at *; omega))).yd) ?_
        refine E.y rfl rfl (by decide) ((Y.as rfl).yd) ?_
        refine E.nil (E.bln (E.thn (E.region (l := [0, 1, 2]) rfl (E.y rfl rfl (by decide) ((Y.mv rfl).yd) ?_))))
        refine E.y rfl rfl (by decide) ((Y.add rfl rfl (by omega) (by omega)).yd) ?_
        refine E.y rfl rfl (by decide) ((Y.as rfl).yd) ?_
        exact E.nil (E.thn (E.again (Back.refl _ _) (g + 1) ⟨rfl, frS (by first | exact pl_step1 (by omega) (by omega) (by first | rw [if_pos (by omega)] | rw [if_neg (by omega)]) | exact pl_step0 (by omega) (by omega) (by first | rw [if_pos (by omega)] | rw [if_neg (by omega)])), rfl, trivial⟩ (.refl _) ⟨(show g + 1 ≤ p_Lines.length from by omega), (show True from by grind [List.drop_eq_getElem_cons, List.drop_eq_nil_of_le, List.take_succ_eq_append_getElem, List.take_of_length_le])⟩ (show p_Lines.length - (g + 1) < p_Lines.length - g from by omega)))
      · refine E.nil (E.thn (E.cf rfl (E.skipc (E.thn (E.region (l := [0, 1, 2, 3, 4, 5, 6, 7, 8, 9, 10, 11, 12]) rfl (E.y rfl rfl (by decide) ((Y.mv rfl).yd) ?_))))))
        refine E.y rfl rfl (by decide) ((Y.fld fo_Proof_0 ty_Lines (by decide) rfl).yd) ?_
        refine E.y rfl rfl (by decide) (Y.ld1 ty_Lines rfl ((Has.pt m0).sub (cs' := [_]) 0 rfl) rfl) ?_
        refine E.y rfl rfl (by decide) ((Y.mv rfl).yd) ?_
        refine E.y rfl rfl (by decide) ((Y.ix us_Lines ty_Line rfl ea16 rfl g rfl (by omega)).yd) ?_
        refine E.y rfl rfl (by decide) ((Y.fld fo_Line_2 ty_Fact (by decide) rfl).yd) ?_
        refine E.y rfl rfl (by decide) (Y.ldS (cs := [_, _]) ty_Fact rfl ((eh16 _).sub (cs' := [_, _]) 3 rfl) rfl) ?_
        refine E.st rfl rfl (N.call0 t_spec_FormatFact rfl rfl rfl (by decide) (fun w Lp hA => ⟨ei16_3, hA.ro xh16_1⟩)) (fun _ _ => ?_)
        refine E.y rfl rfl (by decide) ((Y.addS rfl rfl (by first | omega | (simp only [List.length_append, List.length_cons, List.length_nil] at *; omega))).yd) ?_
        refine E.y rfl rfl (by decide) ((Y.addS rfl rfl (by first | omega | (simp only [List.length_append, List.length_cons, List.length_nil] at *; omega))).yd) ?_
        refine E.y rfl rfl (by decide) ((Y.mv rfl).yd) ?_
        refine E.y rfl rfl (by decide) ((Y.addS rfl rfl (by first | omega | (simp only [List.length_append, List.length_cons, List.length_nil] at *; omega))).yd) ?_
        refine E.y rfl rfl (by decide) ((Y.as rfl).yd) ?_
        refine E.nil (E.bln (E.thn (E.region (l := [0, 1, 2]) rfl (E.y rfl rfl (by decide) ((Y.mv rfl).yd) ?_))))
        refine E.y rfl rfl (by decide) ((Y.add rfl rfl (by omega) (by omega)).yd) ?_
        refine E.y rfl rfl (by decide) ((Y.as rfl).yd) ?_
        exact E.nil (E.thn (E.again (Back.refl _ _) (g + 1) ⟨rfl, frS (by first | exact pl_step1 (by omega) (by omega) (by first | rw [if_pos (by omega)] | rw [if_neg (by omega)]) | exact pl_step0 (by omega) (by omega) (by first | rw [if_pos (by omega)] | rw [if_neg (by omega)])), rfl, trivial⟩ (.refl _) ⟨(show g + 1 ≤ p_Lines.length from by omega), (show True from by grind [List.drop_eq_getElem_cons, List.drop_eq_nil_of_le, List.take_succ_eq_append_getElem, List.take_of_length_le])⟩ (show p_Lines.length - (g + 1) < p_Lines.length - g from by omega)))
    · refine E.nil (E.thn (E.cf rfl (E.skipc (E.thn (E.seq (E.seq (E.region (l := [0, 1]) rfl (E.y rfl rfl (by decide) ((Y.mv rfl).yd) ?_))))))))
      refine E.y rfl rfl (by decide) ((Y.gtr rfl rfl).yd) (Ent.d (fun q36 => ?_) (fun q36 => ?_))
      · refine E.nil (E.thn (E.ct rfl (E.region (l := [0, 1, 2]) rfl (E.y rfl rfl (by decide) ((Y.mv rfl).yd) ?_))))
        refine E.y rfl rfl (by decide) ((Y.addS rfl rfl (by first | omega | (simp only [List.length_append, List.length_cons, List.length_nil] at *; omega))).yd) ?_
        refine E.y rfl rfl (by decide) ((Y.as rfl).yd) ?_
        refine E.nil (E.thn (E.region (l := [0, 1, 2, 3, 4, 5, 6, 7, 8, 9, 10, 11, 12]) rfl (E.y rfl rfl (by decide) ((Y.mv rfl).yd) ?_)))
        refine E.y rfl rfl (by decide) ((Y.fld fo_Proof_0 ty_Lines (by decide) rfl).yd) ?_
        refine E.y rfl rfl (by decide) (Y.ld1 ty_Lines rfl ((Has.pt m0).sub (cs' := [_]) 0 rfl) rfl) ?_
        refine E.y rfl rfl (by decide) ((Y.mv rfl).yd) ?_
        refine E.y rfl rfl (by decide) ((Y.ix us_Lines ty_Line rfl ea16 rfl g rfl (by omega)).yd) ?_
        refine E.y rfl rfl (by decide) ((Y.fld fo_Line_2 ty_Fact (by decide) rfl).yd) ?_
        refine E.y rfl rfl (by decide) (Y.ldS (cs := [_, _]) ty_Fact rfl ((eh16 _).sub (cs' := [_, _]) 3 rfl) rfl) ?_
        refine E.st rfl rfl (N.call0 t_spec_FormatFact rfl rfl rfl (by decide) (fun w Lp hA => ⟨ei16_3, hA.ro xh16_1⟩)) (fun _ _ => ?_)
        refine E.y rfl rfl (by decide) ((Y.addS rfl rfl (by first | omega | (simp only [List.length_append, List.length_cons, List.length_nil] at *; omega))).yd) ?_
        refine E.y rfl rfl (by decide) ((Y.addS rfl rfl (by first | omega | (simp only [List.length_append, List.length_cons, List.length_nil] at *; omega))).yd) ?_
        refine E.y rfl rfl (by decide) ((Y.mv rfl).yd) ?_
        refine E.y rfl rfl (by decide) ((Y.addS rfl rfl (by first | omega | (simp only [List.length_append, List.length_cons, List.length_nil] at *; omega))).yd) ?_
        refine E.y rfl rfl (by decide) ((Y.as rfl).yd) ?_
        refine E.nil (E.bln (E.thn (E.region (l := [0, 1, 2]) rfl (E.y rfl rfl (by decide) ((Y.mv rfl).yd) ?_))))
        refine E.y rfl rfl (by decide) ((Y.add rfl rfl (by omega) (by omega)).yd) ?_
        refine E.y rfl rfl (by decide) ((Y.as rfl).yd) ?_
        exact E.nil (E.thn (E.again (Back.refl _ _) (g + 1) ⟨rfl, frS (by first | exact pl_step1 (by omega) (by omega) (by first | rw [if_pos (by omega)] | rw [if_neg (by omega)]) | exact pl_step0 (by omega) (by omega) (by first | rw [if_pos (by omega)] | rw [if_neg (by omega)])), rfl, trivial⟩ (.refl _) ⟨(show g + 1 ≤ p_Lines.length from by omega), (show True from by grind [List.drop_eq_getElem_cons, List.drop_eq_nil_of_le, List.take_succ_eq_append_getElem, List.take_of_length_le])⟩ (show p_Lines.length - (g + 1) < p_Lines.length - g from by omega)))
      · refine E.nil (E.thn (E.cf rfl (E.skipc (E.thn (E.region (l := [0, 1, 2, 3, 4, 5, 6, 7, 8, 9, 10, 11, 12]) rfl (E.y rfl rfl (by decide) ((Y.mv rfl).yd) ?_))))))
        refine E.y rfl rfl (by decide) ((Y.fld fo_Proof_0 ty_Lines (by decide) rfl).yd) ?_
        refine E.y rfl rfl (by decide) (Y.ld1 ty_Lines rfl ((Has.pt m0).sub (cs' := [_]) 0 rfl) rfl) ?_
        refine E.y rfl rfl (by decide) ((Y.mv rfl).yd) ?_
        refine E.y rfl rfl (by decide) ((Y.ix us_Lines ty_Line rfl ea16 rfl g rfl (by omega)).yd) ?_
        refine E.y rfl rfl (by decide) ((Y.fld fo_Line_2 ty_Fact (by decide) rfl).yd) ?_
        refine E.y rfl rfl (by decide) (Y.ldS (cs := [_, _]) ty_Fact rfl ((eh16 _).sub (cs' := [_, _]) 3 rfl) rfl) ?_
        refine E.st rfl rfl (N.call0 t_spec_FormatFact rfl rfl rfl (by decide) (fun w Lp hA => ⟨ei16_3, hA.ro xh16_1⟩)) (fun _ _ => ?_)
        refine E.y rfl rfl (by decide) ((Y.addS rfl rfl (by first | omega | (simp only [List.length_append, List.length_cons, List.length_nil] at *; omega))).yd) ?_
        refine E.y rfl rfl (by decide) ((Y.addS rfl rfl (by first | omega | (simp only [List.length_append, List.length_cons, List.length_nil] at *; omega))).yd) ?_
        refine E.y rfl rfl (by decide) ((Y.mv rfl).yd) ?_
        refine E.y rfl rfl (by decide) ((Y.addS rfl rfl (by first | omega | (simp only [List.length_append, List.length_cons, List.length_nil] at *; omega))).yd) ?_
        refine E.y rfl rfl (by decide) ((Y.as rfl).yd) ?_
        refine E.nil (E.bln (E.thn (E.region (l := [0, 1, 2]) rfl (E.y rfl rfl (by decide) ((Y.mv rfl).yd) ?_))))
        refine E.y rfl rfl (by decide) ((Y.add rfl rfl (by omega) (by omega)).yd) ?_
        refine E.y rfl rfl (by decide) ((Y.as rfl).yd) ?_
        exact E.nil (E.thn (E.again (Back.refl _ _) (g + 1) ⟨rfl, frS (by first | exact pl_step1 (by omega) (by omega) (by first | rw [if_pos (by omega)] | rw [if_neg (by omega)]) | exact pl_step0 (by omega) (by omega) (by first | rw [if_pos (by omega)] | rw [if_neg (by omega)])), rfl, trivial⟩ (.refl _) ⟨(show g + 1 ≤ p_Lines.length from by omega), (show True from by grind [List.drop_eq_getElem_cons, List.drop_eq_nil_of_le, List.take_succ_eq_append_getElem, List.take_of_length_le])⟩ (show p_Lines.length - (g + 1) < p_Lines.length - g from by omega)))
  · refine E.nil (E.thn (E.cf rfl (E.exit (E.the (E.the (E.blh (E.thn (E.seq (E.seq (E.region (l := [0, 1]) rfl (E.y rfl rfl (by decide) ((Y.mv rfl).yd) ?_)))))))))))
    refine E.y rfl rfl (by decide) ((Y.eqlS rfl rfl).yd) (Ent.d (fun q52 => ?_) (fun q52 => ?_))
    · refine E.nil (E.thn (E.ct rfl (E.seq (E.region (l := [0]) rfl (E.y rfl rfl (by decide) ((Y.as rfl).yd) ?_)))))
      exact E.nil (E.thn (E.ret (E.thr (F.r1 (Back.refl _ _) rfl rfl () trivial (by rw [show (textP p_Lines) = ([110, 111, 110, 101]) from (by rw [List.take_of_length_le (by omega)] at q52; exact (textP_nil q52).symm)]; try rfl) (J := _) (.refl _) (.inl rfl)))))
    · refine E.nil (E.thn (E.cf rfl (E.skipc (E.thn (E.seq (E.region (l := [0, 1]) rfl (E.y rfl rfl (by decide) ((Y.mv rfl).yd) ?_)))))))
      refine E.y rfl rfl (by decide) ((Y.as rfl).yd) ?_
      exact E.nil (E.thn (E.ret (F.r1 (Back.refl _ _) rfl rfl () trivial (by rw [show (textP p_Lines) = (Lib.join ((p_Lines.take g).map textL) [59, 32]) from (by rw [List.take_of_length_le (by omega)] at q52 ⊢; exact (textP_ok q52).symm)]; try rfl) (J := _) (.refl _) (.inl rfl))))
theorem t_laws_FnExactFormatProof {a_aP_Lines : Option Addr} {m_aP_Lines c_aP_Lines : Nat} {aP_Lines : List (Int × (Int × List Int) × Int × List Int)} : Tr Tryd.prog 6 [.agg #[.slice a_aP_Lines m_aP_Lines c_aP_Lines]] (fun w L => Ro w L eLines [.slice a_aP_Lines m_aP_Lines c_aP_Lines] aP_Lines ∧ RoPt w L gPow powC) [] (κ := Unit) (fun k => True) (fun k => .bool (true)) (fun k => []) := by
  refine Tr.intro Tryd.func6 rfl (n := 27) rfl (by decide +kernel) (Nat.le_of_ble_eq_true rfl) (fr := [(0, .agg #[.slice a_aP_Lines m_aP_Lines c_aP_Lines])]) rfl fun w L hR => ?_
  obtain ⟨haP_Lines, htab⟩ := hR
  obtain ⟨rfl, laP_Lines⟩ := haP_Lines.slen
  refine E.seq (E.region (l := [0, 1]) rfl (E.st rfl rfl (N.box (cs := [_]) rfl (by decide) rfl) (fun b1 _ => ?_)))
  refine E.y rfl rfl (by decide) ((Y.as rfl).yd) ?_
  refine E.nil (E.thn (E.seq (E.region (l := [0]) rfl (E.y rfl rfl (by decide) ((Y.as rfl).yd) ?_))))
  refine E.nil (E.thn (E.seq (E.region (l := [0, 1, 2, 3]) rfl (E.y rfl rfl (by decide) (Y.ldS (cs := [_]) ty_lProof rfl (Has.pt m0) rfl) ?_))))
  refine E.y rfl rfl (by decide) ((Y.mv rfl).yd) ?_
  refine E.st rfl rfl (N.call0 t_laws_szProof rfl rfl rfl (by decide) (fun w Lp hA => ⟨hA.ro haP_Lines, (by first | assumption | omega), (by first | assumption | omega)⟩)) (fun _ _ => ?_)
  refine E.y rfl rfl (by decide) ((Y.as rfl).yd) ?_
  refine E.nil (E.thn (E.seq (E.seq (E.region (l := [0, 1]) rfl (E.y rfl rfl (by decide) ((Y.mv rfl).yd) ?_)))))
  refine E.y rfl rfl (by decide) ((Y.lss rfl rfl).yd) (Ent.d (fun q11 => ?_) (fun q11 => ?_))
  · have z11 := szR_bad q11 (by omega)
    refine E.nil (E.thn (E.ct rfl (E.seq (E.region (l := [0]) rfl (E.y rfl rfl (by decide) ((Y.as rfl).yd) ?_)))))
    exact E.nil (E.thn (E.ret (E.thr (F.r1 (Back.refl _ _) rfl rfl () trivial rfl (J := _) (.refl _) (.inl rfl)))))
  · obtain ⟨z11, y11⟩ := szR_ok q11 (by omega)
    refine E.nil (E.thn (E.cf rfl (E.skipc (E.thn (E.seq (E.region (l := [0, 1, 2, 3]) rfl (E.y rfl rfl (by decide) (Y.ldS (cs := [_]) ty_lProof rfl (Has.pt m0) rfl) ?_)))))))
    refine E.st rfl rfl (N.call (t_laws_toProof (by first | omega | assumption)) rfl rfl rfl (by decide) rfl (fun w Lp hA => hA.ro haP_Lines)) (fun k13 _ => ?_)
    obtain ⟨a13, m13, c13⟩ := k13
    refine Ent.lenow m0 fun e13 l13 => ?_
    subst e13
    refine E.st rfl rfl (N.call0 (t_spec_FormatProof (by simp only [totL] at y11; omega)) rfl rfl rfl (by decide) (fun w Lp hA => hA.ow m0)) (fun _ _ => ?_)
    refine E.y rfl rfl (by decide) ((Y.as rfl).yd) ?_
    refine E.nil (E.thn (E.seq (E.region (l := [0, 1, 2, 3]) rfl (E.y rfl rfl (by decide) (Y.ldS (cs := [_]) ty_lProof rfl (Has.pt (mS m0)) rfl) ?_))))
    refine E.st rfl rfl (N.call (t_laws_toProof (by first | omega | assumption)) rfl rfl rfl (by decide) rfl (fun w Lp hA => hA.ro haP_Lines)) (fun k16 _ => ?_)
    obtain ⟨a16, m16, c16⟩ := k16
    refine Ent.lenow m0 fun e16 l16 => ?_
    subst e16
    refine E.st rfl rfl (N.alloc ty_Proof (by decide)) (fun b5 _ => ?_)
    refine E.st rfl rfl (N.sto (vs := [_]) (cs' := [_]) ty_Proof rfl rfl rfl rfl rfl (Nat.le_of_ble_eq_true rfl) rfl) (fun _ _ => ?_)
    refine E.nil (E.thn (E.seq (E.region (l := [0, 1, 2]) rfl (E.y rfl rfl (by decide) (Y.ldS (cs := [_]) ty_Proof rfl (Has.pt m0) rfl) ?_))))
    refine E.st rfl rfl (N.call0 (t_impl_FormatProof (by simp only [totL] at y11; omega)) rfl rfl rfl (by decide) (fun w Lp hA => ⟨hA.ow (mS m0), hA.rop htab⟩)) (fun _ _ => ?_)
    refine E.y rfl rfl (by decide) ((Y.as rfl).yd) ?_
    refine E.nil (E.thn (E.seq (E.seq (E.region (l := [0, 1, 2]) rfl (E.y rfl rfl (by decide) ((Y.mv rfl).yd) ?_)))))
    refine E.y rfl rfl (by decide) ((Y.mv rfl).yd) ?_
    refine E.y rfl rfl (by decide) ((Y.neqS rfl rfl).yd) (Ent.d (fun q21 => ?_) (fun q21 => ?_))
    · exact absurd rfl q21
    · refine E.nil (E.thn (E.cf rfl (E.skipc (E.thn (E.seq (E.seq (D.region (fun j => true) mixed (D.y 0 rfl rfl (by decide) (Y.ldS (cs := [_]) ty_Proof rfl (Has.pt m0) rfl) (by kernel_rfl) ?_))))))))
      refine D.y 1 rfl rfl (by decide) (Y.ldS (cs := [_]) ty_lProof rfl (Has.pt (mS (mS (mS m0)))) rfl) (by kernel_rfl) ?_
      refine D.st 2 rfl rfl (by kernel_rfl) (fun _ => rfl) (N.call (t_laws_toProof (by first | omega | assumption)) rfl rfl rfl (by decide) rfl (fun w Lp hA => hA.ro haP_Lines)) (fun k24 _ => ?_)
      obtain ⟨a24, m24, c24⟩ := k24
      refine Ent.lenow m0 fun e24 l24 => ?_
      subst e24
      refine D.st 3 rfl rfl (by kernel_rfl) (fun _ => rfl) (N.call0 t_laws_eqProof rfl rfl rfl (by decide) (fun w Lp hA => ⟨hA.ow (mS (mS m0)), hA.ow m0⟩)) (fun _ _ => (Ent.b (fun q25 => ?_) (fun q25 => ?_)))
      · refine D.yp 4 rfl rfl (by decide) (Y.not (b := true) rfl) (by kernel_rfl) ?_
        refine D.done (by kernel_rfl) (E.thn (E.cf rfl (E.skipc (E.thn (E.seq (E.region (l := [0]) rfl (E.y rfl rfl (by decide) ((Y.as rfl).yd) ?_)))))))
        exact E.nil (E.thn (E.ret (F.r1 (Back.refl _ _) rfl rfl () trivial rfl (J := _) (.refl _) (.inl rfl))))
      · refine D.yp 4 rfl rfl (by decide) (Y.not (b := false) rfl) (by kernel_rfl) ?_
        refine D.done (by kernel_rfl) (E.thn (E.ct rfl (E.seq (E.region (l := [0]) rfl (E.y rfl rfl (by decide) ((Y.as rfl).yd) ?_)))))
        exact E.nil (E.thn (E.ret (E.thr (F.r1 (Back.refl _ _) rfl rfl () trivial (congrArg Value.bool (by simp_all)) (J := _) (.refl _) (.inl rfl)))))
end Go.Proofs.YtlbfbeldhkcdiaaDoor
