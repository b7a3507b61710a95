import Derived.Test.YtlbfbeldhkcdiaaDoorT60
import Derived.Test.YtlbfbeldhkcdiaaDoorEl
import Derived.Test.YtlbfbeldhkcdiaaDoorT3
import Derived.Test.YtlbfbeldhkcdiaaDoorT5
import Derived.Test.YtlbfbeldhkcdiaaDoorBd
namespace Go.Proofs.YtlbfbeldhkcdiaaDoor
open Go.RowKit
set_option linter.unusedVariables false
set_option linter.unusedSimpArgs false
set_option maxHeartbeats 2000000
attribute [local irreducible] Nop Yd Yp Ent Has Tr FnP FnP2 Src listsF opnF opn1 opnR chainB
theorem t_impl_FormatInt_g {n : Int} : Tr Tryd.prog 35 [.int .i64 n] (fun w L => I64 n ∧ RoPt w L gPow powC) [] (κ := Unit) (fun k => True) (fun k => strV (textI n)) (fun k => []) := by
  refine Tr.intro Tryd.func35 rfl (n := 5) rfl (by decide +kernel) (Nat.le_of_ble_eq_true rfl) (fr := [(0, .int .i64 n)]) rfl fun w L hR => ?_
  obtain ⟨i6n, htab⟩ := hR
  refine E.seq (E.region (l := [0]) rfl (E.y rfl rfl (by decide) ((Y.as rfl).yd) ?_))
  refine E.nil (E.thn (E.seq (E.region (l := [0, 1, 2]) rfl (E.y rfl rfl (by decide) ((Y.mv rfl).yd) ?_))))
  refine E.st rfl rfl (N.call0 tr_itoaG rfl rfl rfl (by decide) (fun w Lp hA => ⟨i6n, hA.rop htab⟩)) (fun _ _ => ?_)
  refine E.y rfl rfl (by decide) ((Y.as rfl).yd) ?_
  exact E.nil (E.thn (E.ret (F.r1 (Back.refl _ _) rfl rfl () trivial rfl (J := _) (.refl _) (.inl rfl))))
theorem t_impl_FormatFact {f_Rel : Int} {a_f_Values : Option Addr} {m_f_Values c_f_Values : Nat} {f_Values : List Int} : Tr Tryd.prog 55 [.agg #[.int .i64 f_Rel, .slice a_f_Values m_f_Values c_f_Values]] (fun w L => I64 f_Rel ∧ Ro w L eIs [.slice a_f_Values m_f_Values c_f_Values] f_Values) [] (κ := Unit) (fun k => True) (fun k => strV (textF (f_Rel, f_Values))) (fun k => []) := by
  refine Tr.intro Tryd.func55 rfl (n := 30) rfl (by decide +kernel) (Nat.le_of_ble_eq_true rfl) (fr := [(0, .agg #[.int .i64 f_Rel, .slice a_f_Values m_f_Values c_f_Values])]) rfl fun w L hR => ?_
  obtain ⟨i6f_Rel, hf_Values⟩ := hR
  obtain ⟨rfl, lf_Values⟩ := hf_Values.slen
  refine E.seq (E.region (l := [0, 1]) rfl (E.st rfl rfl (N.box (cs := [_, _]) rfl (by decide) rfl) (fun b1 _ => ?_)))
  refine E.y rfl rfl (by decide) ((Y.as rfl).yd) ?_
  refine E.nil (E.thn (E.seq (E.seq (E.region (l := [0, 1, 2, 3, 4, 5, 6, 7, 8, 9, 10, 11, 12, 13, 14, 15, 16]) rfl (E.y rfl rfl (by decide) ((Y.fld fo_Fact_0 ty_I (by decide) rfl).yd) ?_)))))
  refine E.y rfl rfl (by decide) (Y.ld1 ty_I rfl ((Has.pt m0).sub (cs' := [_]) 0 rfl) rfl) ?_
  refine E.st rfl rfl (N.call0 t_impl_isRel rfl rfl rfl (by decide) (fun w Lp hA => trivial)) (fun _ _ => (Ent.b (fun q5 => ?_) (fun q5 => ?_)))
  · refine E.y rfl rfl (by decide) ((Y.not (b := true) rfl).yd) ?_
    refine E.y rfl rfl (by decide) ((Y.mv rfl).yd) ?_
    refine E.y rfl rfl (by decide) ((Y.fld fo_Fact_1 ty_Is (by decide) rfl).yd) ?_
    refine E.y rfl rfl (by decide) (Y.ld1 ty_Is rfl ((Has.pt m0).sub (cs' := [_]) 1 rfl) rfl) ?_
    refine E.y rfl rfl (by decide) ((Y.len us_Is rfl).yd) ?_
    refine E.st rfl rfl (N.call0 t_impl_within rfl rfl rfl (by decide) (fun w Lp hA => trivial)) (fun _ _ => (Ent.b (fun q11 => ?_) (fun q11 => ?_)))
    · refine E.y rfl rfl (by decide) ((Y.not (b := true) rfl).yd) ?_
      refine E.y rfl rfl (by decide) ((Y.pkf rfl rfl).yd) ?_
      refine E.y rfl rfl (by decide) ((Y.mv rfl).yd) ?_
      refine E.y rfl rfl (by decide) ((Y.fld fo_Fact_1 ty_Is (by decide) rfl).yd) ?_
      refine E.y rfl rfl (by decide) (Y.ld1 ty_Is rfl ((Has.pt m0).sub (cs' := [_]) 1 rfl) rfl) ?_
      refine E.st rfl rfl (N.call0 t_impl_areValues rfl rfl rfl (by decide) (fun w Lp hA => hA.ro hf_Values)) (fun _ _ => (Ent.b (fun q17 => ?_) (fun q17 => ?_)))
      · have jl3 : f_Values.length ≤ 1000000 := by simp only [inR, decide_eq_true_eq] at q11; omega
        have j1 := textI_len (n := f_Rel)
        have j3 := join_map_len (f := textI) (K := 21) (l := f_Values) (n := 3) (sep := [44]) (fun x => textI_len) (by simp only [inR, decide_eq_true_eq] at q11; omega)
        have jF : 0 ≤ f_Rel ∧ f_Rel ≤ 9 := by simp only [inR, decide_eq_true_eq] at q5; omega
        have jM := okVals_all q17
        refine E.y rfl rfl (by decide) ((Y.not (b := true) rfl).yd) ?_
        refine E.y rfl rfl (by decide) ((Y.pkf rfl rfl).yd) ?_
        refine E.nil (E.thn (E.cf rfl (E.skipc (E.thn (E.seq (D.region (fun j => true) mixed (D.yp 0 rfl rfl (by decide) (Y.fld fo_Fact_0 ty_I (by decide) rfl) (by kernel_rfl) ?_)))))))
        refine D.y 1 rfl rfl (by decide) (Y.ld1 ty_I rfl ((Has.pt m0).sub (cs' := [_]) 0 rfl) rfl) (by kernel_rfl) ?_
        refine D.yp 5 rfl rfl (by decide) (Y.fld fo_Fact_1 ty_Is (by decide) rfl) (by kernel_rfl) ?_
        refine D.y 6 rfl rfl (by decide) (Y.ld1 ty_Is rfl ((Has.pt m0).sub (cs' := [_]) 1 rfl) rfl) (by kernel_rfl) ?_
        refine D.st 2 rfl rfl (by kernel_rfl) (fun _ => rfl) (N.call0 (t_impl_FormatInt jF) rfl rfl rfl (by decide) (fun w Lp hA => trivial)) (fun _ _ => ?_)
        refine D.yp 3 rfl rfl (by decide) (Y.addS rfl rfl (by first | omega | (simp only [List.length_append, List.length_cons, List.length_nil] at *; omega))) (by kernel_rfl) ?_
        refine D.yp 4 rfl rfl (by decide) (Y.addS rfl rfl (by first | omega | (simp only [List.length_append, List.length_cons, List.length_nil] at *; omega))) (by kernel_rfl) ?_
        refine D.st 7 rfl rfl (by kernel_rfl) (fun _ => rfl) (N.call0 (t_impl_joined jl3 (by decide) jM) rfl rfl rfl (by decide) (fun w Lp hA => hA.ro hf_Values)) (fun _ _ => ?_)
        refine D.yp 8 rfl rfl (by decide) (Y.addS rfl rfl (by first | omega | (simp only [List.length_append, List.length_cons, List.length_nil] at *; omega))) (by kernel_rfl) ?_
        refine D.yp 9 rfl rfl (by decide) (Y.addS rfl rfl (by first | omega | (simp only [List.length_append, List.length_cons, List.length_nil] at *; omega))) (by kernel_rfl) ?_
        refine D.yp 10 rfl rfl (by decide) (Y.as rfl) (by kernel_rfl) ?_
        exact D.done (by kernel_rfl) (E.thn (E.ret (F.r1 (Back.refl _ _) rfl rfl () trivial (by rw [show (textF (f_Rel, f_Values)) = ((((([114]) ++ (textI f_Rel)) ++ ([40])) ++ (Lib.join (f_Values.map textI) ([44]))) ++ ([41])) from (by rw [textF, q5, q11, q17]; rfl)]; try rfl) (J := _) (.refl _) (.inl rfl))))
      · refine E.y rfl rfl (by decide) ((Y.not (b := false) rfl).yd) ?_
        refine E.y rfl rfl (by decide) ((Y.pkf rfl rfl).yd) ?_
        refine E.nil (E.thn (E.ct rfl (E.seq (E.region (l := [0]) rfl (E.y rfl rfl (by decide) ((Y.as rfl).yd) ?_)))))
        exact E.nil (E.thn (E.ret (E.thr (F.r1 (Back.refl _ _) rfl rfl () trivial (by rw [show (textF (f_Rel, f_Values)) = ([]) from (by rw [textF, q5, q11, q17]; rfl)]; try rfl) (J := _) (.refl _) (.inl rfl)))))
    · refine E.y rfl rfl (by decide) ((Y.not (b := false) rfl).yd) ?_
      refine E.y rfl rfl (by decide) ((Y.pkf rfl rfl).yd) ?_
      refine E.y rfl rfl (by decide) ((Y.mv rfl).yd) ?_
      refine E.skip rfl rfl rfl ?_
      refine E.skip rfl rfl rfl ?_
      refine E.skip rfl rfl rfl ?_
      refine E.skip rfl rfl rfl ?_
      refine E.y rfl rfl (by decide) ((Y.pkt rfl rfl).yd) ?_
      refine E.nil (E.thn (E.ct rfl (E.seq (E.region (l := [0]) rfl (E.y rfl rfl (by decide) ((Y.as rfl).yd) ?_)))))
      exact E.nil (E.thn (E.ret (E.thr (F.r1 (Back.refl _ _) rfl rfl () trivial (by rw [show (textF (f_Rel, f_Values)) = ([]) from (by rw [textF, q5, q11]; rfl)]; try rfl) (J := _) (.refl _) (.inl rfl)))))
  · refine E.y rfl rfl (by decide) ((Y.not (b := false) rfl).yd) ?_
    refine E.y rfl rfl (by decide) ((Y.mv rfl).yd) ?_
    refine E.skip rfl rfl rfl ?_
    refine E.skip rfl rfl rfl ?_
    refine E.skip rfl rfl rfl ?_
    refine E.skip rfl rfl rfl ?_
    refine E.skip rfl rfl rfl ?_
    refine E.y rfl rfl (by decide) ((Y.pkt rfl rfl).yd) ?_
    refine E.y rfl rfl (by decide) ((Y.mv rfl).yd) ?_
    refine E.skip rfl rfl rfl ?_
    refine E.skip rfl rfl rfl ?_
    refine E.skip rfl rfl rfl ?_
    refine E.skip rfl rfl rfl ?_
    refine E.y rfl rfl (by decide) ((Y.pkt rfl rfl).yd) ?_
    refine E.nil (E.thn (E.ct rfl (E.seq (E.region (l := [0]) rfl (E.y rfl rfl (by decide) ((Y.as rfl).yd) ?_)))))
    exact E.nil (E.thn (E.ret (E.thr (F.r1 (Back.refl _ _) rfl rfl () trivial (by rw [show (textF (f_Rel, f_Values)) = ([]) from (by rw [textF, q5]; rfl)]; try rfl) (J := _) (.refl _) (.inl rfl)))))
theorem t_spec_FormatFact {f_Rel : Int} {a_f_Values : Option Addr} {m_f_Values c_f_Values : Nat} {f_Values : List Int} : Tr Tryd.prog 52 [.agg #[.int .i64 f_Rel, .slice a_f_Values m_f_Values c_f_Values]] (fun w L => I64 f_Rel ∧ Ro w L eIs [.slice a_f_Values m_f_Values c_f_Values] f_Values) [] (κ := Unit) (fun k => True) (fun k => strV (textF (f_Rel, f_Values))) (fun k => []) := by
  refine Tr.intro Tryd.func52 rfl (n := 39) rfl (by decide +kernel) (Nat.le_of_ble_eq_true rfl) (fr := [(0, .agg #[.int .i64 f_Rel, .slice a_f_Values m_f_Values c_f_Values])]) rfl fun w L hR => ?_
  obtain ⟨i6f_Rel, hf_Values⟩ := hR
  obtain ⟨rfl, lf_Values⟩ := hf_Values.slen
  refine E.seq (E.region (l := [0, 1]) rfl (E.st rfl rfl (N.box (cs := [_, _]) rfl (by decide) rfl) (fun b1 _ => ?_)))
  refine E.y rfl rfl (by decide) ((Y.as rfl).yd) ?_
  refine E.nil (E.thn (E.seq (E.seq (E.region (l := [0, 1, 2, 3, 4, 5, 6, 7, 8, 9, 10]) rfl (E.y rfl rfl (by decide) ((Y.fld fo_Fact_0 ty_I (by decide) rfl).yd) ?_)))))
  refine E.y rfl rfl (by decide) (Y.ld1 ty_I rfl ((Has.pt m0).sub (cs' := [_]) 0 rfl) rfl) ?_
  refine E.st rfl rfl (N.call0 t_spec_l1In rfl rfl rfl (by decide) (fun w Lp hA => trivial)) (fun _ _ => (Ent.b (fun q6 => ?_) (fun q6 => ?_)))
  · refine E.y rfl rfl (by decide) ((Y.not (b := true) rfl).yd) ?_
    refine E.y rfl rfl (by decide) ((Y.mv rfl).yd) ?_
    refine E.y rfl rfl (by decide) ((Y.fld fo_Fact_1 ty_Is (by decide) rfl).yd) ?_
    refine E.y rfl rfl (by decide) (Y.ld1 ty_Is rfl ((Has.pt m0).sub (cs' := [_]) 1 rfl) rfl) ?_
    refine E.y rfl rfl (by decide) ((Y.len us_Is rfl).yd) ?_
    refine E.st rfl rfl (N.call0 t_spec_l1In rfl rfl rfl (by decide) (fun w Lp hA => trivial)) (fun _ _ => (Ent.b (fun q12 => ?_) (fun q12 => ?_)))
    · have jl3 : f_Values.length ≤ 1000000 := by simp only [inR, decide_eq_true_eq] at q12; omega
      have j1 := textI_len (n := f_Rel)
      have j3 := join_map_len (f := textI) (K := 21) (l := f_Values) (n := 3) (sep := [44]) (fun x => textI_len) (by simp only [inR, decide_eq_true_eq] at q12; omega)
      refine E.y rfl rfl (by decide) ((Y.not (b := true) rfl).yd) ?_
      refine E.y rfl rfl (by decide) ((Y.pkf rfl rfl).yd) ?_
      refine E.nil (E.thn (E.cf rfl (E.skipc (E.thn (E.seq (E.seq (E.region (l := [0]) rfl (E.y rfl rfl (by decide) ((Y.as rfl).yd) ?_))))))))
      refine E.nil (E.thn (E.block (E.loop (κ := Nat) (fun g => g ≤ f_Values.length ∧ okVals f_Values = okVals (f_Values.drop g)) (fun g => [(1, .pointer (some ⟨b1, 0, none⟩)), (3, .int .i64 (↑g : Int))]) (fun g => [pt b1 90 [.int .i64 f_Rel, .slice a_f_Values f_Values.length c_f_Values]]) (fun g => f_Values.length - g) 0 ⟨Nat.zero_le _, by rfl⟩ ⟨rfl, rfl, trivial⟩ (.refl _) (fun g pg => ?_))))
      obtain ⟨pk, pa⟩ := pg
      refine E.seq (E.seq (E.region (l := [0, 1, 2, 3, 4]) rfl (E.y rfl rfl (by decide) ((Y.mv rfl).yd) ?_)))
      refine E.y rfl rfl (by decide) ((Y.fld fo_Fact_1 ty_Is (by decide) rfl).yd) ?_
      refine E.y rfl rfl (by decide) (Y.ld1 ty_Is rfl ((Has.pt m0).sub (cs' := [_]) 1 rfl) rfl) ?_
      refine E.y rfl rfl (by decide) ((Y.len us_Is rfl).yd) ?_
      refine E.y rfl rfl (by decide) ((Y.lss rfl rfl).yd) (Ent.d (fun q19 => ?_) (fun q19 => ?_))
      · refine E.nil (E.thn (E.ct rfl (E.skipc (E.thn (E.seq (E.block (E.seq (E.region (l := [0, 1, 2, 3, 4, 5, 6]) rfl (E.y rfl rfl (by decide) ((Y.fld fo_Fact_1 ty_Is (by decide) rfl).yd) ?_)))))))))
        refine E.y rfl rfl (by decide) (Y.ld1 ty_Is rfl ((Has.pt m0).sub (cs' := [_]) 1 rfl) rfl) ?_
        refine E.y rfl rfl (by decide) ((Y.mv rfl).yd) ?_
        obtain ⟨eb25, eo25, ea25, ei25, eh25⟩ := hf_Values.elemI g (by omega)
        refine E.y rfl rfl (by decide) ((Y.ix us_Is ty_I rfl ea25 rfl g rfl (by omega)).yd) ?_
        refine E.y rfl rfl (by decide) (Y.ld1 ty_I rfl (eh25 _) rfl) ?_
        refine E.st rfl rfl (N.call0 t_spec_l1In rfl rfl rfl (by decide) (fun w Lp hA => trivial)) (fun _ _ => (Ent.b (fun q27 => ?_) (fun q27 => ?_)))
        · refine E.y rfl rfl (by decide) ((Y.not (b := true) rfl).yd) ?_
          refine E.nil (E.thn (E.cf rfl (E.skipc (E.bln (E.thn (E.region (l := [0, 1, 2]) rfl (E.y rfl rfl (by decide) ((Y.mv rfl).yd) ?_)))))))
          refine E.y rfl rfl (by decide) ((Y.add rfl rfl (by omega) (by omega)).yd) ?_
          refine E.y rfl rfl (by decide) ((Y.as rfl).yd) ?_
          exact E.nil (E.thn (E.again (Back.refl _ _) (g + 1) ⟨rfl, rfl, trivial⟩ (.refl _) ⟨by omega, by rw [pa]; exact okVals_step (by omega) q27⟩ (by omega)))
        · refine E.y rfl rfl (by decide) ((Y.not (b := false) rfl).yd) ?_
          refine E.nil (E.thn (E.ct rfl (E.seq (E.region (l := [0]) rfl (E.y rfl rfl (by decide) ((Y.as rfl).yd) ?_)))))
          exact E.nil (E.thn (E.ret (E.blr (E.thr (E.thr (E.blr (E.thr (F.r1 (Back.refl _ _) rfl rfl () trivial (by rw [show (textF (f_Rel, f_Values)) = ([]) from (by rw [textF, q6, q12, pa, okVals_no (by omega) q27]; rfl)]; try rfl) (J := _) (.refl _) (.inl rfl)))))))))
      · refine E.nil (E.thn (E.cf rfl (E.exit (E.the (E.the (E.blh (E.thn (E.seq (D.region (fun j => true) mixed (D.yp 0 rfl rfl (by decide) (Y.fld fo_Fact_0 ty_I (by decide) rfl) (by kernel_rfl) ?_))))))))))
        refine D.y 1 rfl rfl (by decide) (Y.ld1 ty_I rfl ((Has.pt m0).sub (cs' := [_]) 0 rfl) rfl) (by kernel_rfl) ?_
        refine D.yp 5 rfl rfl (by decide) (Y.fld fo_Fact_1 ty_Is (by decide) rfl) (by kernel_rfl) ?_
        refine D.y 6 rfl rfl (by decide) (Y.ld1 ty_Is rfl ((Has.pt m0).sub (cs' := [_]) 1 rfl) rfl) (by kernel_rfl) ?_
        refine D.st 2 rfl rfl (by kernel_rfl) (fun _ => rfl) (N.call0 t_spec_FormatInt rfl rfl rfl (by decide) (fun w Lp hA => i6f_Rel)) (fun _ _ => ?_)
        refine D.yp 3 rfl rfl (by decide) (Y.addS rfl rfl (by first | omega | (simp only [List.length_append, List.length_cons, List.length_nil] at *; omega))) (by kernel_rfl) ?_
        refine D.yp 4 rfl rfl (by decide) (Y.addS rfl rfl (by first | omega | (simp only [List.length_append, List.length_cons, List.length_nil] at *; omega))) (by kernel_rfl) ?_
        refine D.st 7 rfl rfl (by kernel_rfl) (fun _ => rfl) (N.call0 (t_spec_l2List jl3) rfl rfl rfl (by decide) (fun w Lp hA => hA.ro hf_Values)) (fun _ _ => ?_)
        refine D.yp 8 rfl rfl (by decide) (Y.addS rfl rfl (by first | omega | (simp only [List.length_append, List.length_cons, List.length_nil] at *; omega))) (by kernel_rfl) ?_
        refine D.yp 9 rfl rfl (by decide) (Y.addS rfl rfl (by first | omega | (simp only [List.length_append, List.length_cons, List.length_nil] at *; omega))) (by kernel_rfl) ?_
        refine D.yp 10 rfl rfl (by decide) (Y.as rfl) (by kernel_rfl) ?_
        exact D.done (by kernel_rfl) (E.thn (E.ret (F.r1 (Back.refl _ _) rfl rfl () trivial (by rw [show (textF (f_Rel, f_Values)) = ((((([114]) ++ (textI f_Rel)) ++ ([40])) ++ (Lib.join (f_Values.map textI) [44])) ++ ([41])) from (by rw [textF, q6, q12, pa, okVals_end (by omega)]; rfl)]; try rfl) (J := _) (.refl _) (.inl rfl))))
    · refine E.y rfl rfl (by decide) ((Y.not (b := false) rfl).yd) ?_
      refine E.y rfl rfl (by decide) ((Y.pkf rfl rfl).yd) ?_
      refine E.nil (E.thn (E.ct rfl (E.seq (E.region (l := [0]) rfl (E.y rfl rfl (by decide) ((Y.as rfl).yd) ?_)))))
      exact E.nil (E.thn (E.ret (E.thr (F.r1 (Back.refl _ _) rfl rfl () trivial (by rw [show (textF (f_Rel, f_Values)) = ([]) from (by rw [textF, q6, q12]; rfl)]; try rfl) (J := _) (.refl _) (.inl rfl)))))
  · refine E.y rfl rfl (by decide) ((Y.not (b := false) rfl).yd) ?_
    refine E.y rfl rfl (by decide) ((Y.mv rfl).yd) ?_
    refine E.skip rfl rfl rfl ?_
    refine E.skip rfl rfl rfl ?_
    refine E.skip rfl rfl rfl ?_
    refine E.skip rfl rfl rfl ?_
    refine E.skip rfl rfl rfl ?_
    refine E.y rfl rfl (by decide) ((Y.pkt rfl rfl).yd) ?_
    refine E.nil (E.thn (E.ct rfl (E.seq (E.region (l := [0]) rfl (E.y rfl rfl (by decide) ((Y.as rfl).yd) ?_)))))
    exact E.nil (E.thn (E.ret (E.thr (F.r1 (Back.refl _ _) rfl rfl () trivial (by rw [show (textF (f_Rel, f_Values)) = ([]) from (by rw [textF, q6]; rfl)]; try rfl) (J := _) (.refl _) (.inl rfl)))))
theorem t_impl_FormatAccess {a_Method : Int} {a_a_Values : Option Addr} {m_a_Values c_a_Values : Nat} {a_Values : List Int} : Tr Tryd.prog 54 [.agg #[.int .i64 a_Method, .slice a_a_Values m_a_Values c_a_Values]] (fun w L => I64 a_Method ∧ Ro w L eIs [.slice a_a_Values m_a_Values c_a_Values] a_Values) [] (κ := Unit) (fun k => True) (fun k => strV (textC (a_Method, a_Values))) (fun k => []) := by
  refine Tr.intro Tryd.func54 rfl (n := 29) rfl (by decide +kernel) (Nat.le_of_ble_eq_true rfl) (fr := [(0, .agg #[.int .i64 a_Method, .slice a_a_Values m_a_Values c_a_Values])]) rfl fun w L hR => ?_
  obtain ⟨i6a_Method, ha_Values⟩ := hR
  obtain ⟨rfl, la_Values⟩ := ha_Values.slen
  refine E.seq (E.region (l := [0, 1]) rfl (E.st rfl rfl (N.box (cs := [_, _]) rfl (by decide) rfl) (fun b1 _ => ?_)))
  refine E.y rfl rfl (by decide) ((Y.as rfl).yd) ?_
  refine E.nil (E.thn (E.seq (E.seq (E.region (l := [0, 1, 2, 3, 4, 5, 6, 7, 8, 9, 10, 11, 12, 13, 14, 15]) rfl (E.y rfl rfl (by decide) ((Y.fld fo_Access_0 ty_I (by decide) rfl).yd) ?_)))))
  refine E.y rfl rfl (by decide) (Y.ld1 ty_I rfl ((Has.pt m0).sub (cs' := [_]) 0 rfl) rfl) ?_
  refine E.st rfl rfl (N.call0 t_impl_within rfl rfl rfl (by decide) (fun w Lp hA => trivial)) (fun _ _ => (Ent.b (fun q5 => ?_) (fun q5 => ?_)))
  · refine E.y rfl rfl (by decide) ((Y.not (b := true) rfl).yd) ?_
    refine E.y rfl rfl (by decide) ((Y.mv rfl).yd) ?_
    refine E.y rfl rfl (by decide) ((Y.fld fo_Access_1 ty_Is (by decide) rfl).yd) ?_
    refine E.y rfl rfl (by decide) (Y.ld1 ty_Is rfl ((Has.pt m0).sub (cs' := [_]) 1 rfl) rfl) ?_
    refine E.y rfl rfl (by decide) ((Y.len us_Is rfl).yd) ?_
    refine E.y rfl rfl (by decide) ((Y.gtr rfl rfl).yd) (Ent.d (fun q11 => ?_) (fun q11 => ?_))
    · refine E.y rfl rfl (by decide) ((Y.pkf rfl rfl).yd) ?_
      refine E.y rfl rfl (by decide) ((Y.mv rfl).yd) ?_
      refine E.skip rfl rfl rfl ?_
      refine E.skip rfl rfl rfl ?_
      refine E.skip rfl rfl rfl ?_
      refine E.skip rfl rfl rfl ?_
      refine E.y rfl rfl (by decide) ((Y.pkt rfl rfl).yd) ?_
      refine E.nil (E.thn (E.ct rfl (E.seq (E.region (l := [0]) rfl (E.y rfl rfl (by decide) ((Y.as rfl).yd) ?_)))))
      exact E.nil (E.thn (E.ret (E.thr (F.r1 (Back.refl _ _) rfl rfl () trivial (by rw [show (textC (a_Method, a_Values)) = ([]) from (by rw [textC, q5, decide_eq_true q11]; rfl)]; try rfl) (J := _) (.refl _) (.inl rfl)))))
    · refine E.y rfl rfl (by decide) ((Y.pkf rfl rfl).yd) ?_
      refine E.y rfl rfl (by decide) ((Y.mv rfl).yd) ?_
      refine E.y rfl rfl (by decide) ((Y.fld fo_Access_1 ty_Is (by decide) rfl).yd) ?_
      refine E.y rfl rfl (by decide) (Y.ld1 ty_Is rfl ((Has.pt m0).sub (cs' := [_]) 1 rfl) rfl) ?_
      refine E.st rfl rfl (N.call0 t_impl_areValues rfl rfl rfl (by decide) (fun w Lp hA => hA.ro ha_Values)) (fun _ _ => (Ent.b (fun q16 => ?_) (fun q16 => ?_)))
      · have jl3 : a_Values.length ≤ 1000000 := by omega
        have j1 := textI_len (n := a_Method)
        have j3 := join_map_len (f := textI) (K := 21) (l := a_Values) (n := 3) (sep := [44]) (fun x => textI_len) (by omega)
        have jF : 0 ≤ a_Method ∧ a_Method ≤ 9 := by simp only [inR, decide_eq_true_eq] at q5; omega
        have jM := okVals_all q16
        refine E.y rfl rfl (by decide) ((Y.not (b := true) rfl).yd) ?_
        refine E.y rfl rfl (by decide) ((Y.pkf rfl rfl).yd) ?_
        refine E.nil (E.thn (E.cf rfl (E.skipc (E.thn (E.seq (D.region (fun j => true) mixed (D.yp 0 rfl rfl (by decide) (Y.fld fo_Access_0 ty_I (by decide) rfl) (by kernel_rfl) ?_)))))))
        refine D.y 1 rfl rfl (by decide) (Y.ld1 ty_I rfl ((Has.pt m0).sub (cs' := [_]) 0 rfl) rfl) (by kernel_rfl) ?_
        refine D.yp 5 rfl rfl (by decide) (Y.fld fo_Access_1 ty_Is (by decide) rfl) (by kernel_rfl) ?_
        refine D.y 6 rfl rfl (by decide) (Y.ld1 ty_Is rfl ((Has.pt m0).sub (cs' := [_]) 1 rfl) rfl) (by kernel_rfl) ?_
        refine D.st 2 rfl rfl (by kernel_rfl) (fun _ => rfl) (N.call0 (t_impl_FormatInt jF) rfl rfl rfl (by decide) (fun w Lp hA => trivial)) (fun _ _ => ?_)
        refine D.yp 3 rfl rfl (by decide) (Y.addS rfl rfl (by first | omega | (simp only [List.length_append, List.length_cons, List.length_nil] at *; omega))) (by kernel_rfl) ?_
        refine D.yp 4 rfl rfl (by decide) (Y.addS rfl rfl (by first | omega | (simp only [List.length_append, List.length_cons, List.length_nil] at *; omega))) (by kernel_rfl) ?_
        refine D.st 7 rfl rfl (by kernel_rfl) (fun _ => rfl) (N.call0 (t_impl_joined jl3 (by decide) jM) rfl rfl rfl (by decide) (fun w Lp hA => hA.ro ha_Values)) (fun _ _ => ?_)
        refine D.yp 8 rfl rfl (by decide) (Y.addS rfl rfl (by first | omega | (simp only [List.length_append, List.length_cons, List.length_nil] at *; omega))) (by kernel_rfl) ?_
        refine D.yp 9 rfl rfl (by decide) (Y.addS rfl rfl (by first | omega | (simp only [List.length_append, List.length_cons, List.length_nil] at *; omega))) (by kernel_rfl) ?_
        refine D.yp 10 rfl rfl (by decide) (Y.as rfl) (by kernel_rfl) ?_
        exact D.done (by kernel_rfl) (E.thn (E.ret (F.r1 (Back.refl _ _) rfl rfl () trivial (by rw [show (textC (a_Method, a_Values)) = ((((([109]) ++ (textI a_Method)) ++ ([40])) ++ (Lib.join (a_Values.map textI) ([44]))) ++ ([41])) from (by rw [textC, q5, decide_eq_false q11, q16]; rfl)]; try rfl) (J := _) (.refl _) (.inl rfl))))
      · refine E.y rfl rfl (by decide) ((Y.not (b := false) rfl).yd) ?_
        refine E.y rfl rfl (by decide) ((Y.pkf rfl rfl).yd) ?_
        refine E.nil (E.thn (E.ct rfl (E.seq (E.region (l := [0]) rfl (E.y rfl rfl (by decide) ((Y.as rfl).yd) ?_)))))
        exact E.nil (E.thn (E.ret (E.thr (F.r1 (Back.refl _ _) rfl rfl () trivial (by rw [show (textC (a_Method, a_Values)) = ([]) from (by rw [textC, q5, decide_eq_false q11, q16]; rfl)]; try rfl) (J := _) (.refl _) (.inl rfl)))))
  · refine E.y rfl rfl (by decide) ((Y.not (b := false) rfl).yd) ?_
    refine E.y rfl rfl (by decide) ((Y.mv rfl).yd) ?_
    refine E.skip rfl rfl rfl ?_
    refine E.skip rfl rfl rfl ?_
    refine E.skip rfl rfl rfl ?_
    refine E.skip rfl rfl rfl ?_
    refine E.y rfl rfl (by decide) ((Y.pkt rfl rfl).yd) ?_
    refine E.y rfl rfl (by decide) ((Y.mv rfl).yd) ?_
    refine E.skip rfl rfl rfl ?_
    refine E.skip rfl rfl rfl ?_
    refine E.skip rfl rfl rfl ?_
    refine E.skip rfl rfl rfl ?_
    refine E.y rfl rfl (by decide) ((Y.pkt rfl rfl).yd) ?_
    refine E.nil (E.thn (E.ct rfl (E.seq (E.region (l := [0]) rfl (E.y rfl rfl (by decide) ((Y.as rfl).yd) ?_)))))
    exact E.nil (E.thn (E.ret (E.thr (F.r1 (Back.refl _ _) rfl rfl () trivial (by rw [show (textC (a_Method, a_Values)) = ([]) from (by rw [textC, q5]; rfl)]; try rfl) (J := _) (.refl _) (.inl rfl)))))
theorem t_spec_FormatAccess {a_Method : Int} {a_a_Values : Option Addr} {m_a_Values c_a_Values : Nat} {a_Values : List Int} : Tr Tryd.prog 51 [.agg #[.int .i64 a_Method, .slice a_a_Values m_a_Values c_a_Values]] (fun w L => I64 a_Method ∧ Ro w L eIs [.slice a_a_Values m_a_Values c_a_Values] a_Values) [] (κ := Unit) (fun k => True) (fun k => strV (textC (a_Method, a_Values))) (fun k => []) := by
  refine Tr.intro Tryd.func51 rfl (n := 38) rfl (by decide +kernel) (Nat.le_of_ble_eq_true rfl) (fr := [(0, .agg #[.int .i64 a_Method, .slice a_a_Values m_a_Values c_a_Values])]) rfl fun w L hR => ?_
  obtain ⟨i6a_Method, ha_Values⟩ := hR
  obtain ⟨rfl, la_Values⟩ := ha_Values.slen
  refine E.seq (E.region (l := [0, 1]) rfl (E.st rfl rfl (N.box (cs := [_, _]) rfl (by decide) rfl) (fun b1 _ => ?_)))
  refine E.y rfl rfl (by decide) ((Y.as rfl).yd) ?_
  refine E.nil (E.thn (E.seq (E.seq (E.region (l := [0, 1, 2, 3, 4, 5, 6, 7, 8, 9]) rfl (E.y rfl rfl (by decide) ((Y.fld fo_Access_0 ty_I (by decide) rfl).yd) ?_)))))
  refine E.y rfl rfl (by decide) (Y.ld1 ty_I rfl ((Has.pt m0).sub (cs' := [_]) 0 rfl) rfl) ?_
  refine E.st rfl rfl (N.call0 t_spec_l1In rfl rfl rfl (by decide) (fun w Lp hA => trivial)) (fun _ _ => (Ent.b (fun q6 => ?_) (fun q6 => ?_)))
  · refine E.y rfl rfl (by decide) ((Y.not (b := true) rfl).yd) ?_
    refine E.y rfl rfl (by decide) ((Y.mv rfl).yd) ?_
    refine E.y rfl rfl (by decide) ((Y.fld fo_Access_1 ty_Is (by decide) rfl).yd) ?_
    refine E.y rfl rfl (by decide) (Y.ld1 ty_Is rfl ((Has.pt m0).sub (cs' := [_]) 1 rfl) rfl) ?_
    refine E.y rfl rfl (by decide) ((Y.len us_Is rfl).yd) ?_
    refine E.y rfl rfl (by decide) ((Y.gtr rfl rfl).yd) (Ent.d (fun q12 => ?_) (fun q12 => ?_))
    · refine E.y rfl rfl (by decide) ((Y.pkf rfl rfl).yd) ?_
      refine E.nil (E.thn (E.ct rfl (E.seq (E.region (l := [0]) rfl (E.y rfl rfl (by decide) ((Y.as rfl).yd) ?_)))))
      exact E.nil (E.thn (E.ret (E.thr (F.r1 (Back.refl _ _) rfl rfl () trivial (by rw [show (textC (a_Method, a_Values)) = ([]) from (by rw [textC, q6, decide_eq_true q12]; rfl)]; try rfl) (J := _) (.refl _) (.inl rfl)))))
    · have jl3 : a_Values.length ≤ 1000000 := by omega
      have j1 := textI_len (n := a_Method)
      have j3 := join_map_len (f := textI) (K := 21) (l := a_Values) (n := 3) (sep := [44]) (fun x => textI_len) (by omega)
      refine E.y rfl rfl (by decide) ((Y.pkf rfl rfl).yd) ?_
      refine E.nil (E.thn (E.cf rfl (E.skipc (E.thn (E.seq (E.seq (E.region (l := [0]) rfl (E.y rfl rfl (by decide) ((Y.as rfl).yd) ?_))))))))
      refine E.nil (E.thn (E.block (E.loop (κ := Nat) (fun g => g ≤ a_Values.length ∧ okVals a_Values = okVals (a_Values.drop g)) (fun g => [(1, .pointer (some ⟨b1, 0, none⟩)), (3, .int .i64 (↑g : Int))]) (fun g => [pt b1 88 [.int .i64 a_Method, .slice a_a_Values a_Values.length c_a_Values]]) (fun g => a_Values.length - g) 0 ⟨Nat.zero_le _, by rfl⟩ ⟨rfl, rfl, trivial⟩ (.refl _) (fun g pg => ?_))))
      obtain ⟨pk, pa⟩ := pg
      refine E.seq (E.seq (E.region (l := [0, 1, 2, 3, 4]) rfl (E.y rfl rfl (by decide) ((Y.mv rfl).yd) ?_)))
      refine E.y rfl rfl (by decide) ((Y.fld fo_Access_1 ty_Is (by decide) rfl).yd) ?_
      refine E.y rfl rfl (by decide) (Y.ld1 ty_Is rfl ((Has.pt m0).sub (cs' := [_]) 1 rfl) rfl) ?_
      refine E.y rfl rfl (by decide) ((Y.len us_Is rfl).yd) ?_
      refine E.y rfl rfl (by decide) ((Y.lss rfl rfl).yd) (Ent.d (fun q18 => ?_) (fun q18 => ?_))
      · refine E.nil (E.thn (E.ct rfl (E.skipc (E.thn (E.seq (E.block (E.seq (E.region (l := [0, 1, 2, 3, 4, 5, 6]) rfl (E.y rfl rfl (by decide) ((Y.fld fo_Access_1 ty_Is (by decide) rfl).yd) ?_)))))))))
        refine E.y rfl rfl (by decide) (Y.ld1 ty_Is rfl ((Has.pt m0).sub (cs' := [_]) 1 rfl) rfl) ?_
        refine E.y rfl rfl (by decide) ((Y.mv rfl).yd) ?_
        obtain ⟨eb24, eo24, ea24, ei24, eh24⟩ := ha_Values.elemI g (by omega)
        refine E.y rfl rfl (by decide) ((Y.ix us_Is ty_I rfl ea24 rfl g rfl (by omega)).yd) ?_
        refine E.y rfl rfl (by decide) (Y.ld1 ty_I rfl (eh24 _) rfl) ?_
        refine E.st rfl rfl (N.call0 t_spec_l1In rfl rfl rfl (by decide) (fun w Lp hA => trivial)) (fun _ _ => (Ent.b (fun q26 => ?_) (fun q26 => ?_)))
        · refine E.y rfl rfl (by decide) ((Y.not (b := true) rfl).yd) ?_
          refine E.nil (E.thn (E.cf rfl (E.skipc (E.bln (E.thn (E.region (l := [0, 1, 2]) rfl (E.y rfl rfl (by decide) ((Y.mv rfl).yd) ?_)))))))
          refine E.y rfl rfl (by decide) ((Y.add rfl rfl (by omega) (by omega)).yd) ?_
          refine E.y rfl rfl (by decide) ((Y.as rfl).yd) ?_
          exact E.nil (E.thn (E.again (Back.refl _ _) (g + 1) ⟨rfl, rfl, trivial⟩ (.refl _) ⟨by omega, by rw [pa]; exact okVals_step (by omega) q26⟩ (by omega)))
        · refine E.y rfl rfl (by decide) ((Y.not (b := false) rfl).yd) ?_
          refine E.nil (E.thn (E.ct rfl (E.seq (E.region (l := [0]) rfl (E.y rfl rfl (by decide) ((Y.as rfl).yd) ?_)))))
          exact E.nil (E.thn (E.ret (E.blr (E.thr (E.thr (E.blr (E.thr (F.r1 (Back.refl _ _) rfl rfl () trivial (by rw [show (textC (a_Method, a_Values)) = ([]) from (by rw [textC, q6, decide_eq_false q12, pa, okVals_no (by omega) q26]; rfl)]; try rfl) (J := _) (.refl _) (.inl rfl)))))))))
      · refine E.nil (E.thn (E.cf rfl (E.exit (E.the (E.the (E.blh (E.thn (E.seq (D.region (fun j => true) mixed (D.yp 0 rfl rfl (by decide) (Y.fld fo_Access_0 ty_I (by decide) rfl) (by kernel_rfl) ?_))))))))))
        refine D.y 1 rfl rfl (by decide) (Y.ld1 ty_I rfl ((Has.pt m0).sub (cs' := [_]) 0 rfl) rfl) (by kernel_rfl) ?_
        refine D.yp 5 rfl rfl (by decide) (Y.fld fo_Access_1 ty_Is (by decide) rfl) (by kernel_rfl) ?_
        refine D.y 6 rfl rfl (by decide) (Y.ld1 ty_Is rfl ((Has.pt m0).sub (cs' := [_]) 1 rfl) rfl) (by kernel_rfl) ?_
        refine D.st 2 rfl rfl (by kernel_rfl) (fun _ => rfl) (N.call0 t_spec_FormatInt rfl rfl rfl (by decide) (fun w Lp hA => i6a_Method)) (fun _ _ => ?_)
        refine D.yp 3 rfl rfl (by decide) (Y.addS rfl rfl (by first | omega | (simp only [List.length_append, List.length_cons, List.length_nil] at *; omega))) (by kernel_rfl) ?_
        refine D.yp 4 rfl rfl (by decide) (Y.addS rfl rfl (by first | omega | (simp only [List.length_append, List.length_cons, List.length_nil] at *; omega))) (by kernel_rfl) ?_
        refine D.st 7 rfl rfl (by kernel_rfl) (fun _ => rfl) (N.call0 (t_spec_l2List jl3) rfl rfl rfl (by decide) (fun w Lp hA => hA.ro ha_Values)) (fun _ _ => ?_)
        refine D.yp 8 rfl rfl (by decide) (Y.addS rfl rfl (by first | omega | (simp only [List.length_append, List.length_cons, List.length_nil] at *; omega))) (by kernel_rfl) ?_
        refine D.yp 9 rfl rfl (by decide) (Y.addS rfl rfl (by first | omega | (simp only [List.length_append, List.length_cons, List.length_nil] at *; omega))) (by kernel_rfl) ?_
        refine D.yp 10 rfl rfl (by decide) (Y.as rfl) (by kernel_rfl) ?_
        exact D.done (by kernel_rfl) (E.thn (E.ret (F.r1 (Back.refl _ _) rfl rfl () trivial (by rw [show (textC (a_Method, a_Values)) = ((((([109]) ++ (textI a_Method)) ++ ([40])) ++ (Lib.join (a_Values.map textI) [44])) ++ ([41])) from (by rw [textC, q6, decide_eq_false q12, pa, okVals_end (by omega)]; rfl)]; try rfl) (J := _) (.refl _) (.inl rfl))))
  · refine E.y rfl rfl (by decide) ((Y.not (b := false) rfl).yd) ?_
    refine E.y rfl rfl (by decide) ((Y.mv rfl).yd) ?_
    refine E.skip rfl rfl rfl ?_
    refine E.skip rfl rfl rfl ?_
    refine E.skip rfl rfl rfl ?_
    refine E.skip rfl rfl rfl ?_
    refine E.y rfl rfl (by decide) ((Y.pkt rfl rfl).yd) ?_
    refine E.nil (E.thn (E.ct rfl (E.seq (E.region (l := [0]) rfl (E.y rfl rfl (by decide) ((Y.as rfl).yd) ?_)))))
    exact E.nil (E.thn (E.ret (E.thr (F.r1 (Back.refl _ _) rfl rfl () trivial (by rw [show (textC (a_Method, a_Values)) = ([]) from (by rw [textC, q6]; rfl)]; try rfl) (J := _) (.refl _) (.inl rfl)))))
end Go.Proofs.YtlbfbeldhkcdiaaDoor
