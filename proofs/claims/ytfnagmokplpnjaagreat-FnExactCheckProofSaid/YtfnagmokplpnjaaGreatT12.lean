import Derived.Test.YtfnagmokplpnjaaGreatBe
import Derived.Test.YtfnagmokplpnjaaGreatBb
namespace Go.Proofs.YtfnagmokplpnjaaGreat
open Go.RowKit
set_option linter.unusedVariables false
set_option linter.unusedSimpArgs false
set_option maxHeartbeats 2000000
attribute [local irreducible] Nop Yd Yp Ent Has Tr FnP FnP2 Src
theorem t_Insert_Fact {a_s : Option Addr} {m_s c_s : Nat} {s : List (Int × List Int)} {i : Int} {a_v : Option Addr} {m_v c_v : Nat} {v : List (Int × List Int)} (hi : 0 ≤ i ∧ i ≤ s.length) (hv0 : 0 < v.length) (hz : s.length + v.length ≤ 1073741824) : Tr Tryz.prog 230 [.slice a_s m_s c_s, .int .i64 i, .slice a_v m_v c_v] (fun w L => True) [ow eFacts [.slice a_s m_s c_s] s, ow eFacts [.slice a_v m_v c_v] v] (κ := Option Addr × Nat × Nat) (fun k => True) (fun k => .slice k.1 k.2.1 k.2.2) (fun k => [ow eFacts [.slice k.1 k.2.1 k.2.2] (s.take i.toNat ++ v ++ s.drop i.toNat)]) := by
  refine Tr.intro Tryz.func230 rfl (n := 95) rfl (by decide +kernel) (Nat.le_of_ble_eq_true rfl) (fr := [(0, .slice a_s m_s c_s), (1, .int .i64 i), (2, .slice a_v m_v c_v)]) rfl fun w L hR => ?_
  refine Ent.lenow m0 fun es ls => ?_
  subst es
  refine Ent.lenow (mS m0) fun ev lv => ?_
  subst ev
  obtain ⟨j, rfl⟩ : ∃ j : Nat, i = (j : Int) := ⟨i.toNat, by omega⟩
  refine Ent.spl fun cs hcs => ?_
  replace hcs : cs.length = s.length * 2 := hcs
  show Ent _ _ _ _ (row tFact 2 a_s s.length c_s cs :: _) _
  refine Ent.elone (mS m0) fun h1s => ?_
  refine Ent.rmc m0 fun hms => ?_
  refine Ent.p2 ?_
  refine Ent.spl fun cv hcv => ?_
  replace hcv : cv.length = v.length * 2 := hcv
  show Ent _ _ _ _ (row tFact 2 a_v v.length c_v cv :: _) _
  refine Ent.elone (mS m0) fun h1v => ?_
  refine Ent.rmc m0 fun hmv => ?_
  refine Ent.radr m0 (by omega) fun vb hvb _ => ?_
  subst hvb
  refine E.seq (E.region (l := [0]) rfl (E.y rfl rfl (by decide) ((Y.as rfl).yd) ?_))
  refine E.nil (E.thn (E.seq (E.region (l := [0, 1, 2]) rfl (E.y rfl rfl (by decide) ((Y.mv rfl).yd) ?_))))
  refine E.y rfl rfl (by decide) ((Y.mv rfl).yd) ?_
  refine E.y rfl rfl (by decide) ((Y.slFrom (l := j) us_Facts ty_Fact rfl rfl (by omega)).yd) ?_
  refine E.nil (E.thn (E.seq (E.region (l := [0, 1, 2]) rfl (E.y rfl rfl (by decide) ((Y.mv rfl).yd) ?_))))
  refine E.y rfl rfl (by decide) ((Y.len us_Facts rfl).yd) ?_
  refine E.y rfl rfl (by decide) ((Y.as rfl).yd) ?_
  refine E.nil (E.thn (E.seq (E.seq (E.region (l := [0, 1]) rfl (E.y rfl rfl (by decide) ((Y.mv rfl).yd) ?_)))))
  refine E.y rfl rfl (by decide) ((Y.eql rfl rfl).yd) (Ent.d (fun q16 => ?_) (fun q16 => ?_))
  · exact absurd q16 (by omega)
  · refine E.nil (E.thn (E.cf rfl (E.skipc (E.thn (E.seq (E.region (l := [0, 1, 2]) rfl (E.y rfl rfl (by decide) ((Y.mv rfl).yd) ?_)))))))
    refine E.y rfl rfl (by decide) ((Y.len us_Facts rfl).yd) ?_
    refine E.y rfl rfl (by decide) ((Y.as rfl).yd) ?_
    refine E.nil (E.thn (E.seq (E.seq (E.region (l := [0, 1, 2]) rfl (E.y rfl rfl (by decide) ((Y.mv rfl).yd) ?_)))))
    refine E.y rfl rfl (by decide) ((Y.mv rfl).yd) ?_
    refine E.y rfl rfl (by decide) ((Y.eql rfl rfl).yd) (Ent.d (fun q22 => ?_) (fun q22 => ?_))
    · refine E.nil (E.thn (E.ct rfl (E.seq (E.region (l := [0, 1, 2, 3]) rfl (E.y rfl rfl (by decide) ((Y.mv rfl).yd) ?_)))))
      refine E.y rfl rfl (by decide) ((Y.mv rfl).yd) ?_
      refine Ent.p2 ?_
      refine E.st rfl rfl (N.app us_Facts ty_Fact (by decide) rfl rfl (fun w hw => Src.row (mS m0) (by decide) hw) (by simpa using hcv) h1v (by unfold maxLen; omega) (by omega) (by decide)) (fun p25 _ => ?_)
      refine E.y rfl rfl (by decide) ((Y.as rfl).yd) ?_
      refine E.nil (E.thn (E.ret (E.thr (Ent.p2 ?_))))
      refine Ent.p3 ?_
      refine Ent.eins (i := j) (by omega) ?_
      refine Ent.p1 ?_
      refine Ent.cv (congrArg (row tFact 2 p25.1 (s.length + v.length) p25.2) (show cs ++ cv = cs.take (j * 2) ++ cv ++ cs.drop (j * 2) from take_all_drop hcs (by omega))) ?_
      refine Ent.joi (E := eFact) (by simp only [List.length_append, List.length_take, List.length_drop]; omega) (by unfold maxLen; omega) ?_
      exact F.r1 (Back.refl _ _) rfl rfl (_, _, _) trivial rfl (J := _) (.refl _) (.inl rfl)
    · refine Ent.radr (mS (mS m0)) (by omega) fun sb hsb _ => ?_
      subst hsb
      refine E.nil (E.thn (E.cf rfl (E.skipc (E.thn (E.seq (E.seq (E.region (l := [0, 1, 2, 3, 4, 5]) rfl (E.y rfl rfl (by decide) ((Y.mv rfl).yd) ?_))))))))
      refine E.y rfl rfl (by decide) ((Y.mv rfl).yd) ?_
      refine E.y rfl rfl (by decide) ((Y.add rfl rfl (by omega) (by omega)).yd) ?_
      refine E.y rfl rfl (by decide) ((Y.mv rfl).yd) ?_
      refine E.y rfl rfl (by decide) ((Y.cap us_Facts rfl).yd) ?_
      refine E.y rfl rfl (by decide) ((Y.gtr rfl rfl).yd) (Ent.d (fun q31 => ?_) (fun q31 => ?_))
      · refine E.nil (E.thn (E.ct rfl (E.seq (E.region (l := [0, 1, 2, 3, 4, 5, 6, 7, 8, 9]) rfl (E.y rfl rfl (by decide) ((Y.mv rfl).yd) ?_)))))
        refine E.y rfl rfl (by decide) ((Y.mv rfl).yd) ?_
        refine E.y rfl rfl (by decide) ((Y.slTo (h := j) us_Facts ty_Fact rfl rfl (by omega)).yd) ?_
        refine E.y rfl rfl (by decide) ((Y.mv rfl).yd) ?_
        refine E.y rfl rfl (by decide) ((Y.mv rfl).yd) ?_
        refine E.y rfl rfl (by decide) ((Y.add rfl rfl (by omega) (by omega)).yd) ?_
        refine E.y rfl rfl (by decide) ((Y.mv rfl).yd) ?_
        refine E.y rfl rfl (by decide) ((Y.sub rfl rfl (by omega) (by omega)).yd) ?_
        refine E.st rfl rfl (N.appz (zn := (s.length + v.length - j)) us_Facts (by kernel_rfl) ty_Fact (by decide) rfl rfl (by omega) (by omega) (by omega) (mS (mS m0)) (by omega) (by omega) (by omega) (by decide)) (fun p40 hp40 => ?_)
        obtain ⟨pb40, pc40, pz40⟩ := p40
        obtain ⟨hp40, hq40⟩ := hp40
        dsimp only at hp40 hq40
        refine E.y rfl rfl (by decide) ((Y.as rfl).yd) ?_
        refine E.nil (E.thn (E.seq (E.region (l := [0, 1, 2, 3, 4]) rfl (E.y rfl rfl (by decide) ((Y.mv rfl).yd) ?_))))
        refine E.y rfl rfl (by decide) ((Y.mv rfl).yd) ?_
        refine E.y rfl rfl (by decide) ((Y.slFr (l := j) (b := pb40) (m := ((j) + (s.length + v.length - j))) (c := pc40) us_Facts ty_Fact rfl rfl (by omega) (by omega)).yd) ?_
        refine E.y rfl rfl (by decide) ((Y.mv rfl).yd) ?_
        refine E.st rfl rfl (N.cpy (p := j) (q := v.length) (news := cv) us_Facts ty_Fact rfl rfl rfl (by omega) (by simp only [Nat.min_def]; split <;> omega) (.inr ⟨_, _, rfl, Has.row0 (mS m0)⟩) (by first | omega | (simp only [List.length_take, List.length_drop, List.length_append]; omega)) h1v (by omega) (by decide) rfl) (fun _ _ => ?_)
        refine E.nil (E.thn (E.seq (D.region (fun j => !(Nat.beq j 8)) mixed (D.yp 0 rfl rfl (by decide) (Y.mv rfl) (by kernel_rfl) ?_))))
        refine D.yp 1 rfl rfl (by decide) (Y.mv rfl) (by kernel_rfl) ?_
        refine D.yp 2 rfl rfl (by decide) (Y.mv rfl) (by kernel_rfl) ?_
        refine D.yp 3 rfl rfl (by decide) (Y.add rfl rfl (by omega) (by omega)) (by kernel_rfl) ?_
        refine D.yp 4 rfl rfl (by decide) (Y.slFr (l := j + v.length) (b := pb40) (m := ((j) + (s.length + v.length - j))) (c := pc40) us_Facts ty_Fact rfl rfl (by omega) (by omega)) (by kernel_rfl) ?_
        refine D.yp 5 rfl rfl (by decide) (Y.mv rfl) (by kernel_rfl) ?_
        refine D.yp 6 rfl rfl (by decide) (Y.mv rfl) (by kernel_rfl) ?_
        refine D.yp 7 rfl rfl (by decide) (Y.slFr (l := j) (b := sb) (m := s.length) (c := c_s) us_Facts ty_Fact rfl rfl (by omega) (by omega)) (by kernel_rfl) ?_
        refine D.st 8 rfl rfl (by kernel_rfl) (fun h => by cases h) (N.cpy (p := j + v.length) (q := s.length - j) (news := cs.drop (j * 2)) us_Facts ty_Fact rfl rfl rfl (by omega) (by simp only [Nat.min_def]; split <;> omega) (.inr ⟨_, _, rfl, Has.rowd (mS (mS (mS m0))) j (rest := []) ((List.append_nil _).symm)⟩) (by first | omega | (simp only [List.length_take, List.length_drop, List.length_append]; omega)) (fun u hu => h1s u (List.mem_of_mem_drop hu)) (by omega) (by decide) rfl) (fun _ _ => ?_)
        refine D.done (by kernel_rfl) (E.thn (E.seq (E.region (l := [0, 1]) rfl (E.y rfl rfl (by decide) ((Y.mv rfl).yd) ?_))))
        refine E.y rfl rfl (by decide) ((Y.as rfl).yd) ?_
        refine E.nil (E.thn (E.ret (E.thr (Ent.p2 ?_))))
        refine Ent.p4 ?_
        refine Ent.eins (i := j) (by omega) ?_
        refine Ent.p1 ?_
        refine Ent.cv (congrArg (row tFact 2 (some ⟨pb40, 0, none⟩) ((j) + (s.length + v.length - j)) pc40) (show ((cs.take ((j) * 2) ++ pz40).take (j * 2) ++ cv ++ (cs.take ((j) * 2) ++ pz40).drop (j * 2 + v.length * 2)).take ((j + v.length) * 2) ++ (cs.drop (j * 2)) ++ ((cs.take ((j) * 2) ++ pz40).take (j * 2) ++ cv ++ (cs.take ((j) * 2) ++ pz40).drop (j * 2 + v.length * 2)).drop ((j + v.length) * 2 + (s.length - j) * 2) = cs.take (j * 2) ++ cv ++ cs.drop (j * 2) from ins_cells hcs hcv hp40 (by omega))) ?_
        refine Ent.joi (E := eFact) (by simp only [List.length_append, List.length_take, List.length_drop]; omega) (by unfold maxLen; omega) ?_
        exact F.r1 (Back.refl _ _) rfl rfl (_, _, _) trivial rfl (J := _) (.refl _) (.inl rfl)
      · refine E.nil (E.thn (E.cf rfl (E.skipc (E.thn (E.seq (E.region (l := [0, 1, 2, 3, 4, 5]) rfl (E.y rfl rfl (by decide) ((Y.mv rfl).yd) ?_)))))))
        refine E.y rfl rfl (by decide) ((Y.mv rfl).yd) ?_
        refine E.y rfl rfl (by decide) ((Y.mv rfl).yd) ?_
        refine E.y rfl rfl (by decide) ((Y.add rfl rfl (by omega) (by omega)).yd) ?_
        refine Ent.p2 ?_
        refine Ent.rup (m' := s.length + v.length) (by omega) (by omega) (by omega) fun tl60 htl60 => ?_
        refine E.y rfl rfl (by decide) ((Y.slTo (h := s.length + v.length) us_Facts ty_Fact rfl rfl (by omega)).yd) ?_
        refine E.y rfl rfl (by decide) ((Y.as rfl).yd) ?_
        refine E.nil (E.thn (E.seq (E.seq (E.region (l := [0, 1, 2, 3, 4, 5, 6, 7]) rfl (E.y rfl rfl (by decide) ((Y.mv rfl).yd) ?_)))))
        refine E.y rfl rfl (by decide) ((Y.mv rfl).yd) ?_
        refine E.y rfl rfl (by decide) ((Y.mv rfl).yd) ?_
        refine E.y rfl rfl (by decide) ((Y.mv rfl).yd) ?_
        refine E.y rfl rfl (by decide) ((Y.add rfl rfl (by omega) (by omega)).yd) ?_
        refine E.y rfl rfl (by decide) ((Y.slFr (l := j + v.length) (b := sb) (m := (s.length + v.length)) (c := c_s) us_Facts ty_Fact rfl rfl (by omega) (by omega)).yd) ?_
        refine Ent.p1 ?_
        refine Ent.p1 ?_
        refine E.st rfl rfl (N.ovl (tR := 4) Tryz.func260 rfl (by kernel_rfl) (by kernel_rfl) (by kernel_rfl) us_Facts ty_Fact (by decide) rfl rfl rfl (by omega) (by omega) (by decide)) (fun _ _ => ?_)
        refine E.y rfl rfl (by decide) ((Y.not (b := false) rfl).yd) ?_
        refine E.nil (E.thn (E.ct rfl (E.seq (D.region (fun j => !(Nat.beq j 8)) mixed (D.yp 0 rfl rfl (by decide) (Y.mv rfl) (by kernel_rfl) ?_)))))
        refine D.yp 1 rfl rfl (by decide) (Y.mv rfl) (by kernel_rfl) ?_
        refine D.yp 2 rfl rfl (by decide) (Y.mv rfl) (by kernel_rfl) ?_
        refine D.yp 3 rfl rfl (by decide) (Y.add rfl rfl (by omega) (by omega)) (by kernel_rfl) ?_
        refine D.yp 4 rfl rfl (by decide) (Y.slFr (l := j + v.length) (b := sb) (m := (s.length + v.length)) (c := c_s) us_Facts ty_Fact rfl rfl (by omega) (by omega)) (by kernel_rfl) ?_
        refine D.yp 5 rfl rfl (by decide) (Y.mv rfl) (by kernel_rfl) ?_
        refine D.yp 6 rfl rfl (by decide) (Y.mv rfl) (by kernel_rfl) ?_
        refine D.yp 7 rfl rfl (by decide) (Y.slFr (l := j) (b := sb) (m := (s.length + v.length)) (c := c_s) us_Facts ty_Fact rfl rfl (by omega) (by omega)) (by kernel_rfl) ?_
        refine D.st 8 rfl rfl (by kernel_rfl) (fun h => by cases h) (N.cpy (p := j + v.length) (q := s.length - j) (news := cs.drop (j * 2)) us_Facts ty_Fact rfl rfl rfl (by omega) (by simp only [Nat.min_def]; split <;> omega) (.inr ⟨_, _, rfl, Has.rowd m0 j (rest := tl60) (List.drop_append_of_le_length (by have := Nat.mul_le_mul_right 2 (show j ≤ s.length by omega); omega))⟩) (by first | omega | (simp only [List.length_take, List.length_drop, List.length_append]; omega)) (fun u hu => h1s u (List.mem_of_mem_drop hu)) (by omega) (by decide) rfl) (fun _ _ => ?_)
        refine D.done (by kernel_rfl) (E.thn (E.seq (E.region (l := [0, 1, 2, 3, 4]) rfl (E.y rfl rfl (by decide) ((Y.mv rfl).yd) ?_))))
        refine E.y rfl rfl (by decide) ((Y.mv rfl).yd) ?_
        refine E.y rfl rfl (by decide) ((Y.slFr (l := j) (b := sb) (m := (s.length + v.length)) (c := c_s) us_Facts ty_Fact rfl rfl (by omega) (by omega)).yd) ?_
        refine E.y rfl rfl (by decide) ((Y.mv rfl).yd) ?_
        refine E.st rfl rfl (N.cpy (p := j) (q := v.length) (news := cv) us_Facts ty_Fact rfl rfl rfl (by omega) (by simp only [Nat.min_def]; split <;> omega) (.inr ⟨_, _, rfl, Has.row0 (mS m0)⟩) (by first | omega | (simp only [List.length_take, List.length_drop, List.length_append]; omega)) h1v (by omega) (by decide) rfl) (fun _ _ => ?_)
        refine E.nil (E.thn (E.seq (E.region (l := [0, 1]) rfl (E.y rfl rfl (by decide) ((Y.mv rfl).yd) ?_))))
        refine E.y rfl rfl (by decide) ((Y.as rfl).yd) ?_
        refine E.nil (E.thn (E.ret (E.thr (Ent.p2 ?_))))
        refine Ent.p3 ?_
        refine Ent.eins (i := j) (by omega) ?_
        refine Ent.p1 ?_
        refine Ent.cv (congrArg (row tFact 2 (some ⟨sb, 0, none⟩) (s.length + v.length) c_s) (show ((cs ++ tl60).take ((j + v.length) * 2) ++ (cs.drop (j * 2)) ++ (cs ++ tl60).drop ((j + v.length) * 2 + (s.length - j) * 2)).take (j * 2) ++ cv ++ ((cs ++ tl60).take ((j + v.length) * 2) ++ (cs.drop (j * 2)) ++ (cs ++ tl60).drop ((j + v.length) * 2 + (s.length - j) * 2)).drop (j * 2 + v.length * 2) = cs.take (j * 2) ++ cv ++ cs.drop (j * 2) from ins_cells2 hcs hcv (htl60.trans (by congr 1; omega)) (by omega))) ?_
        refine Ent.joi (E := eFact) (by simp only [List.length_append, List.length_take, List.length_drop]; omega) (by unfold maxLen; omega) ?_
        exact F.r1 (Back.refl _ _) rfl rfl (_, _, _) trivial rfl (J := _) (.refl _) (.inl rfl)
end Go.Proofs.YtfnagmokplpnjaaGreat
