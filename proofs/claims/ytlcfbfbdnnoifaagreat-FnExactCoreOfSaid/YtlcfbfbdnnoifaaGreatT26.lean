import Derived.Test.YtlcfbfbdnnoifaaGreatT12
import Derived.Test.YtlcfbfbdnnoifaaGreatBj
namespace Go.Proofs.YtlcfbfbdnnoifaaGreat
open Go.RowKit
set_option linter.unusedVariables false
set_option linter.unusedSimpArgs false
set_option maxHeartbeats 2000000
attribute [local irreducible] Nop Yd Yp Ent Has Tr FnP FnP2 Src listsF opnF opn1 opnR chainB
theorem t_Delete_Atom {a_s : Option Addr} {m_s c_s : Nat} {s : List (Int × List Int)} {i : Int} {j : Int} (hij : 0 ≤ i ∧ i ≤ j ∧ j ≤ s.length) : Tr Tryz.prog 154 [.slice a_s m_s c_s, .int .i64 i, .int .i64 j] (fun w L => True) [ow eAtoms [.slice a_s m_s c_s] s] (κ := Option Addr × Nat × Nat) (fun k => True) (fun k => .slice k.1 k.2.1 k.2.2) (fun k => [ow eAtoms [.slice k.1 k.2.1 k.2.2] (s.take i.toNat ++ s.drop j.toNat)]) := by
  refine Tr.intro Tryz.func154 rfl (n := 33) rfl (by decide +kernel) (Nat.le_of_ble_eq_true rfl) (fr := [(0, .slice a_s m_s c_s), (1, .int .i64 i), (2, .int .i64 j)]) rfl fun w L hR => ?_
  refine Ent.lenow m0 fun es ls => ?_
  subst es
  obtain ⟨x, rfl⟩ : ∃ x : Nat, i = (x : Int) := ⟨i.toNat, by omega⟩
  obtain ⟨y, rfl⟩ : ∃ y : Nat, j = (y : Int) := ⟨j.toNat, by omega⟩
  refine Ent.spl fun cs hcs => ?_
  replace hcs : cs.length = s.length * 2 := hcs
  show Ent _ _ _ _ (row tAtom 2 a_s s.length c_s cs :: _) _
  refine Ent.elone (mS m0) fun h1s => ?_
  refine Ent.rmc m0 fun hms => ?_
  refine E.seq (E.region (l := [0]) rfl (E.y rfl rfl (by decide) ((Y.as rfl).yd) ?_))
  refine E.nil (E.thn (E.seq (E.region (l := [0, 1, 2, 3, 4, 5]) rfl (E.y rfl rfl (by decide) ((Y.mv rfl).yd) ?_))))
  refine E.y rfl rfl (by decide) ((Y.mv rfl).yd) ?_
  refine E.y rfl rfl (by decide) ((Y.mv rfl).yd) ?_
  refine E.y rfl rfl (by decide) ((Y.mv rfl).yd) ?_
  refine E.y rfl rfl (by decide) ((Y.len us_Atoms rfl).yd) ?_
  refine E.y rfl rfl (by decide) ((Y.sl3 (l := x) (h := y) (b := s.length) us_Atoms ty_Atom rfl rfl rfl rfl (by omega) (by omega) (by omega)).yd) ?_
  refine E.nil (E.thn (E.seq (E.seq (E.region (l := [0, 1, 2]) rfl (E.y rfl rfl (by decide) ((Y.mv rfl).yd) ?_)))))
  refine E.y rfl rfl (by decide) ((Y.mv rfl).yd) ?_
  refine E.y rfl rfl (by decide) ((Y.eql rfl rfl).yd) (Ent.d (fun q16 => ?_) (fun q16 => ?_))
  · refine E.nil (E.thn (E.ct rfl (E.seq (E.region (l := [0, 1]) rfl (E.y rfl rfl (by decide) ((Y.mv rfl).yd) ?_)))))
    refine E.y rfl rfl (by decide) ((Y.as rfl).yd) ?_
    refine E.nil (E.thn (E.ret (E.thr (Ent.p1 ?_))))
    refine Ent.p1 ?_
    refine Ent.joi (E := eAtom) rfl (by unfold maxLen; omega) ?_
    refine Ent.cv (congrArg (ow eAtoms [_]) (show s = s.take x ++ s.drop y from by rw [show x = y by omega, List.take_append_drop])) ?_
    exact F.r1 (Back.refl _ _) rfl rfl (_, _, _) trivial rfl (J := _) (.refl _) (.inl rfl)
  · refine Ent.radr m0 (by omega) fun sb hsb _ => ?_
    subst hsb
    refine E.nil (E.thn (E.cf rfl (E.skipc (E.thn (E.seq (E.region (l := [0, 1, 2]) rfl (E.y rfl rfl (by decide) ((Y.mv rfl).yd) ?_)))))))
    refine E.y rfl rfl (by decide) ((Y.len us_Atoms rfl).yd) ?_
    refine E.y rfl rfl (by decide) ((Y.as rfl).yd) ?_
    refine E.nil (E.thn (E.seq (D.region (fun j => !(Nat.beq j 6)) mixed (D.yp 0 rfl rfl (by decide) (Y.mv rfl) (by kernel_rfl) ?_))))
    refine D.yp 1 rfl rfl (by decide) (Y.mv rfl) (by kernel_rfl) ?_
    refine D.yp 2 rfl rfl (by decide) (Y.slTo (h := x) us_Atoms ty_Atom rfl rfl (by omega)) (by kernel_rfl) ?_
    refine D.yp 3 rfl rfl (by decide) (Y.mv rfl) (by kernel_rfl) ?_
    refine D.yp 4 rfl rfl (by decide) (Y.mv rfl) (by kernel_rfl) ?_
    refine D.yp 5 rfl rfl (by decide) (Y.slFrom (l := y) us_Atoms ty_Atom rfl rfl (by omega)) (by kernel_rfl) ?_
    refine D.st 6 rfl rfl (by kernel_rfl) (fun h => by cases h) (N.appin (i := x) (m2 := s.length - y) (news := cs.drop (y * 2)) us_Atoms ty_Atom rfl rfl rfl (by omega) (src_from m0 hcs (by omega) hms.1) (by rw [List.length_drop, hcs, Nat.sub_mul]) (fun u hu => h1s u (List.mem_of_mem_drop hu)) (by omega) (by decide) rfl) (fun _ _ => ?_)
    refine D.yp 7 rfl rfl (by decide) (Y.as rfl) (by kernel_rfl) ?_
    refine D.done (by kernel_rfl) (E.thn (E.seq (E.region (l := [0, 1, 2, 3, 4, 5]) rfl (E.y rfl rfl (by decide) ((Y.mv rfl).yd) ?_))))
    refine E.y rfl rfl (by decide) ((Y.mv rfl).yd) ?_
    refine E.y rfl rfl (by decide) ((Y.len us_Atoms rfl).yd) ?_
    refine E.y rfl rfl (by decide) ((Y.mv rfl).yd) ?_
    refine E.y rfl rfl (by decide) ((Y.slLH (l := (x + (s.length - y))) (h := s.length) (b := sb) us_Atoms ty_Atom rfl rfl rfl (by omega) (by omega) (by omega)).yd) ?_
    refine E.st rfl rfl (N.clr (p := (x + (s.length - y))) (q := (s.length - ((x + (s.length - y))))) us_Atoms ty_Atom (by simp [Value.oneCell']) rfl rfl (by omega) (by omega) (by omega) rfl) (fun _ _ => ?_)
    refine E.nil (E.thn (E.seq (E.region (l := [0, 1]) rfl (E.y rfl rfl (by decide) ((Y.mv rfl).yd) ?_))))
    refine E.y rfl rfl (by decide) ((Y.as rfl).yd) ?_
    refine E.nil (E.thn (E.ret (Ent.p1 ?_)))
    refine Ent.edel (i := x) (j := y) (by omega) (by omega) ?_
    refine Ent.p1 ?_
    refine Ent.cv (congrArg (row tAtom 2 (some ⟨sb, 0, none⟩) (x + (s.length - y)) c_s) (del_cells hcs (by omega) (by omega))) ?_
    refine Ent.joi (E := eAtom) (by simp only [List.length_append, List.length_take, List.length_drop]; omega) (by unfold maxLen; omega) ?_
    exact F.r1 (Back.refl _ _) rfl rfl (_, _, _) trivial rfl (J := _) (.refl _) (.inl rfl)
end Go.Proofs.YtlcfbfbdnnoifaaGreat
