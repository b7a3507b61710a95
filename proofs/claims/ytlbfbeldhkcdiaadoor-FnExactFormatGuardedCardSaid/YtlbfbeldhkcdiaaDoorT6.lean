import Derived.Test.YtlbfbeldhkcdiaaDoorT1
import Derived.Test.YtlbfbeldhkcdiaaDoorBc
import Derived.Test.YtlbfbeldhkcdiaaDoorT5
namespace Go.Proofs.YtlbfbeldhkcdiaaDoor
open Go.RowKit
set_option linter.unusedVariables false
set_option linter.unusedSimpArgs false
set_option maxHeartbeats 2000000
attribute [local irreducible] Nop Yd Yp Ent Has Tr FnP FnP2 Src
theorem t_laws_szAtom {a_Rel : Int} {a_a_Terms : Option Addr} {m_a_Terms c_a_Terms : Nat} {a_Terms : List Int} {left : Int} : Tr Tryd.prog 69 [.agg #[.int .i64 a_Rel, .slice a_a_Terms m_a_Terms c_a_Terms], .int .i64 left] (fun w L => I64 a_Rel ∧ Ro w L eIs [.slice a_a_Terms m_a_Terms c_a_Terms] a_Terms ∧ 0 ≤ left ∧ left ≤ 1048576) [] (κ := Unit) (fun k => True) (fun k => .int .i64 (szR (a_Terms.length) left)) (fun k => []) := by
  refine Tr.intro Tryd.func69 rfl (n := 12) rfl (by decide +kernel) (Nat.le_of_ble_eq_true rfl) (fr := [(0, .agg #[.int .i64 a_Rel, .slice a_a_Terms m_a_Terms c_a_Terms]), (1, .int .i64 left)]) rfl fun w L hR => ?_
  obtain ⟨i6a_Rel, ha_Terms, as0, as1⟩ := hR
  obtain ⟨rfl, la_Terms⟩ := ha_Terms.slen
  refine E.seq (E.region (l := [0, 1]) rfl (E.st rfl rfl (N.box (cs := [_, _]) rfl (by decide) rfl) (fun b2 _ => ?_)))
  refine E.y rfl rfl (by decide) ((Y.as rfl).yd) ?_
  refine E.nil (E.thn (E.seq (E.region (l := [0, 1, 2, 3, 4]) rfl (E.y rfl rfl (by decide) ((Y.fld fo_lAtom_1 ty_Is (by decide) rfl).yd) ?_))))
  refine E.y rfl rfl (by decide) (Y.ld1 ty_Is rfl ((Has.pt m0).sub (cs' := [_]) 1 rfl) rfl) ?_
  refine E.y rfl rfl (by decide) ((Y.mv rfl).yd) ?_
  refine E.st rfl rfl (N.call0 t_laws_szIntS rfl rfl rfl (by decide) (fun w Lp hA => ⟨hA.ro ha_Terms, (by first | assumption | omega), (by first | assumption | omega)⟩)) (fun _ _ => ?_)
  refine E.y rfl rfl (by decide) ((Y.as rfl).yd) ?_
  refine E.nil (E.thn (E.seq (E.seq (E.region (l := [0, 1]) rfl (E.y rfl rfl (by decide) ((Y.mv rfl).yd) ?_)))))
  refine E.y rfl rfl (by decide) ((Y.lss rfl rfl).yd) (Ent.d (fun q10 => ?_) (fun q10 => ?_))
  · have z10 := szR_bad q10 (by omega)
    refine E.nil (E.thn (E.ct rfl (E.seq (E.region (l := [0]) rfl (E.y rfl rfl (by decide) ((Y.as rfl).yd) ?_)))))
    exact E.nil (E.thn (E.ret (E.thr (F.r1 (Back.refl _ _) rfl rfl () trivial (congrArg (Value.int .i64) (by unfold szR; split <;> omega)) (J := _) (.refl _) (.inl rfl)))))
  · obtain ⟨z10, y10⟩ := szR_ok q10 (by omega)
    refine E.nil (E.thn (E.cf rfl (E.skipc (E.thn (E.seq (E.region (l := [0, 1]) rfl (E.y rfl rfl (by decide) ((Y.mv rfl).yd) ?_)))))))
    refine E.y rfl rfl (by decide) ((Y.as rfl).yd) ?_
    exact E.nil (E.thn (E.ret (F.r1 (Back.refl _ _) rfl rfl () trivial (congrArg (Value.int .i64) (by have e : szR (a_Terms.length) left = left - ((a_Terms.length : Nat) : Int) := by { unfold szR; split <;> omega }; omega)) (J := _) (.refl _) (.inl rfl))))
theorem t_laws_toAtom {a_Rel : Int} {a_a_Terms : Option Addr} {m_a_Terms c_a_Terms : Nat} {a_Terms : List Int} (h1 : a_Terms.length ≤ 1048576) : Tr Tryd.prog 71 [.agg #[.int .i64 a_Rel, .slice a_a_Terms m_a_Terms c_a_Terms]] (fun w L => I64 a_Rel ∧ Ro w L eIs [.slice a_a_Terms m_a_Terms c_a_Terms] a_Terms) [] (κ := Option Addr × Nat × Nat) (fun k => True) (fun k => .agg #[.int .i64 a_Rel, .slice k.1 k.2.1 k.2.2]) (fun k => [ow eIs [.slice k.1 k.2.1 k.2.2] a_Terms]) := by
  refine Tr.intro Tryd.func71 rfl (n := 12) rfl (by decide +kernel) (Nat.le_of_ble_eq_true rfl) (fr := [(0, .agg #[.int .i64 a_Rel, .slice a_a_Terms m_a_Terms c_a_Terms])]) rfl fun w L hR => ?_
  obtain ⟨i6a_Rel, ha_Terms⟩ := hR
  obtain ⟨rfl, la_Terms⟩ := ha_Terms.slen
  refine E.seq (E.region (l := [0, 1]) rfl (E.st rfl rfl (N.box (cs := [_, _]) rfl (by decide) rfl) (fun b1 _ => ?_)))
  refine E.st rfl rfl (N.alloc ty_Atom (by decide)) (fun b2 _ => ?_)
  refine E.nil (E.thn (E.seq (E.region (l := [0]) rfl (E.st rfl rfl (N.alloc ty_Atom (by decide)) (fun b3 _ => ?_)))))
  refine E.nil (E.thn (E.seq (E.region (l := [0, 1, 2, 3]) rfl (E.y rfl rfl (by decide) ((Y.fld fo_lAtom_0 ty_I (by decide) rfl).yd) ?_))))
  refine E.y rfl rfl (by decide) (Y.ld1 ty_I rfl ((Has.pt (mS (mS m0))).sub (cs' := [_]) 0 rfl) rfl) ?_
  refine E.y rfl rfl (by decide) ((Y.fld fo_Atom_0 ty_I (by decide) rfl).yd) ?_
  refine E.st rfl rfl (N.sto (vs := [_]) (cs' := [_, _]) ty_I rfl rfl rfl rfl rfl (Nat.le_of_ble_eq_true rfl) rfl) (fun _ _ => ?_)
  refine E.nil (E.thn (E.seq (E.region (l := [0, 1, 2, 3, 4]) rfl (E.y rfl rfl (by decide) ((Y.fld fo_lAtom_1 ty_Is (by decide) rfl).yd) ?_))))
  refine E.y rfl rfl (by decide) (Y.ld1 ty_Is rfl ((Has.pt (mS (mS m0))).sub (cs' := [_]) 1 rfl) rfl) ?_
  refine E.st rfl rfl (N.call (t_laws_toIntS (by first | omega | assumption | (constructor <;> omega))) rfl rfl rfl (by decide) rfl (fun w Lp hA => hA.ro ha_Terms)) (fun k9 _ => ?_)
  obtain ⟨a9, m9, c9⟩ := k9
  refine Ent.lenow m0 fun e9 l9 => ?_
  subst e9
  refine E.y rfl rfl (by decide) ((Y.fld fo_Atom_1 ty_Is (by decide) rfl).yd) ?_
  refine Ent.p1 ?_
  refine E.st rfl rfl (N.sto (vs := [_]) (cs' := [_, _]) ty_Is rfl rfl rfl rfl rfl (Nat.le_of_ble_eq_true rfl) rfl) (fun _ _ => ?_)
  refine E.nil (E.thn (E.seq (E.region (l := [0, 1]) rfl (E.y rfl rfl (by decide) (Y.ldS (cs := [_, _]) ty_Atom rfl (Has.pt m0) rfl) ?_))))
  refine Ent.p2 ?_
  refine E.st rfl rfl (N.sto (vs := [_, _]) (cs' := [_, _]) ty_Atom rfl rfl rfl rfl rfl (Nat.le_of_ble_eq_true rfl) rfl) (fun _ _ => ?_)
  refine E.nil (E.thn (E.ret (Ent.p2 ?_)))
  exact F.c1 (Back.refl _ _) rfl rfl (mS m0) ty_Atom rfl (_, _, _) trivial rfl (J := _) (.refl _) (.inl rfl)
theorem t_laws_eqAtom {a_Rel : Int} {a_a_Terms : Option Addr} {m_a_Terms c_a_Terms : Nat} {a_Terms : List Int} {b_Rel : Int} {a_b_Terms : Option Addr} {m_b_Terms c_b_Terms : Nat} {b_Terms : List Int} : Tr Tryd.prog 73 [.agg #[.int .i64 a_Rel, .slice a_a_Terms m_a_Terms c_a_Terms], .agg #[.int .i64 b_Rel, .slice a_b_Terms m_b_Terms c_b_Terms]] (fun w L => I64 a_Rel ∧ Ro w L eIs [.slice a_a_Terms m_a_Terms c_a_Terms] a_Terms ∧ I64 b_Rel ∧ Ro w L eIs [.slice a_b_Terms m_b_Terms c_b_Terms] b_Terms) [] (κ := Unit) (fun k => True) (fun k => .bool (decide ((a_Rel, a_Terms) = (b_Rel, b_Terms)))) (fun k => []) := by
  refine Tr.intro Tryd.func73 rfl (n := 16) rfl (by decide +kernel) (Nat.le_of_ble_eq_true rfl) (fr := [(0, .agg #[.int .i64 a_Rel, .slice a_a_Terms m_a_Terms c_a_Terms]), (1, .agg #[.int .i64 b_Rel, .slice a_b_Terms m_b_Terms c_b_Terms])]) rfl fun w L hR => ?_
  obtain ⟨i6a_Rel, ha_Terms, i6b_Rel, hb_Terms⟩ := hR
  obtain ⟨rfl, la_Terms⟩ := ha_Terms.slen
  obtain ⟨rfl, lb_Terms⟩ := hb_Terms.slen
  refine E.seq (E.region (l := [0, 1, 2]) rfl (E.st rfl rfl (N.box (cs := [_, _]) rfl (by decide) rfl) (fun b2 _ => ?_)))
  refine E.st rfl rfl (N.box (cs := [_, _]) rfl (by decide) rfl) (fun b3 _ => ?_)
  refine E.y rfl rfl (by decide) ((Y.as rfl).yd) ?_
  refine E.nil (E.thn (E.seq (E.seq (E.region (l := [0, 1, 2, 3, 4]) rfl (E.y rfl rfl (by decide) ((Y.fld fo_Atom_0 ty_I (by decide) rfl).yd) ?_)))))
  refine E.y rfl rfl (by decide) (Y.ld1 ty_I rfl ((Has.pt (mS m0)).sub (cs' := [_]) 0 rfl) rfl) ?_
  refine E.y rfl rfl (by decide) ((Y.fld fo_Atom_0 ty_I (by decide) rfl).yd) ?_
  refine E.y rfl rfl (by decide) (Y.ld1 ty_I rfl ((Has.pt m0).sub (cs' := [_]) 0 rfl) rfl) ?_
  refine E.y rfl rfl (by decide) ((Y.neq rfl rfl).yd) (Ent.d (fun q9 => ?_) (fun q9 => ?_))
  · refine E.nil (E.thn (E.ct rfl (E.seq (E.region (l := [0]) rfl (E.y rfl rfl (by decide) ((Y.as rfl).yd) ?_)))))
    exact E.nil (E.thn (E.ret (E.thr (F.r1 (Back.refl _ _) rfl rfl () trivial (congrArg Value.bool (by simp_all)) (J := _) (.refl _) (.inl rfl)))))
  · refine E.nil (E.thn (E.cf rfl (E.skipc (E.thn (E.seq (E.seq (E.region (l := [0, 1, 2, 3, 4, 5]) rfl (E.y rfl rfl (by decide) ((Y.fld fo_Atom_1 ty_Is (by decide) rfl).yd) ?_))))))))
    refine E.y rfl rfl (by decide) (Y.ld1 ty_Is rfl ((Has.pt (mS m0)).sub (cs' := [_]) 1 rfl) rfl) ?_
    refine E.y rfl rfl (by decide) ((Y.fld fo_Atom_1 ty_Is (by decide) rfl).yd) ?_
    refine E.y rfl rfl (by decide) (Y.ld1 ty_Is rfl ((Has.pt m0).sub (cs' := [_]) 1 rfl) rfl) ?_
    refine E.st rfl rfl (N.call0 t_laws_eqIntS rfl rfl rfl (by decide) (fun w Lp hA => ⟨hA.ro ha_Terms, hA.ro hb_Terms⟩)) (fun _ _ => (Ent.b (fun q14 => ?_) (fun q14 => ?_)))
    · refine E.y rfl rfl (by decide) ((Y.not (b := true) rfl).yd) ?_
      refine E.nil (E.thn (E.cf rfl (E.skipc (E.thn (E.seq (E.region (l := [0]) rfl (E.y rfl rfl (by decide) ((Y.as rfl).yd) ?_)))))))
      exact E.nil (E.thn (E.ret (F.r1 (Back.refl _ _) rfl rfl () trivial (congrArg Value.bool (by simp_all)) (J := _) (.refl _) (.inl rfl))))
    · refine E.y rfl rfl (by decide) ((Y.not (b := false) rfl).yd) ?_
      refine E.nil (E.thn (E.ct rfl (E.seq (E.region (l := [0]) rfl (E.y rfl rfl (by decide) ((Y.as rfl).yd) ?_)))))
      exact E.nil (E.thn (E.ret (E.thr (F.r1 (Back.refl _ _) rfl rfl () trivial (congrArg Value.bool (by simp_all)) (J := _) (.refl _) (.inl rfl)))))
theorem t_laws_szAtomS {a_a : Option Addr} {m_a c_a : Nat} {a : List (Int × List Int)} {left : Int} : Tr Tryd.prog 45 [.slice a_a m_a c_a, .int .i64 left] (fun w L => Ro w L eAtoms [.slice a_a m_a c_a] a ∧ 0 ≤ left ∧ left ≤ 1048576) [] (κ := Unit) (fun k => True) (fun k => .int .i64 (szR (totL (fun x => x.2.length) a) left)) (fun k => []) := by
  refine Tr.intro Tryd.func45 rfl (n := 27) rfl (by decide +kernel) (Nat.le_of_ble_eq_true rfl) (fr := [(0, .slice a_a m_a c_a), (1, .int .i64 left)]) rfl fun w L hR => ?_
  obtain ⟨ha, as0, as1⟩ := hR
  obtain ⟨rfl, la⟩ := ha.slen
  refine E.seq (E.region (l := [0]) rfl (E.y rfl rfl (by decide) ((Y.as rfl).yd) ?_))
  refine E.nil (E.thn (E.seq (E.region (l := [0, 1, 2, 3, 4]) rfl (E.y rfl rfl (by decide) ((Y.mv rfl).yd) ?_))))
  refine E.y rfl rfl (by decide) ((Y.mv rfl).yd) ?_
  refine E.y rfl rfl (by decide) ((Y.len us_lAtoms rfl).yd) ?_
  refine E.y rfl rfl (by decide) ((Y.sub rfl rfl (by omega) (by omega)).yd) ?_
  refine E.y rfl rfl (by decide) ((Y.as rfl).yd) ?_
  refine E.nil (E.thn (E.seq (E.seq (E.region (l := [0, 1]) rfl (E.y rfl rfl (by decide) ((Y.mv rfl).yd) ?_)))))
  refine E.y rfl rfl (by decide) ((Y.lss rfl rfl).yd) (Ent.d (fun q11 => ?_) (fun q11 => ?_))
  · refine E.nil (E.thn (E.ct rfl (E.seq (E.region (l := [0]) rfl (E.y rfl rfl (by decide) ((Y.as rfl).yd) ?_)))))
    exact E.nil (E.thn (E.ret (E.thr (F.r1 (Back.refl _ _) rfl rfl () trivial (congrArg (Value.int .i64) (by exact szS_no1 q11)) (J := _) (.refl _) (.inl rfl)))))
  · refine E.nil (E.thn (E.cf rfl (E.skipc (E.thn (E.seq (E.seq (E.region (l := [0]) rfl (E.y rfl rfl (by decide) ((Y.as rfl).yd) ?_))))))))
    refine E.nil (E.thn (E.block (E.loop (κ := Nat) (fun g => g ≤ a.length ∧ (a.length : Int) + (totS (fun x => x.2.length) (a.take g) : Nat) ≤ left) (fun g => [(0, .slice a_a a.length c_a), (1, .int .i64 (left - ((a.length : Int) + (totS (fun x => x.2.length) (a.take g) : Nat)))), (5, .int .i64 (↑g : Int))]) (fun g => []) (fun g => a.length - g) 0 ⟨by omega, by simp [totS]; omega⟩ ⟨rfl, frI (by simp [totS]), rfl, trivial⟩ (.refl _) (fun g pg => ?_))))
    obtain ⟨pk, pa⟩ := pg
    refine E.seq (E.seq (E.region (l := [0, 1, 2, 3]) rfl (E.y rfl rfl (by decide) ((Y.mv rfl).yd) ?_)))
    refine E.y rfl rfl (by decide) ((Y.mv rfl).yd) ?_
    refine E.y rfl rfl (by decide) ((Y.len us_lAtoms rfl).yd) ?_
    refine E.y rfl rfl (by decide) ((Y.lss rfl rfl).yd) (Ent.d (fun q15 => ?_) (fun q15 => ?_))
    · refine E.nil (E.thn (E.ct rfl (E.skipc (E.thn (E.seq (E.block (E.seq (E.region (l := [0, 1, 2, 3, 4, 5, 6]) rfl (E.y rfl rfl (by decide) ((Y.mv rfl).yd) ?_)))))))))
      refine E.y rfl rfl (by decide) ((Y.mv rfl).yd) ?_
      obtain ⟨eb20, eo20, ec20, ea20, er20, el20, eh20⟩ := ha.elem g (by omega)
      obtain ⟨xa20_0, xc20_0, rfl, ei20_0, xh20_0⟩ := Ro.pAtom er20
      have := xh20_0.slen.2
      refine E.y rfl rfl (by decide) ((Y.ix us_lAtoms ty_lAtom rfl ea20 rfl g rfl (by omega)).yd) ?_
      refine E.y rfl rfl (by decide) (Y.ldS (cs := [_, _]) ty_lAtom rfl (eh20 _) rfl) ?_
      refine E.y rfl rfl (by decide) ((Y.mv rfl).yd) ?_
      refine E.st rfl rfl (N.call0 t_laws_szAtom rfl rfl rfl (by decide) (fun w Lp hA => ⟨ei20_0, hA.ro xh20_0, (by first | assumption | omega), (by first | assumption | omega)⟩)) (fun _ _ => ?_)
      refine E.y rfl rfl (by decide) ((Y.as rfl).yd) ?_
      refine E.nil (E.thn (E.seq (E.region (l := [0, 1]) rfl (E.y rfl rfl (by decide) ((Y.mv rfl).yd) ?_))))
      refine E.y rfl rfl (by decide) ((Y.lss rfl rfl).yd) (Ent.d (fun q25 => ?_) (fun q25 => ?_))
      · have z25 := szR_bad q25 (by omega)
        refine E.nil (E.thn (E.ct rfl (E.seq (E.region (l := [0]) rfl (E.y rfl rfl (by decide) ((Y.as rfl).yd) ?_)))))
        exact E.nil (E.thn (E.ret (E.blr (E.thr (E.thr (E.blr (E.thr (F.r1 (Back.refl _ _) rfl rfl () trivial (congrArg (Value.int .i64) (by exact szS_no2 (t := (fun x => x.2.length)) (n := a[g].2.length) (show g < a.length by omega) rfl (by omega))) (J := _) (.refl _) (.inl rfl)))))))))
      · obtain ⟨z25, y25⟩ := szR_ok q25 (by omega)
        refine E.nil (E.thn (E.cf rfl (E.skipc (E.bln (E.thn (E.region (l := [0, 1, 2]) rfl (E.y rfl rfl (by decide) ((Y.mv rfl).yd) ?_)))))))
        refine E.y rfl rfl (by decide) ((Y.add rfl rfl (by omega) (by omega)).yd) ?_
        refine E.y rfl rfl (by decide) ((Y.as rfl).yd) ?_
        exact E.nil (E.thn (E.again (Back.refl _ _) (g + 1) ⟨rfl, frI (by rw [z25]; have y := totS_step (t := (fun x => x.2.length)) (show g < a.length by omega); omega), rfl, trivial⟩ (.refl _) ⟨by omega, by have y := totS_step (t := (fun x => x.2.length)) (show g < a.length by omega); omega⟩ (by omega)))
    · refine E.nil (E.thn (E.cf rfl (E.exit (E.the (E.the (E.blh (E.thn (E.seq (E.region (l := [0, 1]) rfl (E.y rfl rfl (by decide) ((Y.mv rfl).yd) ?_))))))))))
      refine E.y rfl rfl (by decide) ((Y.as rfl).yd) ?_
      exact E.nil (E.thn (E.ret (F.r1 (Back.refl _ _) rfl rfl () trivial (congrArg (Value.int .i64) (by exact szS_yes (t := (fun x => x.2.length)) (show a.length ≤ g by omega) pa)) (J := _) (.refl _) (.inl rfl))))
theorem t_laws_toAtomS {a_a : Option Addr} {m_a c_a : Nat} {a : List (Int × List Int)} (hz : totL (fun x => x.2.length) a ≤ 1048576) : Tr Tryd.prog 47 [.slice a_a m_a c_a] (fun w L => Ro w L eAtoms [.slice a_a m_a c_a] a) [] (κ := Option Addr × Nat × Nat) (fun k => True) (fun k => .slice k.1 k.2.1 k.2.2) (fun k => [ow eAtoms [.slice k.1 k.2.1 k.2.2] a]) := by
  refine Tr.intro Tryd.func47 rfl (n := 23) rfl (by decide +kernel) (Nat.le_of_ble_eq_true rfl) (fr := [(0, .slice a_a m_a c_a)]) rfl fun w L hR => ?_
  have ha := hR
  obtain ⟨rfl, la⟩ := ha.slen
  have hlen : a.length ≤ totL (fun x => x.2.length) a := by unfold totL; omega
  refine E.seq (E.region (l := [0]) rfl (E.y rfl rfl (by decide) ((Y.as rfl).yd) ?_))
  refine E.nil (E.thn (E.seq (E.region (l := [0, 1, 2, 3]) rfl (E.y rfl rfl (by decide) ((Y.mv rfl).yd) ?_))))
  refine E.y rfl rfl (by decide) ((Y.len us_lAtoms rfl).yd) ?_
  refine E.st rfl rfl (N.make (m := a.length) us_Atoms ty_Atom rfl rfl rfl (by unfold maxLen; omega) (by omega) (by decide)) (fun b7 _ => ?_)
  refine Ent.mkow (A := [_]) (Own.made (E := eAtom) (e := tAtom) (zx := (0, [])) (Own.mkAtom (x := (0, [])) ⟨by decide, by decide⟩ Own.nil) (by unfold maxLen; omega)) rfl ?_
  refine E.y rfl rfl (by decide) ((Y.as rfl).yd) ?_
  refine E.nil (E.thn (E.seq (E.seq (E.region (l := [0]) rfl (E.y rfl rfl (by decide) ((Y.as rfl).yd) ?_)))))
  refine E.nil (E.thn (E.block (E.loop (κ := Nat) (fun g => g ≤ a.length) (fun g => [(0, .slice a_a a.length c_a), (3, .slice (some ⟨b7, 0, none⟩) a.length a.length), (4, .int .i64 (↑g : Int))]) (fun g => [ow eAtoms [.slice (some ⟨b7, 0, none⟩) a.length a.length] (a.take g ++ List.replicate (a.length - g) (0, []))]) (fun g => a.length - g) 0 (Nat.zero_le _) ⟨rfl, rfl, rfl, trivial⟩ (by simp) (fun g pg => ?_))))
  refine E.seq (E.seq (E.region (l := [0, 1, 2, 3]) rfl (E.y rfl rfl (by decide) ((Y.mv rfl).yd) ?_)))
  refine E.y rfl rfl (by decide) ((Y.mv rfl).yd) ?_
  refine E.y rfl rfl (by decide) ((Y.len us_lAtoms rfl).yd) ?_
  refine E.y rfl rfl (by decide) ((Y.lss rfl rfl).yd) (Ent.d (fun q11 => ?_) (fun q11 => ?_))
  · refine E.nil (E.thn (E.ct rfl (E.skipc (E.thn (E.seq (E.block (E.region (l := [0, 1, 2, 3, 4, 5, 6, 7, 8]) rfl (E.y rfl rfl (by decide) ((Y.mv rfl).yd) ?_))))))))
    refine E.y rfl rfl (by decide) ((Y.mv rfl).yd) ?_
    refine E.y rfl rfl (by decide) ((Y.mv rfl).yd) ?_
    refine E.y rfl rfl (by decide) ((Y.mv rfl).yd) ?_
    obtain ⟨eb18, eo18, ec18, ea18, er18, el18, eh18⟩ := ha.elem g (by omega)
    obtain ⟨xa18_0, xc18_0, rfl, ei18_0, xh18_0⟩ := Ro.pAtom er18
    have := xh18_0.slen.2
    refine E.y rfl rfl (by decide) ((Y.ix us_lAtoms ty_lAtom rfl ea18 rfl g rfl (by omega)).yd) ?_
    refine E.y rfl rfl (by decide) (Y.ldS (cs := [_, _]) ty_lAtom rfl (eh18 _) rfl) ?_
    refine E.st rfl rfl (N.call (t_laws_toAtom (by have y := tot_elem (t := (fun x => x.2.length)) (l := a) (g := g) (by omega); omega)) rfl rfl rfl (by decide) rfl (fun w Lp hA => ⟨ei18_0, hA.ro xh18_0⟩)) (fun k20 _ => ?_)
    obtain ⟨a20, m20, c20⟩ := k20
    refine Ent.lenow m0 fun e20 l20 => ?_
    subst e20
    refine E.y rfl rfl (by decide) ((Y.ix us_Atoms ty_Atom rfl rfl rfl g rfl (by omega)).yd) ?_
    refine Ent.p1 ?_
    refine E.st rfl rfl (N.set (E := eAtom) (j := g) (ex := a[g]) (ce := [_, _]) ty_Atom rfl rfl rfl rfl (Own.mkAtom (x := a[g]) ei18_0 Own.ow) rfl (Nat.zero_add _) rfl (by simp; omega)) (fun _ _ => ?_)
    refine E.nil (E.bln (E.thn (E.region (l := [0, 1, 2]) rfl (E.y rfl rfl (by decide) ((Y.mv rfl).yd) ?_))))
    refine E.y rfl rfl (by decide) ((Y.add rfl rfl (by omega) (by omega)).yd) ?_
    refine E.y rfl rfl (by decide) ((Y.as rfl).yd) ?_
    exact E.nil (E.thn (E.again (Back.refl _ _) (g + 1) ⟨rfl, rfl, rfl, trivial⟩ (by rw [set_take (by omega) rfl]) (by omega) (by omega)))
  · refine E.nil (E.thn (E.cf rfl (E.exit (E.the (E.the (E.blh (E.thn (E.seq (E.region (l := [0, 1]) rfl (E.y rfl rfl (by decide) ((Y.mv rfl).yd) ?_))))))))))
    refine E.y rfl rfl (by decide) ((Y.as rfl).yd) ?_
    refine E.nil (E.thn (E.ret (Ent.cv (congrArg (ow eAtoms [_]) (show _ = a by exact take_rep_all (by omega))) ?_)))
    exact F.r1 (Back.refl _ _) rfl rfl (_, _, _) trivial rfl (J := _) (.refl _) (.inl rfl)
theorem t_laws_eqAtomS {a_a : Option Addr} {m_a c_a : Nat} {a : List (Int × List Int)} {a_b : Option Addr} {m_b c_b : Nat} {b : List (Int × List Int)} : Tr Tryd.prog 49 [.slice a_a m_a c_a, .slice a_b m_b c_b] (fun w L => Ro w L eAtoms [.slice a_a m_a c_a] a ∧ Ro w L eAtoms [.slice a_b m_b c_b] b) [] (κ := Unit) (fun k => True) (fun k => .bool (decide (a = b))) (fun k => []) := by
  refine Tr.intro Tryd.func49 rfl (n := 27) rfl (by decide +kernel) (Nat.le_of_ble_eq_true rfl) (fr := [(0, .slice a_a m_a c_a), (1, .slice a_b m_b c_b)]) rfl fun w L hR => ?_
  obtain ⟨ha, hb⟩ := hR
  obtain ⟨rfl, la⟩ := ha.slen
  obtain ⟨rfl, lb⟩ := hb.slen
  refine E.seq (E.region (l := [0]) rfl (E.y rfl rfl (by decide) ((Y.as rfl).yd) ?_))
  refine E.nil (E.thn (E.seq (E.seq (E.region (l := [0, 1, 2, 3, 4]) rfl (E.y rfl rfl (by decide) ((Y.mv rfl).yd) ?_)))))
  refine E.y rfl rfl (by decide) ((Y.len us_Atoms rfl).yd) ?_
  refine E.y rfl rfl (by decide) ((Y.mv rfl).yd) ?_
  refine E.y rfl rfl (by decide) ((Y.len us_Atoms rfl).yd) ?_
  refine E.y rfl rfl (by decide) ((Y.neq rfl rfl).yd) (Ent.d (fun q10 => ?_) (fun q10 => ?_))
  · refine E.nil (E.thn (E.ct rfl (E.seq (E.region (l := [0]) rfl (E.y rfl rfl (by decide) ((Y.as rfl).yd) ?_)))))
    exact E.nil (E.thn (E.ret (E.thr (F.r1 (Back.refl _ _) rfl rfl () trivial (congrArg Value.bool (by exact ne_of_len q10)) (J := _) (.refl _) (.inl rfl)))))
  · refine E.nil (E.thn (E.cf rfl (E.skipc (E.thn (E.seq (E.seq (E.region (l := [0]) rfl (E.y rfl rfl (by decide) ((Y.as rfl).yd) ?_))))))))
    refine E.nil (E.thn (E.block (E.loop (κ := Nat) (fun g => g ≤ a.length ∧ a.take g = b.take g) (fun g => [(0, .slice a_a a.length c_a), (1, .slice a_b b.length c_b), (5, .int .i64 (↑g : Int))]) (fun g => []) (fun g => a.length - g) 0 ⟨by omega, by simp⟩ ⟨rfl, rfl, rfl, trivial⟩ (.refl _) (fun g pg => ?_))))
    obtain ⟨pk, pa⟩ := pg
    refine E.seq (E.seq (E.region (l := [0, 1, 2, 3]) rfl (E.y rfl rfl (by decide) ((Y.mv rfl).yd) ?_)))
    refine E.y rfl rfl (by decide) ((Y.mv rfl).yd) ?_
    refine E.y rfl rfl (by decide) ((Y.len us_Atoms rfl).yd) ?_
    refine E.y rfl rfl (by decide) ((Y.lss rfl rfl).yd) (Ent.d (fun q14 => ?_) (fun q14 => ?_))
    · refine E.nil (E.thn (E.ct rfl (E.skipc (E.thn (E.seq (E.block (E.seq (D.region (fun j => true) mixed (D.yp 0 rfl rfl (by decide) (Y.mv rfl) (by kernel_rfl) ?_)))))))))
      refine D.yp 1 rfl rfl (by decide) (Y.mv rfl) (by kernel_rfl) ?_
      obtain ⟨eb19, eo19, ec19, ea19, er19, el19, eh19⟩ := ha.elem g (by omega)
      obtain ⟨xa19_0, xc19_0, rfl, ei19_0, xh19_0⟩ := Ro.pAtom er19
      have := xh19_0.slen.2
      refine D.yp 2 rfl rfl (by decide) (Y.ix us_Atoms ty_Atom rfl ea19 rfl g rfl (by omega)) (by kernel_rfl) ?_
      refine D.y 3 rfl rfl (by decide) (Y.ldS (cs := [_, _]) ty_Atom rfl (eh19 _) rfl) (by kernel_rfl) ?_
      refine D.yp 4 rfl rfl (by decide) (Y.mv rfl) (by kernel_rfl) ?_
      refine D.yp 5 rfl rfl (by decide) (Y.mv rfl) (by kernel_rfl) ?_
      obtain ⟨eb23, eo23, ec23, ea23, er23, el23, eh23⟩ := hb.elem g (by omega)
      obtain ⟨xa23_0, xc23_0, rfl, ei23_0, xh23_0⟩ := Ro.pAtom er23
      have := xh23_0.slen.2
      refine D.yp 6 rfl rfl (by decide) (Y.ix us_Atoms ty_Atom rfl ea23 rfl g rfl (by omega)) (by kernel_rfl) ?_
      refine D.y 7 rfl rfl (by decide) (Y.ldS (cs := [_, _]) ty_Atom rfl (eh23 _) rfl) (by kernel_rfl) ?_
      refine D.st 8 rfl rfl (by kernel_rfl) (fun _ => rfl) (N.call0 t_laws_eqAtom rfl rfl rfl (by decide) (fun w Lp hA => ⟨ei19_0, hA.ro xh19_0, ei23_0, hA.ro xh23_0⟩)) (fun _ _ => (Ent.b (fun q25 => ?_) (fun q25 => ?_)))
      · refine D.yp 9 rfl rfl (by decide) (Y.not (b := true) rfl) (by kernel_rfl) ?_
        refine D.done (by kernel_rfl) (E.thn (E.cf rfl (E.skipc (E.bln (E.thn (E.region (l := [0, 1, 2]) rfl (E.y rfl rfl (by decide) ((Y.mv rfl).yd) ?_)))))))
        refine E.y rfl rfl (by decide) ((Y.add rfl rfl (by omega) (by omega)).yd) ?_
        refine E.y rfl rfl (by decide) ((Y.as rfl).yd) ?_
        exact E.nil (E.thn (E.again (Back.refl _ _) (g + 1) ⟨rfl, rfl, rfl, trivial⟩ (.refl _) ⟨by omega, take_eq_step (by omega) (by omega) pa (of_decide_eq_true q25)⟩ (by omega)))
      · refine D.yp 9 rfl rfl (by decide) (Y.not (b := false) rfl) (by kernel_rfl) ?_
        refine D.done (by kernel_rfl) (E.thn (E.ct rfl (E.seq (E.region (l := [0]) rfl (E.y rfl rfl (by decide) ((Y.as rfl).yd) ?_)))))
        exact E.nil (E.thn (E.ret (E.blr (E.thr (E.thr (E.blr (E.thr (F.r1 (Back.refl _ _) rfl rfl () trivial (congrArg Value.bool (by exact ne_of_get (show g < a.length by omega) (show g < b.length by omega) (of_decide_eq_false q25))) (J := _) (.refl _) (.inl rfl)))))))))
    · refine E.nil (E.thn (E.cf rfl (E.exit (E.the (E.the (E.blh (E.thn (E.seq (E.region (l := [0]) rfl (E.y rfl rfl (by decide) ((Y.as rfl).yd) ?_))))))))))
      exact E.nil (E.thn (E.ret (F.r1 (Back.refl _ _) rfl rfl () trivial (congrArg Value.bool (by exact eq_of_take (show a.length ≤ g by omega) (show b.length ≤ g by omega) pa)) (J := _) (.refl _) (.inl rfl))))
theorem t_laws_szQuery {a_a_Head : Option Addr} {m_a_Head c_a_Head : Nat} {a_Head : List Int} {a_a_Atoms : Option Addr} {m_a_Atoms c_a_Atoms : Nat} {a_Atoms : List (Int × List Int)} {left : Int} : Tr Tryd.prog 38 [.agg #[.slice a_a_Head m_a_Head c_a_Head, .slice a_a_Atoms m_a_Atoms c_a_Atoms], .int .i64 left] (fun w L => Ro w L eIs [.slice a_a_Head m_a_Head c_a_Head] a_Head ∧ Ro w L eAtoms [.slice a_a_Atoms m_a_Atoms c_a_Atoms] a_Atoms ∧ 0 ≤ left ∧ left ≤ 1048576) [] (κ := Unit) (fun k => True) (fun k => .int .i64 (szR (a_Head.length + totL (fun x => x.2.length) a_Atoms) left)) (fun k => []) := by
  refine Tr.intro Tryd.func38 rfl (n := 18) rfl (by decide +kernel) (Nat.le_of_ble_eq_true rfl) (fr := [(0, .agg #[.slice a_a_Head m_a_Head c_a_Head, .slice a_a_Atoms m_a_Atoms c_a_Atoms]), (1, .int .i64 left)]) rfl fun w L hR => ?_
  obtain ⟨ha_Head, ha_Atoms, as0, as1⟩ := hR
  obtain ⟨rfl, la_Head⟩ := ha_Head.slen
  obtain ⟨rfl, la_Atoms⟩ := ha_Atoms.slen
  refine E.seq (E.region (l := [0, 1]) rfl (E.st rfl rfl (N.box (cs := [_, _]) rfl (by decide) rfl) (fun b2 _ => ?_)))
  refine E.y rfl rfl (by decide) ((Y.as rfl).yd) ?_
  refine E.nil (E.thn (E.seq (E.region (l := [0, 1, 2, 3, 4]) rfl (E.y rfl rfl (by decide) ((Y.fld fo_lQuery_0 ty_Is (by decide) rfl).yd) ?_))))
  refine E.y rfl rfl (by decide) (Y.ld1 ty_Is rfl ((Has.pt m0).sub (cs' := [_]) 0 rfl) rfl) ?_
  refine E.y rfl rfl (by decide) ((Y.mv rfl).yd) ?_
  refine E.st rfl rfl (N.call0 t_laws_szIntS rfl rfl rfl (by decide) (fun w Lp hA => ⟨hA.ro ha_Head, (by first | assumption | omega), (by first | assumption | omega)⟩)) (fun _ _ => ?_)
  refine E.y rfl rfl (by decide) ((Y.as rfl).yd) ?_
  refine E.nil (E.thn (E.seq (E.seq (E.region (l := [0, 1]) rfl (E.y rfl rfl (by decide) ((Y.mv rfl).yd) ?_)))))
  refine E.y rfl rfl (by decide) ((Y.lss rfl rfl).yd) (Ent.d (fun q10 => ?_) (fun q10 => ?_))
  · have z10 := szR_bad q10 (by omega)
    refine E.nil (E.thn (E.ct rfl (E.seq (E.region (l := [0]) rfl (E.y rfl rfl (by decide) ((Y.as rfl).yd) ?_)))))
    exact E.nil (E.thn (E.ret (E.thr (F.r1 (Back.refl _ _) rfl rfl () trivial (congrArg (Value.int .i64) (by unfold szR; split <;> omega)) (J := _) (.refl _) (.inl rfl)))))
  · obtain ⟨z10, y10⟩ := szR_ok q10 (by omega)
    refine E.nil (E.thn (E.cf rfl (E.skipc (E.thn (E.seq (E.region (l := [0, 1, 2, 3, 4]) rfl (E.y rfl rfl (by decide) ((Y.fld fo_lQuery_1 ty_lAtoms (by decide) rfl).yd) ?_)))))))
    refine E.y rfl rfl (by decide) (Y.ld1 ty_lAtoms rfl ((Has.pt m0).sub (cs' := [_]) 1 rfl) rfl) ?_
    refine E.y rfl rfl (by decide) ((Y.mv rfl).yd) ?_
    refine E.st rfl rfl (N.call0 t_laws_szAtomS rfl rfl rfl (by decide) (fun w Lp hA => ⟨hA.ro ha_Atoms, (by first | assumption | omega), (by first | assumption | omega)⟩)) (fun _ _ => ?_)
    refine E.y rfl rfl (by decide) ((Y.as rfl).yd) ?_
    refine E.nil (E.thn (E.seq (E.seq (E.region (l := [0, 1]) rfl (E.y rfl rfl (by decide) ((Y.mv rfl).yd) ?_)))))
    refine E.y rfl rfl (by decide) ((Y.lss rfl rfl).yd) (Ent.d (fun q16 => ?_) (fun q16 => ?_))
    · have z16 := szR_bad q16 (by omega)
      refine E.nil (E.thn (E.ct rfl (E.seq (E.region (l := [0]) rfl (E.y rfl rfl (by decide) ((Y.as rfl).yd) ?_)))))
      exact E.nil (E.thn (E.ret (E.thr (F.r1 (Back.refl _ _) rfl rfl () trivial (congrArg (Value.int .i64) (by unfold szR; split <;> omega)) (J := _) (.refl _) (.inl rfl)))))
    · obtain ⟨z16, y16⟩ := szR_ok q16 (by omega)
      refine E.nil (E.thn (E.cf rfl (E.skipc (E.thn (E.seq (E.region (l := [0, 1]) rfl (E.y rfl rfl (by decide) ((Y.mv rfl).yd) ?_)))))))
      refine E.y rfl rfl (by decide) ((Y.as rfl).yd) ?_
      exact E.nil (E.thn (E.ret (F.r1 (Back.refl _ _) rfl rfl () trivial (congrArg (Value.int .i64) (by have e : szR (a_Head.length + totL (fun x => x.2.length) a_Atoms) left = left - ((a_Head.length + totL (fun x => x.2.length) a_Atoms : Nat) : Int) := by { unfold szR; split <;> omega }; omega)) (J := _) (.refl _) (.inl rfl))))
theorem t_laws_toQuery {a_a_Head : Option Addr} {m_a_Head c_a_Head : Nat} {a_Head : List Int} {a_a_Atoms : Option Addr} {m_a_Atoms c_a_Atoms : Nat} {a_Atoms : List (Int × List Int)} (h0 : a_Head.length ≤ 1048576) (h1 : totL (fun x => x.2.length) a_Atoms ≤ 1048576) : Tr Tryd.prog 40 [.agg #[.slice a_a_Head m_a_Head c_a_Head, .slice a_a_Atoms m_a_Atoms c_a_Atoms]] (fun w L => Ro w L eIs [.slice a_a_Head m_a_Head c_a_Head] a_Head ∧ Ro w L eAtoms [.slice a_a_Atoms m_a_Atoms c_a_Atoms] a_Atoms) [] (κ := (Option Addr × Nat × Nat) × (Option Addr × Nat × Nat)) (fun k => True) (fun k => .agg #[.slice k.1.1 k.1.2.1 k.1.2.2, .slice k.2.1 k.2.2.1 k.2.2.2]) (fun k => [ow eIs [.slice k.1.1 k.1.2.1 k.1.2.2] a_Head, ow eAtoms [.slice k.2.1 k.2.2.1 k.2.2.2] a_Atoms]) := by
  refine Tr.intro Tryd.func40 rfl (n := 13) rfl (by decide +kernel) (Nat.le_of_ble_eq_true rfl) (fr := [(0, .agg #[.slice a_a_Head m_a_Head c_a_Head, .slice a_a_Atoms m_a_Atoms c_a_Atoms])]) rfl fun w L hR => ?_
  obtain ⟨ha_Head, ha_Atoms⟩ := hR
  obtain ⟨rfl, la_Head⟩ := ha_Head.slen
  obtain ⟨rfl, la_Atoms⟩ := ha_Atoms.slen
  refine E.seq (E.region (l := [0, 1]) rfl (E.st rfl rfl (N.box (cs := [_, _]) rfl (by decide) rfl) (fun b1 _ => ?_)))
  refine E.st rfl rfl (N.alloc ty_Query (by decide)) (fun b2 _ => ?_)
  refine E.nil (E.thn (E.seq (E.region (l := [0]) rfl (E.st rfl rfl (N.alloc ty_Query (by decide)) (fun b3 _ => ?_)))))
  refine E.nil (E.thn (E.seq (E.region (l := [0, 1, 2, 3, 4]) rfl (E.y rfl rfl (by decide) ((Y.fld fo_lQuery_0 ty_Is (by decide) rfl).yd) ?_))))
  refine E.y rfl rfl (by decide) (Y.ld1 ty_Is rfl ((Has.pt (mS (mS m0))).sub (cs' := [_]) 0 rfl) rfl) ?_
  refine E.st rfl rfl (N.call (t_laws_toIntS (by first | omega | assumption | (constructor <;> omega))) rfl rfl rfl (by decide) rfl (fun w Lp hA => hA.ro ha_Head)) (fun k6 _ => ?_)
  obtain ⟨a6, m6, c6⟩ := k6
  refine Ent.lenow m0 fun e6 l6 => ?_
  subst e6
  refine E.y rfl rfl (by decide) ((Y.fld fo_Query_0 ty_Is (by decide) rfl).yd) ?_
  refine Ent.p1 ?_
  refine E.st rfl rfl (N.sto (vs := [_]) (cs' := [_, _]) ty_Is rfl rfl rfl rfl rfl (Nat.le_of_ble_eq_true rfl) rfl) (fun _ _ => ?_)
  refine E.nil (E.thn (E.seq (E.region (l := [0, 1, 2, 3, 4]) rfl (E.y rfl rfl (by decide) ((Y.fld fo_lQuery_1 ty_lAtoms (by decide) rfl).yd) ?_))))
  refine E.y rfl rfl (by decide) (Y.ld1 ty_lAtoms rfl ((Has.pt (mS (mS (mS m0)))).sub (cs' := [_]) 1 rfl) rfl) ?_
  refine E.st rfl rfl (N.call (t_laws_toAtomS (by first | omega | assumption | (constructor <;> omega))) rfl rfl rfl (by decide) rfl (fun w Lp hA => hA.ro ha_Atoms)) (fun k10 _ => ?_)
  obtain ⟨a10, m10, c10⟩ := k10
  refine Ent.lenow m0 fun e10 l10 => ?_
  subst e10
  refine E.y rfl rfl (by decide) ((Y.fld fo_Query_1 ty_Atoms (by decide) rfl).yd) ?_
  refine Ent.p1 ?_
  refine E.st rfl rfl (N.sto (vs := [_]) (cs' := [_, _]) ty_Atoms rfl rfl rfl rfl rfl (Nat.le_of_ble_eq_true rfl) rfl) (fun _ _ => ?_)
  refine E.nil (E.thn (E.seq (E.region (l := [0, 1]) rfl (E.y rfl rfl (by decide) (Y.ldS (cs := [_, _]) ty_Query rfl (Has.pt m0) rfl) ?_))))
  refine Ent.p3 ?_
  refine E.st rfl rfl (N.sto (vs := [_, _]) (cs' := [_, _]) ty_Query rfl rfl rfl rfl rfl (Nat.le_of_ble_eq_true rfl) rfl) (fun _ _ => ?_)
  refine E.nil (E.thn (E.ret (Ent.p2 ?_)))
  refine Ent.p3 ?_
  refine Ent.p1 ?_
  refine Ent.p1 ?_
  exact F.c1 (Back.refl _ _) rfl rfl (mS (mS m0)) ty_Query rfl ((_, _, _), (_, _, _)) trivial rfl (J := _) (.refl _) (.inl rfl)
theorem t_laws_eqQuery {a_a_Head : Option Addr} {m_a_Head c_a_Head : Nat} {a_Head : List Int} {a_a_Atoms : Option Addr} {m_a_Atoms c_a_Atoms : Nat} {a_Atoms : List (Int × List Int)} {a_b_Head : Option Addr} {m_b_Head c_b_Head : Nat} {b_Head : List Int} {a_b_Atoms : Option Addr} {m_b_Atoms c_b_Atoms : Nat} {b_Atoms : List (Int × List Int)} : Tr Tryd.prog 44 [.agg #[.slice a_a_Head m_a_Head c_a_Head, .slice a_a_Atoms m_a_Atoms c_a_Atoms], .agg #[.slice a_b_Head m_b_Head c_b_Head, .slice a_b_Atoms m_b_Atoms c_b_Atoms]] (fun w L => Ro w L eIs [.slice a_a_Head m_a_Head c_a_Head] a_Head ∧ Ro w L eAtoms [.slice a_a_Atoms m_a_Atoms c_a_Atoms] a_Atoms ∧ Ro w L eIs [.slice a_b_Head m_b_Head c_b_Head] b_Head ∧ Ro w L eAtoms [.slice a_b_Atoms m_b_Atoms c_b_Atoms] b_Atoms) [] (κ := Unit) (fun k => True) (fun k => .bool (decide ((a_Head, a_Atoms) = (b_Head, b_Atoms)))) (fun k => []) := by
  refine Tr.intro Tryd.func44 rfl (n := 17) rfl (by decide +kernel) (Nat.le_of_ble_eq_true rfl) (fr := [(0, .agg #[.slice a_a_Head m_a_Head c_a_Head, .slice a_a_Atoms m_a_Atoms c_a_Atoms]), (1, .agg #[.slice a_b_Head m_b_Head c_b_Head, .slice a_b_Atoms m_b_Atoms c_b_Atoms])]) rfl fun w L hR => ?_
  obtain ⟨ha_Head, ha_Atoms, hb_Head, hb_Atoms⟩ := hR
  obtain ⟨rfl, la_Head⟩ := ha_Head.slen
  obtain ⟨rfl, la_Atoms⟩ := ha_Atoms.slen
  obtain ⟨rfl, lb_Head⟩ := hb_Head.slen
  obtain ⟨rfl, lb_Atoms⟩ := hb_Atoms.slen
  refine E.seq (E.region (l := [0, 1, 2]) rfl (E.st rfl rfl (N.box (cs := [_, _]) rfl (by decide) rfl) (fun b2 _ => ?_)))
  refine E.st rfl rfl (N.box (cs := [_, _]) rfl (by decide) rfl) (fun b3 _ => ?_)
  refine E.y rfl rfl (by decide) ((Y.as rfl).yd) ?_
  refine E.nil (E.thn (E.seq (E.seq (E.region (l := [0, 1, 2, 3, 4, 5]) rfl (E.y rfl rfl (by decide) ((Y.fld fo_Query_0 ty_Is (by decide) rfl).yd) ?_)))))
  refine E.y rfl rfl (by decide) (Y.ld1 ty_Is rfl ((Has.pt (mS m0)).sub (cs' := [_]) 0 rfl) rfl) ?_
  refine E.y rfl rfl (by decide) ((Y.fld fo_Query_0 ty_Is (by decide) rfl).yd) ?_
  refine E.y rfl rfl (by decide) (Y.ld1 ty_Is rfl ((Has.pt m0).sub (cs' := [_]) 0 rfl) rfl) ?_
  refine E.st rfl rfl (N.call0 t_laws_eqIntS rfl rfl rfl (by decide) (fun w Lp hA => ⟨hA.ro ha_Head, hA.ro hb_Head⟩)) (fun _ _ => (Ent.b (fun q9 => ?_) (fun q9 => ?_)))
  · refine E.y rfl rfl (by decide) ((Y.not (b := true) rfl).yd) ?_
    refine E.nil (E.thn (E.cf rfl (E.skipc (E.thn (E.seq (E.seq (E.region (l := [0, 1, 2, 3, 4, 5]) rfl (E.y rfl rfl (by decide) ((Y.fld fo_Query_1 ty_Atoms (by decide) rfl).yd) ?_))))))))
    refine E.y rfl rfl (by decide) (Y.ld1 ty_Atoms rfl ((Has.pt (mS m0)).sub (cs' := [_]) 1 rfl) rfl) ?_
    refine E.y rfl rfl (by decide) ((Y.fld fo_Query_1 ty_Atoms (by decide) rfl).yd) ?_
    refine E.y rfl rfl (by decide) (Y.ld1 ty_Atoms rfl ((Has.pt m0).sub (cs' := [_]) 1 rfl) rfl) ?_
    refine E.st rfl rfl (N.call0 t_laws_eqAtomS rfl rfl rfl (by decide) (fun w Lp hA => ⟨hA.ro ha_Atoms, hA.ro hb_Atoms⟩)) (fun _ _ => (Ent.b (fun q15 => ?_) (fun q15 => ?_)))
    · refine E.y rfl rfl (by decide) ((Y.not (b := true) rfl).yd) ?_
      refine E.nil (E.thn (E.cf rfl (E.skipc (E.thn (E.seq (E.region (l := [0]) rfl (E.y rfl rfl (by decide) ((Y.as rfl).yd) ?_)))))))
      exact E.nil (E.thn (E.ret (F.r1 (Back.refl _ _) rfl rfl () trivial (congrArg Value.bool (by simp_all)) (J := _) (.refl _) (.inl rfl))))
    · refine E.y rfl rfl (by decide) ((Y.not (b := false) rfl).yd) ?_
      refine E.nil (E.thn (E.ct rfl (E.seq (E.region (l := [0]) rfl (E.y rfl rfl (by decide) ((Y.as rfl).yd) ?_)))))
      exact E.nil (E.thn (E.ret (E.thr (F.r1 (Back.refl _ _) rfl rfl () trivial (congrArg Value.bool (by simp_all)) (J := _) (.refl _) (.inl rfl)))))
  · refine E.y rfl rfl (by decide) ((Y.not (b := false) rfl).yd) ?_
    refine E.nil (E.thn (E.ct rfl (E.seq (E.region (l := [0]) rfl (E.y rfl rfl (by decide) ((Y.as rfl).yd) ?_)))))
    exact E.nil (E.thn (E.ret (E.thr (F.r1 (Back.refl _ _) rfl rfl () trivial (congrArg Value.bool (by simp_all)) (J := _) (.refl _) (.inl rfl)))))
theorem t_Index_I {a_s : Option Addr} {m_s c_s : Nat} {s : List Int} {v : Int} : Tr Tryd.prog 102 [.slice a_s m_s c_s, .int .i64 v] (fun w L => Ro w L eIs [.slice a_s m_s c_s] s) [] (κ := Unit) (fun k => True) (fun k => .int .i64 (idxP (fun x => decide (x = v)) s)) (fun k => []) := by
  refine Tr.intro Tryd.func102 rfl (n := 19) rfl (by decide +kernel) (Nat.le_of_ble_eq_true rfl) (fr := [(0, .slice a_s m_s c_s), (1, .int .i64 v)]) rfl fun w L hR => ?_
  have hs := hR
  obtain ⟨rfl, ls⟩ := hs.slen
  refine E.seq (E.region (l := [0]) rfl (E.y rfl rfl (by decide) ((Y.as rfl).yd) ?_))
  refine E.nil (E.thn (E.seq (E.seq (E.region (l := [0, 1, 2]) rfl (E.y rfl rfl (by decide) ((Y.mv rfl).yd) ?_)))))
  refine E.y rfl rfl (by decide) ((Y.len us_Is rfl).yd) ?_
  refine E.y rfl rfl (by decide) ((Y.mv rfl).yd) ?_
  refine E.nil (E.thn (E.block (E.loop (κ := Nat) (fun g => g ≤ s.length ∧ ∀ x ∈ s.take g, decide (x = v) = false) (fun g => [(0, .slice a_s s.length c_s), (1, .int .i64 v), (7, .int .i64 (↑s.length : Int)), (8, .int .i64 (↑g : Int))]) (fun g => []) (fun g => s.length - g) 0 ⟨by omega, by simp⟩ ⟨rfl, rfl, rfl, rfl, trivial⟩ (.refl _) (fun g pg => ?_))))
  obtain ⟨pk, pa⟩ := pg
  refine E.seq (E.region (l := [0]) rfl (E.y rfl rfl (by decide) ((Y.lss rfl rfl).yd) (Ent.d (fun q9 => ?_) (fun q9 => ?_))))
  · refine E.nil (E.thn (E.seq (E.ct rfl (E.skipc (E.thn (E.seq (E.block (E.seq (E.region (l := [0, 1]) rfl (E.y rfl rfl (by decide) ((Y.mv rfl).yd) ?_))))))))))
    refine E.y rfl rfl (by decide) ((Y.as rfl).yd) ?_
    refine E.nil (E.thn (E.seq (E.region (l := [0, 1, 2, 3, 4, 5]) rfl (E.y rfl rfl (by decide) ((Y.mv rfl).yd) ?_))))
    refine E.y rfl rfl (by decide) ((Y.mv rfl).yd) ?_
    refine E.y rfl rfl (by decide) ((Y.mv rfl).yd) ?_
    obtain ⟨eb14, eo14, ea14, ei14, eh14⟩ := hs.elemI g (by omega)
    refine E.y rfl rfl (by decide) ((Y.ix us_Is ty_I rfl ea14 rfl g rfl (by omega)).yd) ?_
    refine E.y rfl rfl (by decide) (Y.ld1 ty_I rfl (eh14 _) rfl) ?_
    refine E.y rfl rfl (by decide) ((Y.eql rfl rfl).yd) (Ent.d (fun q16 => ?_) (fun q16 => ?_))
    · refine E.nil (E.thn (E.ct rfl (E.seq (E.region (l := [0, 1]) rfl (E.y rfl rfl (by decide) ((Y.mv rfl).yd) ?_)))))
      refine E.y rfl rfl (by decide) ((Y.as rfl).yd) ?_
      exact E.nil (E.thn (E.ret (E.blr (E.thr (E.thr (E.blr (E.thr (F.r1 (Back.refl _ _) rfl rfl () trivial (congrArg (Value.int .i64) (by exact idxP_hit (p := fun x => decide (x = v)) (by omega) pa (decide_eq_true (by omega)))) (J := _) (.refl _) (.inl rfl)))))))))
    · refine E.nil (E.thn (E.cf rfl (E.skipc (E.bln (E.thn (E.region (l := [0, 1]) rfl (E.y rfl rfl (by decide) ((Y.add rfl rfl (by omega) (by omega)).yd) ?_)))))))
      refine E.y rfl rfl (by decide) ((Y.mv rfl).yd) ?_
      exact E.nil (E.thn (E.again (Back.refl _ _) (g + 1) ⟨rfl, rfl, rfl, rfl, trivial⟩ (.refl _) ⟨by omega, take_step (p := fun x => decide (x = v)) (by omega) pa (decide_eq_false (by omega))⟩ (by omega)))
  · refine E.nil (E.thn (E.seq (E.cf rfl (E.exit (E.the (E.the (E.blh (E.thn (E.seq (E.region (l := [0]) rfl (E.y rfl rfl (by decide) ((Y.as rfl).yd) ?_)))))))))))
    exact E.nil (E.thn (E.ret (F.r1 (Back.refl _ _) rfl rfl () trivial (congrArg (Value.int .i64) (by exact idxP_miss (by omega) pa)) (J := _) (.refl _) (.inl rfl))))
theorem t_spec_IsVar {t : Int} : Tr Tryd.prog 81 [.int .i64 t] (fun w L => True) [] (κ := Unit) (fun k => True) (fun k => .bool (inR t 10 17)) (fun k => []) := by
  refine Tr.intro Tryd.func81 rfl (n := 5) rfl (by decide +kernel) (Nat.le_of_ble_eq_true rfl) (fr := [(0, .int .i64 t)]) rfl fun w L hR => ?_
  refine E.seq (E.region (l := [0]) rfl (E.y rfl rfl (by decide) ((Y.as rfl).yd) ?_))
  refine E.nil (E.thn (E.seq (E.region (l := [0, 1, 2]) rfl (E.y rfl rfl (by decide) ((Y.mv rfl).yd) ?_))))
  refine E.st rfl rfl (N.call0 t_spec_l1In rfl rfl rfl (by decide) (fun w Lp hA => trivial)) (fun _ _ => ?_)
  refine E.y rfl rfl (by decide) ((Y.as rfl).yd) ?_
  exact E.nil (E.thn (E.ret (F.r1 (Back.refl _ _) rfl rfl () trivial rfl (J := _) (.refl _) (.inl rfl))))
theorem t_impl_IsVar {t : Int} : Tr Tryd.prog 101 [.int .i64 t] (fun w L => True) [] (κ := Unit) (fun k => True) (fun k => .bool (inR t 10 17)) (fun k => []) := by
  refine Tr.intro Tryd.func101 rfl (n := 5) rfl (by decide +kernel) (Nat.le_of_ble_eq_true rfl) (fr := [(0, .int .i64 t)]) rfl fun w L hR => ?_
  refine E.seq (E.region (l := [0]) rfl (E.y rfl rfl (by decide) ((Y.as rfl).yd) ?_))
  refine E.nil (E.thn (E.seq (E.region (l := [0, 1, 2]) rfl (E.y rfl rfl (by decide) ((Y.mv rfl).yd) ?_))))
  refine E.st rfl rfl (N.call0 t_impl_within rfl rfl rfl (by decide) (fun w Lp hA => trivial)) (fun _ _ => ?_)
  refine E.y rfl rfl (by decide) ((Y.as rfl).yd) ?_
  exact E.nil (E.thn (E.ret (F.r1 (Back.refl _ _) rfl rfl () trivial rfl (J := _) (.refl _) (.inl rfl))))
end Go.Proofs.YtlbfbeldhkcdiaaDoor
