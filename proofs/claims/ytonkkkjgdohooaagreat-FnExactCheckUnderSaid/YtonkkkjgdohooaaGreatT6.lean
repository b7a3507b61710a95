import Derived.Test.YtonkkkjgdohooaaGreatBs
import Derived.Test.YtonkkkjgdohooaaGreatT1
import Derived.Test.YtonkkkjgdohooaaGreatBc
import Derived.Test.YtonkkkjgdohooaaGreatT5
namespace Go.Proofs.YtonkkkjgdohooaaGreat
open Go.RowKit
set_option linter.unusedVariables false
set_option linter.unusedSimpArgs false
set_option maxHeartbeats 2000000
attribute [local irreducible] Nop Yd Yp Ent Has Tr FnP FnP2 Src
theorem t_Clone_Is {a_s : Option Addr} {m_s c_s : Nat} {s : List Int} (hz : s.length ≤ 1048576) : Tr Tryz.prog 204 [.slice a_s m_s c_s] (fun w L => Ro w L eIs [.slice a_s m_s c_s] s) [] (κ := Option Addr × Nat × Nat) (fun k => True) (fun k => .slice k.1 k.2.1 k.2.2) (fun k => [ow eIs [.slice k.1 k.2.1 k.2.2] s]) := by
  refine Tr.intro Tryz.func204 rfl (n := 8) rfl (by decide +kernel) bl (fr := [(0, .slice a_s m_s c_s)]) rfl fun w L hR => ?_
  have hs := hR
  obtain ⟨rfl, ls⟩ := hs.slen
  refine Ew Z1 (Eas rfl rfl (Eu (Eq_ (Ew Z2 (Emv rfl rfl (Ey rfl ((Y.eqlN us_Is rfl rfl).yd) (Ent.b (fun q4 => ?_) (fun q4 => ?_))))))))
  · refine Eu (E.ct rfl (Ew Z1 (Eas rfl rfl (Eu (E.ret (E.thr (Ent.mkow (A := []) (Own.nil (E := Enc.int) (e := tI) (a := none)) rfl (Ent.cv (congrArg (ow eIs [_]) (show _ = s by (cases a_s with | none => exact hs.none_nil.symm | some x => cases q4))) ?_))))))))
    exact Fg rfl rfl (none, 0, 0) rfl rfl
  · refine Eu (E.cf rfl (E.skipc (Et (Ew Z4 (Est rfl (N.bsl (pvs := []) (cs := []) us_Is ty_I rfl dc dc (fillZ rfl rfl) rfl dc) (fun b5 _ => (Ent.drop (Emv rfl rfl (Est rfl (N.pushR0 (E := Enc.int) Plain.int us_Is ty_I rfl rfl rfl hs bn bn dc) (fun p7 _ => (Eas rfl rfl ?_)))))))))))
    exact Eu (E.ret (Fg rfl rfl (_, _, _) rfl rfl))
theorem t_laws_szAtom {a_Rel : Int} {a_a_Terms : Option Addr} {m_a_Terms c_a_Terms : Nat} {a_Terms : List Int} {left : Int} : Tr Tryz.prog 208 [.agg #[.int .i64 a_Rel, .slice a_a_Terms m_a_Terms c_a_Terms], .int .i64 left] (fun w L => I64 a_Rel ∧ Ro w L eIs [.slice a_a_Terms m_a_Terms c_a_Terms] a_Terms ∧ 0 ≤ left ∧ left ≤ 1048576) [] (κ := Unit) (fun k => True) (fun k => .int .i64 (szR (a_Terms.length) left)) (fun k => []) := by
  refine Tr.intro Tryz.func208 rfl (n := 12) rfl (by decide +kernel) bl (fr := [(0, .agg #[.int .i64 a_Rel, .slice a_a_Terms m_a_Terms c_a_Terms]), (1, .int .i64 left)]) rfl fun w L hR => ?_
  obtain ⟨i6a_Rel, ha_Terms, as0, as1⟩ := hR
  obtain ⟨rfl, la_Terms⟩ := ha_Terms.slen
  refine Ew Z2 (Est rfl (N.box (cs := [_, _]) rfl dc rfl) (fun b2 _ => (Eas rfl rfl (Ev Z5 (Ey rfl ((Y.fld fo_lAtom_1 ty_Is dc rfl).yd) (Ey rfl (Y.ld1 ty_Is rfl ((Has.pt m0).sub (cs' := [_]) 1 rfl) rfl) (Emv rfl rfl (Est rfl (N.call0 t_laws_szIntS rfl rfl rfl dc (fun w Lp hA => ⟨hA.ro ha_Terms, (by first | assumption | omega), (by first | assumption | omega)⟩)) (fun _ _ => (Eas rfl rfl (Eu (Eq_ (Ew Z2 (Emv rfl rfl (Ey rfl ((Y.lss rfl rfl).yd) (Ent.d (fun q10 => ?_) (fun q10 => ?_)))))))))))))))))
  · have z10 := szR_bad q10 om
    refine Eu (E.ct rfl (Ew Z1 (Eas rfl rfl ?_)))
    exact Eu (E.ret (E.thr (Fg rfl rfl () (congrArg (Value.int .i64) (by unfold szR; split <;> omega)) rfl)))
  · obtain ⟨z10, y10⟩ := szR_ok q10 om
    refine Eu (E.cf rfl (E.skipc (Et (Ew Z2 (Emv rfl rfl (Eas rfl rfl ?_))))))
    exact Eu (E.ret (Fg rfl rfl () (congrArg (Value.int .i64) (by have e : szR (a_Terms.length) left = left - ((a_Terms.length : Nat) : Int) := by { unfold szR; split <;> omega }; omega)) rfl))
theorem t_laws_toAtom {a_Rel : Int} {a_a_Terms : Option Addr} {m_a_Terms c_a_Terms : Nat} {a_Terms : List Int} (h1 : a_Terms.length ≤ 1048576) : Tr Tryz.prog 212 [.agg #[.int .i64 a_Rel, .slice a_a_Terms m_a_Terms c_a_Terms]] (fun w L => I64 a_Rel ∧ Ro w L eIs [.slice a_a_Terms m_a_Terms c_a_Terms] a_Terms) [] (κ := Option Addr × Nat × Nat) (fun k => True) (fun k => .agg #[.int .i64 a_Rel, .slice k.1 k.2.1 k.2.2]) (fun k => [ow eIs [.slice k.1 k.2.1 k.2.2] a_Terms]) := by
  refine Tr.intro Tryz.func212 rfl (n := 12) rfl (by decide +kernel) bl (fr := [(0, .agg #[.int .i64 a_Rel, .slice a_a_Terms m_a_Terms c_a_Terms])]) rfl fun w L hR => ?_
  obtain ⟨i6a_Rel, ha_Terms⟩ := hR
  obtain ⟨rfl, la_Terms⟩ := ha_Terms.slen
  refine Ew Z2 (Est rfl (N.box (cs := [_, _]) rfl dc rfl) (fun b1 _ => (Est rfl (N.alloc ty_Atom dc) (fun b2 _ => (Ev Z1 (Est rfl (N.alloc ty_Atom dc) (fun b3 _ => (Ev Z4 (Ey rfl ((Y.fld fo_lAtom_0 ty_I dc rfl).yd) (Ey rfl (Y.ld1 ty_I rfl ((Has.pt (mS (mS m0))).sub (cs' := [_]) 0 rfl) rfl) (Ey rfl ((Y.fld fo_Atom_0 ty_I dc rfl).yd) (Est rfl (N.sto (vs := [_]) (cs' := [_, _]) ty_I rfl rfl rfl rfl rfl bl rfl) (fun _ _ => (Ev Z5 (Ey rfl ((Y.fld fo_lAtom_1 ty_Is dc rfl).yd) (Ey rfl (Y.ld1 ty_Is rfl ((Has.pt (mS (mS m0))).sub (cs' := [_]) 1 rfl) rfl) (Est rfl (N.call (t_laws_toIntS fc) rfl rfl rfl dc rfl (fun w Lp hA => hA.ro ha_Terms)) (fun k9 _ => ?_))))))))))))))))))
  obtain ⟨a9, m9, c9⟩ := k9
  refine Ent.lenow m0 fun e9 l9 => ?_
  subst e9
  refine Ey rfl ((Y.fld fo_Atom_1 ty_Is dc rfl).yd) (Ent.p1 (Est rfl (N.sto (vs := [_]) (cs' := [_, _]) ty_Is rfl rfl rfl rfl rfl bl rfl) (fun _ _ => (Ev Z2 (Ey rfl (Y.ldS (cs := [_, _]) ty_Atom rfl (Has.pt m0) rfl) (Ent.p2 (Est rfl (N.sto (vs := [_, _]) (cs' := [_, _]) ty_Atom rfl rfl rfl rfl rfl bl rfl) (fun _ _ => (Eu (E.ret (Ent.p2 ?_)))))))))))
  exact F.c1 br rfl rfl (mS m0) ty_Atom rfl (_, _, _) trivial rfl (J := _) (.refl _) (.inl rfl)
theorem t_laws_eqAtom {a_Rel : Int} {a_a_Terms : Option Addr} {m_a_Terms c_a_Terms : Nat} {a_Terms : List Int} {b_Rel : Int} {a_b_Terms : Option Addr} {m_b_Terms c_b_Terms : Nat} {b_Terms : List Int} : Tr Tryz.prog 213 [.agg #[.int .i64 a_Rel, .slice a_a_Terms m_a_Terms c_a_Terms], .agg #[.int .i64 b_Rel, .slice a_b_Terms m_b_Terms c_b_Terms]] (fun w L => I64 a_Rel ∧ Ro w L eIs [.slice a_a_Terms m_a_Terms c_a_Terms] a_Terms ∧ I64 b_Rel ∧ Ro w L eIs [.slice a_b_Terms m_b_Terms c_b_Terms] b_Terms) [] (κ := Unit) (fun k => True) (fun k => .bool (decide ((a_Rel, a_Terms) = (b_Rel, b_Terms)))) (fun k => []) := by
  refine Tr.intro Tryz.func213 rfl (n := 16) rfl (by decide +kernel) bl (fr := [(0, .agg #[.int .i64 a_Rel, .slice a_a_Terms m_a_Terms c_a_Terms]), (1, .agg #[.int .i64 b_Rel, .slice a_b_Terms m_b_Terms c_b_Terms])]) rfl fun w L hR => ?_
  obtain ⟨i6a_Rel, ha_Terms, i6b_Rel, hb_Terms⟩ := hR
  obtain ⟨rfl, la_Terms⟩ := ha_Terms.slen
  obtain ⟨rfl, lb_Terms⟩ := hb_Terms.slen
  refine Ew Z3 (Est rfl (N.box (cs := [_, _]) rfl dc rfl) (fun b2 _ => (Est rfl (N.box (cs := [_, _]) rfl dc rfl) (fun b3 _ => (Eas rfl rfl (Eu (Eq_ (Ew Z5 (Ey rfl ((Y.fld fo_Atom_0 ty_I dc rfl).yd) (Ey rfl (Y.ld1 ty_I rfl ((Has.pt (mS m0)).sub (cs' := [_]) 0 rfl) rfl) (Ey rfl ((Y.fld fo_Atom_0 ty_I dc rfl).yd) (Ey rfl (Y.ld1 ty_I rfl ((Has.pt m0).sub (cs' := [_]) 0 rfl) rfl) (Ey rfl ((Y.neq rfl rfl).yd) (Ent.d (fun q9 => ?_) (fun q9 => ?_)))))))))))))))
  · refine Eu (E.ct rfl (Ew Z1 (Eas rfl rfl ?_)))
    exact Eu (E.ret (E.thr (Fb rfl rfl (by simp_all))))
  · refine Eu (E.cf rfl (E.skipc (Et (Eq_ (Ew Z6 (Ey rfl ((Y.fld fo_Atom_1 ty_Is dc rfl).yd) (Ey rfl (Y.ld1 ty_Is rfl ((Has.pt (mS m0)).sub (cs' := [_]) 1 rfl) rfl) (Ey rfl ((Y.fld fo_Atom_1 ty_Is dc rfl).yd) (Ey rfl (Y.ld1 ty_Is rfl ((Has.pt m0).sub (cs' := [_]) 1 rfl) rfl) (Est rfl (N.call0 t_laws_eqIntS rfl rfl rfl dc (fun w Lp hA => ⟨hA.ro ha_Terms, hA.ro hb_Terms⟩)) (fun _ _ => (Ent.b (fun q14 => ?_) (fun q14 => ?_)))))))))))))
    · refine Ey rfl ((Y.not (b := true) rfl).yd) (Eu (E.cf rfl (E.skipc (Et (Ew Z1 (Eas rfl rfl ?_))))))
      exact Eu (E.ret (Fb rfl rfl (by simp_all)))
    · refine Ey rfl ((Y.not (b := false) rfl).yd) (Eu (E.ct rfl (Ew Z1 (Eas rfl rfl ?_))))
      exact Eu (E.ret (E.thr (Fb rfl rfl (by simp_all))))
theorem t_laws_szAtomS {a_a : Option Addr} {m_a c_a : Nat} {a : List (Int × List Int)} {left : Int} : Tr Tryz.prog 103 [.slice a_a m_a c_a, .int .i64 left] (fun w L => Ro w L eAtoms [.slice a_a m_a c_a] a ∧ 0 ≤ left ∧ left ≤ 1048576) [] (κ := Unit) (fun k => True) (fun k => .int .i64 (szR (totL (fun x => x.2.length) a) left)) (fun k => []) := by
  refine Tr.intro Tryz.func103 rfl (n := 27) rfl (by decide +kernel) bl (fr := [(0, .slice a_a m_a c_a), (1, .int .i64 left)]) rfl fun w L hR => ?_
  obtain ⟨ha, as0, as1⟩ := hR
  obtain ⟨rfl, la⟩ := ha.slen
  refine Ew Z1 (Eas rfl rfl (Ev Z5 (Emv rfl rfl (Emv rfl rfl (Ey rfl ((Y.len us_lAtoms rfl).yd) (Ey rfl ((Y.sub rfl rfl om om).yd) (Eas rfl rfl (Eu (Eq_ (Ew Z2 (Emv rfl rfl (Ey rfl ((Y.lss rfl rfl).yd) (Ent.d (fun q11 => ?_) (fun q11 => ?_))))))))))))))
  · refine Eu (E.ct rfl (Ew Z1 (Eas rfl rfl ?_)))
    exact Eu (E.ret (E.thr (Fg rfl rfl () (congrArg (Value.int .i64) (by exact szS_no1 q11)) rfl)))
  · refine Eu (E.cf rfl (E.skipc (Et (Eq_ (Ew Z1 (Eas rfl rfl (Eu (E.block (E.loop (κ := Nat) (fun g => g ≤ a.length ∧ (a.length : Int) + (totS (fun x => x.2.length) (a.take g) : Nat) ≤ left) (fun g => [(0, .slice a_a a.length c_a), (1, .int .i64 (left - ((a.length : Int) + (totS (fun x => x.2.length) (a.take g) : Nat)))), (5, .int .i64 (g : Int))]) (fun g => []) (fun g => a.length - g) 0 ⟨by omega, by simp [totS]; omega⟩ ⟨rfl, frI (by simp [totS]), rfl, trivial⟩ (.refl _) (fun g pg => ?_))))))))))
    obtain ⟨pk, pa⟩ := pg
    refine Eq_ (Ew Z4 (Emv rfl rfl (Emv rfl rfl (Ey rfl ((Y.len us_lAtoms rfl).yd) (Ey rfl ((Y.lss rfl rfl).yd) (Ent.d (fun q15 => ?_) (fun q15 => ?_)))))))
    · refine Eu (E.ct rfl (E.skipc (Et (Eq_ (E.block (Ew Z7 (Emv rfl rfl (Emv rfl rfl ?_))))))))
      obtain ⟨eb20, eo20, ec20, ea20, er20, el20, eh20⟩ := ha.elem g om
      obtain ⟨xa20_0, xc20_0, rfl, ei20_0, xh20_0⟩ := Ro.pAtom er20
      have := xh20_0.slen.2
      refine Ey rfl ((Y.ix us_lAtoms ty_lAtom rfl ea20 rfl g rfl om).yd) (Ey rfl (Y.ldS (cs := [_, _]) ty_lAtom rfl (eh20 _) rfl) (Emv rfl rfl (Est rfl (N.call0 t_laws_szAtom rfl rfl rfl dc (fun w Lp hA => ⟨ei20_0, hA.ro xh20_0, (by first | assumption | omega), (by first | assumption | omega)⟩)) (fun _ _ => (Eas rfl rfl (Ev Z2 (Emv rfl rfl (Ey rfl ((Y.lss rfl rfl).yd) (Ent.d (fun q25 => ?_) (fun q25 => ?_))))))))))
      · have z25 := szR_bad q25 om
        refine Eu (E.ct rfl (Ew Z1 (Eas rfl rfl ?_)))
        exact Eu (E.ret (E.blr (E.thr (E.thr (E.blr (E.thr (Fg rfl rfl () (congrArg (Value.int .i64) (by exact szS_no2 (t := (fun x => x.2.length)) (n := a[g].2.length) (show g < a.length by omega) rfl om)) rfl)))))))
      · obtain ⟨z25, y25⟩ := szR_ok q25 om
        refine Eu (E.cf rfl (E.skipc (E.bln (Et (Ez Z3 (Emv rfl rfl (Ey rfl ((Y.add rfl rfl om om).yd) (Eas rfl rfl ?_))))))))
        exact Eu (E.again br (g + 1) ⟨rfl, frI (by rw [z25]; have y := totS_step (t := (fun x => x.2.length)) (show g < a.length by omega); omega), rfl, trivial⟩ (.refl _) ⟨by omega, by have y := totS_step (t := (fun x => x.2.length)) (show g < a.length by omega); omega⟩ om)
    · refine Eu (E.cf rfl (E.exit (E.the (E.the (E.blh (Et (Ew Z2 (Emv rfl rfl (Eas rfl rfl ?_)))))))))
      exact Eu (E.ret (Fg rfl rfl () (congrArg (Value.int .i64) (by exact szS_yes (t := (fun x => x.2.length)) (show a.length ≤ g by omega) pa)) rfl))
theorem t_laws_toAtomS {a_a : Option Addr} {m_a c_a : Nat} {a : List (Int × List Int)} (hz : totL (fun x => x.2.length) a ≤ 1048576) : Tr Tryz.prog 109 [.slice a_a m_a c_a] (fun w L => Ro w L eAtoms [.slice a_a m_a c_a] a) [] (κ := Option Addr × Nat × Nat) (fun k => True) (fun k => .slice k.1 k.2.1 k.2.2) (fun k => [ow eAtoms [.slice k.1 k.2.1 k.2.2] a]) := by
  refine Tr.intro Tryz.func109 rfl (n := 23) rfl (by decide +kernel) bl (fr := [(0, .slice a_a m_a c_a)]) rfl fun w L hR => ?_
  have ha := hR
  obtain ⟨rfl, la⟩ := ha.slen
  have hlen : a.length ≤ totL (fun x => x.2.length) a := by unfold totL; omega
  refine Ew Z1 (Eas rfl rfl (Ev Z4 (Emv rfl rfl (Ey rfl ((Y.len us_lAtoms rfl).yd) (Est rfl (N.make (m := a.length) us_Atoms ty_Atom rfl rfl rfl mx om dc) (fun b7 _ => (Ent.mkow (A := [_]) (Own.made (E := eAtom) (e := tAtom) (zx := (0, [])) (Own.mkAtom (x := (0, [])) ⟨by decide, by decide⟩ Own.nil) mx) rfl (Eas rfl rfl (Eu (Eq_ (Ew Z1 (Eas rfl rfl (Eu (E.block (E.loop (κ := Nat) (fun g => g ≤ a.length) (fun g => [(0, .slice a_a a.length c_a), (3, .slice (some ⟨b7, 0, none⟩) a.length a.length), (4, .int .i64 (g : Int))]) (fun g => [ow eAtoms [.slice (some ⟨b7, 0, none⟩) a.length a.length] (a.take g ++ List.replicate (a.length - g) (0, []))]) (fun g => a.length - g) 0 (Nat.zero_le _) ⟨rfl, rfl, rfl, trivial⟩ (by simp) (fun g pg => (Eq_ (Ew Z4 (Emv rfl rfl (Emv rfl rfl (Ey rfl ((Y.len us_lAtoms rfl).yd) (Ey rfl ((Y.lss rfl rfl).yd) (Ent.d (fun q11 => ?_) (fun q11 => ?_))))))))))))))))))))))))
  · refine Eu (E.ct rfl (E.skipc (Et (Eq_ (E.block (Ez Z9 (Emv rfl rfl (Emv rfl rfl (Emv rfl rfl (Emv rfl rfl ?_))))))))))
    obtain ⟨eb18, eo18, ec18, ea18, er18, el18, eh18⟩ := ha.elem g om
    obtain ⟨xa18_0, xc18_0, rfl, ei18_0, xh18_0⟩ := Ro.pAtom er18
    have := xh18_0.slen.2
    refine Ey rfl ((Y.ix us_lAtoms ty_lAtom rfl ea18 rfl g rfl om).yd) (Ey rfl (Y.ldS (cs := [_, _]) ty_lAtom rfl (eh18 _) rfl) (Est rfl (N.call (t_laws_toAtom (by have y := tot_elem (t := (fun x => x.2.length)) (l := a) (g := g) om; omega)) rfl rfl rfl dc rfl (fun w Lp hA => ⟨ei18_0, hA.ro xh18_0⟩)) (fun k20 _ => ?_)))
    obtain ⟨a20, m20, c20⟩ := k20
    refine Ent.lenow m0 fun e20 l20 => ?_
    subst e20
    refine Ey rfl ((Y.ix us_Atoms ty_Atom rfl rfl rfl g rfl om).yd) (Ent.p1 (Est rfl (N.set (E := eAtom) (j := g) (ex := a[g]) (ce := [_, _]) ty_Atom rfl rfl rfl rfl (Own.mkAtom (x := a[g]) ei18_0 Own.ow) rfl (Nat.zero_add _) rfl (by simp; omega)) (fun _ _ => (En (E.bln (Et (Ez Z3 (Emv rfl rfl (Ey rfl ((Y.add rfl rfl om om).yd) (Eas rfl rfl ?_))))))))))
    exact Eu (E.again br (g + 1) ⟨rfl, rfl, rfl, trivial⟩ (by rw [set_take om rfl]) om om)
  · refine Eu (E.cf rfl (E.exit (E.the (E.the (E.blh (Et (Ew Z2 (Emv rfl rfl (Eas rfl rfl (Eu (E.ret (Ent.cv (congrArg (ow eAtoms [_]) (show _ = a by exact take_rep_all om)) ?_))))))))))))
    exact Fg rfl rfl (_, _, _) rfl rfl
theorem t_laws_eqAtomS {a_a : Option Addr} {m_a c_a : Nat} {a : List (Int × List Int)} {a_b : Option Addr} {m_b c_b : Nat} {b : List (Int × List Int)} : Tr Tryz.prog 111 [.slice a_a m_a c_a, .slice a_b m_b c_b] (fun w L => Ro w L eAtoms [.slice a_a m_a c_a] a ∧ Ro w L eAtoms [.slice a_b m_b c_b] b) [] (κ := Unit) (fun k => True) (fun k => .bool (decide (a = b))) (fun k => []) := by
  refine Tr.intro Tryz.func111 rfl (n := 27) rfl (by decide +kernel) bl (fr := [(0, .slice a_a m_a c_a), (1, .slice a_b m_b c_b)]) rfl fun w L hR => ?_
  obtain ⟨ha, hb⟩ := hR
  obtain ⟨rfl, la⟩ := ha.slen
  obtain ⟨rfl, lb⟩ := hb.slen
  refine Ew Z1 (Eas rfl rfl (Eu (Eq_ (Ew Z5 (Emv rfl rfl (Ey rfl ((Y.len us_Atoms rfl).yd) (Emv rfl rfl (Ey rfl ((Y.len us_Atoms rfl).yd) (Ey rfl ((Y.neq rfl rfl).yd) (Ent.d (fun q10 => ?_) (fun q10 => ?_)))))))))))
  · refine Eu (E.ct rfl (Ew Z1 (Eas rfl rfl ?_)))
    exact Eu (E.ret (E.thr (Fb rfl rfl (by exact ne_of_len q10))))
  · refine Eu (E.cf rfl (E.skipc (Et (Eq_ (Ew Z1 (Eas rfl rfl (Eu (E.block (E.loop (κ := Nat) (fun g => g ≤ a.length ∧ a.take g = b.take g) (fun g => [(0, .slice a_a a.length c_a), (1, .slice a_b b.length c_b), (5, .int .i64 (g : Int))]) (fun g => []) (fun g => a.length - g) 0 ⟨by omega, by simp⟩ ⟨rfl, rfl, rfl, trivial⟩ (.refl _) (fun g pg => ?_))))))))))
    obtain ⟨pk, pa⟩ := pg
    refine Eq_ (Ew Z4 (Emv rfl rfl (Emv rfl rfl (Ey rfl ((Y.len us_Atoms rfl).yd) (Ey rfl ((Y.lss rfl rfl).yd) (Ent.d (fun q14 => ?_) (fun q14 => ?_)))))))
    · refine Eu (E.ct rfl (E.skipc (Et (Eq_ (E.block (Eq_ (D.region (fun j => true) mixed (Dyp 0 rfl (Y.mv rfl) (Dyp 1 rfl (Y.mv rfl) ?_)))))))))
      obtain ⟨eb19, eo19, ec19, ea19, er19, el19, eh19⟩ := ha.elem g om
      obtain ⟨xa19_0, xc19_0, rfl, ei19_0, xh19_0⟩ := Ro.pAtom er19
      have := xh19_0.slen.2
      refine Dyp 2 rfl (Y.ix us_Atoms ty_Atom rfl ea19 rfl g rfl om) (Dy 3 rfl (Y.ldS (cs := [_, _]) ty_Atom rfl (eh19 _) rfl) (Dyp 4 rfl (Y.mv rfl) (Dyp 5 rfl (Y.mv rfl) ?_)))
      obtain ⟨eb23, eo23, ec23, ea23, er23, el23, eh23⟩ := hb.elem g om
      obtain ⟨xa23_0, xc23_0, rfl, ei23_0, xh23_0⟩ := Ro.pAtom er23
      have := xh23_0.slen.2
      refine Dyp 6 rfl (Y.ix us_Atoms ty_Atom rfl ea23 rfl g rfl om) (Dy 7 rfl (Y.ldS (cs := [_, _]) ty_Atom rfl (eh23 _) rfl) (D.st 8 rfl rfl kr (fun _ => rfl) (N.call0 t_laws_eqAtom rfl rfl rfl dc (fun w Lp hA => ⟨ei19_0, hA.ro xh19_0, ei23_0, hA.ro xh23_0⟩)) (fun _ _ => (Ent.b (fun q25 => ?_) (fun q25 => ?_)))))
      · refine Dyp 9 rfl (Y.not (b := true) rfl) (D.done kr (Et (E.cf rfl (E.skipc (E.bln (Et (Ez Z3 (Emv rfl rfl (Ey rfl ((Y.add rfl rfl om om).yd) (Eas rfl rfl ?_))))))))))
        exact Eu (E.again br (g + 1) ⟨rfl, rfl, rfl, trivial⟩ (.refl _) ⟨by omega, take_eq_step om om pa (of_decide_eq_true q25)⟩ om)
      · refine Dyp 9 rfl (Y.not (b := false) rfl) (D.done kr (Et (E.ct rfl (Ew Z1 (Eas rfl rfl ?_)))))
        exact Eu (E.ret (E.blr (E.thr (E.thr (E.blr (E.thr (Fb rfl rfl (by exact ne_of_get (show g < a.length by omega) (show g < b.length by omega) (of_decide_eq_false q25)))))))))
    · refine Eu (E.cf rfl (E.exit (E.the (E.the (E.blh (Et (Ew Z1 (Eas rfl rfl ?_))))))))
      exact Eu (E.ret (Fb rfl rfl (by exact eq_of_take (show a.length ≤ g by omega) (show b.length ≤ g by omega) pa)))
theorem t_laws_szQuery {a_a_Head : Option Addr} {m_a_Head c_a_Head : Nat} {a_Head : List Int} {a_a_Atoms : Option Addr} {m_a_Atoms c_a_Atoms : Nat} {a_Atoms : List (Int × List Int)} {left : Int} : Tr Tryz.prog 34 [.agg #[.slice a_a_Head m_a_Head c_a_Head, .slice a_a_Atoms m_a_Atoms c_a_Atoms], .int .i64 left] (fun w L => Ro w L eIs [.slice a_a_Head m_a_Head c_a_Head] a_Head ∧ Ro w L eAtoms [.slice a_a_Atoms m_a_Atoms c_a_Atoms] a_Atoms ∧ 0 ≤ left ∧ left ≤ 1048576) [] (κ := Unit) (fun k => True) (fun k => .int .i64 (szR (a_Head.length + totL (fun x => x.2.length) a_Atoms) left)) (fun k => []) := by
  refine Tr.intro Tryz.func34 rfl (n := 18) rfl (by decide +kernel) bl (fr := [(0, .agg #[.slice a_a_Head m_a_Head c_a_Head, .slice a_a_Atoms m_a_Atoms c_a_Atoms]), (1, .int .i64 left)]) rfl fun w L hR => ?_
  obtain ⟨ha_Head, ha_Atoms, as0, as1⟩ := hR
  obtain ⟨rfl, la_Head⟩ := ha_Head.slen
  obtain ⟨rfl, la_Atoms⟩ := ha_Atoms.slen
  refine Ew Z2 (Est rfl (N.box (cs := [_, _]) rfl dc rfl) (fun b2 _ => (Eas rfl rfl (Ev Z5 (Ey rfl ((Y.fld fo_lQuery_0 ty_Is dc rfl).yd) (Ey rfl (Y.ld1 ty_Is rfl ((Has.pt m0).sub (cs' := [_]) 0 rfl) rfl) (Emv rfl rfl (Est rfl (N.call0 t_laws_szIntS rfl rfl rfl dc (fun w Lp hA => ⟨hA.ro ha_Head, (by first | assumption | omega), (by first | assumption | omega)⟩)) (fun _ _ => (Eas rfl rfl (Eu (Eq_ (Ew Z2 (Emv rfl rfl (Ey rfl ((Y.lss rfl rfl).yd) (Ent.d (fun q10 => ?_) (fun q10 => ?_)))))))))))))))))
  · have z10 := szR_bad q10 om
    refine Eu (E.ct rfl (Ew Z1 (Eas rfl rfl ?_)))
    exact Eu (E.ret (E.thr (Fg rfl rfl () (congrArg (Value.int .i64) (by unfold szR; split <;> omega)) rfl)))
  · obtain ⟨z10, y10⟩ := szR_ok q10 om
    refine Eu (E.cf rfl (E.skipc (Et (Ew Z5 (Ey rfl ((Y.fld fo_lQuery_1 ty_lAtoms dc rfl).yd) (Ey rfl (Y.ld1 ty_lAtoms rfl ((Has.pt m0).sub (cs' := [_]) 1 rfl) rfl) (Emv rfl rfl (Est rfl (N.call0 t_laws_szAtomS rfl rfl rfl dc (fun w Lp hA => ⟨hA.ro ha_Atoms, (by first | assumption | omega), (by first | assumption | omega)⟩)) (fun _ _ => (Eas rfl rfl (Eu (Eq_ (Ew Z2 (Emv rfl rfl (Ey rfl ((Y.lss rfl rfl).yd) (Ent.d (fun q16 => ?_) (fun q16 => ?_)))))))))))))))))
    · have z16 := szR_bad q16 om
      refine Eu (E.ct rfl (Ew Z1 (Eas rfl rfl ?_)))
      exact Eu (E.ret (E.thr (Fg rfl rfl () (congrArg (Value.int .i64) (by unfold szR; split <;> omega)) rfl)))
    · obtain ⟨z16, y16⟩ := szR_ok q16 om
      refine Eu (E.cf rfl (E.skipc (Et (Ew Z2 (Emv rfl rfl (Eas rfl rfl ?_))))))
      exact Eu (E.ret (Fg rfl rfl () (congrArg (Value.int .i64) (by have e : szR (a_Head.length + totL (fun x => x.2.length) a_Atoms) left = left - ((a_Head.length + totL (fun x => x.2.length) a_Atoms : Nat) : Int) := by { unfold szR; split <;> omega }; omega)) rfl))
theorem t_laws_toQuery {a_a_Head : Option Addr} {m_a_Head c_a_Head : Nat} {a_Head : List Int} {a_a_Atoms : Option Addr} {m_a_Atoms c_a_Atoms : Nat} {a_Atoms : List (Int × List Int)} (h0 : a_Head.length ≤ 1048576) (h1 : totL (fun x => x.2.length) a_Atoms ≤ 1048576) : Tr Tryz.prog 36 [.agg #[.slice a_a_Head m_a_Head c_a_Head, .slice a_a_Atoms m_a_Atoms c_a_Atoms]] (fun w L => Ro w L eIs [.slice a_a_Head m_a_Head c_a_Head] a_Head ∧ Ro w L eAtoms [.slice a_a_Atoms m_a_Atoms c_a_Atoms] a_Atoms) [] (κ := (Option Addr × Nat × Nat) × (Option Addr × Nat × Nat)) (fun k => True) (fun k => .agg #[.slice k.1.1 k.1.2.1 k.1.2.2, .slice k.2.1 k.2.2.1 k.2.2.2]) (fun k => [ow eIs [.slice k.1.1 k.1.2.1 k.1.2.2] a_Head, ow eAtoms [.slice k.2.1 k.2.2.1 k.2.2.2] a_Atoms]) := by
  refine Tr.intro Tryz.func36 rfl (n := 13) rfl (by decide +kernel) bl (fr := [(0, .agg #[.slice a_a_Head m_a_Head c_a_Head, .slice a_a_Atoms m_a_Atoms c_a_Atoms])]) rfl fun w L hR => ?_
  obtain ⟨ha_Head, ha_Atoms⟩ := hR
  obtain ⟨rfl, la_Head⟩ := ha_Head.slen
  obtain ⟨rfl, la_Atoms⟩ := ha_Atoms.slen
  refine Ew Z2 (Est rfl (N.box (cs := [_, _]) rfl dc rfl) (fun b1 _ => (Est rfl (N.alloc ty_Query dc) (fun b2 _ => (Ev Z1 (Est rfl (N.alloc ty_Query dc) (fun b3 _ => (Ev Z5 (Ey rfl ((Y.fld fo_lQuery_0 ty_Is dc rfl).yd) (Ey rfl (Y.ld1 ty_Is rfl ((Has.pt (mS (mS m0))).sub (cs' := [_]) 0 rfl) rfl) (Est rfl (N.call (t_laws_toIntS fc) rfl rfl rfl dc rfl (fun w Lp hA => hA.ro ha_Head)) (fun k6 _ => ?_))))))))))))
  obtain ⟨a6, m6, c6⟩ := k6
  refine Ent.lenow m0 fun e6 l6 => ?_
  subst e6
  refine Ey rfl ((Y.fld fo_Query_0 ty_Is dc rfl).yd) (Ent.p1 (Est rfl (N.sto (vs := [_]) (cs' := [_, _]) ty_Is rfl rfl rfl rfl rfl bl rfl) (fun _ _ => (Ev Z5 (Ey rfl ((Y.fld fo_lQuery_1 ty_lAtoms dc rfl).yd) (Ey rfl (Y.ld1 ty_lAtoms rfl ((Has.pt (mS (mS (mS m0)))).sub (cs' := [_]) 1 rfl) rfl) (Est rfl (N.call (t_laws_toAtomS fc) rfl rfl rfl dc rfl (fun w Lp hA => hA.ro ha_Atoms)) (fun k10 _ => ?_))))))))
  obtain ⟨a10, m10, c10⟩ := k10
  refine Ent.lenow m0 fun e10 l10 => ?_
  subst e10
  refine Ey rfl ((Y.fld fo_Query_1 ty_Atoms dc rfl).yd) (Ent.p1 (Est rfl (N.sto (vs := [_]) (cs' := [_, _]) ty_Atoms rfl rfl rfl rfl rfl bl rfl) (fun _ _ => (Ev Z2 (Ey rfl (Y.ldS (cs := [_, _]) ty_Query rfl (Has.pt m0) rfl) (Ent.p3 (Est rfl (N.sto (vs := [_, _]) (cs' := [_, _]) ty_Query rfl rfl rfl rfl rfl bl rfl) (fun _ _ => (Eu (E.ret (Ent.p2 (Ent.p3 (Ent.p1 (Ent.p1 ?_))))))))))))))
  exact F.c1 br rfl rfl (mS (mS m0)) ty_Query rfl ((_, _, _), (_, _, _)) trivial rfl (J := _) (.refl _) (.inl rfl)
theorem t_laws_eqQuery {a_a_Head : Option Addr} {m_a_Head c_a_Head : Nat} {a_Head : List Int} {a_a_Atoms : Option Addr} {m_a_Atoms c_a_Atoms : Nat} {a_Atoms : List (Int × List Int)} {a_b_Head : Option Addr} {m_b_Head c_b_Head : Nat} {b_Head : List Int} {a_b_Atoms : Option Addr} {m_b_Atoms c_b_Atoms : Nat} {b_Atoms : List (Int × List Int)} : Tr Tryz.prog 38 [.agg #[.slice a_a_Head m_a_Head c_a_Head, .slice a_a_Atoms m_a_Atoms c_a_Atoms], .agg #[.slice a_b_Head m_b_Head c_b_Head, .slice a_b_Atoms m_b_Atoms c_b_Atoms]] (fun w L => Ro w L eIs [.slice a_a_Head m_a_Head c_a_Head] a_Head ∧ Ro w L eAtoms [.slice a_a_Atoms m_a_Atoms c_a_Atoms] a_Atoms ∧ Ro w L eIs [.slice a_b_Head m_b_Head c_b_Head] b_Head ∧ Ro w L eAtoms [.slice a_b_Atoms m_b_Atoms c_b_Atoms] b_Atoms) [] (κ := Unit) (fun k => True) (fun k => .bool (decide ((a_Head, a_Atoms) = (b_Head, b_Atoms)))) (fun k => []) := by
  refine Tr.intro Tryz.func38 rfl (n := 17) rfl (by decide +kernel) bl (fr := [(0, .agg #[.slice a_a_Head m_a_Head c_a_Head, .slice a_a_Atoms m_a_Atoms c_a_Atoms]), (1, .agg #[.slice a_b_Head m_b_Head c_b_Head, .slice a_b_Atoms m_b_Atoms c_b_Atoms])]) rfl fun w L hR => ?_
  obtain ⟨ha_Head, ha_Atoms, hb_Head, hb_Atoms⟩ := hR
  obtain ⟨rfl, la_Head⟩ := ha_Head.slen
  obtain ⟨rfl, la_Atoms⟩ := ha_Atoms.slen
  obtain ⟨rfl, lb_Head⟩ := hb_Head.slen
  obtain ⟨rfl, lb_Atoms⟩ := hb_Atoms.slen
  refine Ew Z3 (Est rfl (N.box (cs := [_, _]) rfl dc rfl) (fun b2 _ => (Est rfl (N.box (cs := [_, _]) rfl dc rfl) (fun b3 _ => (Eas rfl rfl (Eu (Eq_ (Ew Z6 (Ey rfl ((Y.fld fo_Query_0 ty_Is dc rfl).yd) (Ey rfl (Y.ld1 ty_Is rfl ((Has.pt (mS m0)).sub (cs' := [_]) 0 rfl) rfl) (Ey rfl ((Y.fld fo_Query_0 ty_Is dc rfl).yd) (Ey rfl (Y.ld1 ty_Is rfl ((Has.pt m0).sub (cs' := [_]) 0 rfl) rfl) (Est rfl (N.call0 t_laws_eqIntS rfl rfl rfl dc (fun w Lp hA => ⟨hA.ro ha_Head, hA.ro hb_Head⟩)) (fun _ _ => (Ent.b (fun q9 => ?_) (fun q9 => ?_))))))))))))))))
  · refine Ey rfl ((Y.not (b := true) rfl).yd) (Eu (E.cf rfl (E.skipc (Et (Eq_ (Ew Z6 (Ey rfl ((Y.fld fo_Query_1 ty_Atoms dc rfl).yd) (Ey rfl (Y.ld1 ty_Atoms rfl ((Has.pt (mS m0)).sub (cs' := [_]) 1 rfl) rfl) (Ey rfl ((Y.fld fo_Query_1 ty_Atoms dc rfl).yd) (Ey rfl (Y.ld1 ty_Atoms rfl ((Has.pt m0).sub (cs' := [_]) 1 rfl) rfl) (Est rfl (N.call0 t_laws_eqAtomS rfl rfl rfl dc (fun w Lp hA => ⟨hA.ro ha_Atoms, hA.ro hb_Atoms⟩)) (fun _ _ => (Ent.b (fun q15 => ?_) (fun q15 => ?_))))))))))))))
    · refine Ey rfl ((Y.not (b := true) rfl).yd) (Eu (E.cf rfl (E.skipc (Et (Ew Z1 (Eas rfl rfl ?_))))))
      exact Eu (E.ret (Fb rfl rfl (by simp_all)))
    · refine Ey rfl ((Y.not (b := false) rfl).yd) (Eu (E.ct rfl (Ew Z1 (Eas rfl rfl ?_))))
      exact Eu (E.ret (E.thr (Fb rfl rfl (by simp_all))))
  · refine Ey rfl ((Y.not (b := false) rfl).yd) (Eu (E.ct rfl (Ew Z1 (Eas rfl rfl ?_))))
    exact Eu (E.ret (E.thr (Fb rfl rfl (by simp_all))))
theorem t_Index_I {a_s : Option Addr} {m_s c_s : Nat} {s : List Int} {v : Int} : Tr Tryz.prog 299 [.slice a_s m_s c_s, .int .i64 v] (fun w L => Ro w L eIs [.slice a_s m_s c_s] s) [] (κ := Unit) (fun k => True) (fun k => .int .i64 (idxP (fun x => decide (x = v)) s)) (fun k => []) := by
  refine Tr.intro Tryz.func299 rfl (n := 19) rfl (by decide +kernel) bl (fr := [(0, .slice a_s m_s c_s), (1, .int .i64 v)]) rfl fun w L hR => ?_
  have hs := hR
  obtain ⟨rfl, ls⟩ := hs.slen
  refine Ew Z1 (Eas rfl rfl (Eu (Eq_ (Ew Z3 (Emv rfl rfl (Ey rfl ((Y.len us_Is rfl).yd) (Emv rfl rfl (Eu (E.block (E.loop (κ := Nat) (fun g => g ≤ s.length ∧ ∀ x ∈ s.take g, decide (x = v) = false) (fun g => [(0, .slice a_s s.length c_s), (1, .int .i64 v), (7, .int .i64 (↑s.length : Int)), (8, .int .i64 (g : Int))]) (fun g => []) (fun g => s.length - g) 0 ⟨by omega, by simp⟩ ⟨rfl, rfl, rfl, rfl, trivial⟩ (.refl _) (fun g pg => ?_)))))))))))
  obtain ⟨pk, pa⟩ := pg
  refine Ew Z1 (Ey rfl ((Y.lss rfl rfl).yd) (Ent.d (fun q9 => ?_) (fun q9 => ?_)))
  · refine Eu (Eq_ (E.ct rfl (E.skipc (Et (Eq_ (E.block (Ew Z2 (Emv rfl rfl (Eas rfl rfl (Ev Z6 (Emv rfl rfl (Emv rfl rfl (Emv rfl rfl ?_)))))))))))))
    obtain ⟨eb14, eo14, ea14, ei14, eh14⟩ := hs.elemI g om
    refine Ey rfl ((Y.ix us_Is ty_I rfl ea14 rfl g rfl om).yd) (Ey rfl (Y.ld1 ty_I rfl (eh14 _) rfl) (Ey rfl ((Y.eql rfl rfl).yd) (Ent.d (fun q16 => ?_) (fun q16 => ?_))))
    · refine Eu (E.ct rfl (Ew Z2 (Emv rfl rfl (Eas rfl rfl ?_))))
      exact Eu (E.ret (E.blr (E.thr (E.thr (E.blr (E.thr (Fg rfl rfl () (congrArg (Value.int .i64) (by exact idxP_hit (p := fun x => decide (x = v)) om pa (decide_eq_true om))) rfl)))))))
    · refine Eu (E.cf rfl (E.skipc (E.bln (Et (Ez Z2 (Ey rfl ((Y.add rfl rfl om om).yd) (Emv rfl rfl ?_)))))))
      exact Eu (E.again br (g + 1) ⟨rfl, rfl, rfl, rfl, trivial⟩ (.refl _) ⟨by omega, take_step (p := fun x => decide (x = v)) om pa (decide_eq_false om)⟩ om)
  · refine Eu (Eq_ (E.cf rfl (E.exit (E.the (E.the (E.blh (Et (Ew Z1 (Eas rfl rfl ?_)))))))))
    exact Eu (E.ret (Fg rfl rfl () (congrArg (Value.int .i64) (by exact idxP_miss om pa)) rfl))
theorem t_spec_IsVar {t : Int} : Tr Tryz.prog 214 [.int .i64 t] (fun w L => True) [] (κ := Unit) (fun k => True) (fun k => .bool (inR t 10 17)) (fun k => []) := by
  refine Tr.intro Tryz.func214 rfl (n := 5) rfl (by decide +kernel) bl (fr := [(0, .int .i64 t)]) rfl fun w L hR => (Ew Z1 (Eas rfl rfl (Ev Z3 (Emv rfl rfl (Est rfl (N.call0 t_spec_l1In rfl rfl rfl dc (fun w Lp hA => trivial)) (fun _ _ => (Eas rfl rfl ?_)))))))
  exact Eu (E.ret (Fg rfl rfl () rfl rfl))
theorem t_impl_IsVar {t : Int} : Tr Tryz.prog 222 [.int .i64 t] (fun w L => True) [] (κ := Unit) (fun k => True) (fun k => .bool (inR t 10 17)) (fun k => []) := by
  refine Tr.intro Tryz.func222 rfl (n := 5) rfl (by decide +kernel) bl (fr := [(0, .int .i64 t)]) rfl fun w L hR => (Ew Z1 (Eas rfl rfl (Ev Z3 (Emv rfl rfl (Est rfl (N.call0 t_impl_within rfl rfl rfl dc (fun w Lp hA => trivial)) (fun _ _ => (Eas rfl rfl ?_)))))))
  exact Eu (E.ret (Fg rfl rfl () rfl rfl))
theorem t_impl_Binding_entry {a_b_Vars : Option Addr} {m_b_Vars c_b_Vars : Nat} {b_Vars : List Int} {a_b_Values : Option Addr} {m_b_Values c_b_Values : Nat} {b_Values : List Int} {t : Int} : Tr Tryz.prog 327 [.agg #[.slice a_b_Vars m_b_Vars c_b_Vars, .slice a_b_Values m_b_Values c_b_Values], .int .i64 t] (fun w L => Ro w L eIs [.slice a_b_Vars m_b_Vars c_b_Vars] b_Vars ∧ Ro w L eIs [.slice a_b_Values m_b_Values c_b_Values] b_Values) [] (κ := Unit) (fun k => True) (fun k => .int .i64 (idxP (fun x => decide (x = t)) (b_Vars.take (min b_Vars.length b_Values.length)))) (fun k => []) := by
  refine Tr.intro Tryz.func327 rfl (n := 17) rfl (by decide +kernel) bl (fr := [(0, .agg #[.slice a_b_Vars m_b_Vars c_b_Vars, .slice a_b_Values m_b_Values c_b_Values]), (1, .int .i64 t)]) rfl fun w L hR => ?_
  obtain ⟨hb_Vars, hb_Values⟩ := hR
  obtain ⟨rfl, lb_Vars⟩ := hb_Vars.slen
  obtain ⟨rfl, lb_Values⟩ := hb_Values.slen
  refine Ew Z2 (Est rfl (N.box (cs := [_, _]) rfl dc rfl) (fun b2 _ => (Eas rfl rfl (Ev Z13 (Ey rfl ((Y.fld fo_Binding_0 ty_Is dc rfl).yd) (Ey rfl (Y.ld1 ty_Is rfl ((Has.pt m0).sub (cs' := [_]) 0 rfl) rfl) (Ey rfl ((Y.fld fo_Binding_0 ty_Is dc rfl).yd) (Ey rfl (Y.ld1 ty_Is rfl ((Has.pt m0).sub (cs' := [_]) 0 rfl) rfl) (Ey rfl ((Y.len us_Is rfl).yd) (Ey rfl ((Y.fld fo_Binding_1 ty_Is dc rfl).yd) (Ey rfl (Y.ld1 ty_Is rfl ((Has.pt m0).sub (cs' := [_]) 1 rfl) rfl) (Ey rfl ((Y.len us_Is rfl).yd) (Ey rfl ((Y.mnN (a := b_Vars.length) (b := b_Values.length) rfl rfl).yd) ?_)))))))))))))
  have rs14 := hb_Vars.upto (min b_Vars.length b_Values.length) om
  have rl14 := rs14.slen.1
  have rc14 := hb_Vars.cap
  refine Ey rfl ((Y.slTo (h := min b_Vars.length b_Values.length) us_Is ty_I rfl rfl om).yd) (Emv rfl rfl (Est rfl (N.call0 t_Index_I rfl rfl rfl dc (fun w Lp hA => hA.ro rs14)) (fun _ _ => (Eas rfl rfl ?_))))
  exact Eu (E.ret (Fg rfl rfl () rfl rfl))
theorem t_impl_ValueOf {a_b_Vars : Option Addr} {m_b_Vars c_b_Vars : Nat} {b_Vars : List Int} {a_b_Values : Option Addr} {m_b_Values c_b_Values : Nat} {b_Values : List Int} {term : Int} : Tr Tryz.prog 278 [.agg #[.slice a_b_Vars m_b_Vars c_b_Vars, .slice a_b_Values m_b_Values c_b_Values], .int .i64 term] (fun w L => Ro w L eIs [.slice a_b_Vars m_b_Vars c_b_Vars] b_Vars ∧ Ro w L eIs [.slice a_b_Values m_b_Values c_b_Values] b_Values) [] (κ := Unit) (fun k => True) (fun k => .int .i64 (valO (b_Vars, b_Values) term)) (fun k => []) := by
  refine Tr.intro Tryz.func278 rfl (n := 20) rfl (by decide +kernel) bl (fr := [(0, .agg #[.slice a_b_Vars m_b_Vars c_b_Vars, .slice a_b_Values m_b_Values c_b_Values]), (1, .int .i64 term)]) rfl fun w L hR => ?_
  obtain ⟨hb_Vars, hb_Values⟩ := hR
  obtain ⟨rfl, lb_Vars⟩ := hb_Vars.slen
  obtain ⟨rfl, lb_Values⟩ := hb_Values.slen
  refine Ew Z2 (Est rfl (N.box (cs := [_, _]) rfl dc rfl) (fun b2 _ => (Eas rfl rfl (Eu (Eq_ (Ew Z3 (Emv rfl rfl (Est rfl (N.call0 t_impl_IsVar rfl rfl rfl dc (fun w Lp hA => trivial)) (fun _ _ => (Ent.b (fun q7 => ?_) (fun q7 => ?_)))))))))))
  · refine Ey rfl ((Y.not (b := true) rfl).yd) (Eu (E.cf rfl (E.skipc (Et (Ew Z4 (Ey rfl (Y.ldS (cs := [_, _]) ty_Binding rfl (Has.pt m0) rfl) (Emv rfl rfl (Est rfl (N.call0 t_impl_Binding_entry rfl rfl rfl dc (fun w Lp hA => ⟨hA.ro hb_Vars, hA.ro hb_Values⟩)) (fun _ _ => (Eas rfl rfl (Eu (Eq_ (Ew Z2 (Emv rfl rfl (Ey rfl ((Y.lss rfl rfl).yd) (Ent.d (fun q14 => ?_) (fun q14 => ?_)))))))))))))))))
    · refine Eu (E.ct rfl (Ew Z1 (Eas rfl rfl ?_)))
      exact Eu (E.ret (E.thr (Fg rfl rfl () (congrArg (Value.int .i64) (by exact valO_neg q7 q14)) rfl)))
    · obtain ⟨z1, z2⟩ := idx_lt q14
      rw [List.length_take] at z2
      refine Eu (E.cf rfl (E.skipc (Et (Ew Z6 (Ey rfl ((Y.fld fo_Binding_1 ty_Is dc rfl).yd) (Ey rfl (Y.ld1 ty_Is rfl ((Has.pt m0).sub (cs' := [_]) 1 rfl) rfl) (Emv rfl rfl ?_)))))))
      obtain ⟨eb18, eo18, ea18, ei18, eh18⟩ := hb_Values.elemI ((idxP (fun x => decide (x = term)) (b_Vars.take (min b_Vars.length b_Values.length))).toNat) om
      refine Ey rfl ((Y.ix us_Is ty_I rfl ea18 rfl ((idxP (fun x => decide (x = term)) (b_Vars.take (min b_Vars.length b_Values.length))).toNat) om om).yd) (Ey rfl (Y.ld1 ty_I rfl (eh18 _) rfl) (Eas rfl rfl ?_))
      exact Eu (E.ret (Fg rfl rfl () (congrArg (Value.int .i64) (by exact valO_pos (b := (b_Vars, b_Values)) q7 q14 (show (idxP (fun x => decide (x = term)) (b_Vars.take (min b_Vars.length b_Values.length))).toNat < b_Values.length by omega))) rfl))
  · refine Ey rfl ((Y.not (b := false) rfl).yd) (Eu (E.ct rfl (Ew Z2 (Emv rfl rfl (Eas rfl rfl ?_)))))
    exact Eu (E.ret (E.thr (Fg rfl rfl () (congrArg (Value.int .i64) (by exact valO_no q7)) rfl)))
theorem t_spec_ValueOf {a_b_Vars : Option Addr} {m_b_Vars c_b_Vars : Nat} {b_Vars : List Int} {a_b_Values : Option Addr} {m_b_Values c_b_Values : Nat} {b_Values : List Int} {term : Int} : Tr Tryz.prog 243 [.agg #[.slice a_b_Vars m_b_Vars c_b_Vars, .slice a_b_Values m_b_Values c_b_Values], .int .i64 term] (fun w L => Ro w L eIs [.slice a_b_Vars m_b_Vars c_b_Vars] b_Vars ∧ Ro w L eIs [.slice a_b_Values m_b_Values c_b_Values] b_Values) [] (κ := Unit) (fun k => True) (fun k => .int .i64 (valO (b_Vars, b_Values) term)) (fun k => []) := by
  refine Tr.intro Tryz.func243 rfl (n := 36) rfl (by decide +kernel) bl (fr := [(0, .agg #[.slice a_b_Vars m_b_Vars c_b_Vars, .slice a_b_Values m_b_Values c_b_Values]), (1, .int .i64 term)]) rfl fun w L hR => ?_
  obtain ⟨hb_Vars, hb_Values⟩ := hR
  obtain ⟨rfl, lb_Vars⟩ := hb_Vars.slen
  obtain ⟨rfl, lb_Values⟩ := hb_Values.slen
  refine Ew Z2 (Est rfl (N.box (cs := [_, _]) rfl dc rfl) (fun b2 _ => (Eas rfl rfl (Eu (Eq_ (Ew Z3 (Emv rfl rfl (Est rfl (N.call0 t_spec_IsVar rfl rfl rfl dc (fun w Lp hA => trivial)) (fun _ _ => (Ent.b (fun q7 => ?_) (fun q7 => ?_)))))))))))
  · refine Ey rfl ((Y.not (b := true) rfl).yd) (Eu (E.cf rfl (E.skipc (Et (Eq_ (Ew Z1 (Eas rfl rfl (Eu (E.block (E.loop (κ := Nat) (fun g => (g ≤ b_Vars.length ∧ g ≤ b_Values.length) ∧ ∀ x ∈ b_Vars.take g, decide (x = term) = false) (fun g => [(1, .int .i64 term), (2, .pointer (some ⟨b2, 0, none⟩)), (5, .int .i64 (g : Int))]) (fun g => [pt b2 165 [.slice a_b_Vars b_Vars.length c_b_Vars, .slice a_b_Values b_Values.length c_b_Values]]) (fun g => b_Vars.length - g) 0 ⟨by omega, by simp⟩ ⟨rfl, rfl, rfl, trivial⟩ (.refl _) (fun g pg => ?_)))))))))))
    obtain ⟨pk, pa⟩ := pg
    refine Eq_ (Ew Z12 (Emv rfl rfl (Ey rfl ((Y.fld fo_Binding_0 ty_Is dc rfl).yd) (Ey rfl (Y.ld1 ty_Is rfl ((Has.pt m0).sub (cs' := [_]) 0 rfl) rfl) (Ey rfl ((Y.len us_Is rfl).yd) (Ey rfl ((Y.lss rfl rfl).yd) (Ent.d (fun q14 => ?_) (fun q14 => ?_))))))))
    · refine Emv rfl rfl (Emv rfl rfl (Ey rfl ((Y.fld fo_Binding_1 ty_Is dc rfl).yd) (Ey rfl (Y.ld1 ty_Is rfl ((Has.pt m0).sub (cs' := [_]) 1 rfl) rfl) (Ey rfl ((Y.len us_Is rfl).yd) (Ey rfl ((Y.lss rfl rfl).yd) (Ent.d (fun q20 => ?_) (fun q20 => ?_)))))))
      · refine Ey rfl ((Y.pkt rfl rfl).yd) (Eu (E.ct rfl (E.skipc (Et (Eq_ (E.block (Ew Z7 (Ey rfl ((Y.fld fo_Binding_0 ty_Is dc rfl).yd) (Ey rfl (Y.ld1 ty_Is rfl ((Has.pt m0).sub (cs' := [_]) 0 rfl) rfl) (Emv rfl rfl ?_))))))))))
        obtain ⟨eb27, eo27, ea27, ei27, eh27⟩ := hb_Vars.elemI g om
        refine Ey rfl ((Y.ix us_Is ty_I rfl ea27 rfl g rfl om).yd) (Ey rfl (Y.ld1 ty_I rfl (eh27 _) rfl) (Emv rfl rfl (Ey rfl ((Y.eql rfl rfl).yd) (Ent.d (fun q30 => ?_) (fun q30 => ?_)))))
        · refine Eu (E.ct rfl (Ew Z6 (Ey rfl ((Y.fld fo_Binding_1 ty_Is dc rfl).yd) (Ey rfl (Y.ld1 ty_Is rfl ((Has.pt m0).sub (cs' := [_]) 1 rfl) rfl) (Emv rfl rfl ?_)))))
          obtain ⟨eb34, eo34, ea34, ei34, eh34⟩ := hb_Values.elemI g om
          refine Ey rfl ((Y.ix us_Is ty_I rfl ea34 rfl g rfl om).yd) (Ey rfl (Y.ld1 ty_I rfl (eh34 _) rfl) (Eas rfl rfl ?_))
          exact Eu (E.ret (E.blr (E.thr (E.thr (E.blr (E.thr (Fg rfl rfl () (congrArg (Value.int .i64) (by exact valO_hit (b := (b_Vars, b_Values)) q7 (show g < b_Vars.length by omega) (show g < b_Values.length by omega) om pa)) rfl)))))))
        · refine Eu (E.cf rfl (E.skipc (E.bln (Et (Ez Z3 (Emv rfl rfl (Ey rfl ((Y.add rfl rfl om om).yd) (Eas rfl rfl ?_))))))))
          exact Eu (E.again br (g + 1) ⟨rfl, rfl, rfl, trivial⟩ (.refl _) ⟨by omega, take_step (p := fun x => decide (x = term)) (show g < b_Vars.length by omega) pa (decide_eq_false q30)⟩ om)
      · refine Ey rfl ((Y.pkt rfl rfl).yd) (Eu (E.cf rfl (E.exit (E.the (E.the (E.blh (Et (Ew Z1 (Eas rfl rfl ?_)))))))))
        exact Eu (E.ret (Fg rfl rfl () (congrArg (Value.int .i64) (by exact valO_miss (b := (b_Vars, b_Values)) q7 (g := g) (show ¬ (g < b_Vars.length ∧ g < b_Values.length) by omega) pa)) rfl))
    · refine Emv rfl rfl (Es rfl (Es rfl (Es rfl (Es rfl (Es rfl (Ey rfl ((Y.pkf rfl rfl).yd) (Eu (E.cf rfl (E.exit (E.the (E.the (E.blh (Et (Ew Z1 (Eas rfl rfl ?_)))))))))))))))
      exact Eu (E.ret (Fg rfl rfl () (congrArg (Value.int .i64) (by exact valO_miss (b := (b_Vars, b_Values)) q7 (g := g) (show ¬ (g < b_Vars.length ∧ g < b_Values.length) by omega) pa)) rfl))
  · refine Ey rfl ((Y.not (b := false) rfl).yd) (Eu (E.ct rfl (Ew Z2 (Emv rfl rfl (Eas rfl rfl ?_)))))
    exact Eu (E.ret (E.thr (Fg rfl rfl () (congrArg (Value.int .i64) (by exact valO_no q7)) rfl)))
theorem t_impl_TupleOf {a_q_Head : Option Addr} {m_q_Head c_q_Head : Nat} {q_Head : List Int} {a_q_Atoms : Option Addr} {m_q_Atoms c_q_Atoms : Nat} {q_Atoms : List (Int × List Int)} {a_b_Vars : Option Addr} {m_b_Vars c_b_Vars : Nat} {b_Vars : List Int} {a_b_Values : Option Addr} {m_b_Values c_b_Values : Nat} {b_Values : List Int} (hz : q_Head.length ≤ 1048576) : Tr Tryz.prog 241 [.agg #[.slice a_q_Head m_q_Head c_q_Head, .slice a_q_Atoms m_q_Atoms c_q_Atoms], .agg #[.slice a_b_Vars m_b_Vars c_b_Vars, .slice a_b_Values m_b_Values c_b_Values]] (fun w L => Ro w L eIs [.slice a_q_Head m_q_Head c_q_Head] q_Head ∧ Ro w L eAtoms [.slice a_q_Atoms m_q_Atoms c_q_Atoms] q_Atoms ∧ Ro w L eIs [.slice a_b_Vars m_b_Vars c_b_Vars] b_Vars ∧ Ro w L eIs [.slice a_b_Values m_b_Values c_b_Values] b_Values) [] (κ := Option Addr × Nat × Nat) (fun k => True) (fun k => .slice k.1 k.2.1 k.2.2) (fun k => [ow eIs [.slice k.1 k.2.1 k.2.2] (q_Head.map (valO (b_Vars, b_Values)))]) := by
  refine Tr.intro Tryz.func241 rfl (n := 24) rfl (by decide +kernel) bl (fr := [(0, .agg #[.slice a_q_Head m_q_Head c_q_Head, .slice a_q_Atoms m_q_Atoms c_q_Atoms]), (1, .agg #[.slice a_b_Vars m_b_Vars c_b_Vars, .slice a_b_Values m_b_Values c_b_Values])]) rfl fun w L hR => ?_
  obtain ⟨hq_Head, hq_Atoms, hb_Vars, hb_Values⟩ := hR
  obtain ⟨rfl, lq_Head⟩ := hq_Head.slen
  obtain ⟨rfl, lq_Atoms⟩ := hq_Atoms.slen
  obtain ⟨rfl, lb_Vars⟩ := hb_Vars.slen
  obtain ⟨rfl, lb_Values⟩ := hb_Values.slen
  have jv := valO_i64s (b := (b_Vars, b_Values)) (l := q_Head) hq_Head.i64 hb_Vars.i64 hb_Values.i64
  refine Ew Z3 (Est rfl (N.box (cs := [_, _]) rfl dc rfl) (fun b2 _ => (Est rfl (N.box (cs := [_, _]) rfl dc rfl) (fun b3 _ => (Eas rfl rfl (Ev Z2 (Est rfl (N.bsl (pvs := []) (cs := []) us_Is ty_I rfl dc dc (fillZ rfl rfl) rfl dc) (fun b8 _ => (Ent.drop (Eas rfl rfl (Eu (Eq_ (Ew Z4 (Ey rfl ((Y.fld fo_Query_0 ty_Is dc rfl).yd) (Ey rfl (Y.ld1 ty_Is rfl ((Has.pt (mS m0)).sub (cs' := [_]) 0 rfl) rfl) (Ey rfl ((Y.len us_Is rfl).yd) (Emv rfl rfl (Eu (E.block (Ent.mkow (A := []) (Own.nil (E := Enc.int) (e := tI) (a := (some ⟨b8, 0, none⟩))) rfl (Ent.cv (congrArg (ow eIs [_]) (show [] = (q_Head.take 0).map (valO (b_Vars, b_Values)) from by first | rfl | (simp; done) | grind [d1, d2, t1, t2])) (E.loop (κ := Nat × Option Addr × Nat × Nat) (fun g => g.1 ≤ q_Head.length ∧ True) (fun g => [(3, .pointer (some ⟨b3, 0, none⟩)), (5, .slice g.2.1 g.2.2.1 g.2.2.2), (10, .slice a_q_Head q_Head.length c_q_Head), (11, .int .i64 (↑q_Head.length : Int)), (12, .int .i64 (↑g.1 : Int))]) (fun g => [ow eIs [.slice g.2.1 g.2.2.1 g.2.2.2] ((q_Head.take g.1).map (valO (b_Vars, b_Values))), pt b3 165 [.slice a_b_Vars b_Vars.length c_b_Vars, .slice a_b_Values b_Values.length c_b_Values], pt b2 55 [.slice a_q_Head q_Head.length c_q_Head, .slice a_q_Atoms q_Atoms.length c_q_Atoms]]) (fun g => q_Head.length - g.1) (0, (some ⟨b8, 0, none⟩), 0, 0) ⟨Nat.zero_le _, by simp⟩ ⟨rfl, rfl, rfl, rfl, rfl, trivial⟩ (.refl _) (fun g pg => ?_)))))))))))))))))))))))
  obtain ⟨g, aA0_0, mA0_0, cA0_0⟩ := g
  try dsimp only at pg
  try dsimp only
  obtain ⟨pk, pa⟩ := pg
  refine Ent.lenow m0 fun eaA0_0 laA0_0 => ?_
  subst eaA0_0
  refine Ew Z1 (Ey rfl ((Y.lss rfl rfl).yd) (Ent.d (fun q13 => ?_) (fun q13 => ?_)))
  · obtain ⟨eb14, eo14, ea14, ei14, eh14⟩ := hq_Head.elemI g om
    refine Eu (Eq_ (E.ct rfl (E.skipc (Et (Eq_ (E.block (Ew Z3 (Ey rfl ((Y.ix us_Is ty_I rfl ea14 rfl g rfl om).yd) (Ey rfl (Y.ld1 ty_I rfl (eh14 _) rfl) (Eas rfl rfl (Eu (Ez Z7 (Emv rfl rfl (Ey rfl (Y.ldS (cs := [_, _]) ty_Binding rfl (Has.pt (mS m0)) rfl) (Emv rfl rfl (Est rfl (N.call0 t_impl_ValueOf rfl rfl rfl dc (fun w Lp hA => ⟨hA.ro hb_Vars, hA.ro hb_Values⟩)) (fun _ _ => (Est rfl (N.bsl (pvs := [_]) (cs := [_]) us_Is ty_I rfl dc dc (fillZ rfl rfl) rfl dc) (fun b20 _ => (Ent.p1 (Est rfl (N.push (E := Enc.int) (ex := valO (b_Vars, b_Values) q_Head[g]) us_Is ty_I rfl rfl rfl (Own.int i6) rfl bn bn dc) (fun p21 _ => (Eas rfl rfl (En (E.bln (Et (Ez Z2 (Ey rfl ((Y.add rfl rfl om om).yd) (Emv rfl rfl (Eu (Ent.cv (congrArg (ow eIs [_]) (show ((q_Head.take g).map (valO (b_Vars, b_Values))) ++ [valO (b_Vars, b_Values) q_Head[g]] = (q_Head.take (g + 1)).map (valO (b_Vars, b_Values)) from by grind [d1, d2, t1, t2])) (Ent.p2 ?_))))))))))))))))))))))))))))))))
    refine Ent.p2 (Ent.p2 ?_)
    exact E.again br (g + 1, p21.1, (((q_Head.take g).map (valO (b_Vars, b_Values))).length + 1), p21.2) ⟨rfl, rfl, rfl, rfl, rfl, trivial⟩ (.refl _) ⟨(show g + 1 ≤ q_Head.length from by omega), trivial⟩ (show q_Head.length - (g + 1) < q_Head.length - g from by omega)
  · refine Eu (Eq_ (E.cf rfl (E.exit (E.the (E.the (E.blh (Et (Ew Z2 (Emv rfl rfl (Eas rfl rfl (Eu (E.ret (Ent.cv (congrArg (ow eIs [_]) (show _ = q_Head.map (valO (b_Vars, b_Values)) by grind [d1, d2, t1, t2])) ?_)))))))))))))
    exact Fg rfl rfl (_, _, _) rfl rfl
end Go.Proofs.YtonkkkjgdohooaaGreat
