import Derived.Test.YtonkkkjgdohooaaGreatBs
import Derived.Test.YtonkkkjgdohooaaGreatT73
import Derived.Test.YtonkkkjgdohooaaGreatT4
import Derived.Test.YtonkkkjgdohooaaGreatT5
import Derived.Test.YtonkkkjgdohooaaGreatT33
namespace Go.Proofs.YtonkkkjgdohooaaGreat
open Go.RowKit
set_option linter.unusedVariables false
set_option linter.unusedSimpArgs false
set_option maxHeartbeats 2000000
attribute [local irreducible] Nop Yd Yp Ent Has Tr FnP FnP2 Src listsF opnF opn1 opnR chainB
theorem t_laws_eqStep {a_Atom : Int} {a_Method : Int} {b_Atom : Int} {b_Method : Int} : Tr Tryz.prog 121 [.agg #[.int .i64 a_Atom, .int .i64 a_Method], .agg #[.int .i64 b_Atom, .int .i64 b_Method]] (fun w L => I64 a_Atom ∧ I64 a_Method ∧ I64 b_Atom ∧ I64 b_Method) [] (κ := Unit) (fun k => True) (fun k => .bool (decide ((a_Atom, a_Method) = (b_Atom, b_Method)))) (fun k => []) := by
  refine Tr.intro Tryz.func121 rfl (n := 15) rfl (by decide +kernel) bl (fr := [(0, .agg #[.int .i64 a_Atom, .int .i64 a_Method]), (1, .agg #[.int .i64 b_Atom, .int .i64 b_Method])]) rfl fun w L hR => ?_
  obtain ⟨i6a_Atom, i6a_Method, i6b_Atom, i6b_Method⟩ := hR
  refine Ew Z3 (Est rfl (N.box (cs := [_, _]) rfl dc rfl) (fun b2 _ => (Est rfl (N.box (cs := [_, _]) rfl dc rfl) (fun b3 _ => (Eas rfl rfl (Eu (Eq_ (Ew Z5 (Ey rfl ((Y.fld fo_Step_0 ty_I dc rfl).yd) (Ey rfl (Y.ld1 ty_I rfl ((Has.pt (mS m0)).sub (cs' := [_]) 0 rfl) rfl) (Ey rfl ((Y.fld fo_Step_0 ty_I dc rfl).yd) (Ey rfl (Y.ld1 ty_I rfl ((Has.pt m0).sub (cs' := [_]) 0 rfl) rfl) (Ey rfl ((Y.neq rfl rfl).yd) (Ent.d (fun q9 => ?_) (fun q9 => ?_)))))))))))))))
  · refine Eu (E.ct rfl (Ew Z1 (Eas rfl rfl ?_)))
    exact Eu (E.ret (E.thr (Fb rfl rfl (by simp_all))))
  · refine Eu (E.cf rfl (E.skipc (Et (Eq_ (Ew Z5 (Ey rfl ((Y.fld fo_Step_1 ty_I dc rfl).yd) (Ey rfl (Y.ld1 ty_I rfl ((Has.pt (mS m0)).sub (cs' := [_]) 1 rfl) rfl) (Ey rfl ((Y.fld fo_Step_1 ty_I dc rfl).yd) (Ey rfl (Y.ld1 ty_I rfl ((Has.pt m0).sub (cs' := [_]) 1 rfl) rfl) (Ey rfl ((Y.neq rfl rfl).yd) (Ent.d (fun q14 => ?_) (fun q14 => ?_))))))))))))
    · refine Eu (E.ct rfl (Ew Z1 (Eas rfl rfl ?_)))
      exact Eu (E.ret (E.thr (Fb rfl rfl (by simp_all))))
    · refine Eu (E.cf rfl (E.skipc (Et (Ew Z1 (Eas rfl rfl ?_)))))
      exact Eu (E.ret (Fb rfl rfl (by simp_all)))
theorem t_laws_eqStepS {a_a : Option Addr} {m_a c_a : Nat} {a : List (Int × Int)} {a_b : Option Addr} {m_b c_b : Nat} {b : List (Int × Int)} : Tr Tryz.prog 45 [.slice a_a m_a c_a, .slice a_b m_b c_b] (fun w L => Ro w L eSteps [.slice a_a m_a c_a] a ∧ Ro w L eSteps [.slice a_b m_b c_b] b) [] (κ := Unit) (fun k => True) (fun k => .bool (decide (a = b))) (fun k => []) := by
  refine Tr.intro Tryz.func45 rfl (n := 27) rfl (by decide +kernel) bl (fr := [(0, .slice a_a m_a c_a), (1, .slice a_b m_b c_b)]) rfl fun w L hR => ?_
  obtain ⟨ha, hb⟩ := hR
  obtain ⟨rfl, la⟩ := ha.slen
  obtain ⟨rfl, lb⟩ := hb.slen
  refine Ew Z1 (Eas rfl rfl (Eu (Eq_ (Ew Z5 (Emv rfl rfl (Ey rfl ((Y.len us_Steps rfl).yd) (Emv rfl rfl (Ey rfl ((Y.len us_Steps rfl).yd) (Ey rfl ((Y.neq rfl rfl).yd) (Ent.d (fun q10 => ?_) (fun q10 => ?_)))))))))))
  · refine Eu (E.ct rfl (Ew Z1 (Eas rfl rfl ?_)))
    exact Eu (E.ret (E.thr (Fb rfl rfl (by exact ne_of_len q10))))
  · refine Eu (E.cf rfl (E.skipc (Et (Eq_ (Ew Z1 (Eas rfl rfl (Eu (E.block (E.loop (κ := Nat) (fun g => g ≤ a.length ∧ a.take g = b.take g) (fun g => [(0, .slice a_a a.length c_a), (1, .slice a_b b.length c_b), (5, .int .i64 (g : Int))]) (fun g => []) (fun g => a.length - g) 0 ⟨by omega, by simp⟩ ⟨rfl, rfl, rfl, trivial⟩ (.refl _) (fun g pg => ?_))))))))))
    obtain ⟨pk, pa⟩ := pg
    refine Eq_ (Ew Z4 (Emv rfl rfl (Emv rfl rfl (Ey rfl ((Y.len us_Steps rfl).yd) (Ey rfl ((Y.lss rfl rfl).yd) (Ent.d (fun q14 => ?_) (fun q14 => ?_)))))))
    · refine Eu (E.ct rfl (E.skipc (Et (Eq_ (E.block (Eq_ (D.region (fun j => true) mixed (Dyp 0 rfl (Y.mv rfl) (Dyp 1 rfl (Y.mv rfl) ?_)))))))))
      obtain ⟨eb19, eo19, ec19, ea19, er19, el19, eh19⟩ := ha.elem g om
      obtain ⟨rfl, ei19_0, ei19_1⟩ := Ro.pStep er19
      refine Dyp 2 rfl (Y.ix us_Steps ty_Step rfl ea19 rfl g rfl om) (Dy 3 rfl (Y.ldS (cs := [_, _]) ty_Step rfl (eh19 _) rfl) (Dyp 4 rfl (Y.mv rfl) (Dyp 5 rfl (Y.mv rfl) ?_)))
      obtain ⟨eb23, eo23, ec23, ea23, er23, el23, eh23⟩ := hb.elem g om
      obtain ⟨rfl, ei23_0, ei23_1⟩ := Ro.pStep er23
      refine Dyp 6 rfl (Y.ix us_Steps ty_Step rfl ea23 rfl g rfl om) (Dy 7 rfl (Y.ldS (cs := [_, _]) ty_Step rfl (eh23 _) rfl) (D.st 8 rfl rfl kr (fun _ => rfl) (N.call0 t_laws_eqStep rfl rfl rfl dc (fun w Lp hA => ⟨ei19_0, ei19_1, ei23_0, ei23_1⟩)) (fun _ _ => (Ent.b (fun q25 => ?_) (fun q25 => ?_)))))
      · refine Dyp 9 rfl (Y.not (b := true) rfl) (D.done kr (Et (E.cf rfl (E.skipc (E.bln (Et (Ez Z3 (Emv rfl rfl (Ey rfl ((Y.add rfl rfl om om).yd) (Eas rfl rfl ?_))))))))))
        exact Eu (E.again br (g + 1) ⟨rfl, rfl, rfl, trivial⟩ (.refl _) ⟨by omega, take_eq_step om om pa (of_decide_eq_true q25)⟩ om)
      · refine Dyp 9 rfl (Y.not (b := false) rfl) (D.done kr (Et (E.ct rfl (Ew Z1 (Eas rfl rfl ?_)))))
        exact Eu (E.ret (E.blr (E.thr (E.thr (E.blr (E.thr (Fb rfl rfl (by exact ne_of_get (show g < a.length by omega) (show g < b.length by omega) (of_decide_eq_false q25)))))))))
    · refine Eu (E.cf rfl (E.exit (E.the (E.the (E.blh (Et (Ew Z1 (Eas rfl rfl ?_))))))))
      exact Eu (E.ret (Fb rfl rfl (by exact eq_of_take (show a.length ≤ g by omega) (show b.length ≤ g by omega) pa)))
theorem t_laws_markStepS {a_a : Option Addr} {m_a c_a : Nat} {a : List (Int × Int)} {v : Int} : Tr Tryz.prog 48 [.slice a_a m_a c_a, .int .i64 v] (fun w L => 0 ≤ v ∧ v + ((totS cE_Step a : Nat) : Int) ≤ 4611686018427387904) [ow eSteps [.slice a_a m_a c_a] a] (κ := Unit) (fun k => True) (fun k => .int .i64 (v + (totS cE_Step a : Nat))) (fun k => [ow eSteps [.slice a_a m_a c_a] (mkL cE_Step mE_Step a v)]) := by
  refine Tr.intro Tryz.func48 rfl (n := 27) rfl (by decide +kernel) bl (fr := [(0, .slice a_a m_a c_a), (1, .int .i64 v)]) rfl fun w L hR => ?_
  obtain ⟨as0, as1⟩ := hR
  refine Ent.lenow m0 fun ea la => ?_
  subst ea
  refine Ew Z1 (Eas rfl rfl (Eu (Eq_ (Ew Z1 (Eas rfl rfl (Eu (E.block (E.loop (κ := Nat) (fun g => g ≤ a.length) (fun g => [(0, .slice a_a a.length c_a), (1, .int .i64 (v + (totS cE_Step (a.take g) : Nat))), (5, .int .i64 (g : Int))]) (fun g => [ow eSteps [.slice a_a a.length c_a] (mkL cE_Step mE_Step (a.take g) v ++ a.drop g)]) (fun g => a.length - g) 0 (Nat.zero_le _) ⟨rfl, frI (by simp [totS]), rfl, trivial⟩ (.refl _) (fun g pg => ?_)))))))))
  have u1 := totS_le (t := cE_Step) (l := a) (g := g)
  have u2 := totS_le (t := cE_Step) (l := a) (g := g + 1)
  have hlen : (mkL cE_Step mE_Step (a.take g) v ++ a.drop g).length = a.length := by rw [List.length_append, mkL_len, ← List.length_append, List.take_append_drop]
  refine Eq_ (Ew Z4 (Emv rfl rfl (Emv rfl rfl (Ey rfl ((Y.len us_Steps rfl).yd) (Ey rfl ((Y.lss rfl rfl).yd) (Ent.d (fun q9 => ?_) (fun q9 => ?_)))))))
  · have u3 := totS_step (t := cE_Step) (show g < a.length by omega)
    have u4 : cE_Step a[g] = 1 + 1 := rfl
    refine Eu (E.ct rfl (E.skipc (Et (Eq_ (E.block (Ew Z6 (Emv rfl rfl (Emv rfl rfl (Emv rfl rfl (Ent.adr m0 om fun ab15 ae15 => (Ent.open (x := a[g]) g (mk_get (show g < a.length by omega)) fun ce15 => (Ent.p1 (Ent.oStep fun  oe15 oi15_0 oi15_1 => ?_)))))))))))))
    subst oe15
    refine Ey rfl ((Y.ix us_Steps ty_Step rfl ae15 rfl g rfl om).yd) (Ey rfl ((Y.fld fo_Step_0 ty_I dc rfl).yd) (Est rfl (N.sth (f := 0) (kk := 2) (vs := [_]) (ce' := [_, _]) ty_I rfl rfl rfl rfl rfl ae15 rfl rfl bl rfl rfl) (fun _ _ => (Ev Z3 (Emv rfl rfl (Ey rfl ((Y.add rfl rfl om om).yd) (Eas rfl rfl (Ev Z6 (Emv rfl rfl (Emv rfl rfl (Emv rfl rfl (Ey rfl ((Y.ix us_Steps ty_Step rfl ae15 rfl g rfl om).yd) (Ey rfl ((Y.fld fo_Step_1 ty_I dc rfl).yd) (Est rfl (N.sth (f := 1) (kk := 2) (vs := [_]) (ce' := [_, _]) ty_I rfl rfl rfl rfl rfl ae15 rfl rfl bl rfl rfl) (fun _ _ => (Eu (Ez Z3 (Emv rfl rfl (Ey rfl ((Y.add rfl rfl om om).yd) (Eas rfl rfl ?_))))))))))))))))))))
    refine En (E.bln (Et (Ez Z3 (Emv rfl rfl (Ey rfl ((Y.add rfl rfl om om).yd) (Eas rfl rfl (Eu (Ent.shut (Own.mkStep (x := (v + (totS cE_Step (a.take g) : Nat), (v + (totS cE_Step (a.take g) : Nat) + 1))) i6 i6) rfl ?_))))))))
    exact E.again br (g + 1) ⟨rfl, frI om, rfl, trivial⟩ (permOw (mk_set (c := cE_Step) (m := mE_Step) (show g < a.length by omega) rfl)) om om
  · refine Eu (E.cf rfl (E.exit (E.the (E.the (E.blh (Et (Ew Z2 (Emv rfl rfl (Eas rfl rfl (Eu (E.ret (Ent.cv (congrArg (ow eSteps [_]) (show mkL cE_Step mE_Step (a.take g) v ++ a.drop g = mkL cE_Step mE_Step a v from by first | exact mk_all om | (rw [totS_all om]))) ?_))))))))))))
    exact Fg rfl rfl () (by rw [show (v + (totS cE_Step a : Nat)) = (v + (totS cE_Step (a.take g) : Nat)) from (by first | exact mk_all om | (rw [totS_all om]))]; try rfl) rfl
theorem t_laws_heldStepS {a_a : Option Addr} {m_a c_a : Nat} {a : List (Int × Int)} {v : Int} (hz : mkL cE_Step mE_Step a v = a) : Tr Tryz.prog 49 [.slice a_a m_a c_a, .int .i64 v] (fun w L => Ro w L eSteps [.slice a_a m_a c_a] a ∧ 0 ≤ v ∧ v + ((totS cE_Step a : Nat) : Int) ≤ 4611686018427387904) [] (κ := Unit) (fun k => True) (fun k => .int .i64 (v + (totS cE_Step a : Nat))) (fun k => []) := by
  refine Tr.intro Tryz.func49 rfl (n := 31) rfl (by decide +kernel) bl (fr := [(0, .slice a_a m_a c_a), (1, .int .i64 v)]) rfl fun w L hR => ?_
  obtain ⟨ha, as0, as1⟩ := hR
  obtain ⟨rfl, la⟩ := ha.slen
  refine Ew Z1 (Eas rfl rfl (Eu (Eq_ (Ew Z1 (Eas rfl rfl (Eu (E.block (E.loop (κ := Nat) (fun g => g ≤ a.length) (fun g => [(0, .slice a_a a.length c_a), (1, .int .i64 (v + (totS cE_Step (a.take g) : Nat))), (5, .int .i64 (g : Int))]) (fun g => []) (fun g => a.length - g) 0 (Nat.zero_le _) ⟨rfl, frI (by simp [totS]), rfl, trivial⟩ (.refl _) (fun g pg => ?_)))))))))
  have u1 := totS_le (t := cE_Step) (l := a) (g := g)
  have u2 := totS_le (t := cE_Step) (l := a) (g := g + 1)
  refine Eq_ (Ew Z4 (Emv rfl rfl (Emv rfl rfl (Ey rfl ((Y.len us_Steps rfl).yd) (Ey rfl ((Y.lss rfl rfl).yd) (Ent.d (fun q9 => ?_) (fun q9 => ?_)))))))
  · have u3 := totS_step (t := cE_Step) (show g < a.length by omega)
    have u4 : cE_Step a[g] = 1 + 1 := rfl
    refine Eu (E.ct rfl (E.skipc (Et (Eq_ (E.block (Eq_ (Ew Z7 (Emv rfl rfl (Emv rfl rfl ?_)))))))))
    obtain ⟨eb14, eo14, ec14, ea14, er14, el14, eh14⟩ := ha.elem g om
    obtain ⟨rfl, ei14_0, ei14_1⟩ := Ro.pStep er14
    refine Ey rfl ((Y.ix us_Steps ty_Step rfl ea14 rfl g rfl om).yd) (Ey rfl ((Y.fld fo_Step_0 ty_I dc rfl).yd) (Ey rfl (Y.ld1 ty_I rfl ((eh14 _).sub (cs' := [_]) 0 rfl) rfl) (Emv rfl rfl (Ey rfl ((Y.neq rfl rfl).yd) (Ent.d (fun q18 => ?_) (fun q18 => ?_))))))
    · exact absurd (congrArg (fun z => z.1) (mkL_at hz (show g < a.length by omega))).symm q18
    · refine Eu (E.cf rfl (E.skipc (Et (Ew Z3 (Emv rfl rfl (Ey rfl ((Y.add rfl rfl om om).yd) (Eas rfl rfl (Eu (Eq_ (Ew Z7 (Emv rfl rfl (Emv rfl rfl (Ey rfl ((Y.ix us_Steps ty_Step rfl ea14 rfl g rfl om).yd) (Ey rfl ((Y.fld fo_Step_1 ty_I dc rfl).yd) (Ey rfl (Y.ld1 ty_I rfl ((eh14 _).sub (cs' := [_]) 1 rfl) rfl) (Emv rfl rfl (Ey rfl ((Y.neq rfl rfl).yd) (Ent.d (fun q27 => ?_) (fun q27 => ?_)))))))))))))))))))
      · exact absurd (congrArg (fun z => z.2) (mkL_at hz (show g < a.length by omega))).symm q27
      · refine Eu (E.cf rfl (E.skipc (Et (Ez Z3 (Emv rfl rfl (Ey rfl ((Y.add rfl rfl om om).yd) (Eas rfl rfl (En (E.bln (Et (Ez Z3 (Emv rfl rfl (Ey rfl ((Y.add rfl rfl om om).yd) (Eas rfl rfl ?_))))))))))))))
        exact Eu (E.again br (g + 1) ⟨rfl, frI om, rfl, trivial⟩ (.refl _) om om)
  · refine Eu (E.cf rfl (E.exit (E.the (E.the (E.blh (Et (Ew Z2 (Emv rfl rfl (Eas rfl rfl ?_)))))))))
    exact Eu (E.ret (Fg rfl rfl () (congrArg (Value.int .i64) (by rw [totS_all om])) rfl))
theorem t_laws_FnExactFindGuardedOrder {a_aS : Option Addr} {m_aS c_aS : Nat} {aS : List Int} {a_aL : Option Addr} {m_aL c_aL : Nat} {aL : List (Int × List Int × Int × Int × Int)} {a_aG_Query_Head : Option Addr} {m_aG_Query_Head c_aG_Query_Head : Nat} {aG_Query_Head : List Int} {a_aG_Query_Atoms : Option Addr} {m_aG_Query_Atoms c_aG_Query_Atoms : Nat} {aG_Query_Atoms : List (Int × List Int)} {a_aG_Not : Option Addr} {m_aG_Not c_aG_Not : Nat} {aG_Not : List (Int × List Int)} : Tr Tryz.prog 5 [.slice a_aS m_aS c_aS, .slice a_aL m_aL c_aL, .agg #[.slice a_aG_Query_Head m_aG_Query_Head c_aG_Query_Head, .slice a_aG_Query_Atoms m_aG_Query_Atoms c_aG_Query_Atoms, .slice a_aG_Not m_aG_Not c_aG_Not]] (fun w L => Ro w L eIs [.slice a_aS m_aS c_aS] aS ∧ Ro w L eMethods [.slice a_aL m_aL c_aL] aL ∧ Ro w L eIs [.slice a_aG_Query_Head m_aG_Query_Head c_aG_Query_Head] aG_Query_Head ∧ Ro w L eAtoms [.slice a_aG_Query_Atoms m_aG_Query_Atoms c_aG_Query_Atoms] aG_Query_Atoms ∧ Ro w L eAtoms [.slice a_aG_Not m_aG_Not c_aG_Not] aG_Not) [] (κ := Unit) (fun k => True) (fun k => .bool (true)) (fun k => []) := by
  refine Tr.intro Tryz.func5 rfl (n := 177) rfl (by decide +kernel) bl (fr := [(0, .slice a_aS m_aS c_aS), (1, .slice a_aL m_aL c_aL), (2, .agg #[.slice a_aG_Query_Head m_aG_Query_Head c_aG_Query_Head, .slice a_aG_Query_Atoms m_aG_Query_Atoms c_aG_Query_Atoms, .slice a_aG_Not m_aG_Not c_aG_Not])]) rfl fun w L hR => ?_
  obtain ⟨haS, haL, haG_Query_Head, haG_Query_Atoms, haG_Not⟩ := hR
  obtain ⟨rfl, laS⟩ := haS.slen
  obtain ⟨rfl, laL⟩ := haL.slen
  obtain ⟨rfl, laG_Query_Head⟩ := haG_Query_Head.slen
  obtain ⟨rfl, laG_Query_Atoms⟩ := haG_Query_Atoms.slen
  obtain ⟨rfl, laG_Not⟩ := haG_Not.slen
  have jb_aS := totS_I (l := aS)
  have jb_aL := totS_lin (c := cE_Method) (t := (fun x => x.2.1.length)) (n := 4) (fun x => by simp only [cE_Method, totS_I]; omega) (l := aL)
  have jc_aL : totL (fun x => x.2.1.length) aL = aL.length + totS (fun x => x.2.1.length) aL := rfl
  have jb_aG_Query_Head := totS_I (l := aG_Query_Head)
  have jb_aG_Query_Atoms := totS_lin (c := cE_Atom) (t := (fun x => x.2.length)) (n := 1) (fun x => by simp only [cE_Atom, totS_I]; omega) (l := aG_Query_Atoms)
  have jc_aG_Query_Atoms : totL (fun x => x.2.length) aG_Query_Atoms = aG_Query_Atoms.length + totS (fun x => x.2.length) aG_Query_Atoms := rfl
  have jb_aG_Not := totS_lin (c := cE_Atom) (t := (fun x => x.2.length)) (n := 1) (fun x => by simp only [cE_Atom, totS_I]; omega) (l := aG_Not)
  have jc_aG_Not : totL (fun x => x.2.length) aG_Not = aG_Not.length + totS (fun x => x.2.length) aG_Not := rfl
  obtain ⟨r1, r2⟩ : (fgoS aS aL ((aG_Query_Head, aG_Query_Atoms), aG_Not)).length ≤ aG_Query_Atoms.length ∧ (fgoM aS aL ((aG_Query_Head, aG_Query_Atoms), aG_Not)).length ≤ aG_Not.length := fg_len
  have r3 := totS_max (c := cE_Step) (n := 2) (l := fgoS aS aL ((aG_Query_Head, aG_Query_Atoms), aG_Not)) (fun x _ => Nat.le_refl 2)
  have r4 := totS_I (l := fgoM aS aL ((aG_Query_Head, aG_Query_Atoms), aG_Not))
  refine Ew Z2 (Est rfl (N.box (cs := [_, _, _]) rfl dc rfl) (fun b5 _ => (Eas rfl rfl (Eu (Eq_ (Ew Z3 (Emv rfl rfl (Ey rfl ((Y.len us_Is rfl).yd) (Ey rfl ((Y.gtr rfl rfl).yd) (Ent.d (fun q25 => ?_) (fun q25 => ?_)))))))))))
  · refine Eu (E.ct rfl (Ew Z1 (Eas rfl rfl ?_)))
    exact Eu (E.ret (E.thr (Fg rfl rfl () rfl rfl)))
  · refine Eu (E.cf rfl (E.skipc (Et (Ew Z1 (Eas rfl rfl (Ev Z4 (Emv rfl rfl (Emv rfl rfl (Est rfl (N.call0 t_laws_szMethodS rfl rfl rfl dc (fun w Lp hA => ⟨hA.ro haL, (by first | assumption | omega), (by first | assumption | omega)⟩)) (fun _ _ => (Eas rfl rfl (Eu (Eq_ (Ew Z2 (Emv rfl rfl (Ey rfl ((Y.lss rfl rfl).yd) (Ent.d (fun q30 => ?_) (fun q30 => ?_))))))))))))))))))
    · have z30 := szR_bad q30 om
      refine Eu (E.ct rfl (Ew Z1 (Eas rfl rfl ?_)))
      exact Eu (E.ret (E.thr (Fg rfl rfl () rfl rfl)))
    · obtain ⟨z30, y30⟩ := szR_ok q30 om
      refine Eu (E.cf rfl (E.skipc (Et (Ew Z4 (Ey rfl (Y.ldS (cs := [_, _, _]) ty_lGuarded rfl (Has.pt m0) rfl) (Emv rfl rfl (Est rfl (N.call0 t_laws_szGuarded rfl rfl rfl dc (fun w Lp hA => ⟨hA.ro haG_Query_Head, hA.ro haG_Query_Atoms, hA.ro haG_Not, (by first | assumption | omega), (by first | assumption | omega)⟩)) (fun _ _ => (Eas rfl rfl (Eu (Eq_ (Ew Z2 (Emv rfl rfl (Ey rfl ((Y.lss rfl rfl).yd) (Ent.d (fun q35 => ?_) (fun q35 => ?_))))))))))))))))
      · have z35 := szR_bad q35 om
        refine Eu (E.ct rfl (Ew Z1 (Eas rfl rfl ?_)))
        exact Eu (E.ret (E.thr (Fg rfl rfl () rfl rfl)))
      · obtain ⟨z35, y35⟩ := szR_ok q35 om
        refine Eu (E.cf rfl (E.skipc (Et (Eq_ (D.region (fun j => true) mixed (Dyp 0 rfl (Y.mv rfl) (Dyp 2 rfl (Y.mv rfl) (Dy 4 rfl (Y.ldS (cs := [_, _, _]) ty_lGuarded rfl (Has.pt m0) rfl) (D.st 1 rfl rfl kr (fun _ => rfl) (N.call (t_laws_toIntS fc) rfl rfl rfl dc rfl (fun w Lp hA => hA.ro haS)) (fun k38 _ => ?_))))))))))
        obtain ⟨a38, m38, c38⟩ := k38
        refine Ent.lenow m0 fun e38 l38 => ?_
        subst e38
        refine D.st 3 rfl rfl kr (fun _ => rfl) (N.call (t_laws_toMethodS fc) rfl rfl rfl dc rfl (fun w Lp hA => hA.ro haL)) (fun k40 _ => ?_)
        obtain ⟨a40, m40, c40⟩ := k40
        refine Ent.lenow m0 fun e40 l40 => ?_
        subst e40
        refine D.st 5 rfl rfl kr (fun _ => rfl) (N.call (t_laws_toGuarded fc fc fc) rfl rfl rfl dc rfl (fun w Lp hA => ⟨hA.ro haG_Query_Head, hA.ro haG_Query_Atoms, hA.ro haG_Not⟩)) (fun k42 _ => ?_)
        obtain ⟨⟨a42_0, m42_0, c42_0⟩, ⟨a42_1, m42_1, c42_1⟩, ⟨a42_2, m42_2, c42_2⟩⟩ := k42
        refine Ent.lenow m0 fun e42_0 l42_0 => ?_
        subst e42_0
        refine Ent.lenow (mS m0) fun e42_1 l42_1 => ?_
        subst e42_1
        refine Ent.lenow (mS (mS m0)) fun e42_2 l42_2 => ?_
        subst e42_2
        refine D.st 6 rfl rfl kr (fun _ => rfl) (N.call (t_spec_FindGuardedOrder fc fc) rfl rfl rfl dc rfl (fun w Lp hA => ⟨hA.ow (mS (mS (mS (mS m0)))), hA.ow (mS (mS (mS m0))), hA.ow m0, hA.ow (mS m0), hA.ow (mS (mS m0))⟩)) (fun k43 _ => ?_)
        obtain ⟨⟨a43_0, m43_0, c43_0⟩, ⟨a43_1, m43_1, c43_1⟩⟩ := k43
        refine Ent.lenow m0 fun e43_0 l43_0 => ?_
        subst e43_0
        refine Ent.lenow (mS m0) fun e43_1 l43_1 => ?_
        subst e43_1
        refine Dyp 7 rfl (Y.mv rfl) (Dyp 8 rfl (Y.ext rfl rfl) (Dyp 9 rfl (Y.ext rfl rfl) (Dyp 10 rfl (Y.ext rfl rfl) (Dyp 11 rfl (Y.as rfl) (Dyp 12 rfl (Y.as rfl) (Dyp 13 rfl (Y.as rfl) (D.done kr (Et (Ew Z3 (Emv rfl rfl (Est rfl (N.call (t_laws_toIntS fc) rfl rfl rfl dc rfl (fun w Lp hA => hA.ro haS)) (fun k48 _ => ?_))))))))))))
        obtain ⟨a48, m48, c48⟩ := k48
        refine Ent.lenow m0 fun e48 l48 => ?_
        subst e48
        refine Eas rfl rfl (Ev Z3 (Emv rfl rfl (Est rfl (N.call (t_laws_toMethodS fc) rfl rfl rfl dc rfl (fun w Lp hA => hA.ro haL)) (fun k50 _ => ?_))))
        obtain ⟨a50, m50, c50⟩ := k50
        refine Ent.lenow m0 fun e50 l50 => ?_
        subst e50
        refine Eas rfl rfl (Ev Z4 (Ey rfl (Y.ldS (cs := [_, _, _]) ty_lGuarded rfl (Has.pt (mS (mS (mS (mS (mS (mS (mS (mS (mS m0)))))))))) rfl) (Est rfl (N.call (t_laws_toGuarded fc fc fc) rfl rfl rfl dc rfl (fun w Lp hA => ⟨hA.ro haG_Query_Head, hA.ro haG_Query_Atoms, hA.ro haG_Not⟩)) (fun k52 _ => ?_))))
        obtain ⟨⟨a52_0, m52_0, c52_0⟩, ⟨a52_1, m52_1, c52_1⟩, ⟨a52_2, m52_2, c52_2⟩⟩ := k52
        refine Ent.lenow m0 fun e52_0 l52_0 => ?_
        subst e52_0
        refine Ent.lenow (mS m0) fun e52_1 l52_1 => ?_
        subst e52_1
        refine Ent.lenow (mS (mS m0)) fun e52_2 l52_2 => ?_
        subst e52_2
        refine Est rfl (N.alloc ty_Guarded dc) (fun b13 _ => (Est rfl (N.sto (vs := [_, _, _]) (cs' := [_, _, _]) ty_Guarded rfl rfl rfl rfl rfl bl rfl) (fun _ _ => (Ev Z11 (Emv rfl rfl (Emv rfl rfl (Ey rfl (Y.ldS (cs := [_, _, _]) ty_Guarded rfl (Has.pt m0) rfl) (Est rfl (N.call (t_impl_FindGuardedOrder fc fc) rfl rfl rfl dc rfl (fun w Lp hA => ⟨hA.ow (mS (mS (mS (mS (mS m0))))), hA.ow (mS (mS (mS (mS m0)))), hA.ow (mS m0), hA.ow (mS (mS m0)), hA.ow (mS (mS (mS m0)))⟩)) (fun k57 _ => ?_)))))))))
        obtain ⟨⟨a57_0, m57_0, c57_0⟩, ⟨a57_1, m57_1, c57_1⟩⟩ := k57
        refine Ent.lenow m0 fun e57_0 l57_0 => ?_
        subst e57_0
        refine Ent.lenow (mS m0) fun e57_1 l57_1 => ?_
        subst e57_1
        refine Emv rfl rfl (Ey rfl ((Y.ext rfl rfl).yd) (Ey rfl ((Y.ext rfl rfl).yd) (Ey rfl ((Y.ext rfl rfl).yd) (Eas rfl rfl (Eas rfl rfl (Eas rfl rfl (Eu (Eq_ (Ew Z15 (Emv rfl rfl (Emv rfl rfl (Est rfl (N.call0 t_laws_eqStepS rfl rfl rfl dc (fun w Lp hA => ⟨hA.ow m0, hA.ow (mS (mS (mS (mS (mS (mS (mS (mS m0))))))))⟩)) (fun _ _ => (Ent.b (fun q63 => ?_) (fun q63 => ?_)))))))))))))))
        · refine Ey rfl ((Y.not (b := true) rfl).yd) (Emv rfl rfl (Emv rfl rfl (Emv rfl rfl (Est rfl (N.call0 t_laws_eqIntS rfl rfl rfl dc (fun w Lp hA => ⟨hA.ow (mS m0), hA.ow (mS (mS (mS (mS (mS (mS (mS (mS (mS m0)))))))))⟩)) (fun _ _ => (Ent.b (fun q68 => ?_) (fun q68 => ?_)))))))
          · refine Ey rfl ((Y.not (b := true) rfl).yd) (Ey rfl ((Y.pkf rfl rfl).yd) (Emv rfl rfl (Emv rfl rfl (Emv rfl rfl (Ey rfl ((Y.neqB kr rfl rfl).yd) (Ent.d (fun q74 => ?_) (fun q74 => ?_)))))))
            · exact absurd rfl q74
            · refine Ey rfl ((Y.pkf rfl rfl).yd) (Eu (E.cf rfl (E.skipc (Et (Eq_ (Ew Z5 (Emv rfl rfl (Emv rfl rfl (Est rfl (N.call (t_laws_toIntS fc) rfl rfl rfl dc rfl (fun w Lp hA => hA.ro haS)) (fun k78 _ => ?_))))))))))
              obtain ⟨a78, m78, c78⟩ := k78
              refine Ent.lenow m0 fun e78 l78 => ?_
              subst e78
              refine Est rfl (N.call0 t_laws_eqIntS rfl rfl rfl dc (fun w Lp hA => ⟨hA.ow (mS (mS (mS (mS (mS (mS (mS (mS m0)))))))), hA.ow m0⟩)) (fun _ _ => (Ent.b (fun q79 => ?_) (fun q79 => ?_)))
              · refine Ey rfl ((Y.not (b := true) rfl).yd) (Eu (E.cf rfl (E.skipc (Et (Eq_ (Ew Z5 (Emv rfl rfl (Emv rfl rfl (Est rfl (N.call (t_laws_toMethodS fc) rfl rfl rfl dc rfl (fun w Lp hA => hA.ro haL)) (fun k83 _ => ?_))))))))))
                obtain ⟨a83, m83, c83⟩ := k83
                refine Ent.lenow m0 fun e83 l83 => ?_
                subst e83
                refine Est rfl (N.call0 t_laws_eqMethodS rfl rfl rfl dc (fun w Lp hA => ⟨hA.ow (mS (mS (mS (mS (mS (mS (mS (mS m0)))))))), hA.ow m0⟩)) (fun _ _ => (Ent.b (fun q84 => ?_) (fun q84 => ?_)))
                · refine Ey rfl ((Y.not (b := true) rfl).yd) (Eu (E.cf rfl (E.skipc (Et (Eq_ (Eq_ (D.region (fun j => true) mixed (Dy 0 rfl (Y.ldS (cs := [_, _, _]) ty_Guarded rfl (Has.pt (mS (mS (mS (mS m0))))) rfl) (Dy 1 rfl (Y.ldS (cs := [_, _, _]) ty_lGuarded rfl (Has.pt (mS (mS (mS (mS (mS (mS (mS (mS (mS (mS (mS (mS (mS (mS (mS (mS (mS m0)))))))))))))))))) rfl) (D.st 2 rfl rfl kr (fun _ => rfl) (N.call (t_laws_toGuarded fc fc fc) rfl rfl rfl dc rfl (fun w Lp hA => ⟨hA.ro haG_Query_Head, hA.ro haG_Query_Atoms, hA.ro haG_Not⟩)) (fun k88 _ => ?_)))))))))))
                  obtain ⟨⟨a88_0, m88_0, c88_0⟩, ⟨a88_1, m88_1, c88_1⟩, ⟨a88_2, m88_2, c88_2⟩⟩ := k88
                  refine Ent.lenow m0 fun e88_0 l88_0 => ?_
                  subst e88_0
                  refine Ent.lenow (mS m0) fun e88_1 l88_1 => ?_
                  subst e88_1
                  refine Ent.lenow (mS (mS m0)) fun e88_2 l88_2 => ?_
                  subst e88_2
                  refine D.st 3 rfl rfl kr (fun _ => rfl) (N.call0 t_laws_eqGuarded rfl rfl rfl dc (fun w Lp hA => ⟨hA.ow (mS (mS (mS (mS (mS (mS (mS (mS m0)))))))), hA.ow (mS (mS (mS (mS (mS (mS (mS (mS (mS m0))))))))), hA.ow (mS (mS (mS (mS (mS (mS (mS (mS (mS (mS m0)))))))))), hA.ow m0, hA.ow (mS m0), hA.ow (mS (mS m0))⟩)) (fun _ _ => (Ent.b (fun q89 => ?_) (fun q89 => ?_)))
                  · refine Dyp 4 rfl (Y.not (b := true) rfl) (D.done kr (Et (E.cf rfl (E.skipc (Et (Ew Z1 (Eas rfl rfl (Ev Z4 (Emv rfl rfl (Emv rfl rfl (Ent.p12 (Est rfl (N.call (pre := [_]) t_laws_markIntS rfl rfl rfl dc rfl (fun w Lp hA => ⟨(by first | assumption | omega), (by first | assumption | omega)⟩)) (fun _ _ => (Eas rfl rfl (Ev Z4 (Emv rfl rfl (Emv rfl rfl (Ent.p12 (Est rfl (N.call (pre := [_]) t_laws_markMethodS rfl rfl rfl dc rfl (fun w Lp hA => ⟨(by first | assumption | omega), (by first | assumption | omega)⟩)) (fun _ _ => (Eas rfl rfl (Ev Z4 (Ey rfl (Y.ldS (cs := [_, _, _]) ty_Guarded rfl (Has.pt (mS (mS (mS (mS (mS (mS (mS (mS (mS m0)))))))))) rfl) (Emv rfl rfl (Ent.p12 ?_)))))))))))))))))))))))))
                    refine Ent.p12 (Ent.p12 (Est rfl (N.call (pre := [_, _, _]) t_laws_markGuarded rfl rfl rfl dc rfl (fun w Lp hA => ⟨(by first | assumption | omega), (by first | assumption | omega)⟩)) (fun _ _ => (Eas rfl rfl (Eu (Eq_ (Ew Z19 (Emv rfl rfl (Ey rfl ((Y.lss rfl rfl).yd) (Ent.d (fun q101 => ?_) (fun q101 => ?_)))))))))))
                    · exact absurd q101 om
                    · refine Emv rfl rfl (Emv rfl rfl (Emv rfl rfl (Est rfl (N.call0 t_laws_eqStepS rfl rfl rfl dc (fun w Lp hA => ⟨hA.ow (mS (mS (mS (mS (mS (mS (mS (mS (mS (mS m0)))))))))), hA.ow (mS (mS (mS (mS (mS (mS (mS (mS (mS (mS (mS (mS (mS m0)))))))))))))⟩)) (fun _ _ => (Ent.b (fun q105 => ?_) (fun q105 => ?_))))))
                      · refine Ey rfl ((Y.not (b := true) rfl).yd) (Ey rfl ((Y.pkf rfl rfl).yd) (Emv rfl rfl (Emv rfl rfl (Emv rfl rfl (Est rfl (N.call0 t_laws_eqIntS rfl rfl rfl dc (fun w Lp hA => ⟨hA.ow (mS (mS (mS (mS (mS (mS (mS (mS (mS (mS (mS m0))))))))))), hA.ow (mS (mS (mS (mS (mS (mS (mS (mS (mS (mS (mS (mS (mS (mS m0))))))))))))))⟩)) (fun _ _ => (Ent.b (fun q111 => ?_) (fun q111 => ?_))))))))
                        · refine Ey rfl ((Y.not (b := true) rfl).yd) (Ey rfl ((Y.pkf rfl rfl).yd) (Emv rfl rfl (Emv rfl rfl (Emv rfl rfl (Ey rfl ((Y.neqB kr rfl rfl).yd) (Ent.d (fun q117 => ?_) (fun q117 => ?_)))))))
                          · exact absurd rfl q117
                          · refine Ey rfl ((Y.pkf rfl rfl).yd) (Eu (E.cf rfl (E.skipc (Et (Ew Z1 (Eas rfl rfl (Ev Z4 (Emv rfl rfl (Emv rfl rfl (Ent.p10 (Est rfl (N.call (pre := [_]) t_laws_markStepS rfl rfl rfl dc rfl (fun w Lp hA => ⟨(by first | assumption | omega), (by first | assumption | omega)⟩)) (fun _ _ => (Eas rfl rfl (Ev Z4 (Emv rfl rfl (Emv rfl rfl (Ent.p11 (Est rfl (N.call (pre := [_]) t_laws_markIntS rfl rfl rfl dc rfl (fun w Lp hA => ⟨(by first | assumption | omega), (by first | assumption | omega)⟩)) (fun _ _ => (Eas rfl rfl (Ev Z1 (Eas rfl rfl (Ev Z4 (Emv rfl rfl (Emv rfl rfl ?_)))))))))))))))))))))))))
                            refine Est rfl (N.call0 (t_laws_heldStepS (mkL_mk cm_Step mm_Step)) rfl rfl rfl dc (fun w Lp hA => ⟨hA.ow (mS m0), (by (try simp only [mkL_c cm_I, mkL_c cm_Is, mkL_c cm_Fact, mkL_c cm_Facts, mkL_c cm_Atom, mkL_c cm_Atoms, mkL_c cm_Access, mkL_c cm_Accesss, mkL_c cm_Step, mkL_c cm_Steps, mkL_c cm_Query, mkL_c cm_Querys, mkL_c cm_Binding, mkL_c cm_Bindings, mkL_c cm_Method, mkL_c cm_Methods, mkL_c cm_Rule, mkL_c cm_Rules, mkL_c cm_Line, mkL_c cm_Lines]); omega), (by (try simp only [mkL_c cm_I, mkL_c cm_Is, mkL_c cm_Fact, mkL_c cm_Facts, mkL_c cm_Atom, mkL_c cm_Atoms, mkL_c cm_Access, mkL_c cm_Accesss, mkL_c cm_Step, mkL_c cm_Steps, mkL_c cm_Query, mkL_c cm_Querys, mkL_c cm_Binding, mkL_c cm_Bindings, mkL_c cm_Method, mkL_c cm_Methods, mkL_c cm_Rule, mkL_c cm_Rules, mkL_c cm_Line, mkL_c cm_Lines]); omega)⟩)) (fun _ _ => (Eas rfl rfl (Eu (Eq_ (Ew Z2 (Emv rfl rfl (Ey rfl ((Y.lss rfl rfl).yd) (Ent.d (fun q129 => ?_) (fun q129 => ?_)))))))))
                            · exact absurd q129 om
                            · refine Eu (E.cf rfl (E.skipc (Et (Ew Z4 (Emv rfl rfl (Emv rfl rfl (Est rfl (N.call0 (t_laws_heldIntS (by first | exact mkL_mk cm_I mm_I | (simp only [mkL_c cm_I, mkL_c cm_Is, mkL_c cm_Fact, mkL_c cm_Facts, mkL_c cm_Atom, mkL_c cm_Atoms, mkL_c cm_Access, mkL_c cm_Accesss, mkL_c cm_Step, mkL_c cm_Steps, mkL_c cm_Query, mkL_c cm_Querys, mkL_c cm_Binding, mkL_c cm_Bindings, mkL_c cm_Method, mkL_c cm_Methods, mkL_c cm_Rule, mkL_c cm_Rules, mkL_c cm_Line, mkL_c cm_Lines]; exact mkL_mk cm_I mm_I))) rfl rfl rfl dc (fun w Lp hA => ⟨hA.ow m0, (by (try simp only [mkL_c cm_I, mkL_c cm_Is, mkL_c cm_Fact, mkL_c cm_Facts, mkL_c cm_Atom, mkL_c cm_Atoms, mkL_c cm_Access, mkL_c cm_Accesss, mkL_c cm_Step, mkL_c cm_Steps, mkL_c cm_Query, mkL_c cm_Querys, mkL_c cm_Binding, mkL_c cm_Bindings, mkL_c cm_Method, mkL_c cm_Methods, mkL_c cm_Rule, mkL_c cm_Rules, mkL_c cm_Line, mkL_c cm_Lines]); omega), (by (try simp only [mkL_c cm_I, mkL_c cm_Is, mkL_c cm_Fact, mkL_c cm_Facts, mkL_c cm_Atom, mkL_c cm_Atoms, mkL_c cm_Access, mkL_c cm_Accesss, mkL_c cm_Step, mkL_c cm_Steps, mkL_c cm_Query, mkL_c cm_Querys, mkL_c cm_Binding, mkL_c cm_Bindings, mkL_c cm_Method, mkL_c cm_Methods, mkL_c cm_Rule, mkL_c cm_Rules, mkL_c cm_Line, mkL_c cm_Lines]); omega)⟩)) (fun _ _ => (Eas rfl rfl (Eu (Eq_ (Ew Z2 (Emv rfl rfl (Ey rfl ((Y.lss rfl rfl).yd) (Ent.d (fun q134 => ?_) (fun q134 => ?_))))))))))))))))
                              · exact absurd q134 om
                              · refine Eu (E.cf rfl (E.skipc (Et (Eq_ (Ew Z3 (Emv rfl rfl (Emv rfl rfl (Ey rfl ((Y.neq rfl rfl).yd) (Ent.d (fun q137 => ?_) (fun q137 => ?_))))))))))
                                · exact absurd (by simp only [mkL_c cm_I, mkL_c cm_Is, mkL_c cm_Fact, mkL_c cm_Facts, mkL_c cm_Atom, mkL_c cm_Atoms, mkL_c cm_Access, mkL_c cm_Accesss, mkL_c cm_Step, mkL_c cm_Steps, mkL_c cm_Query, mkL_c cm_Querys, mkL_c cm_Binding, mkL_c cm_Bindings, mkL_c cm_Method, mkL_c cm_Methods, mkL_c cm_Rule, mkL_c cm_Rules, mkL_c cm_Line, mkL_c cm_Lines]) q137
                                · refine Eu (E.cf rfl (E.skipc (Et (Eq_ (D.region (fun j => true) mixed (Dyp 0 rfl (Y.mv rfl) (Dyp 2 rfl (Y.mv rfl) (Dy 4 rfl (Y.ldS (cs := [_, _, _]) ty_lGuarded rfl (Has.pt (mS (mS (mS (mS (mS (mS (mS (mS (mS (mS (mS (mS (mS (mS (mS (mS (mS (mS (mS (mS m0))))))))))))))))))))) rfl) (D.st 1 rfl rfl kr (fun _ => rfl) (N.call (t_laws_toIntS fc) rfl rfl rfl dc rfl (fun w Lp hA => hA.ro haS)) (fun k140 _ => ?_))))))))))
                                  obtain ⟨a140, m140, c140⟩ := k140
                                  refine Ent.lenow m0 fun e140 l140 => ?_
                                  subst e140
                                  refine D.st 3 rfl rfl kr (fun _ => rfl) (N.call (t_laws_toMethodS fc) rfl rfl rfl dc rfl (fun w Lp hA => hA.ro haL)) (fun k142 _ => ?_)
                                  obtain ⟨a142, m142, c142⟩ := k142
                                  refine Ent.lenow m0 fun e142 l142 => ?_
                                  subst e142
                                  refine D.st 5 rfl rfl kr (fun _ => rfl) (N.call (t_laws_toGuarded fc fc fc) rfl rfl rfl dc rfl (fun w Lp hA => ⟨hA.ro haG_Query_Head, hA.ro haG_Query_Atoms, hA.ro haG_Not⟩)) (fun k144 _ => ?_)
                                  obtain ⟨⟨a144_0, m144_0, c144_0⟩, ⟨a144_1, m144_1, c144_1⟩, ⟨a144_2, m144_2, c144_2⟩⟩ := k144
                                  refine Ent.lenow m0 fun e144_0 l144_0 => ?_
                                  subst e144_0
                                  refine Ent.lenow (mS m0) fun e144_1 l144_1 => ?_
                                  subst e144_1
                                  refine Ent.lenow (mS (mS m0)) fun e144_2 l144_2 => ?_
                                  subst e144_2
                                  refine D.st 6 rfl rfl kr (fun _ => rfl) (N.call (t_impl_FindGuardedOrder fc fc) rfl rfl rfl dc rfl (fun w Lp hA => ⟨hA.ow (mS (mS (mS (mS m0)))), hA.ow (mS (mS (mS m0))), hA.ow m0, hA.ow (mS m0), hA.ow (mS (mS m0))⟩)) (fun k145 _ => ?_)
                                  obtain ⟨⟨a145_0, m145_0, c145_0⟩, ⟨a145_1, m145_1, c145_1⟩⟩ := k145
                                  refine Ent.lenow m0 fun e145_0 l145_0 => ?_
                                  subst e145_0
                                  refine Ent.lenow (mS m0) fun e145_1 l145_1 => ?_
                                  subst e145_1
                                  refine Dyp 7 rfl (Y.mv rfl) (Dyp 8 rfl (Y.ext rfl rfl) (Dyp 9 rfl (Y.ext rfl rfl) (Dyp 10 rfl (Y.ext rfl rfl) (Dyp 11 rfl (Y.as rfl) (Dyp 12 rfl (Y.as rfl) (Dyp 13 rfl (Y.as rfl) (D.done kr (Et (Eq_ (Ew Z15 (Emv rfl rfl (Emv rfl rfl (Est rfl (N.call0 t_laws_eqStepS rfl rfl rfl dc (fun w Lp hA => ⟨hA.ow m0, hA.ow (mS (mS (mS (mS (mS (mS (mS (mS (mS (mS (mS (mS (mS (mS (mS (mS (mS (mS (mS (mS m0))))))))))))))))))))⟩)) (fun _ _ => (Ent.b (fun q151 => ?_) (fun q151 => ?_))))))))))))))))
                                  · refine Ey rfl ((Y.not (b := true) rfl).yd) (Emv rfl rfl (Emv rfl rfl (Emv rfl rfl (Est rfl (N.call0 t_laws_eqIntS rfl rfl rfl dc (fun w Lp hA => ⟨hA.ow (mS m0), hA.ow (mS (mS (mS (mS (mS (mS (mS (mS (mS (mS (mS (mS (mS (mS (mS (mS (mS (mS (mS (mS (mS m0)))))))))))))))))))))⟩)) (fun _ _ => (Ent.b (fun q156 => ?_) (fun q156 => ?_)))))))
                                    · refine Ey rfl ((Y.not (b := true) rfl).yd) (Ey rfl ((Y.pkf rfl rfl).yd) (Emv rfl rfl (Emv rfl rfl (Emv rfl rfl (Ey rfl ((Y.neqB kr rfl rfl).yd) (Ent.d (fun q162 => ?_) (fun q162 => ?_)))))))
                                      · exact absurd rfl q162
                                      · refine Ey rfl ((Y.pkf rfl rfl).yd) (Eu (E.cf rfl (E.skipc (Et (Ew Z1 (Eas rfl rfl (Ev Z4 (Emv rfl rfl (Emv rfl rfl (Est rfl (N.call0 (t_laws_heldStepS (mkL_mk cm_Step mm_Step)) rfl rfl rfl dc (fun w Lp hA => ⟨hA.ow (mS (mS (mS (mS (mS (mS (mS (mS m0)))))))), (by (try simp only [mkL_c cm_I, mkL_c cm_Is, mkL_c cm_Fact, mkL_c cm_Facts, mkL_c cm_Atom, mkL_c cm_Atoms, mkL_c cm_Access, mkL_c cm_Accesss, mkL_c cm_Step, mkL_c cm_Steps, mkL_c cm_Query, mkL_c cm_Querys, mkL_c cm_Binding, mkL_c cm_Bindings, mkL_c cm_Method, mkL_c cm_Methods, mkL_c cm_Rule, mkL_c cm_Rules, mkL_c cm_Line, mkL_c cm_Lines]); omega), (by (try simp only [mkL_c cm_I, mkL_c cm_Is, mkL_c cm_Fact, mkL_c cm_Facts, mkL_c cm_Atom, mkL_c cm_Atoms, mkL_c cm_Access, mkL_c cm_Accesss, mkL_c cm_Step, mkL_c cm_Steps, mkL_c cm_Query, mkL_c cm_Querys, mkL_c cm_Binding, mkL_c cm_Bindings, mkL_c cm_Method, mkL_c cm_Methods, mkL_c cm_Rule, mkL_c cm_Rules, mkL_c cm_Line, mkL_c cm_Lines]); omega)⟩)) (fun _ _ => (Eas rfl rfl (Eu (Eq_ (Ew Z2 (Emv rfl rfl (Ey rfl ((Y.lss rfl rfl).yd) (Ent.d (fun q168 => ?_) (fun q168 => ?_)))))))))))))))))))
                                        · exact absurd q168 om
                                        · refine Eu (E.cf rfl (E.skipc (Et (Ew Z4 (Emv rfl rfl (Emv rfl rfl (Est rfl (N.call0 (t_laws_heldIntS (by first | exact mkL_mk cm_I mm_I | (simp only [mkL_c cm_I, mkL_c cm_Is, mkL_c cm_Fact, mkL_c cm_Facts, mkL_c cm_Atom, mkL_c cm_Atoms, mkL_c cm_Access, mkL_c cm_Accesss, mkL_c cm_Step, mkL_c cm_Steps, mkL_c cm_Query, mkL_c cm_Querys, mkL_c cm_Binding, mkL_c cm_Bindings, mkL_c cm_Method, mkL_c cm_Methods, mkL_c cm_Rule, mkL_c cm_Rules, mkL_c cm_Line, mkL_c cm_Lines]; exact mkL_mk cm_I mm_I))) rfl rfl rfl dc (fun w Lp hA => ⟨hA.ow (mS (mS (mS (mS (mS (mS (mS m0))))))), (by (try simp only [mkL_c cm_I, mkL_c cm_Is, mkL_c cm_Fact, mkL_c cm_Facts, mkL_c cm_Atom, mkL_c cm_Atoms, mkL_c cm_Access, mkL_c cm_Accesss, mkL_c cm_Step, mkL_c cm_Steps, mkL_c cm_Query, mkL_c cm_Querys, mkL_c cm_Binding, mkL_c cm_Bindings, mkL_c cm_Method, mkL_c cm_Methods, mkL_c cm_Rule, mkL_c cm_Rules, mkL_c cm_Line, mkL_c cm_Lines]); omega), (by (try simp only [mkL_c cm_I, mkL_c cm_Is, mkL_c cm_Fact, mkL_c cm_Facts, mkL_c cm_Atom, mkL_c cm_Atoms, mkL_c cm_Access, mkL_c cm_Accesss, mkL_c cm_Step, mkL_c cm_Steps, mkL_c cm_Query, mkL_c cm_Querys, mkL_c cm_Binding, mkL_c cm_Bindings, mkL_c cm_Method, mkL_c cm_Methods, mkL_c cm_Rule, mkL_c cm_Rules, mkL_c cm_Line, mkL_c cm_Lines]); omega)⟩)) (fun _ _ => (Eas rfl rfl (Eu (Eq_ (Ew Z2 (Emv rfl rfl (Ey rfl ((Y.lss rfl rfl).yd) (Ent.d (fun q173 => ?_) (fun q173 => ?_))))))))))))))))
                                          · exact absurd q173 om
                                          · refine Eu (E.cf rfl (E.skipc (Et (Eq_ (Ew Z3 (Emv rfl rfl (Emv rfl rfl (Ey rfl ((Y.neq rfl rfl).yd) (Ent.d (fun q176 => ?_) (fun q176 => ?_))))))))))
                                            · exact absurd (by simp only [mkL_c cm_I, mkL_c cm_Is, mkL_c cm_Fact, mkL_c cm_Facts, mkL_c cm_Atom, mkL_c cm_Atoms, mkL_c cm_Access, mkL_c cm_Accesss, mkL_c cm_Step, mkL_c cm_Steps, mkL_c cm_Query, mkL_c cm_Querys, mkL_c cm_Binding, mkL_c cm_Bindings, mkL_c cm_Method, mkL_c cm_Methods, mkL_c cm_Rule, mkL_c cm_Rules, mkL_c cm_Line, mkL_c cm_Lines]) q176
                                            · refine Eu (E.cf rfl (E.skipc (Et (Ew Z1 (Eas rfl rfl ?_)))))
                                              exact Eu (E.ret (Fg rfl rfl () rfl rfl))
                                    · refine Ey rfl ((Y.not (b := false) rfl).yd) (Ey rfl ((Y.pkf rfl rfl).yd) (Emv rfl rfl (Es rfl (Es rfl (Es rfl (Ey rfl ((Y.pkt rfl rfl).yd) (Eu (E.ct rfl (Ew Z1 (Eas rfl rfl ?_))))))))))
                                      exact Eu (E.ret (E.thr (Fb rfl rfl (by simp_all))))
                                  · refine Ey rfl ((Y.not (b := false) rfl).yd) (Emv rfl rfl (Es rfl (Es rfl (Es rfl (Es rfl (Ey rfl ((Y.pkt rfl rfl).yd) (Emv rfl rfl (Es rfl (Es rfl (Es rfl (Ey rfl ((Y.pkt rfl rfl).yd) (Eu (E.ct rfl (Ew Z1 (Eas rfl rfl ?_)))))))))))))))
                                    exact Eu (E.ret (E.thr (Fb rfl rfl (by simp_all))))
                        · refine Ey rfl ((Y.not (b := false) rfl).yd) (Ey rfl ((Y.pkf rfl rfl).yd) (Emv rfl rfl (Es rfl (Es rfl (Es rfl (Ey rfl ((Y.pkt rfl rfl).yd) (Eu (E.ct rfl (Ew Z1 (Eas rfl rfl ?_))))))))))
                          exact Eu (E.ret (E.thr (Fb rfl rfl (by simp_all))))
                      · refine Ey rfl ((Y.not (b := false) rfl).yd) (Ey rfl ((Y.pkf rfl rfl).yd) (Emv rfl rfl (Es rfl (Es rfl (Es rfl (Es rfl (Ey rfl ((Y.pkt rfl rfl).yd) (Emv rfl rfl (Es rfl (Es rfl (Es rfl (Ey rfl ((Y.pkt rfl rfl).yd) (Eu (E.ct rfl (Ew Z1 (Eas rfl rfl ?_))))))))))))))))
                        exact Eu (E.ret (E.thr (Fb rfl rfl (by simp_all))))
                  · refine Dyp 4 rfl (Y.not (b := false) rfl) (D.done kr (Et (E.ct rfl (Ew Z1 (Eas rfl rfl ?_)))))
                    exact Eu (E.ret (E.thr (Fb rfl rfl (by simp_all))))
                · refine Ey rfl ((Y.not (b := false) rfl).yd) (Eu (E.ct rfl (Ew Z1 (Eas rfl rfl ?_))))
                  exact Eu (E.ret (E.thr (Fb rfl rfl (by simp_all))))
              · refine Ey rfl ((Y.not (b := false) rfl).yd) (Eu (E.ct rfl (Ew Z1 (Eas rfl rfl ?_))))
                exact Eu (E.ret (E.thr (Fb rfl rfl (by simp_all))))
          · refine Ey rfl ((Y.not (b := false) rfl).yd) (Ey rfl ((Y.pkf rfl rfl).yd) (Emv rfl rfl (Es rfl (Es rfl (Es rfl (Ey rfl ((Y.pkt rfl rfl).yd) (Eu (E.ct rfl (Ew Z1 (Eas rfl rfl ?_))))))))))
            exact Eu (E.ret (E.thr (Fb rfl rfl (by simp_all))))
        · refine Ey rfl ((Y.not (b := false) rfl).yd) (Emv rfl rfl (Es rfl (Es rfl (Es rfl (Es rfl (Ey rfl ((Y.pkt rfl rfl).yd) (Emv rfl rfl (Es rfl (Es rfl (Es rfl (Ey rfl ((Y.pkt rfl rfl).yd) (Eu (E.ct rfl (Ew Z1 (Eas rfl rfl ?_)))))))))))))))
          exact Eu (E.ret (E.thr (Fb rfl rfl (by simp_all))))
end Go.Proofs.YtonkkkjgdohooaaGreat
