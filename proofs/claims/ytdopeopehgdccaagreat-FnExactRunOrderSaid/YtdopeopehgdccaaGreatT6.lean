import Derived.Test.YtdopeopehgdccaaGreatBs
import Derived.Test.YtdopeopehgdccaaGreatT4
import Derived.Test.YtdopeopehgdccaaGreatT5
import Derived.Test.YtdopeopehgdccaaGreatBc
namespace Go.Proofs.YtdopeopehgdccaaGreat
open Go.RowKit
set_option linter.all false
set_option maxHeartbeats 2000000
attribute [local irreducible] Nop Yd Yp Ent Has Tr FnP FnP2 Src
variable {j5 left v t term : Int} {a L4 : List (Int × List Int)} {s f5 O3 j4 f9 : List Int} {m_s c_s s6 o3 m_a c_a O7 O8 L5 L6 y7 v8 o2 l3 : Nat} {a_s o4 a_a O9 L7 w3 l4 : Option Addr}
theorem a0I (hz : s.length ≤ 1048576) : Tr Tryz.prog 163 [.slice a_s m_s c_s] (fun w L => Ro w L eIs [.slice a_s m_s c_s] s) [] (κ := Option Addr × Nat × Nat) (fun k => True) (fun k => .slice k.1 k.2.1 k.2.2) (fun k => [ow eIs [.slice k.1 k.2.1 k.2.2] s]) := by
 refine Tr.intro Tryz.func163 rfl (n := 8) rfl (by decide +kernel) bl (fr := [(0, .slice a_s m_s c_s)]) rfl fun w L hR => ?_
 have hs := hR
 obtain ⟨rfl, ls⟩ := hs.slen
 refine Ew Z1 (Eas rfl rfl (Eu (Eq_ (Ew Z2 (Emv rfl rfl (Ey rfl ((Y.eqlN us_Is rfl rfl).yd) (Ent.b (fun q4 => ?_) (fun q4 => ?_))))))))
 ·refine Eu (E.ct rfl (Ew Z1 (Eas rfl rfl (Eu (E.ret (E.thr (Ent.mkow (A := []) (Own.nil (E := Enc.int) (e := tI) (a := none)) rfl (Ent.cv (congrArg (ow eIs [_]) (show _ = s by (cases a_s with | none => exact hs.none_nil.symm | some x => cases q4))) ?_))))))))
  exact Fg rfl rfl (none, 0, 0) rfl rfl
 ·refine Eu (E.cf rfl (E.skipc (Et (Ew Z4 (Est rfl (N.bsl (pvs := []) (cs := []) us_Is f8 rfl dc dc (o8 rfl rfl) rfl dc) (fun b5 _ => (Ent.drop (Emv rfl rfl (Est rfl (N.pushR0 (E := Enc.int) Plain.int us_Is f8 rfl rfl rfl hs bn bn dc) (fun p7 _ => (Eas rfl rfl ?_)))))))))))
  exact Eu (E.ret (Fg rfl rfl (_, _, _) rfl rfl))
theorem a6W : Tr Tryz.prog 167 [.agg #[.int .i64 j5, .slice o4 s6 o3], .int .i64 left] (fun w L => I64 j5 ∧ Ro w L eIs [.slice o4 s6 o3] f5 ∧ 0 ≤ left ∧ left ≤ 1048576) [] (κ := Unit) (fun k => True) (fun k => .int .i64 (szR (f5.length) left)) (fun k => []) := by
 refine Tr.intro Tryz.func167 rfl (n := 12) rfl (by decide +kernel) bl (fr := [(0, .agg #[.int .i64 j5, .slice o4 s6 o3]), (1, .int .i64 left)]) rfl fun w L hR => ?_
 obtain ⟨E4, v6, as0, as1⟩ := hR
 obtain ⟨rfl, K3⟩ := v6.slen
 refine Ew Z2 (Est rfl (N.box (cs := [_, _]) rfl dc rfl) (fun b2 _ => (Eas rfl rfl (Ev Z5 (Ey rfl ((Y.fld fo_lAtom_1 ty_Is dc rfl).yd) (Ey rfl (Y.ld1 ty_Is rfl ((Has.pt m0).sub (cs' := [_]) 1 rfl) rfl) (Emv rfl rfl (Est rfl (N.call0 a0o rfl rfl rfl dc (fun w Lp hA => ⟨hA.ro v6, (by first | assumption | omega), (by first | assumption | omega)⟩)) (fun _ _ => (Eas rfl rfl (Eu (Eq_ (Ew Z2 (Emv rfl rfl (Ey rfl ((Y.lss rfl rfl).yd) (Ent.d (fun q10 => ?_) (fun q10 => ?_)))))))))))))))))
 ·have z10 := U1 q10 om
  refine Eu (E.ct rfl (Ew Z1 (Eas rfl rfl ?_)))
  exact Eu (E.ret (E.thr (Fg rfl rfl () (congrArg (Value.int .i64) (by unfold szR; split <;> omega)) rfl)))
 ·obtain ⟨z10, y10⟩ := X4 q10 om
  refine Eu (E.cf rfl (E.skipc (Et (Ew Z2 (Emv rfl rfl (Eas rfl rfl ?_))))))
  exact Eu (E.ret (Fg rfl rfl () (congrArg (Value.int .i64) (by have e : szR (f5.length) left = left - ((f5.length : Nat) : Int) := by { unfold szR; split <;> omega }; omega)) rfl))
theorem a6U (h1 : f5.length ≤ 1048576) : Tr Tryz.prog 176 [.agg #[.int .i64 j5, .slice o4 s6 o3]] (fun w L => I64 j5 ∧ Ro w L eIs [.slice o4 s6 o3] f5) [] (κ := Option Addr × Nat × Nat) (fun k => True) (fun k => .agg #[.int .i64 j5, .slice k.1 k.2.1 k.2.2]) (fun k => [ow eIs [.slice k.1 k.2.1 k.2.2] f5]) := by
 refine Tr.intro Tryz.func176 rfl (n := 12) rfl (by decide +kernel) bl (fr := [(0, .agg #[.int .i64 j5, .slice o4 s6 o3])]) rfl fun w L hR => ?_
 obtain ⟨E4, v6⟩ := hR
 obtain ⟨rfl, K3⟩ := v6.slen
 refine Ew Z2 (Est rfl (N.box (cs := [_, _]) rfl dc rfl) (fun b1 _ => (Est rfl (N.alloc ty_Atom dc) (fun b2 _ => (Ev Z1 (Est rfl (N.alloc ty_Atom dc) (fun b3 _ => (Ev Z4 (Ey rfl ((Y.fld fo_lAtom_0 f8 dc rfl).yd) (Ey rfl (Y.ld1 f8 rfl ((Has.pt (mS (mS m0))).sub (cs' := [_]) 0 rfl) rfl) (Ey rfl ((Y.fld fo_Atom_0 f8 dc rfl).yd) (Est rfl (N.sto (vs := [_]) (cs' := [_, _]) f8 rfl rfl rfl rfl rfl bl rfl) (fun _ _ => (Ev Z5 (Ey rfl ((Y.fld fo_lAtom_1 ty_Is dc rfl).yd) (Ey rfl (Y.ld1 ty_Is rfl ((Has.pt (mS (mS m0))).sub (cs' := [_]) 1 rfl) rfl) (Est rfl (N.call (I4 fc) rfl rfl rfl dc rfl (fun w Lp hA => hA.ro v6)) (fun k9 _ => ?_))))))))))))))))))
 obtain ⟨a9, m9, c9⟩ := k9
 refine Ent.lenow m0 fun e9 l9 => ?_
 subst e9
 refine Ey rfl ((Y.fld fo_Atom_1 ty_Is dc rfl).yd) (Ent.p1 (Est rfl (N.sto (vs := [_]) (cs' := [_, _]) ty_Is rfl rfl rfl rfl rfl bl rfl) (fun _ _ => (Ev Z2 (Ey rfl (Y.ldS (cs := [_, _]) ty_Atom rfl (Has.pt m0) rfl) (Ent.p2 (Est rfl (N.sto (vs := [_, _]) (cs' := [_, _]) ty_Atom rfl rfl rfl rfl rfl bl rfl) (fun _ _ => (Eu (E.ret (Ent.p2 ?_)))))))))))
 exact F.c1 br rfl rfl (mS m0) ty_Atom rfl (_, _, _) trivial rfl (J := _) (.refl _) (.inl rfl)
theorem a6V {J4 : Int} {a3d : Option Addr} {a3e a3f : Nat} {a8C : List Int} : Tr Tryz.prog 182 [.agg #[.int .i64 j5, .slice o4 s6 o3], .agg #[.int .i64 J4, .slice a3d a3e a3f]] (fun w L => I64 j5 ∧ Ro w L eIs [.slice o4 s6 o3] f5 ∧ I64 J4 ∧ Ro w L eIs [.slice a3d a3e a3f] a8C) [] (κ := Unit) (fun k => True) (fun k => .bool (decide ((j5, f5) = (J4, a8C)))) (fun k => []) := by
 refine Tr.intro Tryz.func182 rfl (n := 16) rfl (by decide +kernel) bl (fr := [(0, .agg #[.int .i64 j5, .slice o4 s6 o3]), (1, .agg #[.int .i64 J4, .slice a3d a3e a3f])]) rfl fun w L hR => ?_
 obtain ⟨E4, v6, a3u, a8b⟩ := hR
 obtain ⟨rfl, K3⟩ := v6.slen
 obtain ⟨rfl, b2N⟩ := a8b.slen
 refine Ew Z3 (Est rfl (N.box (cs := [_, _]) rfl dc rfl) (fun b2 _ => (Est rfl (N.box (cs := [_, _]) rfl dc rfl) (fun b3 _ => (Eas rfl rfl (Eu (Eq_ (Ew Z5 (Ey rfl ((Y.fld fo_Atom_0 f8 dc rfl).yd) (Ey rfl (Y.ld1 f8 rfl ((Has.pt (mS m0)).sub (cs' := [_]) 0 rfl) rfl) (Ey rfl ((Y.fld fo_Atom_0 f8 dc rfl).yd) (Ey rfl (Y.ld1 f8 rfl ((Has.pt m0).sub (cs' := [_]) 0 rfl) rfl) (Ey rfl ((Y.neq rfl rfl).yd) (Ent.d (fun q9 => ?_) (fun q9 => ?_)))))))))))))))
 ·refine Eu (E.ct rfl (Ew Z1 (Eas rfl rfl ?_)))
  exact Eu (E.ret (E.thr (Fb rfl rfl (by simp_all))))
 ·refine Eu (E.cf rfl (E.skipc (Et (Eq_ (Ew Z6 (Ey rfl ((Y.fld fo_Atom_1 ty_Is dc rfl).yd) (Ey rfl (Y.ld1 ty_Is rfl ((Has.pt (mS m0)).sub (cs' := [_]) 1 rfl) rfl) (Ey rfl ((Y.fld fo_Atom_1 ty_Is dc rfl).yd) (Ey rfl (Y.ld1 ty_Is rfl ((Has.pt m0).sub (cs' := [_]) 1 rfl) rfl) (Est rfl (N.call0 Q3 rfl rfl rfl dc (fun w Lp hA => ⟨hA.ro v6, hA.ro a8b⟩)) (fun _ _ => (Ent.b (fun q14 => ?_) (fun q14 => ?_)))))))))))))
  ·refine Ey rfl ((Y.not (b := true) rfl).yd) (Eu (E.cf rfl (E.skipc (Et (Ew Z1 (Eas rfl rfl ?_))))))
   exact Eu (E.ret (Fb rfl rfl (by simp_all)))
  ·refine Ey rfl ((Y.not (b := false) rfl).yd) (Eu (E.ct rfl (Ew Z1 (Eas rfl rfl ?_))))
   exact Eu (E.ret (E.thr (Fb rfl rfl (by simp_all))))
theorem a5R : Tr Tryz.prog 82 [.slice a_a m_a c_a, .int .i64 left] (fun w L => Ro w L C3 [.slice a_a m_a c_a] a ∧ 0 ≤ left ∧ left ≤ 1048576) [] (κ := Unit) (fun k => True) (fun k => .int .i64 (szR (E0 (fun x => x.2.length) a) left)) (fun k => []) := by
 refine Tr.intro Tryz.func82 rfl (n := 27) rfl (by decide +kernel) bl (fr := [(0, .slice a_a m_a c_a), (1, .int .i64 left)]) rfl fun w L hR => ?_
 obtain ⟨ha, as0, as1⟩ := hR
 obtain ⟨rfl, la⟩ := ha.slen
 refine Ew Z1 (Eas rfl rfl (Ev Z5 (Emv rfl rfl (Emv rfl rfl (Ey rfl ((Y.len us_lAtoms rfl).yd) (Ey rfl ((Y.sub rfl rfl om om).yd) (Eas rfl rfl (Eu (Eq_ (Ew Z2 (Emv rfl rfl (Ey rfl ((Y.lss rfl rfl).yd) (Ent.d (fun q11 => ?_) (fun q11 => ?_))))))))))))))
 ·refine Eu (E.ct rfl (Ew Z1 (Eas rfl rfl ?_)))
  exact Eu (E.ret (E.thr (Fg rfl rfl () (congrArg (Value.int .i64) (by exact a5i q11)) rfl)))
 ·refine Eu (E.cf rfl (E.skipc (Et (Eq_ (Ew Z1 (Eas rfl rfl (Eu (E.block (E.loop (κ := Nat) (fun g => g ≤ a.length ∧ (a.length : Int) + (j8 (fun x => x.2.length) (a.take g) : Nat) ≤ left) (fun g => [(0, .slice a_a a.length c_a), (1, .int .i64 (left - ((a.length : Int) + (j8 (fun x => x.2.length) (a.take g) : Nat)))), (5, .int .i64 (g : Int))]) (fun g => []) (fun g => a.length - g) 0 ⟨by omega, by simp [j8]; omega⟩ ⟨rfl, frI (by simp [j8]), rfl, trivial⟩ (.refl _) (fun g pg => ?_))))))))))
  obtain ⟨pk, pa⟩ := pg
  refine Eq_ (Ew Z4 (Emv rfl rfl (Emv rfl rfl (Ey rfl ((Y.len us_lAtoms rfl).yd) (Ey rfl ((Y.lss rfl rfl).yd) (Ent.d (fun q15 => ?_) (fun q15 => ?_)))))))
  ·refine Eu (E.ct rfl (E.skipc (Et (Eq_ (E.block (Ew Z7 (Emv rfl rfl (Emv rfl rfl ?_))))))))
   obtain ⟨eb20, eo20, ec20, ea20, er20, el20, eh20⟩ := ha.elem g om
   obtain ⟨xa20_0, xc20_0, rfl, ei20_0, xh20_0⟩ := Ro.pAtom er20
   have := xh20_0.slen.2
   refine Ey rfl ((Y.ix us_lAtoms ty_lAtom rfl ea20 rfl g rfl om).yd) (Ey rfl (Y.ldS (cs := [_, _]) ty_lAtom rfl (eh20 _) rfl) (Emv rfl rfl (Est rfl (N.call0 a6W rfl rfl rfl dc (fun w Lp hA => ⟨ei20_0, hA.ro xh20_0, (by first | assumption | omega), (by first | assumption | omega)⟩)) (fun _ _ => (Eas rfl rfl (Ev Z2 (Emv rfl rfl (Ey rfl ((Y.lss rfl rfl).yd) (Ent.d (fun q25 => ?_) (fun q25 => ?_))))))))))
   ·have z25 := U1 q25 om
    refine Eu (E.ct rfl (Ew Z1 (Eas rfl rfl ?_)))
    exact Eu (E.ret (E.blr (E.thr (E.thr (E.blr (E.thr (Fg rfl rfl () (congrArg (Value.int .i64) (by exact a5j (t := (fun x => x.2.length)) (n := a[g].2.length) (show g < a.length by omega) rfl om)) rfl)))))))
   ·obtain ⟨z25, y25⟩ := X4 q25 om
    refine Eu (E.cf rfl (E.skipc (E.bln (Et (Ez Z3 (Emv rfl rfl (Ey rfl ((Y.add rfl rfl om om).yd) (Eas rfl rfl ?_))))))))
    exact Eu (E.again br (g + 1) ⟨rfl, frI (by rw [z25]; have y := E8 (t := (fun x => x.2.length)) (show g < a.length by omega); omega), rfl, trivial⟩ (.refl _) ⟨by omega, by have y := E8 (t := (fun x => x.2.length)) (show g < a.length by omega); omega⟩ om)
  ·refine Eu (E.cf rfl (E.exit (E.the (E.the (E.blh (Et (Ew Z2 (Emv rfl rfl (Eas rfl rfl ?_)))))))))
   exact Eu (E.ret (Fg rfl rfl () (congrArg (Value.int .i64) (by exact a5D (t := (fun x => x.2.length)) (show a.length ≤ g by omega) pa)) rfl))
theorem a5s (hz : E0 (fun x => x.2.length) a ≤ 1048576) : Tr Tryz.prog 91 [.slice a_a m_a c_a] (fun w L => Ro w L C3 [.slice a_a m_a c_a] a) [] (κ := Option Addr × Nat × Nat) (fun k => True) (fun k => .slice k.1 k.2.1 k.2.2) (fun k => [ow C3 [.slice k.1 k.2.1 k.2.2] a]) := by
 refine Tr.intro Tryz.func91 rfl (n := 23) rfl (by decide +kernel) bl (fr := [(0, .slice a_a m_a c_a)]) rfl fun w L hR => ?_
 have ha := hR
 obtain ⟨rfl, la⟩ := ha.slen
 have hlen : a.length ≤ E0 (fun x => x.2.length) a := by unfold E0; omega
 refine Ew Z1 (Eas rfl rfl (Ev Z4 (Emv rfl rfl (Ey rfl ((Y.len us_lAtoms rfl).yd) (Est rfl (N.make (m := a.length) us_Atoms ty_Atom rfl rfl rfl mx om dc) (fun b7 _ => (Ent.mkow (A := [_]) (Own.made (E := a0n) (e := tAtom) (zx := (0, [])) (Own.mkAtom (x := (0, [])) ⟨by decide, by decide⟩ Own.nil) mx) rfl (Eas rfl rfl (Eu (Eq_ (Ew Z1 (Eas rfl rfl (Eu (E.block (E.loop (κ := Nat) (fun g => g ≤ a.length) (fun g => [(0, .slice a_a a.length c_a), (3, .slice (some ⟨b7, 0, none⟩) a.length a.length), (4, .int .i64 (g : Int))]) (fun g => [ow C3 [.slice (some ⟨b7, 0, none⟩) a.length a.length] (a.take g ++ List.replicate (a.length - g) (0, []))]) (fun g => a.length - g) 0 (Nat.zero_le _) ⟨rfl, rfl, rfl, trivial⟩ (by simp) (fun g pg => (Eq_ (Ew Z4 (Emv rfl rfl (Emv rfl rfl (Ey rfl ((Y.len us_lAtoms rfl).yd) (Ey rfl ((Y.lss rfl rfl).yd) (Ent.d (fun q11 => ?_) (fun q11 => ?_))))))))))))))))))))))))
 ·refine Eu (E.ct rfl (E.skipc (Et (Eq_ (E.block (Ez Z9 (Emv rfl rfl (Emv rfl rfl (Emv rfl rfl (Emv rfl rfl ?_))))))))))
  obtain ⟨eb18, eo18, ec18, ea18, er18, el18, eh18⟩ := ha.elem g om
  obtain ⟨xa18_0, xc18_0, rfl, ei18_0, xh18_0⟩ := Ro.pAtom er18
  have := xh18_0.slen.2
  refine Ey rfl ((Y.ix us_lAtoms ty_lAtom rfl ea18 rfl g rfl om).yd) (Ey rfl (Y.ldS (cs := [_, _]) ty_lAtom rfl (eh18 _) rfl) (Est rfl (N.call (a6U (by have y := a4f (t := (fun x => x.2.length)) (l := a) (g := g) om; omega)) rfl rfl rfl dc rfl (fun w Lp hA => ⟨ei18_0, hA.ro xh18_0⟩)) (fun k20 _ => ?_)))
  obtain ⟨a20, m20, c20⟩ := k20
  refine Ent.lenow m0 fun e20 l20 => ?_
  subst e20
  refine Ey rfl ((Y.ix us_Atoms ty_Atom rfl rfl rfl g rfl om).yd) (Ent.p1 (Est rfl (N.set (E := a0n) (j := g) (ex := a[g]) (ce := [_, _]) ty_Atom rfl rfl rfl rfl (Own.mkAtom (x := a[g]) ei18_0 Own.ow) rfl (Nat.zero_add _) rfl (by simp; omega)) (fun _ _ => (En (E.bln (Et (Ez Z3 (Emv rfl rfl (Ey rfl ((Y.add rfl rfl om om).yd) (Eas rfl rfl ?_))))))))))
  exact Eu (E.again br (g + 1) rs (by rw [a1m om rfl]) om om)
 ·refine Eu (E.cf rfl (E.exit (E.the (E.the (E.blh (Et (Ew Z2 (Emv rfl rfl (Eas rfl rfl (Eu (E.ret (Ent.cv (congrArg (ow C3 [_]) (show _ = a by exact a0L om)) ?_))))))))))))
  exact Fg rfl rfl (_, _, _) rfl rfl
theorem a5S {a_b : Option Addr} {m_b c_b : Nat} {b : List (Int × List Int)} : Tr Tryz.prog 97 [.slice a_a m_a c_a, .slice a_b m_b c_b] (fun w L => Ro w L C3 [.slice a_a m_a c_a] a ∧ Ro w L C3 [.slice a_b m_b c_b] b) [] (κ := Unit) (fun k => True) (fun k => .bool (decide (a = b))) (fun k => []) := by
 refine Tr.intro Tryz.func97 rfl (n := 27) rfl (by decide +kernel) bl (fr := [(0, .slice a_a m_a c_a), (1, .slice a_b m_b c_b)]) rfl fun w L hR => ?_
 obtain ⟨ha, hb⟩ := hR
 obtain ⟨rfl, la⟩ := ha.slen
 obtain ⟨rfl, lb⟩ := hb.slen
 refine Ew Z1 (Eas rfl rfl (Eu (Eq_ (Ew Z5 (Emv rfl rfl (Ey rfl ((Y.len us_Atoms rfl).yd) (Emv rfl rfl (Ey rfl ((Y.len us_Atoms rfl).yd) (Ey rfl ((Y.neq rfl rfl).yd) (Ent.d (fun q10 => ?_) (fun q10 => ?_)))))))))))
 ·refine Eu (E.ct rfl (Ew Z1 (Eas rfl rfl ?_)))
  exact Eu (E.ret (E.thr (Fb rfl rfl (by exact Y9 q10))))
 ·refine Eu (E.cf rfl (E.skipc (Et (Eq_ (Ew Z1 (Eas rfl rfl (Eu (E.block (E.loop (κ := Nat) (fun g => g ≤ a.length ∧ a.take g = b.take g) (fun g => [(0, .slice a_a a.length c_a), (1, .slice a_b b.length c_b), (5, .int .i64 (g : Int))]) (fun g => []) (fun g => a.length - g) 0 ⟨by omega, by simp⟩ ⟨rfl, rfl, rfl, trivial⟩ (.refl _) (fun g pg => ?_))))))))))
  obtain ⟨pk, pa⟩ := pg
  refine Eq_ (Ew Z4 (Emv rfl rfl (Emv rfl rfl (Ey rfl ((Y.len us_Atoms rfl).yd) (Ey rfl ((Y.lss rfl rfl).yd) (Ent.d (fun q14 => ?_) (fun q14 => ?_)))))))
  ·refine Eu (E.ct rfl (E.skipc (Et (Eq_ (E.block (Eq_ (D.region (fun j => true) mixed (Dyp 0 rfl (Y.mv rfl) (Dyp 1 rfl (Y.mv rfl) ?_)))))))))
   obtain ⟨eb19, eo19, ec19, ea19, er19, el19, eh19⟩ := ha.elem g om
   obtain ⟨xa19_0, xc19_0, rfl, ei19_0, xh19_0⟩ := Ro.pAtom er19
   have := xh19_0.slen.2
   refine Dyp 2 rfl (Y.ix us_Atoms ty_Atom rfl ea19 rfl g rfl om) (Dy 3 rfl (Y.ldS (cs := [_, _]) ty_Atom rfl (eh19 _) rfl) (Dyp 4 rfl (Y.mv rfl) (Dyp 5 rfl (Y.mv rfl) ?_)))
   obtain ⟨eb23, eo23, ec23, ea23, er23, el23, eh23⟩ := hb.elem g om
   obtain ⟨xa23_0, xc23_0, rfl, ei23_0, xh23_0⟩ := Ro.pAtom er23
   have := xh23_0.slen.2
   refine Dyp 6 rfl (Y.ix us_Atoms ty_Atom rfl ea23 rfl g rfl om) (Dy 7 rfl (Y.ldS (cs := [_, _]) ty_Atom rfl (eh23 _) rfl) (D.st 8 rfl rfl kr (fun _ => rfl) (N.call0 a6V rfl rfl rfl dc (fun w Lp hA => ⟨ei19_0, hA.ro xh19_0, ei23_0, hA.ro xh23_0⟩)) (fun _ _ => (Ent.b (fun q25 => ?_) (fun q25 => ?_)))))
   ·refine Dyp 9 rfl (Y.not (b := true) rfl) (D.done kr (Et (E.cf rfl (E.skipc (E.bln (Et (Ez Z3 (Emv rfl rfl (Ey rfl ((Y.add rfl rfl om om).yd) (Eas rfl rfl ?_))))))))))
    exact Eu (E.again br (g + 1) rs (.refl _) ⟨by omega, S5 om om pa (of_decide_eq_true q25)⟩ om)
   ·refine Dyp 9 rfl (Y.not (b := false) rfl) (D.done kr (Et (E.ct rfl (Ew Z1 (Eas rfl rfl ?_)))))
    exact Eu (E.ret (E.blr (E.thr (E.thr (E.blr (E.thr (Fb rfl rfl (by exact a0c (show g < a.length by omega) (show g < b.length by omega) (of_decide_eq_false q25)))))))))
  ·refine Eu (E.cf rfl (E.exit (E.the (E.the (E.blh (Et (Ew Z1 (Eas rfl rfl ?_))))))))
   exact Eu (E.ret (Fb rfl rfl (by exact X0 (show a.length ≤ g by omega) (show b.length ≤ g by omega) pa)))
theorem a5G : Tr Tryz.prog 28 [.agg #[.slice O9 O7 O8, .slice L7 L5 L6], .int .i64 left] (fun w L => Ro w L eIs [.slice O9 O7 O8] O3 ∧ Ro w L C3 [.slice L7 L5 L6] L4 ∧ 0 ≤ left ∧ left ≤ 1048576) [] (κ := Unit) (fun k => True) (fun k => .int .i64 (szR (O3.length + E0 (fun x => x.2.length) L4) left)) (fun k => []) := by
 refine Tr.intro Tryz.func28 rfl (n := 18) rfl (by decide +kernel) bl (fr := [(0, .agg #[.slice O9 O7 O8, .slice L7 L5 L6]), (1, .int .i64 left)]) rfl fun w L hR => ?_
 obtain ⟨a0x, a0e, as0, as1⟩ := hR
 obtain ⟨rfl, a5W⟩ := a0x.slen
 obtain ⟨rfl, a4w⟩ := a0e.slen
 refine Ew Z2 (Est rfl (N.box (cs := [_, _]) rfl dc rfl) (fun b2 _ => (Eas rfl rfl (Ev Z5 (Ey rfl ((Y.fld fo_lQuery_0 ty_Is dc rfl).yd) (Ey rfl (Y.ld1 ty_Is rfl ((Has.pt m0).sub (cs' := [_]) 0 rfl) rfl) (Emv rfl rfl (Est rfl (N.call0 a0o rfl rfl rfl dc (fun w Lp hA => ⟨hA.ro a0x, (by first | assumption | omega), (by first | assumption | omega)⟩)) (fun _ _ => (Eas rfl rfl (Eu (Eq_ (Ew Z2 (Emv rfl rfl (Ey rfl ((Y.lss rfl rfl).yd) (Ent.d (fun q10 => ?_) (fun q10 => ?_)))))))))))))))))
 ·have z10 := U1 q10 om
  refine Eu (E.ct rfl (Ew Z1 (Eas rfl rfl ?_)))
  exact Eu (E.ret (E.thr (Fg rfl rfl () (congrArg (Value.int .i64) (by unfold szR; split <;> omega)) rfl)))
 ·obtain ⟨z10, y10⟩ := X4 q10 om
  refine Eu (E.cf rfl (E.skipc (Et (Ew Z5 (Ey rfl ((Y.fld fo_lQuery_1 ty_lAtoms dc rfl).yd) (Ey rfl (Y.ld1 ty_lAtoms rfl ((Has.pt m0).sub (cs' := [_]) 1 rfl) rfl) (Emv rfl rfl (Est rfl (N.call0 a5R rfl rfl rfl dc (fun w Lp hA => ⟨hA.ro a0e, (by first | assumption | omega), (by first | assumption | omega)⟩)) (fun _ _ => (Eas rfl rfl (Eu (Eq_ (Ew Z2 (Emv rfl rfl (Ey rfl ((Y.lss rfl rfl).yd) (Ent.d (fun q16 => ?_) (fun q16 => ?_)))))))))))))))))
  ·have z16 := U1 q16 om
   refine Eu (E.ct rfl (Ew Z1 (Eas rfl rfl ?_)))
   exact Eu (E.ret (E.thr (Fg rfl rfl () (congrArg (Value.int .i64) (by unfold szR; split <;> omega)) rfl)))
  ·obtain ⟨z16, y16⟩ := X4 q16 om
   refine Eu (E.cf rfl (E.skipc (Et (Ew Z2 (Emv rfl rfl (Eas rfl rfl ?_))))))
   exact Eu (E.ret (Fg rfl rfl () (congrArg (Value.int .i64) (by have e : szR (O3.length + E0 (fun x => x.2.length) L4) left = left - ((O3.length + E0 (fun x => x.2.length) L4 : Nat) : Int) := by { unfold szR; split <;> omega }; omega)) rfl))
theorem H3 (h0 : O3.length ≤ 1048576) (h1 : E0 (fun x => x.2.length) L4 ≤ 1048576) : Tr Tryz.prog 31 [.agg #[.slice O9 O7 O8, .slice L7 L5 L6]] (fun w L => Ro w L eIs [.slice O9 O7 O8] O3 ∧ Ro w L C3 [.slice L7 L5 L6] L4) [] (κ := (Option Addr × Nat × Nat) × (Option Addr × Nat × Nat)) (fun k => True) (fun k => .agg #[.slice k.1.1 k.1.2.1 k.1.2.2, .slice k.2.1 k.2.2.1 k.2.2.2]) (fun k => [ow eIs [.slice k.1.1 k.1.2.1 k.1.2.2] O3, ow C3 [.slice k.2.1 k.2.2.1 k.2.2.2] L4]) := by
 refine Tr.intro Tryz.func31 rfl (n := 13) rfl (by decide +kernel) bl (fr := [(0, .agg #[.slice O9 O7 O8, .slice L7 L5 L6])]) rfl fun w L hR => ?_
 obtain ⟨a0x, a0e⟩ := hR
 obtain ⟨rfl, a5W⟩ := a0x.slen
 obtain ⟨rfl, a4w⟩ := a0e.slen
 refine Ew Z2 (Est rfl (N.box (cs := [_, _]) rfl dc rfl) (fun b1 _ => (Est rfl (N.alloc ty_Query dc) (fun b2 _ => (Ev Z1 (Est rfl (N.alloc ty_Query dc) (fun b3 _ => (Ev Z5 (Ey rfl ((Y.fld fo_lQuery_0 ty_Is dc rfl).yd) (Ey rfl (Y.ld1 ty_Is rfl ((Has.pt (mS (mS m0))).sub (cs' := [_]) 0 rfl) rfl) (Est rfl (N.call (I4 fc) rfl rfl rfl dc rfl (fun w Lp hA => hA.ro a0x)) (fun k6 _ => ?_))))))))))))
 obtain ⟨a6, m6, c6⟩ := k6
 refine Ent.lenow m0 fun e6 l6 => ?_
 subst e6
 refine Ey rfl ((Y.fld fo_Query_0 ty_Is dc rfl).yd) (Ent.p1 (Est rfl (N.sto (vs := [_]) (cs' := [_, _]) ty_Is rfl rfl rfl rfl rfl bl rfl) (fun _ _ => (Ev Z5 (Ey rfl ((Y.fld fo_lQuery_1 ty_lAtoms dc rfl).yd) (Ey rfl (Y.ld1 ty_lAtoms rfl ((Has.pt (mS (mS (mS m0)))).sub (cs' := [_]) 1 rfl) rfl) (Est rfl (N.call (a5s fc) rfl rfl rfl dc rfl (fun w Lp hA => hA.ro a0e)) (fun k10 _ => ?_))))))))
 obtain ⟨a10, m10, c10⟩ := k10
 refine Ent.lenow m0 fun e10 l10 => ?_
 subst e10
 refine Ey rfl ((Y.fld fo_Query_1 ty_Atoms dc rfl).yd) (Ent.p1 (Est rfl (N.sto (vs := [_]) (cs' := [_, _]) ty_Atoms rfl rfl rfl rfl rfl bl rfl) (fun _ _ => (Ev Z2 (Ey rfl (Y.ldS (cs := [_, _]) ty_Query rfl (Has.pt m0) rfl) (Ent.p3 (Est rfl (N.sto (vs := [_, _]) (cs' := [_, _]) ty_Query rfl rfl rfl rfl rfl bl rfl) (fun _ _ => (Eu (E.ret (Ent.p2 (Ent.p3 (Ent.p1 (Ent.p1 ?_))))))))))))))
 exact F.c1 br rfl rfl (mS (mS m0)) ty_Query rfl ((_, _, _), (_, _, _)) trivial rfl (J := _) (.refl _) (.inl rfl)
theorem a5M {a4x : Option Addr} {a4y a4z : Nat} {a9K : List Int} {a3g : Option Addr} {a3h a3i : Nat} {a8D : List (Int × List Int)} : Tr Tryz.prog 35 [.agg #[.slice O9 O7 O8, .slice L7 L5 L6], .agg #[.slice a4x a4y a4z, .slice a3g a3h a3i]] (fun w L => Ro w L eIs [.slice O9 O7 O8] O3 ∧ Ro w L C3 [.slice L7 L5 L6] L4 ∧ Ro w L eIs [.slice a4x a4y a4z] a9K ∧ Ro w L C3 [.slice a3g a3h a3i] a8D) [] (κ := Unit) (fun k => True) (fun k => .bool (decide ((O3, L4) = (a9K, a8D)))) (fun k => []) := by
 refine Tr.intro Tryz.func35 rfl (n := 17) rfl (by decide +kernel) bl (fr := [(0, .agg #[.slice O9 O7 O8, .slice L7 L5 L6]), (1, .agg #[.slice a4x a4y a4z, .slice a3g a3h a3i])]) rfl fun w L hR => ?_
 obtain ⟨a0x, a0e, a8E, a8c⟩ := hR
 obtain ⟨rfl, a5W⟩ := a0x.slen
 obtain ⟨rfl, a4w⟩ := a0e.slen
 obtain ⟨rfl, b2W⟩ := a8E.slen
 obtain ⟨rfl, b2O⟩ := a8c.slen
 refine Ew Z3 (Est rfl (N.box (cs := [_, _]) rfl dc rfl) (fun b2 _ => (Est rfl (N.box (cs := [_, _]) rfl dc rfl) (fun b3 _ => (Eas rfl rfl (Eu (Eq_ (Ew Z6 (Ey rfl ((Y.fld fo_Query_0 ty_Is dc rfl).yd) (Ey rfl (Y.ld1 ty_Is rfl ((Has.pt (mS m0)).sub (cs' := [_]) 0 rfl) rfl) (Ey rfl ((Y.fld fo_Query_0 ty_Is dc rfl).yd) (Ey rfl (Y.ld1 ty_Is rfl ((Has.pt m0).sub (cs' := [_]) 0 rfl) rfl) (Est rfl (N.call0 Q3 rfl rfl rfl dc (fun w Lp hA => ⟨hA.ro a0x, hA.ro a8E⟩)) (fun _ _ => (Ent.b (fun q9 => ?_) (fun q9 => ?_))))))))))))))))
 ·refine Ey rfl ((Y.not (b := true) rfl).yd) (Eu (E.cf rfl (E.skipc (Et (Eq_ (Ew Z6 (Ey rfl ((Y.fld fo_Query_1 ty_Atoms dc rfl).yd) (Ey rfl (Y.ld1 ty_Atoms rfl ((Has.pt (mS m0)).sub (cs' := [_]) 1 rfl) rfl) (Ey rfl ((Y.fld fo_Query_1 ty_Atoms dc rfl).yd) (Ey rfl (Y.ld1 ty_Atoms rfl ((Has.pt m0).sub (cs' := [_]) 1 rfl) rfl) (Est rfl (N.call0 a5S rfl rfl rfl dc (fun w Lp hA => ⟨hA.ro a0e, hA.ro a8c⟩)) (fun _ _ => (Ent.b (fun q15 => ?_) (fun q15 => ?_))))))))))))))
  ·refine Ey rfl ((Y.not (b := true) rfl).yd) (Eu (E.cf rfl (E.skipc (Et (Ew Z1 (Eas rfl rfl ?_))))))
   exact Eu (E.ret (Fb rfl rfl (by simp_all)))
  ·refine Ey rfl ((Y.not (b := false) rfl).yd) (Eu (E.ct rfl (Ew Z1 (Eas rfl rfl ?_))))
   exact Eu (E.ret (E.thr (Fb rfl rfl (by simp_all))))
 ·refine Ey rfl ((Y.not (b := false) rfl).yd) (Eu (E.ct rfl (Ew Z1 (Eas rfl rfl ?_))))
  exact Eu (E.ret (E.thr (Fb rfl rfl (by simp_all))))
theorem a4i : Tr Tryz.prog 80 [.slice a_a m_a c_a, .int .i64 v] (fun w L => 0 ≤ v ∧ v + ((j8 B3 a : Nat) : Int) ≤ 4611686018427387904) [ow C3 [.slice a_a m_a c_a] a] (κ := Unit) (fun k => True) (fun k => .int .i64 (v + (j8 B3 a : Nat))) (fun k => [ow C3 [.slice a_a m_a c_a] (mkL B3 N3 a v)]) := by
 refine Tr.intro Tryz.func80 rfl (n := 27) rfl (by decide +kernel) bl (fr := [(0, .slice a_a m_a c_a), (1, .int .i64 v)]) rfl fun w L hR => ?_
 obtain ⟨as0, as1⟩ := hR
 refine Ent.lenow m0 fun ea la => ?_
 subst ea
 refine Ew Z1 (Eas rfl rfl (Eu (Eq_ (Ew Z1 (Eas rfl rfl (Eu (E.block (E.loop (κ := Nat) (fun g => g ≤ a.length) (fun g => [(0, .slice a_a a.length c_a), (1, .int .i64 (v + (j8 B3 (a.take g) : Nat))), (5, .int .i64 (g : Int))]) (fun g => [ow C3 [.slice a_a a.length c_a] (mkL B3 N3 (a.take g) v ++ a.drop g)]) (fun g => a.length - g) 0 (Nat.zero_le _) ⟨rfl, frI (by simp [j8]), rfl, trivial⟩ (.refl _) (fun g pg => ?_)))))))))
 have u1 := F0 (t := B3) (l := a) (g := g)
 have u2 := F0 (t := B3) (l := a) (g := g + 1)
 have hlen : (mkL B3 N3 (a.take g) v ++ a.drop g).length = a.length := by rw [List.length_append, T7, ← List.length_append, List.take_append_drop]
 refine Eq_ (Ew Z4 (Emv rfl rfl (Emv rfl rfl (Ey rfl ((Y.len us_Atoms rfl).yd) (Ey rfl ((Y.lss rfl rfl).yd) (Ent.d (fun q9 => ?_) (fun q9 => ?_)))))))
 ·have u3 := E8 (t := B3) (show g < a.length by omega)
  have u4 : B3 a[g] = 1 + j8 v7 a[g].2 := rfl
  refine Eu (E.ct rfl (E.skipc (Et (Eq_ (E.block (Ew Z6 (Emv rfl rfl (Emv rfl rfl (Emv rfl rfl (Ent.adr m0 om fun ab15 ae15 => (Ent.open (x := a[g]) g (a1O (show g < a.length by omega)) fun ce15 => (Ent.p1 (Ent.oAtom fun oa15_1 om15_1 oc15_1 oe15 oi15_0 on15_1 => ?_)))))))))))))
  subst oe15
  subst on15_1
  refine Ey rfl ((Y.ix us_Atoms ty_Atom rfl ae15 rfl g rfl om).yd) (Ey rfl ((Y.fld fo_Atom_0 f8 dc rfl).yd) (Ent.p1 (Est rfl (N.sth (f := 0) (kk := 2) (vs := [_]) (ce' := [_, _]) f8 rfl rfl rfl rfl rfl ae15 rfl rfl bl rfl rfl) (fun _ _ => (Ev Z3 (Emv rfl rfl (Ey rfl ((Y.add rfl rfl om om).yd) (Eas rfl rfl (Eu (Ez Z8 (Emv rfl rfl (Emv rfl rfl (Ey rfl ((Y.ix us_Atoms ty_Atom rfl ae15 rfl g rfl om).yd) (Ey rfl ((Y.fld fo_Atom_1 ty_Is dc rfl).yd) (Ey rfl (Y.ld1 ty_Is rfl ((Has.hole ae15 m0).sub (cs' := [_]) 1 rfl) rfl) (Emv rfl rfl (Ent.p1 (Est rfl (N.call (pre := [_]) M0 rfl rfl rfl dc rfl (fun w Lp hA => ⟨(by first | assumption | omega), (by first | assumption | omega)⟩)) (fun _ _ => (Eas rfl rfl (En (E.bln (Et (Ez Z3 (Emv rfl rfl (Ey rfl ((Y.add rfl rfl om om).yd) (Eas rfl rfl (Eu (Ent.p1 (Ent.shut (Own.mkAtom (x := (v + (j8 B3 (a.take g) : Nat), mkL v7 J7 a[g].2 (v + (j8 B3 (a.take g) : Nat) + 1))) i6 Own.ow) rfl ?_))))))))))))))))))))))))))))))
  exact E.again br (g + 1) ⟨rfl, frI om, rfl, trivial⟩ (a1s (a1r (c := B3) (m := N3) (show g < a.length by omega) rfl)) om om
 ·refine Eu (E.cf rfl (E.exit (E.the (E.the (E.blh (Et (Ew Z2 (Emv rfl rfl (Eas rfl rfl (Eu (E.ret (Ent.cv (congrArg (ow C3 [_]) (show mkL B3 N3 (a.take g) v ++ a.drop g = mkL B3 N3 a v from by first | exact U6 om | (rw [G9 om]))) ?_))))))))))))
  exact Fg rfl rfl () (by rw [show (v + (j8 B3 a : Nat)) = (v + (j8 B3 (a.take g) : Nat)) from (by first | exact U6 om | (rw [G9 om]))]; try rfl) rfl
theorem a4s : Tr Tryz.prog 37 [.agg #[.slice O9 O7 O8, .slice L7 L5 L6], .int .i64 v] (fun w L => 0 ≤ v ∧ v + ((j8 v7 O3 + j8 B3 L4 : Nat) : Int) ≤ 4611686018427387904) [ow eIs [.slice O9 O7 O8] O3, ow C3 [.slice L7 L5 L6] L4] (κ := Unit) (fun k => True) (fun k => .int .i64 (v + ((j8 v7 O3 + j8 B3 L4 : Nat) : Int))) (fun k => [ow eIs [.slice O9 O7 O8] (mkL v7 J7 O3 v), ow C3 [.slice L7 L5 L6] (mkL B3 N3 L4 (v + ((j8 v7 O3 : Nat) : Int)))]) := by
 refine Tr.intro Tryz.func37 rfl (n := 14) rfl (by decide +kernel) bl (fr := [(0, .agg #[.slice O9 O7 O8, .slice L7 L5 L6]), (1, .int .i64 v)]) rfl fun w L hR => ?_
 obtain ⟨as0, as1⟩ := hR
 refine Ent.lenow m0 fun b1j a5W => ?_
 subst b1j
 refine Ent.lenow (mS m0) fun b0z a4w => ?_
 subst b0z
 refine Ew Z2 (Est rfl (N.box (cs := [_, _]) rfl dc rfl) (fun b2 _ => (Eas rfl rfl (Ev Z5 (Ey rfl ((Y.fld fo_Query_0 ty_Is dc rfl).yd) (Ey rfl (Y.ld1 ty_Is rfl ((Has.pt m0).sub (cs' := [_]) 0 rfl) rfl) (Emv rfl rfl (Ent.p1 (Est rfl (N.call (pre := [_]) M0 rfl rfl rfl dc rfl (fun w Lp hA => ⟨(by first | assumption | omega), (by first | assumption | omega)⟩)) (fun _ _ => (Eas rfl rfl (Ev Z5 (Ey rfl ((Y.fld fo_Query_1 ty_Atoms dc rfl).yd) (Ey rfl (Y.ld1 ty_Atoms rfl ((Has.pt (mS m0)).sub (cs' := [_]) 1 rfl) rfl) (Emv rfl rfl (Ent.p2 (Est rfl (N.call (pre := [_]) a4i rfl rfl rfl dc rfl (fun w Lp hA => ⟨(by first | assumption | omega), (by first | assumption | omega)⟩)) (fun _ _ => (Eas rfl rfl (Ev Z2 (Emv rfl rfl (Eas rfl rfl (Eu (E.ret (Ent.cv (congrArg (ow C3 [_]) (show mkL B3 N3 L4 (v + (j8 v7 O3 : Nat)) = mkL B3 N3 L4 (v + ((j8 v7 O3 : Nat) : Int)) from by first | rfl | omega | (congr 1; omega))) (Ent.p1 ?_))))))))))))))))))))))))))
 exact Fg rfl rfl () (by rw [show (v + ((j8 v7 O3 + j8 B3 L4 : Nat) : Int)) = ((v + (j8 v7 O3 : Nat)) + (j8 B3 L4 : Nat)) from (by first | rfl | omega | (congr 1; omega))]; try rfl) rfl
theorem a6p : Tr Tryz.prog 297 [.slice a_s m_s c_s, .int .i64 v] (fun w L => Ro w L eIs [.slice a_s m_s c_s] s) [] (κ := Unit) (fun k => True) (fun k => .int .i64 (D3 (fun x => decide (x = v)) s)) (fun k => []) := by
 refine Tr.intro Tryz.func297 rfl (n := 19) rfl (by decide +kernel) bl (fr := [(0, .slice a_s m_s c_s), (1, .int .i64 v)]) rfl fun w L hR => ?_
 have hs := hR
 obtain ⟨rfl, ls⟩ := hs.slen
 refine Ew Z1 (Eas rfl rfl (Eu (Eq_ (Ew Z3 (Emv rfl rfl (Ey rfl ((Y.len us_Is rfl).yd) (Emv rfl rfl (Eu (E.block (E.loop (κ := Nat) (fun g => g ≤ s.length ∧ ∀ x ∈ s.take g, decide (x = v) = false) (fun g => [(0, .slice a_s s.length c_s), (1, .int .i64 v), (7, .int .i64 (↑s.length : Int)), (8, .int .i64 (g : Int))]) (fun g => []) (fun g => s.length - g) 0 ⟨by omega, by simp⟩ ⟨rfl, rfl, rfl, rfl, trivial⟩ (.refl _) (fun g pg => ?_)))))))))))
 obtain ⟨pk, pa⟩ := pg
 refine Ew Z1 (Ey rfl ((Y.lss rfl rfl).yd) (Ent.d (fun q9 => ?_) (fun q9 => ?_)))
 ·refine Eu (Eq_ (E.ct rfl (E.skipc (Et (Eq_ (E.block (Ew Z2 (Emv rfl rfl (Eas rfl rfl (Ev Z6 (Emv rfl rfl (Emv rfl rfl (Emv rfl rfl ?_)))))))))))))
  obtain ⟨eb14, eo14, ea14, ei14, eh14⟩ := hs.elemI g om
  refine Ey rfl ((Y.ix us_Is f8 rfl ea14 rfl g rfl om).yd) (Ey rfl (Y.ld1 f8 rfl (eh14 _) rfl) (Ey rfl ((Y.eql rfl rfl).yd) (Ent.d (fun q16 => ?_) (fun q16 => ?_))))
  ·refine Eu (E.ct rfl (Ew Z2 (Emv rfl rfl (Eas rfl rfl ?_))))
   exact Eu (E.ret (E.blr (E.thr (E.thr (E.blr (E.thr (Fg rfl rfl () (congrArg (Value.int .i64) (by exact M3 (p := fun x => decide (x = v)) om pa (decide_eq_true om))) rfl)))))))
  ·refine Eu (E.cf rfl (E.skipc (E.bln (Et (Ez Z2 (Ey rfl ((Y.add rfl rfl om om).yd) (Emv rfl rfl ?_)))))))
   exact Eu (E.again br (g + 1) rs (.refl _) ⟨by omega, S0 (p := fun x => decide (x = v)) om pa (decide_eq_false om)⟩ om)
 ·refine Eu (Eq_ (E.cf rfl (E.exit (E.the (E.the (E.blh (Et (Ew Z1 (Eas rfl rfl ?_)))))))))
  exact Eu (E.ret (Fg rfl rfl () (congrArg (Value.int .i64) (by exact J2 om pa)) rfl))
theorem W2 : Tr Tryz.prog 243 [.int .i64 t] (fun w L => True) [] (κ := Unit) (fun k => True) (fun k => .bool (inR t 10 17)) (fun k => []) := by
 refine Tr.intro Tryz.func243 rfl (n := 5) rfl (by decide +kernel) bl (fr := [(0, .int .i64 t)]) rfl fun w L hR => (Ew Z1 (Eas rfl rfl (Ev Z3 (Emv rfl rfl (Est rfl (N.call0 D4 rfl rfl rfl dc (fun w Lp hA => trivial)) (fun _ _ => (Eas rfl rfl ?_)))))))
 exact Eu (E.ret (Fg rfl rfl () rfl rfl))
theorem Y7 : Tr Tryz.prog 250 [.int .i64 t] (fun w L => True) [] (κ := Unit) (fun k => True) (fun k => .bool (inR t 10 17)) (fun k => []) := by
 refine Tr.intro Tryz.func250 rfl (n := 5) rfl (by decide +kernel) bl (fr := [(0, .int .i64 t)]) rfl fun w L hR => (Ew Z1 (Eas rfl rfl (Ev Z3 (Emv rfl rfl (Est rfl (N.call0 E6 rfl rfl rfl dc (fun w Lp hA => trivial)) (fun _ _ => (Eas rfl rfl ?_)))))))
 exact Eu (E.ret (Fg rfl rfl () rfl rfl))
theorem a0y : Tr Tryz.prog 277 [.agg #[.slice w3 y7 v8, .slice l4 o2 l3], .int .i64 t] (fun w L => Ro w L eIs [.slice w3 y7 v8] j4 ∧ Ro w L eIs [.slice l4 o2 l3] f9) [] (κ := Unit) (fun k => True) (fun k => .int .i64 (D3 (fun x => decide (x = t)) (j4.take (min j4.length f9.length)))) (fun k => []) := by
 refine Tr.intro Tryz.func277 rfl (n := 17) rfl (by decide +kernel) bl (fr := [(0, .agg #[.slice w3 y7 v8, .slice l4 o2 l3]), (1, .int .i64 t)]) rfl fun w L hR => ?_
 obtain ⟨B0, r6⟩ := hR
 obtain ⟨rfl, W3⟩ := B0.slen
 obtain ⟨rfl, G7⟩ := r6.slen
 refine Ew Z2 (Est rfl (N.box (cs := [_, _]) rfl dc rfl) (fun b2 _ => (Eas rfl rfl (Ev Z13 (Ey rfl ((Y.fld fo_Binding_0 ty_Is dc rfl).yd) (Ey rfl (Y.ld1 ty_Is rfl ((Has.pt m0).sub (cs' := [_]) 0 rfl) rfl) (Ey rfl ((Y.fld fo_Binding_0 ty_Is dc rfl).yd) (Ey rfl (Y.ld1 ty_Is rfl ((Has.pt m0).sub (cs' := [_]) 0 rfl) rfl) (Ey rfl ((Y.len us_Is rfl).yd) (Ey rfl ((Y.fld fo_Binding_1 ty_Is dc rfl).yd) (Ey rfl (Y.ld1 ty_Is rfl ((Has.pt m0).sub (cs' := [_]) 1 rfl) rfl) (Ey rfl ((Y.len us_Is rfl).yd) (Ey rfl ((Y.mnN (a := j4.length) (b := f9.length) rfl rfl).yd) ?_)))))))))))))
 have rs14 := B0.upto (min j4.length f9.length) om
 have rl14 := rs14.slen.1
 have rc14 := B0.cap
 refine Ey rfl ((Y.slTo (h := min j4.length f9.length) us_Is f8 rfl rfl om).yd) (Emv rfl rfl (Est rfl (N.call0 a6p rfl rfl rfl dc (fun w Lp hA => hA.ro rs14)) (fun _ _ => (Eas rfl rfl ?_))))
 exact Eu (E.ret (Fg rfl rfl () rfl rfl))
theorem V9 : Tr Tryz.prog 209 [.agg #[.slice w3 y7 v8, .slice l4 o2 l3], .int .i64 term] (fun w L => Ro w L eIs [.slice w3 y7 v8] j4 ∧ Ro w L eIs [.slice l4 o2 l3] f9) [] (κ := Unit) (fun k => True) (fun k => .int .i64 (B7 (j4, f9) term)) (fun k => []) := by
 refine Tr.intro Tryz.func209 rfl (n := 20) rfl (by decide +kernel) bl (fr := [(0, .agg #[.slice w3 y7 v8, .slice l4 o2 l3]), (1, .int .i64 term)]) rfl fun w L hR => ?_
 obtain ⟨B0, r6⟩ := hR
 obtain ⟨rfl, W3⟩ := B0.slen
 obtain ⟨rfl, G7⟩ := r6.slen
 refine Ew Z2 (Est rfl (N.box (cs := [_, _]) rfl dc rfl) (fun b2 _ => (Eas rfl rfl (Eu (Eq_ (Ew Z3 (Emv rfl rfl (Est rfl (N.call0 Y7 rfl rfl rfl dc (fun w Lp hA => trivial)) (fun _ _ => (Ent.b (fun q7 => ?_) (fun q7 => ?_)))))))))))
 ·refine Ey rfl ((Y.not (b := true) rfl).yd) (Eu (E.cf rfl (E.skipc (Et (Ew Z4 (Ey rfl (Y.ldS (cs := [_, _]) ty_Binding rfl (Has.pt m0) rfl) (Emv rfl rfl (Est rfl (N.call0 a0y rfl rfl rfl dc (fun w Lp hA => ⟨hA.ro B0, hA.ro r6⟩)) (fun _ _ => (Eas rfl rfl (Eu (Eq_ (Ew Z2 (Emv rfl rfl (Ey rfl ((Y.lss rfl rfl).yd) (Ent.d (fun q14 => ?_) (fun q14 => ?_)))))))))))))))))
  ·refine Eu (E.ct rfl (Ew Z1 (Eas rfl rfl ?_)))
   exact Eu (E.ret (E.thr (Fg rfl rfl () (congrArg (Value.int .i64) (by exact a7F q7 q14)) rfl)))
  ·obtain ⟨z1, z2⟩ := a7H q14
   rw [List.length_take] at z2
   refine Eu (E.cf rfl (E.skipc (Et (Ew Z6 (Ey rfl ((Y.fld fo_Binding_1 ty_Is dc rfl).yd) (Ey rfl (Y.ld1 ty_Is rfl ((Has.pt m0).sub (cs' := [_]) 1 rfl) rfl) (Emv rfl rfl ?_)))))))
   obtain ⟨eb18, eo18, ea18, ei18, eh18⟩ := r6.elemI ((D3 (fun x => decide (x = term)) (j4.take (min j4.length f9.length))).toNat) om
   refine Ey rfl ((Y.ix us_Is f8 rfl ea18 rfl ((D3 (fun x => decide (x = term)) (j4.take (min j4.length f9.length))).toNat) om om).yd) (Ey rfl (Y.ld1 f8 rfl (eh18 _) rfl) (Eas rfl rfl ?_))
   exact Eu (E.ret (Fg rfl rfl () (congrArg (Value.int .i64) (by exact b0x (b := (j4, f9)) q7 q14 (show (D3 (fun x => decide (x = term)) (j4.take (min j4.length f9.length))).toNat < f9.length by omega))) rfl))
 ·refine Ey rfl ((Y.not (b := false) rfl).yd) (Eu (E.ct rfl (Ew Z2 (Emv rfl rfl (Eas rfl rfl ?_)))))
  exact Eu (E.ret (E.thr (Fg rfl rfl () (congrArg (Value.int .i64) (by exact a5t q7)) rfl)))
theorem a0Q : Tr Tryz.prog 171 [.agg #[.slice w3 y7 v8, .slice l4 o2 l3], .int .i64 term] (fun w L => Ro w L eIs [.slice w3 y7 v8] j4 ∧ Ro w L eIs [.slice l4 o2 l3] f9) [] (κ := Unit) (fun k => True) (fun k => .int .i64 (B7 (j4, f9) term)) (fun k => []) := by
 refine Tr.intro Tryz.func171 rfl (n := 36) rfl (by decide +kernel) bl (fr := [(0, .agg #[.slice w3 y7 v8, .slice l4 o2 l3]), (1, .int .i64 term)]) rfl fun w L hR => ?_
 obtain ⟨B0, r6⟩ := hR
 obtain ⟨rfl, W3⟩ := B0.slen
 obtain ⟨rfl, G7⟩ := r6.slen
 refine Ew Z2 (Est rfl (N.box (cs := [_, _]) rfl dc rfl) (fun b2 _ => (Eas rfl rfl (Eu (Eq_ (Ew Z3 (Emv rfl rfl (Est rfl (N.call0 W2 rfl rfl rfl dc (fun w Lp hA => trivial)) (fun _ _ => (Ent.b (fun q7 => ?_) (fun q7 => ?_)))))))))))
 ·refine Ey rfl ((Y.not (b := true) rfl).yd) (Eu (E.cf rfl (E.skipc (Et (Eq_ (Ew Z1 (Eas rfl rfl (Eu (E.block (E.loop (κ := Nat) (fun g => (g ≤ j4.length ∧ g ≤ f9.length) ∧ ∀ x ∈ j4.take g, decide (x = term) = false) (fun g => [(1, .int .i64 term), (2, .pointer (some ⟨b2, 0, none⟩)), (5, .int .i64 (g : Int))]) (fun g => [pt b2 125 [.slice w3 j4.length v8, .slice l4 f9.length l3]]) (fun g => j4.length - g) 0 ⟨by omega, by simp⟩ ⟨rfl, rfl, rfl, trivial⟩ (.refl _) (fun g pg => ?_)))))))))))
  obtain ⟨pk, pa⟩ := pg
  refine Eq_ (Ew Z12 (Emv rfl rfl (Ey rfl ((Y.fld fo_Binding_0 ty_Is dc rfl).yd) (Ey rfl (Y.ld1 ty_Is rfl ((Has.pt m0).sub (cs' := [_]) 0 rfl) rfl) (Ey rfl ((Y.len us_Is rfl).yd) (Ey rfl ((Y.lss rfl rfl).yd) (Ent.d (fun q14 => ?_) (fun q14 => ?_))))))))
  ·refine Emv rfl rfl (Emv rfl rfl (Ey rfl ((Y.fld fo_Binding_1 ty_Is dc rfl).yd) (Ey rfl (Y.ld1 ty_Is rfl ((Has.pt m0).sub (cs' := [_]) 1 rfl) rfl) (Ey rfl ((Y.len us_Is rfl).yd) (Ey rfl ((Y.lss rfl rfl).yd) (Ent.d (fun q20 => ?_) (fun q20 => ?_)))))))
   ·refine Ey rfl ((Y.pkt rfl rfl).yd) (Eu (E.ct rfl (E.skipc (Et (Eq_ (E.block (Ew Z7 (Ey rfl ((Y.fld fo_Binding_0 ty_Is dc rfl).yd) (Ey rfl (Y.ld1 ty_Is rfl ((Has.pt m0).sub (cs' := [_]) 0 rfl) rfl) (Emv rfl rfl ?_))))))))))
    obtain ⟨eb27, eo27, ea27, ei27, eh27⟩ := B0.elemI g om
    refine Ey rfl ((Y.ix us_Is f8 rfl ea27 rfl g rfl om).yd) (Ey rfl (Y.ld1 f8 rfl (eh27 _) rfl) (Emv rfl rfl (Ey rfl ((Y.eql rfl rfl).yd) (Ent.d (fun q30 => ?_) (fun q30 => ?_)))))
    ·refine Eu (E.ct rfl (Ew Z6 (Ey rfl ((Y.fld fo_Binding_1 ty_Is dc rfl).yd) (Ey rfl (Y.ld1 ty_Is rfl ((Has.pt m0).sub (cs' := [_]) 1 rfl) rfl) (Emv rfl rfl ?_)))))
     obtain ⟨eb34, eo34, ea34, ei34, eh34⟩ := r6.elemI g om
     refine Ey rfl ((Y.ix us_Is f8 rfl ea34 rfl g rfl om).yd) (Ey rfl (Y.ld1 f8 rfl (eh34 _) rfl) (Eas rfl rfl ?_))
     exact Eu (E.ret (E.blr (E.thr (E.thr (E.blr (E.thr (Fg rfl rfl () (congrArg (Value.int .i64) (by exact a7T (b := (j4, f9)) q7 (show g < j4.length by omega) (show g < f9.length by omega) om pa)) rfl)))))))
    ·refine Eu (E.cf rfl (E.skipc (E.bln (Et (Ez Z3 (Emv rfl rfl (Ey rfl ((Y.add rfl rfl om om).yd) (Eas rfl rfl ?_))))))))
     exact Eu (E.again br (g + 1) rs (.refl _) ⟨by omega, S0 (p := fun x => decide (x = term)) (show g < j4.length by omega) pa (decide_eq_false q30)⟩ om)
   ·refine Ey rfl ((Y.pkt rfl rfl).yd) (Eu (E.cf rfl (E.exit (E.the (E.the (E.blh (Et (Ew Z1 (Eas rfl rfl ?_)))))))))
    exact Eu (E.ret (Fg rfl rfl () (congrArg (Value.int .i64) (by exact a6r (b := (j4, f9)) q7 (g := g) (show ¬ (g < j4.length ∧ g < f9.length) by omega) pa)) rfl))
  ·refine Emv rfl rfl (Es rfl (Es rfl (Es rfl (Es rfl (Es rfl (Ey rfl ((Y.pkf rfl rfl).yd) (Eu (E.cf rfl (E.exit (E.the (E.the (E.blh (Et (Ew Z1 (Eas rfl rfl ?_)))))))))))))))
   exact Eu (E.ret (Fg rfl rfl () (congrArg (Value.int .i64) (by exact a6r (b := (j4, f9)) q7 (g := g) (show ¬ (g < j4.length ∧ g < f9.length) by omega) pa)) rfl))
 ·refine Ey rfl ((Y.not (b := false) rfl).yd) (Eu (E.ct rfl (Ew Z2 (Emv rfl rfl (Eas rfl rfl ?_)))))
  exact Eu (E.ret (E.thr (Fg rfl rfl () (congrArg (Value.int .i64) (by exact a5t q7)) rfl)))
theorem a5A {o7 : Option Addr} {u7 o6 : Nat} {i8 : List Int} {o1 : Option Addr} {s5 o0 : Nat} {d6 : List (Int × List Int)} (hz : i8.length ≤ 1048576) : Tr Tryz.prog 197 [.agg #[.slice o7 u7 o6, .slice o1 s5 o0], .agg #[.slice w3 y7 v8, .slice l4 o2 l3]] (fun w L => Ro w L eIs [.slice o7 u7 o6] i8 ∧ Ro w L C3 [.slice o1 s5 o0] d6 ∧ Ro w L eIs [.slice w3 y7 v8] j4 ∧ Ro w L eIs [.slice l4 o2 l3] f9) [] (κ := Option Addr × Nat × Nat) (fun k => True) (fun k => .slice k.1 k.2.1 k.2.2) (fun k => [ow eIs [.slice k.1 k.2.1 k.2.2] (i8.map (B7 (j4, f9)))]) := by
 refine Tr.intro Tryz.func197 rfl (n := 24) rfl (by decide +kernel) bl (fr := [(0, .agg #[.slice o7 u7 o6, .slice o1 s5 o0]), (1, .agg #[.slice w3 y7 v8, .slice l4 o2 l3])]) rfl fun w L hR => ?_
 obtain ⟨x8, t8, B0, r6⟩ := hR
 obtain ⟨rfl, P9⟩ := x8.slen
 obtain ⟨rfl, M9⟩ := t8.slen
 obtain ⟨rfl, W3⟩ := B0.slen
 obtain ⟨rfl, G7⟩ := r6.slen
 have jv := a9A (b := (j4, f9)) (l := i8) x8.i64 B0.i64 r6.i64
 refine Ew Z3 (Est rfl (N.box (cs := [_, _]) rfl dc rfl) (fun b2 _ => (Est rfl (N.box (cs := [_, _]) rfl dc rfl) (fun b3 _ => (Eas rfl rfl (Ev Z2 (Est rfl (N.bsl (pvs := []) (cs := []) us_Is f8 rfl dc dc (o8 rfl rfl) rfl dc) (fun b8 _ => (Ent.drop (Eas rfl rfl (Eu (Eq_ (Ew Z4 (Ey rfl ((Y.fld fo_Query_0 ty_Is dc rfl).yd) (Ey rfl (Y.ld1 ty_Is rfl ((Has.pt (mS m0)).sub (cs' := [_]) 0 rfl) rfl) (Ey rfl ((Y.len us_Is rfl).yd) (Emv rfl rfl (Eu (E.block (Ent.mkow (A := []) (Own.nil (E := Enc.int) (e := tI) (a := (some ⟨b8, 0, none⟩))) rfl (Ent.cv (congrArg (ow eIs [_]) (show [] = (i8.take 0).map (B7 (j4, f9)) from by first | rfl | (simp; done) | grind [d1, d2, t1, t2])) (E.loop (κ := Nat × Option Addr × Nat × Nat) (fun g => g.1 ≤ i8.length ∧ True) (fun g => [(3, .pointer (some ⟨b3, 0, none⟩)), (5, .slice g.2.1 g.2.2.1 g.2.2.2), (10, .slice o7 i8.length o6), (11, .int .i64 (↑i8.length : Int)), (12, .int .i64 (↑g.1 : Int))]) (fun g => [ow eIs [.slice g.2.1 g.2.2.1 g.2.2.2] ((i8.take g.1).map (B7 (j4, f9))), pt b3 125 [.slice w3 j4.length v8, .slice l4 f9.length l3], pt b2 61 [.slice o7 i8.length o6, .slice o1 d6.length o0]]) (fun g => i8.length - g.1) (0, (some ⟨b8, 0, none⟩), 0, 0) ⟨Nat.zero_le _, by simp⟩ ⟨rfl, rfl, rfl, rfl, rfl, trivial⟩ (.refl _) (fun g pg => ?_)))))))))))))))))))))))
 obtain ⟨g, aA0_0, mA0_0, cA0_0⟩ := g
 try dsimp only at pg
 try dsimp only
 obtain ⟨pk, pa⟩ := pg
 refine Ent.lenow m0 fun eaA0_0 laA0_0 => ?_
 subst eaA0_0
 refine Ew Z1 (Ey rfl ((Y.lss rfl rfl).yd) (Ent.d (fun q13 => ?_) (fun q13 => ?_)))
 ·obtain ⟨eb14, eo14, ea14, ei14, eh14⟩ := x8.elemI g om
  refine Eu (Eq_ (E.ct rfl (E.skipc (Et (Eq_ (E.block (Ew Z3 (Ey rfl ((Y.ix us_Is f8 rfl ea14 rfl g rfl om).yd) (Ey rfl (Y.ld1 f8 rfl (eh14 _) rfl) (Eas rfl rfl (Eu (Ez Z7 (Emv rfl rfl (Ey rfl (Y.ldS (cs := [_, _]) ty_Binding rfl (Has.pt (mS m0)) rfl) (Emv rfl rfl (Est rfl (N.call0 V9 rfl rfl rfl dc (fun w Lp hA => ⟨hA.ro B0, hA.ro r6⟩)) (fun _ _ => (Est rfl (N.bsl (pvs := [_]) (cs := [_]) us_Is f8 rfl dc dc (o8 rfl rfl) rfl dc) (fun b20 _ => (Ent.p1 (Est rfl (N.push (E := Enc.int) (ex := B7 (j4, f9) i8[g]) us_Is f8 rfl rfl rfl (Own.int i6) rfl bn bn dc) (fun p21 _ => (Eas rfl rfl (En (E.bln (Et (Ez Z2 (Ey rfl ((Y.add rfl rfl om om).yd) (Emv rfl rfl (Eu (Ent.cv (congrArg (ow eIs [_]) (show ((i8.take g).map (B7 (j4, f9))) ++ [B7 (j4, f9) i8[g]] = (i8.take (g + 1)).map (B7 (j4, f9)) from by grind [d1, d2, t1, t2])) (Ent.p2 (Ent.p2 (Ent.p2 ?_))))))))))))))))))))))))))))))))))
  exact Ea (g + 1, p21.1, (((i8.take g).map (B7 (j4, f9))).length + 1), p21.2) ⟨oz, trivial⟩
 ·refine Eu (Eq_ (E.cf rfl (E.exit (E.the (E.the (E.blh (Et (Ew Z2 (Emv rfl rfl (Eas rfl rfl (Eu (E.ret (Ent.cv (congrArg (ow eIs [_]) (show _ = i8.map (B7 (j4, f9)) by grind [d1, d2, t1, t2])) ?_)))))))))))))
  exact Fg rfl rfl (_, _, _) rfl rfl
end Go.Proofs.YtdopeopehgdccaaGreat
