import Derived.Test.YtdopeopehgdccaaGreatBs
import Derived.Test.YtdopeopehgdccaaGreatT1
import Derived.Test.YtdopeopehgdccaaGreatBc
namespace Go.Proofs.YtdopeopehgdccaaGreat
open Go.RowKit
set_option linter.all false
set_option maxHeartbeats 2000000
attribute [local irreducible] Nop Yd Yp Ent Has Tr FnP FnP2 Src
variable {j5 W4 I9 W5 left : Int} {a : List (Int × List Int × Int × Int × Int)} {X3 : List Int} {R6 R7 m_a c_a m_b c_b : Nat} {R8 a_a a_b : Option Addr}
theorem a4F : Tr Tryz.prog 59 [.agg #[.int .i64 j5, .slice R8 R6 R7, .int .i64 W4, .int .i64 I9, .int .i64 W5], .int .i64 left] (fun w L => I64 j5 ∧ Ro w L eIs [.slice R8 R6 R7] X3 ∧ I64 W4 ∧ I64 I9 ∧ I64 W5 ∧ 0 ≤ left ∧ left ≤ 1048576) [] (κ := Unit) (fun k => True) (fun k => .int .i64 (szR (X3.length) left)) (fun k => []) := by
 refine Tr.intro Tryz.func59 rfl (n := 12) rfl (by decide +kernel) bl (fr := [(0, .agg #[.int .i64 j5, .slice R8 R6 R7, .int .i64 W4, .int .i64 I9, .int .i64 W5]), (1, .int .i64 left)]) rfl fun w L hR => ?_
 obtain ⟨E4, W8, a6v, a1t, a6w, as0, as1⟩ := hR
 obtain ⟨rfl, a6x⟩ := W8.slen
 refine Ew Z2 (Est rfl (N.box (cs := [_, _, _, _, _]) rfl dc rfl) (fun b2 _ => (Eas rfl rfl (Ev Z5 (Ey rfl ((Y.fld fo_lMethod_1 ty_Is dc rfl).yd) (Ey rfl (Y.ld1 ty_Is rfl ((Has.pt m0).sub (cs' := [_]) 1 rfl) rfl) (Emv rfl rfl (Est rfl (N.call0 a0o rfl rfl rfl dc (fun w Lp hA => ⟨hA.ro W8, (by first | assumption | omega), (by first | assumption | omega)⟩)) (fun _ _ => (Eas rfl rfl (Eu (Eq_ (Ew Z2 (Emv rfl rfl (Ey rfl ((Y.lss rfl rfl).yd) (Ent.d (fun q10 => ?_) (fun q10 => ?_)))))))))))))))))
 ·have z10 := U1 q10 om
  refine Eu (E.ct rfl (Ew Z1 (Eas rfl rfl ?_)))
  exact Eu (E.ret (E.thr (Fg rfl rfl () (congrArg (Value.int .i64) (by unfold szR; split <;> omega)) rfl)))
 ·obtain ⟨z10, y10⟩ := X4 q10 om
  refine Eu (E.cf rfl (E.skipc (Et (Ew Z2 (Emv rfl rfl (Eas rfl rfl ?_))))))
  exact Eu (E.ret (Fg rfl rfl () (congrArg (Value.int .i64) (by have e : szR (X3.length) left = left - ((X3.length : Nat) : Int) := by { unfold szR; split <;> omega }; omega)) rfl))
theorem a4R (h1 : X3.length ≤ 1048576) : Tr Tryz.prog 69 [.agg #[.int .i64 j5, .slice R8 R6 R7, .int .i64 W4, .int .i64 I9, .int .i64 W5]] (fun w L => I64 j5 ∧ Ro w L eIs [.slice R8 R6 R7] X3 ∧ I64 W4 ∧ I64 I9 ∧ I64 W5) [] (κ := Option Addr × Nat × Nat) (fun k => True) (fun k => .agg #[.int .i64 j5, .slice k.1 k.2.1 k.2.2, .int .i64 W4, .int .i64 I9, .int .i64 W5]) (fun k => [ow eIs [.slice k.1 k.2.1 k.2.2] X3]) := by
 refine Tr.intro Tryz.func69 rfl (n := 21) rfl (by decide +kernel) bl (fr := [(0, .agg #[.int .i64 j5, .slice R8 R6 R7, .int .i64 W4, .int .i64 I9, .int .i64 W5])]) rfl fun w L hR => ?_
 obtain ⟨E4, W8, a6v, a1t, a6w⟩ := hR
 obtain ⟨rfl, a6x⟩ := W8.slen
 refine Ew Z2 (Est rfl (N.box (cs := [_, _, _, _, _]) rfl dc rfl) (fun b1 _ => (Est rfl (N.alloc ty_Method dc) (fun b2 _ => (Ev Z1 (Est rfl (N.alloc ty_Method dc) (fun b3 _ => (Ev Z4 (Ey rfl ((Y.fld fo_lMethod_0 f8 dc rfl).yd) (Ey rfl (Y.ld1 f8 rfl ((Has.pt (mS (mS m0))).sub (cs' := [_]) 0 rfl) rfl) (Ey rfl ((Y.fld fo_Method_0 f8 dc rfl).yd) (Est rfl (N.sto (vs := [_]) (cs' := [_, _, _, _, _]) f8 rfl rfl rfl rfl rfl bl rfl) (fun _ _ => (Ev Z5 (Ey rfl ((Y.fld fo_lMethod_1 ty_Is dc rfl).yd) (Ey rfl (Y.ld1 ty_Is rfl ((Has.pt (mS (mS m0))).sub (cs' := [_]) 1 rfl) rfl) (Est rfl (N.call (I4 fc) rfl rfl rfl dc rfl (fun w Lp hA => hA.ro W8)) (fun k9 _ => ?_))))))))))))))))))
 obtain ⟨a9, m9, c9⟩ := k9
 refine Ent.lenow m0 fun e9 l9 => ?_
 subst e9
 refine Ey rfl ((Y.fld fo_Method_1 ty_Is dc rfl).yd) (Ent.p1 (Est rfl (N.sto (vs := [_]) (cs' := [_, _, _, _, _]) ty_Is rfl rfl rfl rfl rfl bl rfl) (fun _ _ => (Ev Z4 (Ey rfl ((Y.fld fo_lMethod_2 f8 dc rfl).yd) (Ey rfl (Y.ld1 f8 rfl ((Has.pt (mS (mS (mS m0)))).sub (cs' := [_]) 2 rfl) rfl) (Ey rfl ((Y.fld fo_Method_2 f8 dc rfl).yd) (Est rfl (N.sto (vs := [_]) (cs' := [_, _, _, _, _]) f8 rfl rfl rfl rfl rfl bl rfl) (fun _ _ => (Ev Z4 (Ey rfl ((Y.fld fo_lMethod_3 f8 dc rfl).yd) (Ey rfl (Y.ld1 f8 rfl ((Has.pt (mS (mS (mS m0)))).sub (cs' := [_]) 3 rfl) rfl) (Ey rfl ((Y.fld fo_Method_3 f8 dc rfl).yd) (Est rfl (N.sto (vs := [_]) (cs' := [_, _, _, _, _]) f8 rfl rfl rfl rfl rfl bl rfl) (fun _ _ => (Ev Z4 (Ey rfl ((Y.fld fo_lMethod_4 f8 dc rfl).yd) (Ey rfl (Y.ld1 f8 rfl ((Has.pt (mS (mS (mS m0)))).sub (cs' := [_]) 4 rfl) rfl) (Ey rfl ((Y.fld fo_Method_4 f8 dc rfl).yd) (Est rfl (N.sto (vs := [_]) (cs' := [_, _, _, _, _]) f8 rfl rfl rfl rfl rfl bl rfl) (fun _ _ => (Ev Z2 (Ey rfl (Y.ldS (cs := [_, _, _, _, _]) ty_Method rfl (Has.pt m0) rfl) (Ent.p2 (Est rfl (N.sto (vs := [_, _, _, _, _]) (cs' := [_, _, _, _, _]) ty_Method rfl rfl rfl rfl rfl bl rfl) (fun _ _ => (Eu (E.ret (Ent.p2 ?_)))))))))))))))))))))))))))))
 exact F.c1 br rfl rfl (mS m0) ty_Method rfl (_, _, _) trivial rfl (J := _) (.refl _) (.inl rfl)
theorem a4U {J4 : Int} {a2w : Option Addr} {a2x a2y : Nat} {a8a : List Int} {a3s : Int} {a0M : Int} {a3t : Int} : Tr Tryz.prog 78 [.agg #[.int .i64 j5, .slice R8 R6 R7, .int .i64 W4, .int .i64 I9, .int .i64 W5], .agg #[.int .i64 J4, .slice a2w a2x a2y, .int .i64 a3s, .int .i64 a0M, .int .i64 a3t]] (fun w L => I64 j5 ∧ Ro w L eIs [.slice R8 R6 R7] X3 ∧ I64 W4 ∧ I64 I9 ∧ I64 W5 ∧ I64 J4 ∧ Ro w L eIs [.slice a2w a2x a2y] a8a ∧ I64 a3s ∧ I64 a0M ∧ I64 a3t) [] (κ := Unit) (fun k => True) (fun k => .bool (decide ((j5, X3, W4, I9, W5) = (J4, a8a, a3s, a0M, a3t)))) (fun k => []) := by
 refine Tr.intro Tryz.func78 rfl (n := 31) rfl (by decide +kernel) bl (fr := [(0, .agg #[.int .i64 j5, .slice R8 R6 R7, .int .i64 W4, .int .i64 I9, .int .i64 W5]), (1, .agg #[.int .i64 J4, .slice a2w a2x a2y, .int .i64 a3s, .int .i64 a0M, .int .i64 a3t])]) rfl fun w L hR => ?_
 obtain ⟨E4, W8, a6v, a1t, a6w, a3u, a6y, b2p, b0y, b2q⟩ := hR
 obtain ⟨rfl, a6x⟩ := W8.slen
 obtain ⟨rfl, b2r⟩ := a6y.slen
 refine Ew Z3 (Est rfl (N.box (cs := [_, _, _, _, _]) rfl dc rfl) (fun b2 _ => (Est rfl (N.box (cs := [_, _, _, _, _]) rfl dc rfl) (fun b3 _ => (Eas rfl rfl (Eu (Eq_ (Ew Z5 (Ey rfl ((Y.fld fo_Method_0 f8 dc rfl).yd) (Ey rfl (Y.ld1 f8 rfl ((Has.pt (mS m0)).sub (cs' := [_]) 0 rfl) rfl) (Ey rfl ((Y.fld fo_Method_0 f8 dc rfl).yd) (Ey rfl (Y.ld1 f8 rfl ((Has.pt m0).sub (cs' := [_]) 0 rfl) rfl) (Ey rfl ((Y.neq rfl rfl).yd) (Ent.d (fun q9 => ?_) (fun q9 => ?_)))))))))))))))
 ·refine Eu (E.ct rfl (Ew Z1 (Eas rfl rfl ?_)))
  exact Eu (E.ret (E.thr (Fb rfl rfl (by simp_all))))
 ·refine Eu (E.cf rfl (E.skipc (Et (Eq_ (Ew Z6 (Ey rfl ((Y.fld fo_Method_1 ty_Is dc rfl).yd) (Ey rfl (Y.ld1 ty_Is rfl ((Has.pt (mS m0)).sub (cs' := [_]) 1 rfl) rfl) (Ey rfl ((Y.fld fo_Method_1 ty_Is dc rfl).yd) (Ey rfl (Y.ld1 ty_Is rfl ((Has.pt m0).sub (cs' := [_]) 1 rfl) rfl) (Est rfl (N.call0 Q3 rfl rfl rfl dc (fun w Lp hA => ⟨hA.ro W8, hA.ro a6y⟩)) (fun _ _ => (Ent.b (fun q14 => ?_) (fun q14 => ?_)))))))))))))
  ·refine Ey rfl ((Y.not (b := true) rfl).yd) (Eu (E.cf rfl (E.skipc (Et (Eq_ (Ew Z5 (Ey rfl ((Y.fld fo_Method_2 f8 dc rfl).yd) (Ey rfl (Y.ld1 f8 rfl ((Has.pt (mS m0)).sub (cs' := [_]) 2 rfl) rfl) (Ey rfl ((Y.fld fo_Method_2 f8 dc rfl).yd) (Ey rfl (Y.ld1 f8 rfl ((Has.pt m0).sub (cs' := [_]) 2 rfl) rfl) (Ey rfl ((Y.neq rfl rfl).yd) (Ent.d (fun q20 => ?_) (fun q20 => ?_)))))))))))))
   ·refine Eu (E.ct rfl (Ew Z1 (Eas rfl rfl ?_)))
    exact Eu (E.ret (E.thr (Fb rfl rfl (by simp_all))))
   ·refine Eu (E.cf rfl (E.skipc (Et (Eq_ (Ew Z5 (Ey rfl ((Y.fld fo_Method_3 f8 dc rfl).yd) (Ey rfl (Y.ld1 f8 rfl ((Has.pt (mS m0)).sub (cs' := [_]) 3 rfl) rfl) (Ey rfl ((Y.fld fo_Method_3 f8 dc rfl).yd) (Ey rfl (Y.ld1 f8 rfl ((Has.pt m0).sub (cs' := [_]) 3 rfl) rfl) (Ey rfl ((Y.neq rfl rfl).yd) (Ent.d (fun q25 => ?_) (fun q25 => ?_))))))))))))
    ·refine Eu (E.ct rfl (Ew Z1 (Eas rfl rfl ?_)))
     exact Eu (E.ret (E.thr (Fb rfl rfl (by simp_all))))
    ·refine Eu (E.cf rfl (E.skipc (Et (Eq_ (Ew Z5 (Ey rfl ((Y.fld fo_Method_4 f8 dc rfl).yd) (Ey rfl (Y.ld1 f8 rfl ((Has.pt (mS m0)).sub (cs' := [_]) 4 rfl) rfl) (Ey rfl ((Y.fld fo_Method_4 f8 dc rfl).yd) (Ey rfl (Y.ld1 f8 rfl ((Has.pt m0).sub (cs' := [_]) 4 rfl) rfl) (Ey rfl ((Y.neq rfl rfl).yd) (Ent.d (fun q30 => ?_) (fun q30 => ?_))))))))))))
     ·refine Eu (E.ct rfl (Ew Z1 (Eas rfl rfl ?_)))
      exact Eu (E.ret (E.thr (Fb rfl rfl (by simp_all))))
     ·refine Eu (E.cf rfl (E.skipc (Et (Ew Z1 (Eas rfl rfl ?_)))))
      exact Eu (E.ret (Fb rfl rfl (by simp_all)))
  ·refine Ey rfl ((Y.not (b := false) rfl).yd) (Eu (E.ct rfl (Ew Z1 (Eas rfl rfl ?_))))
   exact Eu (E.ret (E.thr (Fb rfl rfl (by simp_all))))
theorem a4Q {g9 : Int} {n9 : Option Addr} {o5 n8 : Nat} {j3 : List Int} {H5 : Int} {l4 : Option Addr} {o2 l3 : Nat} {f9 : List Int} : Tr Tryz.prog 129 [.agg #[.int .i64 g9, .slice n9 o5 n8], .agg #[.int .i64 H5, .slice l4 o2 l3]] (fun w L => I64 g9 ∧ Ro w L eIs [.slice n9 o5 n8] j3 ∧ I64 H5 ∧ Ro w L eIs [.slice l4 o2 l3] f9) [] (κ := Unit) (fun k => True) (fun k => .bool (decide ((g9, j3) = (H5, f9)))) (fun k => []) := by
 refine Tr.intro Tryz.func129 rfl (n := 16) rfl (by decide +kernel) bl (fr := [(0, .agg #[.int .i64 g9, .slice n9 o5 n8]), (1, .agg #[.int .i64 H5, .slice l4 o2 l3])]) rfl fun w L hR => ?_
 obtain ⟨D5, s3, a2z, r6⟩ := hR
 obtain ⟨rfl, G6⟩ := s3.slen
 obtain ⟨rfl, G7⟩ := r6.slen
 refine Ew Z3 (Est rfl (N.box (cs := [_, _]) rfl dc rfl) (fun b2 _ => (Est rfl (N.box (cs := [_, _]) rfl dc rfl) (fun b3 _ => (Eas rfl rfl (Eu (Eq_ (Ew Z5 (Ey rfl ((Y.fld fo_Access_0 f8 dc rfl).yd) (Ey rfl (Y.ld1 f8 rfl ((Has.pt (mS m0)).sub (cs' := [_]) 0 rfl) rfl) (Ey rfl ((Y.fld fo_Access_0 f8 dc rfl).yd) (Ey rfl (Y.ld1 f8 rfl ((Has.pt m0).sub (cs' := [_]) 0 rfl) rfl) (Ey rfl ((Y.neq rfl rfl).yd) (Ent.d (fun q9 => ?_) (fun q9 => ?_)))))))))))))))
 ·refine Eu (E.ct rfl (Ew Z1 (Eas rfl rfl ?_)))
  exact Eu (E.ret (E.thr (Fb rfl rfl (by simp_all))))
 ·refine Eu (E.cf rfl (E.skipc (Et (Eq_ (Ew Z6 (Ey rfl ((Y.fld fo_Access_1 ty_Is dc rfl).yd) (Ey rfl (Y.ld1 ty_Is rfl ((Has.pt (mS m0)).sub (cs' := [_]) 1 rfl) rfl) (Ey rfl ((Y.fld fo_Access_1 ty_Is dc rfl).yd) (Ey rfl (Y.ld1 ty_Is rfl ((Has.pt m0).sub (cs' := [_]) 1 rfl) rfl) (Est rfl (N.call0 Q3 rfl rfl rfl dc (fun w Lp hA => ⟨hA.ro s3, hA.ro r6⟩)) (fun _ _ => (Ent.b (fun q14 => ?_) (fun q14 => ?_)))))))))))))
  ·refine Ey rfl ((Y.not (b := true) rfl).yd) (Eu (E.cf rfl (E.skipc (Et (Ew Z1 (Eas rfl rfl ?_))))))
   exact Eu (E.ret (Fb rfl rfl (by simp_all)))
  ·refine Ey rfl ((Y.not (b := false) rfl).yd) (Eu (E.ct rfl (Ew Z1 (Eas rfl rfl ?_))))
   exact Eu (E.ret (E.thr (Fb rfl rfl (by simp_all))))
theorem a4v : Tr Tryz.prog 8 [.slice a_a m_a c_a, .int .i64 left] (fun w L => Ro w L z8 [.slice a_a m_a c_a] a ∧ 0 ≤ left ∧ left ≤ 1048576) [] (κ := Unit) (fun k => True) (fun k => .int .i64 (szR (E0 (fun x => x.2.1.length) a) left)) (fun k => []) := by
 refine Tr.intro Tryz.func8 rfl (n := 27) rfl (by decide +kernel) bl (fr := [(0, .slice a_a m_a c_a), (1, .int .i64 left)]) rfl fun w L hR => ?_
 obtain ⟨ha, as0, as1⟩ := hR
 obtain ⟨rfl, la⟩ := ha.slen
 refine Ew Z1 (Eas rfl rfl (Ev Z5 (Emv rfl rfl (Emv rfl rfl (Ey rfl ((Y.len us_lMethods rfl).yd) (Ey rfl ((Y.sub rfl rfl om om).yd) (Eas rfl rfl (Eu (Eq_ (Ew Z2 (Emv rfl rfl (Ey rfl ((Y.lss rfl rfl).yd) (Ent.d (fun q11 => ?_) (fun q11 => ?_))))))))))))))
 ·refine Eu (E.ct rfl (Ew Z1 (Eas rfl rfl ?_)))
  exact Eu (E.ret (E.thr (Fg rfl rfl () (congrArg (Value.int .i64) (by exact a5i q11)) rfl)))
 ·refine Eu (E.cf rfl (E.skipc (Et (Eq_ (Ew Z1 (Eas rfl rfl (Eu (E.block (E.loop (κ := Nat) (fun g => g ≤ a.length ∧ (a.length : Int) + (j8 (fun x => x.2.1.length) (a.take g) : Nat) ≤ left) (fun g => [(0, .slice a_a a.length c_a), (1, .int .i64 (left - ((a.length : Int) + (j8 (fun x => x.2.1.length) (a.take g) : Nat)))), (5, .int .i64 (g : Int))]) (fun g => []) (fun g => a.length - g) 0 ⟨by omega, by simp [j8]; omega⟩ ⟨rfl, frI (by simp [j8]), rfl, trivial⟩ (.refl _) (fun g pg => ?_))))))))))
  obtain ⟨pk, pa⟩ := pg
  refine Eq_ (Ew Z4 (Emv rfl rfl (Emv rfl rfl (Ey rfl ((Y.len us_lMethods rfl).yd) (Ey rfl ((Y.lss rfl rfl).yd) (Ent.d (fun q15 => ?_) (fun q15 => ?_)))))))
  ·refine Eu (E.ct rfl (E.skipc (Et (Eq_ (E.block (Ew Z7 (Emv rfl rfl (Emv rfl rfl ?_))))))))
   obtain ⟨eb20, eo20, ec20, ea20, er20, el20, eh20⟩ := ha.elem g om
   obtain ⟨xa20_0, xc20_0, rfl, ei20_0, xh20_0, ei20_2, ei20_3, ei20_4⟩ := Ro.pMethod er20
   have := xh20_0.slen.2
   refine Ey rfl ((Y.ix us_lMethods ty_lMethod rfl ea20 rfl g rfl om).yd) (Ey rfl (Y.ldS (cs := [_, _, _, _, _]) ty_lMethod rfl (eh20 _) rfl) (Emv rfl rfl (Est rfl (N.call0 a4F rfl rfl rfl dc (fun w Lp hA => ⟨ei20_0, hA.ro xh20_0, ei20_2, ei20_3, ei20_4, (by first | assumption | omega), (by first | assumption | omega)⟩)) (fun _ _ => (Eas rfl rfl (Ev Z2 (Emv rfl rfl (Ey rfl ((Y.lss rfl rfl).yd) (Ent.d (fun q25 => ?_) (fun q25 => ?_))))))))))
   ·have z25 := U1 q25 om
    refine Eu (E.ct rfl (Ew Z1 (Eas rfl rfl ?_)))
    exact Eu (E.ret (E.blr (E.thr (E.thr (E.blr (E.thr (Fg rfl rfl () (congrArg (Value.int .i64) (by exact a5j (t := (fun x => x.2.1.length)) (n := a[g].2.1.length) (show g < a.length by omega) rfl om)) rfl)))))))
   ·obtain ⟨z25, y25⟩ := X4 q25 om
    refine Eu (E.cf rfl (E.skipc (E.bln (Et (Ez Z3 (Emv rfl rfl (Ey rfl ((Y.add rfl rfl om om).yd) (Eas rfl rfl ?_))))))))
    exact Eu (E.again br (g + 1) ⟨rfl, frI (by rw [z25]; have y := E8 (t := (fun x => x.2.1.length)) (show g < a.length by omega); omega), rfl, trivial⟩ (.refl _) ⟨by omega, by have y := E8 (t := (fun x => x.2.1.length)) (show g < a.length by omega); omega⟩ om)
  ·refine Eu (E.cf rfl (E.exit (E.the (E.the (E.blh (Et (Ew Z2 (Emv rfl rfl (Eas rfl rfl ?_)))))))))
   exact Eu (E.ret (Fg rfl rfl () (congrArg (Value.int .i64) (by exact a5D (t := (fun x => x.2.1.length)) (show a.length ≤ g by omega) pa)) rfl))
theorem I2 (hz : E0 (fun x => x.2.1.length) a ≤ 1048576) : Tr Tryz.prog 13 [.slice a_a m_a c_a] (fun w L => Ro w L z8 [.slice a_a m_a c_a] a) [] (κ := Option Addr × Nat × Nat) (fun k => True) (fun k => .slice k.1 k.2.1 k.2.2) (fun k => [ow z8 [.slice k.1 k.2.1 k.2.2] a]) := by
 refine Tr.intro Tryz.func13 rfl (n := 23) rfl (by decide +kernel) bl (fr := [(0, .slice a_a m_a c_a)]) rfl fun w L hR => ?_
 have ha := hR
 obtain ⟨rfl, la⟩ := ha.slen
 have hlen : a.length ≤ E0 (fun x => x.2.1.length) a := by unfold E0; omega
 refine Ew Z1 (Eas rfl rfl (Ev Z4 (Emv rfl rfl (Ey rfl ((Y.len us_lMethods rfl).yd) (Est rfl (N.make (m := a.length) us_Methods ty_Method rfl rfl rfl mx om dc) (fun b7 _ => (Ent.mkow (A := [_]) (Own.made (E := W1) (e := tMethod) (zx := (0, [], 0, 0, 0)) (Own.mkMethod (x := (0, [], 0, 0, 0)) ⟨by decide, by decide⟩ Own.nil ⟨by decide, by decide⟩ ⟨by decide, by decide⟩ ⟨by decide, by decide⟩) mx) rfl (Eas rfl rfl (Eu (Eq_ (Ew Z1 (Eas rfl rfl (Eu (E.block (E.loop (κ := Nat) (fun g => g ≤ a.length) (fun g => [(0, .slice a_a a.length c_a), (3, .slice (some ⟨b7, 0, none⟩) a.length a.length), (4, .int .i64 (g : Int))]) (fun g => [ow z8 [.slice (some ⟨b7, 0, none⟩) a.length a.length] (a.take g ++ List.replicate (a.length - g) (0, [], 0, 0, 0))]) (fun g => a.length - g) 0 (Nat.zero_le _) ⟨rfl, rfl, rfl, trivial⟩ (by simp) (fun g pg => (Eq_ (Ew Z4 (Emv rfl rfl (Emv rfl rfl (Ey rfl ((Y.len us_lMethods rfl).yd) (Ey rfl ((Y.lss rfl rfl).yd) (Ent.d (fun q11 => ?_) (fun q11 => ?_))))))))))))))))))))))))
 ·refine Eu (E.ct rfl (E.skipc (Et (Eq_ (E.block (Ez Z9 (Emv rfl rfl (Emv rfl rfl (Emv rfl rfl (Emv rfl rfl ?_))))))))))
  obtain ⟨eb18, eo18, ec18, ea18, er18, el18, eh18⟩ := ha.elem g om
  obtain ⟨xa18_0, xc18_0, rfl, ei18_0, xh18_0, ei18_2, ei18_3, ei18_4⟩ := Ro.pMethod er18
  have := xh18_0.slen.2
  refine Ey rfl ((Y.ix us_lMethods ty_lMethod rfl ea18 rfl g rfl om).yd) (Ey rfl (Y.ldS (cs := [_, _, _, _, _]) ty_lMethod rfl (eh18 _) rfl) (Est rfl (N.call (a4R (by have y := a4f (t := (fun x => x.2.1.length)) (l := a) (g := g) om; omega)) rfl rfl rfl dc rfl (fun w Lp hA => ⟨ei18_0, hA.ro xh18_0, ei18_2, ei18_3, ei18_4⟩)) (fun k20 _ => ?_)))
  obtain ⟨a20, m20, c20⟩ := k20
  refine Ent.lenow m0 fun e20 l20 => ?_
  subst e20
  refine Ey rfl ((Y.ix us_Methods ty_Method rfl rfl rfl g rfl om).yd) (Ent.p1 (Est rfl (N.set (E := W1) (j := g) (ex := a[g]) (ce := [_, _, _, _, _]) ty_Method rfl rfl rfl rfl (Own.mkMethod (x := a[g]) ei18_0 Own.ow ei18_2 ei18_3 ei18_4) rfl (Nat.zero_add _) rfl (by simp; omega)) (fun _ _ => (En (E.bln (Et (Ez Z3 (Emv rfl rfl (Ey rfl ((Y.add rfl rfl om om).yd) (Eas rfl rfl ?_))))))))))
  exact Eu (E.again br (g + 1) rs (by rw [a1m om rfl]) om om)
 ·refine Eu (E.cf rfl (E.exit (E.the (E.the (E.blh (Et (Ew Z2 (Emv rfl rfl (Eas rfl rfl (Eu (E.ret (Ent.cv (congrArg (ow z8 [_]) (show _ = a by exact a0L om)) ?_))))))))))))
  exact Fg rfl rfl (_, _, _) rfl rfl
theorem a4a {b : List (Int × List Int × Int × Int × Int)} : Tr Tryz.prog 19 [.slice a_a m_a c_a, .slice a_b m_b c_b] (fun w L => Ro w L z8 [.slice a_a m_a c_a] a ∧ Ro w L z8 [.slice a_b m_b c_b] b) [] (κ := Unit) (fun k => True) (fun k => .bool (decide (a = b))) (fun k => []) := by
 refine Tr.intro Tryz.func19 rfl (n := 27) rfl (by decide +kernel) bl (fr := [(0, .slice a_a m_a c_a), (1, .slice a_b m_b c_b)]) rfl fun w L hR => ?_
 obtain ⟨ha, hb⟩ := hR
 obtain ⟨rfl, la⟩ := ha.slen
 obtain ⟨rfl, lb⟩ := hb.slen
 refine Ew Z1 (Eas rfl rfl (Eu (Eq_ (Ew Z5 (Emv rfl rfl (Ey rfl ((Y.len us_Methods rfl).yd) (Emv rfl rfl (Ey rfl ((Y.len us_Methods rfl).yd) (Ey rfl ((Y.neq rfl rfl).yd) (Ent.d (fun q10 => ?_) (fun q10 => ?_)))))))))))
 ·refine Eu (E.ct rfl (Ew Z1 (Eas rfl rfl ?_)))
  exact Eu (E.ret (E.thr (Fb rfl rfl (by exact Y9 q10))))
 ·refine Eu (E.cf rfl (E.skipc (Et (Eq_ (Ew Z1 (Eas rfl rfl (Eu (E.block (E.loop (κ := Nat) (fun g => g ≤ a.length ∧ a.take g = b.take g) (fun g => [(0, .slice a_a a.length c_a), (1, .slice a_b b.length c_b), (5, .int .i64 (g : Int))]) (fun g => []) (fun g => a.length - g) 0 ⟨by omega, by simp⟩ ⟨rfl, rfl, rfl, trivial⟩ (.refl _) (fun g pg => ?_))))))))))
  obtain ⟨pk, pa⟩ := pg
  refine Eq_ (Ew Z4 (Emv rfl rfl (Emv rfl rfl (Ey rfl ((Y.len us_Methods rfl).yd) (Ey rfl ((Y.lss rfl rfl).yd) (Ent.d (fun q14 => ?_) (fun q14 => ?_)))))))
  ·refine Eu (E.ct rfl (E.skipc (Et (Eq_ (E.block (Eq_ (D.region (fun j => true) mixed (Dyp 0 rfl (Y.mv rfl) (Dyp 1 rfl (Y.mv rfl) ?_)))))))))
   obtain ⟨eb19, eo19, ec19, ea19, er19, el19, eh19⟩ := ha.elem g om
   obtain ⟨xa19_0, xc19_0, rfl, ei19_0, xh19_0, ei19_2, ei19_3, ei19_4⟩ := Ro.pMethod er19
   have := xh19_0.slen.2
   refine Dyp 2 rfl (Y.ix us_Methods ty_Method rfl ea19 rfl g rfl om) (Dy 3 rfl (Y.ldS (cs := [_, _, _, _, _]) ty_Method rfl (eh19 _) rfl) (Dyp 4 rfl (Y.mv rfl) (Dyp 5 rfl (Y.mv rfl) ?_)))
   obtain ⟨eb23, eo23, ec23, ea23, er23, el23, eh23⟩ := hb.elem g om
   obtain ⟨xa23_0, xc23_0, rfl, ei23_0, xh23_0, ei23_2, ei23_3, ei23_4⟩ := Ro.pMethod er23
   have := xh23_0.slen.2
   refine Dyp 6 rfl (Y.ix us_Methods ty_Method rfl ea23 rfl g rfl om) (Dy 7 rfl (Y.ldS (cs := [_, _, _, _, _]) ty_Method rfl (eh23 _) rfl) (D.st 8 rfl rfl kr (fun _ => rfl) (N.call0 a4U rfl rfl rfl dc (fun w Lp hA => ⟨ei19_0, hA.ro xh19_0, ei19_2, ei19_3, ei19_4, ei23_0, hA.ro xh23_0, ei23_2, ei23_3, ei23_4⟩)) (fun _ _ => (Ent.b (fun q25 => ?_) (fun q25 => ?_)))))
   ·refine Dyp 9 rfl (Y.not (b := true) rfl) (D.done kr (Et (E.cf rfl (E.skipc (E.bln (Et (Ez Z3 (Emv rfl rfl (Ey rfl ((Y.add rfl rfl om om).yd) (Eas rfl rfl ?_))))))))))
    exact Eu (E.again br (g + 1) rs (.refl _) ⟨by omega, S5 om om pa (of_decide_eq_true q25)⟩ om)
   ·refine Dyp 9 rfl (Y.not (b := false) rfl) (D.done kr (Et (E.ct rfl (Ew Z1 (Eas rfl rfl ?_)))))
    exact Eu (E.ret (E.blr (E.thr (E.thr (E.blr (E.thr (Fb rfl rfl (by exact a0c (show g < a.length by omega) (show g < b.length by omega) (of_decide_eq_false q25)))))))))
  ·refine Eu (E.cf rfl (E.exit (E.the (E.the (E.blh (Et (Ew Z1 (Eas rfl rfl ?_))))))))
   exact Eu (E.ret (Fb rfl rfl (by exact X0 (show a.length ≤ g by omega) (show b.length ≤ g by omega) pa)))
theorem a3W {a : List (Int × List Int)} {b : List (Int × List Int)} : Tr Tryz.prog 52 [.slice a_a m_a c_a, .slice a_b m_b c_b] (fun w L => Ro w L t7 [.slice a_a m_a c_a] a ∧ Ro w L t7 [.slice a_b m_b c_b] b) [] (κ := Unit) (fun k => True) (fun k => .bool (decide (a = b))) (fun k => []) := by
 refine Tr.intro Tryz.func52 rfl (n := 27) rfl (by decide +kernel) bl (fr := [(0, .slice a_a m_a c_a), (1, .slice a_b m_b c_b)]) rfl fun w L hR => ?_
 obtain ⟨ha, hb⟩ := hR
 obtain ⟨rfl, la⟩ := ha.slen
 obtain ⟨rfl, lb⟩ := hb.slen
 refine Ew Z1 (Eas rfl rfl (Eu (Eq_ (Ew Z5 (Emv rfl rfl (Ey rfl ((Y.len us_Accesss rfl).yd) (Emv rfl rfl (Ey rfl ((Y.len us_Accesss rfl).yd) (Ey rfl ((Y.neq rfl rfl).yd) (Ent.d (fun q10 => ?_) (fun q10 => ?_)))))))))))
 ·refine Eu (E.ct rfl (Ew Z1 (Eas rfl rfl ?_)))
  exact Eu (E.ret (E.thr (Fb rfl rfl (by exact Y9 q10))))
 ·refine Eu (E.cf rfl (E.skipc (Et (Eq_ (Ew Z1 (Eas rfl rfl (Eu (E.block (E.loop (κ := Nat) (fun g => g ≤ a.length ∧ a.take g = b.take g) (fun g => [(0, .slice a_a a.length c_a), (1, .slice a_b b.length c_b), (5, .int .i64 (g : Int))]) (fun g => []) (fun g => a.length - g) 0 ⟨by omega, by simp⟩ ⟨rfl, rfl, rfl, trivial⟩ (.refl _) (fun g pg => ?_))))))))))
  obtain ⟨pk, pa⟩ := pg
  refine Eq_ (Ew Z4 (Emv rfl rfl (Emv rfl rfl (Ey rfl ((Y.len us_Accesss rfl).yd) (Ey rfl ((Y.lss rfl rfl).yd) (Ent.d (fun q14 => ?_) (fun q14 => ?_)))))))
  ·refine Eu (E.ct rfl (E.skipc (Et (Eq_ (E.block (Eq_ (D.region (fun j => true) mixed (Dyp 0 rfl (Y.mv rfl) (Dyp 1 rfl (Y.mv rfl) ?_)))))))))
   obtain ⟨eb19, eo19, ec19, ea19, er19, el19, eh19⟩ := ha.elem g om
   obtain ⟨xa19_0, xc19_0, rfl, ei19_0, xh19_0⟩ := Ro.pAccess er19
   have := xh19_0.slen.2
   refine Dyp 2 rfl (Y.ix us_Accesss ty_Access rfl ea19 rfl g rfl om) (Dy 3 rfl (Y.ldS (cs := [_, _]) ty_Access rfl (eh19 _) rfl) (Dyp 4 rfl (Y.mv rfl) (Dyp 5 rfl (Y.mv rfl) ?_)))
   obtain ⟨eb23, eo23, ec23, ea23, er23, el23, eh23⟩ := hb.elem g om
   obtain ⟨xa23_0, xc23_0, rfl, ei23_0, xh23_0⟩ := Ro.pAccess er23
   have := xh23_0.slen.2
   refine Dyp 6 rfl (Y.ix us_Accesss ty_Access rfl ea23 rfl g rfl om) (Dy 7 rfl (Y.ldS (cs := [_, _]) ty_Access rfl (eh23 _) rfl) (D.st 8 rfl rfl kr (fun _ => rfl) (N.call0 a4Q rfl rfl rfl dc (fun w Lp hA => ⟨ei19_0, hA.ro xh19_0, ei23_0, hA.ro xh23_0⟩)) (fun _ _ => (Ent.b (fun q25 => ?_) (fun q25 => ?_)))))
   ·refine Dyp 9 rfl (Y.not (b := true) rfl) (D.done kr (Et (E.cf rfl (E.skipc (E.bln (Et (Ez Z3 (Emv rfl rfl (Ey rfl ((Y.add rfl rfl om om).yd) (Eas rfl rfl ?_))))))))))
    exact Eu (E.again br (g + 1) rs (.refl _) ⟨by omega, S5 om om pa (of_decide_eq_true q25)⟩ om)
   ·refine Dyp 9 rfl (Y.not (b := false) rfl) (D.done kr (Et (E.ct rfl (Ew Z1 (Eas rfl rfl ?_)))))
    exact Eu (E.ret (E.blr (E.thr (E.thr (E.blr (E.thr (Fb rfl rfl (by exact a0c (show g < a.length by omega) (show g < b.length by omega) (of_decide_eq_false q25)))))))))
  ·refine Eu (E.cf rfl (E.exit (E.the (E.the (E.blh (Et (Ew Z1 (Eas rfl rfl ?_))))))))
   exact Eu (E.ret (Fb rfl rfl (by exact X0 (show a.length ≤ g by omega) (show b.length ≤ g by omega) pa)))
end Go.Proofs.YtdopeopehgdccaaGreat
