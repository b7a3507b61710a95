import Derived.Test.YtdopeopehgdccaaGreatBs
import Derived.Test.YtdopeopehgdccaaGreatT3
import Derived.Test.YtdopeopehgdccaaGreatT5
import Derived.Test.YtdopeopehgdccaaGreatBd
namespace Go.Proofs.YtdopeopehgdccaaGreat
open Go.RowKit
set_option linter.all false
set_option maxHeartbeats 2000000
attribute [local irreducible] Nop Yd Yp Ent Has Tr FnP FnP2 Src
variable {x i8 R5 u0 a0F : Int} {s1 s2 x9 f7 : List Int} {m_s1 c_s1 m_s2 c_s2 B3 y6 t8 s5 : Nat} {a_s1 a_s2 y7 s6 : Option Addr}
theorem a3x : Tr Tryz.prog 289 [.int .i64 x] (fun w L => True) [] (κ := Unit) (fun k => True) (fun k => .bool (false)) (fun k => []) := by
 refine Tr.intro Tryz.func289 rfl (n := 6) rfl (by decide +kernel) bl (fr := [(0, .int .i64 x)]) rfl fun w L hR => (Ew Z1 (Eas rfl rfl (Ev Z4 (Emv rfl rfl (Emv rfl rfl (Ey rfl ((Y.neq rfl rfl).yd) (Eas rfl rfl ?_)))))))
 exact Eu (E.ret (Fb rfl rfl (by simp)))
theorem a2H {y : Int} : Tr Tryz.prog 232 [.int .i64 x, .int .i64 y] (fun w L => True) [] (κ := Unit) (fun k => True) (fun k => .int .i64 (K3 x y)) (fun k => []) := by
 refine Tr.intro Tryz.func232 rfl (n := 20) rfl (by decide +kernel) bl (fr := [(0, .int .i64 x), (1, .int .i64 y)]) rfl fun w L hR => (Ew Z1 (Eas rfl rfl (Ev Z3 (Emv rfl rfl (Est rfl (N.call0 a3x rfl rfl rfl dc (fun w Lp hA => trivial)) (fun _ _ => (Eas rfl rfl (Ev Z3 (Emv rfl rfl (Est rfl (N.call0 a3x rfl rfl rfl dc (fun w Lp hA => trivial)) (fun _ _ => (Eas rfl rfl (Eu (Eq_ (Ew Z1 (Emv rfl rfl (Eu (E.cf rfl (E.skipc (Et (Eq_ (Ew Z1 (Emv rfl rfl (Eu (E.cf rfl (E.skipc (Et (Eq_ (Ew Z3 (Emv rfl rfl (Emv rfl rfl (Ey rfl ((Y.lss rfl rfl).yd) (Ent.d (fun q16 => ?_) (fun q16 => ?_))))))))))))))))))))))))))))))))))
 ·refine Eu (E.ct rfl (Ew Z1 (Eas rfl rfl ?_)))
  exact Eu (E.ret (E.thr (Fg rfl rfl () (congrArg (Value.int .i64) (by grind [K3, d1, d2, t1, t2])) rfl)))
 ·refine Eu (E.cf rfl (E.skipc (Et (Eq_ (Ew Z3 (Emv rfl rfl (Emv rfl rfl (Ey rfl ((Y.gtr rfl rfl).yd) (Ent.d (fun q19 => ?_) (fun q19 => ?_))))))))))
  ·refine Eu (E.ct rfl (Ew Z1 (Eas rfl rfl ?_)))
   exact Eu (E.ret (E.thr (Fg rfl rfl () (congrArg (Value.int .i64) (by grind [K3, d1, d2, t1, t2])) rfl)))
  ·refine Eu (E.cf rfl (E.skipc (Et (Ew Z1 (Eas rfl rfl ?_)))))
   exact Eu (E.ret (Fg rfl rfl () (congrArg (Value.int .i64) (by grind [K3, d1, d2, t1, t2])) rfl))
theorem b0m {a_vals : Option Addr} {m_vals c_vals : Nat} {vals : List Int} : Tr Tryz.prog 231 [.slice a_vals m_vals c_vals] (fun w L => Ro w L eIs [.slice a_vals m_vals c_vals] vals) [] (κ := Unit) (fun k => True) (fun k => .int .i64 (orI vals)) (fun k => []) := by
 refine Tr.intro Tryz.func231 rfl (n := 18) rfl (by decide +kernel) bl (fr := [(0, .slice a_vals m_vals c_vals)]) rfl fun w L hR => ?_
 have hvals := hR
 obtain ⟨rfl, lvals⟩ := hvals.slen
 refine Ew Z1 (Eas rfl rfl (Ev Z1 (Eas rfl rfl (Eu (Eq_ (Ew Z3 (Emv rfl rfl (Ey rfl ((Y.len us_Is rfl).yd) (Emv rfl rfl (Eu (E.block (E.loop (κ := Nat) (fun g => g ≤ vals.length ∧ orI vals = orI (vals.drop g)) (fun g => [(3, .int .i64 0), (6, .slice a_vals vals.length c_vals), (7, .int .i64 (↑vals.length : Int)), (8, .int .i64 (g : Int))]) (fun g => []) (fun g => vals.length - g) 0 ⟨Nat.zero_le _, by simp⟩ ⟨rfl, rfl, rfl, rfl, trivial⟩ (.refl _) (fun g pg => ?_)))))))))))))
 obtain ⟨pk, pa⟩ := pg
 refine Ew Z1 (Ey rfl ((Y.lss rfl rfl).yd) (Ent.d (fun q9 => ?_) (fun q9 => ?_)))
 ·obtain ⟨eb10, eo10, ea10, ei10, eh10⟩ := hvals.elemI g om
  refine Eu (Eq_ (E.ct rfl (E.skipc (Et (Eq_ (E.block (Ew Z3 (Ey rfl ((Y.ix us_Is f6 rfl ea10 rfl g rfl om).yd) (Ey rfl (Y.ld1 f6 rfl (eh10 _) rfl) (Eas rfl rfl (Ev Z3 (Emv rfl rfl (Emv rfl rfl (Ey rfl ((Y.neq rfl rfl).yd) (Ent.d (fun q14 => ?_) (fun q14 => ?_))))))))))))))))
  ·refine Eu (E.ct rfl (Ew Z2 (Emv rfl rfl (Eas rfl rfl ?_))))
   exact Eu (E.ret (E.blr (E.thr (E.thr (E.blr (E.thr (Fg rfl rfl () (congrArg (Value.int .i64) (by grind [orI, d1, d2, t1, t2])) rfl)))))))
  ·refine Eu (E.cf rfl (E.skipc (E.bln (Et (Ez Z2 (Ey rfl ((Y.add rfl rfl om om).yd) (Emv rfl rfl ?_)))))))
   exact Eu (E.again br (g + 1) rs (.refl _) ⟨by omega, by grind [orI, d1, d2, t1, t2]⟩ om)
 ·refine Eu (Eq_ (E.cf rfl (E.exit (E.the (E.the (E.blh (Et (Ew Z2 (Emv rfl rfl (Eas rfl rfl ?_))))))))))
  exact Eu (E.ret (Fg rfl rfl () (congrArg (Value.int .i64) (by grind [orI, d1, d2, t1, t2])) rfl))
theorem a0u : Tr Tryz.prog 191 [.slice a_s1 m_s1 c_s1, .slice a_s2 m_s2 c_s2] (fun w L => Ro w L eIs [.slice a_s1 m_s1 c_s1] s1 ∧ Ro w L eIs [.slice a_s2 m_s2 c_s2] s2) [] (κ := Unit) (fun k => True) (fun k => .int .i64 (E6 s1 s2)) (fun k => []) := by
 refine Tr.intro Tryz.func191 rfl (n := 36) rfl (by decide +kernel) bl (fr := [(0, .slice a_s1 m_s1 c_s1), (1, .slice a_s2 m_s2 c_s2)]) rfl fun w L hR => ?_
 obtain ⟨hs1, hs2⟩ := hR
 obtain ⟨rfl, ls1⟩ := hs1.slen
 obtain ⟨rfl, ls2⟩ := hs2.slen
 refine Ew Z1 (Eas rfl rfl (Eu (Eq_ (Ew Z3 (Emv rfl rfl (Ey rfl ((Y.len us_Is rfl).yd) (Emv rfl rfl (Eu (E.block (E.loop (κ := Nat) (fun g => g ≤ s1.length ∧ E6 s1 s2 = E6 (s1.drop g) (s2.drop g)) (fun g => [(0, .slice a_s1 s1.length c_s1), (1, .slice a_s2 s2.length c_s2), (9, .slice a_s1 s1.length c_s1), (10, .int .i64 (↑s1.length : Int)), (11, .int .i64 (g : Int))]) (fun g => []) (fun g => s1.length - g) 0 ⟨Nat.zero_le _, by simp⟩ ⟨rfl, rfl, rfl, rfl, rfl, trivial⟩ (.refl _) (fun g pg => ?_)))))))))))
 obtain ⟨pk, pa⟩ := pg
 refine Ew Z1 (Ey rfl ((Y.lss rfl rfl).yd) (Ent.d (fun q12 => ?_) (fun q12 => ?_)))
 ·refine Eu (Eq_ (E.ct rfl (E.skipc (Et (Eq_ (E.block (Ew Z5 (Emv rfl rfl ?_))))))))
  obtain ⟨eb14, eo14, ea14, ei14, eh14⟩ := hs1.elemI g om
  refine Ey rfl ((Y.ix us_Is f6 rfl ea14 rfl g rfl om).yd) (Ey rfl (Y.ld1 f6 rfl (eh14 _) rfl) (Eas rfl rfl (Eas rfl rfl (Eu (Eq_ (Ew Z4 (Emv rfl rfl (Emv rfl rfl (Ey rfl ((Y.len us_Is rfl).yd) (Ey rfl ((Y.geq rfl rfl).yd) (Ent.d (fun q19 => ?_) (fun q19 => ?_))))))))))))
  ·refine Eu (E.ct rfl (Ew Z1 (Eas rfl rfl ?_)))
   exact Eu (E.ret (E.thr (E.blr (E.thr (E.thr (E.blr (E.thr (Fg rfl rfl () (congrArg (Value.int .i64) (by grind [E6, d1, d2, t1, t2])) rfl))))))))
  ·refine Eu (E.cf rfl (E.skipc (Et (Ew Z5 (Emv rfl rfl (Emv rfl rfl ?_))))))
   obtain ⟨eb22, eo22, ea22, ei22, eh22⟩ := hs2.elemI g om
   refine Ey rfl ((Y.ix us_Is f6 rfl ea22 rfl g rfl om).yd) (Ey rfl (Y.ld1 f6 rfl (eh22 _) rfl) (Eas rfl rfl (Ev Z4 (Emv rfl rfl (Emv rfl rfl (Est rfl (N.call0 a2H rfl rfl rfl dc (fun w Lp hA => trivial)) (fun _ _ => (Eas rfl rfl (Ev Z2 (Emv rfl rfl (Ey rfl ((Y.neq rfl rfl).yd) (Ent.d (fun q28 => ?_) (fun q28 => ?_)))))))))))))
   ·refine Eu (E.ct rfl (Ew Z2 (Emv rfl rfl (Eas rfl rfl ?_))))
    exact Eu (E.ret (E.blr (E.thr (E.thr (E.blr (E.thr (Fg rfl rfl () (congrArg (Value.int .i64) (by grind [E6, d1, d2, t1, t2])) rfl)))))))
   ·refine Eu (E.cf rfl (E.skipc (E.bln (Et (Ez Z2 (Ey rfl ((Y.add rfl rfl om om).yd) (Emv rfl rfl ?_)))))))
    exact Eu (E.again br (g + 1) rs (.refl _) ⟨by omega, by grind [E6, d1, d2, t1, t2]⟩ om)
 ·refine Eu (Eq_ (E.cf rfl (E.exit (E.the (E.the (E.blh (Et (Eq_ (Ew Z5 (Emv rfl rfl (Ey rfl ((Y.len us_Is rfl).yd) (Emv rfl rfl (Ey rfl ((Y.len us_Is rfl).yd) (Ey rfl ((Y.lss rfl rfl).yd) (Ent.d (fun q35 => ?_) (fun q35 => ?_))))))))))))))))
  ·refine Eu (E.ct rfl (Ew Z1 (Eas rfl rfl ?_)))
   exact Eu (E.ret (E.thr (Fg rfl rfl () (congrArg (Value.int .i64) (by grind [E6, d1, d2, t1, t2])) rfl)))
  ·refine Eu (E.cf rfl (E.skipc (Et (Ew Z1 (Eas rfl rfl ?_)))))
   exact Eu (E.ret (Fg rfl rfl () (congrArg (Value.int .i64) (by grind [E6, d1, d2, t1, t2])) rfl))
theorem a0k : Tr Tryz.prog 156 [.agg #[.int .i64 i8, .slice y7 B3 y6], .agg #[.int .i64 R5, .slice s6 t8 s5]] (fun w L => I64 i8 ∧ Ro w L eIs [.slice y7 B3 y6] x9 ∧ I64 R5 ∧ Ro w L eIs [.slice s6 t8 s5] f7) [] (κ := Unit) (fun k => True) (fun k => .int .i64 (J0 (i8, x9) (R5, f7))) (fun k => []) := by
 refine Tr.intro Tryz.func156 rfl (n := 17) rfl (by decide +kernel) bl (fr := [(0, .agg #[.int .i64 i8, .slice y7 B3 y6]), (1, .agg #[.int .i64 R5, .slice s6 t8 s5])]) rfl fun w L hR => ?_
 obtain ⟨M5, D5, a8e, u7⟩ := hR
 obtain ⟨rfl, W0⟩ := D5.slen
 obtain ⟨rfl, M0⟩ := u7.slen
 refine Ew Z3 (Est rfl (N.box (cs := [_, _]) rfl dc rfl) (fun b2 _ => (Est rfl (N.box (cs := [_, _]) rfl dc rfl) (fun b3 _ => (Eas rfl rfl (Eu (Eq_ (D.region (fun j => true) mixed (Dyp 0 rfl (Y.fld fo_Fact_0 f6 dc rfl) (Dy 1 rfl (Y.ld1 f6 rfl ((Has.pt (mS m0)).sub (cs' := [_]) 0 rfl) rfl) (Dyp 2 rfl (Y.fld fo_Fact_0 f6 dc rfl) (Dy 3 rfl (Y.ld1 f6 rfl ((Has.pt m0).sub (cs' := [_]) 0 rfl) rfl) (Dyp 5 rfl (Y.fld fo_Fact_1 ty_Is dc rfl) (Dy 6 rfl (Y.ld1 ty_Is rfl ((Has.pt (mS m0)).sub (cs' := [_]) 1 rfl) rfl) (Dyp 7 rfl (Y.fld fo_Fact_1 ty_Is dc rfl) (Dy 8 rfl (Y.ld1 ty_Is rfl ((Has.pt m0).sub (cs' := [_]) 1 rfl) rfl) ?_))))))))))))))))
 have j1 := @b0k i8 R5
 refine D.st 4 rfl rfl kr (fun _ => rfl) (N.call0 a2H rfl rfl rfl dc (fun w Lp hA => trivial)) (fun _ _ => ?_)
 have j2 := @a9K x9 f7
 refine D.st 9 rfl rfl kr (fun _ => rfl) (N.call0 a0u rfl rfl rfl dc (fun w Lp hA => ⟨hA.ro D5, hA.ro u7⟩)) (fun _ _ => (D.st 10 rfl rfl kr (fun _ => rfl) (N.bsl (pvs := [_, _]) (cs := [_, _]) us_Is f6 rfl dc dc (o9 rfl rfl) rfl dc) (fun b15 _ => (Ent.mkow (A := [_]) (Own.ints (e := tI) (xs := [K3 i8 R5, E6 x9 f7]) rfl (by simp [maxLen]) (by simp only [List.forall_mem_cons]; exact ⟨i6, i6, List.forall_mem_nil _⟩)) rfl (D.st 11 rfl rfl kr (fun _ => rfl) (N.call0 b0m rfl rfl rfl dc (fun w Lp hA => hA.ow m0)) (fun _ _ => (Dyp 12 rfl (Y.as rfl) ?_)))))))
 exact D.done kr (Et (E.ret (Fg rfl rfl () (congrArg (Value.int .i64) (by grind [J0, orI, d1, d2, t1, t2])) rfl)))
theorem V1 : Tr Tryz.prog 140 [.agg #[.int .i64 i8, .slice y7 B3 y6], .agg #[.int .i64 R5, .slice s6 t8 s5]] (fun w L => I64 i8 ∧ Ro w L eIs [.slice y7 B3 y6] x9 ∧ I64 R5 ∧ Ro w L eIs [.slice s6 t8 s5] f7) [] (κ := Unit) (fun k => True) (fun k => .int .i64 (J0 (i8, x9) (R5, f7))) (fun k => []) := by
 refine Tr.intro Tryz.func140 rfl (n := 66) rfl (by decide +kernel) bl (fr := [(0, .agg #[.int .i64 i8, .slice y7 B3 y6]), (1, .agg #[.int .i64 R5, .slice s6 t8 s5])]) rfl fun w L hR => ?_
 obtain ⟨M5, D5, a8e, u7⟩ := hR
 obtain ⟨rfl, W0⟩ := D5.slen
 obtain ⟨rfl, M0⟩ := u7.slen
 refine Ew Z3 (Est rfl (N.box (cs := [_, _]) rfl dc rfl) (fun b2 _ => (Est rfl (N.box (cs := [_, _]) rfl dc rfl) (fun b3 _ => (Eas rfl rfl (Eu (Eq_ (Ew Z5 (Ey rfl ((Y.fld fo_Fact_0 f6 dc rfl).yd) (Ey rfl (Y.ld1 f6 rfl ((Has.pt (mS m0)).sub (cs' := [_]) 0 rfl) rfl) (Ey rfl ((Y.fld fo_Fact_0 f6 dc rfl).yd) (Ey rfl (Y.ld1 f6 rfl ((Has.pt m0).sub (cs' := [_]) 0 rfl) rfl) (Ey rfl ((Y.neq rfl rfl).yd) (Ent.d (fun q10 => ?_) (fun q10 => ?_)))))))))))))))
 ·refine Eu (E.ct rfl (Eq_ (Ew Z5 (Ey rfl ((Y.fld fo_Fact_0 f6 dc rfl).yd) (Ey rfl (Y.ld1 f6 rfl ((Has.pt (mS m0)).sub (cs' := [_]) 0 rfl) rfl) (Ey rfl ((Y.fld fo_Fact_0 f6 dc rfl).yd) (Ey rfl (Y.ld1 f6 rfl ((Has.pt m0).sub (cs' := [_]) 0 rfl) rfl) (Ey rfl ((Y.lss rfl rfl).yd) (Ent.d (fun q15 => ?_) (fun q15 => ?_))))))))))
  ·refine Eu (E.ct rfl (Ew Z1 (Eas rfl rfl ?_)))
   exact Eu (E.ret (E.thr (E.thr (Fg rfl rfl () (congrArg (Value.int .i64) (by grind [J0, K3, E6, d1, d2, t1, t2])) rfl))))
  ·refine Eu (E.cf rfl (E.skipc (Et (Ew Z1 (Eas rfl rfl ?_)))))
   exact Eu (E.ret (E.thr (Fg rfl rfl () (congrArg (Value.int .i64) (by grind [J0, K3, E6, d1, d2, t1, t2])) rfl)))
 ·refine Eu (E.cf rfl (E.skipc (Et (Eq_ (Ew Z1 (Eas rfl rfl (Eu (E.block (E.loop (κ := Nat) (fun g => g ≤ x9.length ∧ g ≤ f7.length ∧ E6 x9 f7 = E6 (x9.drop g) (f7.drop g)) (fun g => [(2, .pointer (some ⟨b2, 0, none⟩)), (3, .pointer (some ⟨b3, 0, none⟩)), (5, .int .i64 (g : Int))]) (fun g => [pt b3 115 [.int .i64 R5, .slice s6 f7.length s5], pt b2 115 [.int .i64 i8, .slice y7 x9.length y6]]) (fun g => x9.length - g) 0 ⟨Nat.zero_le _, by simp⟩ ⟨rfl, rfl, rfl, trivial⟩ (.refl _) (fun g pg => ?_))))))))))
  obtain ⟨pk, pa⟩ := pg
  refine Eq_ (Ew Z12 (Emv rfl rfl (Ey rfl ((Y.fld fo_Fact_1 ty_Is dc rfl).yd) (Ey rfl (Y.ld1 ty_Is rfl ((Has.pt (mS m0)).sub (cs' := [_]) 1 rfl) rfl) (Ey rfl ((Y.len us_Is rfl).yd) (Ey rfl ((Y.lss rfl rfl).yd) (Ent.d (fun q20 => ?_) (fun q20 => ?_))))))))
  ·refine Emv rfl rfl (Emv rfl rfl (Ey rfl ((Y.fld fo_Fact_1 ty_Is dc rfl).yd) (Ey rfl (Y.ld1 ty_Is rfl ((Has.pt m0).sub (cs' := [_]) 1 rfl) rfl) (Ey rfl ((Y.len us_Is rfl).yd) (Ey rfl ((Y.lss rfl rfl).yd) (Ent.d (fun q26 => ?_) (fun q26 => ?_)))))))
   ·refine Ey rfl ((Y.pkt rfl rfl).yd) (Eu (E.ct rfl (E.skipc (Et (Eq_ (E.block (Eq_ (Eq_ (D.region (fun j => true) mixed (Dyp 0 rfl (Y.fld fo_Fact_1 ty_Is dc rfl) (Dy 1 rfl (Y.ld1 ty_Is rfl ((Has.pt (mS m0)).sub (cs' := [_]) 1 rfl) rfl) (Dyp 2 rfl (Y.mv rfl) ?_))))))))))))
    obtain ⟨eb33, eo33, ea33, ei33, eh33⟩ := D5.elemI g om
    refine Dyp 3 rfl (Y.ix us_Is f6 rfl ea33 rfl g rfl om) (Dy 4 rfl (Y.ld1 f6 rfl (eh33 _) rfl) (Dyp 5 rfl (Y.fld fo_Fact_1 ty_Is dc rfl) (Dy 6 rfl (Y.ld1 ty_Is rfl ((Has.pt m0).sub (cs' := [_]) 1 rfl) rfl) (Dyp 7 rfl (Y.mv rfl) ?_))))
    obtain ⟨eb38, eo38, ea38, ei38, eh38⟩ := u7.elemI g om
    refine Dyp 8 rfl (Y.ix us_Is f6 rfl ea38 rfl g rfl om) (Dy 9 rfl (Y.ld1 f6 rfl (eh38 _) rfl) (Dyp 10 rfl (Y.lss rfl rfl) (Ent.d (fun q40 => ?_) (fun q40 => ?_))))
    ·refine D.done kr (Et (E.ct rfl (Ew Z1 (Eas rfl rfl ?_))))
     exact Eu (E.ret (E.thr (E.blr (E.thr (E.thr (E.blr (E.thr (Fg rfl rfl () (congrArg (Value.int .i64) (by grind [J0, K3, E6, d1, d2, t1, t2])) rfl))))))))
    ·refine D.done kr (Et (E.cf rfl (E.skipc (Et (Eq_ (D.region (fun j => true) mixed (Dyp 0 rfl (Y.fld fo_Fact_1 ty_Is dc rfl) (Dy 1 rfl (Y.ld1 ty_Is rfl ((Has.pt (mS m0)).sub (cs' := [_]) 1 rfl) rfl) (Dyp 2 rfl (Y.mv rfl) (Dyp 3 rfl (Y.ix us_Is f6 rfl ea33 rfl g rfl om) (Dy 4 rfl (Y.ld1 f6 rfl (eh33 _) rfl) (Dyp 5 rfl (Y.fld fo_Fact_1 ty_Is dc rfl) (Dy 6 rfl (Y.ld1 ty_Is rfl ((Has.pt m0).sub (cs' := [_]) 1 rfl) rfl) (Dyp 7 rfl (Y.mv rfl) (Dyp 8 rfl (Y.ix us_Is f6 rfl ea38 rfl g rfl om) (Dy 9 rfl (Y.ld1 f6 rfl (eh38 _) rfl) (Dyp 10 rfl (Y.gtr rfl rfl) (Ent.d (fun q51 => ?_) (fun q51 => ?_)))))))))))))))))))
     ·refine D.done kr (Et (E.ct rfl (Ew Z1 (Eas rfl rfl ?_))))
      exact Eu (E.ret (E.blr (E.thr (E.thr (E.blr (E.thr (Fg rfl rfl () (congrArg (Value.int .i64) (by grind [J0, K3, E6, d1, d2, t1, t2])) rfl)))))))
     ·refine D.done kr (Et (E.cf rfl (E.skipc (E.bln (Et (Ez Z3 (Emv rfl rfl (Ey rfl ((Y.add rfl rfl om om).yd) (Eas rfl rfl (Eu (Ent.p1 (Ent.p1 ?_))))))))))))
      exact E.again br (g + 1) rs (.refl _) ⟨by omega, by grind [E6, K3, d1, d2, t1, t2]⟩ om
   ·refine Ey rfl ((Y.pkt rfl rfl).yd) (Eu (E.cf rfl (E.exit (E.the (E.the (E.blh (Et (Eq_ (Ew Z7 (Ey rfl ((Y.fld fo_Fact_1 ty_Is dc rfl).yd) (Ey rfl (Y.ld1 ty_Is rfl ((Has.pt (mS m0)).sub (cs' := [_]) 1 rfl) rfl) (Ey rfl ((Y.len us_Is rfl).yd) (Ey rfl ((Y.fld fo_Fact_1 ty_Is dc rfl).yd) (Ey rfl (Y.ld1 ty_Is rfl ((Has.pt m0).sub (cs' := [_]) 1 rfl) rfl) (Ey rfl ((Y.len us_Is rfl).yd) (Ey rfl ((Y.lss rfl rfl).yd) (Ent.d (fun q58 => ?_) (fun q58 => ?_))))))))))))))))))
    ·refine Eu (E.ct rfl (Ew Z1 (Eas rfl rfl ?_)))
     exact Eu (E.ret (E.thr (Fg rfl rfl () (congrArg (Value.int .i64) (by grind [J0, K3, E6, d1, d2, t1, t2])) rfl)))
    ·refine Eu (E.cf rfl (E.skipc (Et (Eq_ (Ew Z7 (Ey rfl ((Y.fld fo_Fact_1 ty_Is dc rfl).yd) (Ey rfl (Y.ld1 ty_Is rfl ((Has.pt (mS m0)).sub (cs' := [_]) 1 rfl) rfl) (Ey rfl ((Y.len us_Is rfl).yd) (Ey rfl ((Y.fld fo_Fact_1 ty_Is dc rfl).yd) (Ey rfl (Y.ld1 ty_Is rfl ((Has.pt m0).sub (cs' := [_]) 1 rfl) rfl) (Ey rfl ((Y.len us_Is rfl).yd) (Ey rfl ((Y.gtr rfl rfl).yd) (Ent.d (fun q65 => ?_) (fun q65 => ?_))))))))))))))
     ·refine Eu (E.ct rfl (Ew Z1 (Eas rfl rfl ?_)))
      exact Eu (E.ret (E.thr (Fg rfl rfl () (congrArg (Value.int .i64) (by grind [J0, K3, E6, d1, d2, t1, t2])) rfl)))
     ·refine Eu (E.cf rfl (E.skipc (Et (Ew Z1 (Eas rfl rfl ?_)))))
      exact Eu (E.ret (Fg rfl rfl () (congrArg (Value.int .i64) (by grind [J0, K3, E6, d1, d2, t1, t2])) rfl))
  ·refine Emv rfl rfl (Es rfl (Es rfl (Es rfl (Es rfl (Es rfl (Ey rfl ((Y.pkf rfl rfl).yd) (Eu (E.cf rfl (E.exit (E.the (E.the (E.blh (Et (Eq_ (Ew Z7 (Ey rfl ((Y.fld fo_Fact_1 ty_Is dc rfl).yd) (Ey rfl (Y.ld1 ty_Is rfl ((Has.pt (mS m0)).sub (cs' := [_]) 1 rfl) rfl) (Ey rfl ((Y.len us_Is rfl).yd) (Ey rfl ((Y.fld fo_Fact_1 ty_Is dc rfl).yd) (Ey rfl (Y.ld1 ty_Is rfl ((Has.pt m0).sub (cs' := [_]) 1 rfl) rfl) (Ey rfl ((Y.len us_Is rfl).yd) (Ey rfl ((Y.lss rfl rfl).yd) (Ent.d (fun q58 => ?_) (fun q58 => ?_))))))))))))))))))))))))
   ·refine Eu (E.ct rfl (Ew Z1 (Eas rfl rfl ?_)))
    exact Eu (E.ret (E.thr (Fg rfl rfl () (congrArg (Value.int .i64) (by grind [J0, K3, E6, d1, d2, t1, t2])) rfl)))
   ·refine Eu (E.cf rfl (E.skipc (Et (Eq_ (Ew Z7 (Ey rfl ((Y.fld fo_Fact_1 ty_Is dc rfl).yd) (Ey rfl (Y.ld1 ty_Is rfl ((Has.pt (mS m0)).sub (cs' := [_]) 1 rfl) rfl) (Ey rfl ((Y.len us_Is rfl).yd) (Ey rfl ((Y.fld fo_Fact_1 ty_Is dc rfl).yd) (Ey rfl (Y.ld1 ty_Is rfl ((Has.pt m0).sub (cs' := [_]) 1 rfl) rfl) (Ey rfl ((Y.len us_Is rfl).yd) (Ey rfl ((Y.gtr rfl rfl).yd) (Ent.d (fun q65 => ?_) (fun q65 => ?_))))))))))))))
    ·refine Eu (E.ct rfl (Ew Z1 (Eas rfl rfl ?_)))
     exact Eu (E.ret (E.thr (Fg rfl rfl () (congrArg (Value.int .i64) (by grind [J0, K3, E6, d1, d2, t1, t2])) rfl)))
    ·refine Eu (E.cf rfl (E.skipc (Et (Ew Z1 (Eas rfl rfl ?_)))))
     exact Eu (E.ret (Fg rfl rfl () (congrArg (Value.int .i64) (by grind [J0, K3, E6, d1, d2, t1, t2])) rfl))
theorem a1d : Tr Tryz.prog 268 [.slice a_s1 m_s1 c_s1, .slice a_s2 m_s2 c_s2] (fun w L => Ro w L eIs [.slice a_s1 m_s1 c_s1] s1 ∧ Ro w L eIs [.slice a_s2 m_s2 c_s2] s2) [] (κ := Unit) (fun k => True) (fun k => .bool (decide (s1 = s2))) (fun k => []) := by
 refine Tr.intro Tryz.func268 rfl (n := 26) rfl (by decide +kernel) bl (fr := [(0, .slice a_s1 m_s1 c_s1), (1, .slice a_s2 m_s2 c_s2)]) rfl fun w L hR => ?_
 obtain ⟨hs1, hs2⟩ := hR
 obtain ⟨rfl, ls1⟩ := hs1.slen
 obtain ⟨rfl, ls2⟩ := hs2.slen
 refine Ew Z1 (Eas rfl rfl (Eu (Eq_ (Ew Z5 (Emv rfl rfl (Ey rfl ((Y.len us_Is rfl).yd) (Emv rfl rfl (Ey rfl ((Y.len us_Is rfl).yd) (Ey rfl ((Y.neq rfl rfl).yd) (Ent.d (fun q10 => ?_) (fun q10 => ?_)))))))))))
 ·refine Eu (E.ct rfl (Ew Z1 (Eas rfl rfl ?_)))
  exact Eu (E.ret (E.thr (Fb rfl rfl (by grind [d1, d2, t1, t2]))))
 ·refine Eu (E.cf rfl (E.skipc (Et (Eq_ (Ew Z3 (Emv rfl rfl (Ey rfl ((Y.len us_Is rfl).yd) (Emv rfl rfl (Eu (E.block (E.loop (κ := Nat) (fun g => g ≤ s1.length ∧ s1.length = s2.length ∧ (s1 = s2 ↔ s1.drop g = s2.drop g)) (fun g => [(0, .slice a_s1 s1.length c_s1), (1, .slice a_s2 s2.length c_s2), (12, .int .i64 (↑s1.length : Int)), (13, .int .i64 (g : Int))]) (fun g => []) (fun g => s1.length - g) 0 ⟨Nat.zero_le _, by exact ⟨by omega, by simp⟩⟩ ⟨rfl, rfl, rfl, rfl, trivial⟩ (.refl _) (fun g pg => ?_))))))))))))
  obtain ⟨pk, pa⟩ := pg
  refine Ew Z1 (Ey rfl ((Y.lss rfl rfl).yd) (Ent.d (fun q14 => ?_) (fun q14 => ?_)))
  ·refine Eu (Eq_ (E.ct rfl (E.skipc (Et (Eq_ (E.block (Ew Z2 (Emv rfl rfl (Eas rfl rfl (Eu (Eq_ (D.region (fun j => true) mixed (Dyp 0 rfl (Y.mv rfl) (Dyp 1 rfl (Y.mv rfl) ?_))))))))))))))
   obtain ⟨eb18, eo18, ea18, ei18, eh18⟩ := hs1.elemI g om
   refine Dyp 2 rfl (Y.ix us_Is f6 rfl ea18 rfl g rfl om) (Dy 3 rfl (Y.ld1 f6 rfl (eh18 _) rfl) (Dyp 4 rfl (Y.mv rfl) (Dyp 5 rfl (Y.mv rfl) ?_)))
   obtain ⟨eb22, eo22, ea22, ei22, eh22⟩ := hs2.elemI g om
   refine Dyp 6 rfl (Y.ix us_Is f6 rfl ea22 rfl g rfl om) (Dy 7 rfl (Y.ld1 f6 rfl (eh22 _) rfl) (Dyp 8 rfl (Y.neq rfl rfl) (Ent.d (fun q24 => ?_) (fun q24 => ?_))))
   ·refine D.done kr (Et (E.ct rfl (Ew Z1 (Eas rfl rfl ?_))))
    exact Eu (E.ret (E.blr (E.thr (E.thr (E.blr (E.thr (Fb rfl rfl (by grind [d1, d2, t1, t2]))))))))
   ·refine D.done kr (Et (E.cf rfl (E.skipc (E.bln (Et (Ez Z2 (Ey rfl ((Y.add rfl rfl om om).yd) (Emv rfl rfl ?_))))))))
    exact Eu (E.again br (g + 1) rs (.refl _) ⟨by omega, by grind [d1, d2, t1, t2]⟩ om)
  ·refine Eu (Eq_ (E.cf rfl (E.exit (E.the (E.the (E.blh (Et (Ew Z1 (Eas rfl rfl ?_)))))))))
   exact Eu (E.ret (Fb rfl rfl (by grind [d1, d2, t1, t2])))
theorem a4E {a_a : Option Addr} {m_a c_a : Nat} {a : List Int} {a_b : Option Addr} {m_b c_b : Nat} {b : List Int} : Tr Tryz.prog 145 [.slice a_a m_a c_a, .slice a_b m_b c_b] (fun w L => Ro w L eIs [.slice a_a m_a c_a] a ∧ Ro w L eIs [.slice a_b m_b c_b] b) [] (κ := Unit) (fun k => True) (fun k => .bool (decide (a = b))) (fun k => []) := by
 refine Tr.intro Tryz.func145 rfl (n := 26) rfl (by decide +kernel) bl (fr := [(0, .slice a_a m_a c_a), (1, .slice a_b m_b c_b)]) rfl fun w L hR => ?_
 obtain ⟨ha, hb⟩ := hR
 obtain ⟨rfl, la⟩ := ha.slen
 obtain ⟨rfl, lb⟩ := hb.slen
 refine Ew Z1 (Eas rfl rfl (Eu (Eq_ (Ew Z5 (Emv rfl rfl (Ey rfl ((Y.len us_Is rfl).yd) (Emv rfl rfl (Ey rfl ((Y.len us_Is rfl).yd) (Ey rfl ((Y.neq rfl rfl).yd) (Ent.d (fun q10 => ?_) (fun q10 => ?_)))))))))))
 ·refine Eu (E.ct rfl (Ew Z1 (Eas rfl rfl ?_)))
  exact Eu (E.ret (E.thr (Fb rfl rfl (by grind [d1, d2, t1, t2]))))
 ·refine Eu (E.cf rfl (E.skipc (Et (Eq_ (Ew Z1 (Eas rfl rfl (Eu (E.block (E.loop (κ := Nat) (fun g => g ≤ a.length ∧ a.length = b.length ∧ (a = b ↔ a.drop g = b.drop g)) (fun g => [(0, .slice a_a a.length c_a), (1, .slice a_b b.length c_b), (5, .int .i64 (g : Int))]) (fun g => []) (fun g => a.length - g) 0 ⟨Nat.zero_le _, by exact ⟨by omega, by simp⟩⟩ ⟨rfl, rfl, rfl, trivial⟩ (.refl _) (fun g pg => ?_))))))))))
  obtain ⟨pk, pa⟩ := pg
  refine Eq_ (Ew Z4 (Emv rfl rfl (Emv rfl rfl (Ey rfl ((Y.len us_Is rfl).yd) (Ey rfl ((Y.lss rfl rfl).yd) (Ent.d (fun q14 => ?_) (fun q14 => ?_)))))))
  ·refine Eu (E.ct rfl (E.skipc (Et (Eq_ (E.block (Eq_ (D.region (fun j => true) mixed (Dyp 0 rfl (Y.mv rfl) (Dyp 1 rfl (Y.mv rfl) ?_)))))))))
   obtain ⟨eb19, eo19, ea19, ei19, eh19⟩ := ha.elemI g om
   refine Dyp 2 rfl (Y.ix us_Is f6 rfl ea19 rfl g rfl om) (Dy 3 rfl (Y.ld1 f6 rfl (eh19 _) rfl) (Dyp 4 rfl (Y.mv rfl) (Dyp 5 rfl (Y.mv rfl) ?_)))
   obtain ⟨eb23, eo23, ea23, ei23, eh23⟩ := hb.elemI g om
   refine Dyp 6 rfl (Y.ix us_Is f6 rfl ea23 rfl g rfl om) (Dy 7 rfl (Y.ld1 f6 rfl (eh23 _) rfl) (Dyp 8 rfl (Y.neq rfl rfl) (Ent.d (fun q25 => ?_) (fun q25 => ?_))))
   ·refine D.done kr (Et (E.ct rfl (Ew Z1 (Eas rfl rfl ?_))))
    exact Eu (E.ret (E.blr (E.thr (E.thr (E.blr (E.thr (Fb rfl rfl (by grind [d1, d2, t1, t2]))))))))
   ·refine D.done kr (Et (E.cf rfl (E.skipc (E.bln (Et (Ez Z3 (Emv rfl rfl (Ey rfl ((Y.add rfl rfl om om).yd) (Eas rfl rfl ?_)))))))))
    exact Eu (E.again br (g + 1) rs (.refl _) ⟨by omega, by grind [d1, d2, t1, t2]⟩ om)
  ·refine Eu (E.cf rfl (E.exit (E.the (E.the (E.blh (Et (Ew Z1 (Eas rfl rfl ?_))))))))
   exact Eu (E.ret (Fb rfl rfl (by grind [d1, d2, t1, t2])))
theorem a5Q : Tr Tryz.prog 212 [.agg #[.int .i64 u0, .slice y7 B3 y6], .agg #[.int .i64 a0F, .slice s6 t8 s5]] (fun w L => (I64 u0 ∧ Ro w L eIs [.slice y7 B3 y6] x9 ∧ I64 a0F ∧ Ro w L eIs [.slice s6 t8 s5] f7) ∧ True) [] (κ := Unit) (fun k => True) (fun k => .bool (decide ((u0, x9) = (a0F, f7)))) (fun k => []) := by
 refine Tr.intro Tryz.func212 rfl (n := 17) rfl (by decide +kernel) bl (fr := [(0, .agg #[.int .i64 u0, .slice y7 B3 y6]), (1, .agg #[.int .i64 a0F, .slice s6 t8 s5])]) rfl fun w L hR => ?_
 obtain ⟨⟨O7, D5, b1t, u7⟩, _⟩ := hR
 obtain ⟨rfl, W0⟩ := D5.slen
 obtain ⟨rfl, M0⟩ := u7.slen
 refine Ew Z3 (Est rfl (N.box (cs := [_, _]) rfl dc rfl) (fun b2 _ => (Est rfl (N.box (cs := [_, _]) rfl dc rfl) (fun b3 _ => (Eas rfl rfl (Ev Z13 (Ey rfl ((Y.fld fo_Access_0 f6 dc rfl).yd) (Ey rfl (Y.ld1 f6 rfl ((Has.pt (mS m0)).sub (cs' := [_]) 0 rfl) rfl) (Ey rfl ((Y.fld fo_Access_0 f6 dc rfl).yd) (Ey rfl (Y.ld1 f6 rfl ((Has.pt m0).sub (cs' := [_]) 0 rfl) rfl) (Ey rfl ((Y.eql rfl rfl).yd) (Ent.d (fun q9 => ?_) (fun q9 => ?_)))))))))))))
 ·refine Emv rfl rfl (Ey rfl ((Y.fld fo_Access_1 ty_Is dc rfl).yd) (Ey rfl (Y.ld1 ty_Is rfl ((Has.pt (mS m0)).sub (cs' := [_]) 1 rfl) rfl) (Ey rfl ((Y.fld fo_Access_1 ty_Is dc rfl).yd) (Ey rfl (Y.ld1 ty_Is rfl ((Has.pt m0).sub (cs' := [_]) 1 rfl) rfl) (Est rfl (N.call0 a1d rfl rfl rfl dc (fun w Lp hA => ⟨hA.ro D5, hA.ro u7⟩)) (fun _ _ => (Ey rfl ((Y.pkt rfl rfl).yd) (Eas rfl rfl ?_))))))))
  exact Eu (E.ret (Fb rfl rfl (by grind [d1, d2, t1, t2])))
 ·refine Emv rfl rfl (Es rfl (Es rfl (Es rfl (Es rfl (Es rfl (Ey rfl ((Y.pkf rfl rfl).yd) (Eas rfl rfl ?_)))))))
  exact Eu (E.ret (Fb rfl rfl (by grind [d1, d2, t1, t2])))
theorem a9n : Tr Tryz.prog 173 [.agg #[.int .i64 u0, .slice y7 B3 y6], .agg #[.int .i64 a0F, .slice s6 t8 s5]] (fun w L => I64 u0 ∧ Ro w L eIs [.slice y7 B3 y6] x9 ∧ I64 a0F ∧ Ro w L eIs [.slice s6 t8 s5] f7) [] (κ := Unit) (fun k => True) (fun k => .bool (decide ((u0, x9) = (a0F, f7)))) (fun k => []) := by
 refine Tr.intro Tryz.func173 rfl (n := 17) rfl (by decide +kernel) bl (fr := [(0, .agg #[.int .i64 u0, .slice y7 B3 y6]), (1, .agg #[.int .i64 a0F, .slice s6 t8 s5])]) rfl fun w L hR => ?_
 obtain ⟨O7, D5, b1t, u7⟩ := hR
 obtain ⟨rfl, W0⟩ := D5.slen
 obtain ⟨rfl, M0⟩ := u7.slen
 refine Ew Z3 (Est rfl (N.box (cs := [_, _]) rfl dc rfl) (fun b2 _ => (Est rfl (N.box (cs := [_, _]) rfl dc rfl) (fun b3 _ => (Eas rfl rfl (Ev Z13 (Ey rfl ((Y.fld fo_Access_0 f6 dc rfl).yd) (Ey rfl (Y.ld1 f6 rfl ((Has.pt (mS m0)).sub (cs' := [_]) 0 rfl) rfl) (Ey rfl ((Y.fld fo_Access_0 f6 dc rfl).yd) (Ey rfl (Y.ld1 f6 rfl ((Has.pt m0).sub (cs' := [_]) 0 rfl) rfl) (Ey rfl ((Y.eql rfl rfl).yd) (Ent.d (fun q9 => ?_) (fun q9 => ?_)))))))))))))
 ·refine Emv rfl rfl (Ey rfl ((Y.fld fo_Access_1 ty_Is dc rfl).yd) (Ey rfl (Y.ld1 ty_Is rfl ((Has.pt (mS m0)).sub (cs' := [_]) 1 rfl) rfl) (Ey rfl ((Y.fld fo_Access_1 ty_Is dc rfl).yd) (Ey rfl (Y.ld1 ty_Is rfl ((Has.pt m0).sub (cs' := [_]) 1 rfl) rfl) (Est rfl (N.call0 a4E rfl rfl rfl dc (fun w Lp hA => ⟨hA.ro D5, hA.ro u7⟩)) (fun _ _ => (Ey rfl ((Y.pkt rfl rfl).yd) (Eas rfl rfl ?_))))))))
  exact Eu (E.ret (Fb rfl rfl (by grind [d1, d2, t1, t2])))
 ·refine Emv rfl rfl (Es rfl (Es rfl (Es rfl (Es rfl (Es rfl (Ey rfl ((Y.pkf rfl rfl).yd) (Eas rfl rfl ?_)))))))
  exact Eu (E.ret (Fb rfl rfl (by grind [d1, d2, t1, t2])))
end Go.Proofs.YtdopeopehgdccaaGreat
