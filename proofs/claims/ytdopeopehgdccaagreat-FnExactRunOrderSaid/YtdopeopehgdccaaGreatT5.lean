import Derived.Test.YtdopeopehgdccaaGreatBs
import Derived.Test.YtdopeopehgdccaaGreatT1
import Derived.Test.YtdopeopehgdccaaGreatBc
namespace Go.Proofs.YtdopeopehgdccaaGreat
open Go.RowKit
set_option linter.all false
set_option maxHeartbeats 2000000
attribute [local irreducible] Nop Yd Yp Ent Has Tr FnP FnP2 Src
variable {j5 n j7 : Int} {j3 s f6 : List Int} {o5 n8 m_s c_s u6 r7 : Nat} {n9 a_s r8 : Option Addr}
theorem a6M {left : Int} : Tr Tryz.prog 60 [.agg #[.int .i64 j5, .slice n9 o5 n8], .int .i64 left] (fun w L => I64 j5 ∧ Ro w L eIs [.slice n9 o5 n8] j3 ∧ 0 ≤ left ∧ left ≤ 1048576) [] (κ := Unit) (fun k => True) (fun k => .int .i64 (szR (j3.length) left)) (fun k => []) := by
 refine Tr.intro Tryz.func60 rfl (n := 12) rfl (by decide +kernel) bl (fr := [(0, .agg #[.int .i64 j5, .slice n9 o5 n8]), (1, .int .i64 left)]) rfl fun w L hR => ?_
 obtain ⟨E4, s3, as0, as1⟩ := hR
 obtain ⟨rfl, G6⟩ := s3.slen
 refine Ew Z2 (Est rfl (N.box (cs := [_, _]) rfl dc rfl) (fun b2 _ => (Eas rfl rfl (Ev Z5 (Ey rfl ((Y.fld fo_lFact_1 ty_Is dc rfl).yd) (Ey rfl (Y.ld1 ty_Is rfl ((Has.pt m0).sub (cs' := [_]) 1 rfl) rfl) (Emv rfl rfl (Est rfl (N.call0 a0o rfl rfl rfl dc (fun w Lp hA => ⟨hA.ro s3, (by first | assumption | omega), (by first | assumption | omega)⟩)) (fun _ _ => (Eas rfl rfl (Eu (Eq_ (Ew Z2 (Emv rfl rfl (Ey rfl ((Y.lss rfl rfl).yd) (Ent.d (fun q10 => ?_) (fun q10 => ?_)))))))))))))))))
 ·have z10 := U1 q10 om
  refine Eu (E.ct rfl (Ew Z1 (Eas rfl rfl ?_)))
  exact Eu (E.ret (E.thr (Fg rfl rfl () (congrArg (Value.int .i64) (by unfold szR; split <;> omega)) rfl)))
 ·obtain ⟨z10, y10⟩ := X4 q10 om
  refine Eu (E.cf rfl (E.skipc (Et (Ew Z2 (Emv rfl rfl (Eas rfl rfl ?_))))))
  exact Eu (E.ret (Fg rfl rfl () (congrArg (Value.int .i64) (by have e : szR (j3.length) left = left - ((j3.length : Nat) : Int) := by { unfold szR; split <;> omega }; omega)) rfl))
theorem a6I (h1 : j3.length ≤ 1048576) : Tr Tryz.prog 70 [.agg #[.int .i64 j5, .slice n9 o5 n8]] (fun w L => I64 j5 ∧ Ro w L eIs [.slice n9 o5 n8] j3) [] (κ := Option Addr × Nat × Nat) (fun k => True) (fun k => .agg #[.int .i64 j5, .slice k.1 k.2.1 k.2.2]) (fun k => [ow eIs [.slice k.1 k.2.1 k.2.2] j3]) := by
 refine Tr.intro Tryz.func70 rfl (n := 12) rfl (by decide +kernel) bl (fr := [(0, .agg #[.int .i64 j5, .slice n9 o5 n8])]) rfl fun w L hR => ?_
 obtain ⟨E4, s3⟩ := hR
 obtain ⟨rfl, G6⟩ := s3.slen
 refine Ew Z2 (Est rfl (N.box (cs := [_, _]) rfl dc rfl) (fun b1 _ => (Est rfl (N.alloc ty_Fact dc) (fun b2 _ => (Ev Z1 (Est rfl (N.alloc ty_Fact dc) (fun b3 _ => (Ev Z4 (Ey rfl ((Y.fld fo_lFact_0 f8 dc rfl).yd) (Ey rfl (Y.ld1 f8 rfl ((Has.pt (mS (mS m0))).sub (cs' := [_]) 0 rfl) rfl) (Ey rfl ((Y.fld fo_Fact_0 f8 dc rfl).yd) (Est rfl (N.sto (vs := [_]) (cs' := [_, _]) f8 rfl rfl rfl rfl rfl bl rfl) (fun _ _ => (Ev Z5 (Ey rfl ((Y.fld fo_lFact_1 ty_Is dc rfl).yd) (Ey rfl (Y.ld1 ty_Is rfl ((Has.pt (mS (mS m0))).sub (cs' := [_]) 1 rfl) rfl) (Est rfl (N.call (I4 fc) rfl rfl rfl dc rfl (fun w Lp hA => hA.ro s3)) (fun k9 _ => ?_))))))))))))))))))
 obtain ⟨a9, m9, c9⟩ := k9
 refine Ent.lenow m0 fun e9 l9 => ?_
 subst e9
 refine Ey rfl ((Y.fld fo_Fact_1 ty_Is dc rfl).yd) (Ent.p1 (Est rfl (N.sto (vs := [_]) (cs' := [_, _]) ty_Is rfl rfl rfl rfl rfl bl rfl) (fun _ _ => (Ev Z2 (Ey rfl (Y.ldS (cs := [_, _]) ty_Fact rfl (Has.pt m0) rfl) (Ent.p2 (Est rfl (N.sto (vs := [_, _]) (cs' := [_, _]) ty_Fact rfl rfl rfl rfl rfl bl rfl) (fun _ _ => (Eu (E.ret (Ent.p2 ?_)))))))))))
 exact F.c1 br rfl rfl (mS m0) ty_Fact rfl (_, _, _) trivial rfl (J := _) (.refl _) (.inl rfl)
theorem a6G {J4 : Int} {l4 : Option Addr} {o2 l3 : Nat} {f9 : List Int} : Tr Tryz.prog 79 [.agg #[.int .i64 j5, .slice n9 o5 n8], .agg #[.int .i64 J4, .slice l4 o2 l3]] (fun w L => I64 j5 ∧ Ro w L eIs [.slice n9 o5 n8] j3 ∧ I64 J4 ∧ Ro w L eIs [.slice l4 o2 l3] f9) [] (κ := Unit) (fun k => True) (fun k => .bool (decide ((j5, j3) = (J4, f9)))) (fun k => []) := by
 refine Tr.intro Tryz.func79 rfl (n := 16) rfl (by decide +kernel) bl (fr := [(0, .agg #[.int .i64 j5, .slice n9 o5 n8]), (1, .agg #[.int .i64 J4, .slice l4 o2 l3])]) rfl fun w L hR => ?_
 obtain ⟨E4, s3, a3u, r6⟩ := hR
 obtain ⟨rfl, G6⟩ := s3.slen
 obtain ⟨rfl, G7⟩ := r6.slen
 refine Ew Z3 (Est rfl (N.box (cs := [_, _]) rfl dc rfl) (fun b2 _ => (Est rfl (N.box (cs := [_, _]) rfl dc rfl) (fun b3 _ => (Eas rfl rfl (Eu (Eq_ (Ew Z5 (Ey rfl ((Y.fld fo_Fact_0 f8 dc rfl).yd) (Ey rfl (Y.ld1 f8 rfl ((Has.pt (mS m0)).sub (cs' := [_]) 0 rfl) rfl) (Ey rfl ((Y.fld fo_Fact_0 f8 dc rfl).yd) (Ey rfl (Y.ld1 f8 rfl ((Has.pt m0).sub (cs' := [_]) 0 rfl) rfl) (Ey rfl ((Y.neq rfl rfl).yd) (Ent.d (fun q9 => ?_) (fun q9 => ?_)))))))))))))))
 ·refine Eu (E.ct rfl (Ew Z1 (Eas rfl rfl ?_)))
  exact Eu (E.ret (E.thr (Fb rfl rfl (by simp_all))))
 ·refine Eu (E.cf rfl (E.skipc (Et (Eq_ (Ew Z6 (Ey rfl ((Y.fld fo_Fact_1 ty_Is dc rfl).yd) (Ey rfl (Y.ld1 ty_Is rfl ((Has.pt (mS m0)).sub (cs' := [_]) 1 rfl) rfl) (Ey rfl ((Y.fld fo_Fact_1 ty_Is dc rfl).yd) (Ey rfl (Y.ld1 ty_Is rfl ((Has.pt m0).sub (cs' := [_]) 1 rfl) rfl) (Est rfl (N.call0 Q3 rfl rfl rfl dc (fun w Lp hA => ⟨hA.ro s3, hA.ro r6⟩)) (fun _ _ => (Ent.b (fun q14 => ?_) (fun q14 => ?_)))))))))))))
  ·refine Ey rfl ((Y.not (b := true) rfl).yd) (Eu (E.cf rfl (E.skipc (Et (Ew Z1 (Eas rfl rfl ?_))))))
   exact Eu (E.ret (Fb rfl rfl (by simp_all)))
  ·refine Ey rfl ((Y.not (b := false) rfl).yd) (Eu (E.ct rfl (Ew Z1 (Eas rfl rfl ?_))))
   exact Eu (E.ret (E.thr (Fb rfl rfl (by simp_all))))
theorem a1N : Tr Tryz.prog 273 [.int .i64 n] (fun w L => True) [] (κ := Unit) (fun k => True) (fun k => .bool (inR n 0 9)) (fun k => []) := by
 refine Tr.intro Tryz.func273 rfl (n := 5) rfl (by decide +kernel) bl (fr := [(0, .int .i64 n)]) rfl fun w L hR => (Ew Z1 (Eas rfl rfl (Ev Z3 (Emv rfl rfl (Est rfl (N.call0 E6 rfl rfl rfl dc (fun w Lp hA => trivial)) (fun _ _ => (Eas rfl rfl ?_)))))))
 exact Eu (E.ret (Fg rfl rfl () rfl rfl))
theorem a2O : Tr Tryz.prog 288 [.int .i64 n] (fun w L => (I64 n) ∧ True) [] (κ := Unit) (fun k => True) (fun k => .bool (!inR n 0 9)) (fun k => []) := by
 refine Tr.intro Tryz.func288 rfl (n := 6) rfl (by decide +kernel) bl (fr := [(0, .int .i64 n)]) rfl fun w L hR => ?_
 obtain ⟨i6n, _⟩ := hR
 refine Ew Z1 (Eas rfl rfl (Ev Z4 (Emv rfl rfl (Est rfl (N.call0 a1N rfl rfl rfl dc (fun w Lp hA => trivial)) (fun _ _ => (Ey rfl ((Y.not rfl).yd) (Eas rfl rfl ?_)))))))
 exact Eu (E.ret (Fb rfl rfl (by simp_all)))
theorem a3P {a_l : Option Addr} {m_l c_l : Nat} {l : List Int} : Tr Tryz.prog 230 [.slice a_l m_l c_l] (fun w L => Ro w L eIs [.slice a_l m_l c_l] l) [] (κ := Unit) (fun k => True) (fun k => .bool (I7 l)) (fun k => []) := by
 refine Tr.intro Tryz.func230 rfl (n := 6) rfl (by decide +kernel) bl (fr := [(0, .slice a_l m_l c_l)]) rfl fun w L hR => ?_
 have hl := hR
 obtain ⟨rfl, ll⟩ := hl.slen
 refine Ew Z1 (Eas rfl rfl (Ev Z4 (Emv rfl rfl (Est rfl (N.call0 (O4 (f := (fun n => !inR n 0 9)) (D_f := (fun _ => True)) (by intros; exact trivial)) rfl rfl rfl dc (fun w Lp hA => ⟨hA.ro hl, FnP.ofI (D := (fun _ => True)) (fun hd => a2O) (fun w' hk => trivial)⟩)) (fun _ _ => (Ey rfl ((Y.not rfl).yd) (Eas rfl rfl ?_)))))))
 exact Eu (E.ret (Fb rfl rfl (by rfl)))
theorem a6R : Tr Tryz.prog 155 [.slice a_s m_s c_s, .agg #[.int .i64 j7, .slice r8 u6 r7]] (fun w L => Ro w L eIs [.slice a_s m_s c_s] s ∧ I64 j7 ∧ Ro w L eIs [.slice r8 u6 r7] f6) [] (κ := Unit) (fun k => True) (fun k => .bool (F3 s (j7, f6))) (fun k => []) := by
 refine Tr.intro Tryz.func155 rfl (n := 25) rfl (by decide +kernel) bl (fr := [(0, .slice a_s m_s c_s), (1, .agg #[.int .i64 j7, .slice r8 u6 r7])]) rfl fun w L hR => ?_
 obtain ⟨hs, C9, s4⟩ := hR
 obtain ⟨rfl, ls⟩ := hs.slen
 obtain ⟨rfl, N9⟩ := s4.slen
 refine Ew Z2 (Est rfl (N.box (cs := [_, _]) rfl dc rfl) (fun b3 _ => (Eas rfl rfl (Eu (Eq_ (D.region (fun j => true) mixed (Dyp 0 rfl (Y.mv rfl) (Dyp 1 rfl (Y.fld fo_Fact_0 f8 dc rfl) (Dy 2 rfl (Y.ld1 f8 rfl ((Has.pt m0).sub (cs' := [_]) 0 rfl) rfl) (D.st 3 rfl rfl kr (fun _ => rfl) (N.call0 a1b rfl rfl rfl dc (fun w Lp hA => hA.ro hs)) (fun _ _ => (Ent.b (fun q8 => ?_) (fun q8 => ?_)))))))))))))
 ·obtain ⟨z1, z2, _, _⟩ := V1 q8
  refine Dyp 4 rfl (Y.mv rfl) (Dyp 5 rfl (Y.fld fo_Fact_1 ty_Is dc rfl) (Dy 6 rfl (Y.ld1 ty_Is rfl ((Has.pt m0).sub (cs' := [_]) 1 rfl) rfl) (Dyp 7 rfl (Y.len us_Is rfl) (Dyp 8 rfl (Y.mv rfl) (Dyp 9 rfl (Y.fld fo_Fact_0 f8 dc rfl) (Dy 10 rfl (Y.ld1 f8 rfl ((Has.pt m0).sub (cs' := [_]) 0 rfl) rfl) ?_))))))
  obtain ⟨eb16, eo16, ea16, ei16, eh16⟩ := hs.elemI j7.toNat om
  refine Dyp 11 rfl (Y.ix us_Is f8 rfl ea16 rfl j7.toNat om om) (Dy 12 rfl (Y.ld1 f8 rfl (eh16 _) rfl) (Dyp 13 rfl (Y.eql rfl rfl) (Ent.d (fun q18 => ?_) (fun q18 => ?_))))
  ·refine Dyp 14 rfl (Y.pkt rfl rfl) (Dyp 15 rfl (Y.mv rfl) (Dyp 16 rfl (Y.fld fo_Fact_1 ty_Is dc rfl) (Dy 17 rfl (Y.ld1 ty_Is rfl ((Has.pt m0).sub (cs' := [_]) 1 rfl) rfl) (D.st 18 rfl rfl kr (fun _ => rfl) (N.call0 a3P rfl rfl rfl dc (fun w Lp hA => hA.ro s4)) (fun _ _ => (Dyp 19 rfl (Y.pkt rfl rfl) (Dyp 20 rfl (Y.as rfl) ?_)))))))
   exact D.done kr (Et (E.ret (Fb rfl rfl (by exact a6l (f := (j7, f6)) q8 (z7 (i := j7) (show j7.toNat < s.length by omega)) q18))))
  ·refine Dyp 14 rfl (Y.pkt rfl rfl) (Dyp 15 rfl (Y.mv rfl) (Dsk 16 rfl (Dsk 17 rfl (Dsk 18 rfl (Dyp 19 rfl (Y.pkf rfl rfl) (Dyp 20 rfl (Y.as rfl) ?_))))))
   exact D.done kr (Et (E.ret (Fb rfl rfl (by exact a4T (z7 (i := j7) (show j7.toNat < s.length by omega)) q18))))
 ·refine Dyp 4 rfl (Y.mv rfl) (Dsk 5 rfl (Dsk 6 rfl (Dsk 7 rfl (Dsk 8 rfl (Dsk 9 rfl (Dsk 10 rfl (Dsk 11 rfl (Dsk 12 rfl (Dsk 13 rfl (Dyp 14 rfl (Y.pkf rfl rfl) (Dyp 15 rfl (Y.mv rfl) (Dsk 16 rfl (Dsk 17 rfl (Dsk 18 rfl (Dyp 19 rfl (Y.pkf rfl rfl) (Dyp 20 rfl (Y.as rfl) ?_))))))))))))))))
  exact D.done kr (Et (E.ret (Fb rfl rfl (by exact a2r q8))))
theorem a6O : Tr Tryz.prog 139 [.slice a_s m_s c_s, .agg #[.int .i64 j7, .slice r8 u6 r7]] (fun w L => Ro w L eIs [.slice a_s m_s c_s] s ∧ I64 j7 ∧ Ro w L eIs [.slice r8 u6 r7] f6) [] (κ := Unit) (fun k => True) (fun k => .bool (F3 s (j7, f6))) (fun k => []) := by
 refine Tr.intro Tryz.func139 rfl (n := 43) rfl (by decide +kernel) bl (fr := [(0, .slice a_s m_s c_s), (1, .agg #[.int .i64 j7, .slice r8 u6 r7])]) rfl fun w L hR => ?_
 obtain ⟨hs, C9, s4⟩ := hR
 obtain ⟨rfl, ls⟩ := hs.slen
 obtain ⟨rfl, N9⟩ := s4.slen
 refine Ew Z2 (Est rfl (N.box (cs := [_, _]) rfl dc rfl) (fun b3 _ => (Eas rfl rfl (Eu (Eq_ (Eq_ (D.region (fun j => true) mixed (Dyp 0 rfl (Y.mv rfl) (D.st 1 rfl rfl kr (fun _ => rfl) (N.call0 P7 rfl rfl rfl dc (fun w Lp hA => hA.ro hs)) (fun _ _ => (Ent.b (fun q7 => ?_) (fun q7 => ?_))))))))))))
 ·refine Dyp 2 rfl (Y.not (b := true) rfl) (Dyp 3 rfl (Y.mv rfl) (Dyp 4 rfl (Y.fld fo_Fact_0 f8 dc rfl) (Dy 5 rfl (Y.ld1 f8 rfl ((Has.pt m0).sub (cs' := [_]) 0 rfl) rfl) (Dyp 6 rfl (Y.mv rfl) (Dyp 7 rfl (Y.len us_Is rfl) (Dyp 8 rfl (Y.sub rfl rfl om om) (D.st 9 rfl rfl kr (fun _ => rfl) (N.call0 D4 rfl rfl rfl dc (fun w Lp hA => trivial)) (fun _ _ => (Ent.b (fun q15 => ?_) (fun q15 => ?_))))))))))
  ·have y1 : F4 s j7 = true := by rw [F4, q7, q15]; rfl
   obtain ⟨z1, z2, _, _⟩ := V1 y1
   refine Dyp 10 rfl (Y.not (b := true) rfl) (Dyp 11 rfl (Y.pkf rfl rfl) (Dyp 12 rfl (Y.mv rfl) (Dyp 13 rfl (Y.fld fo_Fact_1 ty_Is dc rfl) (Dy 14 rfl (Y.ld1 ty_Is rfl ((Has.pt m0).sub (cs' := [_]) 1 rfl) rfl) (Dyp 15 rfl (Y.len us_Is rfl) (Dyp 16 rfl (Y.mv rfl) (Dyp 17 rfl (Y.fld fo_Fact_0 f8 dc rfl) (Dy 18 rfl (Y.ld1 f8 rfl ((Has.pt m0).sub (cs' := [_]) 0 rfl) rfl) ?_))))))))
   obtain ⟨eb25, eo25, ea25, ei25, eh25⟩ := hs.elemI j7.toNat om
   refine Dyp 19 rfl (Y.ix us_Is f8 rfl ea25 rfl j7.toNat om om) (Dy 20 rfl (Y.ld1 f8 rfl (eh25 _) rfl) (Dyp 21 rfl (Y.neq rfl rfl) (Ent.d (fun q27 => ?_) (fun q27 => ?_))))
   ·refine Dyp 22 rfl (Y.pkf rfl rfl) (D.done kr (Et (E.ct rfl (Ew Z1 (Eas rfl rfl ?_)))))
    exact Eu (E.ret (E.thr (Fb rfl rfl (by exact a4T (z7 (i := j7) (show j7.toNat < s.length by omega)) q27))))
   ·refine Dyp 22 rfl (Y.pkf rfl rfl) (D.done kr (Et (E.cf rfl (E.skipc (Et (Eq_ (Ew Z1 (Eas rfl rfl (Eu (E.block (E.loop (κ := Nat) (fun g => g ≤ f6.length ∧ ∀ x ∈ f6.take g, (!inR x 0 9) = false) (fun g => [(3, .pointer (some ⟨b3, 0, none⟩)), (5, .int .i64 (g : Int))]) (fun g => [pt b3 115 [.int .i64 j7, .slice r8 f6.length r7]]) (fun g => f6.length - g) 0 ⟨by omega, by simp⟩ ⟨rfl, rfl, trivial⟩ (.refl _) (fun g pg => ?_))))))))))))
    obtain ⟨pk, pa⟩ := pg
    refine Eq_ (Ew Z5 (Emv rfl rfl (Ey rfl ((Y.fld fo_Fact_1 ty_Is dc rfl).yd) (Ey rfl (Y.ld1 ty_Is rfl ((Has.pt m0).sub (cs' := [_]) 1 rfl) rfl) (Ey rfl ((Y.len us_Is rfl).yd) (Ey rfl ((Y.lss rfl rfl).yd) (Ent.d (fun q33 => ?_) (fun q33 => ?_))))))))
    ·refine Eu (E.ct rfl (E.skipc (Et (Eq_ (E.block (Ew Z7 (Ey rfl ((Y.fld fo_Fact_1 ty_Is dc rfl).yd) (Ey rfl (Y.ld1 ty_Is rfl ((Has.pt m0).sub (cs' := [_]) 1 rfl) rfl) (Emv rfl rfl ?_)))))))))
     obtain ⟨eb39, eo39, ea39, ei39, eh39⟩ := s4.elemI g om
     refine Ey rfl ((Y.ix us_Is f8 rfl ea39 rfl g rfl om).yd) (Ey rfl (Y.ld1 f8 rfl (eh39 _) rfl) (Est rfl (N.call0 D4 rfl rfl rfl dc (fun w Lp hA => trivial)) (fun _ _ => (Ent.b (fun q41 => ?_) (fun q41 => ?_)))))
     ·refine Ey rfl ((Y.not (b := true) rfl).yd) (Eu (E.cf rfl (E.skipc (E.bln (Et (Ez Z3 (Emv rfl rfl (Ey rfl ((Y.add rfl rfl om om).yd) (Eas rfl rfl ?_)))))))))
      exact Eu (E.again br (g + 1) ⟨rfl, rfl, trivial⟩ (.refl _) ⟨by omega, S0 om pa (by rw [q41]; rfl)⟩ om)
     ·refine Ey rfl ((Y.not (b := false) rfl).yd) (Eu (E.ct rfl (Ew Z1 (Eas rfl rfl ?_))))
      exact Eu (E.ret (E.blr (E.thr (E.thr (E.blr (E.thr (Fb rfl rfl (by exact a8H (by rw [I7, a5v (k := g) (show g < f6.length by omega) (by rw [q41]; rfl)]; rfl)))))))))
    ·refine Eu (E.cf rfl (E.exit (E.the (E.the (E.blh (Et (Ew Z1 (Eas rfl rfl ?_))))))))
     exact Eu (E.ret (Fb rfl rfl (by rw [← a6l (f := (j7, f6)) y1 (z7 (i := j7) (show j7.toNat < s.length by omega)) (show (f6.length : Int) = s[j7.toNat] by omega), I7, a3L (show ¬ g < f6.length by omega) pa]; rfl)))
  ·refine Dyp 10 rfl (Y.not (b := false) rfl) (Dyp 11 rfl (Y.pkf rfl rfl) (Dyp 12 rfl (Y.mv rfl) (Dsk 13 rfl (Dsk 14 rfl (Dsk 15 rfl (Dsk 16 rfl (Dsk 17 rfl (Dsk 18 rfl (Dsk 19 rfl (Dsk 20 rfl (Dsk 21 rfl (Dyp 22 rfl (Y.pkt rfl rfl) (D.done kr (Et (E.ct rfl (Ew Z1 (Eas rfl rfl ?_)))))))))))))))))
   exact Eu (E.ret (E.thr (Fb rfl rfl (by exact a2r (a9Z q15)))))
 ·refine Dyp 2 rfl (Y.not (b := false) rfl) (Dyp 3 rfl (Y.mv rfl) (Dsk 4 rfl (Dsk 5 rfl (Dsk 6 rfl (Dsk 7 rfl (Dsk 8 rfl (Dsk 9 rfl (Dsk 10 rfl (Dyp 11 rfl (Y.pkt rfl rfl) (Dyp 12 rfl (Y.mv rfl) (Dsk 13 rfl (Dsk 14 rfl (Dsk 15 rfl (Dsk 16 rfl (Dsk 17 rfl (Dsk 18 rfl (Dsk 19 rfl (Dsk 20 rfl (Dsk 21 rfl (Dyp 22 rfl (Y.pkt rfl rfl) (D.done kr (Et (E.ct rfl (Ew Z1 (Eas rfl rfl ?_)))))))))))))))))))))))))
  exact Eu (E.ret (E.thr (Fb rfl rfl (by exact a2r (a9f q7)))))
end Go.Proofs.YtdopeopehgdccaaGreat
