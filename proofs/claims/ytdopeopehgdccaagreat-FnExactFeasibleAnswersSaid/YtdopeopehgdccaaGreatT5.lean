import Derived.Test.YtdopeopehgdccaaGreatBs
import Derived.Test.YtdopeopehgdccaaGreatT1
import Derived.Test.YtdopeopehgdccaaGreatBc
namespace Go.Proofs.YtdopeopehgdccaaGreat
open Go.RowKit
set_option linter.all false
set_option maxHeartbeats 2000000
attribute [local irreducible] Nop Yd Yp Ent Has Tr FnP FnP2 Src
variable {i9 n l3 : Int} {o0 s f7 : List Int} {s8 s4 m_s c_s w9 s9 : Nat} {s5 a_s t6 : Option Addr}
theorem a9g {left : Int} : Tr Tryz.prog 60 [.agg #[.int .i64 i9, .slice s5 s8 s4], .int .i64 left] (fun w L => I64 i9 ∧ Ro w L eIs [.slice s5 s8 s4] o0 ∧ 0 ≤ left ∧ left ≤ 1048576) [] (κ := Unit) (fun k => True) (fun k => .int .i64 (szR (o0.length) left)) (fun k => []) := by
 refine Tr.intro Tryz.func60 rfl (n := 12) rfl (by decide +kernel) bl (fr := [(0, .agg #[.int .i64 i9, .slice s5 s8 s4]), (1, .int .i64 left)]) rfl fun w L hR => ?_
 obtain ⟨D9, v8, as0, as1⟩ := hR
 obtain ⟨rfl, L8⟩ := v8.slen
 refine Ew Z2 (Est rfl (N.box (cs := [_, _]) rfl dc rfl) (fun b2 _ => (Eas rfl rfl (Ev Z5 (Ey rfl ((Y.fld fo_lFact_1 ty_Is dc rfl).yd) (Ey rfl (Y.ld1 ty_Is rfl ((Has.pt m0).sub (cs' := [_]) 1 rfl) rfl) (Emv rfl rfl (Est rfl (N.call0 a1c rfl rfl rfl dc (fun w Lp hA => ⟨hA.ro v8, (by first | assumption | omega), (by first | assumption | omega)⟩)) (fun _ _ => (Eas rfl rfl (Eu (Eq_ (Ew Z2 (Emv rfl rfl (Ey rfl ((Y.lss rfl rfl).yd) (Ent.d (fun q10 => ?_) (fun q10 => ?_)))))))))))))))))
 ·have z10 := Y3 q10 om
  refine Eu (E.ct rfl (Ew Z1 (Eas rfl rfl ?_)))
  exact Eu (E.ret (E.thr (Fg rfl rfl () (congrArg (Value.int .i64) (by unfold szR; split <;> omega)) rfl)))
 ·obtain ⟨z10, y10⟩ := a0A q10 om
  refine Eu (E.cf rfl (E.skipc (Et (Ew Z2 (Emv rfl rfl (Eas rfl rfl ?_))))))
  exact Eu (E.ret (Fg rfl rfl () (congrArg (Value.int .i64) (by have e : szR (o0.length) left = left - ((o0.length : Nat) : Int) := by { unfold szR; split <;> omega }; omega)) rfl))
theorem a9o (h1 : o0.length ≤ 1048576) : Tr Tryz.prog 70 [.agg #[.int .i64 i9, .slice s5 s8 s4]] (fun w L => I64 i9 ∧ Ro w L eIs [.slice s5 s8 s4] o0) [] (κ := Option Addr × Nat × Nat) (fun k => True) (fun k => .agg #[.int .i64 i9, .slice k.1 k.2.1 k.2.2]) (fun k => [ow eIs [.slice k.1 k.2.1 k.2.2] o0]) := by
 refine Tr.intro Tryz.func70 rfl (n := 12) rfl (by decide +kernel) bl (fr := [(0, .agg #[.int .i64 i9, .slice s5 s8 s4])]) rfl fun w L hR => ?_
 obtain ⟨D9, v8⟩ := hR
 obtain ⟨rfl, L8⟩ := v8.slen
 refine Ew Z2 (Est rfl (N.box (cs := [_, _]) rfl dc rfl) (fun b1 _ => (Est rfl (N.alloc ty_Fact dc) (fun b2 _ => (Ev Z1 (Est rfl (N.alloc ty_Fact dc) (fun b3 _ => (Ev Z4 (Ey rfl ((Y.fld fo_lFact_0 f8 dc rfl).yd) (Ey rfl (Y.ld1 f8 rfl ((Has.pt (mS (mS m0))).sub (cs' := [_]) 0 rfl) rfl) (Ey rfl ((Y.fld fo_Fact_0 f8 dc rfl).yd) (Est rfl (N.sto (vs := [_]) (cs' := [_, _]) f8 rfl rfl rfl rfl rfl bl rfl) (fun _ _ => (Ev Z5 (Ey rfl ((Y.fld fo_lFact_1 ty_Is dc rfl).yd) (Ey rfl (Y.ld1 ty_Is rfl ((Has.pt (mS (mS m0))).sub (cs' := [_]) 1 rfl) rfl) (Est rfl (N.call (Q3 fc) rfl rfl rfl dc rfl (fun w Lp hA => hA.ro v8)) (fun k9 _ => ?_))))))))))))))))))
 obtain ⟨a9, m9, c9⟩ := k9
 refine Ent.lenow m0 fun e9 l9 => ?_
 subst e9
 refine Ey rfl ((Y.fld fo_Fact_1 ty_Is dc rfl).yd) (Ent.p1 (Est rfl (N.sto (vs := [_]) (cs' := [_, _]) ty_Is rfl rfl rfl rfl rfl bl rfl) (fun _ _ => (Ev Z2 (Ey rfl (Y.ldS (cs := [_, _]) ty_Fact rfl (Has.pt m0) rfl) (Ent.p2 (Est rfl (N.sto (vs := [_, _]) (cs' := [_, _]) ty_Fact rfl rfl rfl rfl rfl bl rfl) (fun _ _ => (Eu (E.ret (Ent.p2 ?_)))))))))))
 exact F.c1 br rfl rfl (mS m0) ty_Fact rfl (_, _, _) trivial rfl (J := _) (.refl _) (.inl rfl)
theorem a9n {N3 : Int} {r5 : Option Addr} {r9 o9 : Nat} {f9 : List Int} : Tr Tryz.prog 79 [.agg #[.int .i64 i9, .slice s5 s8 s4], .agg #[.int .i64 N3, .slice r5 r9 o9]] (fun w L => I64 i9 ∧ Ro w L eIs [.slice s5 s8 s4] o0 ∧ I64 N3 ∧ Ro w L eIs [.slice r5 r9 o9] f9) [] (κ := Unit) (fun k => True) (fun k => .bool (decide ((i9, o0) = (N3, f9)))) (fun k => []) := by
 refine Tr.intro Tryz.func79 rfl (n := 16) rfl (by decide +kernel) bl (fr := [(0, .agg #[.int .i64 i9, .slice s5 s8 s4]), (1, .agg #[.int .i64 N3, .slice r5 r9 o9])]) rfl fun w L hR => ?_
 obtain ⟨D9, v8, a5z, s6⟩ := hR
 obtain ⟨rfl, L8⟩ := v8.slen
 obtain ⟨rfl, H7⟩ := s6.slen
 refine Ew Z3 (Est rfl (N.box (cs := [_, _]) rfl dc rfl) (fun b2 _ => (Est rfl (N.box (cs := [_, _]) rfl dc rfl) (fun b3 _ => (Eas rfl rfl (Eu (Eq_ (Ew Z5 (Ey rfl ((Y.fld fo_Fact_0 f8 dc rfl).yd) (Ey rfl (Y.ld1 f8 rfl ((Has.pt (mS m0)).sub (cs' := [_]) 0 rfl) rfl) (Ey rfl ((Y.fld fo_Fact_0 f8 dc rfl).yd) (Ey rfl (Y.ld1 f8 rfl ((Has.pt m0).sub (cs' := [_]) 0 rfl) rfl) (Ey rfl ((Y.neq rfl rfl).yd) (Ent.d (fun q9 => ?_) (fun q9 => ?_)))))))))))))))
 ·refine Eu (E.ct rfl (Ew Z1 (Eas rfl rfl ?_)))
  exact Eu (E.ret (E.thr (Fb rfl rfl (by simp_all))))
 ·refine Eu (E.cf rfl (E.skipc (Et (Eq_ (Ew Z6 (Ey rfl ((Y.fld fo_Fact_1 ty_Is dc rfl).yd) (Ey rfl (Y.ld1 ty_Is rfl ((Has.pt (mS m0)).sub (cs' := [_]) 1 rfl) rfl) (Ey rfl ((Y.fld fo_Fact_1 ty_Is dc rfl).yd) (Ey rfl (Y.ld1 ty_Is rfl ((Has.pt m0).sub (cs' := [_]) 1 rfl) rfl) (Est rfl (N.call0 W7 rfl rfl rfl dc (fun w Lp hA => ⟨hA.ro v8, hA.ro s6⟩)) (fun _ _ => (Ent.b (fun q14 => ?_) (fun q14 => ?_)))))))))))))
  ·refine Ey rfl ((Y.not (b := true) rfl).yd) (Eu (E.cf rfl (E.skipc (Et (Ew Z1 (Eas rfl rfl ?_))))))
   exact Eu (E.ret (Fb rfl rfl (by simp_all)))
  ·refine Ey rfl ((Y.not (b := false) rfl).yd) (Eu (E.ct rfl (Ew Z1 (Eas rfl rfl ?_))))
   exact Eu (E.ret (E.thr (Fb rfl rfl (by simp_all))))
theorem a0K : Tr Tryz.prog 273 [.int .i64 n] (fun w L => True) [] (κ := Unit) (fun k => True) (fun k => .bool (inR n 0 9)) (fun k => []) := by
 refine Tr.intro Tryz.func273 rfl (n := 5) rfl (by decide +kernel) bl (fr := [(0, .int .i64 n)]) rfl fun w L hR => (Ew Z1 (Eas rfl rfl (Ev Z3 (Emv rfl rfl (Est rfl (N.call0 I1 rfl rfl rfl dc (fun w Lp hA => trivial)) (fun _ _ => (Eas rfl rfl ?_)))))))
 exact Eu (E.ret (Fg rfl rfl () rfl rfl))
theorem a4J : Tr Tryz.prog 288 [.int .i64 n] (fun w L => (I64 n) ∧ True) [] (κ := Unit) (fun k => True) (fun k => .bool (!inR n 0 9)) (fun k => []) := by
 refine Tr.intro Tryz.func288 rfl (n := 6) rfl (by decide +kernel) bl (fr := [(0, .int .i64 n)]) rfl fun w L hR => ?_
 obtain ⟨i6n, _⟩ := hR
 refine Ew Z1 (Eas rfl rfl (Ev Z4 (Emv rfl rfl (Est rfl (N.call0 a0K rfl rfl rfl dc (fun w Lp hA => trivial)) (fun _ _ => (Ey rfl ((Y.not rfl).yd) (Eas rfl rfl ?_)))))))
 exact Eu (E.ret (Fb rfl rfl (by simp_all)))
theorem a6i {a_l : Option Addr} {m_l c_l : Nat} {l : List Int} : Tr Tryz.prog 230 [.slice a_l m_l c_l] (fun w L => Ro w L eIs [.slice a_l m_l c_l] l) [] (κ := Unit) (fun k => True) (fun k => .bool (M6 l)) (fun k => []) := by
 refine Tr.intro Tryz.func230 rfl (n := 6) rfl (by decide +kernel) bl (fr := [(0, .slice a_l m_l c_l)]) rfl fun w L hR => ?_
 have hl := hR
 obtain ⟨rfl, ll⟩ := hl.slen
 refine Ew Z1 (Eas rfl rfl (Ev Z4 (Emv rfl rfl (Est rfl (N.call0 (Q7 (f := (fun n => !inR n 0 9)) (D_f := (fun _ => True)) (by intros; exact trivial)) rfl rfl rfl dc (fun w Lp hA => ⟨hA.ro hl, FnP.ofI (D := (fun _ => True)) (fun hd => a4J) (fun w' hk => trivial)⟩)) (fun _ _ => (Ey rfl ((Y.not rfl).yd) (Eas rfl rfl ?_)))))))
 exact Eu (E.ret (Fb rfl rfl (by rfl)))
theorem a9p : Tr Tryz.prog 155 [.slice a_s m_s c_s, .agg #[.int .i64 l3, .slice t6 w9 s9]] (fun w L => Ro w L eIs [.slice a_s m_s c_s] s ∧ I64 l3 ∧ Ro w L eIs [.slice t6 w9 s9] f7) [] (κ := Unit) (fun k => True) (fun k => .bool (H2 s (l3, f7))) (fun k => []) := by
 refine Tr.intro Tryz.func155 rfl (n := 25) rfl (by decide +kernel) bl (fr := [(0, .slice a_s m_s c_s), (1, .agg #[.int .i64 l3, .slice t6 w9 s9])]) rfl fun w L hR => ?_
 obtain ⟨hs, F0, u5⟩ := hR
 obtain ⟨rfl, ls⟩ := hs.slen
 obtain ⟨rfl, Q4⟩ := u5.slen
 refine Ew Z2 (Est rfl (N.box (cs := [_, _]) rfl dc rfl) (fun b3 _ => (Eas rfl rfl (Eu (Eq_ (D.region (fun j => true) mixed (Dyp 0 rfl (Y.mv rfl) (Dyp 1 rfl (Y.fld fo_Fact_0 f8 dc rfl) (Dy 2 rfl (Y.ld1 f8 rfl ((Has.pt m0).sub (cs' := [_]) 0 rfl) rfl) (D.st 3 rfl rfl kr (fun _ => rfl) (N.call0 a2v rfl rfl rfl dc (fun w Lp hA => hA.ro hs)) (fun _ _ => (Ent.b (fun q8 => ?_) (fun q8 => ?_)))))))))))))
 ·obtain ⟨z1, z2, _, _⟩ := V6 q8
  refine Dyp 4 rfl (Y.mv rfl) (Dyp 5 rfl (Y.fld fo_Fact_1 ty_Is dc rfl) (Dy 6 rfl (Y.ld1 ty_Is rfl ((Has.pt m0).sub (cs' := [_]) 1 rfl) rfl) (Dyp 7 rfl (Y.len us_Is rfl) (Dyp 8 rfl (Y.mv rfl) (Dyp 9 rfl (Y.fld fo_Fact_0 f8 dc rfl) (Dy 10 rfl (Y.ld1 f8 rfl ((Has.pt m0).sub (cs' := [_]) 0 rfl) rfl) ?_))))))
  obtain ⟨eb16, eo16, ea16, ei16, eh16⟩ := hs.elemI l3.toNat om
  refine Dyp 11 rfl (Y.ix us_Is f8 rfl ea16 rfl l3.toNat om om) (Dy 12 rfl (Y.ld1 f8 rfl (eh16 _) rfl) (Dyp 13 rfl (Y.eql rfl rfl) (Ent.d (fun q18 => ?_) (fun q18 => ?_))))
  ·refine Dyp 14 rfl (Y.pkt rfl rfl) (Dyp 15 rfl (Y.mv rfl) (Dyp 16 rfl (Y.fld fo_Fact_1 ty_Is dc rfl) (Dy 17 rfl (Y.ld1 ty_Is rfl ((Has.pt m0).sub (cs' := [_]) 1 rfl) rfl) (D.st 18 rfl rfl kr (fun _ => rfl) (N.call0 a6i rfl rfl rfl dc (fun w Lp hA => hA.ro u5)) (fun _ _ => (Dyp 19 rfl (Y.pkt rfl rfl) (Dyp 20 rfl (Y.as rfl) ?_)))))))
   exact D.done kr (Et (E.ret (Fb rfl rfl (by exact a8R (f := (l3, f7)) q8 (B6 (i := l3) (show l3.toNat < s.length by omega)) q18))))
  ·refine Dyp 14 rfl (Y.pkt rfl rfl) (Dyp 15 rfl (Y.mv rfl) (Dsk 16 rfl (Dsk 17 rfl (Dsk 18 rfl (Dyp 19 rfl (Y.pkf rfl rfl) (Dyp 20 rfl (Y.as rfl) ?_))))))
   exact D.done kr (Et (E.ret (Fb rfl rfl (by exact a7p (B6 (i := l3) (show l3.toNat < s.length by omega)) q18))))
 ·refine Dyp 4 rfl (Y.mv rfl) (Dsk 5 rfl (Dsk 6 rfl (Dsk 7 rfl (Dsk 8 rfl (Dsk 9 rfl (Dsk 10 rfl (Dsk 11 rfl (Dsk 12 rfl (Dsk 13 rfl (Dyp 14 rfl (Y.pkf rfl rfl) (Dyp 15 rfl (Y.mv rfl) (Dsk 16 rfl (Dsk 17 rfl (Dsk 18 rfl (Dyp 19 rfl (Y.pkf rfl rfl) (Dyp 20 rfl (Y.as rfl) ?_))))))))))))))))
  exact D.done kr (Et (E.ret (Fb rfl rfl (by exact a3L q8))))
theorem a9c : Tr Tryz.prog 139 [.slice a_s m_s c_s, .agg #[.int .i64 l3, .slice t6 w9 s9]] (fun w L => Ro w L eIs [.slice a_s m_s c_s] s ∧ I64 l3 ∧ Ro w L eIs [.slice t6 w9 s9] f7) [] (κ := Unit) (fun k => True) (fun k => .bool (H2 s (l3, f7))) (fun k => []) := by
 refine Tr.intro Tryz.func139 rfl (n := 43) rfl (by decide +kernel) bl (fr := [(0, .slice a_s m_s c_s), (1, .agg #[.int .i64 l3, .slice t6 w9 s9])]) rfl fun w L hR => ?_
 obtain ⟨hs, F0, u5⟩ := hR
 obtain ⟨rfl, ls⟩ := hs.slen
 obtain ⟨rfl, Q4⟩ := u5.slen
 refine Ew Z2 (Est rfl (N.box (cs := [_, _]) rfl dc rfl) (fun b3 _ => (Eas rfl rfl (Eu (Eq_ (Eq_ (D.region (fun j => true) mixed (Dyp 0 rfl (Y.mv rfl) (D.st 1 rfl rfl kr (fun _ => rfl) (N.call0 S7 rfl rfl rfl dc (fun w Lp hA => hA.ro hs)) (fun _ _ => (Ent.b (fun q7 => ?_) (fun q7 => ?_))))))))))))
 ·refine Dyp 2 rfl (Y.not (b := true) rfl) (Dyp 3 rfl (Y.mv rfl) (Dyp 4 rfl (Y.fld fo_Fact_0 f8 dc rfl) (Dy 5 rfl (Y.ld1 f8 rfl ((Has.pt m0).sub (cs' := [_]) 0 rfl) rfl) (Dyp 6 rfl (Y.mv rfl) (Dyp 7 rfl (Y.len us_Is rfl) (Dyp 8 rfl (Y.sub rfl rfl om om) (D.st 9 rfl rfl kr (fun _ => rfl) (N.call0 E7 rfl rfl rfl dc (fun w Lp hA => trivial)) (fun _ _ => (Ent.b (fun q15 => ?_) (fun q15 => ?_))))))))))
  ·have y1 : G5 s l3 = true := by rw [G5, q7, q15]; rfl
   obtain ⟨z1, z2, _, _⟩ := V6 y1
   refine Dyp 10 rfl (Y.not (b := true) rfl) (Dyp 11 rfl (Y.pkf rfl rfl) (Dyp 12 rfl (Y.mv rfl) (Dyp 13 rfl (Y.fld fo_Fact_1 ty_Is dc rfl) (Dy 14 rfl (Y.ld1 ty_Is rfl ((Has.pt m0).sub (cs' := [_]) 1 rfl) rfl) (Dyp 15 rfl (Y.len us_Is rfl) (Dyp 16 rfl (Y.mv rfl) (Dyp 17 rfl (Y.fld fo_Fact_0 f8 dc rfl) (Dy 18 rfl (Y.ld1 f8 rfl ((Has.pt m0).sub (cs' := [_]) 0 rfl) rfl) ?_))))))))
   obtain ⟨eb25, eo25, ea25, ei25, eh25⟩ := hs.elemI l3.toNat om
   refine Dyp 19 rfl (Y.ix us_Is f8 rfl ea25 rfl l3.toNat om om) (Dy 20 rfl (Y.ld1 f8 rfl (eh25 _) rfl) (Dyp 21 rfl (Y.neq rfl rfl) (Ent.d (fun q27 => ?_) (fun q27 => ?_))))
   ·refine Dyp 22 rfl (Y.pkf rfl rfl) (D.done kr (Et (E.ct rfl (Ew Z1 (Eas rfl rfl ?_)))))
    exact Eu (E.ret (E.thr (Fb rfl rfl (by exact a7p (B6 (i := l3) (show l3.toNat < s.length by omega)) q27))))
   ·refine Dyp 22 rfl (Y.pkf rfl rfl) (D.done kr (Et (E.cf rfl (E.skipc (Et (Eq_ (Ew Z1 (Eas rfl rfl (Eu (E.block (E.loop (κ := Nat) (fun g => g ≤ f7.length ∧ ∀ x ∈ f7.take g, (!inR x 0 9) = false) (fun g => [(3, .pointer (some ⟨b3, 0, none⟩)), (5, .int .i64 (g : Int))]) (fun g => [pt b3 115 [.int .i64 l3, .slice t6 f7.length s9]]) (fun g => f7.length - g) 0 ⟨by omega, by simp⟩ ⟨rfl, rfl, trivial⟩ (.refl _) (fun g pg => ?_))))))))))))
    obtain ⟨pk, pa⟩ := pg
    refine Eq_ (Ew Z5 (Emv rfl rfl (Ey rfl ((Y.fld fo_Fact_1 ty_Is dc rfl).yd) (Ey rfl (Y.ld1 ty_Is rfl ((Has.pt m0).sub (cs' := [_]) 1 rfl) rfl) (Ey rfl ((Y.len us_Is rfl).yd) (Ey rfl ((Y.lss rfl rfl).yd) (Ent.d (fun q33 => ?_) (fun q33 => ?_))))))))
    ·refine Eu (E.ct rfl (E.skipc (Et (Eq_ (E.block (Ew Z7 (Ey rfl ((Y.fld fo_Fact_1 ty_Is dc rfl).yd) (Ey rfl (Y.ld1 ty_Is rfl ((Has.pt m0).sub (cs' := [_]) 1 rfl) rfl) (Emv rfl rfl ?_)))))))))
     obtain ⟨eb39, eo39, ea39, ei39, eh39⟩ := u5.elemI g om
     refine Ey rfl ((Y.ix us_Is f8 rfl ea39 rfl g rfl om).yd) (Ey rfl (Y.ld1 f8 rfl (eh39 _) rfl) (Est rfl (N.call0 E7 rfl rfl rfl dc (fun w Lp hA => trivial)) (fun _ _ => (Ent.b (fun q41 => ?_) (fun q41 => ?_)))))
     ·refine Ey rfl ((Y.not (b := true) rfl).yd) (Eu (E.cf rfl (E.skipc (E.bln (Et (Ez Z3 (Emv rfl rfl (Ey rfl ((Y.add rfl rfl om om).yd) (Eas rfl rfl ?_)))))))))
      exact Eu (E.again br (g + 1) ⟨rfl, rfl, trivial⟩ (.refl _) ⟨by omega, S1 om pa (by rw [q41]; rfl)⟩ om)
     ·refine Ey rfl ((Y.not (b := false) rfl).yd) (Eu (E.ct rfl (Ew Z1 (Eas rfl rfl ?_))))
      exact Eu (E.ret (E.blr (E.thr (E.thr (E.blr (E.thr (Fb rfl rfl (by exact b1I (by rw [M6, a7I (k := g) (show g < f7.length by omega) (by rw [q41]; rfl)]; rfl)))))))))
    ·refine Eu (E.cf rfl (E.exit (E.the (E.the (E.blh (Et (Ew Z1 (Eas rfl rfl ?_))))))))
     exact Eu (E.ret (Fb rfl rfl (by rw [← a8R (f := (l3, f7)) y1 (B6 (i := l3) (show l3.toNat < s.length by omega)) (show (f7.length : Int) = s[l3.toNat] by omega), M6, a6v (show ¬ g < f7.length by omega) pa]; rfl)))
  ·refine Dyp 10 rfl (Y.not (b := false) rfl) (Dyp 11 rfl (Y.pkf rfl rfl) (Dyp 12 rfl (Y.mv rfl) (Dsk 13 rfl (Dsk 14 rfl (Dsk 15 rfl (Dsk 16 rfl (Dsk 17 rfl (Dsk 18 rfl (Dsk 19 rfl (Dsk 20 rfl (Dsk 21 rfl (Dyp 22 rfl (Y.pkt rfl rfl) (D.done kr (Et (E.ct rfl (Ew Z1 (Eas rfl rfl ?_)))))))))))))))))
   exact Eu (E.ret (E.thr (Fb rfl rfl (by exact a3L (b3w q15)))))
 ·refine Dyp 2 rfl (Y.not (b := false) rfl) (Dyp 3 rfl (Y.mv rfl) (Dsk 4 rfl (Dsk 5 rfl (Dsk 6 rfl (Dsk 7 rfl (Dsk 8 rfl (Dsk 9 rfl (Dsk 10 rfl (Dyp 11 rfl (Y.pkt rfl rfl) (Dyp 12 rfl (Y.mv rfl) (Dsk 13 rfl (Dsk 14 rfl (Dsk 15 rfl (Dsk 16 rfl (Dsk 17 rfl (Dsk 18 rfl (Dsk 19 rfl (Dsk 20 rfl (Dsk 21 rfl (Dyp 22 rfl (Y.pkt rfl rfl) (D.done kr (Et (E.ct rfl (Ew Z1 (Eas rfl rfl ?_)))))))))))))))))))))))))
  exact Eu (E.ret (E.thr (Fb rfl rfl (by exact a3L (b2x q7)))))
end Go.Proofs.YtdopeopehgdccaaGreat
