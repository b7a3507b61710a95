import Derived.Test.YtdopeopehgdccaaBs
import Derived.Test.YtdopeopehgdccaaT1
import Derived.Test.YtdopeopehgdccaaBc
namespace Go.Proofs.Ytdopeopehgdccaa
open Go.RowKit
set_option linter.all false
set_option maxHeartbeats 2000000
attribute [local irreducible] Nop Yd Yp Ent Has Tr FnP FnP2 Src
variable {l4 n b9 f4 j8 : Int} {i7 s b8 f8 : List Int} {j3 i9 m_s c_s d9 c8 o4 k7 : Nat} {i8 a_s d4 k8 : Option Addr}
theorem L5 {left : Int} : Tr Try.prog 6 [.agg #[.int .i64 l4, .slice i8 j3 i9], .int .i64 left] (fun w L => I64 l4 ∧ Ro w L eIs [.slice i8 j3 i9] i7 ∧ 0 ≤ left ∧ left ≤ 1048576) [] (κ := Unit) (fun k => True) (fun k => .int .i64 (szR (i7.length) left)) (fun k => []) := by
 refine Tr.intro Try.func6 rfl (n := 12) rfl (by decide +kernel) bl (fr := [(0, .agg #[.int .i64 l4, .slice i8 j3 i9]), (1, .int .i64 left)]) rfl fun w L hR => ?_
 obtain ⟨K1, l8, as0, as1⟩ := hR
 obtain ⟨rfl, F2⟩ := l8.slen
 refine Ew Z2 (Est rfl (N.box (cs := [_, _]) rfl dc rfl) (fun b2 _ => (Eas rfl rfl (Ev Z5 (Ey rfl ((Y.fld fo_lFact_1 ty_Is dc rfl).yd) (Ey rfl (Y.ld1 ty_Is rfl ((Has.pt m0).sub (cs' := [_]) 1 rfl) rfl) (Emv rfl rfl (Est rfl (N.call0 L6 rfl rfl rfl dc (fun w Lp hA => ⟨hA.ro l8, (by first | assumption | omega), (by first | assumption | omega)⟩)) (fun _ _ => (Eas rfl rfl (Eu (Eq_ (Ew Z2 (Emv rfl rfl (Ey rfl ((Y.lss rfl rfl).yd) (Ent.d (fun q10 => ?_) (fun q10 => ?_)))))))))))))))))
 ·have z10 := E4 q10 om
  refine Eu (E.ct rfl (Ew Z1 (Eas rfl rfl ?_)))
  exact Eu (E.ret (E.thr (Fg rfl rfl () (congrArg (Value.int .i64) (by unfold szR; split <;> omega)) rfl)))
 ·obtain ⟨z10, y10⟩ := G9 q10 om
  refine Eu (E.cf rfl (E.skipc (Et (Ew Z2 (Emv rfl rfl (Eas rfl rfl ?_))))))
  exact Eu (E.ret (Fg rfl rfl () (congrArg (Value.int .i64) (by have e : szR (i7.length) left = left - ((i7.length : Nat) : Int) := by { unfold szR; split <;> omega }; omega)) rfl))
theorem w6 (h1 : i7.length ≤ 1048576) : Tr Try.prog 11 [.agg #[.int .i64 l4, .slice i8 j3 i9]] (fun w L => I64 l4 ∧ Ro w L eIs [.slice i8 j3 i9] i7) [] (κ := Option Addr × Nat × Nat) (fun k => True) (fun k => .agg #[.int .i64 l4, .slice k.1 k.2.1 k.2.2]) (fun k => [ow eIs [.slice k.1 k.2.1 k.2.2] i7]) := by
 refine Tr.intro Try.func11 rfl (n := 12) rfl (by decide +kernel) bl (fr := [(0, .agg #[.int .i64 l4, .slice i8 j3 i9])]) rfl fun w L hR => ?_
 obtain ⟨K1, l8⟩ := hR
 obtain ⟨rfl, F2⟩ := l8.slen
 refine Ew Z2 (Est rfl (N.box (cs := [_, _]) rfl dc rfl) (fun b1 _ => (Est rfl (N.alloc ty_Fact dc) (fun b2 _ => (Ev Z1 (Est rfl (N.alloc ty_Fact dc) (fun b3 _ => (Ev Z4 (Ey rfl ((Y.fld fo_lFact_0 c6 dc rfl).yd) (Ey rfl (Y.ld1 c6 rfl ((Has.pt (mS (mS m0))).sub (cs' := [_]) 0 rfl) rfl) (Ey rfl ((Y.fld fo_Fact_0 c6 dc rfl).yd) (Est rfl (N.sto (vs := [_]) (cs' := [_, _]) c6 rfl rfl rfl rfl rfl bl rfl) (fun _ _ => (Ev Z5 (Ey rfl ((Y.fld fo_lFact_1 ty_Is dc rfl).yd) (Ey rfl (Y.ld1 ty_Is rfl ((Has.pt (mS (mS m0))).sub (cs' := [_]) 1 rfl) rfl) (Est rfl (N.call (t6 fc) rfl rfl rfl dc rfl (fun w Lp hA => hA.ro l8)) (fun k9 _ => ?_))))))))))))))))))
 obtain ⟨a9, m9, c9⟩ := k9
 refine Ent.lenow m0 fun e9 l9 => ?_
 subst e9
 refine Ey rfl ((Y.fld fo_Fact_1 ty_Is dc rfl).yd) (Ent.p1 (Est rfl (N.sto (vs := [_]) (cs' := [_, _]) ty_Is rfl rfl rfl rfl rfl bl rfl) (fun _ _ => (Ev Z2 (Ey rfl (Y.ldS (cs := [_, _]) ty_Fact rfl (Has.pt m0) rfl) (Ent.p2 (Est rfl (N.sto (vs := [_, _]) (cs' := [_, _]) ty_Fact rfl rfl rfl rfl rfl bl rfl) (fun _ _ => (Eu (E.ret (Ent.p2 ?_)))))))))))
 exact F.c1 br rfl rfl (mS m0) ty_Fact rfl (_, _, _) trivial rfl (J := _) (.refl _) (.inl rfl)
theorem K9 {v4 : Int} {n8 : Option Addr} {r5 n9 : Nat} {o9 : List Int} : Tr Try.prog 16 [.agg #[.int .i64 l4, .slice i8 j3 i9], .agg #[.int .i64 v4, .slice n8 r5 n9]] (fun w L => I64 l4 ∧ Ro w L eIs [.slice i8 j3 i9] i7 ∧ I64 v4 ∧ Ro w L eIs [.slice n8 r5 n9] o9) [] (κ := Unit) (fun k => True) (fun k => .bool (decide ((l4, i7) = (v4, o9)))) (fun k => []) := by
 refine Tr.intro Try.func16 rfl (n := 16) rfl (by decide +kernel) bl (fr := [(0, .agg #[.int .i64 l4, .slice i8 j3 i9]), (1, .agg #[.int .i64 v4, .slice n8 r5 n9])]) rfl fun w L hR => ?_
 obtain ⟨K1, l8, a0H, v8⟩ := hR
 obtain ⟨rfl, F2⟩ := l8.slen
 obtain ⟨rfl, X0⟩ := v8.slen
 refine Ew Z3 (Est rfl (N.box (cs := [_, _]) rfl dc rfl) (fun b2 _ => (Est rfl (N.box (cs := [_, _]) rfl dc rfl) (fun b3 _ => (Eas rfl rfl (Eu (Eq_ (Ew Z5 (Ey rfl ((Y.fld fo_Fact_0 c6 dc rfl).yd) (Ey rfl (Y.ld1 c6 rfl ((Has.pt (mS m0)).sub (cs' := [_]) 0 rfl) rfl) (Ey rfl ((Y.fld fo_Fact_0 c6 dc rfl).yd) (Ey rfl (Y.ld1 c6 rfl ((Has.pt m0).sub (cs' := [_]) 0 rfl) rfl) (Ey rfl ((Y.neq rfl rfl).yd) (Ent.d (fun q9 => ?_) (fun q9 => ?_)))))))))))))))
 ·refine Eu (E.ct rfl (Ew Z1 (Eas rfl rfl ?_)))
  exact Eu (E.ret (E.thr (Fb rfl rfl (by simp_all))))
 ·refine Eu (E.cf rfl (E.skipc (Et (Eq_ (Ew Z6 (Ey rfl ((Y.fld fo_Fact_1 ty_Is dc rfl).yd) (Ey rfl (Y.ld1 ty_Is rfl ((Has.pt (mS m0)).sub (cs' := [_]) 1 rfl) rfl) (Ey rfl ((Y.fld fo_Fact_1 ty_Is dc rfl).yd) (Ey rfl (Y.ld1 ty_Is rfl ((Has.pt m0).sub (cs' := [_]) 1 rfl) rfl) (Est rfl (N.call0 t7 rfl rfl rfl dc (fun w Lp hA => ⟨hA.ro l8, hA.ro v8⟩)) (fun _ _ => (Ent.b (fun q14 => ?_) (fun q14 => ?_)))))))))))))
  ·refine Ey rfl ((Y.not (b := true) rfl).yd) (Eu (E.cf rfl (E.skipc (Et (Ew Z1 (Eas rfl rfl ?_))))))
   exact Eu (E.ret (Fb rfl rfl (by simp_all)))
  ·refine Ey rfl ((Y.not (b := false) rfl).yd) (Eu (E.ct rfl (Ew Z1 (Eas rfl rfl ?_))))
   exact Eu (E.ret (E.thr (Fb rfl rfl (by simp_all))))
theorem U9 : Tr Try.prog 66 [.int .i64 n] (fun w L => True) [] (κ := Unit) (fun k => True) (fun k => .bool (inR n 0 9)) (fun k => []) := by
 refine Tr.intro Try.func66 rfl (n := 5) rfl (by decide +kernel) bl (fr := [(0, .int .i64 n)]) rfl fun w L hR => (Ew Z1 (Eas rfl rfl (Ev Z3 (Emv rfl rfl (Est rfl (N.call0 w4 rfl rfl rfl dc (fun w Lp hA => trivial)) (fun _ _ => (Eas rfl rfl ?_)))))))
 exact Eu (E.ret (Fg rfl rfl () rfl rfl))
theorem M6 : Tr Try.prog 65 [.int .i64 n] (fun w L => (I64 n) ∧ True) [] (κ := Unit) (fun k => True) (fun k => .bool (!inR n 0 9)) (fun k => []) := by
 refine Tr.intro Try.func65 rfl (n := 6) rfl (by decide +kernel) bl (fr := [(0, .int .i64 n)]) rfl fun w L hR => ?_
 obtain ⟨i6n, _⟩ := hR
 refine Ew Z1 (Eas rfl rfl (Ev Z4 (Emv rfl rfl (Est rfl (N.call0 U9 rfl rfl rfl dc (fun w Lp hA => trivial)) (fun _ _ => (Ey rfl ((Y.not rfl).yd) (Eas rfl rfl ?_)))))))
 exact Eu (E.ret (Fb rfl rfl (by simp_all)))
theorem Q4 {a_l : Option Addr} {m_l c_l : Nat} {l : List Int} : Tr Try.prog 61 [.slice a_l m_l c_l] (fun w L => Ro w L eIs [.slice a_l m_l c_l] l) [] (κ := Unit) (fun k => True) (fun k => .bool (w5 l)) (fun k => []) := by
 refine Tr.intro Try.func61 rfl (n := 6) rfl (by decide +kernel) bl (fr := [(0, .slice a_l m_l c_l)]) rfl fun w L hR => ?_
 have hl := hR
 obtain ⟨rfl, ll⟩ := hl.slen
 refine Ew Z1 (Eas rfl rfl (Ev Z4 (Emv rfl rfl (Est rfl (N.call0 (B9 (f := (fun n => !inR n 0 9)) (D_f := (fun _ => True)) (by intros; exact trivial)) rfl rfl rfl dc (fun w Lp hA => ⟨hA.ro hl, FnP.ofI (D := (fun _ => True)) (fun hd => M6) (fun w' hk => trivial)⟩)) (fun _ _ => (Ey rfl ((Y.not rfl).yd) (Eas rfl rfl ?_)))))))
 exact Eu (E.ret (Fb rfl rfl (by rfl)))
theorem X8 : Tr Try.prog 50 [.slice a_s m_s c_s, .agg #[.int .i64 b9, .slice d4 d9 c8]] (fun w L => Ro w L eIs [.slice a_s m_s c_s] s ∧ I64 b9 ∧ Ro w L eIs [.slice d4 d9 c8] b8) [] (κ := Unit) (fun k => True) (fun k => .bool (j5 s (b9, b8))) (fun k => []) := by
 refine Tr.intro Try.func50 rfl (n := 25) rfl (by decide +kernel) bl (fr := [(0, .slice a_s m_s c_s), (1, .agg #[.int .i64 b9, .slice d4 d9 c8])]) rfl fun w L hR => ?_
 obtain ⟨hs, p5, f6⟩ := hR
 obtain ⟨rfl, ls⟩ := hs.slen
 obtain ⟨rfl, u5⟩ := f6.slen
 refine Ew Z2 (Est rfl (N.box (cs := [_, _]) rfl dc rfl) (fun b3 _ => (Eas rfl rfl (Eu (Eq_ (D.region (fun j => true) n0 (Dyp 0 rfl (Y.mv rfl) (Dyp 1 rfl (Y.fld fo_Fact_0 c6 dc rfl) (Dy 2 rfl (Y.ld1 c6 rfl ((Has.pt m0).sub (cs' := [_]) 0 rfl) rfl) (D.st 3 rfl rfl kr (fun _ => rfl) (N.call0 F4 rfl rfl rfl dc (fun w Lp hA => hA.ro hs)) (fun _ _ => (Ent.b (fun q8 => ?_) (fun q8 => ?_)))))))))))))
 ·obtain ⟨z1, z2, _, _⟩ := w2 q8
  refine Dyp 4 rfl (Y.mv rfl) (Dyp 5 rfl (Y.fld fo_Fact_1 ty_Is dc rfl) (Dy 6 rfl (Y.ld1 ty_Is rfl ((Has.pt m0).sub (cs' := [_]) 1 rfl) rfl) (Dyp 7 rfl (Y.len us_Is rfl) (Dyp 8 rfl (Y.mv rfl) (Dyp 9 rfl (Y.fld fo_Fact_0 c6 dc rfl) (Dy 10 rfl (Y.ld1 c6 rfl ((Has.pt m0).sub (cs' := [_]) 0 rfl) rfl) ?_))))))
  obtain ⟨eb16, eo16, ea16, ei16, eh16⟩ := hs.elemI b9.toNat om
  refine Dyp 11 rfl (Y.ix us_Is c6 rfl ea16 rfl b9.toNat om om) (Dy 12 rfl (Y.ld1 c6 rfl (eh16 _) rfl) (Dyp 13 rfl (Y.eql rfl rfl) (Ent.d (fun q18 => ?_) (fun q18 => ?_))))
  ·refine Dyp 14 rfl (Y.pkt rfl rfl) (Dyp 15 rfl (Y.mv rfl) (Dyp 16 rfl (Y.fld fo_Fact_1 ty_Is dc rfl) (Dy 17 rfl (Y.ld1 ty_Is rfl ((Has.pt m0).sub (cs' := [_]) 1 rfl) rfl) (D.st 18 rfl rfl kr (fun _ => rfl) (N.call0 Q4 rfl rfl rfl dc (fun w Lp hA => hA.ro f6)) (fun _ _ => (Dyp 19 rfl (Y.pkt rfl rfl) (Dyp 20 rfl (Y.as rfl) ?_)))))))
   exact D.done kr (Et (E.ret (Fb rfl rfl (by exact W5 (f := (b9, b8)) q8 (m5 (i := b9) (show b9.toNat < s.length by omega)) q18))))
  ·refine Dyp 14 rfl (Y.pkt rfl rfl) (Dyp 15 rfl (Y.mv rfl) (Dsk 16 rfl (Dsk 17 rfl (Dsk 18 rfl (Dyp 19 rfl (Y.pkf rfl rfl) (Dyp 20 rfl (Y.as rfl) ?_))))))
   exact D.done kr (Et (E.ret (Fb rfl rfl (by exact S5 (m5 (i := b9) (show b9.toNat < s.length by omega)) q18))))
 ·refine Dyp 4 rfl (Y.mv rfl) (Dsk 5 rfl (Dsk 6 rfl (Dsk 7 rfl (Dsk 8 rfl (Dsk 9 rfl (Dsk 10 rfl (Dsk 11 rfl (Dsk 12 rfl (Dsk 13 rfl (Dyp 14 rfl (Y.pkf rfl rfl) (Dyp 15 rfl (Y.mv rfl) (Dsk 16 rfl (Dsk 17 rfl (Dsk 18 rfl (Dyp 19 rfl (Y.pkf rfl rfl) (Dyp 20 rfl (Y.as rfl) ?_))))))))))))))))
  exact D.done kr (Et (E.ret (Fb rfl rfl (by exact K8 q8))))
theorem X3 : Tr Try.prog 33 [.slice a_s m_s c_s, .agg #[.int .i64 b9, .slice d4 d9 c8]] (fun w L => Ro w L eIs [.slice a_s m_s c_s] s ∧ I64 b9 ∧ Ro w L eIs [.slice d4 d9 c8] b8) [] (κ := Unit) (fun k => True) (fun k => .bool (j5 s (b9, b8))) (fun k => []) := by
 refine Tr.intro Try.func33 rfl (n := 43) rfl (by decide +kernel) bl (fr := [(0, .slice a_s m_s c_s), (1, .agg #[.int .i64 b9, .slice d4 d9 c8])]) rfl fun w L hR => ?_
 obtain ⟨hs, p5, f6⟩ := hR
 obtain ⟨rfl, ls⟩ := hs.slen
 obtain ⟨rfl, u5⟩ := f6.slen
 refine Ew Z2 (Est rfl (N.box (cs := [_, _]) rfl dc rfl) (fun b3 _ => (Eas rfl rfl (Eu (Eq_ (Eq_ (D.region (fun j => true) n0 (Dyp 0 rfl (Y.mv rfl) (D.st 1 rfl rfl kr (fun _ => rfl) (N.call0 y4 rfl rfl rfl dc (fun w Lp hA => hA.ro hs)) (fun _ _ => (Ent.b (fun q7 => ?_) (fun q7 => ?_))))))))))))
 ·refine Dyp 2 rfl (Y.not (b := true) rfl) (Dyp 3 rfl (Y.mv rfl) (Dyp 4 rfl (Y.fld fo_Fact_0 c6 dc rfl) (Dy 5 rfl (Y.ld1 c6 rfl ((Has.pt m0).sub (cs' := [_]) 0 rfl) rfl) (Dyp 6 rfl (Y.mv rfl) (Dyp 7 rfl (Y.len us_Is rfl) (Dyp 8 rfl (Y.sub rfl rfl om om) (D.st 9 rfl rfl kr (fun _ => rfl) (N.call0 u7 rfl rfl rfl dc (fun w Lp hA => trivial)) (fun _ _ => (Ent.b (fun q15 => ?_) (fun q15 => ?_))))))))))
  ·have y1 : l3 s b9 = true := by rw [l3, q7, q15]; rfl
   obtain ⟨z1, z2, _, _⟩ := w2 y1
   refine Dyp 10 rfl (Y.not (b := true) rfl) (Dyp 11 rfl (Y.pkf rfl rfl) (Dyp 12 rfl (Y.mv rfl) (Dyp 13 rfl (Y.fld fo_Fact_1 ty_Is dc rfl) (Dy 14 rfl (Y.ld1 ty_Is rfl ((Has.pt m0).sub (cs' := [_]) 1 rfl) rfl) (Dyp 15 rfl (Y.len us_Is rfl) (Dyp 16 rfl (Y.mv rfl) (Dyp 17 rfl (Y.fld fo_Fact_0 c6 dc rfl) (Dy 18 rfl (Y.ld1 c6 rfl ((Has.pt m0).sub (cs' := [_]) 0 rfl) rfl) ?_))))))))
   obtain ⟨eb25, eo25, ea25, ei25, eh25⟩ := hs.elemI b9.toNat om
   refine Dyp 19 rfl (Y.ix us_Is c6 rfl ea25 rfl b9.toNat om om) (Dy 20 rfl (Y.ld1 c6 rfl (eh25 _) rfl) (Dyp 21 rfl (Y.neq rfl rfl) (Ent.d (fun q27 => ?_) (fun q27 => ?_))))
   ·refine Dyp 22 rfl (Y.pkf rfl rfl) (D.done kr (Et (E.ct rfl (Ew Z1 (Eas rfl rfl ?_)))))
    exact Eu (E.ret (E.thr (Fb rfl rfl (by exact S5 (m5 (i := b9) (show b9.toNat < s.length by omega)) q27))))
   ·refine Dyp 22 rfl (Y.pkf rfl rfl) (D.done kr (Et (E.cf rfl (E.skipc (Et (Eq_ (Ew Z1 (Eas rfl rfl (Eu (E.block (E.loop (κ := Nat) (fun g => g ≤ b8.length ∧ ∀ x ∈ b8.take g, (!inR x 0 9) = false) (fun g => [(3, .pointer (some ⟨b3, 0, none⟩)), (5, .int .i64 (g : Int))]) (fun g => [pt b3 37 [.int .i64 b9, .slice d4 b8.length c8]]) (fun g => b8.length - g) 0 ⟨by omega, by simp⟩ ⟨rfl, rfl, trivial⟩ (.refl _) (fun g pg => ?_))))))))))))
    obtain ⟨pk, pa⟩ := pg
    refine Eq_ (Ew Z5 (Emv rfl rfl (Ey rfl ((Y.fld fo_Fact_1 ty_Is dc rfl).yd) (Ey rfl (Y.ld1 ty_Is rfl ((Has.pt m0).sub (cs' := [_]) 1 rfl) rfl) (Ey rfl ((Y.len us_Is rfl).yd) (Ey rfl ((Y.lss rfl rfl).yd) (Ent.d (fun q33 => ?_) (fun q33 => ?_))))))))
    ·refine Eu (E.ct rfl (E.skipc (Et (Eq_ (E.block (Ew Z7 (Ey rfl ((Y.fld fo_Fact_1 ty_Is dc rfl).yd) (Ey rfl (Y.ld1 ty_Is rfl ((Has.pt m0).sub (cs' := [_]) 1 rfl) rfl) (Emv rfl rfl ?_)))))))))
     obtain ⟨eb39, eo39, ea39, ei39, eh39⟩ := f6.elemI g om
     refine Ey rfl ((Y.ix us_Is c6 rfl ea39 rfl g rfl om).yd) (Ey rfl (Y.ld1 c6 rfl (eh39 _) rfl) (Est rfl (N.call0 u7 rfl rfl rfl dc (fun w Lp hA => trivial)) (fun _ _ => (Ent.b (fun q41 => ?_) (fun q41 => ?_)))))
     ·refine Ey rfl ((Y.not (b := true) rfl).yd) (Eu (E.cf rfl (E.skipc (E.bln (Et (Ez Z3 (Emv rfl rfl (Ey rfl ((Y.add rfl rfl om om).yd) (Eas rfl rfl ?_)))))))))
      exact Eu (E.again br (g + 1) ⟨rfl, rfl, trivial⟩ (.refl _) ⟨by omega, v7 om pa (by rw [q41]; rfl)⟩ om)
     ·refine Ey rfl ((Y.not (b := false) rfl).yd) (Eu (E.ct rfl (Ew Z1 (Eas rfl rfl ?_))))
      exact Eu (E.ret (E.blr (E.thr (E.thr (E.blr (E.thr (Fb rfl rfl (by exact a0I (by rw [w5, J9 (k := g) (show g < b8.length by omega) (by rw [q41]; rfl)]; rfl)))))))))
    ·refine Eu (E.cf rfl (E.exit (E.the (E.the (E.blh (Et (Ew Z1 (Eas rfl rfl ?_))))))))
     exact Eu (E.ret (Fb rfl rfl (by rw [← W5 (f := (b9, b8)) y1 (m5 (i := b9) (show b9.toNat < s.length by omega)) (show (b8.length : Int) = s[b9.toNat] by omega), w5, G8 (show ¬ g < b8.length by omega) pa]; rfl)))
  ·refine Dyp 10 rfl (Y.not (b := false) rfl) (Dyp 11 rfl (Y.pkf rfl rfl) (Dyp 12 rfl (Y.mv rfl) (Dsk 13 rfl (Dsk 14 rfl (Dsk 15 rfl (Dsk 16 rfl (Dsk 17 rfl (Dsk 18 rfl (Dsk 19 rfl (Dsk 20 rfl (Dsk 21 rfl (Dyp 22 rfl (Y.pkt rfl rfl) (D.done kr (Et (E.ct rfl (Ew Z1 (Eas rfl rfl ?_)))))))))))))))))
   exact Eu (E.ret (E.thr (Fb rfl rfl (by exact K8 (Q0 q15)))))
 ·refine Dyp 2 rfl (Y.not (b := false) rfl) (Dyp 3 rfl (Y.mv rfl) (Dsk 4 rfl (Dsk 5 rfl (Dsk 6 rfl (Dsk 7 rfl (Dsk 8 rfl (Dsk 9 rfl (Dsk 10 rfl (Dyp 11 rfl (Y.pkt rfl rfl) (Dyp 12 rfl (Y.mv rfl) (Dsk 13 rfl (Dsk 14 rfl (Dsk 15 rfl (Dsk 16 rfl (Dsk 17 rfl (Dsk 18 rfl (Dsk 19 rfl (Dsk 20 rfl (Dsk 21 rfl (Dyp 22 rfl (Y.pkt rfl rfl) (D.done kr (Et (E.ct rfl (Ew Z1 (Eas rfl rfl ?_)))))))))))))))))))))))))
  exact Eu (E.ret (E.thr (Fb rfl rfl (by exact K8 (W4 q7)))))
theorem I0 (hm : ∀ x ∈ f8, 0 ≤ x ∧ x < b8.length) (hz : f8.length ≤ 1048576) : Tr Try.prog 36 [.agg #[.int .i64 f4, .int .i64 j8, .slice k8 o4 k7], .agg #[.int .i64 b9, .slice d4 d9 c8]] (fun w L => I64 f4 ∧ I64 j8 ∧ Ro w L eIs [.slice k8 o4 k7] f8 ∧ I64 b9 ∧ Ro w L eIs [.slice d4 d9 c8] b8) [] (κ := Option Addr × Nat × Nat) (fun k => True) (fun k => .agg #[.int .i64 j8, .slice k.1 k.2.1 k.2.2]) (fun k => [ow eIs [.slice k.1 k.2.1 k.2.2] (f7 f8 b8)]) := by
 refine Tr.intro Try.func36 rfl (n := 32) rfl (by decide +kernel) bl (fr := [(0, .agg #[.int .i64 f4, .int .i64 j8, .slice k8 o4 k7]), (1, .agg #[.int .i64 b9, .slice d4 d9 c8])]) rfl fun w L hR => ?_
 obtain ⟨H8, N8, u0, p5, f6⟩ := hR
 obtain ⟨rfl, S7⟩ := u0.slen
 obtain ⟨rfl, u5⟩ := f6.slen
 refine Ew Z3 (Est rfl (N.box (cs := [_, _, _]) rfl dc rfl) (fun b2 _ => (Est rfl (N.box (cs := [_, _]) rfl dc rfl) (fun b3 _ => (Est rfl (N.alloc ty_Fact dc) (fun b4 _ => (Ev Z5 (Ey rfl ((Y.fld fo_Rule_1 c6 dc rfl).yd) (Ey rfl (Y.ld1 c6 rfl ((Has.pt (mS (mS m0))).sub (cs' := [_]) 1 rfl) rfl) (Ey rfl ((Y.bld (pvs := [_]) (cs := [_, _]) ty_Fact O8 rfl rfl).yd) (Est rfl (N.alloc ty_Fact dc) (fun b5 _ => (Est rfl (N.sto (vs := [_, _]) (cs' := [_, _]) ty_Fact rfl rfl rfl rfl rfl bl rfl) (fun _ _ => (Eu (Eq_ (Ew Z1 (Eas rfl rfl (Eu (E.block (Ent.mkow (A := []) (Own.nil (E := Enc.int) (e := tI) (a := none)) rfl (E.loop (κ := Nat × Option Addr × Nat) (fun g => g.1 ≤ f8.length) (fun g => [(2, .pointer (some ⟨b2, 0, none⟩)), (3, .pointer (some ⟨b3, 0, none⟩)), (4, .pointer (some ⟨b4, 0, none⟩)), (5, .pointer (some ⟨b5, 0, none⟩)), (6, .int .i64 (↑g.1 : Int))]) (fun g => [ow eIs [.slice g.2.1 g.1 g.2.2] (f7 (f8.take g.1) b8), pt b5 37 [.int .i64 j8, .slice g.2.1 g.1 g.2.2], pt b4 37 [.int .i64 0, .slice none 0 0], pt b3 37 [.int .i64 b9, .slice d4 b8.length c8], pt b2 54 [.int .i64 f4, .int .i64 j8, .slice k8 f8.length k7]]) (fun g => f8.length - g.1) (0, none, 0) (Nat.zero_le _) ⟨rfl, rfl, rfl, rfl, rfl, trivial⟩ (.refl _) (fun g pg => (Eq_ (Ew Z5 (Emv rfl rfl (Ey rfl ((Y.fld fo_Rule_2 ty_Is dc rfl).yd) (Ey rfl (Y.ld1 ty_Is rfl ((Has.pt (mS (mS (mS (mS m0))))).sub (cs' := [_]) 2 rfl) rfl) (Ey rfl ((Y.len us_Is rfl).yd) (Ey rfl ((Y.lss rfl rfl).yd) (Ent.d (fun q14 => ?_) (fun q14 => ?_))))))))))))))))))))))))))))))))
 ·have hm1 := hm f8[g.1] (List.getElem_mem om)
  refine Eu (E.ct rfl (E.skipc (Et (Eq_ (E.block (D.region (fun j => !(Nat.beq j 12) && !(Nat.beq j 14)) n0 (Dyp 0 rfl (Y.fld fo_Fact_1 ty_Is dc rfl) (Dy 1 rfl (Y.ld1 ty_Is rfl ((Has.pt (mS m0)).sub (cs' := [_]) 1 rfl) rfl) (Dyp 2 rfl (Y.fld fo_Fact_1 ty_Is dc rfl) (Dy 3 rfl (Y.ld1 ty_Is rfl ((Has.pt (mS (mS (mS m0)))).sub (cs' := [_]) 1 rfl) rfl) (Dyp 4 rfl (Y.fld fo_Rule_2 ty_Is dc rfl) (Dy 5 rfl (Y.ld1 ty_Is rfl ((Has.pt (mS (mS (mS (mS m0))))).sub (cs' := [_]) 2 rfl) rfl) (Dyp 6 rfl (Y.mv rfl) ?_)))))))))))))
  obtain ⟨eb24, eo24, ea24, ei24, eh24⟩ := u0.elemI g.1 om
  refine Dyp 7 rfl (Y.ix us_Is c6 rfl ea24 rfl g.1 rfl om) (Dy 8 rfl (Y.ld1 c6 rfl (eh24 _) rfl) ?_)
  obtain ⟨eb26, eo26, ea26, ei26, eh26⟩ := f6.elemI f8[g.1].toNat om
  refine Dyp 9 rfl (Y.ix us_Is c6 rfl ea26 rfl f8[g.1].toNat om om) (Dy 10 rfl (Y.ld1 c6 rfl (eh26 _) rfl) (D.st 11 rfl rfl kr (fun _ => rfl) (N.bsl (pvs := [_]) (cs := [_]) us_Is c6 rfl dc dc (l6 rfl rfl) rfl dc) (fun b28 _ => (Ent.p1 (D.st 12 rfl rfl kr (fun h => by cases h) (N.push (E := Enc.int) (ex := b8[f8[g.1].toNat]) us_Is c6 rfl rfl rfl (Own.int ei26) rfl bn bn dc) (fun p29 _ => (Dyp 13 rfl (Y.fld fo_Fact_1 ty_Is dc rfl) (Ent.p1 (D.st 14 rfl rfl kr (fun h => by cases h) (N.sto (vs := [_]) (cs' := [_, _]) ty_Is rfl rfl rfl rfl rfl bl rfl) (fun _ _ => (D.done kr (E.bln (Et (Ez Z3 (Emv rfl rfl (Ey rfl ((Y.add rfl rfl om om).yd) (Eas rfl rfl (Eu (Ent.p1 (Ent.cv (congrArg (ow eIs [_]) (show (f7 (f8.take g.1) b8) ++ [b8[f8[g.1].toNat]] = f7 (f8.take (g.1 + 1)) b8 from W1 om om)) (Ent.p4 (Ent.p4 (Ent.p4 (Ent.p4 (Ent.p4 ?_)))))))))))))))))))))))))
  exact E.again br (g.1 + 1, p29.1, p29.2) rs (.refl _) (show g.1 + 1 ≤ _ by omega) (show _ - (g.1 + 1) < _ by omega)
 ·refine Eu (E.cf rfl (E.exit (E.the (E.the (E.blh (Et (Ew Z2 (Ey rfl (Y.ldS (cs := [_, _]) ty_Fact rfl (Has.pt (mS m0)) rfl) (Ent.p2 (Est rfl (N.sto (vs := [_, _]) (cs' := [_, _]) ty_Fact rfl rfl rfl rfl rfl bl rfl) (fun _ _ => (Eu (E.ret (Ent.p1 (Ent.cv (congrArg (ow eIs [_]) (show _ = f7 f8 b8 by exact K6 om)) ?_)))))))))))))))
  exact F.c1 br rfl rfl (mS m0) ty_Fact rfl (_, _, _) trivial rfl (J := _) (.refl _) (.inl rfl)
theorem L8 (hm : b9 = f4 → ∀ x ∈ f8, 0 ≤ x ∧ x < b8.length) (hz : f8.length ≤ 1048576) : Tr Try.prog 41 [.agg #[.int .i64 f4, .int .i64 j8, .slice k8 o4 k7], .agg #[.int .i64 b9, .slice d4 d9 c8]] (fun w L => I64 f4 ∧ I64 j8 ∧ Ro w L eIs [.slice k8 o4 k7] f8 ∧ I64 b9 ∧ Ro w L eIs [.slice d4 d9 c8] b8) [] (κ := Option Addr × Nat × Nat) (fun k => True) (fun k => .tuple #[.agg #[.int .i64 (cond (decide (b9 = f4)) j8 0), .slice k.1 k.2.1 k.2.2], .bool (decide (b9 = f4))]) (fun k => [ow eIs [.slice k.1 k.2.1 k.2.2] (cond (decide (b9 = f4)) (f7 f8 b8) [])]) := by
 refine Tr.intro Try.func41 rfl (n := 37) rfl (by decide +kernel) bl (fr := [(0, .agg #[.int .i64 f4, .int .i64 j8, .slice k8 o4 k7]), (1, .agg #[.int .i64 b9, .slice d4 d9 c8])]) rfl fun w L hR => ?_
 obtain ⟨H8, N8, u0, p5, f6⟩ := hR
 obtain ⟨rfl, S7⟩ := u0.slen
 obtain ⟨rfl, u5⟩ := f6.slen
 refine Ew Z4 (Est rfl (N.box (cs := [_, _, _]) rfl dc rfl) (fun b2 _ => (Est rfl (N.box (cs := [_, _]) rfl dc rfl) (fun b3 _ => (Est rfl (N.alloc ty_Fact dc) (fun b4 _ => (Eas rfl rfl (Eu (Eq_ (Ew Z5 (Ey rfl ((Y.fld fo_Fact_0 c6 dc rfl).yd) (Ey rfl (Y.ld1 c6 rfl ((Has.pt (mS m0)).sub (cs' := [_]) 0 rfl) rfl) (Ey rfl ((Y.fld fo_Rule_0 c6 dc rfl).yd) (Ey rfl (Y.ld1 c6 rfl ((Has.pt (mS (mS m0))).sub (cs' := [_]) 0 rfl) rfl) (Ey rfl ((Y.neq rfl rfl).yd) (Ent.d (fun q13 => ?_) (fun q13 => ?_)))))))))))))))))
 ·refine Eu (E.ct rfl (Ew Z3 (Ey rfl ((Y.bld (pvs := []) (cs := [_, _]) ty_Fact O8 rfl rfl).yd) (Est rfl (N.sto (vs := [_, _]) (cs' := [_, _]) ty_Fact rfl rfl rfl rfl rfl bl rfl) (fun _ _ => (Eas rfl rfl (Eu (E.ret (E.thr (Ent.mkow (A := []) (Own.nil (E := Enc.int) (e := tI) (a := none)) rfl (Ent.cv (congrArg (ow eIs [_]) (show _ = cond (decide (b9 = f4)) (f7 f8 b8) [] by simp only [decide_eq_false (show ¬ b9 = f4 from q13), cond_false])) ?_)))))))))))
  exact F.c2 br rfl rfl rfl (mS m0) ty_Fact rfl (none, 0, 0) trivial (by rw [show (cond (decide (b9 = f4)) j8 0) = (0) from (by simp only [decide_eq_false (show ¬ b9 = f4 from q13), cond_false])]; rw [show (decide (b9 = f4)) = (false) from (by simp only [decide_eq_false (show ¬ b9 = f4 from q13), cond_false])]; try rfl) (J := _) (.refl _) (.inl rfl)
 ·refine Eu (E.cf rfl (E.skipc (Et (Ew Z5 (Ey rfl ((Y.fld fo_Rule_1 c6 dc rfl).yd) (Ey rfl (Y.ld1 c6 rfl ((Has.pt (mS (mS m0))).sub (cs' := [_]) 1 rfl) rfl) (Ey rfl ((Y.bld (pvs := [_]) (cs := [_, _]) ty_Fact O8 rfl rfl).yd) (Est rfl (N.alloc ty_Fact dc) (fun b6 _ => (Est rfl (N.sto (vs := [_, _]) (cs' := [_, _]) ty_Fact rfl rfl rfl rfl rfl bl rfl) (fun _ _ => (Eu (Eq_ (Ew Z4 (Ey rfl ((Y.fld fo_Rule_2 ty_Is dc rfl).yd) (Ey rfl (Y.ld1 ty_Is rfl ((Has.pt (mS (mS (mS m0)))).sub (cs' := [_]) 2 rfl) rfl) (Ey rfl ((Y.len us_Is rfl).yd) (Emv rfl rfl (Eu (E.block (Ent.mkow (A := []) (Own.nil (E := Enc.int) (e := tI) (a := none)) rfl (E.loop (κ := Nat × Option Addr × Nat) (fun g => g.1 ≤ f8.length) (fun g => [(3, .pointer (some ⟨b3, 0, none⟩)), (4, .pointer (some ⟨b4, 0, none⟩)), (6, .pointer (some ⟨b6, 0, none⟩)), (19, .slice k8 f8.length k7), (20, .int .i64 (↑f8.length : Int)), (21, .int .i64 (↑g.1 : Int))]) (fun g => [ow eIs [.slice g.2.1 g.1 g.2.2] (f7 (f8.take g.1) b8), pt b6 37 [.int .i64 j8, .slice g.2.1 g.1 g.2.2], pt b4 37 [.int .i64 0, .slice none 0 0], pt b3 37 [.int .i64 b9, .slice d4 b8.length c8], pt b2 54 [.int .i64 f4, .int .i64 j8, .slice k8 f8.length k7]]) (fun g => f8.length - g.1) (0, none, 0) (Nat.zero_le _) ⟨rfl, rfl, rfl, rfl, rfl, rfl, trivial⟩ (.refl _) (fun g pg => (Ew Z1 (Ey rfl ((Y.lss rfl rfl).yd) (Ent.d (fun q22 => ?_) (fun q22 => ?_)))))))))))))))))))))))))))
  ·have hm1 := hm om f8[g.1] (List.getElem_mem om)
   obtain ⟨eb23, eo23, ea23, ei23, eh23⟩ := u0.elemI g.1 om
   refine Eu (Eq_ (E.ct rfl (E.skipc (Et (Eq_ (E.block (Ew Z3 (Ey rfl ((Y.ix us_Is c6 rfl ea23 rfl g.1 rfl om).yd) (Ey rfl (Y.ld1 c6 rfl (eh23 _) rfl) (Eas rfl rfl (Eu (D.region (fun j => !(Nat.beq j 8) && !(Nat.beq j 10)) n0 (Dyp 0 rfl (Y.fld fo_Fact_1 ty_Is dc rfl) (Dy 1 rfl (Y.ld1 ty_Is rfl ((Has.pt (mS m0)).sub (cs' := [_]) 1 rfl) rfl) (Dyp 2 rfl (Y.fld fo_Fact_1 ty_Is dc rfl) (Dy 3 rfl (Y.ld1 ty_Is rfl ((Has.pt (mS (mS (mS m0)))).sub (cs' := [_]) 1 rfl) rfl) (Dyp 4 rfl (Y.mv rfl) ?_)))))))))))))))))
   obtain ⟨eb30, eo30, ea30, ei30, eh30⟩ := f6.elemI f8[g.1].toNat om
   refine Dyp 5 rfl (Y.ix us_Is c6 rfl ea30 rfl f8[g.1].toNat om om) (Dy 6 rfl (Y.ld1 c6 rfl (eh30 _) rfl) (D.st 7 rfl rfl kr (fun _ => rfl) (N.bsl (pvs := [_]) (cs := [_]) us_Is c6 rfl dc dc (l6 rfl rfl) rfl dc) (fun b32 _ => (Ent.p1 (D.st 8 rfl rfl kr (fun h => by cases h) (N.push (E := Enc.int) (ex := b8[f8[g.1].toNat]) us_Is c6 rfl rfl rfl (Own.int ei30) rfl bn bn dc) (fun p33 _ => (Dyp 9 rfl (Y.fld fo_Fact_1 ty_Is dc rfl) (Ent.p1 (D.st 10 rfl rfl kr (fun h => by cases h) (N.sto (vs := [_]) (cs' := [_, _]) ty_Is rfl rfl rfl rfl rfl bl rfl) (fun _ _ => (D.done kr (E.bln (Et (Ez Z2 (Ey rfl ((Y.add rfl rfl om om).yd) (Emv rfl rfl (Eu (Ent.p1 (Ent.cv (congrArg (ow eIs [_]) (show (f7 (f8.take g.1) b8) ++ [b8[f8[g.1].toNat]] = f7 (f8.take (g.1 + 1)) b8 from W1 om om)) (Ent.p4 (Ent.p4 (Ent.p4 (Ent.p4 (Ent.p4 ?_))))))))))))))))))))))))
   exact E.again br (g.1 + 1, p33.1, p33.2) rs (.refl _) (show g.1 + 1 ≤ _ by omega) (show _ - (g.1 + 1) < _ by omega)
  ·refine Eu (Eq_ (E.cf rfl (E.exit (E.the (E.the (E.blh (Et (Ew Z3 (Ey rfl (Y.ldS (cs := [_, _]) ty_Fact rfl (Has.pt (mS m0)) rfl) (Ent.p2 (Est rfl (N.sto (vs := [_, _]) (cs' := [_, _]) ty_Fact rfl rfl rfl rfl rfl bl rfl) (fun _ _ => (Eas rfl rfl (Eu (E.ret (Ent.p1 (Ent.cv (congrArg (ow eIs [_]) (show _ = cond (decide (b9 = f4)) (f7 f8 b8) [] by simp only [decide_eq_true (show b9 = f4 by omega), cond_true, K6 (show f8.length ≤ g.1 by omega)])) ?_)))))))))))))))))
   exact F.c2 br rfl rfl rfl (mS m0) ty_Fact rfl (_, _, _) trivial (by rw [show (cond (decide (b9 = f4)) j8 0) = (j8) from (by simp only [decide_eq_true (show b9 = f4 by omega), cond_true, K6 (show f8.length ≤ g.1 by omega)])]; rw [show (decide (b9 = f4)) = (true) from (by simp only [decide_eq_true (show b9 = f4 by omega), cond_true, K6 (show f8.length ≤ g.1 by omega)])]; try rfl) (J := _) (.refl _) (.inl rfl)
end Go.Proofs.Ytdopeopehgdccaa
