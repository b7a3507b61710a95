import Derived.Test.YtfnbilpemdgkkaaGreatDoorT1
namespace Go.Proofs.YtfnbilpemdgkkaaGreatDoor
open Go.RowKit
set_option linter.all false
set_option maxHeartbeats 2000000
attribute [local irreducible] Nop Yd Yp Ent Has Tr FnP FnP2 Src
variable {n f8 : Int} {s a7 : List Int} {m_s c_s C4 B0 : Nat} {a_s z8 : Option Addr}
theorem a0C : Tr Tryz.prog 192 [.int .i64 n] (fun w L => True) [] (κ := Unit) (fun k => True) (fun k => .bool (inR n 0 9)) (fun k => []) := by
 refine Tr.intro Tryz.func192 rfl (n := 5) rfl (by decide +kernel) bl (fr := [(0, .int .i64 n)]) rfl fun w L hR => (Ew Z1 (Ei rfl (Ev Z3 (Em rfl (Est rfl (i8 L9 rfl rfl rfl dc tv) (fun _ _ => (Ei rfl ?_)))))))
 exact Eu (E.ret (Fg rfl rfl () rfl rfl))
theorem a1r : Tr Tryz.prog 191 [.int .i64 n] (fun w L => (I64 n) ∧ True) [] (κ := Unit) (fun k => True) (fun k => .bool (!inR n 0 9)) (fun k => []) := by
 refine Tr.intro Tryz.func191 rfl (n := 6) rfl (by decide +kernel) bl (fr := [(0, .int .i64 n)]) rfl fun w L hR => ?_
 obtain ⟨i6n, _⟩ := hR
 refine Ew Z1 (Ei rfl (Ev Z4 (Em rfl (Est rfl (i8 a0C rfl rfl rfl dc tv) (fun _ _ => (Ey rfl ((Y.not rfl).yd) (Ei rfl ?_)))))))
 exact Eu (E.ret (Fb rfl rfl (by simp_all)))
theorem a2d {a_l : Option Addr} {m_l c_l : Nat} {l : List Int} : Tr Tryz.prog 158 [.slice a_l m_l c_l] (fun w L => Ro w L eIs [.slice a_l m_l c_l] l) [] (κ := Unit) (fun k => True) (fun k => .bool (P2 l)) (fun k => []) := by
 refine Tr.intro Tryz.func158 rfl (n := 6) rfl (by decide +kernel) bl (fr := [(0, .slice a_l m_l c_l)]) rfl fun w L hR => ?_
 have hl := hR
 obtain ⟨rfl, ll⟩ := hl.slen
 refine Ew Z1 (Ei rfl (Ev Z4 (Em rfl (Est rfl (i8 (O8 (f := (fun n => !inR n 0 9)) (D_f := (fun _ => True)) (by intros; exact trivial)) rfl rfl rfl dc (fun w Lp hA => ⟨hA.ro hl, a0I (D := (fun _ => True)) (fun hd => a1r) (fun w' hk => trivial)⟩)) (fun _ _ => (Ey rfl ((Y.not rfl).yd) (Ei rfl ?_)))))))
 exact Eu (E.ret (Fb rfl rfl (by rfl)))
theorem a4m : Tr Tryz.prog 110 [.slice a_s m_s c_s, .agg #[.int .i64 f8, .slice z8 C4 B0]] (fun w L => Ro w L eIs [.slice a_s m_s c_s] s ∧ I64 f8 ∧ Ro w L eIs [.slice z8 C4 B0] a7) [] (κ := Unit) (fun k => True) (fun k => .bool (D4 s (f8, a7))) (fun k => []) := by
 refine Tr.intro Tryz.func110 rfl (n := 25) rfl (by decide +kernel) bl (fr := [(0, .slice a_s m_s c_s), (1, .agg #[.int .i64 f8, .slice z8 C4 B0])]) rfl fun w L hR => ?_
 obtain ⟨hs, G9, B4⟩ := hR
 obtain ⟨rfl, ls⟩ := hs.slen
 obtain ⟨rfl, W8⟩ := B4.slen
 refine Ew Z2 (Est rfl (N.box (cs := [_, _]) rfl dc rfl) (fun b3 _ => (Ei rfl (Eu (Eq_ (D.region (fun j => true) mixed (Dyp 0 rfl (i0 rfl) (Dyp 1 rfl (f9 fo_Fact_0 d9 dc rfl) (Dy 2 rfl (f6 d9 rfl (Hz m0 0 rfl) rfl) (t7 3 rfl rfl kr (fun _ => rfl) (i8 a1c rfl rfl rfl dc (fun w Lp hA => hA.ro hs)) (fun _ _ => (u5 (fun q8 => ?_) (fun q8 => ?_)))))))))))))
 ·obtain ⟨z1, z2, _, _⟩ := S3 q8
  refine Dyp 4 rfl (i0 rfl) (Dyp 5 rfl (f9 fo_Fact_1 ty_Is dc rfl) (Dy 6 rfl (f6 ty_Is rfl (Hz m0 1 rfl) rfl) (Dyp 7 rfl (Y.len us_Is rfl) (Dyp 8 rfl (i0 rfl) (Dyp 9 rfl (f9 fo_Fact_0 d9 dc rfl) (Dy 10 rfl (f6 d9 rfl (Hz m0 0 rfl) rfl) ?_))))))
  obtain ⟨eb16, eo16, ea16, ei16, eh16⟩ := hs.elemI f8.toNat om
  refine Dyp 11 rfl (o6 us_Is d9 rfl ea16 rfl f8.toNat om om) (Dy 12 rfl (f6 d9 rfl (eh16 _) rfl) (Dyp 13 rfl (Y.eql rfl rfl) (j4 (fun q18 => ?_) (fun q18 => ?_))))
  ·refine Dyp 14 rfl (v6 rfl rfl) (Dyp 15 rfl (i0 rfl) (Dyp 16 rfl (f9 fo_Fact_1 ty_Is dc rfl) (Dy 17 rfl (f6 ty_Is rfl (Hz m0 1 rfl) rfl) (t7 18 rfl rfl kr (fun _ => rfl) (i8 a2d rfl rfl rfl dc (fun w Lp hA => hA.ro B4)) (fun _ _ => (Dyp 19 rfl (v6 rfl rfl) (Dyp 20 rfl (D8 rfl) ?_)))))))
   exact o0 kr (Et (E.ret (Fb rfl rfl (by exact a3Q (f := (f8, a7)) q8 (I8 (i := f8) (show f8.toNat < s.length by omega)) q18))))
  ·refine Dyp 14 rfl (v6 rfl rfl) (Dyp 15 rfl (i0 rfl) (Dsk 16 rfl (Dsk 17 rfl (Dsk 18 rfl (Dyp 19 rfl (w7 rfl rfl) (Dyp 20 rfl (D8 rfl) ?_))))))
   exact o0 kr (Et (E.ret (Fb rfl rfl (by exact a2u (I8 (i := f8) (show f8.toNat < s.length by omega)) q18))))
 ·refine Dyp 4 rfl (i0 rfl) (Dsk 5 rfl (Dsk 6 rfl (Dsk 7 rfl (Dsk 8 rfl (Dsk 9 rfl (Dsk 10 rfl (Dsk 11 rfl (Dsk 12 rfl (Dsk 13 rfl (Dyp 14 rfl (w7 rfl rfl) (Dyp 15 rfl (i0 rfl) (Dsk 16 rfl (Dsk 17 rfl (Dsk 18 rfl ?_))))))))))))))
  refine Dyp 19 rfl (w7 rfl rfl) (Dyp 20 rfl (D8 rfl) ?_)
  exact o0 kr (Et (E.ret (Fb rfl rfl (by exact a0W q8))))
theorem a4c : Tr Tryz.prog 68 [.slice a_s m_s c_s, .agg #[.int .i64 f8, .slice z8 C4 B0]] (fun w L => Ro w L eIs [.slice a_s m_s c_s] s ∧ I64 f8 ∧ Ro w L eIs [.slice z8 C4 B0] a7) [] (κ := Unit) (fun k => True) (fun k => .bool (D4 s (f8, a7))) (fun k => []) := by
 refine Tr.intro Tryz.func68 rfl (n := 43) rfl (by decide +kernel) bl (fr := [(0, .slice a_s m_s c_s), (1, .agg #[.int .i64 f8, .slice z8 C4 B0])]) rfl fun w L hR => ?_
 obtain ⟨hs, G9, B4⟩ := hR
 obtain ⟨rfl, ls⟩ := hs.slen
 obtain ⟨rfl, W8⟩ := B4.slen
 refine Ew Z2 (Est rfl (N.box (cs := [_, _]) rfl dc rfl) (fun b3 _ => (Ei rfl (Eu (Eq_ (Eq_ (D.region (fun j => true) mixed (Dyp 0 rfl (i0 rfl) (t7 1 rfl rfl kr (fun _ => rfl) (i8 H5 rfl rfl rfl dc (fun w Lp hA => hA.ro hs)) (fun _ _ => (u5 (fun q7 => ?_) (fun q7 => ?_))))))))))))
 ·refine Dyp 2 rfl (Y.not (b := true) rfl) (Dyp 3 rfl (i0 rfl) (Dyp 4 rfl (f9 fo_Fact_0 d9 dc rfl) (Dy 5 rfl (f6 d9 rfl (Hz m0 0 rfl) rfl) (Dyp 6 rfl (i0 rfl) (Dyp 7 rfl (Y.len us_Is rfl) (Dyp 8 rfl (Y.sub rfl rfl om om) (t7 9 rfl rfl kr (fun _ => rfl) (i8 K0 rfl rfl rfl dc tv) (fun _ _ => (u5 (fun q15 => ?_) (fun q15 => ?_))))))))))
  ·have y1 : F1 s f8 = true := by rw [F1, q7, q15]; rfl
   obtain ⟨z1, z2, _, _⟩ := S3 y1
   refine Dyp 10 rfl (Y.not (b := true) rfl) (Dyp 11 rfl (w7 rfl rfl) (Dyp 12 rfl (i0 rfl) (Dyp 13 rfl (f9 fo_Fact_1 ty_Is dc rfl) (Dy 14 rfl (f6 ty_Is rfl (Hz m0 1 rfl) rfl) (Dyp 15 rfl (Y.len us_Is rfl) (Dyp 16 rfl (i0 rfl) (Dyp 17 rfl (f9 fo_Fact_0 d9 dc rfl) (Dy 18 rfl (f6 d9 rfl (Hz m0 0 rfl) rfl) ?_))))))))
   obtain ⟨eb25, eo25, ea25, ei25, eh25⟩ := hs.elemI f8.toNat om
   refine Dyp 19 rfl (o6 us_Is d9 rfl ea25 rfl f8.toNat om om) (Dy 20 rfl (f6 d9 rfl (eh25 _) rfl) (Dyp 21 rfl (Y.neq rfl rfl) (j4 (fun q27 => ?_) (fun q27 => ?_))))
   ·refine Dyp 22 rfl (w7 rfl rfl) (o0 kr (Et (j9 rfl (Ew Z1 (Ei rfl ?_)))))
    exact Eu (E.ret (j5 (Fb rfl rfl (by exact a2u (I8 (i := f8) (show f8.toNat < s.length by omega)) q27))))
   ·refine Dyp 22 rfl (w7 rfl rfl) (o0 kr (Et (j8 rfl (f5 (Et (Eq_ (Ew Z1 (Ei rfl (Eu (E.block (E.loop (κ := Nat) (fun g => g ≤ a7.length ∧ ∀ x ∈ a7.take g, (!inR x 0 9) = false) (fun g => [(3, .pointer (some ⟨b3, 0, none⟩)), (5, .int .i64 (g : Int))]) (fun g => [pt b3 44 [.int .i64 f8, .slice z8 a7.length B0]]) (fun g => a7.length - g) 0 ⟨by omega, by simp⟩ ⟨rfl, rfl, trivial⟩ (.refl _) (fun g pg => ?_))))))))))))
    obtain ⟨pk, pa⟩ := pg
    refine Eq_ (Ew Z5 (Em rfl (Ey rfl ((f9 fo_Fact_1 ty_Is dc rfl).yd) (Ey rfl (f6 ty_Is rfl (Hz m0 1 rfl) rfl) (Ey rfl ((Y.len us_Is rfl).yd) (Ey rfl ((Y.lss rfl rfl).yd) (j4 (fun q33 => ?_) (fun q33 => ?_))))))))
    ·refine Eu (j9 rfl (f5 (Et (Eq_ (E.block (Ew Z7 (Ey rfl ((f9 fo_Fact_1 ty_Is dc rfl).yd) (Ey rfl (f6 ty_Is rfl (Hz m0 1 rfl) rfl) (Em rfl ?_)))))))))
     obtain ⟨eb39, eo39, ea39, ei39, eh39⟩ := B4.elemI g om
     refine Ey rfl ((o6 us_Is d9 rfl ea39 rfl g rfl om).yd) (Ey rfl (f6 d9 rfl (eh39 _) rfl) (Est rfl (i8 K0 rfl rfl rfl dc tv) (fun _ _ => (u5 (fun q41 => ?_) (fun q41 => ?_)))))
     ·refine Ey rfl ((Y.not (b := true) rfl).yd) (Eu (j8 rfl (f5 (n9 (Et (Ez Z3 (Em rfl (Ey rfl ((Y.add rfl rfl om om).yd) (Ei rfl ?_)))))))))
      exact Eu (t8 br (g + 1) ⟨rfl, rfl, trivial⟩ (.refl _) ⟨by omega, P9 om pa (by rw [q41]; rfl)⟩ om)
     ·refine Ey rfl ((Y.not (b := false) rfl).yd) (Eu (j9 rfl (Ew Z1 (Ei rfl ?_))))
      exact Eu (E.ret (w9 (j5 (j5 (w9 (j5 (Fb rfl rfl (by exact a6i (by rw [P2, a3f (k := g) (show g < a7.length by omega) (by rw [q41]; rfl)]; rfl)))))))))
    ·refine Eu (j8 rfl (E.exit (l2 (l2 (w8 (Et (Ew Z1 (Ei rfl ?_))))))))
     exact Eu (E.ret (Fb rfl rfl (by rw [← a3Q (f := (f8, a7)) y1 (I8 (i := f8) (show f8.toNat < s.length by omega)) (show (a7.length : Int) = s[f8.toNat] by omega), P2, a2f (show ¬ g < a7.length by omega) pa]; rfl)))
  ·refine Dyp 10 rfl (Y.not (b := false) rfl) (Dyp 11 rfl (w7 rfl rfl) (Dyp 12 rfl (i0 rfl) (Dsk 13 rfl (Dsk 14 rfl (Dsk 15 rfl (Dsk 16 rfl (Dsk 17 rfl (Dsk 18 rfl (Dsk 19 rfl (Dsk 20 rfl (Dsk 21 rfl (Dyp 22 rfl (v6 rfl rfl) (o0 kr (Et (j9 rfl (Ew Z1 (Ei rfl ?_)))))))))))))))))
   exact Eu (E.ret (j5 (Fb rfl rfl (by exact a0W (a7Y q15)))))
 ·refine Dyp 2 rfl (Y.not (b := false) rfl) (Dyp 3 rfl (i0 rfl) (Dsk 4 rfl (Dsk 5 rfl (Dsk 6 rfl (Dsk 7 rfl (Dsk 8 rfl (Dsk 9 rfl (Dsk 10 rfl (Dyp 11 rfl (v6 rfl rfl) (Dyp 12 rfl (i0 rfl) (Dsk 13 rfl (Dsk 14 rfl (Dsk 15 rfl (Dsk 16 rfl ?_))))))))))))))
  refine Dsk 17 rfl (Dsk 18 rfl (Dsk 19 rfl (Dsk 20 rfl (Dsk 21 rfl (Dyp 22 rfl (v6 rfl rfl) (o0 kr (Et (j9 rfl (Ew Z1 (Ei rfl ?_))))))))))
  exact Eu (E.ret (j5 (Fb rfl rfl (by exact a0W (a7m q7)))))
end Go.Proofs.YtfnbilpemdgkkaaGreatDoor
