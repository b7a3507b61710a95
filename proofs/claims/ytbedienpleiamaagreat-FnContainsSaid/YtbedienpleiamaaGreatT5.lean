import Derived.Test.YtbedienpleiamaaGreatT1
namespace Go.Proofs.YtbedienpleiamaaGreat
open Go.RowKit
set_option linter.all false
set_option maxHeartbeats 2000000
attribute [local irreducible] Nop Yd Yp Ent Has Tr FnP FnP2 Src
theorem a0s {n : Int} : Tr Tryz.prog 126 [.int .i64 n] (fun w L => True) [] (κ := Unit) (fun k => True) (fun k => .bool (inR n 0 9)) (fun k => []) := by
 refine Tr.intro Tryz.func126 rfl (n := 5) rfl (by decide +kernel) bl (fr := [(0, .int .i64 n)]) rfl fun w L hR => (Ew Z1 (Ei rfl (Ev Z3 (Em rfl (Est rfl (m6 P3 rfl rfl rfl dc tv) (fun _ _ => (Ei rfl ?_)))))))
 exact Eu (E.ret (Fg rfl rfl () rfl rfl))
theorem a6e {a_s : Option Addr} {m_s c_s : Nat} {s : List Int} {j5 : Int} {z8 : Option Addr} {C3 z7 : Nat} {d6 : List Int} : Tr Tryz.prog 54 [.slice a_s m_s c_s, .agg #[.int .i64 j5, .slice z8 C3 z7]] (fun w L => Ro w L eIs [.slice a_s m_s c_s] s ∧ I64 j5 ∧ Ro w L eIs [.slice z8 C3 z7] d6) [] (κ := Unit) (fun k => True) (fun k => .bool (H4 s (j5, d6))) (fun k => []) := by
 refine Tr.intro Tryz.func54 rfl (n := 43) rfl (by decide +kernel) bl (fr := [(0, .slice a_s m_s c_s), (1, .agg #[.int .i64 j5, .slice z8 C3 z7])]) rfl fun w L hR => ?_
 obtain ⟨hs, F3, y9⟩ := hR
 obtain ⟨rfl, ls⟩ := hs.slen
 obtain ⟨rfl, R9⟩ := y9.slen
 refine Ew Z2 (Est rfl (N.box (cs := [_, _]) rfl dc rfl) (fun b3 _ => (Ei rfl (Eu (Eq_ (Eq_ (D.region (fun j => true) mixed (Dyp 0 rfl (i8 rfl) (r8 1 rfl rfl kr (fun _ => rfl) (m6 N0 rfl rfl rfl dc (fun w Lp hA => hA.ro hs)) (fun _ _ => (t7 (fun q7 => ?_) (fun q7 => ?_))))))))))))
 ·refine Dyp 2 rfl (Y.not (b := true) rfl) (Dyp 3 rfl (i8 rfl) (Dyp 4 rfl (i0 fo_Fact_0 f6 dc rfl) (Dy 5 rfl (f9 f6 rfl (Hz m0 0 rfl) rfl) (Dyp 6 rfl (i8 rfl) (Dyp 7 rfl (Y.len us_Is rfl) (Dyp 8 rfl (Y.sub rfl rfl om om) (r8 9 rfl rfl kr (fun _ => rfl) (m6 O6 rfl rfl rfl dc tv) (fun _ _ => (t7 (fun q15 => ?_) (fun q15 => ?_))))))))))
  ·have y1 : J8 s j5 = true := by rw [J8, q7, q15]; rfl
   obtain ⟨z1, z2, _, _⟩ := Y0 y1
   refine Dyp 10 rfl (Y.not (b := true) rfl) (Dyp 11 rfl (u7 rfl rfl) (Dyp 12 rfl (i8 rfl) (Dyp 13 rfl (i0 fo_Fact_1 ty_Is dc rfl) (Dy 14 rfl (f9 ty_Is rfl (Hz m0 1 rfl) rfl) (Dyp 15 rfl (Y.len us_Is rfl) (Dyp 16 rfl (i8 rfl) (Dyp 17 rfl (i0 fo_Fact_0 f6 dc rfl) (Dy 18 rfl (f9 f6 rfl (Hz m0 0 rfl) rfl) ?_))))))))
   obtain ⟨eb25, eo25, ea25, ei25, eh25⟩ := hs.elemI j5.toNat om
   refine Dyp 19 rfl (t6 us_Is f6 rfl ea25 rfl j5.toNat om om) (Dy 20 rfl (f9 f6 rfl (eh25 _) rfl) (Dyp 21 rfl (Y.neq rfl rfl) (n9 (fun q27 => ?_) (fun q27 => ?_))))
   ·refine Dyp 22 rfl (u7 rfl rfl) (r7 kr (Et (o0 rfl (Ew Z1 (Ei rfl ?_)))))
    exact Eu (E.ret (o4 (Fb rfl rfl (by exact a7W (R2 (i := j5) (show j5.toNat < s.length by omega)) q27))))
   ·refine Dyp 22 rfl (u7 rfl rfl) (r7 kr (Et (n0 rfl (f8 (Et (Eq_ (Ew Z1 (Ei rfl (Eu (E.block (E.loop (κ := Nat) (fun g => g ≤ d6.length ∧ ∀ x ∈ d6.take g, (!inR x 0 9) = false) (fun g => [(3, .pointer (some ⟨b3, 0, none⟩)), (5, .int .i64 (g : Int))]) (fun g => [pt b3 83 [.int .i64 j5, .slice z8 d6.length z7]]) (fun g => d6.length - g) 0 ⟨by omega, by simp⟩ ⟨rfl, rfl, trivial⟩ (.refl _) (fun g pg => ?_))))))))))))
    obtain ⟨pk, pa⟩ := pg
    refine Eq_ (Ew Z5 (Em rfl (Ey rfl ((i0 fo_Fact_1 ty_Is dc rfl).yd) (Ey rfl (f9 ty_Is rfl (Hz m0 1 rfl) rfl) (Ey rfl ((Y.len us_Is rfl).yd) (Ey rfl ((Y.lss rfl rfl).yd) (n9 (fun q33 => ?_) (fun q33 => ?_))))))))
    ·refine Eu (o0 rfl (f8 (Et (Eq_ (E.block (Ew Z7 (Ey rfl ((i0 fo_Fact_1 ty_Is dc rfl).yd) (Ey rfl (f9 ty_Is rfl (Hz m0 1 rfl) rfl) (Em rfl ?_)))))))))
     obtain ⟨eb39, eo39, ea39, ei39, eh39⟩ := y9.elemI g om
     refine Ey rfl ((t6 us_Is f6 rfl ea39 rfl g rfl om).yd) (Ey rfl (f9 f6 rfl (eh39 _) rfl) (Est rfl (m6 O6 rfl rfl rfl dc tv) (fun _ _ => (t7 (fun q41 => ?_) (fun q41 => ?_)))))
     ·refine Ey rfl ((Y.not (b := true) rfl).yd) (Eu (n0 rfl (f8 (s4 (Et (Ez Z3 (Em rfl (Ey rfl ((Y.add rfl rfl om om).yd) (Ei rfl ?_)))))))))
      exact Eu (x3 br (g + 1) ⟨rfl, rfl, trivial⟩ (.refl _) ⟨by omega, W0 om pa (by rw [q41]; rfl)⟩ om)
     ·refine Ey rfl ((Y.not (b := false) rfl).yd) (Eu (o0 rfl (Ew Z1 (Ei rfl ?_))))
      exact Eu (E.ret (B0 (o4 (o4 (B0 (o4 (Fb rfl rfl (by exact a8f (by rw [a0d, a5g (k := g) (show g < d6.length by omega) (by rw [q41]; rfl)]; rfl)))))))))
    ·refine Eu (n0 rfl (E.exit (o3 (o3 (x5 (Et (Ew Z1 (Ei rfl ?_))))))))
     exact Eu (E.ret (Fb rfl rfl (by rw [← a8G (f := (j5, d6)) y1 (R2 (i := j5) (show j5.toNat < s.length by omega)) (show (d6.length : Int) = s[j5.toNat] by omega), a0d, a4h (show ¬ g < d6.length by omega) pa]; rfl)))
  ·refine Dyp 10 rfl (Y.not (b := false) rfl) (Dyp 11 rfl (u7 rfl rfl) (Dyp 12 rfl (i8 rfl) (Dsk 13 rfl (Dsk 14 rfl (Dsk 15 rfl (Dsk 16 rfl (Dsk 17 rfl (Dsk 18 rfl (Dsk 19 rfl (Dsk 20 rfl (Dsk 21 rfl (Dyp 22 rfl (v8 rfl rfl) (r7 kr (Et (o0 rfl (Ew Z1 (Ei rfl ?_)))))))))))))))))
   exact Eu (E.ret (o4 (Fb rfl rfl (by exact a4z (a9C q15)))))
 ·refine Dyp 2 rfl (Y.not (b := false) rfl) (Dyp 3 rfl (i8 rfl) (Dsk 4 rfl (Dsk 5 rfl (Dsk 6 rfl (Dsk 7 rfl (Dsk 8 rfl (Dsk 9 rfl (Dsk 10 rfl (Dyp 11 rfl (v8 rfl rfl) (Dyp 12 rfl (i8 rfl) (Dsk 13 rfl (Dsk 14 rfl (Dsk 15 rfl (Dsk 16 rfl (Dsk 17 rfl (Dsk 18 rfl (Dsk 19 rfl (Dsk 20 rfl (Dsk 21 rfl (Dyp 22 rfl (v8 rfl rfl) (r7 kr (Et (o0 rfl (Ew Z1 (Ei rfl ?_)))))))))))))))))))))))))
  exact Eu (E.ret (o4 (Fb rfl rfl (by exact a4z (a8E q7)))))
end Go.Proofs.YtbedienpleiamaaGreat
