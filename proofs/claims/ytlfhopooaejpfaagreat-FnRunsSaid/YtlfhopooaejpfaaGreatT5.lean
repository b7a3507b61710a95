import Derived.Test.YtlfhopooaejpfaaGreatT1
namespace Go.Proofs.YtlfhopooaejpfaaGreat
open Go.RowKit
set_option linter.all false
set_option maxHeartbeats 2000000
attribute [local irreducible] Nop Yd Yp Ent Has Tr FnP FnP2 Src
variable {n l3 : Int} {s f6 : List Int} {m_s c_s B8 x6 : Nat} {a_s y4 : Option Addr}
theorem a3I : Tr Tryz.prog 159 [.int .i64 n] (fun w L => True) [] (κ := Unit) (fun k => True) (fun k => .bool (inR n 0 9)) (fun k => []) := by
 refine Tr.intro Tryz.func159 rfl (n := 5) rfl (by decide +kernel) bl (fr := [(0, .int .i64 n)]) rfl fun w L hR => (Ew Z1 (Ei rfl (Ev Z3 (Em rfl (Est rfl (k6 I1 rfl rfl rfl dc tv) (fun _ _ => (Ei rfl ?_)))))))
 exact Eu (E.ret (Fg rfl rfl () rfl rfl))
theorem a4R : Tr Tryz.prog 224 [.int .i64 n] (fun w L => (I64 n) ∧ True) [] (κ := Unit) (fun k => True) (fun k => .bool (!inR n 0 9)) (fun k => []) := by
 refine Tr.intro Tryz.func224 rfl (n := 6) rfl (by decide +kernel) bl (fr := [(0, .int .i64 n)]) rfl fun w L hR => ?_
 obtain ⟨i6n, _⟩ := hR
 refine Ew Z1 (Ei rfl (Ev Z4 (Em rfl (Est rfl (k6 a3I rfl rfl rfl dc tv) (fun _ _ => (Ey rfl ((Y.not rfl).yd) (Ei rfl ?_)))))))
 exact Eu (E.ret (Fb rfl rfl (by simp_all)))
theorem a5Q {a_l : Option Addr} {m_l c_l : Nat} {l : List Int} : Tr Tryz.prog 179 [.slice a_l m_l c_l] (fun w L => Ro w L eIs [.slice a_l m_l c_l] l) [] (κ := Unit) (fun k => True) (fun k => .bool (O7 l)) (fun k => []) := by
 refine Tr.intro Tryz.func179 rfl (n := 6) rfl (by decide +kernel) bl (fr := [(0, .slice a_l m_l c_l)]) rfl fun w L hR => ?_
 have hl := hR
 obtain ⟨rfl, ll⟩ := hl.slen
 refine Ew Z1 (Ei rfl (Ev Z4 (Em rfl (Est rfl (k6 (S6 (f := (fun n => !inR n 0 9)) (D_f := (fun _ => True)) (by intros; exact trivial)) rfl rfl rfl dc (fun w Lp hA => ⟨hA.ro hl, a1N (D := (fun _ => True)) (fun hd => a4R) (fun w' hk => trivial)⟩)) (fun _ _ => (Ey rfl ((Y.not rfl).yd) (Ei rfl ?_)))))))
 exact Eu (E.ret (Fb rfl rfl (by rfl)))
theorem a8Q : Tr Tryz.prog 117 [.slice a_s m_s c_s, .agg #[.int .i64 l3, .slice y4 B8 x6]] (fun w L => Ro w L eIs [.slice a_s m_s c_s] s ∧ I64 l3 ∧ Ro w L eIs [.slice y4 B8 x6] f6) [] (κ := Unit) (fun k => True) (fun k => .bool (I0 s (l3, f6))) (fun k => []) := by
 refine Tr.intro Tryz.func117 rfl (n := 25) rfl (by decide +kernel) bl (fr := [(0, .slice a_s m_s c_s), (1, .agg #[.int .i64 l3, .slice y4 B8 x6])]) rfl fun w L hR => ?_
 obtain ⟨hs, H7, y9⟩ := hR
 obtain ⟨rfl, ls⟩ := hs.slen
 obtain ⟨rfl, S1⟩ := y9.slen
 refine Ew Z2 (Est rfl (N.box (cs := [_, _]) rfl dc rfl) (fun b3 _ => (Ei rfl (Eu (Eq_ (D.region (fun j => true) mixed (Dyp 0 rfl (j4 rfl) (Dyp 1 rfl (i7 fo_Fact_0 f0 dc rfl) (Dy 2 rfl (f8 f0 rfl (Hz m0 0 rfl) rfl) (u7 3 rfl rfl kr (fun _ => rfl) (k6 a2f rfl rfl rfl dc (fun w Lp hA => hA.ro hs)) (fun _ _ => (Ent.b (fun q8 => ?_) (fun q8 => ?_)))))))))))))
 ·obtain ⟨z1, z2, _, _⟩ := Y4 q8
  refine Dyp 4 rfl (j4 rfl) (Dyp 5 rfl (i7 fo_Fact_1 ty_Is dc rfl) (Dy 6 rfl (f8 ty_Is rfl (Hz m0 1 rfl) rfl) (Dyp 7 rfl (Y.len us_Is rfl) (Dyp 8 rfl (j4 rfl) (Dyp 9 rfl (i7 fo_Fact_0 f0 dc rfl) (Dy 10 rfl (f8 f0 rfl (Hz m0 0 rfl) rfl) ?_))))))
  obtain ⟨eb16, eo16, ea16, ei16, eh16⟩ := hs.elemI l3.toNat om
  refine Dyp 11 rfl (o6 us_Is f0 rfl ea16 rfl l3.toNat om om) (Dy 12 rfl (f8 f0 rfl (eh16 _) rfl) (Dyp 13 rfl (Y.eql rfl rfl) (n0 (fun q18 => ?_) (fun q18 => ?_))))
  ·refine Dyp 14 rfl (s6 rfl rfl) (Dyp 15 rfl (j4 rfl) (Dyp 16 rfl (i7 fo_Fact_1 ty_Is dc rfl) (Dy 17 rfl (f8 ty_Is rfl (Hz m0 1 rfl) rfl) (u7 18 rfl rfl kr (fun _ => rfl) (k6 a5Q rfl rfl rfl dc (fun w Lp hA => hA.ro y9)) (fun _ _ => (Dyp 19 rfl (s6 rfl rfl) (Dyp 20 rfl (G1 rfl) ?_)))))))
   exact o3 kr (Et (E.ret (Fb rfl rfl (by exact a8x (f := (l3, f6)) q8 (E6 (i := l3) (show l3.toNat < s.length by omega)) q18))))
  ·refine Dyp 14 rfl (s6 rfl rfl) (Dyp 15 rfl (j4 rfl) (Dsk 16 rfl (Dsk 17 rfl (Dsk 18 rfl (Dyp 19 rfl (r9 rfl rfl) (Dyp 20 rfl (G1 rfl) ?_))))))
   exact o3 kr (Et (E.ret (Fb rfl rfl (by exact a6N (E6 (i := l3) (show l3.toNat < s.length by omega)) q18))))
 ·refine Dyp 4 rfl (j4 rfl) (Dsk 5 rfl (Dsk 6 rfl (Dsk 7 rfl (Dsk 8 rfl (Dsk 9 rfl (Dsk 10 rfl (Dsk 11 rfl (Dsk 12 rfl (Dsk 13 rfl (Dyp 14 rfl (r9 rfl rfl) (Dyp 15 rfl (j4 rfl) (Dsk 16 rfl (Dsk 17 rfl (Dsk 18 rfl ?_))))))))))))))
  refine Dyp 19 rfl (r9 rfl rfl) (Dyp 20 rfl (G1 rfl) ?_)
  exact o3 kr (Et (E.ret (Fb rfl rfl (by exact a3S q8))))
theorem a8R : Tr Tryz.prog 64 [.slice a_s m_s c_s, .agg #[.int .i64 l3, .slice y4 B8 x6]] (fun w L => Ro w L eIs [.slice a_s m_s c_s] s ∧ I64 l3 ∧ Ro w L eIs [.slice y4 B8 x6] f6) [] (κ := Unit) (fun k => True) (fun k => .bool (I0 s (l3, f6))) (fun k => []) := by
 refine Tr.intro Tryz.func64 rfl (n := 43) rfl (by decide +kernel) bl (fr := [(0, .slice a_s m_s c_s), (1, .agg #[.int .i64 l3, .slice y4 B8 x6])]) rfl fun w L hR => ?_
 obtain ⟨hs, H7, y9⟩ := hR
 obtain ⟨rfl, ls⟩ := hs.slen
 obtain ⟨rfl, S1⟩ := y9.slen
 refine Ew Z2 (Est rfl (N.box (cs := [_, _]) rfl dc rfl) (fun b3 _ => (Ei rfl (Eu (Eq_ (Eq_ (D.region (fun j => true) mixed (Dyp 0 rfl (j4 rfl) (u7 1 rfl rfl kr (fun _ => rfl) (k6 L6 rfl rfl rfl dc (fun w Lp hA => hA.ro hs)) (fun _ _ => (Ent.b (fun q7 => ?_) (fun q7 => ?_))))))))))))
 ·refine Dyp 2 rfl (Y.not (b := true) rfl) (Dyp 3 rfl (j4 rfl) (Dyp 4 rfl (i7 fo_Fact_0 f0 dc rfl) (Dy 5 rfl (f8 f0 rfl (Hz m0 0 rfl) rfl) (Dyp 6 rfl (j4 rfl) (Dyp 7 rfl (Y.len us_Is rfl) (Dyp 8 rfl (Y.sub rfl rfl om om) (u7 9 rfl rfl kr (fun _ => rfl) (k6 F9 rfl rfl rfl dc tv) (fun _ _ => (Ent.b (fun q15 => ?_) (fun q15 => ?_))))))))))
  ·have y1 : J5 s l3 = true := by rw [J5, q7, q15]; rfl
   obtain ⟨z1, z2, _, _⟩ := Y4 y1
   refine Dyp 10 rfl (Y.not (b := true) rfl) (Dyp 11 rfl (r9 rfl rfl) (Dyp 12 rfl (j4 rfl) (Dyp 13 rfl (i7 fo_Fact_1 ty_Is dc rfl) (Dy 14 rfl (f8 ty_Is rfl (Hz m0 1 rfl) rfl) (Dyp 15 rfl (Y.len us_Is rfl) (Dyp 16 rfl (j4 rfl) (Dyp 17 rfl (i7 fo_Fact_0 f0 dc rfl) (Dy 18 rfl (f8 f0 rfl (Hz m0 0 rfl) rfl) ?_))))))))
   obtain ⟨eb25, eo25, ea25, ei25, eh25⟩ := hs.elemI l3.toNat om
   refine Dyp 19 rfl (o6 us_Is f0 rfl ea25 rfl l3.toNat om om) (Dy 20 rfl (f8 f0 rfl (eh25 _) rfl) (Dyp 21 rfl (Y.neq rfl rfl) (n0 (fun q27 => ?_) (fun q27 => ?_))))
   ·refine Dyp 22 rfl (r9 rfl rfl) (o3 kr (Et (l4 rfl (Ew Z1 (Ei rfl ?_)))))
    exact Eu (E.ret (l0 (Fb rfl rfl (by exact a6N (E6 (i := l3) (show l3.toNat < s.length by omega)) q27))))
   ·refine Dyp 22 rfl (r9 rfl rfl) (o3 kr (Et (l6 rfl (i8 (Et (Eq_ (Ew Z1 (Ei rfl (Eu (E.block (E.loop (κ := Nat) (fun g => g ≤ f6.length ∧ ∀ x ∈ f6.take g, (!inR x 0 9) = false) (fun g => [(3, .pointer (some ⟨b3, 0, none⟩)), (5, .int .i64 (g : Int))]) (fun g => [pt b3 91 [.int .i64 l3, .slice y4 f6.length x6]]) (fun g => f6.length - g) 0 ⟨by omega, by simp⟩ ⟨rfl, rfl, trivial⟩ (.refl _) (fun g pg => ?_))))))))))))
    obtain ⟨pk, pa⟩ := pg
    refine Eq_ (Ew Z5 (Em rfl (Ey rfl ((i7 fo_Fact_1 ty_Is dc rfl).yd) (Ey rfl (f8 ty_Is rfl (Hz m0 1 rfl) rfl) (Ey rfl ((Y.len us_Is rfl).yd) (Ey rfl ((Y.lss rfl rfl).yd) (n0 (fun q33 => ?_) (fun q33 => ?_))))))))
    ·refine Eu (l4 rfl (i8 (Et (Eq_ (E.block (Ew Z7 (Ey rfl ((i7 fo_Fact_1 ty_Is dc rfl).yd) (Ey rfl (f8 ty_Is rfl (Hz m0 1 rfl) rfl) (Em rfl ?_)))))))))
     obtain ⟨eb39, eo39, ea39, ei39, eh39⟩ := y9.elemI g om
     refine Ey rfl ((o6 us_Is f0 rfl ea39 rfl g rfl om).yd) (Ey rfl (f8 f0 rfl (eh39 _) rfl) (Est rfl (k6 F9 rfl rfl rfl dc tv) (fun _ _ => (Ent.b (fun q41 => ?_) (fun q41 => ?_)))))
     ·refine Ey rfl ((Y.not (b := true) rfl).yd) (Eu (l6 rfl (i8 (o4 (Et (Ez Z3 (Em rfl (Ey rfl ((Y.add rfl rfl om om).yd) (Ei rfl ?_)))))))))
      exact Eu (u9 br (g + 1) ⟨rfl, rfl, trivial⟩ (.refl _) ⟨by omega, Q4 om pa (by rw [q41]; rfl)⟩ om)
     ·refine Ey rfl ((Y.not (b := false) rfl).yd) (Eu (l4 rfl (Ew Z1 (Ei rfl ?_))))
      exact Eu (E.ret (t7 (l0 (l0 (t7 (l0 (Fb rfl rfl (by exact b2i (by rw [O7, a3w (k := g) (show g < f6.length by omega) (by rw [q41]; rfl)]; rfl)))))))))
    ·refine Eu (l6 rfl (E.exit (n8 (n8 (w5 (Et (Ew Z1 (Ei rfl ?_))))))))
     exact Eu (E.ret (Fb rfl rfl (by rw [← a8x (f := (l3, f6)) y1 (E6 (i := l3) (show l3.toNat < s.length by omega)) (show (f6.length : Int) = s[l3.toNat] by omega), O7, a3P (show ¬ g < f6.length by omega) pa]; rfl)))
  ·refine Dyp 10 rfl (Y.not (b := false) rfl) (Dyp 11 rfl (r9 rfl rfl) (Dyp 12 rfl (j4 rfl) (Dsk 13 rfl (Dsk 14 rfl (Dsk 15 rfl (Dsk 16 rfl (Dsk 17 rfl (Dsk 18 rfl (Dsk 19 rfl (Dsk 20 rfl (Dsk 21 rfl (Dyp 22 rfl (s6 rfl rfl) (o3 kr (Et (l4 rfl (Ew Z1 (Ei rfl ?_)))))))))))))))))
   exact Eu (E.ret (l0 (Fb rfl rfl (by exact a3S (b3L q15)))))
 ·refine Dyp 2 rfl (Y.not (b := false) rfl) (Dyp 3 rfl (j4 rfl) (Dsk 4 rfl (Dsk 5 rfl (Dsk 6 rfl (Dsk 7 rfl (Dsk 8 rfl (Dsk 9 rfl (Dsk 10 rfl (Dyp 11 rfl (s6 rfl rfl) (Dyp 12 rfl (j4 rfl) (Dsk 13 rfl (Dsk 14 rfl (Dsk 15 rfl (Dsk 16 rfl ?_))))))))))))))
  refine Dsk 17 rfl (Dsk 18 rfl (Dsk 19 rfl (Dsk 20 rfl (Dsk 21 rfl (Dyp 22 rfl (s6 rfl rfl) (o3 kr (Et (l4 rfl (Ew Z1 (Ei rfl ?_))))))))))
  exact Eu (E.ret (l0 (Fb rfl rfl (by exact a3S (b3r q7)))))
end Go.Proofs.YtlfhopooaejpfaaGreat
