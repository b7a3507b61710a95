import Derived.Test.YtdopeopehgdccaaGreatBs
namespace Go.Proofs.YtdopeopehgdccaaGreat
open Go.RowKit
set_option linter.all false
set_option maxHeartbeats 2000000
attribute [local irreducible] Nop Yd Yp Ent Has Tr FnP FnP2 Src
variable {f_g : FuncId} {low high n : Int} {s : List (Int × List Int)} {a : List Int} {f_c : List Value} {m_s c_s m_a c_a : Nat} {a_s a_a : Option Addr}
theorem I2 {x : Int} : Tr Tryz.prog 138 [.int .i64 x, .int .i64 low, .int .i64 high] (fun w L => True) [] (κ := Unit) (fun k => True) (fun k => .bool (inR x low high)) (fun k => []) := by
 refine l0 Tryz.func138 rfl (n := 15) rfl (by decide +kernel) bl (fr := [(0, .int .i64 x), (1, .int .i64 low), (2, .int .i64 high)]) rfl fun w L hR => (Ew Z1 (Ei rfl (Ev Z9 (Em rfl (Em rfl (Ey rfl ((Y.geq rfl rfl).yd) (o7 (fun q9 => ?_) (fun q9 => ?_))))))))
 ·refine Em rfl (Em rfl (Em rfl (Ey rfl ((Y.leq rfl rfl).yd) (Ey rfl ((w5 rfl rfl).yd) (Ei rfl ?_)))))
  exact Eu (E.ret (Fb rfl rfl (by simp_all [inR]; try omega)))
 ·refine Em rfl (Es rfl (Es rfl (Es rfl (Ey rfl ((v8 rfl rfl).yd) (Ei rfl ?_)))))
  exact Eu (E.ret (Fb rfl rfl (by simp_all [inR]; try omega)))
theorem N4 : Tr Tryz.prog 151 [.int .i64 n, .int .i64 low, .int .i64 high] (fun w L => True) [] (κ := Unit) (fun k => True) (fun k => .bool (inR n low high)) (fun k => []) := by
 refine l0 Tryz.func151 rfl (n := 15) rfl (by decide +kernel) bl (fr := [(0, .int .i64 n), (1, .int .i64 low), (2, .int .i64 high)]) rfl fun w L hR => (Ew Z1 (Ei rfl (Ev Z9 (Em rfl (Em rfl (Ey rfl ((Y.geq rfl rfl).yd) (o7 (fun q9 => ?_) (fun q9 => ?_))))))))
 ·refine Em rfl (Em rfl (Em rfl (Ey rfl ((Y.leq rfl rfl).yd) (Ey rfl ((w5 rfl rfl).yd) (Ei rfl ?_)))))
  exact Eu (E.ret (Fb rfl rfl (by simp_all [inR]; try omega)))
 ·refine Em rfl (Es rfl (Es rfl (Es rfl (Ey rfl ((v8 rfl rfl).yd) (Ei rfl ?_)))))
  exact Eu (E.ret (Fb rfl rfl (by simp_all [inR]; try omega)))
theorem b2v {s : List Int} {D_f : Int → Prop} {f : Int → Bool} (hD_f : ∀ x ∈ s, D_f x) : Tr Tryz.prog 281 [.slice a_s m_s c_s, .func (.func f_g) #[] f_c.toArray] (fun w L => Ro w L eIs [.slice a_s m_s c_s] s ∧ FnP Tryz.prog w L f_g f_c Enc.int a7b D_f f) [] (κ := Unit) (fun k => True) (fun k => .int .i64 (J0 f s)) (fun k => []) := by
 refine l0 Tryz.func281 rfl (n := 19) rfl (by decide +kernel) bl (fr := [(0, .slice a_s m_s c_s), (1, .func (.func f_g) #[] f_c.toArray)]) rfl fun w L hR => ?_
 obtain ⟨hs, hf⟩ := hR
 obtain ⟨rfl, ls⟩ := hs.slen
 refine Ew Z1 (Ei rfl (Eu (Eq_ (Ew Z3 (Em rfl (Ey rfl ((Y.len us_Is rfl).yd) (Em rfl (Eu (E.block (E.loop (κ := Nat) (fun g => g ≤ s.length ∧ ∀ x ∈ s.take g, f x = false) (fun g => [(0, .slice a_s s.length c_s), (1, .func (.func f_g) #[] f_c.toArray), (7, .int .i64 (↑s.length : Int)), (8, .int .i64 (g : Int))]) (fun g => []) (fun g => s.length - g) 0 ⟨by omega, by simp⟩ ⟨rfl, rfl, rfl, rfl, trivial⟩ (.refl _) (fun g pg => ?_)))))))))))
 obtain ⟨pk, pa⟩ := pg
 refine Ew Z1 (Ey rfl ((Y.lss rfl rfl).yd) (o7 (fun q9 => ?_) (fun q9 => ?_)))
 ·refine Eu (Eq_ (o5 rfl (i7 (Et (Eq_ (E.block (Ew Z2 (Em rfl (Ei rfl (Ev Z6 (Em rfl (Em rfl (Em rfl ?_)))))))))))))
  obtain ⟨eb14, eo14, ea14, ei14, eh14⟩ := hs.elemI g om
  refine Ey rfl ((s4 us_Is i8 rfl ea14 rfl g rfl om).yd) (Ey rfl (g9 i8 rfl (eh14 _) rfl) (Est rfl (N.fn (cs := [_]) hf rfl rfl rfl dc (fun w Lp hA => V8 ei14) (hD_f _ (List.getElem_mem om))) (fun _ _ => (Ent.b (fun q16 => ?_) (fun q16 => ?_)))))
  ·refine Eu (o5 rfl (Ew Z2 (Em rfl (Ei rfl ?_))))
   exact Eu (E.ret (w8 (l4 (l4 (w8 (l4 (Fg rfl rfl () (congrArg (Value.int .i64) (by first | exact P8 om pa q16 | exact O4 om pa)) rfl)))))))
  ·refine Eu (o4 rfl (i7 (t8 (Et (Ez Z2 (Ey rfl ((Y.add rfl rfl om om).yd) (Em rfl ?_)))))))
   exact Eu (w4 br (g + 1) rs (.refl _) ⟨by omega, X8 om pa q16⟩ om)
 ·refine Eu (Eq_ (o4 rfl (E.exit (o3 (o3 (w3 (Et (Ew Z1 (Ei rfl ?_)))))))))
  exact Eu (E.ret (Fg rfl rfl () (congrArg (Value.int .i64) (by first | exact P8 om pa q16 | exact O4 om pa)) rfl))
theorem Y5 {s : List Int} {D_f : Int → Prop} {f : Int → Bool} (hD_f : ∀ x ∈ s, D_f x) : Tr Tryz.prog 220 [.slice a_s m_s c_s, .func (.func f_g) #[] f_c.toArray] (fun w L => Ro w L eIs [.slice a_s m_s c_s] s ∧ FnP Tryz.prog w L f_g f_c Enc.int a7b D_f f) [] (κ := Unit) (fun k => True) (fun k => .bool (s.any f)) (fun k => []) := by
 refine l0 Tryz.func220 rfl (n := 9) rfl (by decide +kernel) bl (fr := [(0, .slice a_s m_s c_s), (1, .func (.func f_g) #[] f_c.toArray)]) rfl fun w L hR => ?_
 obtain ⟨hs, hf⟩ := hR
 obtain ⟨rfl, ls⟩ := hs.slen
 refine Ew Z1 (Ei rfl (Ev Z5 (Em rfl (Em rfl (Est rfl (n0 (b2v (f := f) (D_f := D_f) hD_f) rfl rfl rfl dc (fun w Lp hA => ⟨hA.ro hs, hA.fn hf⟩)) (fun _ _ => (Ey rfl ((Y.geq rfl rfl).yd) (Ei rfl ?_))))))))
 exact Eu (E.ret (Fb rfl rfl (by exact W6)))
theorem a7C {D_f : (Int × List Int) → Prop} {f : (Int × List Int) → Bool} (hD_f : ∀ x ∈ s, D_f x) : Tr Tryz.prog 278 [.slice a_s m_s c_s, .func (.func f_g) #[] f_c.toArray] (fun w L => Ro w L G8 [.slice a_s m_s c_s] s ∧ FnP Tryz.prog w L f_g f_c Y6 a1B D_f f) [] (κ := Unit) (fun k => True) (fun k => .int .i64 (J0 f s)) (fun k => []) := by
 refine l0 Tryz.func278 rfl (n := 19) rfl (by decide +kernel) bl (fr := [(0, .slice a_s m_s c_s), (1, .func (.func f_g) #[] f_c.toArray)]) rfl fun w L hR => ?_
 obtain ⟨hs, hf⟩ := hR
 obtain ⟨rfl, ls⟩ := hs.slen
 refine Ew Z1 (Ei rfl (Eu (Eq_ (Ew Z3 (Em rfl (Ey rfl ((Y.len us_Accesss rfl).yd) (Em rfl (Eu (E.block (E.loop (κ := Nat) (fun g => g ≤ s.length ∧ ∀ x ∈ s.take g, f x = false) (fun g => [(0, .slice a_s s.length c_s), (1, .func (.func f_g) #[] f_c.toArray), (7, .int .i64 (↑s.length : Int)), (8, .int .i64 (g : Int))]) (fun g => []) (fun g => s.length - g) 0 ⟨by omega, by simp⟩ ⟨rfl, rfl, rfl, rfl, trivial⟩ (.refl _) (fun g pg => ?_)))))))))))
 obtain ⟨pk, pa⟩ := pg
 refine Ew Z1 (Ey rfl ((Y.lss rfl rfl).yd) (o7 (fun q9 => ?_) (fun q9 => ?_)))
 ·refine Eu (Eq_ (o5 rfl (i7 (Et (Eq_ (E.block (Ew Z2 (Em rfl (Ei rfl (Ev Z6 (Em rfl (Em rfl (Em rfl ?_)))))))))))))
  obtain ⟨eb14, eo14, ec14, ea14, er14, el14, eh14⟩ := hs.elem g om
  obtain ⟨xa14_0, xc14_0, rfl, ei14_0, xh14_0⟩ := a1O er14
  have := xh14_0.slen.2
  refine Ey rfl ((s4 us_Accesss ty_Access rfl ea14 rfl g rfl om).yd) (Ey rfl (r9 (cs := [_, _]) ty_Access rfl (eh14 _) rfl) (Est rfl (N.fn (cs := [_, _]) hf rfl rfl rfl dc (fun w Lp hA => b4H (x := s[g]) ei14_0 (hA.ro xh14_0)) (hD_f _ (List.getElem_mem om))) (fun _ _ => (Ent.b (fun q16 => ?_) (fun q16 => ?_)))))
  ·refine Eu (o5 rfl (Ew Z2 (Em rfl (Ei rfl ?_))))
   exact Eu (E.ret (w8 (l4 (l4 (w8 (l4 (Fg rfl rfl () (congrArg (Value.int .i64) (by first | exact P8 om pa q16 | exact O4 om pa)) rfl)))))))
  ·refine Eu (o4 rfl (i7 (t8 (Et (Ez Z2 (Ey rfl ((Y.add rfl rfl om om).yd) (Em rfl ?_)))))))
   exact Eu (w4 br (g + 1) rs (.refl _) ⟨by omega, X8 om pa q16⟩ om)
 ·refine Eu (Eq_ (o4 rfl (E.exit (o3 (o3 (w3 (Et (Ew Z1 (Ei rfl ?_)))))))))
  exact Eu (E.ret (Fg rfl rfl () (congrArg (Value.int .i64) (by first | exact P8 om pa q16 | exact O4 om pa)) rfl))
theorem a5L {D_f : (Int × List Int) → Prop} {f : (Int × List Int) → Bool} (hD_f : ∀ x ∈ s, D_f x) : Tr Tryz.prog 210 [.slice a_s m_s c_s, .func (.func f_g) #[] f_c.toArray] (fun w L => Ro w L G8 [.slice a_s m_s c_s] s ∧ FnP Tryz.prog w L f_g f_c Y6 a1B D_f f) [] (κ := Unit) (fun k => True) (fun k => .bool (s.any f)) (fun k => []) := by
 refine l0 Tryz.func210 rfl (n := 9) rfl (by decide +kernel) bl (fr := [(0, .slice a_s m_s c_s), (1, .func (.func f_g) #[] f_c.toArray)]) rfl fun w L hR => ?_
 obtain ⟨hs, hf⟩ := hR
 obtain ⟨rfl, ls⟩ := hs.slen
 refine Ew Z1 (Ei rfl (Ev Z5 (Em rfl (Em rfl (Est rfl (n0 (a7C (f := f) (D_f := D_f) hD_f) rfl rfl rfl dc (fun w Lp hA => ⟨hA.ro hs, hA.fn hf⟩)) (fun _ _ => (Ey rfl ((Y.geq rfl rfl).yd) (Ei rfl ?_))))))))
 exact Eu (E.ret (Fb rfl rfl (by exact W6)))
theorem a4l {s : List (Int × List Int × Int × Int × Int)} {D_f : (Int × List Int × Int × Int × Int) → Prop} {f : (Int × List Int × Int × Int × Int) → Bool} (hD_f : ∀ x ∈ s, D_f x) : Tr Tryz.prog 222 [.slice a_s m_s c_s, .func (.func f_g) #[] f_c.toArray] (fun w L => Ro w L E1 [.slice a_s m_s c_s] s ∧ FnP Tryz.prog w L f_g f_c S5 a1B D_f f) [] (κ := Unit) (fun k => True) (fun k => .int .i64 (J0 f s)) (fun k => []) := by
 refine l0 Tryz.func222 rfl (n := 19) rfl (by decide +kernel) bl (fr := [(0, .slice a_s m_s c_s), (1, .func (.func f_g) #[] f_c.toArray)]) rfl fun w L hR => ?_
 obtain ⟨hs, hf⟩ := hR
 obtain ⟨rfl, ls⟩ := hs.slen
 refine Ew Z1 (Ei rfl (Eu (Eq_ (Ew Z3 (Em rfl (Ey rfl ((Y.len us_Methods rfl).yd) (Em rfl (Eu (E.block (E.loop (κ := Nat) (fun g => g ≤ s.length ∧ ∀ x ∈ s.take g, f x = false) (fun g => [(0, .slice a_s s.length c_s), (1, .func (.func f_g) #[] f_c.toArray), (7, .int .i64 (↑s.length : Int)), (8, .int .i64 (g : Int))]) (fun g => []) (fun g => s.length - g) 0 ⟨by omega, by simp⟩ ⟨rfl, rfl, rfl, rfl, trivial⟩ (.refl _) (fun g pg => ?_)))))))))))
 obtain ⟨pk, pa⟩ := pg
 refine Ew Z1 (Ey rfl ((Y.lss rfl rfl).yd) (o7 (fun q9 => ?_) (fun q9 => ?_)))
 ·refine Eu (Eq_ (o5 rfl (i7 (Et (Eq_ (E.block (Ew Z2 (Em rfl (Ei rfl (Ev Z6 (Em rfl (Em rfl (Em rfl ?_)))))))))))))
  obtain ⟨eb14, eo14, ec14, ea14, er14, el14, eh14⟩ := hs.elem g om
  obtain ⟨xa14_0, xc14_0, rfl, ei14_0, xh14_0, ei14_2, ei14_3, ei14_4⟩ := K4 er14
  have := xh14_0.slen.2
  refine Ey rfl ((s4 us_Methods ty_Method rfl ea14 rfl g rfl om).yd) (Ey rfl (r9 (cs := [_, _, _, _, _]) ty_Method rfl (eh14 _) rfl) (Est rfl (N.fn (cs := [_, _, _, _, _]) hf rfl rfl rfl dc (fun w Lp hA => a8M (x := s[g]) ei14_0 (hA.ro xh14_0) ei14_2 ei14_3 ei14_4) (hD_f _ (List.getElem_mem om))) (fun _ _ => (Ent.b (fun q16 => ?_) (fun q16 => ?_)))))
  ·refine Eu (o5 rfl (Ew Z2 (Em rfl (Ei rfl ?_))))
   exact Eu (E.ret (w8 (l4 (l4 (w8 (l4 (Fg rfl rfl () (congrArg (Value.int .i64) (by first | exact P8 om pa q16 | exact O4 om pa)) rfl)))))))
  ·refine Eu (o4 rfl (i7 (t8 (Et (Ez Z2 (Ey rfl ((Y.add rfl rfl om om).yd) (Em rfl ?_)))))))
   exact Eu (w4 br (g + 1) rs (.refl _) ⟨by omega, X8 om pa q16⟩ om)
 ·refine Eu (Eq_ (o4 rfl (E.exit (o3 (o3 (w3 (Et (Ew Z1 (Ei rfl ?_)))))))))
  exact Eu (E.ret (Fg rfl rfl () (congrArg (Value.int .i64) (by first | exact P8 om pa q16 | exact O4 om pa)) rfl))
theorem a5R {s : List (Int × List Int × Int × Int × Int)} {D_f : (Int × List Int × Int × Int × Int) → Prop} {f : (Int × List Int × Int × Int × Int) → Bool} (hD_f : ∀ x ∈ s, D_f x) : Tr Tryz.prog 148 [.slice a_s m_s c_s, .func (.func f_g) #[] f_c.toArray] (fun w L => Ro w L E1 [.slice a_s m_s c_s] s ∧ FnP Tryz.prog w L f_g f_c S5 a1B D_f f) [] (κ := Unit) (fun k => True) (fun k => .bool (s.any f)) (fun k => []) := by
 refine l0 Tryz.func148 rfl (n := 9) rfl (by decide +kernel) bl (fr := [(0, .slice a_s m_s c_s), (1, .func (.func f_g) #[] f_c.toArray)]) rfl fun w L hR => ?_
 obtain ⟨hs, hf⟩ := hR
 obtain ⟨rfl, ls⟩ := hs.slen
 refine Ew Z1 (Ei rfl (Ev Z5 (Em rfl (Em rfl (Est rfl (n0 (a4l (f := f) (D_f := D_f) hD_f) rfl rfl rfl dc (fun w Lp hA => ⟨hA.ro hs, hA.fn hf⟩)) (fun _ _ => (Ey rfl ((Y.geq rfl rfl).yd) (Ei rfl ?_))))))))
 exact Eu (E.ret (Fb rfl rfl (by exact W6)))
theorem a2T {D_f : (Int × List Int) → Prop} {f : (Int × List Int) → Bool} (hD_f : ∀ x ∈ s, D_f x) : Tr Tryz.prog 252 [.slice a_s m_s c_s, .func (.func f_g) #[] f_c.toArray] (fun w L => Ro w L s9 [.slice a_s m_s c_s] s ∧ FnP Tryz.prog w L f_g f_c F8 a1B D_f f) [] (κ := Unit) (fun k => True) (fun k => .int .i64 (J0 f s)) (fun k => []) := by
 refine l0 Tryz.func252 rfl (n := 19) rfl (by decide +kernel) bl (fr := [(0, .slice a_s m_s c_s), (1, .func (.func f_g) #[] f_c.toArray)]) rfl fun w L hR => ?_
 obtain ⟨hs, hf⟩ := hR
 obtain ⟨rfl, ls⟩ := hs.slen
 refine Ew Z1 (Ei rfl (Eu (Eq_ (Ew Z3 (Em rfl (Ey rfl ((Y.len us_Facts rfl).yd) (Em rfl (Eu (E.block (E.loop (κ := Nat) (fun g => g ≤ s.length ∧ ∀ x ∈ s.take g, f x = false) (fun g => [(0, .slice a_s s.length c_s), (1, .func (.func f_g) #[] f_c.toArray), (7, .int .i64 (↑s.length : Int)), (8, .int .i64 (g : Int))]) (fun g => []) (fun g => s.length - g) 0 ⟨by omega, by simp⟩ ⟨rfl, rfl, rfl, rfl, trivial⟩ (.refl _) (fun g pg => ?_)))))))))))
 obtain ⟨pk, pa⟩ := pg
 refine Ew Z1 (Ey rfl ((Y.lss rfl rfl).yd) (o7 (fun q9 => ?_) (fun q9 => ?_)))
 ·refine Eu (Eq_ (o5 rfl (i7 (Et (Eq_ (E.block (Ew Z2 (Em rfl (Ei rfl (Ev Z6 (Em rfl (Em rfl (Em rfl ?_)))))))))))))
  obtain ⟨eb14, eo14, ec14, ea14, er14, el14, eh14⟩ := hs.elem g om
  obtain ⟨xa14_0, xc14_0, rfl, ei14_0, xh14_0⟩ := O2 er14
  have := xh14_0.slen.2
  refine Ey rfl ((s4 us_Facts ty_Fact rfl ea14 rfl g rfl om).yd) (Ey rfl (r9 (cs := [_, _]) ty_Fact rfl (eh14 _) rfl) (Est rfl (N.fn (cs := [_, _]) hf rfl rfl rfl dc (fun w Lp hA => b7l (x := s[g]) ei14_0 (hA.ro xh14_0)) (hD_f _ (List.getElem_mem om))) (fun _ _ => (Ent.b (fun q16 => ?_) (fun q16 => ?_)))))
  ·refine Eu (o5 rfl (Ew Z2 (Em rfl (Ei rfl ?_))))
   exact Eu (E.ret (w8 (l4 (l4 (w8 (l4 (Fg rfl rfl () (congrArg (Value.int .i64) (by first | exact P8 om pa q16 | exact O4 om pa)) rfl)))))))
  ·refine Eu (o4 rfl (i7 (t8 (Et (Ez Z2 (Ey rfl ((Y.add rfl rfl om om).yd) (Em rfl ?_)))))))
   exact Eu (w4 br (g + 1) rs (.refl _) ⟨by omega, X8 om pa q16⟩ om)
 ·refine Eu (Eq_ (o4 rfl (E.exit (o3 (o3 (w3 (Et (Ew Z1 (Ei rfl ?_)))))))))
  exact Eu (E.ret (Fg rfl rfl () (congrArg (Value.int .i64) (by first | exact P8 om pa q16 | exact O4 om pa)) rfl))
theorem a6T {D_f : (Int × List Int) → Prop} {f : (Int × List Int) → Bool} (hD_f : ∀ x ∈ s, D_f x) : Tr Tryz.prog 213 [.slice a_s m_s c_s, .func (.func f_g) #[] f_c.toArray] (fun w L => Ro w L s9 [.slice a_s m_s c_s] s ∧ FnP Tryz.prog w L f_g f_c F8 a1B D_f f) [] (κ := Unit) (fun k => True) (fun k => .bool (s.any f)) (fun k => []) := by
 refine l0 Tryz.func213 rfl (n := 9) rfl (by decide +kernel) bl (fr := [(0, .slice a_s m_s c_s), (1, .func (.func f_g) #[] f_c.toArray)]) rfl fun w L hR => ?_
 obtain ⟨hs, hf⟩ := hR
 obtain ⟨rfl, ls⟩ := hs.slen
 refine Ew Z1 (Ei rfl (Ev Z5 (Em rfl (Em rfl (Est rfl (n0 (a2T (f := f) (D_f := D_f) hD_f) rfl rfl rfl dc (fun w Lp hA => ⟨hA.ro hs, hA.fn hf⟩)) (fun _ _ => (Ey rfl ((Y.geq rfl rfl).yd) (Ei rfl ?_))))))))
 exact Eu (E.ret (Fb rfl rfl (by exact W6)))
theorem a9B {D_f : (Int × List Int) → Prop} {f : (Int × List Int) → Bool} (hD_f : ∀ x ∈ s, D_f x) : Tr Tryz.prog 285 [.slice a_s m_s c_s, .func (.func f_g) #[] f_c.toArray] (fun w L => Ro w L w9 [.slice a_s m_s c_s] s ∧ FnP Tryz.prog w L f_g f_c W7 a1B D_f f) [] (κ := Unit) (fun k => True) (fun k => .int .i64 (J0 f s)) (fun k => []) := by
 refine l0 Tryz.func285 rfl (n := 19) rfl (by decide +kernel) bl (fr := [(0, .slice a_s m_s c_s), (1, .func (.func f_g) #[] f_c.toArray)]) rfl fun w L hR => ?_
 obtain ⟨hs, hf⟩ := hR
 obtain ⟨rfl, ls⟩ := hs.slen
 refine Ew Z1 (Ei rfl (Eu (Eq_ (Ew Z3 (Em rfl (Ey rfl ((Y.len us_Atoms rfl).yd) (Em rfl (Eu (E.block (E.loop (κ := Nat) (fun g => g ≤ s.length ∧ ∀ x ∈ s.take g, f x = false) (fun g => [(0, .slice a_s s.length c_s), (1, .func (.func f_g) #[] f_c.toArray), (7, .int .i64 (↑s.length : Int)), (8, .int .i64 (g : Int))]) (fun g => []) (fun g => s.length - g) 0 ⟨by omega, by simp⟩ ⟨rfl, rfl, rfl, rfl, trivial⟩ (.refl _) (fun g pg => ?_)))))))))))
 obtain ⟨pk, pa⟩ := pg
 refine Ew Z1 (Ey rfl ((Y.lss rfl rfl).yd) (o7 (fun q9 => ?_) (fun q9 => ?_)))
 ·refine Eu (Eq_ (o5 rfl (i7 (Et (Eq_ (E.block (Ew Z2 (Em rfl (Ei rfl (Ev Z6 (Em rfl (Em rfl (Em rfl ?_)))))))))))))
  obtain ⟨eb14, eo14, ec14, ea14, er14, el14, eh14⟩ := hs.elem g om
  obtain ⟨xa14_0, xc14_0, rfl, ei14_0, xh14_0⟩ := J6 er14
  have := xh14_0.slen.2
  refine Ey rfl ((s4 us_Atoms ty_Atom rfl ea14 rfl g rfl om).yd) (Ey rfl (r9 (cs := [_, _]) ty_Atom rfl (eh14 _) rfl) (Est rfl (N.fn (cs := [_, _]) hf rfl rfl rfl dc (fun w Lp hA => b7g (x := s[g]) ei14_0 (hA.ro xh14_0)) (hD_f _ (List.getElem_mem om))) (fun _ _ => (Ent.b (fun q16 => ?_) (fun q16 => ?_)))))
  ·refine Eu (o5 rfl (Ew Z2 (Em rfl (Ei rfl ?_))))
   exact Eu (E.ret (w8 (l4 (l4 (w8 (l4 (Fg rfl rfl () (congrArg (Value.int .i64) (by first | exact P8 om pa q16 | exact O4 om pa)) rfl)))))))
  ·refine Eu (o4 rfl (i7 (t8 (Et (Ez Z2 (Ey rfl ((Y.add rfl rfl om om).yd) (Em rfl ?_)))))))
   exact Eu (w4 br (g + 1) rs (.refl _) ⟨by omega, X8 om pa q16⟩ om)
 ·refine Eu (Eq_ (o4 rfl (E.exit (o3 (o3 (w3 (Et (Ew Z1 (Ei rfl ?_)))))))))
  exact Eu (E.ret (Fg rfl rfl () (congrArg (Value.int .i64) (by first | exact P8 om pa q16 | exact O4 om pa)) rfl))
theorem a6R {D_f : (Int × List Int) → Prop} {f : (Int × List Int) → Bool} (hD_f : ∀ x ∈ s, D_f x) : Tr Tryz.prog 226 [.slice a_s m_s c_s, .func (.func f_g) #[] f_c.toArray] (fun w L => Ro w L w9 [.slice a_s m_s c_s] s ∧ FnP Tryz.prog w L f_g f_c W7 a1B D_f f) [] (κ := Unit) (fun k => True) (fun k => .bool (s.any f)) (fun k => []) := by
 refine l0 Tryz.func226 rfl (n := 9) rfl (by decide +kernel) bl (fr := [(0, .slice a_s m_s c_s), (1, .func (.func f_g) #[] f_c.toArray)]) rfl fun w L hR => ?_
 obtain ⟨hs, hf⟩ := hR
 obtain ⟨rfl, ls⟩ := hs.slen
 refine Ew Z1 (Ei rfl (Ev Z5 (Em rfl (Em rfl (Est rfl (n0 (a9B (f := f) (D_f := D_f) hD_f) rfl rfl rfl dc (fun w Lp hA => ⟨hA.ro hs, hA.fn hf⟩)) (fun _ _ => (Ey rfl ((Y.geq rfl rfl).yd) (Ei rfl ?_))))))))
 exact Eu (E.ret (Fb rfl rfl (by exact W6)))
theorem a8s {s : List (List Int × List (Int × List Int))} {D_f : (List Int × List (Int × List Int)) → Prop} {f : (List Int × List (Int × List Int)) → Bool} (hD_f : ∀ x ∈ s, D_f x) : Tr Tryz.prog 225 [.slice a_s m_s c_s, .func (.func f_g) #[] f_c.toArray] (fun w L => Ro w L C4 [.slice a_s m_s c_s] s ∧ FnP Tryz.prog w L f_g f_c P5 a1B D_f f) [] (κ := Unit) (fun k => True) (fun k => .int .i64 (J0 f s)) (fun k => []) := by
 refine l0 Tryz.func225 rfl (n := 19) rfl (by decide +kernel) bl (fr := [(0, .slice a_s m_s c_s), (1, .func (.func f_g) #[] f_c.toArray)]) rfl fun w L hR => ?_
 obtain ⟨hs, hf⟩ := hR
 obtain ⟨rfl, ls⟩ := hs.slen
 refine Ew Z1 (Ei rfl (Eu (Eq_ (Ew Z3 (Em rfl (Ey rfl ((Y.len us_Querys rfl).yd) (Em rfl (Eu (E.block (E.loop (κ := Nat) (fun g => g ≤ s.length ∧ ∀ x ∈ s.take g, f x = false) (fun g => [(0, .slice a_s s.length c_s), (1, .func (.func f_g) #[] f_c.toArray), (7, .int .i64 (↑s.length : Int)), (8, .int .i64 (g : Int))]) (fun g => []) (fun g => s.length - g) 0 ⟨by omega, by simp⟩ ⟨rfl, rfl, rfl, rfl, trivial⟩ (.refl _) (fun g pg => ?_)))))))))))
 obtain ⟨pk, pa⟩ := pg
 refine Ew Z1 (Ey rfl ((Y.lss rfl rfl).yd) (o7 (fun q9 => ?_) (fun q9 => ?_)))
 ·refine Eu (Eq_ (o5 rfl (i7 (Et (Eq_ (E.block (Ew Z2 (Em rfl (Ei rfl (Ev Z6 (Em rfl (Em rfl (Em rfl ?_)))))))))))))
  obtain ⟨eb14, eo14, ec14, ea14, er14, el14, eh14⟩ := hs.elem g om
  obtain ⟨xa14_0, xc14_0, xa14_1, xc14_1, rfl, xh14_0, xh14_1⟩ := S0 er14
  have := xh14_0.slen.2
  have := xh14_1.slen.2
  refine Ey rfl ((s4 us_Querys ty_Query rfl ea14 rfl g rfl om).yd) (Ey rfl (r9 (cs := [_, _]) ty_Query rfl (eh14 _) rfl) (Est rfl (N.fn (cs := [_, _]) hf rfl rfl rfl dc (fun w Lp hA => b5Y (x := s[g]) (hA.ro xh14_0) (hA.ro xh14_1)) (hD_f _ (List.getElem_mem om))) (fun _ _ => (Ent.b (fun q16 => ?_) (fun q16 => ?_)))))
  ·refine Eu (o5 rfl (Ew Z2 (Em rfl (Ei rfl ?_))))
   exact Eu (E.ret (w8 (l4 (l4 (w8 (l4 (Fg rfl rfl () (congrArg (Value.int .i64) (by first | exact P8 om pa q16 | exact O4 om pa)) rfl)))))))
  ·refine Eu (o4 rfl (i7 (t8 (Et (Ez Z2 (Ey rfl ((Y.add rfl rfl om om).yd) (Em rfl ?_)))))))
   exact Eu (w4 br (g + 1) rs (.refl _) ⟨by omega, X8 om pa q16⟩ om)
 ·refine Eu (Eq_ (o4 rfl (E.exit (o3 (o3 (w3 (Et (Ew Z1 (Ei rfl ?_)))))))))
  exact Eu (E.ret (Fg rfl rfl () (congrArg (Value.int .i64) (by first | exact P8 om pa q16 | exact O4 om pa)) rfl))
theorem a3m {s : List (List Int × List (Int × List Int))} {D_f : (List Int × List (Int × List Int)) → Prop} {f : (List Int × List (Int × List Int)) → Bool} (hD_f : ∀ x ∈ s, D_f x) : Tr Tryz.prog 152 [.slice a_s m_s c_s, .func (.func f_g) #[] f_c.toArray] (fun w L => Ro w L C4 [.slice a_s m_s c_s] s ∧ FnP Tryz.prog w L f_g f_c P5 a1B D_f f) [] (κ := Unit) (fun k => True) (fun k => .bool (s.any f)) (fun k => []) := by
 refine l0 Tryz.func152 rfl (n := 9) rfl (by decide +kernel) bl (fr := [(0, .slice a_s m_s c_s), (1, .func (.func f_g) #[] f_c.toArray)]) rfl fun w L hR => ?_
 obtain ⟨hs, hf⟩ := hR
 obtain ⟨rfl, ls⟩ := hs.slen
 refine Ew Z1 (Ei rfl (Ev Z5 (Em rfl (Em rfl (Est rfl (n0 (a8s (f := f) (D_f := D_f) hD_f) rfl rfl rfl dc (fun w Lp hA => ⟨hA.ro hs, hA.fn hf⟩)) (fun _ _ => (Ey rfl ((Y.geq rfl rfl).yd) (Ei rfl ?_))))))))
 exact Eu (E.ret (Fb rfl rfl (by exact W6)))
theorem a8u : Tr Tryz.prog 221 [.int .i64 n] (fun w L => (I64 n) ∧ True) [] (κ := Unit) (fun k => True) (fun k => .bool (!inR n 1 3)) (fun k => []) := by
 refine l0 Tryz.func221 rfl (n := 6) rfl (by decide +kernel) bl (fr := [(0, .int .i64 n)]) rfl fun w L hR => ?_
 obtain ⟨i6n, _⟩ := hR
 refine Ew Z1 (Ei rfl (Ev Z4 (Em rfl (Est rfl (n0 N4 rfl rfl rfl dc tv) (fun _ _ => (Ey rfl ((Y.not rfl).yd) (Ei rfl ?_)))))))
 exact Eu (E.ret (Fb rfl rfl (by simp_all)))
theorem a1X {s : List Int} : Tr Tryz.prog 147 [.slice a_s m_s c_s] (fun w L => Ro w L eIs [.slice a_s m_s c_s] s) [] (κ := Unit) (fun k => True) (fun k => .bool (Q9 s)) (fun k => []) := by
 refine l0 Tryz.func147 rfl (n := 11) rfl (by decide +kernel) bl (fr := [(0, .slice a_s m_s c_s)]) rfl fun w L hR => ?_
 have hs := hR
 obtain ⟨rfl, ls⟩ := hs.slen
 refine Ew Z1 (Ei rfl (Ev Z9 (Em rfl (Ey rfl ((Y.len us_Is rfl).yd) (Est rfl (n0 N4 rfl rfl rfl dc tv) (fun _ _ => (Ent.b (fun q5 => ?_) (fun q5 => ?_))))))))
 ·refine Em rfl (Em rfl (Est rfl (n0 (Y5 (f := (fun n => !inR n 1 3)) (D_f := (fun _ => True)) (by intros; exact trivial)) rfl rfl rfl dc (fun w Lp hA => ⟨hA.ro hs, a3f (D := (fun _ => True)) (fun hd => a8u) (fun w' hk => trivial)⟩)) (fun _ _ => (Ey rfl ((Y.not rfl).yd) (Ey rfl ((w5 rfl rfl).yd) (Ei rfl ?_))))))
  exact Eu (E.ret (Fb rfl rfl (by simp_all [Q9])))
 ·refine Em rfl (Es rfl (Es rfl (Es rfl (Ey rfl ((v8 rfl rfl).yd) (Ei rfl ?_)))))
  exact Eu (E.ret (Fb rfl rfl (by simp_all [Q9])))
theorem W9 {s : List Int} : Tr Tryz.prog 136 [.slice a_s m_s c_s] (fun w L => Ro w L eIs [.slice a_s m_s c_s] s) [] (κ := Unit) (fun k => True) (fun k => .bool (Q9 s)) (fun k => []) := by
 refine l0 Tryz.func136 rfl (n := 19) rfl (by decide +kernel) bl (fr := [(0, .slice a_s m_s c_s)]) rfl fun w L hR => ?_
 have hs := hR
 obtain ⟨rfl, ls⟩ := hs.slen
 refine Ew Z1 (Ei rfl (Eu (Eq_ (Ew Z1 (Ei rfl (Eu (E.block (E.loop (κ := Nat) (fun g => g ≤ s.length ∧ ∀ x ∈ s.take g, (!inR x 1 3) = false) (fun g => [(0, .slice a_s s.length c_s), (3, .int .i64 (g : Int))]) (fun g => []) (fun g => s.length - g) 0 ⟨by omega, by simp⟩ ⟨rfl, rfl, trivial⟩ (.refl _) (fun g pg => ?_)))))))))
 obtain ⟨pk, pa⟩ := pg
 refine Eq_ (Ew Z4 (Em rfl (Em rfl (Ey rfl ((Y.len us_Is rfl).yd) (Ey rfl ((Y.lss rfl rfl).yd) (o7 (fun q7 => ?_) (fun q7 => ?_)))))))
 ·refine Eu (o5 rfl (i7 (Et (Eq_ (E.block (Ew Z6 (Em rfl (Em rfl ?_))))))))
  obtain ⟨eb12, eo12, ea12, ei12, eh12⟩ := hs.elemI g om
  refine Ey rfl ((s4 us_Is i8 rfl ea12 rfl g rfl om).yd) (Ey rfl (g9 i8 rfl (eh12 _) rfl) (Est rfl (n0 I2 rfl rfl rfl dc tv) (fun _ _ => (Ent.b (fun q14 => ?_) (fun q14 => ?_)))))
  ·refine Ey rfl ((Y.not (b := true) rfl).yd) (Eu (o4 rfl (i7 (t8 (Et (Ez Z3 (Em rfl (Ey rfl ((Y.add rfl rfl om om).yd) (Ei rfl ?_)))))))))
   exact Eu (w4 br (g + 1) ⟨rfl, rfl, trivial⟩ (.refl _) ⟨by omega, X8 om pa (by simp [q14])⟩ om)
  ·refine Ey rfl ((Y.not (b := false) rfl).yd) (Eu (o5 rfl (Ew Z1 (Ei rfl ?_))))
   exact Eu (E.ret (w8 (l4 (l4 (w8 (l4 (Fb rfl rfl (by first | (have := b0R (k := g) (s := s) (p := fun x => !inR x 1 3) om (by simpa using q14); rw [Q9, this]; simp) | (have := a9a om pa; rw [Q9, this]; simp)))))))))
 ·refine Eu (o4 rfl (E.exit (o3 (o3 (w3 (Et (Ew Z4 (Em rfl (Ey rfl ((Y.len us_Is rfl).yd) (Est rfl (n0 I2 rfl rfl rfl dc tv) (fun _ _ => (Ei rfl ?_))))))))))))
  exact Eu (E.ret (Fb rfl rfl (by first | (have := b0R (k := g) (s := s) (p := fun x => !inR x 1 3) om (by simpa using q14); rw [Q9, this]; simp) | (have := a9a om pa; rw [Q9, this]; simp))))
theorem a4t {s : List Int} {rel : Int} : Tr Tryz.prog 223 [.slice a_s m_s c_s, .int .i64 rel] (fun w L => Ro w L eIs [.slice a_s m_s c_s] s) [] (κ := Unit) (fun k => True) (fun k => .bool (M4 s rel)) (fun k => []) := by
 refine l0 Tryz.func223 rfl (n := 14) rfl (by decide +kernel) bl (fr := [(0, .slice a_s m_s c_s), (1, .int .i64 rel)]) rfl fun w L hR => ?_
 have hs := hR
 obtain ⟨rfl, ls⟩ := hs.slen
 refine Ew Z1 (Ei rfl (Ev Z10 (Em rfl (Est rfl (n0 a1X rfl rfl rfl dc (fun w Lp hA => hA.ro hs)) (fun _ _ => (Ent.b (fun q6 => ?_) (fun q6 => ?_)))))))
 ·refine Em rfl (Em rfl (Em rfl (Ey rfl ((Y.len us_Is rfl).yd) (Ey rfl ((Y.sub rfl rfl om om).yd) (Est rfl (n0 N4 rfl rfl rfl dc tv) (fun _ _ => (Ey rfl ((w5 rfl rfl).yd) (Ei rfl ?_))))))))
  exact Eu (E.ret (Fb rfl rfl (by simp_all [M4])))
 ·refine Em rfl (Es rfl (Es rfl (Es rfl (Es rfl (Es rfl (Ey rfl ((v8 rfl rfl).yd) (Ei rfl ?_)))))))
  exact Eu (E.ret (Fb rfl rfl (by simp_all [M4])))
theorem a2M {left : Int} : Tr Tryz.prog 81 [.slice a_a m_a c_a, .int .i64 left] (fun w L => Ro w L eIs [.slice a_a m_a c_a] a ∧ 0 ≤ left ∧ left ≤ 1048576) [] (κ := Unit) (fun k => True) (fun k => .int .i64 (szR a.length left)) (fun k => []) := by
 refine l0 Tryz.func81 rfl (n := 12) rfl (by decide +kernel) bl (fr := [(0, .slice a_a m_a c_a), (1, .int .i64 left)]) rfl fun w L hR => ?_
 obtain ⟨ha, as0, as1⟩ := hR
 obtain ⟨rfl, la⟩ := ha.slen
 refine Ew Z1 (Ei rfl (Ev Z5 (Em rfl (Em rfl (Ey rfl ((Y.len us_Is rfl).yd) (Ey rfl ((Y.sub rfl rfl om om).yd) (Ei rfl (Eu (Eq_ (Ew Z2 (Em rfl (Ey rfl ((Y.lss rfl rfl).yd) (o7 (fun q10 => ?_) (fun q10 => ?_))))))))))))))
 ·refine Eu (o5 rfl (Ew Z1 (Ei rfl ?_)))
  exact Eu (E.ret (l4 (Fg rfl rfl () (congrArg (Value.int .i64) (by simp only [szR]; split <;> omega)) rfl)))
 ·refine Eu (o4 rfl (i7 (Et (Ew Z2 (Em rfl (Ei rfl ?_))))))
  exact Eu (E.ret (Fg rfl rfl () (congrArg (Value.int .i64) (by simp only [szR]; split <;> omega)) rfl))
theorem X9 (hz : a.length ≤ 1048576) : Tr Tryz.prog 12 [.slice a_a m_a c_a] (fun w L => Ro w L eIs [.slice a_a m_a c_a] a) [] (κ := Option Addr × Nat × Nat) (fun k => True) (fun k => .slice k.1 k.2.1 k.2.2) (fun k => [ow eIs [.slice k.1 k.2.1 k.2.2] a]) := by
 refine l0 Tryz.func12 rfl (n := 22) rfl (by decide +kernel) bl (fr := [(0, .slice a_a m_a c_a)]) rfl fun w L hR => ?_
 have ha := hR
 obtain ⟨rfl, la⟩ := ha.slen
 refine Ew Z1 (Ei rfl (Ev Z4 (Em rfl (Ey rfl ((Y.len us_Is rfl).yd) (Est rfl (a5U (m := a.length) us_Is i8 rfl rfl rfl mx om dc) (fun b7 _ => (s7 (A := [_]) (a3Z (E := Enc.int) (e := tI) (zx := 0) (Own.int (by unfold I64; omega)) mx) rfl (Ei rfl (Eu (Eq_ (Ew Z1 (Ei rfl (Eu (E.block (E.loop (κ := Nat) (fun g => g ≤ a.length) (fun g => [(0, .slice a_a a.length c_a), (3, .slice (some ⟨b7, 0, none⟩) a.length a.length), (4, .int .i64 (g : Int))]) (fun g => [ow eIs [.slice (some ⟨b7, 0, none⟩) a.length a.length] (a.take g ++ List.replicate (a.length - g) 0)]) (fun g => a.length - g) 0 (Nat.zero_le _) ⟨rfl, rfl, rfl, trivial⟩ (by simp) (fun g pg => (Eq_ (Ew Z4 (Em rfl (Em rfl (Ey rfl ((Y.len us_Is rfl).yd) (Ey rfl ((Y.lss rfl rfl).yd) (o7 (fun q11 => ?_) (fun q11 => ?_))))))))))))))))))))))))
 ·refine Eu (o5 rfl (i7 (Et (Eq_ (E.block (Ez Z8 (Em rfl (Em rfl (Em rfl (Em rfl ?_))))))))))
  obtain ⟨eb18, eo18, ea18, ei18, eh18⟩ := ha.elemI g om
  refine Ey rfl ((s4 us_Is i8 rfl ea18 rfl g rfl om).yd) (Ey rfl (g9 i8 rfl (eh18 _) rfl) (Ey rfl ((s4 us_Is i8 rfl rfl rfl g rfl om).yd) (Est rfl (N.set (E := Enc.int) (j := g) (ex := a[g]) (ce := [_]) i8 rfl rfl rfl rfl (Own.int ei18) rfl (Nat.zero_add _) rfl (by simp; omega)) (fun _ _ => (En (t8 (Et (Ez Z3 (Em rfl (Ey rfl ((Y.add rfl rfl om om).yd) (Ei rfl ?_)))))))))))
  exact Eu (w4 br (g + 1) rs (by rw [a4M om rfl]) om om)
 ·refine Eu (o4 rfl (E.exit (o3 (o3 (w3 (Et (Ew Z2 (Em rfl (Ei rfl (Eu (E.ret (i9 (congrArg (ow eIs [_]) (show _ = a by (have := pg; rw [show g = a.length from by omega]; simp))) ?_))))))))))))
  exact Fg rfl rfl (_, _, _) rfl rfl
theorem a0R {a_b : Option Addr} {m_b c_b : Nat} {b : List Int} : Tr Tryz.prog 18 [.slice a_a m_a c_a, .slice a_b m_b c_b] (fun w L => Ro w L eIs [.slice a_a m_a c_a] a ∧ Ro w L eIs [.slice a_b m_b c_b] b) [] (κ := Unit) (fun k => True) (fun k => .bool (decide (a = b))) (fun k => []) := by
 refine l0 Tryz.func18 rfl (n := 26) rfl (by decide +kernel) bl (fr := [(0, .slice a_a m_a c_a), (1, .slice a_b m_b c_b)]) rfl fun w L hR => ?_
 obtain ⟨ha, hb⟩ := hR
 obtain ⟨rfl, la⟩ := ha.slen
 obtain ⟨rfl, lb⟩ := hb.slen
 refine Ew Z1 (Ei rfl (Eu (Eq_ (Ew Z5 (Em rfl (Ey rfl ((Y.len us_Is rfl).yd) (Em rfl (Ey rfl ((Y.len us_Is rfl).yd) (Ey rfl ((Y.neq rfl rfl).yd) (o7 (fun q10 => ?_) (fun q10 => ?_)))))))))))
 ·refine Eu (o5 rfl (Ew Z1 (Ei rfl ?_)))
  exact Eu (E.ret (l4 (Fb rfl rfl (by exact a3d q10))))
 ·refine Eu (o4 rfl (i7 (Et (Eq_ (Ew Z1 (Ei rfl (Eu (E.block (E.loop (κ := Nat) (fun g => g ≤ a.length ∧ a.take g = b.take g) (fun g => [(0, .slice a_a a.length c_a), (1, .slice a_b b.length c_b), (5, .int .i64 (g : Int))]) (fun g => []) (fun g => a.length - g) 0 ⟨by omega, by simp⟩ ⟨rfl, rfl, rfl, trivial⟩ (.refl _) (fun g pg => ?_))))))))))
  obtain ⟨pk, pa⟩ := pg
  refine Eq_ (Ew Z4 (Em rfl (Em rfl (Ey rfl ((Y.len us_Is rfl).yd) (Ey rfl ((Y.lss rfl rfl).yd) (o7 (fun q14 => ?_) (fun q14 => ?_)))))))
  ·refine Eu (o5 rfl (i7 (Et (Eq_ (E.block (Eq_ (D.region (fun j => true) mixed (Dyp 0 rfl (o0 rfl) (Dyp 1 rfl (o0 rfl) ?_)))))))))
   obtain ⟨eb19, eo19, ea19, ei19, eh19⟩ := ha.elemI g om
   refine Dyp 2 rfl (s4 us_Is i8 rfl ea19 rfl g rfl om) (Dy 3 rfl (g9 i8 rfl (eh19 _) rfl) (Dyp 4 rfl (o0 rfl) (Dyp 5 rfl (o0 rfl) ?_)))
   obtain ⟨eb23, eo23, ea23, ei23, eh23⟩ := hb.elemI g om
   refine Dyp 6 rfl (s4 us_Is i8 rfl ea23 rfl g rfl om) (Dy 7 rfl (g9 i8 rfl (eh23 _) rfl) (Dyp 8 rfl (Y.neq rfl rfl) (o7 (fun q25 => ?_) (fun q25 => ?_))))
   ·refine s3 kr (Et (o5 rfl (Ew Z1 (Ei rfl ?_))))
    exact Eu (E.ret (w8 (l4 (l4 (w8 (l4 (Fb rfl rfl (by exact a2U (show g < a.length by omega) (show g < b.length by omega) q25))))))))
   ·refine s3 kr (Et (o4 rfl (i7 (t8 (Et (Ez Z3 (Em rfl (Ey rfl ((Y.add rfl rfl om om).yd) (Ei rfl ?_)))))))))
    exact Eu (w4 br (g + 1) rs (.refl _) ⟨by omega, a1q om om pa om⟩ om)
  ·refine Eu (o4 rfl (E.exit (o3 (o3 (w3 (Et (Ew Z1 (Ei rfl ?_))))))))
   exact Eu (E.ret (Fb rfl rfl (by exact a2v (show a.length ≤ g by omega) (show b.length ≤ g by omega) pa)))
end Go.Proofs.YtdopeopehgdccaaGreat
