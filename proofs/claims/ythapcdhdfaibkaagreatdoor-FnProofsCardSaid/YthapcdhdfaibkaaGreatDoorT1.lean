import Derived.Test.YthapcdhdfaibkaaGreatDoorBs
namespace Go.Proofs.YthapcdhdfaibkaaGreatDoor
open Go.RowKit
set_option linter.all false
set_option maxHeartbeats 2000000
attribute [local irreducible] Nop Yd Yp Ent Has Tr FnP FnP2 Src
variable {f_g : FuncId} {low high n arity B0 F9 : Int} {l : List (Int × Int × List Int)} {s C1 : List Int} {f_c : List Value} {m_s c_s m_l c_l O3 K3 : Nat} {a_s a_l K4 : Option Addr}
theorem G0 {x : Int} : Tr Tryz.prog 145 [.int .i64 x, .int .i64 low, .int .i64 high] (fun w L => True) [] (κ := Unit) (fun k => True) (fun k => .bool (inR x low high)) (fun k => []) := by
 refine Tr.intro Tryz.func145 rfl (n := 15) rfl (by decide +kernel) bl (fr := [(0, .int .i64 x), (1, .int .i64 low), (2, .int .i64 high)]) rfl fun w L hR => (Ew Z1 (Ei rfl (Ev Z9 (Em rfl (Em rfl (Ey rfl ((Y.geq rfl rfl).yd) (o3 (fun q9 => ?_) (fun q9 => ?_))))))))
 ·refine Em rfl (Em rfl (Em rfl (Ey rfl ((Y.leq rfl rfl).yd) (Ey rfl ((t8 rfl rfl).yd) (Ei rfl ?_)))))
  exact Eu (E.ret (Fb rfl rfl (by simp_all [inR]; try omega)))
 ·refine Em rfl (Es rfl (Es rfl (Es rfl (Ey rfl ((t7 rfl rfl).yd) (Ei rfl ?_)))))
  exact Eu (E.ret (Fb rfl rfl (by simp_all [inR]; try omega)))
theorem M8 : Tr Tryz.prog 150 [.int .i64 n, .int .i64 low, .int .i64 high] (fun w L => True) [] (κ := Unit) (fun k => True) (fun k => .bool (inR n low high)) (fun k => []) := by
 refine Tr.intro Tryz.func150 rfl (n := 15) rfl (by decide +kernel) bl (fr := [(0, .int .i64 n), (1, .int .i64 low), (2, .int .i64 high)]) rfl fun w L hR => (Ew Z1 (Ei rfl (Ev Z9 (Em rfl (Em rfl (Ey rfl ((Y.geq rfl rfl).yd) (o3 (fun q9 => ?_) (fun q9 => ?_))))))))
 ·refine Em rfl (Em rfl (Em rfl (Ey rfl ((Y.leq rfl rfl).yd) (Ey rfl ((t8 rfl rfl).yd) (Ei rfl ?_)))))
  exact Eu (E.ret (Fb rfl rfl (by simp_all [inR]; try omega)))
 ·refine Em rfl (Es rfl (Es rfl (Es rfl (Ey rfl ((t7 rfl rfl).yd) (Ei rfl ?_)))))
  exact Eu (E.ret (Fb rfl rfl (by simp_all [inR]; try omega)))
theorem b0C {D_f : Int → Prop} {f : Int → Bool} (hD_f : ∀ x ∈ s, D_f x) : Tr Tryz.prog 231 [.slice a_s m_s c_s, .func (.func f_g) #[] f_c.toArray] (fun w L => Ro w L eIs [.slice a_s m_s c_s] s ∧ FnP Tryz.prog w L f_g f_c Enc.int b2S D_f f) [] (κ := Unit) (fun k => True) (fun k => .int .i64 (M6 f s)) (fun k => []) := by
 refine Tr.intro Tryz.func231 rfl (n := 19) rfl (by decide +kernel) bl (fr := [(0, .slice a_s m_s c_s), (1, .func (.func f_g) #[] f_c.toArray)]) rfl fun w L hR => ?_
 obtain ⟨hs, hf⟩ := hR
 obtain ⟨rfl, ls⟩ := hs.slen
 refine Ew Z1 (Ei rfl (Eu (Eq_ (Ew Z3 (Em rfl (Ey rfl ((Y.len us_Is rfl).yd) (Em rfl (Eu (E.block (E.loop (κ := Nat) (fun g => g ≤ s.length ∧ ∀ x ∈ s.take g, f x = false) (fun g => [(0, .slice a_s s.length c_s), (1, .func (.func f_g) #[] f_c.toArray), (7, .int .i64 (↑s.length : Int)), (8, .int .i64 (g : Int))]) (fun g => []) (fun g => s.length - g) 0 ⟨by omega, by simp⟩ ⟨rfl, rfl, rfl, rfl, trivial⟩ (.refl _) (fun g pg => ?_)))))))))))
 obtain ⟨pk, pa⟩ := pg
 refine Ew Z1 (Ey rfl ((Y.lss rfl rfl).yd) (o3 (fun q9 => ?_) (fun q9 => ?_)))
 ·refine Eu (Eq_ (n8 rfl (i7 (Et (Eq_ (E.block (Ew Z2 (Em rfl (Ei rfl (Ev Z6 (Em rfl (Em rfl (Em rfl ?_)))))))))))))
  obtain ⟨eb14, eo14, ea14, ei14, eh14⟩ := hs.elemI g om
  refine Ey rfl ((v8 us_Is f9 rfl ea14 rfl g rfl om).yd) (Ey rfl (g9 f9 rfl (eh14 _) rfl) (Est rfl (N.fn (cs := [_]) hf rfl rfl rfl dc (fun w Lp hA => Y0 ei14) (hD_f _ (List.getElem_mem om))) (fun _ _ => (Ent.b (fun q16 => ?_) (fun q16 => ?_)))))
  ·refine Eu (n8 rfl (Ew Z2 (Em rfl (Ei rfl ?_))))
   exact Eu (E.ret (y8 (n0 (n0 (y8 (n0 (Fg rfl rfl () (congrArg (Value.int .i64) (by first | exact V9 om pa q16 | exact S9 om pa)) rfl)))))))
  ·refine Eu (o0 rfl (i7 (s9 (Et (Ez Z2 (Ey rfl ((Y.add rfl rfl om om).yd) (Em rfl ?_)))))))
   exact Eu (x6 br (g + 1) rs (.refl _) ⟨by omega, W2 om pa q16⟩ om)
 ·refine Eu (Eq_ (o0 rfl (E.exit (q1 (q1 (y4 (Et (Ew Z1 (Ei rfl ?_)))))))))
  exact Eu (E.ret (Fg rfl rfl () (congrArg (Value.int .i64) (by first | exact V9 om pa q16 | exact S9 om pa)) rfl))
theorem a0H {D_f : Int → Prop} {f : Int → Bool} (hD_f : ∀ x ∈ s, D_f x) : Tr Tryz.prog 120 [.slice a_s m_s c_s, .func (.func f_g) #[] f_c.toArray] (fun w L => Ro w L eIs [.slice a_s m_s c_s] s ∧ FnP Tryz.prog w L f_g f_c Enc.int b2S D_f f) [] (κ := Unit) (fun k => True) (fun k => .bool (s.any f)) (fun k => []) := by
 refine Tr.intro Tryz.func120 rfl (n := 9) rfl (by decide +kernel) bl (fr := [(0, .slice a_s m_s c_s), (1, .func (.func f_g) #[] f_c.toArray)]) rfl fun w L hR => ?_
 obtain ⟨hs, hf⟩ := hR
 obtain ⟨rfl, ls⟩ := hs.slen
 refine Ew Z1 (Ei rfl (Ev Z5 (Em rfl (Em rfl (Est rfl (l0 (b0C (f := f) (D_f := D_f) hD_f) rfl rfl rfl dc (fun w Lp hA => ⟨hA.ro hs, hA.fn hf⟩)) (fun _ _ => (Ey rfl ((Y.geq rfl rfl).yd) (Ei rfl ?_))))))))
 exact Eu (E.ret (Fb rfl rfl (by exact a0Z)))
theorem a4d {s : List (Int × Int × List Int)} {D_f : (Int × Int × List Int) → Prop} {f : (Int × Int × List Int) → Bool} (hD_f : ∀ x ∈ s, D_f x) : Tr Tryz.prog 368 [.slice a_s m_s c_s, .func (.func f_g) #[] f_c.toArray] (fun w L => Ro w L J9 [.slice a_s m_s c_s] s ∧ FnP Tryz.prog w L f_g f_c a1N a1J D_f f) [] (κ := Unit) (fun k => True) (fun k => .int .i64 (M6 f s)) (fun k => []) := by
 refine Tr.intro Tryz.func368 rfl (n := 19) rfl (by decide +kernel) bl (fr := [(0, .slice a_s m_s c_s), (1, .func (.func f_g) #[] f_c.toArray)]) rfl fun w L hR => ?_
 obtain ⟨hs, hf⟩ := hR
 obtain ⟨rfl, ls⟩ := hs.slen
 refine Ew Z1 (Ei rfl (Eu (Eq_ (Ew Z3 (Em rfl (Ey rfl ((Y.len us_Rules rfl).yd) (Em rfl (Eu (E.block (E.loop (κ := Nat) (fun g => g ≤ s.length ∧ ∀ x ∈ s.take g, f x = false) (fun g => [(0, .slice a_s s.length c_s), (1, .func (.func f_g) #[] f_c.toArray), (7, .int .i64 (↑s.length : Int)), (8, .int .i64 (g : Int))]) (fun g => []) (fun g => s.length - g) 0 ⟨by omega, by simp⟩ ⟨rfl, rfl, rfl, rfl, trivial⟩ (.refl _) (fun g pg => ?_)))))))))))
 obtain ⟨pk, pa⟩ := pg
 refine Ew Z1 (Ey rfl ((Y.lss rfl rfl).yd) (o3 (fun q9 => ?_) (fun q9 => ?_)))
 ·refine Eu (Eq_ (n8 rfl (i7 (Et (Eq_ (E.block (Ew Z2 (Em rfl (Ei rfl (Ev Z6 (Em rfl (Em rfl (Em rfl ?_)))))))))))))
  obtain ⟨eb14, eo14, ec14, ea14, er14, el14, eh14⟩ := hs.elem g om
  obtain ⟨xa14_0, xc14_0, rfl, ei14_0, ei14_1, xh14_0⟩ := a2c er14
  have := xh14_0.slen.2
  refine Ey rfl ((v8 us_Rules ty_Rule rfl ea14 rfl g rfl om).yd) (Ey rfl (o6 (cs := [_, _, _]) ty_Rule rfl (eh14 _) rfl) (Est rfl (N.fn (cs := [_, _, _]) hf rfl rfl rfl dc (fun w Lp hA => b4L (x := s[g]) ei14_0 ei14_1 (hA.ro xh14_0)) (hD_f _ (List.getElem_mem om))) (fun _ _ => (Ent.b (fun q16 => ?_) (fun q16 => ?_)))))
  ·refine Eu (n8 rfl (Ew Z2 (Em rfl (Ei rfl ?_))))
   exact Eu (E.ret (y8 (n0 (n0 (y8 (n0 (Fg rfl rfl () (congrArg (Value.int .i64) (by first | exact V9 om pa q16 | exact S9 om pa)) rfl)))))))
  ·refine Eu (o0 rfl (i7 (s9 (Et (Ez Z2 (Ey rfl ((Y.add rfl rfl om om).yd) (Em rfl ?_)))))))
   exact Eu (x6 br (g + 1) rs (.refl _) ⟨by omega, W2 om pa q16⟩ om)
 ·refine Eu (Eq_ (o0 rfl (E.exit (q1 (q1 (y4 (Et (Ew Z1 (Ei rfl ?_)))))))))
  exact Eu (E.ret (Fg rfl rfl () (congrArg (Value.int .i64) (by first | exact V9 om pa q16 | exact S9 om pa)) rfl))
theorem a6s {s : List (Int × Int × List Int)} {D_f : (Int × Int × List Int) → Prop} {f : (Int × Int × List Int) → Bool} (hD_f : ∀ x ∈ s, D_f x) : Tr Tryz.prog 328 [.slice a_s m_s c_s, .func (.func f_g) #[] f_c.toArray] (fun w L => Ro w L J9 [.slice a_s m_s c_s] s ∧ FnP Tryz.prog w L f_g f_c a1N a1J D_f f) [] (κ := Unit) (fun k => True) (fun k => .bool (s.any f)) (fun k => []) := by
 refine Tr.intro Tryz.func328 rfl (n := 9) rfl (by decide +kernel) bl (fr := [(0, .slice a_s m_s c_s), (1, .func (.func f_g) #[] f_c.toArray)]) rfl fun w L hR => ?_
 obtain ⟨hs, hf⟩ := hR
 obtain ⟨rfl, ls⟩ := hs.slen
 refine Ew Z1 (Ei rfl (Ev Z5 (Em rfl (Em rfl (Est rfl (l0 (a4d (f := f) (D_f := D_f) hD_f) rfl rfl rfl dc (fun w Lp hA => ⟨hA.ro hs, hA.fn hf⟩)) (fun _ _ => (Ey rfl ((Y.geq rfl rfl).yd) (Ei rfl ?_))))))))
 exact Eu (E.ret (Fb rfl rfl (by exact a0Z)))
theorem a6N {s : List (Int × List Int)} {D_f : (Int × List Int) → Prop} {f : (Int × List Int) → Bool} (hD_f : ∀ x ∈ s, D_f x) : Tr Tryz.prog 298 [.slice a_s m_s c_s, .func (.func f_g) #[] f_c.toArray] (fun w L => Ro w L w5 [.slice a_s m_s c_s] s ∧ FnP Tryz.prog w L f_g f_c F6 a1J D_f f) [] (κ := Unit) (fun k => True) (fun k => .int .i64 (M6 f s)) (fun k => []) := by
 refine Tr.intro Tryz.func298 rfl (n := 19) rfl (by decide +kernel) bl (fr := [(0, .slice a_s m_s c_s), (1, .func (.func f_g) #[] f_c.toArray)]) rfl fun w L hR => ?_
 obtain ⟨hs, hf⟩ := hR
 obtain ⟨rfl, ls⟩ := hs.slen
 refine Ew Z1 (Ei rfl (Eu (Eq_ (Ew Z3 (Em rfl (Ey rfl ((Y.len us_Accesss rfl).yd) (Em rfl (Eu (E.block (E.loop (κ := Nat) (fun g => g ≤ s.length ∧ ∀ x ∈ s.take g, f x = false) (fun g => [(0, .slice a_s s.length c_s), (1, .func (.func f_g) #[] f_c.toArray), (7, .int .i64 (↑s.length : Int)), (8, .int .i64 (g : Int))]) (fun g => []) (fun g => s.length - g) 0 ⟨by omega, by simp⟩ ⟨rfl, rfl, rfl, rfl, trivial⟩ (.refl _) (fun g pg => ?_)))))))))))
 obtain ⟨pk, pa⟩ := pg
 refine Ew Z1 (Ey rfl ((Y.lss rfl rfl).yd) (o3 (fun q9 => ?_) (fun q9 => ?_)))
 ·refine Eu (Eq_ (n8 rfl (i7 (Et (Eq_ (E.block (Ew Z2 (Em rfl (Ei rfl (Ev Z6 (Em rfl (Em rfl (Em rfl ?_)))))))))))))
  obtain ⟨eb14, eo14, ec14, ea14, er14, el14, eh14⟩ := hs.elem g om
  obtain ⟨xa14_0, xc14_0, rfl, ei14_0, xh14_0⟩ := a2n er14
  have := xh14_0.slen.2
  refine Ey rfl ((v8 us_Accesss ty_Access rfl ea14 rfl g rfl om).yd) (Ey rfl (o6 (cs := [_, _]) ty_Access rfl (eh14 _) rfl) (Est rfl (N.fn (cs := [_, _]) hf rfl rfl rfl dc (fun w Lp hA => b2g (x := s[g]) ei14_0 (hA.ro xh14_0)) (hD_f _ (List.getElem_mem om))) (fun _ _ => (Ent.b (fun q16 => ?_) (fun q16 => ?_)))))
  ·refine Eu (n8 rfl (Ew Z2 (Em rfl (Ei rfl ?_))))
   exact Eu (E.ret (y8 (n0 (n0 (y8 (n0 (Fg rfl rfl () (congrArg (Value.int .i64) (by first | exact V9 om pa q16 | exact S9 om pa)) rfl)))))))
  ·refine Eu (o0 rfl (i7 (s9 (Et (Ez Z2 (Ey rfl ((Y.add rfl rfl om om).yd) (Em rfl ?_)))))))
   exact Eu (x6 br (g + 1) rs (.refl _) ⟨by omega, W2 om pa q16⟩ om)
 ·refine Eu (Eq_ (o0 rfl (E.exit (q1 (q1 (y4 (Et (Ew Z1 (Ei rfl ?_)))))))))
  exact Eu (E.ret (Fg rfl rfl () (congrArg (Value.int .i64) (by first | exact V9 om pa q16 | exact S9 om pa)) rfl))
theorem a5k {s : List (Int × List Int)} {D_f : (Int × List Int) → Prop} {f : (Int × List Int) → Bool} (hD_f : ∀ x ∈ s, D_f x) : Tr Tryz.prog 196 [.slice a_s m_s c_s, .func (.func f_g) #[] f_c.toArray] (fun w L => Ro w L w5 [.slice a_s m_s c_s] s ∧ FnP Tryz.prog w L f_g f_c F6 a1J D_f f) [] (κ := Unit) (fun k => True) (fun k => .bool (s.any f)) (fun k => []) := by
 refine Tr.intro Tryz.func196 rfl (n := 9) rfl (by decide +kernel) bl (fr := [(0, .slice a_s m_s c_s), (1, .func (.func f_g) #[] f_c.toArray)]) rfl fun w L hR => ?_
 obtain ⟨hs, hf⟩ := hR
 obtain ⟨rfl, ls⟩ := hs.slen
 refine Ew Z1 (Ei rfl (Ev Z5 (Em rfl (Em rfl (Est rfl (l0 (a6N (f := f) (D_f := D_f) hD_f) rfl rfl rfl dc (fun w Lp hA => ⟨hA.ro hs, hA.fn hf⟩)) (fun _ _ => (Ey rfl ((Y.geq rfl rfl).yd) (Ei rfl ?_))))))))
 exact Eu (E.ret (Fb rfl rfl (by exact a0Z)))
theorem a6D {s : List (Int × List Int × Int × Int × Int)} {D_f : (Int × List Int × Int × Int × Int) → Prop} {f : (Int × List Int × Int × Int × Int) → Bool} (hD_f : ∀ x ∈ s, D_f x) : Tr Tryz.prog 218 [.slice a_s m_s c_s, .func (.func f_g) #[] f_c.toArray] (fun w L => Ro w L F5 [.slice a_s m_s c_s] s ∧ FnP Tryz.prog w L f_g f_c a1y a1J D_f f) [] (κ := Unit) (fun k => True) (fun k => .int .i64 (M6 f s)) (fun k => []) := by
 refine Tr.intro Tryz.func218 rfl (n := 19) rfl (by decide +kernel) bl (fr := [(0, .slice a_s m_s c_s), (1, .func (.func f_g) #[] f_c.toArray)]) rfl fun w L hR => ?_
 obtain ⟨hs, hf⟩ := hR
 obtain ⟨rfl, ls⟩ := hs.slen
 refine Ew Z1 (Ei rfl (Eu (Eq_ (Ew Z3 (Em rfl (Ey rfl ((Y.len us_Methods rfl).yd) (Em rfl (Eu (E.block (E.loop (κ := Nat) (fun g => g ≤ s.length ∧ ∀ x ∈ s.take g, f x = false) (fun g => [(0, .slice a_s s.length c_s), (1, .func (.func f_g) #[] f_c.toArray), (7, .int .i64 (↑s.length : Int)), (8, .int .i64 (g : Int))]) (fun g => []) (fun g => s.length - g) 0 ⟨by omega, by simp⟩ ⟨rfl, rfl, rfl, rfl, trivial⟩ (.refl _) (fun g pg => ?_)))))))))))
 obtain ⟨pk, pa⟩ := pg
 refine Ew Z1 (Ey rfl ((Y.lss rfl rfl).yd) (o3 (fun q9 => ?_) (fun q9 => ?_)))
 ·refine Eu (Eq_ (n8 rfl (i7 (Et (Eq_ (E.block (Ew Z2 (Em rfl (Ei rfl (Ev Z6 (Em rfl (Em rfl (Em rfl ?_)))))))))))))
  obtain ⟨eb14, eo14, ec14, ea14, er14, el14, eh14⟩ := hs.elem g om
  obtain ⟨xa14_0, xc14_0, rfl, ei14_0, xh14_0, ei14_2, ei14_3, ei14_4⟩ := V6 er14
  have := xh14_0.slen.2
  refine Ey rfl ((v8 us_Methods ty_Method rfl ea14 rfl g rfl om).yd) (Ey rfl (o6 (cs := [_, _, _, _, _]) ty_Method rfl (eh14 _) rfl) (Est rfl (N.fn (cs := [_, _, _, _, _]) hf rfl rfl rfl dc (fun w Lp hA => b2e (x := s[g]) ei14_0 (hA.ro xh14_0) ei14_2 ei14_3 ei14_4) (hD_f _ (List.getElem_mem om))) (fun _ _ => (Ent.b (fun q16 => ?_) (fun q16 => ?_)))))
  ·refine Eu (n8 rfl (Ew Z2 (Em rfl (Ei rfl ?_))))
   exact Eu (E.ret (y8 (n0 (n0 (y8 (n0 (Fg rfl rfl () (congrArg (Value.int .i64) (by first | exact V9 om pa q16 | exact S9 om pa)) rfl)))))))
  ·refine Eu (o0 rfl (i7 (s9 (Et (Ez Z2 (Ey rfl ((Y.add rfl rfl om om).yd) (Em rfl ?_)))))))
   exact Eu (x6 br (g + 1) rs (.refl _) ⟨by omega, W2 om pa q16⟩ om)
 ·refine Eu (Eq_ (o0 rfl (E.exit (q1 (q1 (y4 (Et (Ew Z1 (Ei rfl ?_)))))))))
  exact Eu (E.ret (Fg rfl rfl () (congrArg (Value.int .i64) (by first | exact V9 om pa q16 | exact S9 om pa)) rfl))
theorem a5n {s : List (Int × List Int × Int × Int × Int)} {D_f : (Int × List Int × Int × Int × Int) → Prop} {f : (Int × List Int × Int × Int × Int) → Bool} (hD_f : ∀ x ∈ s, D_f x) : Tr Tryz.prog 212 [.slice a_s m_s c_s, .func (.func f_g) #[] f_c.toArray] (fun w L => Ro w L F5 [.slice a_s m_s c_s] s ∧ FnP Tryz.prog w L f_g f_c a1y a1J D_f f) [] (κ := Unit) (fun k => True) (fun k => .bool (s.any f)) (fun k => []) := by
 refine Tr.intro Tryz.func212 rfl (n := 9) rfl (by decide +kernel) bl (fr := [(0, .slice a_s m_s c_s), (1, .func (.func f_g) #[] f_c.toArray)]) rfl fun w L hR => ?_
 obtain ⟨hs, hf⟩ := hR
 obtain ⟨rfl, ls⟩ := hs.slen
 refine Ew Z1 (Ei rfl (Ev Z5 (Em rfl (Em rfl (Est rfl (l0 (a6D (f := f) (D_f := D_f) hD_f) rfl rfl rfl dc (fun w Lp hA => ⟨hA.ro hs, hA.fn hf⟩)) (fun _ _ => (Ey rfl ((Y.geq rfl rfl).yd) (Ei rfl ?_))))))))
 exact Eu (E.ret (Fb rfl rfl (by exact a0Z)))
theorem a2E {s : List (Int × List Int)} {D_f : (Int × List Int) → Prop} {f : (Int × List Int) → Bool} (hD_f : ∀ x ∈ s, D_f x) : Tr Tryz.prog 292 [.slice a_s m_s c_s, .func (.func f_g) #[] f_c.toArray] (fun w L => Ro w L m8 [.slice a_s m_s c_s] s ∧ FnP Tryz.prog w L f_g f_c C9 a1J D_f f) [] (κ := Unit) (fun k => True) (fun k => .int .i64 (M6 f s)) (fun k => []) := by
 refine Tr.intro Tryz.func292 rfl (n := 19) rfl (by decide +kernel) bl (fr := [(0, .slice a_s m_s c_s), (1, .func (.func f_g) #[] f_c.toArray)]) rfl fun w L hR => ?_
 obtain ⟨hs, hf⟩ := hR
 obtain ⟨rfl, ls⟩ := hs.slen
 refine Ew Z1 (Ei rfl (Eu (Eq_ (Ew Z3 (Em rfl (Ey rfl ((Y.len us_Facts rfl).yd) (Em rfl (Eu (E.block (E.loop (κ := Nat) (fun g => g ≤ s.length ∧ ∀ x ∈ s.take g, f x = false) (fun g => [(0, .slice a_s s.length c_s), (1, .func (.func f_g) #[] f_c.toArray), (7, .int .i64 (↑s.length : Int)), (8, .int .i64 (g : Int))]) (fun g => []) (fun g => s.length - g) 0 ⟨by omega, by simp⟩ ⟨rfl, rfl, rfl, rfl, trivial⟩ (.refl _) (fun g pg => ?_)))))))))))
 obtain ⟨pk, pa⟩ := pg
 refine Ew Z1 (Ey rfl ((Y.lss rfl rfl).yd) (o3 (fun q9 => ?_) (fun q9 => ?_)))
 ·refine Eu (Eq_ (n8 rfl (i7 (Et (Eq_ (E.block (Ew Z2 (Em rfl (Ei rfl (Ev Z6 (Em rfl (Em rfl (Em rfl ?_)))))))))))))
  obtain ⟨eb14, eo14, ec14, ea14, er14, el14, eh14⟩ := hs.elem g om
  obtain ⟨xa14_0, xc14_0, rfl, ei14_0, xh14_0⟩ := K8 er14
  have := xh14_0.slen.2
  refine Ey rfl ((v8 us_Facts ty_Fact rfl ea14 rfl g rfl om).yd) (Ey rfl (o6 (cs := [_, _]) ty_Fact rfl (eh14 _) rfl) (Est rfl (N.fn (cs := [_, _]) hf rfl rfl rfl dc (fun w Lp hA => b4N (x := s[g]) ei14_0 (hA.ro xh14_0)) (hD_f _ (List.getElem_mem om))) (fun _ _ => (Ent.b (fun q16 => ?_) (fun q16 => ?_)))))
  ·refine Eu (n8 rfl (Ew Z2 (Em rfl (Ei rfl ?_))))
   exact Eu (E.ret (y8 (n0 (n0 (y8 (n0 (Fg rfl rfl () (congrArg (Value.int .i64) (by first | exact V9 om pa q16 | exact S9 om pa)) rfl)))))))
  ·refine Eu (o0 rfl (i7 (s9 (Et (Ez Z2 (Ey rfl ((Y.add rfl rfl om om).yd) (Em rfl ?_)))))))
   exact Eu (x6 br (g + 1) rs (.refl _) ⟨by omega, W2 om pa q16⟩ om)
 ·refine Eu (Eq_ (o0 rfl (E.exit (q1 (q1 (y4 (Et (Ew Z1 (Ei rfl ?_)))))))))
  exact Eu (E.ret (Fg rfl rfl () (congrArg (Value.int .i64) (by first | exact V9 om pa q16 | exact S9 om pa)) rfl))
theorem a3g {s : List (Int × List Int)} {D_f : (Int × List Int) → Prop} {f : (Int × List Int) → Bool} (hD_f : ∀ x ∈ s, D_f x) : Tr Tryz.prog 199 [.slice a_s m_s c_s, .func (.func f_g) #[] f_c.toArray] (fun w L => Ro w L m8 [.slice a_s m_s c_s] s ∧ FnP Tryz.prog w L f_g f_c C9 a1J D_f f) [] (κ := Unit) (fun k => True) (fun k => .bool (s.any f)) (fun k => []) := by
 refine Tr.intro Tryz.func199 rfl (n := 9) rfl (by decide +kernel) bl (fr := [(0, .slice a_s m_s c_s), (1, .func (.func f_g) #[] f_c.toArray)]) rfl fun w L hR => ?_
 obtain ⟨hs, hf⟩ := hR
 obtain ⟨rfl, ls⟩ := hs.slen
 refine Ew Z1 (Ei rfl (Ev Z5 (Em rfl (Em rfl (Est rfl (l0 (a2E (f := f) (D_f := D_f) hD_f) rfl rfl rfl dc (fun w Lp hA => ⟨hA.ro hs, hA.fn hf⟩)) (fun _ _ => (Ey rfl ((Y.geq rfl rfl).yd) (Ei rfl ?_))))))))
 exact Eu (E.ret (Fb rfl rfl (by exact a0Z)))
theorem a4e {s : List (Int × (Int × List Int) × Int × List Int)} {D_f : (Int × (Int × List Int) × Int × List Int) → Prop} {f : (Int × (Int × List Int) × Int × List Int) → Bool} (hD_f : ∀ x ∈ s, D_f x) : Tr Tryz.prog 161 [.slice a_s m_s c_s, .func (.func f_g) #[] f_c.toArray] (fun w L => Ro w L B6 [.slice a_s m_s c_s] s ∧ FnP Tryz.prog w L f_g f_c S8 a1J D_f f) [] (κ := Unit) (fun k => True) (fun k => .int .i64 (M6 f s)) (fun k => []) := by
 refine Tr.intro Tryz.func161 rfl (n := 19) rfl (by decide +kernel) bl (fr := [(0, .slice a_s m_s c_s), (1, .func (.func f_g) #[] f_c.toArray)]) rfl fun w L hR => ?_
 obtain ⟨hs, hf⟩ := hR
 obtain ⟨rfl, ls⟩ := hs.slen
 refine Ew Z1 (Ei rfl (Eu (Eq_ (Ew Z3 (Em rfl (Ey rfl ((Y.len us_Lines rfl).yd) (Em rfl (Eu (E.block (E.loop (κ := Nat) (fun g => g ≤ s.length ∧ ∀ x ∈ s.take g, f x = false) (fun g => [(0, .slice a_s s.length c_s), (1, .func (.func f_g) #[] f_c.toArray), (7, .int .i64 (↑s.length : Int)), (8, .int .i64 (g : Int))]) (fun g => []) (fun g => s.length - g) 0 ⟨by omega, by simp⟩ ⟨rfl, rfl, rfl, rfl, trivial⟩ (.refl _) (fun g pg => ?_)))))))))))
 obtain ⟨pk, pa⟩ := pg
 refine Ew Z1 (Ey rfl ((Y.lss rfl rfl).yd) (o3 (fun q9 => ?_) (fun q9 => ?_)))
 ·refine Eu (Eq_ (n8 rfl (i7 (Et (Eq_ (E.block (Ew Z2 (Em rfl (Ei rfl (Ev Z6 (Em rfl (Em rfl (Em rfl ?_)))))))))))))
  obtain ⟨eb14, eo14, ec14, ea14, er14, el14, eh14⟩ := hs.elem g om
  obtain ⟨xa14_0, xc14_0, xa14_1, xc14_1, rfl, ei14_0, ei14_1, xh14_0, ei14_3, xh14_1⟩ := a1b er14
  have := xh14_0.slen.2
  have := xh14_1.slen.2
  refine Ey rfl ((v8 us_Lines ty_Line rfl ea14 rfl g rfl om).yd) (Ey rfl (o6 (cs := [_, _, _, _, _]) ty_Line rfl (eh14 _) rfl) (Est rfl (N.fn (cs := [_, _, _, _, _]) hf rfl rfl rfl dc (fun w Lp hA => b4U (x := s[g]) ei14_0 ei14_1 (hA.ro xh14_0) ei14_3 (hA.ro xh14_1)) (hD_f _ (List.getElem_mem om))) (fun _ _ => (Ent.b (fun q16 => ?_) (fun q16 => ?_)))))
  ·refine Eu (n8 rfl (Ew Z2 (Em rfl (Ei rfl ?_))))
   exact Eu (E.ret (y8 (n0 (n0 (y8 (n0 (Fg rfl rfl () (congrArg (Value.int .i64) (by first | exact V9 om pa q16 | exact S9 om pa)) rfl)))))))
  ·refine Eu (o0 rfl (i7 (s9 (Et (Ez Z2 (Ey rfl ((Y.add rfl rfl om om).yd) (Em rfl ?_)))))))
   exact Eu (x6 br (g + 1) rs (.refl _) ⟨by omega, W2 om pa q16⟩ om)
 ·refine Eu (Eq_ (o0 rfl (E.exit (q1 (q1 (y4 (Et (Ew Z1 (Ei rfl ?_)))))))))
  exact Eu (E.ret (Fg rfl rfl () (congrArg (Value.int .i64) (by first | exact V9 om pa q16 | exact S9 om pa)) rfl))
theorem a3f {s : List (Int × (Int × List Int) × Int × List Int)} {D_f : (Int × (Int × List Int) × Int × List Int) → Prop} {f : (Int × (Int × List Int) × Int × List Int) → Bool} (hD_f : ∀ x ∈ s, D_f x) : Tr Tryz.prog 270 [.slice a_s m_s c_s, .func (.func f_g) #[] f_c.toArray] (fun w L => Ro w L B6 [.slice a_s m_s c_s] s ∧ FnP Tryz.prog w L f_g f_c S8 a1J D_f f) [] (κ := Unit) (fun k => True) (fun k => .bool (s.any f)) (fun k => []) := by
 refine Tr.intro Tryz.func270 rfl (n := 9) rfl (by decide +kernel) bl (fr := [(0, .slice a_s m_s c_s), (1, .func (.func f_g) #[] f_c.toArray)]) rfl fun w L hR => ?_
 obtain ⟨hs, hf⟩ := hR
 obtain ⟨rfl, ls⟩ := hs.slen
 refine Ew Z1 (Ei rfl (Ev Z5 (Em rfl (Em rfl (Est rfl (l0 (a4e (f := f) (D_f := D_f) hD_f) rfl rfl rfl dc (fun w Lp hA => ⟨hA.ro hs, hA.fn hf⟩)) (fun _ _ => (Ey rfl ((Y.geq rfl rfl).yd) (Ei rfl ?_))))))))
 exact Eu (E.ret (Fb rfl rfl (by exact a0Z)))
theorem a7u : Tr Tryz.prog 291 [.int .i64 n] (fun w L => (I64 n) ∧ True) [] (κ := Unit) (fun k => True) (fun k => .bool (!inR n 1 3)) (fun k => []) := by
 refine Tr.intro Tryz.func291 rfl (n := 6) rfl (by decide +kernel) bl (fr := [(0, .int .i64 n)]) rfl fun w L hR => ?_
 obtain ⟨i6n, _⟩ := hR
 refine Ew Z1 (Ei rfl (Ev Z4 (Em rfl (Est rfl (l0 M8 rfl rfl rfl dc tv) (fun _ _ => (Ey rfl ((Y.not rfl).yd) (Ei rfl ?_)))))))
 exact Eu (E.ret (Fb rfl rfl (by simp_all)))
theorem a1O : Tr Tryz.prog 188 [.slice a_s m_s c_s] (fun w L => Ro w L eIs [.slice a_s m_s c_s] s) [] (κ := Unit) (fun k => True) (fun k => .bool (Q6 s)) (fun k => []) := by
 refine Tr.intro Tryz.func188 rfl (n := 11) rfl (by decide +kernel) bl (fr := [(0, .slice a_s m_s c_s)]) rfl fun w L hR => ?_
 have hs := hR
 obtain ⟨rfl, ls⟩ := hs.slen
 refine Ew Z1 (Ei rfl (Ev Z9 (Em rfl (Ey rfl ((Y.len us_Is rfl).yd) (Est rfl (l0 M8 rfl rfl rfl dc tv) (fun _ _ => (Ent.b (fun q5 => ?_) (fun q5 => ?_))))))))
 ·refine Em rfl (Em rfl (Est rfl (l0 (a0H (f := (fun n => !inR n 1 3)) (D_f := (fun _ => True)) (by intros; exact trivial)) rfl rfl rfl dc (fun w Lp hA => ⟨hA.ro hs, a4c (D := (fun _ => True)) (fun hd => a7u) (fun w' hk => trivial)⟩)) (fun _ _ => (Ey rfl ((Y.not rfl).yd) (Ey rfl ((t8 rfl rfl).yd) (Ei rfl ?_))))))
  exact Eu (E.ret (Fb rfl rfl (by simp_all [Q6])))
 ·refine Em rfl (Es rfl (Es rfl (Es rfl (Ey rfl ((t7 rfl rfl).yd) (Ei rfl ?_)))))
  exact Eu (E.ret (Fb rfl rfl (by simp_all [Q6])))
theorem M9 : Tr Tryz.prog 103 [.slice a_s m_s c_s] (fun w L => Ro w L eIs [.slice a_s m_s c_s] s) [] (κ := Unit) (fun k => True) (fun k => .bool (Q6 s)) (fun k => []) := by
 refine Tr.intro Tryz.func103 rfl (n := 19) rfl (by decide +kernel) bl (fr := [(0, .slice a_s m_s c_s)]) rfl fun w L hR => ?_
 have hs := hR
 obtain ⟨rfl, ls⟩ := hs.slen
 refine Ew Z1 (Ei rfl (Eu (Eq_ (Ew Z1 (Ei rfl (Eu (E.block (E.loop (κ := Nat) (fun g => g ≤ s.length ∧ ∀ x ∈ s.take g, (!inR x 1 3) = false) (fun g => [(0, .slice a_s s.length c_s), (3, .int .i64 (g : Int))]) (fun g => []) (fun g => s.length - g) 0 ⟨by omega, by simp⟩ ⟨rfl, rfl, trivial⟩ (.refl _) (fun g pg => ?_)))))))))
 obtain ⟨pk, pa⟩ := pg
 refine Eq_ (Ew Z4 (Em rfl (Em rfl (Ey rfl ((Y.len us_Is rfl).yd) (Ey rfl ((Y.lss rfl rfl).yd) (o3 (fun q7 => ?_) (fun q7 => ?_)))))))
 ·refine Eu (n8 rfl (i7 (Et (Eq_ (E.block (Ew Z6 (Em rfl (Em rfl ?_))))))))
  obtain ⟨eb12, eo12, ea12, ei12, eh12⟩ := hs.elemI g om
  refine Ey rfl ((v8 us_Is f9 rfl ea12 rfl g rfl om).yd) (Ey rfl (g9 f9 rfl (eh12 _) rfl) (Est rfl (l0 G0 rfl rfl rfl dc tv) (fun _ _ => (Ent.b (fun q14 => ?_) (fun q14 => ?_)))))
  ·refine Ey rfl ((Y.not (b := true) rfl).yd) (Eu (o0 rfl (i7 (s9 (Et (Ez Z3 (Em rfl (Ey rfl ((Y.add rfl rfl om om).yd) (Ei rfl ?_)))))))))
   exact Eu (x6 br (g + 1) ⟨rfl, rfl, trivial⟩ (.refl _) ⟨by omega, W2 om pa (by simp [q14])⟩ om)
  ·refine Ey rfl ((Y.not (b := false) rfl).yd) (Eu (n8 rfl (Ew Z1 (Ei rfl ?_))))
   exact Eu (E.ret (y8 (n0 (n0 (y8 (n0 (Fb rfl rfl (by first | (have := a5y (k := g) (s := s) (p := fun x => !inR x 1 3) om (by simpa using q14); rw [Q6, this]; simp) | (have := a4j om pa; rw [Q6, this]; simp)))))))))
 ·refine Eu (o0 rfl (E.exit (q1 (q1 (y4 (Et (Ew Z4 (Em rfl (Ey rfl ((Y.len us_Is rfl).yd) (Est rfl (l0 G0 rfl rfl rfl dc tv) (fun _ _ => (Ei rfl ?_))))))))))))
  exact Eu (E.ret (Fb rfl rfl (by first | (have := a5y (k := g) (s := s) (p := fun x => !inR x 1 3) om (by simpa using q14); rw [Q6, this]; simp) | (have := a4j om pa; rw [Q6, this]; simp))))
theorem a2u {rel : Int} : Tr Tryz.prog 229 [.slice a_s m_s c_s, .int .i64 rel] (fun w L => Ro w L eIs [.slice a_s m_s c_s] s) [] (κ := Unit) (fun k => True) (fun k => .bool (N6 s rel)) (fun k => []) := by
 refine Tr.intro Tryz.func229 rfl (n := 14) rfl (by decide +kernel) bl (fr := [(0, .slice a_s m_s c_s), (1, .int .i64 rel)]) rfl fun w L hR => ?_
 have hs := hR
 obtain ⟨rfl, ls⟩ := hs.slen
 refine Ew Z1 (Ei rfl (Ev Z10 (Em rfl (Est rfl (l0 a1O rfl rfl rfl dc (fun w Lp hA => hA.ro hs)) (fun _ _ => (Ent.b (fun q6 => ?_) (fun q6 => ?_)))))))
 ·refine Em rfl (Em rfl (Em rfl (Ey rfl ((Y.len us_Is rfl).yd) (Ey rfl ((Y.sub rfl rfl om om).yd) (Est rfl (l0 M8 rfl rfl rfl dc tv) (fun _ _ => (Ey rfl ((t8 rfl rfl).yd) (Ei rfl ?_))))))))
  exact Eu (E.ret (Fb rfl rfl (by simp_all [N6])))
 ·refine Em rfl (Es rfl (Es rfl (Es rfl (Es rfl (Es rfl (Ey rfl ((t7 rfl rfl).yd) (Ei rfl ?_)))))))
  exact Eu (E.ret (Fb rfl rfl (by simp_all [N6])))
theorem a5v {i : Int} {b_arity : Nat} : Tr Tryz.prog 381 [.int .i64 i, .pointer (some ⟨b_arity, 0, none⟩)] (fun w L => (I64 i) ∧ RoPt w L b_arity [.int .i64 arity] ∧ -1000 ≤ arity ∧ arity ≤ 1000) [] (κ := Unit) (fun k => True) (fun k => .bool (!inR i 0 (arity - 1))) (fun k => []) := by
 refine Tr.intro Tryz.func381 rfl (n := 9) rfl (by decide +kernel) bl (fr := [(0, .int .i64 i), (1, .pointer (some ⟨b_arity, 0, none⟩))]) rfl fun w L hR => ?_
 obtain ⟨i6i, hb_arity, as0, as1⟩ := hR
 refine Ew Z1 (Ei rfl (Ev Z6 (Em rfl (Ey rfl (g9 f9 rfl (hb_arity.has) rfl) (Ey rfl ((Y.sub rfl rfl om om).yd) (Est rfl (l0 M8 rfl rfl rfl dc tv) (fun _ _ => (Ey rfl ((Y.not rfl).yd) (Ei rfl ?_)))))))))
 exact Eu (E.ret (Fb rfl rfl (by simp_all)))
theorem a6q {l : List Int} : Tr Tryz.prog 369 [.slice a_l m_l c_l, .int .i64 arity] (fun w L => Ro w L eIs [.slice a_l m_l c_l] l ∧ -1000 ≤ arity ∧ arity ≤ 1000) [] (κ := Unit) (fun k => True) (fun k => .bool (S0 l arity)) (fun k => []) := by
 refine Tr.intro Tryz.func369 rfl (n := 9) rfl (by decide +kernel) bl (fr := [(0, .slice a_l m_l c_l), (1, .int .i64 arity)]) rfl fun w L hR => ?_
 obtain ⟨hl, as0, as1⟩ := hR
 obtain ⟨rfl, ll⟩ := hl.slen
 refine Ew Z2 (Est rfl (N.box (cs := [_]) rfl dc rfl) (fun b3 _ => (Ei rfl (Ev Z5 (Em rfl (Ey rfl ((Y.fn (vs := [_]) rfl).yd) (Est rfl (l0 (a0H (f := (fun i => !inR i 0 (arity - 1))) (D_f := (fun _ => True)) (by intros; exact trivial)) rfl rfl rfl dc (fun w Lp hA => ⟨hA.ro hl, a4c (D := (fun _ => True)) (fun hd => a5v) (fun w' hk => ⟨(hA.pt m0).keep hk, (by first | assumption | omega), (by first | assumption | omega)⟩)⟩)) (fun _ _ => (Ey rfl ((Y.not rfl).yd) (Ei rfl ?_))))))))))
 exact Eu (E.ret (Fb rfl rfl (by simp [S0])))
theorem a6o : Tr Tryz.prog 330 [.slice a_s m_s c_s, .agg #[.int .i64 B0, .int .i64 F9, .slice K4 O3 K3]] (fun w L => Ro w L eIs [.slice a_s m_s c_s] s ∧ I64 B0 ∧ I64 F9 ∧ Ro w L eIs [.slice K4 O3 K3] C1) [] (κ := Unit) (fun k => True) (fun k => .bool (G3 s (B0, F9, C1))) (fun k => []) := by
 refine Tr.intro Tryz.func330 rfl (n := 36) rfl (by decide +kernel) bl (fr := [(0, .slice a_s m_s c_s), (1, .agg #[.int .i64 B0, .int .i64 F9, .slice K4 O3 K3])]) rfl fun w L hR => ?_
 obtain ⟨hs, a0p, a1x, S3⟩ := hR
 obtain ⟨rfl, ls⟩ := hs.slen
 obtain ⟨rfl, a4r⟩ := S3.slen
 refine Ew Z2 (Est rfl (N.box (cs := [_, _, _]) rfl dc rfl) (fun b3 _ => (Ei rfl (Eu (Eq_ (D.region (fun j => true) mixed (Dyp 0 rfl (i8 rfl) (Dyp 1 rfl (f5 fo_Rule_0 f9 dc rfl) (Dy 2 rfl (g9 f9 rfl (Hz m0 0 rfl) rfl) (t6 3 rfl rfl kr (fun _ => rfl) (l0 a2u rfl rfl rfl dc (fun w Lp hA => hA.ro hs)) (fun _ _ => (Ent.b (fun q8 => ?_) (fun q8 => ?_)))))))))))))
 ·obtain ⟨z1, z2, z5, z6⟩ := a0n q8
  rw [a4k om] at z5 z6
  refine Dyp 4 rfl (i8 rfl) (Dyp 5 rfl (i8 rfl) (Dyp 6 rfl (f5 fo_Rule_1 f9 dc rfl) (Dy 7 rfl (g9 f9 rfl (Hz m0 1 rfl) rfl) (t6 8 rfl rfl kr (fun _ => rfl) (l0 a2u rfl rfl rfl dc (fun w Lp hA => hA.ro hs)) (fun _ _ => (Ent.b (fun q13 => ?_) (fun q13 => ?_)))))))
  ·obtain ⟨z3, z4, _, _⟩ := a0n q13
   refine Dyp 9 rfl (t8 rfl rfl) (Dyp 10 rfl (i8 rfl) (Dyp 11 rfl (f5 fo_Rule_2 ty_Is dc rfl) (Dy 12 rfl (g9 ty_Is rfl (Hz m0 2 rfl) rfl) (Dyp 13 rfl (Y.len us_Is rfl) (Dyp 14 rfl (i8 rfl) (Dyp 15 rfl (f5 fo_Rule_1 f9 dc rfl) (Dy 16 rfl (g9 f9 rfl (Hz m0 1 rfl) rfl) ?_)))))))
   obtain ⟨eb22, eo22, ea22, ei22, eh22⟩ := hs.elemI F9.toNat om
   refine Dyp 17 rfl (v8 us_Is f9 rfl ea22 rfl F9.toNat om om) (Dy 18 rfl (g9 f9 rfl (eh22 _) rfl) (Dyp 19 rfl (Y.eql rfl rfl) (o3 (fun q24 => ?_) (fun q24 => ?_))))
   ·refine Dyp 20 rfl (t8 rfl rfl) (Dyp 21 rfl (i8 rfl) (Dyp 22 rfl (f5 fo_Rule_2 ty_Is dc rfl) (Dy 23 rfl (g9 ty_Is rfl (Hz m0 2 rfl) rfl) (Dyp 24 rfl (i8 rfl) (Dyp 25 rfl (f5 fo_Rule_0 f9 dc rfl) (Dy 26 rfl (g9 f9 rfl (Hz m0 0 rfl) rfl) ?_))))))
    obtain ⟨eb32, eo32, ea32, ei32, eh32⟩ := hs.elemI B0.toNat om
    refine Dyp 27 rfl (v8 us_Is f9 rfl ea32 rfl B0.toNat om om) (Dy 28 rfl (g9 f9 rfl (eh32 _) rfl) (t6 29 rfl rfl kr (fun _ => rfl) (l0 a6q rfl rfl rfl dc (fun w Lp hA => ⟨hA.ro S3, (by first | assumption | omega), (by first | assumption | omega)⟩)) (fun _ _ => (Dyp 30 rfl (t8 rfl rfl) (Dyp 31 rfl (C2 rfl) ?_)))))
    exact r9 kr (Et (E.ret (Fb rfl rfl (by first | (simp [G3, q8]; done) | (simp [G3, q8, q13]; done) | (simp only [G3, q8, q13, G1 (show B0.toNat < s.length by omega), G1 (show F9.toNat < s.length by omega)]; simp [q24])))))
   ·refine Dyp 20 rfl (t8 rfl rfl) (Dyp 21 rfl (i8 rfl) (Dsk 22 rfl (Dsk 23 rfl (Dsk 24 rfl (Dsk 25 rfl (Dsk 26 rfl (Dsk 27 rfl (Dsk 28 rfl (Dsk 29 rfl (Dyp 30 rfl (t7 rfl rfl) (Dyp 31 rfl (C2 rfl) ?_)))))))))))
    exact r9 kr (Et (E.ret (Fb rfl rfl (by first | (simp [G3, q8]; done) | (simp [G3, q8, q13]; done) | (simp only [G3, q8, q13, G1 (show B0.toNat < s.length by omega), G1 (show F9.toNat < s.length by omega)]; simp [q24])))))
  ·refine Dyp 9 rfl (t8 rfl rfl) (Dyp 10 rfl (i8 rfl) (Dsk 11 rfl (Dsk 12 rfl (Dsk 13 rfl (Dsk 14 rfl (Dsk 15 rfl (Dsk 16 rfl (Dsk 17 rfl (Dsk 18 rfl (Dsk 19 rfl (Dyp 20 rfl (t7 rfl rfl) (Dyp 21 rfl (i8 rfl) (Dsk 22 rfl (Dsk 23 rfl (Dsk 24 rfl (Dsk 25 rfl (Dsk 26 rfl (Dsk 27 rfl (Dsk 28 rfl (Dsk 29 rfl (Dyp 30 rfl (t7 rfl rfl) (Dyp 31 rfl (C2 rfl) ?_))))))))))))))))))))))
   exact r9 kr (Et (E.ret (Fb rfl rfl (by first | (simp [G3, q8]; done) | (simp [G3, q8, q13]; done) | (simp only [G3, q8, q13, G1 (show B0.toNat < s.length by omega), G1 (show F9.toNat < s.length by omega)]; simp [q24])))))
 ·refine Dyp 4 rfl (i8 rfl) (Dsk 5 rfl (Dsk 6 rfl (Dsk 7 rfl (Dsk 8 rfl (Dyp 9 rfl (t7 rfl rfl) (Dyp 10 rfl (i8 rfl) (Dsk 11 rfl (Dsk 12 rfl (Dsk 13 rfl (Dsk 14 rfl (Dsk 15 rfl (Dsk 16 rfl (Dsk 17 rfl (Dsk 18 rfl (Dsk 19 rfl (Dyp 20 rfl (t7 rfl rfl) (Dyp 21 rfl (i8 rfl) (Dsk 22 rfl (Dsk 23 rfl (Dsk 24 rfl (Dsk 25 rfl (Dsk 26 rfl (Dsk 27 rfl (Dsk 28 rfl (Dsk 29 rfl (Dyp 30 rfl (t7 rfl rfl) (Dyp 31 rfl (C2 rfl) ?_)))))))))))))))))))))))))))
  exact r9 kr (Et (E.ret (Fb rfl rfl (by first | (simp [G3, q8]; done) | (simp [G3, q8, q13]; done) | (simp only [G3, q8, q13, G1 (show B0.toNat < s.length by omega), G1 (show F9.toNat < s.length by omega)]; simp [q24])))))
theorem b0w : Tr Tryz.prog 276 [.slice a_s m_s c_s, .agg #[.int .i64 B0, .int .i64 F9, .slice K4 O3 K3]] (fun w L => Ro w L eIs [.slice a_s m_s c_s] s ∧ I64 B0 ∧ I64 F9 ∧ Ro w L eIs [.slice K4 O3 K3] C1) [] (κ := Unit) (fun k => True) (fun k => .bool (G3 s (B0, F9, C1))) (fun k => []) := by
 refine Tr.intro Tryz.func276 rfl (n := 58) rfl (by decide +kernel) bl (fr := [(0, .slice a_s m_s c_s), (1, .agg #[.int .i64 B0, .int .i64 F9, .slice K4 O3 K3])]) rfl fun w L hR => ?_
 obtain ⟨hs, a0p, a1x, S3⟩ := hR
 obtain ⟨rfl, ls⟩ := hs.slen
 obtain ⟨rfl, a4r⟩ := S3.slen
 refine Ew Z2 (Est rfl (N.box (cs := [_, _, _]) rfl dc rfl) (fun b3 _ => (Ei rfl (Eu (Eq_ (Eq_ (D.region (fun j => true) mixed (Dyp 0 rfl (i8 rfl) (t6 1 rfl rfl kr (fun _ => rfl) (l0 M9 rfl rfl rfl dc (fun w Lp hA => hA.ro hs)) (fun _ _ => (Ent.b (fun q7 => ?_) (fun q7 => ?_))))))))))))
 ·refine Dyp 2 rfl (Y.not (b := true) rfl) (Dyp 3 rfl (i8 rfl) (Dyp 4 rfl (f5 fo_Rule_0 f9 dc rfl) (Dy 5 rfl (g9 f9 rfl (Hz m0 0 rfl) rfl) (Dyp 6 rfl (i8 rfl) (Dyp 7 rfl (Y.len us_Is rfl) (Dyp 8 rfl (Y.sub rfl rfl om om) (t6 9 rfl rfl kr (fun _ => rfl) (l0 G0 rfl rfl rfl dc tv) (fun _ _ => (Ent.b (fun q15 => ?_) (fun q15 => ?_))))))))))
  ·have y1 : N6 s B0 = true := by rw [N6, q7, q15]; rfl
   obtain ⟨z1, z2, z5, z6⟩ := a0n y1
   rw [a4k om] at z5 z6
   refine Dyp 10 rfl (Y.not (b := true) rfl) (Dyp 11 rfl (t7 rfl rfl) (Dyp 12 rfl (i8 rfl) (Dyp 13 rfl (f5 fo_Rule_1 f9 dc rfl) (Dy 14 rfl (g9 f9 rfl (Hz m0 1 rfl) rfl) (Dyp 15 rfl (i8 rfl) (Dyp 16 rfl (Y.len us_Is rfl) (Dyp 17 rfl (Y.sub rfl rfl om om) (t6 18 rfl rfl kr (fun _ => rfl) (l0 G0 rfl rfl rfl dc tv) (fun _ _ => (Ent.b (fun q24 => ?_) (fun q24 => ?_)))))))))))
   ·have y2 : N6 s F9 = true := by rw [N6, q7, q24]; rfl
    obtain ⟨z3, z4, _, _⟩ := a0n y2
    refine Dyp 19 rfl (Y.not (b := true) rfl) (Dyp 20 rfl (t7 rfl rfl) (Dyp 21 rfl (i8 rfl) (Dyp 22 rfl (f5 fo_Rule_2 ty_Is dc rfl) (Dy 23 rfl (g9 ty_Is rfl (Hz m0 2 rfl) rfl) (Dyp 24 rfl (Y.len us_Is rfl) (Dyp 25 rfl (i8 rfl) (Dyp 26 rfl (f5 fo_Rule_1 f9 dc rfl) (Dy 27 rfl (g9 f9 rfl (Hz m0 1 rfl) rfl) ?_))))))))
    obtain ⟨eb34, eo34, ea34, ei34, eh34⟩ := hs.elemI F9.toNat om
    refine Dyp 28 rfl (v8 us_Is f9 rfl ea34 rfl F9.toNat om om) (Dy 29 rfl (g9 f9 rfl (eh34 _) rfl) (Dyp 30 rfl (Y.neq rfl rfl) (o3 (fun q36 => ?_) (fun q36 => ?_))))
    ·refine Dyp 31 rfl (t7 rfl rfl) (r9 kr (Et (n8 rfl (Ew Z1 (Ei rfl ?_)))))
     exact Eu (E.ret (n0 (Fb rfl rfl (by exact b3y (G1 (i := F9) (show F9.toNat < s.length by omega)) q36))))
    ·refine Dyp 31 rfl (t7 rfl rfl) (r9 kr (Et (o0 rfl (i7 (Et (Eq_ (Ew Z1 (Ei rfl (Eu (E.block (E.loop (κ := Nat) (fun g => g ≤ C1.length ∧ ∀ x ∈ C1.take g, (!inR x 0 (s[B0.toNat] - 1)) = false) (fun g => [(0, .slice a_s s.length c_s), (3, .pointer (some ⟨b3, 0, none⟩)), (5, .int .i64 (g : Int))]) (fun g => [pt b3 268 [.int .i64 B0, .int .i64 F9, .slice K4 C1.length K3]]) (fun g => C1.length - g) 0 ⟨by omega, by simp⟩ ⟨rfl, rfl, rfl, trivial⟩ (.refl _) (fun g pg => ?_))))))))))))
     obtain ⟨pk, pa⟩ := pg
     refine Eq_ (Ew Z5 (Em rfl (Ey rfl ((f5 fo_Rule_2 ty_Is dc rfl).yd) (Ey rfl (g9 ty_Is rfl (Hz m0 2 rfl) rfl) (Ey rfl ((Y.len us_Is rfl).yd) (Ey rfl ((Y.lss rfl rfl).yd) (o3 (fun q42 => ?_) (fun q42 => ?_))))))))
     ·refine Eu (n8 rfl (i7 (Et (Eq_ (E.block (Eq_ (D.region (fun j => true) mixed (Dyp 0 rfl (f5 fo_Rule_2 ty_Is dc rfl) (Dy 1 rfl (g9 ty_Is rfl (Hz m0 2 rfl) rfl) (Dyp 2 rfl (i8 rfl) ?_))))))))))
      obtain ⟨eb48, eo48, ea48, ei48, eh48⟩ := S3.elemI g om
      refine Dyp 3 rfl (v8 us_Is f9 rfl ea48 rfl g rfl om) (Dy 4 rfl (g9 f9 rfl (eh48 _) rfl) (Dyp 5 rfl (i8 rfl) (Dyp 6 rfl (f5 fo_Rule_0 f9 dc rfl) (Dy 7 rfl (g9 f9 rfl (Hz m0 0 rfl) rfl) ?_))))
      obtain ⟨eb53, eo53, ea53, ei53, eh53⟩ := hs.elemI B0.toNat om
      refine Dyp 8 rfl (v8 us_Is f9 rfl ea53 rfl B0.toNat om om) (Dy 9 rfl (g9 f9 rfl (eh53 _) rfl) (Dyp 10 rfl (Y.sub rfl rfl om om) (t6 11 rfl rfl kr (fun _ => rfl) (l0 G0 rfl rfl rfl dc tv) (fun _ _ => (Ent.b (fun q56 => ?_) (fun q56 => ?_))))))
      ·refine Dyp 12 rfl (Y.not (b := true) rfl) (r9 kr (Et (o0 rfl (i7 (s9 (Et (Ez Z3 (Em rfl (Ey rfl ((Y.add rfl rfl om om).yd) (Ei rfl ?_))))))))))
       exact Eu (x6 br (g + 1) rs (.refl _) ⟨by omega, W2 om pa (by rw [q56]; rfl)⟩ om)
      ·refine Dyp 12 rfl (Y.not (b := false) rfl) (r9 kr (Et (n8 rfl (Ew Z1 (Ei rfl ?_)))))
       exact Eu (E.ret (y8 (n0 (n0 (y8 (n0 (Fb rfl rfl (by exact b2V (G1 (i := B0) (show B0.toNat < s.length by omega)) (by rw [S0, a5y (k := g) (show g < C1.length by omega) (by rw [q56]; rfl)]; rfl)))))))))
     ·refine Eu (o0 rfl (E.exit (q1 (q1 (y4 (Et (Ew Z1 (Ei rfl ?_))))))))
      exact Eu (E.ret (Fb rfl rfl (by exact b2R y1 y2 (G1 (i := B0) (show B0.toNat < s.length by omega)) (G1 (i := F9) (show F9.toNat < s.length by omega)) (show (C1.length : Int) = s[F9.toNat] by omega) (by rw [S0, a4j (show ¬ g < C1.length by omega) pa]; rfl))))
   ·refine Dyp 19 rfl (Y.not (b := false) rfl) (Dyp 20 rfl (t7 rfl rfl) (Dyp 21 rfl (i8 rfl) (Dsk 22 rfl (Dsk 23 rfl (Dsk 24 rfl (Dsk 25 rfl (Dsk 26 rfl (Dsk 27 rfl (Dsk 28 rfl (Dsk 29 rfl (Dsk 30 rfl (Dyp 31 rfl (t8 rfl rfl) (r9 kr (Et (n8 rfl (Ew Z1 (Ei rfl ?_)))))))))))))))))
    exact Eu (E.ret (n0 (Fb rfl rfl (by exact b2Y (a7M q24)))))
  ·refine Dyp 10 rfl (Y.not (b := false) rfl) (Dyp 11 rfl (t7 rfl rfl) (Dyp 12 rfl (i8 rfl) (Dsk 13 rfl (Dsk 14 rfl (Dsk 15 rfl (Dsk 16 rfl (Dsk 17 rfl (Dsk 18 rfl (Dsk 19 rfl (Dyp 20 rfl (t8 rfl rfl) (Dyp 21 rfl (i8 rfl) (Dsk 22 rfl (Dsk 23 rfl (Dsk 24 rfl (Dsk 25 rfl (Dsk 26 rfl (Dsk 27 rfl (Dsk 28 rfl (Dsk 29 rfl (Dsk 30 rfl (Dyp 31 rfl (t8 rfl rfl) (r9 kr (Et (n8 rfl (Ew Z1 (Ei rfl ?_))))))))))))))))))))))))))
   exact Eu (E.ret (n0 (Fb rfl rfl (by exact a8W (a7M q15)))))
 ·refine Dyp 2 rfl (Y.not (b := false) rfl) (Dyp 3 rfl (i8 rfl) (Dsk 4 rfl (Dsk 5 rfl (Dsk 6 rfl (Dsk 7 rfl (Dsk 8 rfl (Dsk 9 rfl (Dsk 10 rfl (Dyp 11 rfl (t8 rfl rfl) (Dyp 12 rfl (i8 rfl) (Dsk 13 rfl (Dsk 14 rfl (Dsk 15 rfl (Dsk 16 rfl (Dsk 17 rfl (Dsk 18 rfl (Dsk 19 rfl (Dyp 20 rfl (t8 rfl rfl) (Dyp 21 rfl (i8 rfl) (Dsk 22 rfl (Dsk 23 rfl (Dsk 24 rfl (Dsk 25 rfl (Dsk 26 rfl (Dsk 27 rfl (Dsk 28 rfl (Dsk 29 rfl (Dsk 30 rfl (Dyp 31 rfl (t8 rfl rfl) (r9 kr (Et (n8 rfl (Ew Z1 (Ei rfl ?_))))))))))))))))))))))))))))))))))
  exact Eu (E.ret (n0 (Fb rfl rfl (by exact a8W (b0b q7)))))
theorem a7y {b_s : Nat} : Tr Tryz.prog 329 [.agg #[.int .i64 B0, .int .i64 F9, .slice K4 O3 K3], .pointer (some ⟨b_s, 0, none⟩)] (fun w L => (I64 B0 ∧ I64 F9 ∧ Ro w L eIs [.slice K4 O3 K3] C1) ∧ RoPt w L b_s [.slice a_s m_s c_s] ∧ Ro w L eIs [.slice a_s m_s c_s] s) [] (κ := Unit) (fun k => True) (fun k => .bool (!G3 s (B0, F9, C1))) (fun k => []) := by
 refine Tr.intro Tryz.func329 rfl (n := 8) rfl (by decide +kernel) bl (fr := [(0, .agg #[.int .i64 B0, .int .i64 F9, .slice K4 O3 K3]), (1, .pointer (some ⟨b_s, 0, none⟩))]) rfl fun w L hR => ?_
 obtain ⟨⟨a0p, a1x, S3⟩, hb_s, hs⟩ := hR
 obtain ⟨rfl, a4r⟩ := S3.slen
 obtain ⟨rfl, ls⟩ := hs.slen
 refine Ew Z2 (Est rfl (N.box (cs := [_, _, _]) rfl dc rfl) (fun b2 _ => (Ei rfl (Ev Z5 (Ey rfl (g9 ty_Is rfl (hb_s.has) rfl) (Ey rfl (o6 (cs := [_, _, _]) ty_Rule rfl (Has.pt m0) rfl) (Est rfl (l0 a6o rfl rfl rfl dc (fun w Lp hA => ⟨hA.ro hs, a0p, a1x, hA.ro S3⟩)) (fun _ _ => (Ey rfl ((Y.not rfl).yd) (Ei rfl ?_))))))))))
 exact Eu (E.ret (Fb rfl rfl (by simp_all)))
theorem a8T : Tr Tryz.prog 261 [.slice a_s m_s c_s, .slice a_l m_l c_l] (fun w L => Ro w L eIs [.slice a_s m_s c_s] s ∧ Ro w L J9 [.slice a_l m_l c_l] l) [] (κ := Unit) (fun k => True) (fun k => .bool (B7 s l)) (fun k => []) := by
 refine Tr.intro Tryz.func261 rfl (n := 18) rfl (by decide +kernel) bl (fr := [(0, .slice a_s m_s c_s), (1, .slice a_l m_l c_l)]) rfl fun w L hR => ?_
 obtain ⟨hs, hl⟩ := hR
 obtain ⟨rfl, ls⟩ := hs.slen
 obtain ⟨rfl, ll⟩ := hl.slen
 refine Ew Z2 (Est rfl (N.box (cs := [_]) rfl dc rfl) (fun b2 _ => (Ei rfl (Ev Z14 (Ey rfl (g9 ty_Is rfl (Has.pt m0) rfl) (Est rfl (l0 a1O rfl rfl rfl dc (fun w Lp hA => hA.ro hs)) (fun _ _ => (Ent.b (fun q6 => ?_) (fun q6 => ?_)))))))))
 ·refine Em rfl (Em rfl (Ey rfl ((Y.len us_Rules rfl).yd) (Ey rfl ((Y.leq rfl rfl).yd) (o3 (fun q10 => ?_) (fun q10 => ?_)))))
  ·refine Ey rfl ((t8 rfl rfl).yd) (Em rfl (Em rfl (Ey rfl ((Y.fn (vs := [_]) rfl).yd) (Est rfl (l0 (a6s (f := (fun z => !G3 s z)) (D_f := (fun _ => True)) (by intros; exact trivial)) rfl rfl rfl dc (fun w Lp hA => ⟨hA.ro hl, a9a (D := (fun _ => True)) (fun hd => a7y) (fun w' hk => ⟨(hA.pt m0).keep hk, (hA.ro hs).keep hk⟩)⟩)) (fun _ _ => (Ey rfl ((Y.not rfl).yd) (Ey rfl ((t8 rfl rfl).yd) (Ei rfl ?_))))))))
   exact Eu (E.ret (Fb rfl rfl (by rw [B7, q6, decide_eq_true (show (l.length : Int) ≤ 4 by omega)]; rfl)))
  ·refine Ey rfl ((t8 rfl rfl).yd) (Em rfl (Es rfl (Es rfl (Es rfl (Es rfl (Ey rfl ((t7 rfl rfl).yd) (Ei rfl ?_)))))))
   exact Eu (E.ret (Fb rfl rfl (by rw [B7, decide_eq_false (show ¬ (l.length : Int) ≤ 4 by omega)]; simp)))
 ·refine Em rfl (Es rfl (Es rfl (Es rfl (Ey rfl ((t7 rfl rfl).yd) (Em rfl (Es rfl (Es rfl (Es rfl (Es rfl (Ey rfl ((t7 rfl rfl).yd) (Ei rfl ?_)))))))))))
  exact Eu (E.ret (Fb rfl rfl (by rw [B7, q6]; rfl)))
theorem a2W : Tr Tryz.prog 171 [.slice a_s m_s c_s, .slice a_l m_l c_l] (fun w L => Ro w L eIs [.slice a_s m_s c_s] s ∧ Ro w L J9 [.slice a_l m_l c_l] l) [] (κ := Unit) (fun k => True) (fun k => .bool (B7 s l)) (fun k => []) := by
 refine Tr.intro Tryz.func171 rfl (n := 26) rfl (by decide +kernel) bl (fr := [(0, .slice a_s m_s c_s), (1, .slice a_l m_l c_l)]) rfl fun w L hR => ?_
 obtain ⟨hs, hl⟩ := hR
 obtain ⟨rfl, ls⟩ := hs.slen
 obtain ⟨rfl, ll⟩ := hl.slen
 refine Ew Z1 (Ei rfl (Eu (Eq_ (Ew Z1 (Ei rfl (Eu (E.block (E.loop (κ := Nat) (fun g => g ≤ l.length ∧ ∀ x ∈ l.take g, (!G3 s x) = false) (fun g => [(0, .slice a_s s.length c_s), (1, .slice a_l l.length c_l), (5, .int .i64 (g : Int))]) (fun g => []) (fun g => l.length - g) 0 ⟨by omega, by simp⟩ ⟨rfl, rfl, rfl, trivial⟩ (.refl _) (fun g pg => ?_)))))))))
 obtain ⟨pk, pa⟩ := pg
 refine Eq_ (Ew Z4 (Em rfl (Em rfl (Ey rfl ((Y.len us_Rules rfl).yd) (Ey rfl ((Y.lss rfl rfl).yd) (o3 (fun q9 => ?_) (fun q9 => ?_)))))))
 ·refine Eu (n8 rfl (i7 (Et (Eq_ (E.block (Ew Z7 (Em rfl (Em rfl (Em rfl ?_)))))))))
  obtain ⟨eb15, eo15, ec15, ea15, er15, el15, eh15⟩ := hl.elem g om
  obtain ⟨xa15_0, xc15_0, rfl, ei15_0, ei15_1, xh15_0⟩ := a2c er15
  have := xh15_0.slen.2
  refine Ey rfl ((v8 us_Rules ty_Rule rfl ea15 rfl g rfl om).yd) (Ey rfl (o6 (cs := [_, _, _]) ty_Rule rfl (eh15 _) rfl) (Est rfl (l0 b0w rfl rfl rfl dc (fun w Lp hA => ⟨hA.ro hs, ei15_0, ei15_1, hA.ro xh15_0⟩)) (fun _ _ => (Ent.b (fun q17 => ?_) (fun q17 => ?_)))))
  ·refine Ey rfl ((Y.not (b := true) rfl).yd) (Eu (o0 rfl (i7 (s9 (Et (Ez Z3 (Em rfl (Ey rfl ((Y.add rfl rfl om om).yd) (Ei rfl ?_)))))))))
   exact Eu (x6 br (g + 1) rs (.refl _) ⟨by omega, W2 om pa (by rw [show G3 s l[g] = true from q17]; rfl)⟩ om)
  ·refine Ey rfl ((Y.not (b := false) rfl).yd) (Eu (n8 rfl (Ew Z1 (Ei rfl ?_))))
   exact Eu (E.ret (y8 (n0 (n0 (y8 (n0 (Fb rfl rfl (by rw [B7, a5y (p := fun r => !G3 s r) (show g < l.length by omega) (by rw [show G3 s l[g] = false from q17]; rfl)]; simp))))))))
 ·refine Eu (o0 rfl (E.exit (q1 (q1 (y4 (Et (Ew Z8 (Em rfl (Est rfl (l0 M9 rfl rfl rfl dc (fun w Lp hA => hA.ro hs)) (fun _ _ => (Ent.b (fun q20 => ?_) (fun q20 => ?_))))))))))))
  ·refine Em rfl (Em rfl (Ey rfl ((Y.len us_Rules rfl).yd) (Ey rfl ((Y.leq rfl rfl).yd) (Ey rfl ((t8 rfl rfl).yd) (Ei rfl ?_)))))
   exact Eu (E.ret (Fb rfl rfl (by rw [B7, q20, a4j (p := fun r => !G3 s r) (show ¬ g < l.length by omega) pa]; simp)))
  ·refine Em rfl (Es rfl (Es rfl (Es rfl (Ey rfl ((t7 rfl rfl).yd) (Ei rfl ?_)))))
   exact Eu (E.ret (Fb rfl rfl (by rw [B7, q20]; rfl)))
end Go.Proofs.YthapcdhdfaibkaaGreatDoor
