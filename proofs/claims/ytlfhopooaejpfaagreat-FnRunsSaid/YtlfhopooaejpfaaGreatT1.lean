import Derived.Test.YtlfhopooaejpfaaGreatBs
namespace Go.Proofs.YtlfhopooaejpfaaGreat
open Go.RowKit
set_option linter.all false
set_option maxHeartbeats 2000000
attribute [local irreducible] Nop Yd Yp Ent Has Tr FnP FnP2 Src
variable {f_g : FuncId} {low high n : Int} {s : List (Int × List Int)} {f_c : List Value} {m_s c_s : Nat} {a_s : Option Addr}
theorem F9 {x : Int} : Tr Tryz.prog 60 [.int .i64 x, .int .i64 low, .int .i64 high] (fun w L => True) [] (κ := Unit) (fun k => True) (fun k => .bool (inR x low high)) (fun k => []) := by
 refine Tr.intro Tryz.func60 rfl (n := 15) rfl (by decide +kernel) bl (fr := [(0, .int .i64 x), (1, .int .i64 low), (2, .int .i64 high)]) rfl fun w L hR => (Ew Z1 (Ei rfl (Ev Z9 (Em rfl (Em rfl (Ey rfl ((Y.geq rfl rfl).yd) (n0 (fun q9 => ?_) (fun q9 => ?_))))))))
 ·refine Em rfl (Em rfl (Em rfl (Ey rfl ((Y.leq rfl rfl).yd) (Ey rfl ((s6 rfl rfl).yd) (Ei rfl ?_)))))
  exact Eu (E.ret (Fb rfl rfl (by simp_all [inR]; try omega)))
 ·refine Em rfl (Es rfl (Es rfl (Es rfl (Ey rfl ((r9 rfl rfl).yd) (Ei rfl ?_)))))
  exact Eu (E.ret (Fb rfl rfl (by simp_all [inR]; try omega)))
theorem I1 : Tr Tryz.prog 70 [.int .i64 n, .int .i64 low, .int .i64 high] (fun w L => True) [] (κ := Unit) (fun k => True) (fun k => .bool (inR n low high)) (fun k => []) := by
 refine Tr.intro Tryz.func70 rfl (n := 15) rfl (by decide +kernel) bl (fr := [(0, .int .i64 n), (1, .int .i64 low), (2, .int .i64 high)]) rfl fun w L hR => (Ew Z1 (Ei rfl (Ev Z9 (Em rfl (Em rfl (Ey rfl ((Y.geq rfl rfl).yd) (n0 (fun q9 => ?_) (fun q9 => ?_))))))))
 ·refine Em rfl (Em rfl (Em rfl (Ey rfl ((Y.leq rfl rfl).yd) (Ey rfl ((s6 rfl rfl).yd) (Ei rfl ?_)))))
  exact Eu (E.ret (Fb rfl rfl (by simp_all [inR]; try omega)))
 ·refine Em rfl (Es rfl (Es rfl (Es rfl (Ey rfl ((r9 rfl rfl).yd) (Ei rfl ?_)))))
  exact Eu (E.ret (Fb rfl rfl (by simp_all [inR]; try omega)))
theorem a8S {s : List Int} {D_f : Int → Prop} {f : Int → Bool} (hD_f : ∀ x ∈ s, D_f x) : Tr Tryz.prog 222 [.slice a_s m_s c_s, .func (.func f_g) #[] f_c.toArray] (fun w L => Ro w L eIs [.slice a_s m_s c_s] s ∧ FnP Tryz.prog w L f_g f_c Enc.int a5d D_f f) [] (κ := Unit) (fun k => True) (fun k => .int .i64 (H3 f s)) (fun k => []) := by
 refine Tr.intro Tryz.func222 rfl (n := 19) rfl (by decide +kernel) bl (fr := [(0, .slice a_s m_s c_s), (1, .func (.func f_g) #[] f_c.toArray)]) rfl fun w L hR => ?_
 obtain ⟨hs, hf⟩ := hR
 obtain ⟨rfl, ls⟩ := hs.slen
 refine Ew Z1 (Ei rfl (Eu (Eq_ (Ew Z3 (Em rfl (Ey rfl ((Y.len us_Is rfl).yd) (Em rfl (Eu (E.block (E.loop (κ := Nat) (fun g => g ≤ s.length ∧ ∀ x ∈ s.take g, f x = false) (fun g => [(0, .slice a_s s.length c_s), (1, .func (.func f_g) #[] f_c.toArray), (7, .int .i64 (↑s.length : Int)), (8, .int .i64 (g : Int))]) (fun g => []) (fun g => s.length - g) 0 ⟨by omega, by simp⟩ ⟨rfl, rfl, rfl, rfl, trivial⟩ (.refl _) (fun g pg => ?_)))))))))))
 obtain ⟨pk, pa⟩ := pg
 refine Ew Z1 (Ey rfl ((Y.lss rfl rfl).yd) (n0 (fun q9 => ?_) (fun q9 => ?_)))
 ·refine Eu (Eq_ (l4 rfl (i8 (Et (Eq_ (E.block (Ew Z2 (Em rfl (Ei rfl (Ev Z6 (Em rfl (Em rfl (Em rfl ?_)))))))))))))
  obtain ⟨eb14, eo14, ea14, ei14, eh14⟩ := hs.elemI g om
  refine Ey rfl ((o6 us_Is f0 rfl ea14 rfl g rfl om).yd) (Ey rfl (f8 f0 rfl (eh14 _) rfl) (Est rfl (N.fn (cs := [_]) hf rfl rfl rfl dc (fun w Lp hA => W2 ei14) (hD_f _ (List.getElem_mem om))) (fun _ _ => (Ent.b (fun q16 => ?_) (fun q16 => ?_)))))
  ·refine Eu (l4 rfl (Ew Z2 (Em rfl (Ei rfl ?_))))
   exact Eu (E.ret (t7 (l0 (l0 (t7 (l0 (Fg rfl rfl () (congrArg (Value.int .i64) (by first | exact M6 om pa q16 | exact K5 om pa)) rfl)))))))
  ·refine Eu (l6 rfl (i8 (o4 (Et (Ez Z2 (Ey rfl ((Y.add rfl rfl om om).yd) (Em rfl ?_)))))))
   exact Eu (u9 br (g + 1) rs (.refl _) ⟨by omega, Q4 om pa q16⟩ om)
 ·refine Eu (Eq_ (l6 rfl (E.exit (n8 (n8 (w5 (Et (Ew Z1 (Ei rfl ?_)))))))))
  exact Eu (E.ret (Fg rfl rfl () (congrArg (Value.int .i64) (by first | exact M6 om pa q16 | exact K5 om pa)) rfl))
theorem S6 {s : List Int} {D_f : Int → Prop} {f : Int → Bool} (hD_f : ∀ x ∈ s, D_f x) : Tr Tryz.prog 174 [.slice a_s m_s c_s, .func (.func f_g) #[] f_c.toArray] (fun w L => Ro w L eIs [.slice a_s m_s c_s] s ∧ FnP Tryz.prog w L f_g f_c Enc.int a5d D_f f) [] (κ := Unit) (fun k => True) (fun k => .bool (s.any f)) (fun k => []) := by
 refine Tr.intro Tryz.func174 rfl (n := 9) rfl (by decide +kernel) bl (fr := [(0, .slice a_s m_s c_s), (1, .func (.func f_g) #[] f_c.toArray)]) rfl fun w L hR => ?_
 obtain ⟨hs, hf⟩ := hR
 obtain ⟨rfl, ls⟩ := hs.slen
 refine Ew Z1 (Ei rfl (Ev Z5 (Em rfl (Em rfl (Est rfl (k6 (a8S (f := f) (D_f := D_f) hD_f) rfl rfl rfl dc (fun w Lp hA => ⟨hA.ro hs, hA.fn hf⟩)) (fun _ _ => (Ey rfl ((Y.geq rfl rfl).yd) (Ei rfl ?_))))))))
 exact Eu (E.ret (Fb rfl rfl (by exact V5)))
theorem a4L {D_f : (Int × List Int) → Prop} {f : (Int × List Int) → Bool} (hD_f : ∀ x ∈ s, D_f x) : Tr Tryz.prog 139 [.slice a_s m_s c_s, .func (.func f_g) #[] f_c.toArray] (fun w L => Ro w L B5 [.slice a_s m_s c_s] s ∧ FnP Tryz.prog w L f_g f_c O3 a0o D_f f) [] (κ := Unit) (fun k => True) (fun k => .int .i64 (H3 f s)) (fun k => []) := by
 refine Tr.intro Tryz.func139 rfl (n := 19) rfl (by decide +kernel) bl (fr := [(0, .slice a_s m_s c_s), (1, .func (.func f_g) #[] f_c.toArray)]) rfl fun w L hR => ?_
 obtain ⟨hs, hf⟩ := hR
 obtain ⟨rfl, ls⟩ := hs.slen
 refine Ew Z1 (Ei rfl (Eu (Eq_ (Ew Z3 (Em rfl (Ey rfl ((Y.len us_Accesss rfl).yd) (Em rfl (Eu (E.block (E.loop (κ := Nat) (fun g => g ≤ s.length ∧ ∀ x ∈ s.take g, f x = false) (fun g => [(0, .slice a_s s.length c_s), (1, .func (.func f_g) #[] f_c.toArray), (7, .int .i64 (↑s.length : Int)), (8, .int .i64 (g : Int))]) (fun g => []) (fun g => s.length - g) 0 ⟨by omega, by simp⟩ ⟨rfl, rfl, rfl, rfl, trivial⟩ (.refl _) (fun g pg => ?_)))))))))))
 obtain ⟨pk, pa⟩ := pg
 refine Ew Z1 (Ey rfl ((Y.lss rfl rfl).yd) (n0 (fun q9 => ?_) (fun q9 => ?_)))
 ·refine Eu (Eq_ (l4 rfl (i8 (Et (Eq_ (E.block (Ew Z2 (Em rfl (Ei rfl (Ev Z6 (Em rfl (Em rfl (Em rfl ?_)))))))))))))
  obtain ⟨eb14, eo14, ec14, ea14, er14, el14, eh14⟩ := hs.elem g om
  obtain ⟨xa14_0, xc14_0, rfl, ei14_0, xh14_0⟩ := N0 er14
  have := xh14_0.slen.2
  refine Ey rfl ((o6 us_Accesss ty_Access rfl ea14 rfl g rfl om).yd) (Ey rfl (o0 (cs := [_, _]) ty_Access rfl (eh14 _) rfl) (Est rfl (N.fn (cs := [_, _]) hf rfl rfl rfl dc (fun w Lp hA => b0L (x := s[g]) ei14_0 (hA.ro xh14_0)) (hD_f _ (List.getElem_mem om))) (fun _ _ => (Ent.b (fun q16 => ?_) (fun q16 => ?_)))))
  ·refine Eu (l4 rfl (Ew Z2 (Em rfl (Ei rfl ?_))))
   exact Eu (E.ret (t7 (l0 (l0 (t7 (l0 (Fg rfl rfl () (congrArg (Value.int .i64) (by first | exact M6 om pa q16 | exact K5 om pa)) rfl)))))))
  ·refine Eu (l6 rfl (i8 (o4 (Et (Ez Z2 (Ey rfl ((Y.add rfl rfl om om).yd) (Em rfl ?_)))))))
   exact Eu (u9 br (g + 1) rs (.refl _) ⟨by omega, Q4 om pa q16⟩ om)
 ·refine Eu (Eq_ (l6 rfl (E.exit (n8 (n8 (w5 (Et (Ew Z1 (Ei rfl ?_)))))))))
  exact Eu (E.ret (Fg rfl rfl () (congrArg (Value.int .i64) (by first | exact M6 om pa q16 | exact K5 om pa)) rfl))
theorem a1n {D_f : (Int × List Int) → Prop} {f : (Int × List Int) → Bool} (hD_f : ∀ x ∈ s, D_f x) : Tr Tryz.prog 75 [.slice a_s m_s c_s, .func (.func f_g) #[] f_c.toArray] (fun w L => Ro w L B5 [.slice a_s m_s c_s] s ∧ FnP Tryz.prog w L f_g f_c O3 a0o D_f f) [] (κ := Unit) (fun k => True) (fun k => .bool (s.any f)) (fun k => []) := by
 refine Tr.intro Tryz.func75 rfl (n := 9) rfl (by decide +kernel) bl (fr := [(0, .slice a_s m_s c_s), (1, .func (.func f_g) #[] f_c.toArray)]) rfl fun w L hR => ?_
 obtain ⟨hs, hf⟩ := hR
 obtain ⟨rfl, ls⟩ := hs.slen
 refine Ew Z1 (Ei rfl (Ev Z5 (Em rfl (Em rfl (Est rfl (k6 (a4L (f := f) (D_f := D_f) hD_f) rfl rfl rfl dc (fun w Lp hA => ⟨hA.ro hs, hA.fn hf⟩)) (fun _ _ => (Ey rfl ((Y.geq rfl rfl).yd) (Ei rfl ?_))))))))
 exact Eu (E.ret (Fb rfl rfl (by exact V5)))
theorem a4X {s : List (Int × List Int × Int × Int × Int)} {D_f : (Int × List Int × Int × Int × Int) → Prop} {f : (Int × List Int × Int × Int × Int) → Bool} (hD_f : ∀ x ∈ s, D_f x) : Tr Tryz.prog 236 [.slice a_s m_s c_s, .func (.func f_g) #[] f_c.toArray] (fun w L => Ro w L C8 [.slice a_s m_s c_s] s ∧ FnP Tryz.prog w L f_g f_c Z0 a0o D_f f) [] (κ := Unit) (fun k => True) (fun k => .int .i64 (H3 f s)) (fun k => []) := by
 refine Tr.intro Tryz.func236 rfl (n := 19) rfl (by decide +kernel) bl (fr := [(0, .slice a_s m_s c_s), (1, .func (.func f_g) #[] f_c.toArray)]) rfl fun w L hR => ?_
 obtain ⟨hs, hf⟩ := hR
 obtain ⟨rfl, ls⟩ := hs.slen
 refine Ew Z1 (Ei rfl (Eu (Eq_ (Ew Z3 (Em rfl (Ey rfl ((Y.len us_Methods rfl).yd) (Em rfl (Eu (E.block (E.loop (κ := Nat) (fun g => g ≤ s.length ∧ ∀ x ∈ s.take g, f x = false) (fun g => [(0, .slice a_s s.length c_s), (1, .func (.func f_g) #[] f_c.toArray), (7, .int .i64 (↑s.length : Int)), (8, .int .i64 (g : Int))]) (fun g => []) (fun g => s.length - g) 0 ⟨by omega, by simp⟩ ⟨rfl, rfl, rfl, rfl, trivial⟩ (.refl _) (fun g pg => ?_)))))))))))
 obtain ⟨pk, pa⟩ := pg
 refine Ew Z1 (Ey rfl ((Y.lss rfl rfl).yd) (n0 (fun q9 => ?_) (fun q9 => ?_)))
 ·refine Eu (Eq_ (l4 rfl (i8 (Et (Eq_ (E.block (Ew Z2 (Em rfl (Ei rfl (Ev Z6 (Em rfl (Em rfl (Em rfl ?_)))))))))))))
  obtain ⟨eb14, eo14, ec14, ea14, er14, el14, eh14⟩ := hs.elem g om
  obtain ⟨xa14_0, xc14_0, rfl, ei14_0, xh14_0, ei14_2, ei14_3, ei14_4⟩ := H9 er14
  have := xh14_0.slen.2
  refine Ey rfl ((o6 us_Methods ty_Method rfl ea14 rfl g rfl om).yd) (Ey rfl (o0 (cs := [_, _, _, _, _]) ty_Method rfl (eh14 _) rfl) (Est rfl (N.fn (cs := [_, _, _, _, _]) hf rfl rfl rfl dc (fun w Lp hA => b0M (x := s[g]) ei14_0 (hA.ro xh14_0) ei14_2 ei14_3 ei14_4) (hD_f _ (List.getElem_mem om))) (fun _ _ => (Ent.b (fun q16 => ?_) (fun q16 => ?_)))))
  ·refine Eu (l4 rfl (Ew Z2 (Em rfl (Ei rfl ?_))))
   exact Eu (E.ret (t7 (l0 (l0 (t7 (l0 (Fg rfl rfl () (congrArg (Value.int .i64) (by first | exact M6 om pa q16 | exact K5 om pa)) rfl)))))))
  ·refine Eu (l6 rfl (i8 (o4 (Et (Ez Z2 (Ey rfl ((Y.add rfl rfl om om).yd) (Em rfl ?_)))))))
   exact Eu (u9 br (g + 1) rs (.refl _) ⟨by omega, Q4 om pa q16⟩ om)
 ·refine Eu (Eq_ (l6 rfl (E.exit (n8 (n8 (w5 (Et (Ew Z1 (Ei rfl ?_)))))))))
  exact Eu (E.ret (Fg rfl rfl () (congrArg (Value.int .i64) (by first | exact M6 om pa q16 | exact K5 om pa)) rfl))
theorem a3x {s : List (Int × List Int × Int × Int × Int)} {D_f : (Int × List Int × Int × Int × Int) → Prop} {f : (Int × List Int × Int × Int × Int) → Bool} (hD_f : ∀ x ∈ s, D_f x) : Tr Tryz.prog 199 [.slice a_s m_s c_s, .func (.func f_g) #[] f_c.toArray] (fun w L => Ro w L C8 [.slice a_s m_s c_s] s ∧ FnP Tryz.prog w L f_g f_c Z0 a0o D_f f) [] (κ := Unit) (fun k => True) (fun k => .bool (s.any f)) (fun k => []) := by
 refine Tr.intro Tryz.func199 rfl (n := 9) rfl (by decide +kernel) bl (fr := [(0, .slice a_s m_s c_s), (1, .func (.func f_g) #[] f_c.toArray)]) rfl fun w L hR => ?_
 obtain ⟨hs, hf⟩ := hR
 obtain ⟨rfl, ls⟩ := hs.slen
 refine Ew Z1 (Ei rfl (Ev Z5 (Em rfl (Em rfl (Est rfl (k6 (a4X (f := f) (D_f := D_f) hD_f) rfl rfl rfl dc (fun w Lp hA => ⟨hA.ro hs, hA.fn hf⟩)) (fun _ _ => (Ey rfl ((Y.geq rfl rfl).yd) (Ei rfl ?_))))))))
 exact Eu (E.ret (Fb rfl rfl (by exact V5)))
theorem a0Y {D_f : (Int × List Int) → Prop} {f : (Int × List Int) → Bool} (hD_f : ∀ x ∈ s, D_f x) : Tr Tryz.prog 186 [.slice a_s m_s c_s, .func (.func f_g) #[] f_c.toArray] (fun w L => Ro w L r7 [.slice a_s m_s c_s] s ∧ FnP Tryz.prog w L f_g f_c F0 a0o D_f f) [] (κ := Unit) (fun k => True) (fun k => .int .i64 (H3 f s)) (fun k => []) := by
 refine Tr.intro Tryz.func186 rfl (n := 19) rfl (by decide +kernel) bl (fr := [(0, .slice a_s m_s c_s), (1, .func (.func f_g) #[] f_c.toArray)]) rfl fun w L hR => ?_
 obtain ⟨hs, hf⟩ := hR
 obtain ⟨rfl, ls⟩ := hs.slen
 refine Ew Z1 (Ei rfl (Eu (Eq_ (Ew Z3 (Em rfl (Ey rfl ((Y.len us_Facts rfl).yd) (Em rfl (Eu (E.block (E.loop (κ := Nat) (fun g => g ≤ s.length ∧ ∀ x ∈ s.take g, f x = false) (fun g => [(0, .slice a_s s.length c_s), (1, .func (.func f_g) #[] f_c.toArray), (7, .int .i64 (↑s.length : Int)), (8, .int .i64 (g : Int))]) (fun g => []) (fun g => s.length - g) 0 ⟨by omega, by simp⟩ ⟨rfl, rfl, rfl, rfl, trivial⟩ (.refl _) (fun g pg => ?_)))))))))))
 obtain ⟨pk, pa⟩ := pg
 refine Ew Z1 (Ey rfl ((Y.lss rfl rfl).yd) (n0 (fun q9 => ?_) (fun q9 => ?_)))
 ·refine Eu (Eq_ (l4 rfl (i8 (Et (Eq_ (E.block (Ew Z2 (Em rfl (Ei rfl (Ev Z6 (Em rfl (Em rfl (Em rfl ?_)))))))))))))
  obtain ⟨eb14, eo14, ec14, ea14, er14, el14, eh14⟩ := hs.elem g om
  obtain ⟨xa14_0, xc14_0, rfl, ei14_0, xh14_0⟩ := L4 er14
  have := xh14_0.slen.2
  refine Ey rfl ((o6 us_Facts ty_Fact rfl ea14 rfl g rfl om).yd) (Ey rfl (o0 (cs := [_, _]) ty_Fact rfl (eh14 _) rfl) (Est rfl (N.fn (cs := [_, _]) hf rfl rfl rfl dc (fun w Lp hA => b3A (x := s[g]) ei14_0 (hA.ro xh14_0)) (hD_f _ (List.getElem_mem om))) (fun _ _ => (Ent.b (fun q16 => ?_) (fun q16 => ?_)))))
  ·refine Eu (l4 rfl (Ew Z2 (Em rfl (Ei rfl ?_))))
   exact Eu (E.ret (t7 (l0 (l0 (t7 (l0 (Fg rfl rfl () (congrArg (Value.int .i64) (by first | exact M6 om pa q16 | exact K5 om pa)) rfl)))))))
  ·refine Eu (l6 rfl (i8 (o4 (Et (Ez Z2 (Ey rfl ((Y.add rfl rfl om om).yd) (Em rfl ?_)))))))
   exact Eu (u9 br (g + 1) rs (.refl _) ⟨by omega, Q4 om pa q16⟩ om)
 ·refine Eu (Eq_ (l6 rfl (E.exit (n8 (n8 (w5 (Et (Ew Z1 (Ei rfl ?_)))))))))
  exact Eu (E.ret (Fg rfl rfl () (congrArg (Value.int .i64) (by first | exact M6 om pa q16 | exact K5 om pa)) rfl))
theorem a4F {D_f : (Int × List Int) → Prop} {f : (Int × List Int) → Bool} (hD_f : ∀ x ∈ s, D_f x) : Tr Tryz.prog 226 [.slice a_s m_s c_s, .func (.func f_g) #[] f_c.toArray] (fun w L => Ro w L r7 [.slice a_s m_s c_s] s ∧ FnP Tryz.prog w L f_g f_c F0 a0o D_f f) [] (κ := Unit) (fun k => True) (fun k => .bool (s.any f)) (fun k => []) := by
 refine Tr.intro Tryz.func226 rfl (n := 9) rfl (by decide +kernel) bl (fr := [(0, .slice a_s m_s c_s), (1, .func (.func f_g) #[] f_c.toArray)]) rfl fun w L hR => ?_
 obtain ⟨hs, hf⟩ := hR
 obtain ⟨rfl, ls⟩ := hs.slen
 refine Ew Z1 (Ei rfl (Ev Z5 (Em rfl (Em rfl (Est rfl (k6 (a0Y (f := f) (D_f := D_f) hD_f) rfl rfl rfl dc (fun w Lp hA => ⟨hA.ro hs, hA.fn hf⟩)) (fun _ _ => (Ey rfl ((Y.geq rfl rfl).yd) (Ei rfl ?_))))))))
 exact Eu (E.ret (Fb rfl rfl (by exact V5)))
theorem a6o {D_f : (Int × List Int) → Prop} {f : (Int × List Int) → Bool} (hD_f : ∀ x ∈ s, D_f x) : Tr Tryz.prog 205 [.slice a_s m_s c_s, .func (.func f_g) #[] f_c.toArray] (fun w L => Ro w L G8 [.slice a_s m_s c_s] s ∧ FnP Tryz.prog w L f_g f_c a0X a0o D_f f) [] (κ := Unit) (fun k => True) (fun k => .int .i64 (H3 f s)) (fun k => []) := by
 refine Tr.intro Tryz.func205 rfl (n := 19) rfl (by decide +kernel) bl (fr := [(0, .slice a_s m_s c_s), (1, .func (.func f_g) #[] f_c.toArray)]) rfl fun w L hR => ?_
 obtain ⟨hs, hf⟩ := hR
 obtain ⟨rfl, ls⟩ := hs.slen
 refine Ew Z1 (Ei rfl (Eu (Eq_ (Ew Z3 (Em rfl (Ey rfl ((Y.len us_Atoms rfl).yd) (Em rfl (Eu (E.block (E.loop (κ := Nat) (fun g => g ≤ s.length ∧ ∀ x ∈ s.take g, f x = false) (fun g => [(0, .slice a_s s.length c_s), (1, .func (.func f_g) #[] f_c.toArray), (7, .int .i64 (↑s.length : Int)), (8, .int .i64 (g : Int))]) (fun g => []) (fun g => s.length - g) 0 ⟨by omega, by simp⟩ ⟨rfl, rfl, rfl, rfl, trivial⟩ (.refl _) (fun g pg => ?_)))))))))))
 obtain ⟨pk, pa⟩ := pg
 refine Ew Z1 (Ey rfl ((Y.lss rfl rfl).yd) (n0 (fun q9 => ?_) (fun q9 => ?_)))
 ·refine Eu (Eq_ (l4 rfl (i8 (Et (Eq_ (E.block (Ew Z2 (Em rfl (Ei rfl (Ev Z6 (Em rfl (Em rfl (Em rfl ?_)))))))))))))
  obtain ⟨eb14, eo14, ec14, ea14, er14, el14, eh14⟩ := hs.elem g om
  obtain ⟨xa14_0, xc14_0, rfl, ei14_0, xh14_0⟩ := P1 er14
  have := xh14_0.slen.2
  refine Ey rfl ((o6 us_Atoms ty_Atom rfl ea14 rfl g rfl om).yd) (Ey rfl (o0 (cs := [_, _]) ty_Atom rfl (eh14 _) rfl) (Est rfl (N.fn (cs := [_, _]) hf rfl rfl rfl dc (fun w Lp hA => b3y (x := s[g]) ei14_0 (hA.ro xh14_0)) (hD_f _ (List.getElem_mem om))) (fun _ _ => (Ent.b (fun q16 => ?_) (fun q16 => ?_)))))
  ·refine Eu (l4 rfl (Ew Z2 (Em rfl (Ei rfl ?_))))
   exact Eu (E.ret (t7 (l0 (l0 (t7 (l0 (Fg rfl rfl () (congrArg (Value.int .i64) (by first | exact M6 om pa q16 | exact K5 om pa)) rfl)))))))
  ·refine Eu (l6 rfl (i8 (o4 (Et (Ez Z2 (Ey rfl ((Y.add rfl rfl om om).yd) (Em rfl ?_)))))))
   exact Eu (u9 br (g + 1) rs (.refl _) ⟨by omega, Q4 om pa q16⟩ om)
 ·refine Eu (Eq_ (l6 rfl (E.exit (n8 (n8 (w5 (Et (Ew Z1 (Ei rfl ?_)))))))))
  exact Eu (E.ret (Fg rfl rfl () (congrArg (Value.int .i64) (by first | exact M6 om pa q16 | exact K5 om pa)) rfl))
theorem a4C {D_f : (Int × List Int) → Prop} {f : (Int × List Int) → Bool} (hD_f : ∀ x ∈ s, D_f x) : Tr Tryz.prog 147 [.slice a_s m_s c_s, .func (.func f_g) #[] f_c.toArray] (fun w L => Ro w L G8 [.slice a_s m_s c_s] s ∧ FnP Tryz.prog w L f_g f_c a0X a0o D_f f) [] (κ := Unit) (fun k => True) (fun k => .bool (s.any f)) (fun k => []) := by
 refine Tr.intro Tryz.func147 rfl (n := 9) rfl (by decide +kernel) bl (fr := [(0, .slice a_s m_s c_s), (1, .func (.func f_g) #[] f_c.toArray)]) rfl fun w L hR => ?_
 obtain ⟨hs, hf⟩ := hR
 obtain ⟨rfl, ls⟩ := hs.slen
 refine Ew Z1 (Ei rfl (Ev Z5 (Em rfl (Em rfl (Est rfl (k6 (a6o (f := f) (D_f := D_f) hD_f) rfl rfl rfl dc (fun w Lp hA => ⟨hA.ro hs, hA.fn hf⟩)) (fun _ _ => (Ey rfl ((Y.geq rfl rfl).yd) (Ei rfl ?_))))))))
 exact Eu (E.ret (Fb rfl rfl (by exact V5)))
theorem a6h {s : List (Int × Int)} {D_f : (Int × Int) → Prop} {f : (Int × Int) → Bool} (hD_f : ∀ x ∈ s, D_f x) : Tr Tryz.prog 135 [.slice a_s m_s c_s, .func (.func f_g) #[] f_c.toArray] (fun w L => Ro w L H5 [.slice a_s m_s c_s] s ∧ FnP Tryz.prog w L f_g f_c X6 a0o D_f f) [] (κ := Unit) (fun k => True) (fun k => .int .i64 (H3 f s)) (fun k => []) := by
 refine Tr.intro Tryz.func135 rfl (n := 19) rfl (by decide +kernel) bl (fr := [(0, .slice a_s m_s c_s), (1, .func (.func f_g) #[] f_c.toArray)]) rfl fun w L hR => ?_
 obtain ⟨hs, hf⟩ := hR
 obtain ⟨rfl, ls⟩ := hs.slen
 refine Ew Z1 (Ei rfl (Eu (Eq_ (Ew Z3 (Em rfl (Ey rfl ((Y.len us_Steps rfl).yd) (Em rfl (Eu (E.block (E.loop (κ := Nat) (fun g => g ≤ s.length ∧ ∀ x ∈ s.take g, f x = false) (fun g => [(0, .slice a_s s.length c_s), (1, .func (.func f_g) #[] f_c.toArray), (7, .int .i64 (↑s.length : Int)), (8, .int .i64 (g : Int))]) (fun g => []) (fun g => s.length - g) 0 ⟨by omega, by simp⟩ ⟨rfl, rfl, rfl, rfl, trivial⟩ (.refl _) (fun g pg => ?_)))))))))))
 obtain ⟨pk, pa⟩ := pg
 refine Ew Z1 (Ey rfl ((Y.lss rfl rfl).yd) (n0 (fun q9 => ?_) (fun q9 => ?_)))
 ·refine Eu (Eq_ (l4 rfl (i8 (Et (Eq_ (E.block (Ew Z2 (Em rfl (Ei rfl (Ev Z6 (Em rfl (Em rfl (Em rfl ?_)))))))))))))
  obtain ⟨eb14, eo14, ec14, ea14, er14, el14, eh14⟩ := hs.elem g om
  obtain ⟨rfl, ei14_0, ei14_1⟩ := a0p er14
  refine Ey rfl ((o6 us_Steps ty_Step rfl ea14 rfl g rfl om).yd) (Ey rfl (o0 (cs := [_, _]) ty_Step rfl (eh14 _) rfl) (Est rfl (N.fn (cs := [_, _]) hf rfl rfl rfl dc (fun w Lp hA => b3E (x := s[g]) ei14_0 ei14_1) (hD_f _ (List.getElem_mem om))) (fun _ _ => (Ent.b (fun q16 => ?_) (fun q16 => ?_)))))
  ·refine Eu (l4 rfl (Ew Z2 (Em rfl (Ei rfl ?_))))
   exact Eu (E.ret (t7 (l0 (l0 (t7 (l0 (Fg rfl rfl () (congrArg (Value.int .i64) (by first | exact M6 om pa q16 | exact K5 om pa)) rfl)))))))
  ·refine Eu (l6 rfl (i8 (o4 (Et (Ez Z2 (Ey rfl ((Y.add rfl rfl om om).yd) (Em rfl ?_)))))))
   exact Eu (u9 br (g + 1) rs (.refl _) ⟨by omega, Q4 om pa q16⟩ om)
 ·refine Eu (Eq_ (l6 rfl (E.exit (n8 (n8 (w5 (Et (Ew Z1 (Ei rfl ?_)))))))))
  exact Eu (E.ret (Fg rfl rfl () (congrArg (Value.int .i64) (by first | exact M6 om pa q16 | exact K5 om pa)) rfl))
theorem a4A {s : List (Int × Int)} {D_f : (Int × Int) → Prop} {f : (Int × Int) → Bool} (hD_f : ∀ x ∈ s, D_f x) : Tr Tryz.prog 68 [.slice a_s m_s c_s, .func (.func f_g) #[] f_c.toArray] (fun w L => Ro w L H5 [.slice a_s m_s c_s] s ∧ FnP Tryz.prog w L f_g f_c X6 a0o D_f f) [] (κ := Unit) (fun k => True) (fun k => .bool (s.any f)) (fun k => []) := by
 refine Tr.intro Tryz.func68 rfl (n := 9) rfl (by decide +kernel) bl (fr := [(0, .slice a_s m_s c_s), (1, .func (.func f_g) #[] f_c.toArray)]) rfl fun w L hR => ?_
 obtain ⟨hs, hf⟩ := hR
 obtain ⟨rfl, ls⟩ := hs.slen
 refine Ew Z1 (Ei rfl (Ev Z5 (Em rfl (Em rfl (Est rfl (k6 (a6h (f := f) (D_f := D_f) hD_f) rfl rfl rfl dc (fun w Lp hA => ⟨hA.ro hs, hA.fn hf⟩)) (fun _ _ => (Ey rfl ((Y.geq rfl rfl).yd) (Ei rfl ?_))))))))
 exact Eu (E.ret (Fb rfl rfl (by exact V5)))
theorem a5D : Tr Tryz.prog 182 [.int .i64 n] (fun w L => (I64 n) ∧ True) [] (κ := Unit) (fun k => True) (fun k => .bool (!inR n 1 3)) (fun k => []) := by
 refine Tr.intro Tryz.func182 rfl (n := 6) rfl (by decide +kernel) bl (fr := [(0, .int .i64 n)]) rfl fun w L hR => ?_
 obtain ⟨i6n, _⟩ := hR
 refine Ew Z1 (Ei rfl (Ev Z4 (Em rfl (Est rfl (k6 I1 rfl rfl rfl dc tv) (fun _ _ => (Ey rfl ((Y.not rfl).yd) (Ei rfl ?_)))))))
 exact Eu (E.ret (Fb rfl rfl (by simp_all)))
theorem a0y {s : List Int} : Tr Tryz.prog 119 [.slice a_s m_s c_s] (fun w L => Ro w L eIs [.slice a_s m_s c_s] s) [] (κ := Unit) (fun k => True) (fun k => .bool (M7 s)) (fun k => []) := by
 refine Tr.intro Tryz.func119 rfl (n := 11) rfl (by decide +kernel) bl (fr := [(0, .slice a_s m_s c_s)]) rfl fun w L hR => ?_
 have hs := hR
 obtain ⟨rfl, ls⟩ := hs.slen
 refine Ew Z1 (Ei rfl (Ev Z9 (Em rfl (Ey rfl ((Y.len us_Is rfl).yd) (Est rfl (k6 I1 rfl rfl rfl dc tv) (fun _ _ => (Ent.b (fun q5 => ?_) (fun q5 => ?_))))))))
 ·refine Em rfl (Em rfl (Est rfl (k6 (S6 (f := (fun n => !inR n 1 3)) (D_f := (fun _ => True)) (by intros; exact trivial)) rfl rfl rfl dc (fun w Lp hA => ⟨hA.ro hs, a1N (D := (fun _ => True)) (fun hd => a5D) (fun w' hk => trivial)⟩)) (fun _ _ => (Ey rfl ((Y.not rfl).yd) (Ey rfl ((s6 rfl rfl).yd) (Ei rfl ?_))))))
  exact Eu (E.ret (Fb rfl rfl (by simp_all [M7])))
 ·refine Em rfl (Es rfl (Es rfl (Es rfl (Ey rfl ((r9 rfl rfl).yd) (Ei rfl ?_)))))
  exact Eu (E.ret (Fb rfl rfl (by simp_all [M7])))
theorem L6 {s : List Int} : Tr Tryz.prog 65 [.slice a_s m_s c_s] (fun w L => Ro w L eIs [.slice a_s m_s c_s] s) [] (κ := Unit) (fun k => True) (fun k => .bool (M7 s)) (fun k => []) := by
 refine Tr.intro Tryz.func65 rfl (n := 19) rfl (by decide +kernel) bl (fr := [(0, .slice a_s m_s c_s)]) rfl fun w L hR => ?_
 have hs := hR
 obtain ⟨rfl, ls⟩ := hs.slen
 refine Ew Z1 (Ei rfl (Eu (Eq_ (Ew Z1 (Ei rfl (Eu (E.block (E.loop (κ := Nat) (fun g => g ≤ s.length ∧ ∀ x ∈ s.take g, (!inR x 1 3) = false) (fun g => [(0, .slice a_s s.length c_s), (3, .int .i64 (g : Int))]) (fun g => []) (fun g => s.length - g) 0 ⟨by omega, by simp⟩ ⟨rfl, rfl, trivial⟩ (.refl _) (fun g pg => ?_)))))))))
 obtain ⟨pk, pa⟩ := pg
 refine Eq_ (Ew Z4 (Em rfl (Em rfl (Ey rfl ((Y.len us_Is rfl).yd) (Ey rfl ((Y.lss rfl rfl).yd) (n0 (fun q7 => ?_) (fun q7 => ?_)))))))
 ·refine Eu (l4 rfl (i8 (Et (Eq_ (E.block (Ew Z6 (Em rfl (Em rfl ?_))))))))
  obtain ⟨eb12, eo12, ea12, ei12, eh12⟩ := hs.elemI g om
  refine Ey rfl ((o6 us_Is f0 rfl ea12 rfl g rfl om).yd) (Ey rfl (f8 f0 rfl (eh12 _) rfl) (Est rfl (k6 F9 rfl rfl rfl dc tv) (fun _ _ => (Ent.b (fun q14 => ?_) (fun q14 => ?_)))))
  ·refine Ey rfl ((Y.not (b := true) rfl).yd) (Eu (l6 rfl (i8 (o4 (Et (Ez Z3 (Em rfl (Ey rfl ((Y.add rfl rfl om om).yd) (Ei rfl ?_)))))))))
   exact Eu (u9 br (g + 1) ⟨rfl, rfl, trivial⟩ (.refl _) ⟨by omega, Q4 om pa (by simp [q14])⟩ om)
  ·refine Ey rfl ((Y.not (b := false) rfl).yd) (Eu (l4 rfl (Ew Z1 (Ei rfl ?_))))
   exact Eu (E.ret (t7 (l0 (l0 (t7 (l0 (Fb rfl rfl (by first | (have := a3w (k := g) (s := s) (p := fun x => !inR x 1 3) om (by simpa using q14); rw [M7, this]; simp) | (have := a3P om pa; rw [M7, this]; simp)))))))))
 ·refine Eu (l6 rfl (E.exit (n8 (n8 (w5 (Et (Ew Z4 (Em rfl (Ey rfl ((Y.len us_Is rfl).yd) (Est rfl (k6 F9 rfl rfl rfl dc tv) (fun _ _ => (Ei rfl ?_))))))))))))
  exact Eu (E.ret (Fb rfl rfl (by first | (have := a3w (k := g) (s := s) (p := fun x => !inR x 1 3) om (by simpa using q14); rw [M7, this]; simp) | (have := a3P om pa; rw [M7, this]; simp))))
theorem a2f {s : List Int} {rel : Int} : Tr Tryz.prog 178 [.slice a_s m_s c_s, .int .i64 rel] (fun w L => Ro w L eIs [.slice a_s m_s c_s] s) [] (κ := Unit) (fun k => True) (fun k => .bool (J5 s rel)) (fun k => []) := by
 refine Tr.intro Tryz.func178 rfl (n := 14) rfl (by decide +kernel) bl (fr := [(0, .slice a_s m_s c_s), (1, .int .i64 rel)]) rfl fun w L hR => ?_
 have hs := hR
 obtain ⟨rfl, ls⟩ := hs.slen
 refine Ew Z1 (Ei rfl (Ev Z10 (Em rfl (Est rfl (k6 a0y rfl rfl rfl dc (fun w Lp hA => hA.ro hs)) (fun _ _ => (Ent.b (fun q6 => ?_) (fun q6 => ?_)))))))
 ·refine Em rfl (Em rfl (Em rfl (Ey rfl ((Y.len us_Is rfl).yd) (Ey rfl ((Y.sub rfl rfl om om).yd) (Est rfl (k6 I1 rfl rfl rfl dc tv) (fun _ _ => (Ey rfl ((s6 rfl rfl).yd) (Ei rfl ?_))))))))
  exact Eu (E.ret (Fb rfl rfl (by simp_all [J5])))
 ·refine Em rfl (Es rfl (Es rfl (Es rfl (Es rfl (Es rfl (Ey rfl ((r9 rfl rfl).yd) (Ei rfl ?_)))))))
  exact Eu (E.ret (Fb rfl rfl (by simp_all [J5])))
end Go.Proofs.YtlfhopooaejpfaaGreat
