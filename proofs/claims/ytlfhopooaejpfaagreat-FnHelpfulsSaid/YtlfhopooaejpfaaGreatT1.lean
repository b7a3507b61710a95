import Derived.Test.YtlfhopooaejpfaaGreatBs
namespace Go.Proofs.YtlfhopooaejpfaaGreat
open Go.RowKit
set_option linter.all false
set_option maxHeartbeats 2000000
attribute [local irreducible] Nop Yd Yp Ent Has Tr FnP FnP2 Src
variable {f_g : FuncId} {low high n arity E4 K4 : Int} {l : List (Int × Int × List Int)} {s G0 : List Int} {f_c : List Value} {m_s c_s m_l c_l Q4 N4 : Nat} {a_s a_l N5 : Option Addr}
theorem N7 {x : Int} : Tr Tryz.prog 60 [.int .i64 x, .int .i64 low, .int .i64 high] (fun w L => True) [] (κ := Unit) (fun k => True) (fun k => .bool (inR x low high)) (fun k => []) := by
 refine Tr.intro Tryz.func60 rfl (n := 15) rfl (by decide +kernel) bl (fr := [(0, .int .i64 x), (1, .int .i64 low), (2, .int .i64 high)]) rfl fun w L hR => (Ew Z1 (Ei rfl (Ev Z9 (Em rfl (Em rfl (Ey rfl ((Y.geq rfl rfl).yd) (n9 (fun q9 => ?_) (fun q9 => ?_))))))))
 ·refine Em rfl (Em rfl (Em rfl (Ey rfl ((Y.leq rfl rfl).yd) (Ey rfl ((x6 rfl rfl).yd) (Ei rfl ?_)))))
  exact Eu (E.ret (Fb rfl rfl (by simp_all [inR]; try omega)))
 ·refine Em rfl (Es rfl (Es rfl (Es rfl (Ey rfl ((z7 rfl rfl).yd) (Ei rfl ?_)))))
  exact Eu (E.ret (Fb rfl rfl (by simp_all [inR]; try omega)))
theorem R2 : Tr Tryz.prog 70 [.int .i64 n, .int .i64 low, .int .i64 high] (fun w L => True) [] (κ := Unit) (fun k => True) (fun k => .bool (inR n low high)) (fun k => []) := by
 refine Tr.intro Tryz.func70 rfl (n := 15) rfl (by decide +kernel) bl (fr := [(0, .int .i64 n), (1, .int .i64 low), (2, .int .i64 high)]) rfl fun w L hR => (Ew Z1 (Ei rfl (Ev Z9 (Em rfl (Em rfl (Ey rfl ((Y.geq rfl rfl).yd) (n9 (fun q9 => ?_) (fun q9 => ?_))))))))
 ·refine Em rfl (Em rfl (Em rfl (Ey rfl ((Y.leq rfl rfl).yd) (Ey rfl ((x6 rfl rfl).yd) (Ei rfl ?_)))))
  exact Eu (E.ret (Fb rfl rfl (by simp_all [inR]; try omega)))
 ·refine Em rfl (Es rfl (Es rfl (Es rfl (Ey rfl ((z7 rfl rfl).yd) (Ei rfl ?_)))))
  exact Eu (E.ret (Fb rfl rfl (by simp_all [inR]; try omega)))
theorem b1X {D_f : Int → Prop} {f : Int → Bool} (hD_f : ∀ x ∈ s, D_f x) : Tr Tryz.prog 222 [.slice a_s m_s c_s, .func (.func f_g) #[] f_c.toArray] (fun w L => Ro w L eIs [.slice a_s m_s c_s] s ∧ FnP Tryz.prog w L f_g f_c Enc.int a8D D_f f) [] (κ := Unit) (fun k => True) (fun k => .int .i64 (J8 f s)) (fun k => []) := by
 refine Tr.intro Tryz.func222 rfl (n := 19) rfl (by decide +kernel) bl (fr := [(0, .slice a_s m_s c_s), (1, .func (.func f_g) #[] f_c.toArray)]) rfl fun w L hR => ?_
 obtain ⟨hs, hf⟩ := hR
 obtain ⟨rfl, ls⟩ := hs.slen
 refine Ew Z1 (Ei rfl (Eu (Eq_ (Ew Z3 (Em rfl (Ey rfl ((Y.len us_Is rfl).yd) (Em rfl (Eu (E.block (E.loop (κ := Nat) (fun g => g ≤ s.length ∧ ∀ x ∈ s.take g, f x = false) (fun g => [(0, .slice a_s s.length c_s), (1, .func (.func f_g) #[] f_c.toArray), (7, .int .i64 (↑s.length : Int)), (8, .int .i64 (g : Int))]) (fun g => []) (fun g => s.length - g) 0 ⟨by omega, by simp⟩ ⟨rfl, rfl, rfl, rfl, trivial⟩ (.refl _) (fun g pg => ?_)))))))))))
 obtain ⟨pk, pa⟩ := pg
 refine Ew Z1 (Ey rfl ((Y.lss rfl rfl).yd) (n9 (fun q9 => ?_) (fun q9 => ?_)))
 ·refine Eu (Eq_ (o0 rfl (f9 (Et (Eq_ (E.block (Ew Z2 (Em rfl (Ei rfl (Ev Z6 (Em rfl (Em rfl (Em rfl ?_)))))))))))))
  obtain ⟨eb14, eo14, ea14, ei14, eh14⟩ := hs.elemI g om
  refine Ey rfl ((w3 us_Is f5 rfl ea14 rfl g rfl om).yd) (Ey rfl (g9 f5 rfl (eh14 _) rfl) (Est rfl (N.fn (cs := [_]) hf rfl rfl rfl dc (fun w Lp hA => P7 ei14) (hD_f _ (List.getElem_mem om))) (fun _ _ => (Ent.b (fun q16 => ?_) (fun q16 => ?_)))))
  ·refine Eu (o0 rfl (Ew Z2 (Em rfl (Ei rfl ?_))))
   exact Eu (E.ret (C9 (s9 (s9 (C9 (s9 (Fg rfl rfl () (congrArg (Value.int .i64) (by first | exact V4 om pa q16 | exact S7 om pa)) rfl)))))))
  ·refine Eu (n8 rfl (f9 (s8 (Et (Ez Z2 (Ey rfl ((Y.add rfl rfl om om).yd) (Em rfl ?_)))))))
   exact Eu (B0 br (g + 1) rs (.refl _) ⟨by omega, X4 om pa q16⟩ om)
 ·refine Eu (Eq_ (n8 rfl (E.exit (l3 (l3 (y4 (Et (Ew Z1 (Ei rfl ?_)))))))))
  exact Eu (E.ret (Fg rfl rfl () (congrArg (Value.int .i64) (by first | exact V4 om pa q16 | exact S7 om pa)) rfl))
theorem a0D {D_f : Int → Prop} {f : Int → Bool} (hD_f : ∀ x ∈ s, D_f x) : Tr Tryz.prog 174 [.slice a_s m_s c_s, .func (.func f_g) #[] f_c.toArray] (fun w L => Ro w L eIs [.slice a_s m_s c_s] s ∧ FnP Tryz.prog w L f_g f_c Enc.int a8D D_f f) [] (κ := Unit) (fun k => True) (fun k => .bool (s.any f)) (fun k => []) := by
 refine Tr.intro Tryz.func174 rfl (n := 9) rfl (by decide +kernel) bl (fr := [(0, .slice a_s m_s c_s), (1, .func (.func f_g) #[] f_c.toArray)]) rfl fun w L hR => ?_
 obtain ⟨hs, hf⟩ := hR
 obtain ⟨rfl, ls⟩ := hs.slen
 refine Ew Z1 (Ei rfl (Ev Z5 (Em rfl (Em rfl (Est rfl (o4 (b1X (f := f) (D_f := D_f) hD_f) rfl rfl rfl dc (fun w Lp hA => ⟨hA.ro hs, hA.fn hf⟩)) (fun _ _ => (Ey rfl ((Y.geq rfl rfl).yd) (Ei rfl ?_))))))))
 exact Eu (E.ret (Fb rfl rfl (by exact a0X)))
theorem a4E {s : List (Int × Int × List Int)} {D_f : (Int × Int × List Int) → Prop} {f : (Int × Int × List Int) → Bool} (hD_f : ∀ x ∈ s, D_f x) : Tr Tryz.prog 238 [.slice a_s m_s c_s, .func (.func f_g) #[] f_c.toArray] (fun w L => Ro w L G9 [.slice a_s m_s c_s] s ∧ FnP Tryz.prog w L f_g f_c Y6 a1v D_f f) [] (κ := Unit) (fun k => True) (fun k => .int .i64 (J8 f s)) (fun k => []) := by
 refine Tr.intro Tryz.func238 rfl (n := 19) rfl (by decide +kernel) bl (fr := [(0, .slice a_s m_s c_s), (1, .func (.func f_g) #[] f_c.toArray)]) rfl fun w L hR => ?_
 obtain ⟨hs, hf⟩ := hR
 obtain ⟨rfl, ls⟩ := hs.slen
 refine Ew Z1 (Ei rfl (Eu (Eq_ (Ew Z3 (Em rfl (Ey rfl ((Y.len us_Rules rfl).yd) (Em rfl (Eu (E.block (E.loop (κ := Nat) (fun g => g ≤ s.length ∧ ∀ x ∈ s.take g, f x = false) (fun g => [(0, .slice a_s s.length c_s), (1, .func (.func f_g) #[] f_c.toArray), (7, .int .i64 (↑s.length : Int)), (8, .int .i64 (g : Int))]) (fun g => []) (fun g => s.length - g) 0 ⟨by omega, by simp⟩ ⟨rfl, rfl, rfl, rfl, trivial⟩ (.refl _) (fun g pg => ?_)))))))))))
 obtain ⟨pk, pa⟩ := pg
 refine Ew Z1 (Ey rfl ((Y.lss rfl rfl).yd) (n9 (fun q9 => ?_) (fun q9 => ?_)))
 ·refine Eu (Eq_ (o0 rfl (f9 (Et (Eq_ (E.block (Ew Z2 (Em rfl (Ei rfl (Ev Z6 (Em rfl (Em rfl (Em rfl ?_)))))))))))))
  obtain ⟨eb14, eo14, ec14, ea14, er14, el14, eh14⟩ := hs.elem g om
  obtain ⟨xa14_0, xc14_0, rfl, ei14_0, ei14_1, xh14_0⟩ := a1z er14
  have := xh14_0.slen.2
  refine Ey rfl ((w3 us_Rules ty_Rule rfl ea14 rfl g rfl om).yd) (Ey rfl (r9 (cs := [_, _, _]) ty_Rule rfl (eh14 _) rfl) (Est rfl (N.fn (cs := [_, _, _]) hf rfl rfl rfl dc (fun w Lp hA => b6R (x := s[g]) ei14_0 ei14_1 (hA.ro xh14_0)) (hD_f _ (List.getElem_mem om))) (fun _ _ => (Ent.b (fun q16 => ?_) (fun q16 => ?_)))))
  ·refine Eu (o0 rfl (Ew Z2 (Em rfl (Ei rfl ?_))))
   exact Eu (E.ret (C9 (s9 (s9 (C9 (s9 (Fg rfl rfl () (congrArg (Value.int .i64) (by first | exact V4 om pa q16 | exact S7 om pa)) rfl)))))))
  ·refine Eu (n8 rfl (f9 (s8 (Et (Ez Z2 (Ey rfl ((Y.add rfl rfl om om).yd) (Em rfl ?_)))))))
   exact Eu (B0 br (g + 1) rs (.refl _) ⟨by omega, X4 om pa q16⟩ om)
 ·refine Eu (Eq_ (n8 rfl (E.exit (l3 (l3 (y4 (Et (Ew Z1 (Ei rfl ?_)))))))))
  exact Eu (E.ret (Fg rfl rfl () (congrArg (Value.int .i64) (by first | exact V4 om pa q16 | exact S7 om pa)) rfl))
theorem a6Z {s : List (Int × Int × List Int)} {D_f : (Int × Int × List Int) → Prop} {f : (Int × Int × List Int) → Bool} (hD_f : ∀ x ∈ s, D_f x) : Tr Tryz.prog 202 [.slice a_s m_s c_s, .func (.func f_g) #[] f_c.toArray] (fun w L => Ro w L G9 [.slice a_s m_s c_s] s ∧ FnP Tryz.prog w L f_g f_c Y6 a1v D_f f) [] (κ := Unit) (fun k => True) (fun k => .bool (s.any f)) (fun k => []) := by
 refine Tr.intro Tryz.func202 rfl (n := 9) rfl (by decide +kernel) bl (fr := [(0, .slice a_s m_s c_s), (1, .func (.func f_g) #[] f_c.toArray)]) rfl fun w L hR => ?_
 obtain ⟨hs, hf⟩ := hR
 obtain ⟨rfl, ls⟩ := hs.slen
 refine Ew Z1 (Ei rfl (Ev Z5 (Em rfl (Em rfl (Est rfl (o4 (a4E (f := f) (D_f := D_f) hD_f) rfl rfl rfl dc (fun w Lp hA => ⟨hA.ro hs, hA.fn hf⟩)) (fun _ _ => (Ey rfl ((Y.geq rfl rfl).yd) (Ei rfl ?_))))))))
 exact Eu (E.ret (Fb rfl rfl (by exact a0X)))
theorem a7m {s : List (Int × List Int)} {D_f : (Int × List Int) → Prop} {f : (Int × List Int) → Bool} (hD_f : ∀ x ∈ s, D_f x) : Tr Tryz.prog 139 [.slice a_s m_s c_s, .func (.func f_g) #[] f_c.toArray] (fun w L => Ro w L C5 [.slice a_s m_s c_s] s ∧ FnP Tryz.prog w L f_g f_c K0 a1v D_f f) [] (κ := Unit) (fun k => True) (fun k => .int .i64 (J8 f s)) (fun k => []) := by
 refine Tr.intro Tryz.func139 rfl (n := 19) rfl (by decide +kernel) bl (fr := [(0, .slice a_s m_s c_s), (1, .func (.func f_g) #[] f_c.toArray)]) rfl fun w L hR => ?_
 obtain ⟨hs, hf⟩ := hR
 obtain ⟨rfl, ls⟩ := hs.slen
 refine Ew Z1 (Ei rfl (Eu (Eq_ (Ew Z3 (Em rfl (Ey rfl ((Y.len us_Accesss rfl).yd) (Em rfl (Eu (E.block (E.loop (κ := Nat) (fun g => g ≤ s.length ∧ ∀ x ∈ s.take g, f x = false) (fun g => [(0, .slice a_s s.length c_s), (1, .func (.func f_g) #[] f_c.toArray), (7, .int .i64 (↑s.length : Int)), (8, .int .i64 (g : Int))]) (fun g => []) (fun g => s.length - g) 0 ⟨by omega, by simp⟩ ⟨rfl, rfl, rfl, rfl, trivial⟩ (.refl _) (fun g pg => ?_)))))))))))
 obtain ⟨pk, pa⟩ := pg
 refine Ew Z1 (Ey rfl ((Y.lss rfl rfl).yd) (n9 (fun q9 => ?_) (fun q9 => ?_)))
 ·refine Eu (Eq_ (o0 rfl (f9 (Et (Eq_ (E.block (Ew Z2 (Em rfl (Ei rfl (Ev Z6 (Em rfl (Em rfl (Em rfl ?_)))))))))))))
  obtain ⟨eb14, eo14, ec14, ea14, er14, el14, eh14⟩ := hs.elem g om
  obtain ⟨xa14_0, xc14_0, rfl, ei14_0, xh14_0⟩ := a3C er14
  have := xh14_0.slen.2
  refine Ey rfl ((w3 us_Accesss ty_Access rfl ea14 rfl g rfl om).yd) (Ey rfl (r9 (cs := [_, _]) ty_Access rfl (eh14 _) rfl) (Est rfl (N.fn (cs := [_, _]) hf rfl rfl rfl dc (fun w Lp hA => b3Z (x := s[g]) ei14_0 (hA.ro xh14_0)) (hD_f _ (List.getElem_mem om))) (fun _ _ => (Ent.b (fun q16 => ?_) (fun q16 => ?_)))))
  ·refine Eu (o0 rfl (Ew Z2 (Em rfl (Ei rfl ?_))))
   exact Eu (E.ret (C9 (s9 (s9 (C9 (s9 (Fg rfl rfl () (congrArg (Value.int .i64) (by first | exact V4 om pa q16 | exact S7 om pa)) rfl)))))))
  ·refine Eu (n8 rfl (f9 (s8 (Et (Ez Z2 (Ey rfl ((Y.add rfl rfl om om).yd) (Em rfl ?_)))))))
   exact Eu (B0 br (g + 1) rs (.refl _) ⟨by omega, X4 om pa q16⟩ om)
 ·refine Eu (Eq_ (n8 rfl (E.exit (l3 (l3 (y4 (Et (Ew Z1 (Ei rfl ?_)))))))))
  exact Eu (E.ret (Fg rfl rfl () (congrArg (Value.int .i64) (by first | exact V4 om pa q16 | exact S7 om pa)) rfl))
theorem a6f {s : List (Int × List Int)} {D_f : (Int × List Int) → Prop} {f : (Int × List Int) → Bool} (hD_f : ∀ x ∈ s, D_f x) : Tr Tryz.prog 75 [.slice a_s m_s c_s, .func (.func f_g) #[] f_c.toArray] (fun w L => Ro w L C5 [.slice a_s m_s c_s] s ∧ FnP Tryz.prog w L f_g f_c K0 a1v D_f f) [] (κ := Unit) (fun k => True) (fun k => .bool (s.any f)) (fun k => []) := by
 refine Tr.intro Tryz.func75 rfl (n := 9) rfl (by decide +kernel) bl (fr := [(0, .slice a_s m_s c_s), (1, .func (.func f_g) #[] f_c.toArray)]) rfl fun w L hR => ?_
 obtain ⟨hs, hf⟩ := hR
 obtain ⟨rfl, ls⟩ := hs.slen
 refine Ew Z1 (Ei rfl (Ev Z5 (Em rfl (Em rfl (Est rfl (o4 (a7m (f := f) (D_f := D_f) hD_f) rfl rfl rfl dc (fun w Lp hA => ⟨hA.ro hs, hA.fn hf⟩)) (fun _ _ => (Ey rfl ((Y.geq rfl rfl).yd) (Ei rfl ?_))))))))
 exact Eu (E.ret (Fb rfl rfl (by exact a0X)))
theorem a7w {s : List (Int × List Int × Int × Int × Int)} {D_f : (Int × List Int × Int × Int × Int) → Prop} {f : (Int × List Int × Int × Int × Int) → Bool} (hD_f : ∀ x ∈ s, D_f x) : Tr Tryz.prog 236 [.slice a_s m_s c_s, .func (.func f_g) #[] f_c.toArray] (fun w L => Ro w L I4 [.slice a_s m_s c_s] s ∧ FnP Tryz.prog w L f_g f_c a0g a1v D_f f) [] (κ := Unit) (fun k => True) (fun k => .int .i64 (J8 f s)) (fun k => []) := by
 refine Tr.intro Tryz.func236 rfl (n := 19) rfl (by decide +kernel) bl (fr := [(0, .slice a_s m_s c_s), (1, .func (.func f_g) #[] f_c.toArray)]) rfl fun w L hR => ?_
 obtain ⟨hs, hf⟩ := hR
 obtain ⟨rfl, ls⟩ := hs.slen
 refine Ew Z1 (Ei rfl (Eu (Eq_ (Ew Z3 (Em rfl (Ey rfl ((Y.len us_Methods rfl).yd) (Em rfl (Eu (E.block (E.loop (κ := Nat) (fun g => g ≤ s.length ∧ ∀ x ∈ s.take g, f x = false) (fun g => [(0, .slice a_s s.length c_s), (1, .func (.func f_g) #[] f_c.toArray), (7, .int .i64 (↑s.length : Int)), (8, .int .i64 (g : Int))]) (fun g => []) (fun g => s.length - g) 0 ⟨by omega, by simp⟩ ⟨rfl, rfl, rfl, rfl, trivial⟩ (.refl _) (fun g pg => ?_)))))))))))
 obtain ⟨pk, pa⟩ := pg
 refine Ew Z1 (Ey rfl ((Y.lss rfl rfl).yd) (n9 (fun q9 => ?_) (fun q9 => ?_)))
 ·refine Eu (Eq_ (o0 rfl (f9 (Et (Eq_ (E.block (Ew Z2 (Em rfl (Ei rfl (Ev Z6 (Em rfl (Em rfl (Em rfl ?_)))))))))))))
  obtain ⟨eb14, eo14, ec14, ea14, er14, el14, eh14⟩ := hs.elem g om
  obtain ⟨xa14_0, xc14_0, rfl, ei14_0, xh14_0, ei14_2, ei14_3, ei14_4⟩ := a0V er14
  have := xh14_0.slen.2
  refine Ey rfl ((w3 us_Methods ty_Method rfl ea14 rfl g rfl om).yd) (Ey rfl (r9 (cs := [_, _, _, _, _]) ty_Method rfl (eh14 _) rfl) (Est rfl (N.fn (cs := [_, _, _, _, _]) hf rfl rfl rfl dc (fun w Lp hA => b4a (x := s[g]) ei14_0 (hA.ro xh14_0) ei14_2 ei14_3 ei14_4) (hD_f _ (List.getElem_mem om))) (fun _ _ => (Ent.b (fun q16 => ?_) (fun q16 => ?_)))))
  ·refine Eu (o0 rfl (Ew Z2 (Em rfl (Ei rfl ?_))))
   exact Eu (E.ret (C9 (s9 (s9 (C9 (s9 (Fg rfl rfl () (congrArg (Value.int .i64) (by first | exact V4 om pa q16 | exact S7 om pa)) rfl)))))))
  ·refine Eu (n8 rfl (f9 (s8 (Et (Ez Z2 (Ey rfl ((Y.add rfl rfl om om).yd) (Em rfl ?_)))))))
   exact Eu (B0 br (g + 1) rs (.refl _) ⟨by omega, X4 om pa q16⟩ om)
 ·refine Eu (Eq_ (n8 rfl (E.exit (l3 (l3 (y4 (Et (Ew Z1 (Ei rfl ?_)))))))))
  exact Eu (E.ret (Fg rfl rfl () (congrArg (Value.int .i64) (by first | exact V4 om pa q16 | exact S7 om pa)) rfl))
theorem a5Y {s : List (Int × List Int × Int × Int × Int)} {D_f : (Int × List Int × Int × Int × Int) → Prop} {f : (Int × List Int × Int × Int × Int) → Bool} (hD_f : ∀ x ∈ s, D_f x) : Tr Tryz.prog 199 [.slice a_s m_s c_s, .func (.func f_g) #[] f_c.toArray] (fun w L => Ro w L I4 [.slice a_s m_s c_s] s ∧ FnP Tryz.prog w L f_g f_c a0g a1v D_f f) [] (κ := Unit) (fun k => True) (fun k => .bool (s.any f)) (fun k => []) := by
 refine Tr.intro Tryz.func199 rfl (n := 9) rfl (by decide +kernel) bl (fr := [(0, .slice a_s m_s c_s), (1, .func (.func f_g) #[] f_c.toArray)]) rfl fun w L hR => ?_
 obtain ⟨hs, hf⟩ := hR
 obtain ⟨rfl, ls⟩ := hs.slen
 refine Ew Z1 (Ei rfl (Ev Z5 (Em rfl (Em rfl (Est rfl (o4 (a7w (f := f) (D_f := D_f) hD_f) rfl rfl rfl dc (fun w Lp hA => ⟨hA.ro hs, hA.fn hf⟩)) (fun _ _ => (Ey rfl ((Y.geq rfl rfl).yd) (Ei rfl ?_))))))))
 exact Eu (E.ret (Fb rfl rfl (by exact a0X)))
theorem a2J {s : List (Int × List Int)} {D_f : (Int × List Int) → Prop} {f : (Int × List Int) → Bool} (hD_f : ∀ x ∈ s, D_f x) : Tr Tryz.prog 186 [.slice a_s m_s c_s, .func (.func f_g) #[] f_c.toArray] (fun w L => Ro w L s6 [.slice a_s m_s c_s] s ∧ FnP Tryz.prog w L f_g f_c F6 a1v D_f f) [] (κ := Unit) (fun k => True) (fun k => .int .i64 (J8 f s)) (fun k => []) := by
 refine Tr.intro Tryz.func186 rfl (n := 19) rfl (by decide +kernel) bl (fr := [(0, .slice a_s m_s c_s), (1, .func (.func f_g) #[] f_c.toArray)]) rfl fun w L hR => ?_
 obtain ⟨hs, hf⟩ := hR
 obtain ⟨rfl, ls⟩ := hs.slen
 refine Ew Z1 (Ei rfl (Eu (Eq_ (Ew Z3 (Em rfl (Ey rfl ((Y.len us_Facts rfl).yd) (Em rfl (Eu (E.block (E.loop (κ := Nat) (fun g => g ≤ s.length ∧ ∀ x ∈ s.take g, f x = false) (fun g => [(0, .slice a_s s.length c_s), (1, .func (.func f_g) #[] f_c.toArray), (7, .int .i64 (↑s.length : Int)), (8, .int .i64 (g : Int))]) (fun g => []) (fun g => s.length - g) 0 ⟨by omega, by simp⟩ ⟨rfl, rfl, rfl, rfl, trivial⟩ (.refl _) (fun g pg => ?_)))))))))))
 obtain ⟨pk, pa⟩ := pg
 refine Ew Z1 (Ey rfl ((Y.lss rfl rfl).yd) (n9 (fun q9 => ?_) (fun q9 => ?_)))
 ·refine Eu (Eq_ (o0 rfl (f9 (Et (Eq_ (E.block (Ew Z2 (Em rfl (Ei rfl (Ev Z6 (Em rfl (Em rfl (Em rfl ?_)))))))))))))
  obtain ⟨eb14, eo14, ec14, ea14, er14, el14, eh14⟩ := hs.elem g om
  obtain ⟨xa14_0, xc14_0, rfl, ei14_0, xh14_0⟩ := R0 er14
  have := xh14_0.slen.2
  refine Ey rfl ((w3 us_Facts ty_Fact rfl ea14 rfl g rfl om).yd) (Ey rfl (r9 (cs := [_, _]) ty_Fact rfl (eh14 _) rfl) (Est rfl (N.fn (cs := [_, _]) hf rfl rfl rfl dc (fun w Lp hA => b6V (x := s[g]) ei14_0 (hA.ro xh14_0)) (hD_f _ (List.getElem_mem om))) (fun _ _ => (Ent.b (fun q16 => ?_) (fun q16 => ?_)))))
  ·refine Eu (o0 rfl (Ew Z2 (Em rfl (Ei rfl ?_))))
   exact Eu (E.ret (C9 (s9 (s9 (C9 (s9 (Fg rfl rfl () (congrArg (Value.int .i64) (by first | exact V4 om pa q16 | exact S7 om pa)) rfl)))))))
  ·refine Eu (n8 rfl (f9 (s8 (Et (Ez Z2 (Ey rfl ((Y.add rfl rfl om om).yd) (Em rfl ?_)))))))
   exact Eu (B0 br (g + 1) rs (.refl _) ⟨by omega, X4 om pa q16⟩ om)
 ·refine Eu (Eq_ (n8 rfl (E.exit (l3 (l3 (y4 (Et (Ew Z1 (Ei rfl ?_)))))))))
  exact Eu (E.ret (Fg rfl rfl () (congrArg (Value.int .i64) (by first | exact V4 om pa q16 | exact S7 om pa)) rfl))
theorem a3F {s : List (Int × List Int)} {D_f : (Int × List Int) → Prop} {f : (Int × List Int) → Bool} (hD_f : ∀ x ∈ s, D_f x) : Tr Tryz.prog 226 [.slice a_s m_s c_s, .func (.func f_g) #[] f_c.toArray] (fun w L => Ro w L s6 [.slice a_s m_s c_s] s ∧ FnP Tryz.prog w L f_g f_c F6 a1v D_f f) [] (κ := Unit) (fun k => True) (fun k => .bool (s.any f)) (fun k => []) := by
 refine Tr.intro Tryz.func226 rfl (n := 9) rfl (by decide +kernel) bl (fr := [(0, .slice a_s m_s c_s), (1, .func (.func f_g) #[] f_c.toArray)]) rfl fun w L hR => ?_
 obtain ⟨hs, hf⟩ := hR
 obtain ⟨rfl, ls⟩ := hs.slen
 refine Ew Z1 (Ei rfl (Ev Z5 (Em rfl (Em rfl (Est rfl (o4 (a2J (f := f) (D_f := D_f) hD_f) rfl rfl rfl dc (fun w Lp hA => ⟨hA.ro hs, hA.fn hf⟩)) (fun _ _ => (Ey rfl ((Y.geq rfl rfl).yd) (Ei rfl ?_))))))))
 exact Eu (E.ret (Fb rfl rfl (by exact a0X)))
theorem a8N {s : List (Int × List Int)} {D_f : (Int × List Int) → Prop} {f : (Int × List Int) → Bool} (hD_f : ∀ x ∈ s, D_f x) : Tr Tryz.prog 205 [.slice a_s m_s c_s, .func (.func f_g) #[] f_c.toArray] (fun w L => Ro w L H9 [.slice a_s m_s c_s] s ∧ FnP Tryz.prog w L f_g f_c a2F a1v D_f f) [] (κ := Unit) (fun k => True) (fun k => .int .i64 (J8 f s)) (fun k => []) := by
 refine Tr.intro Tryz.func205 rfl (n := 19) rfl (by decide +kernel) bl (fr := [(0, .slice a_s m_s c_s), (1, .func (.func f_g) #[] f_c.toArray)]) rfl fun w L hR => ?_
 obtain ⟨hs, hf⟩ := hR
 obtain ⟨rfl, ls⟩ := hs.slen
 refine Ew Z1 (Ei rfl (Eu (Eq_ (Ew Z3 (Em rfl (Ey rfl ((Y.len us_Atoms rfl).yd) (Em rfl (Eu (E.block (E.loop (κ := Nat) (fun g => g ≤ s.length ∧ ∀ x ∈ s.take g, f x = false) (fun g => [(0, .slice a_s s.length c_s), (1, .func (.func f_g) #[] f_c.toArray), (7, .int .i64 (↑s.length : Int)), (8, .int .i64 (g : Int))]) (fun g => []) (fun g => s.length - g) 0 ⟨by omega, by simp⟩ ⟨rfl, rfl, rfl, rfl, trivial⟩ (.refl _) (fun g pg => ?_)))))))))))
 obtain ⟨pk, pa⟩ := pg
 refine Ew Z1 (Ey rfl ((Y.lss rfl rfl).yd) (n9 (fun q9 => ?_) (fun q9 => ?_)))
 ·refine Eu (Eq_ (o0 rfl (f9 (Et (Eq_ (E.block (Ew Z2 (Em rfl (Ei rfl (Ev Z6 (Em rfl (Em rfl (Em rfl ?_)))))))))))))
  obtain ⟨eb14, eo14, ec14, ea14, er14, el14, eh14⟩ := hs.elem g om
  obtain ⟨xa14_0, xc14_0, rfl, ei14_0, xh14_0⟩ := a0m er14
  have := xh14_0.slen.2
  refine Ey rfl ((w3 us_Atoms ty_Atom rfl ea14 rfl g rfl om).yd) (Ey rfl (r9 (cs := [_, _]) ty_Atom rfl (eh14 _) rfl) (Est rfl (N.fn (cs := [_, _]) hf rfl rfl rfl dc (fun w Lp hA => b6Y (x := s[g]) ei14_0 (hA.ro xh14_0)) (hD_f _ (List.getElem_mem om))) (fun _ _ => (Ent.b (fun q16 => ?_) (fun q16 => ?_)))))
  ·refine Eu (o0 rfl (Ew Z2 (Em rfl (Ei rfl ?_))))
   exact Eu (E.ret (C9 (s9 (s9 (C9 (s9 (Fg rfl rfl () (congrArg (Value.int .i64) (by first | exact V4 om pa q16 | exact S7 om pa)) rfl)))))))
  ·refine Eu (n8 rfl (f9 (s8 (Et (Ez Z2 (Ey rfl ((Y.add rfl rfl om om).yd) (Em rfl ?_)))))))
   exact Eu (B0 br (g + 1) rs (.refl _) ⟨by omega, X4 om pa q16⟩ om)
 ·refine Eu (Eq_ (n8 rfl (E.exit (l3 (l3 (y4 (Et (Ew Z1 (Ei rfl ?_)))))))))
  exact Eu (E.ret (Fg rfl rfl () (congrArg (Value.int .i64) (by first | exact V4 om pa q16 | exact S7 om pa)) rfl))
theorem a7b {s : List (Int × List Int)} {D_f : (Int × List Int) → Prop} {f : (Int × List Int) → Bool} (hD_f : ∀ x ∈ s, D_f x) : Tr Tryz.prog 147 [.slice a_s m_s c_s, .func (.func f_g) #[] f_c.toArray] (fun w L => Ro w L H9 [.slice a_s m_s c_s] s ∧ FnP Tryz.prog w L f_g f_c a2F a1v D_f f) [] (κ := Unit) (fun k => True) (fun k => .bool (s.any f)) (fun k => []) := by
 refine Tr.intro Tryz.func147 rfl (n := 9) rfl (by decide +kernel) bl (fr := [(0, .slice a_s m_s c_s), (1, .func (.func f_g) #[] f_c.toArray)]) rfl fun w L hR => ?_
 obtain ⟨hs, hf⟩ := hR
 obtain ⟨rfl, ls⟩ := hs.slen
 refine Ew Z1 (Ei rfl (Ev Z5 (Em rfl (Em rfl (Est rfl (o4 (a8N (f := f) (D_f := D_f) hD_f) rfl rfl rfl dc (fun w Lp hA => ⟨hA.ro hs, hA.fn hf⟩)) (fun _ _ => (Ey rfl ((Y.geq rfl rfl).yd) (Ei rfl ?_))))))))
 exact Eu (E.ret (Fb rfl rfl (by exact a0X)))
theorem a8o : Tr Tryz.prog 182 [.int .i64 n] (fun w L => (I64 n) ∧ True) [] (κ := Unit) (fun k => True) (fun k => .bool (!inR n 1 3)) (fun k => []) := by
 refine Tr.intro Tryz.func182 rfl (n := 6) rfl (by decide +kernel) bl (fr := [(0, .int .i64 n)]) rfl fun w L hR => ?_
 obtain ⟨i6n, _⟩ := hR
 refine Ew Z1 (Ei rfl (Ev Z4 (Em rfl (Est rfl (o4 R2 rfl rfl rfl dc tv) (fun _ _ => (Ey rfl ((Y.not rfl).yd) (Ei rfl ?_)))))))
 exact Eu (E.ret (Fb rfl rfl (by simp_all)))
theorem a1V : Tr Tryz.prog 119 [.slice a_s m_s c_s] (fun w L => Ro w L eIs [.slice a_s m_s c_s] s) [] (κ := Unit) (fun k => True) (fun k => .bool (P4 s)) (fun k => []) := by
 refine Tr.intro Tryz.func119 rfl (n := 11) rfl (by decide +kernel) bl (fr := [(0, .slice a_s m_s c_s)]) rfl fun w L hR => ?_
 have hs := hR
 obtain ⟨rfl, ls⟩ := hs.slen
 refine Ew Z1 (Ei rfl (Ev Z9 (Em rfl (Ey rfl ((Y.len us_Is rfl).yd) (Est rfl (o4 R2 rfl rfl rfl dc tv) (fun _ _ => (Ent.b (fun q5 => ?_) (fun q5 => ?_))))))))
 ·refine Em rfl (Em rfl (Est rfl (o4 (a0D (f := (fun n => !inR n 1 3)) (D_f := (fun _ => True)) (by intros; exact trivial)) rfl rfl rfl dc (fun w Lp hA => ⟨hA.ro hs, a3R (D := (fun _ => True)) (fun hd => a8o) (fun w' hk => trivial)⟩)) (fun _ _ => (Ey rfl ((Y.not rfl).yd) (Ey rfl ((x6 rfl rfl).yd) (Ei rfl ?_))))))
  exact Eu (E.ret (Fb rfl rfl (by simp_all [P4])))
 ·refine Em rfl (Es rfl (Es rfl (Es rfl (Ey rfl ((z7 rfl rfl).yd) (Ei rfl ?_)))))
  exact Eu (E.ret (Fb rfl rfl (by simp_all [P4])))
theorem O3 : Tr Tryz.prog 65 [.slice a_s m_s c_s] (fun w L => Ro w L eIs [.slice a_s m_s c_s] s) [] (κ := Unit) (fun k => True) (fun k => .bool (P4 s)) (fun k => []) := by
 refine Tr.intro Tryz.func65 rfl (n := 19) rfl (by decide +kernel) bl (fr := [(0, .slice a_s m_s c_s)]) rfl fun w L hR => ?_
 have hs := hR
 obtain ⟨rfl, ls⟩ := hs.slen
 refine Ew Z1 (Ei rfl (Eu (Eq_ (Ew Z1 (Ei rfl (Eu (E.block (E.loop (κ := Nat) (fun g => g ≤ s.length ∧ ∀ x ∈ s.take g, (!inR x 1 3) = false) (fun g => [(0, .slice a_s s.length c_s), (3, .int .i64 (g : Int))]) (fun g => []) (fun g => s.length - g) 0 ⟨by omega, by simp⟩ ⟨rfl, rfl, trivial⟩ (.refl _) (fun g pg => ?_)))))))))
 obtain ⟨pk, pa⟩ := pg
 refine Eq_ (Ew Z4 (Em rfl (Em rfl (Ey rfl ((Y.len us_Is rfl).yd) (Ey rfl ((Y.lss rfl rfl).yd) (n9 (fun q7 => ?_) (fun q7 => ?_)))))))
 ·refine Eu (o0 rfl (f9 (Et (Eq_ (E.block (Ew Z6 (Em rfl (Em rfl ?_))))))))
  obtain ⟨eb12, eo12, ea12, ei12, eh12⟩ := hs.elemI g om
  refine Ey rfl ((w3 us_Is f5 rfl ea12 rfl g rfl om).yd) (Ey rfl (g9 f5 rfl (eh12 _) rfl) (Est rfl (o4 N7 rfl rfl rfl dc tv) (fun _ _ => (Ent.b (fun q14 => ?_) (fun q14 => ?_)))))
  ·refine Ey rfl ((Y.not (b := true) rfl).yd) (Eu (n8 rfl (f9 (s8 (Et (Ez Z3 (Em rfl (Ey rfl ((Y.add rfl rfl om om).yd) (Ei rfl ?_)))))))))
   exact Eu (B0 br (g + 1) ⟨rfl, rfl, trivial⟩ (.refl _) ⟨by omega, X4 om pa (by simp [q14])⟩ om)
  ·refine Ey rfl ((Y.not (b := false) rfl).yd) (Eu (o0 rfl (Ew Z1 (Ei rfl ?_))))
   exact Eu (E.ret (C9 (s9 (s9 (C9 (s9 (Fb rfl rfl (by first | (have := a7Z (k := g) (s := s) (p := fun x => !inR x 1 3) om (by simpa using q14); rw [P4, this]; simp) | (have := a6A om pa; rw [P4, this]; simp)))))))))
 ·refine Eu (n8 rfl (E.exit (l3 (l3 (y4 (Et (Ew Z4 (Em rfl (Ey rfl ((Y.len us_Is rfl).yd) (Est rfl (o4 N7 rfl rfl rfl dc tv) (fun _ _ => (Ei rfl ?_))))))))))))
  exact Eu (E.ret (Fb rfl rfl (by first | (have := a7Z (k := g) (s := s) (p := fun x => !inR x 1 3) om (by simpa using q14); rw [P4, this]; simp) | (have := a6A om pa; rw [P4, this]; simp))))
theorem a2G {rel : Int} : Tr Tryz.prog 178 [.slice a_s m_s c_s, .int .i64 rel] (fun w L => Ro w L eIs [.slice a_s m_s c_s] s) [] (κ := Unit) (fun k => True) (fun k => .bool (L8 s rel)) (fun k => []) := by
 refine Tr.intro Tryz.func178 rfl (n := 14) rfl (by decide +kernel) bl (fr := [(0, .slice a_s m_s c_s), (1, .int .i64 rel)]) rfl fun w L hR => ?_
 have hs := hR
 obtain ⟨rfl, ls⟩ := hs.slen
 refine Ew Z1 (Ei rfl (Ev Z10 (Em rfl (Est rfl (o4 a1V rfl rfl rfl dc (fun w Lp hA => hA.ro hs)) (fun _ _ => (Ent.b (fun q6 => ?_) (fun q6 => ?_)))))))
 ·refine Em rfl (Em rfl (Em rfl (Ey rfl ((Y.len us_Is rfl).yd) (Ey rfl ((Y.sub rfl rfl om om).yd) (Est rfl (o4 R2 rfl rfl rfl dc tv) (fun _ _ => (Ey rfl ((x6 rfl rfl).yd) (Ei rfl ?_))))))))
  exact Eu (E.ret (Fb rfl rfl (by simp_all [L8])))
 ·refine Em rfl (Es rfl (Es rfl (Es rfl (Es rfl (Es rfl (Ey rfl ((z7 rfl rfl).yd) (Ei rfl ?_)))))))
  exact Eu (E.ret (Fb rfl rfl (by simp_all [L8])))
theorem a5U {i : Int} {b_arity : Nat} : Tr Tryz.prog 255 [.int .i64 i, .pointer (some ⟨b_arity, 0, none⟩)] (fun w L => (I64 i) ∧ RoPt w L b_arity [.int .i64 arity] ∧ -1000 ≤ arity ∧ arity ≤ 1000) [] (κ := Unit) (fun k => True) (fun k => .bool (!inR i 0 (arity - 1))) (fun k => []) := by
 refine Tr.intro Tryz.func255 rfl (n := 9) rfl (by decide +kernel) bl (fr := [(0, .int .i64 i), (1, .pointer (some ⟨b_arity, 0, none⟩))]) rfl fun w L hR => ?_
 obtain ⟨i6i, hb_arity, as0, as1⟩ := hR
 refine Ew Z1 (Ei rfl (Ev Z6 (Em rfl (Ey rfl (g9 f5 rfl (hb_arity.has) rfl) (Ey rfl ((Y.sub rfl rfl om om).yd) (Est rfl (o4 R2 rfl rfl rfl dc tv) (fun _ _ => (Ey rfl ((Y.not rfl).yd) (Ei rfl ?_)))))))))
 exact Eu (E.ret (Fb rfl rfl (by simp_all)))
theorem a7c {l : List Int} : Tr Tryz.prog 239 [.slice a_l m_l c_l, .int .i64 arity] (fun w L => Ro w L eIs [.slice a_l m_l c_l] l ∧ -1000 ≤ arity ∧ arity ≤ 1000) [] (κ := Unit) (fun k => True) (fun k => .bool (S5 l arity)) (fun k => []) := by
 refine Tr.intro Tryz.func239 rfl (n := 9) rfl (by decide +kernel) bl (fr := [(0, .slice a_l m_l c_l), (1, .int .i64 arity)]) rfl fun w L hR => ?_
 obtain ⟨hl, as0, as1⟩ := hR
 obtain ⟨rfl, ll⟩ := hl.slen
 refine Ew Z2 (Est rfl (N.box (cs := [_]) rfl dc rfl) (fun b3 _ => (Ei rfl (Ev Z5 (Em rfl (Ey rfl ((Y.fn (vs := [_]) rfl).yd) (Est rfl (o4 (a0D (f := (fun i => !inR i 0 (arity - 1))) (D_f := (fun _ => True)) (by intros; exact trivial)) rfl rfl rfl dc (fun w Lp hA => ⟨hA.ro hl, a3R (D := (fun _ => True)) (fun hd => a5U) (fun w' hk => ⟨(hA.pt m0).keep hk, (by first | assumption | omega), (by first | assumption | omega)⟩)⟩)) (fun _ _ => (Ey rfl ((Y.not rfl).yd) (Ei rfl ?_))))))))))
 exact Eu (E.ret (Fb rfl rfl (by simp [S5])))
theorem b1M : Tr Tryz.prog 204 [.slice a_s m_s c_s, .agg #[.int .i64 E4, .int .i64 K4, .slice N5 Q4 N4]] (fun w L => Ro w L eIs [.slice a_s m_s c_s] s ∧ I64 E4 ∧ I64 K4 ∧ Ro w L eIs [.slice N5 Q4 N4] G0) [] (κ := Unit) (fun k => True) (fun k => .bool (J5 s (E4, K4, G0))) (fun k => []) := by
 refine Tr.intro Tryz.func204 rfl (n := 36) rfl (by decide +kernel) bl (fr := [(0, .slice a_s m_s c_s), (1, .agg #[.int .i64 E4, .int .i64 K4, .slice N5 Q4 N4])]) rfl fun w L hR => ?_
 obtain ⟨hs, a1w, a3u, W0⟩ := hR
 obtain ⟨rfl, ls⟩ := hs.slen
 obtain ⟨rfl, a6g⟩ := W0.slen
 refine Ew Z2 (Est rfl (N.box (cs := [_, _, _]) rfl dc rfl) (fun b3 _ => (Ei rfl (Eu (Eq_ (D.region (fun j => true) mixed (Dyp 0 rfl (k6 rfl) (Dyp 1 rfl (i8 fo_Rule_0 f5 dc rfl) (Dy 2 rfl (g9 f5 rfl (Hz m0 0 rfl) rfl) (u7 3 rfl rfl kr (fun _ => rfl) (o4 a2G rfl rfl rfl dc (fun w Lp hA => hA.ro hs)) (fun _ _ => (Ent.b (fun q8 => ?_) (fun q8 => ?_)))))))))))))
 ·obtain ⟨z1, z2, z5, z6⟩ := Y0 q8
  rw [R7 om] at z5 z6
  refine Dyp 4 rfl (k6 rfl) (Dyp 5 rfl (k6 rfl) (Dyp 6 rfl (i8 fo_Rule_1 f5 dc rfl) (Dy 7 rfl (g9 f5 rfl (Hz m0 1 rfl) rfl) (u7 8 rfl rfl kr (fun _ => rfl) (o4 a2G rfl rfl rfl dc (fun w Lp hA => hA.ro hs)) (fun _ _ => (Ent.b (fun q13 => ?_) (fun q13 => ?_)))))))
  ·obtain ⟨z3, z4, _, _⟩ := Y0 q13
   refine Dyp 9 rfl (x6 rfl rfl) (Dyp 10 rfl (k6 rfl) (Dyp 11 rfl (i8 fo_Rule_2 ty_Is dc rfl) (Dy 12 rfl (g9 ty_Is rfl (Hz m0 2 rfl) rfl) (Dyp 13 rfl (Y.len us_Is rfl) (Dyp 14 rfl (k6 rfl) (Dyp 15 rfl (i8 fo_Rule_1 f5 dc rfl) (Dy 16 rfl (g9 f5 rfl (Hz m0 1 rfl) rfl) ?_)))))))
   obtain ⟨eb22, eo22, ea22, ei22, eh22⟩ := hs.elemI K4.toNat om
   refine Dyp 17 rfl (w3 us_Is f5 rfl ea22 rfl K4.toNat om om) (Dy 18 rfl (g9 f5 rfl (eh22 _) rfl) (Dyp 19 rfl (Y.eql rfl rfl) (n9 (fun q24 => ?_) (fun q24 => ?_))))
   ·refine Dyp 20 rfl (x6 rfl rfl) (Dyp 21 rfl (k6 rfl) (Dyp 22 rfl (i8 fo_Rule_2 ty_Is dc rfl) (Dy 23 rfl (g9 ty_Is rfl (Hz m0 2 rfl) rfl) (Dyp 24 rfl (k6 rfl) (Dyp 25 rfl (i8 fo_Rule_0 f5 dc rfl) (Dy 26 rfl (g9 f5 rfl (Hz m0 0 rfl) rfl) ?_))))))
    obtain ⟨eb32, eo32, ea32, ei32, eh32⟩ := hs.elemI E4.toNat om
    refine Dyp 27 rfl (w3 us_Is f5 rfl ea32 rfl E4.toNat om om) (Dy 28 rfl (g9 f5 rfl (eh32 _) rfl) (u7 29 rfl rfl kr (fun _ => rfl) (o4 a7c rfl rfl rfl dc (fun w Lp hA => ⟨hA.ro W0, (by first | assumption | omega), (by first | assumption | omega)⟩)) (fun _ _ => (Dyp 30 rfl (x6 rfl rfl) (Dyp 31 rfl (F1 rfl) ?_)))))
    exact t6 kr (Et (E.ret (Fb rfl rfl (by first | (simp [J5, q8]; done) | (simp [J5, q8, q13]; done) | (simp only [J5, q8, q13, G3 (show E4.toNat < s.length by omega), G3 (show K4.toNat < s.length by omega)]; simp [q24])))))
   ·refine Dyp 20 rfl (x6 rfl rfl) (Dyp 21 rfl (k6 rfl) (Dsk 22 rfl (Dsk 23 rfl (Dsk 24 rfl (Dsk 25 rfl (Dsk 26 rfl (Dsk 27 rfl (Dsk 28 rfl (Dsk 29 rfl (Dyp 30 rfl (z7 rfl rfl) (Dyp 31 rfl (F1 rfl) ?_)))))))))))
    exact t6 kr (Et (E.ret (Fb rfl rfl (by first | (simp [J5, q8]; done) | (simp [J5, q8, q13]; done) | (simp only [J5, q8, q13, G3 (show E4.toNat < s.length by omega), G3 (show K4.toNat < s.length by omega)]; simp [q24])))))
  ·refine Dyp 9 rfl (x6 rfl rfl) (Dyp 10 rfl (k6 rfl) (Dsk 11 rfl (Dsk 12 rfl (Dsk 13 rfl (Dsk 14 rfl (Dsk 15 rfl (Dsk 16 rfl (Dsk 17 rfl (Dsk 18 rfl (Dsk 19 rfl (Dyp 20 rfl (z7 rfl rfl) (Dyp 21 rfl (k6 rfl) (Dsk 22 rfl (Dsk 23 rfl ?_))))))))))))))
   refine Dsk 24 rfl (Dsk 25 rfl (Dsk 26 rfl (Dsk 27 rfl (Dsk 28 rfl (Dsk 29 rfl (Dyp 30 rfl (z7 rfl rfl) (Dyp 31 rfl (F1 rfl) ?_)))))))
   exact t6 kr (Et (E.ret (Fb rfl rfl (by first | (simp [J5, q8]; done) | (simp [J5, q8, q13]; done) | (simp only [J5, q8, q13, G3 (show E4.toNat < s.length by omega), G3 (show K4.toNat < s.length by omega)]; simp [q24])))))
 ·refine Dyp 4 rfl (k6 rfl) (Dsk 5 rfl (Dsk 6 rfl (Dsk 7 rfl (Dsk 8 rfl (Dyp 9 rfl (z7 rfl rfl) (Dyp 10 rfl (k6 rfl) (Dsk 11 rfl (Dsk 12 rfl (Dsk 13 rfl (Dsk 14 rfl (Dsk 15 rfl (Dsk 16 rfl (Dsk 17 rfl (Dsk 18 rfl ?_))))))))))))))
  refine Dsk 19 rfl (Dyp 20 rfl (z7 rfl rfl) (Dyp 21 rfl (k6 rfl) (Dsk 22 rfl (Dsk 23 rfl (Dsk 24 rfl (Dsk 25 rfl (Dsk 26 rfl (Dsk 27 rfl (Dsk 28 rfl (Dsk 29 rfl (Dyp 30 rfl (z7 rfl rfl) (Dyp 31 rfl (F1 rfl) ?_))))))))))))
  exact t6 kr (Et (E.ret (Fb rfl rfl (by first | (simp [J5, q8]; done) | (simp [J5, q8, q13]; done) | (simp only [J5, q8, q13, G3 (show E4.toNat < s.length by omega), G3 (show K4.toNat < s.length by omega)]; simp [q24])))))
theorem b1N : Tr Tryz.prog 87 [.slice a_s m_s c_s, .agg #[.int .i64 E4, .int .i64 K4, .slice N5 Q4 N4]] (fun w L => Ro w L eIs [.slice a_s m_s c_s] s ∧ I64 E4 ∧ I64 K4 ∧ Ro w L eIs [.slice N5 Q4 N4] G0) [] (κ := Unit) (fun k => True) (fun k => .bool (J5 s (E4, K4, G0))) (fun k => []) := by
 refine Tr.intro Tryz.func87 rfl (n := 58) rfl (by decide +kernel) bl (fr := [(0, .slice a_s m_s c_s), (1, .agg #[.int .i64 E4, .int .i64 K4, .slice N5 Q4 N4])]) rfl fun w L hR => ?_
 obtain ⟨hs, a1w, a3u, W0⟩ := hR
 obtain ⟨rfl, ls⟩ := hs.slen
 obtain ⟨rfl, a6g⟩ := W0.slen
 refine Ew Z2 (Est rfl (N.box (cs := [_, _, _]) rfl dc rfl) (fun b3 _ => (Ei rfl (Eu (Eq_ (Eq_ (D.region (fun j => true) mixed (Dyp 0 rfl (k6 rfl) (u7 1 rfl rfl kr (fun _ => rfl) (o4 O3 rfl rfl rfl dc (fun w Lp hA => hA.ro hs)) (fun _ _ => (Ent.b (fun q7 => ?_) (fun q7 => ?_))))))))))))
 ·refine Dyp 2 rfl (Y.not (b := true) rfl) (Dyp 3 rfl (k6 rfl) (Dyp 4 rfl (i8 fo_Rule_0 f5 dc rfl) (Dy 5 rfl (g9 f5 rfl (Hz m0 0 rfl) rfl) (Dyp 6 rfl (k6 rfl) (Dyp 7 rfl (Y.len us_Is rfl) (Dyp 8 rfl (Y.sub rfl rfl om om) (u7 9 rfl rfl kr (fun _ => rfl) (o4 N7 rfl rfl rfl dc tv) (fun _ _ => (Ent.b (fun q15 => ?_) (fun q15 => ?_))))))))))
  ·have y1 : L8 s E4 = true := by rw [L8, q7, q15]; rfl
   obtain ⟨z1, z2, z5, z6⟩ := Y0 y1
   rw [R7 om] at z5 z6
   refine Dyp 10 rfl (Y.not (b := true) rfl) (Dyp 11 rfl (z7 rfl rfl) (Dyp 12 rfl (k6 rfl) (Dyp 13 rfl (i8 fo_Rule_1 f5 dc rfl) (Dy 14 rfl (g9 f5 rfl (Hz m0 1 rfl) rfl) (Dyp 15 rfl (k6 rfl) (Dyp 16 rfl (Y.len us_Is rfl) (Dyp 17 rfl (Y.sub rfl rfl om om) (u7 18 rfl rfl kr (fun _ => rfl) (o4 N7 rfl rfl rfl dc tv) (fun _ _ => (Ent.b (fun q24 => ?_) (fun q24 => ?_)))))))))))
   ·have y2 : L8 s K4 = true := by rw [L8, q7, q24]; rfl
    obtain ⟨z3, z4, _, _⟩ := Y0 y2
    refine Dyp 19 rfl (Y.not (b := true) rfl) (Dyp 20 rfl (z7 rfl rfl) (Dyp 21 rfl (k6 rfl) (Dyp 22 rfl (i8 fo_Rule_2 ty_Is dc rfl) (Dy 23 rfl (g9 ty_Is rfl (Hz m0 2 rfl) rfl) (Dyp 24 rfl (Y.len us_Is rfl) (Dyp 25 rfl (k6 rfl) (Dyp 26 rfl (i8 fo_Rule_1 f5 dc rfl) (Dy 27 rfl (g9 f5 rfl (Hz m0 1 rfl) rfl) ?_))))))))
    obtain ⟨eb34, eo34, ea34, ei34, eh34⟩ := hs.elemI K4.toNat om
    refine Dyp 28 rfl (w3 us_Is f5 rfl ea34 rfl K4.toNat om om) (Dy 29 rfl (g9 f5 rfl (eh34 _) rfl) (Dyp 30 rfl (Y.neq rfl rfl) (n9 (fun q36 => ?_) (fun q36 => ?_))))
    ·refine Dyp 31 rfl (z7 rfl rfl) (t6 kr (Et (o0 rfl (Ew Z1 (Ei rfl ?_)))))
     exact Eu (E.ret (s9 (Fb rfl rfl (by exact b5x (G3 (i := K4) (show K4.toNat < s.length by omega)) q36))))
    ·refine Dyp 31 rfl (z7 rfl rfl) (t6 kr (Et (n8 rfl (f9 (Et (Eq_ (Ew Z1 (Ei rfl (Eu (E.block (E.loop (κ := Nat) (fun g => g ≤ G0.length ∧ ∀ x ∈ G0.take g, (!inR x 0 (s[E4.toNat] - 1)) = false) (fun g => [(0, .slice a_s s.length c_s), (3, .pointer (some ⟨b3, 0, none⟩)), (5, .int .i64 (g : Int))]) (fun g => [pt b3 116 [.int .i64 E4, .int .i64 K4, .slice N5 G0.length N4]]) (fun g => G0.length - g) 0 ⟨by omega, by simp⟩ ⟨rfl, rfl, rfl, trivial⟩ (.refl _) (fun g pg => ?_))))))))))))
     obtain ⟨pk, pa⟩ := pg
     refine Eq_ (Ew Z5 (Em rfl (Ey rfl ((i8 fo_Rule_2 ty_Is dc rfl).yd) (Ey rfl (g9 ty_Is rfl (Hz m0 2 rfl) rfl) (Ey rfl ((Y.len us_Is rfl).yd) (Ey rfl ((Y.lss rfl rfl).yd) (n9 (fun q42 => ?_) (fun q42 => ?_))))))))
     ·refine Eu (o0 rfl (f9 (Et (Eq_ (E.block (Eq_ (D.region (fun j => true) mixed (Dyp 0 rfl (i8 fo_Rule_2 ty_Is dc rfl) (Dy 1 rfl (g9 ty_Is rfl (Hz m0 2 rfl) rfl) (Dyp 2 rfl (k6 rfl) ?_))))))))))
      obtain ⟨eb48, eo48, ea48, ei48, eh48⟩ := W0.elemI g om
      refine Dyp 3 rfl (w3 us_Is f5 rfl ea48 rfl g rfl om) (Dy 4 rfl (g9 f5 rfl (eh48 _) rfl) (Dyp 5 rfl (k6 rfl) (Dyp 6 rfl (i8 fo_Rule_0 f5 dc rfl) (Dy 7 rfl (g9 f5 rfl (Hz m0 0 rfl) rfl) ?_))))
      obtain ⟨eb53, eo53, ea53, ei53, eh53⟩ := hs.elemI E4.toNat om
      refine Dyp 8 rfl (w3 us_Is f5 rfl ea53 rfl E4.toNat om om) (Dy 9 rfl (g9 f5 rfl (eh53 _) rfl) (Dyp 10 rfl (Y.sub rfl rfl om om) (u7 11 rfl rfl kr (fun _ => rfl) (o4 N7 rfl rfl rfl dc tv) (fun _ _ => (Ent.b (fun q56 => ?_) (fun q56 => ?_))))))
      ·refine Dyp 12 rfl (Y.not (b := true) rfl) (t6 kr (Et (n8 rfl (f9 (s8 (Et (Ez Z3 (Em rfl (Ey rfl ((Y.add rfl rfl om om).yd) (Ei rfl ?_))))))))))
       exact Eu (B0 br (g + 1) rs (.refl _) ⟨by omega, X4 om pa (by rw [q56]; rfl)⟩ om)
      ·refine Dyp 12 rfl (Y.not (b := false) rfl) (t6 kr (Et (o0 rfl (Ew Z1 (Ei rfl ?_)))))
       exact Eu (E.ret (C9 (s9 (s9 (C9 (s9 (Fb rfl rfl (by exact b5D (G3 (i := E4) (show E4.toNat < s.length by omega)) (by rw [S5, a7Z (k := g) (show g < G0.length by omega) (by rw [q56]; rfl)]; rfl)))))))))
     ·refine Eu (n8 rfl (E.exit (l3 (l3 (y4 (Et (Ew Z1 (Ei rfl ?_))))))))
      exact Eu (E.ret (Fb rfl rfl (by exact b5n y1 y2 (G3 (i := E4) (show E4.toNat < s.length by omega)) (G3 (i := K4) (show K4.toNat < s.length by omega)) (show (G0.length : Int) = s[K4.toNat] by omega) (by rw [S5, a6A (show ¬ g < G0.length by omega) pa]; rfl))))
   ·refine Dyp 19 rfl (Y.not (b := false) rfl) (Dyp 20 rfl (z7 rfl rfl) (Dyp 21 rfl (k6 rfl) (Dsk 22 rfl (Dsk 23 rfl (Dsk 24 rfl (Dsk 25 rfl (Dsk 26 rfl (Dsk 27 rfl (Dsk 28 rfl (Dsk 29 rfl (Dsk 30 rfl (Dyp 31 rfl (x6 rfl rfl) (t6 kr (Et (o0 rfl (Ew Z1 (Ei rfl ?_)))))))))))))))))
    exact Eu (E.ret (s9 (Fb rfl rfl (by exact b5i (b2M q24)))))
  ·refine Dyp 10 rfl (Y.not (b := false) rfl) (Dyp 11 rfl (z7 rfl rfl) (Dyp 12 rfl (k6 rfl) (Dsk 13 rfl (Dsk 14 rfl (Dsk 15 rfl (Dsk 16 rfl (Dsk 17 rfl (Dsk 18 rfl (Dsk 19 rfl (Dyp 20 rfl (x6 rfl rfl) (Dyp 21 rfl (k6 rfl) (Dsk 22 rfl (Dsk 23 rfl (Dsk 24 rfl ?_))))))))))))))
   refine Dsk 25 rfl (Dsk 26 rfl (Dsk 27 rfl (Dsk 28 rfl (Dsk 29 rfl (Dsk 30 rfl (Dyp 31 rfl (x6 rfl rfl) (t6 kr (Et (o0 rfl (Ew Z1 (Ei rfl ?_)))))))))))
   exact Eu (E.ret (s9 (Fb rfl rfl (by exact a9s (b2M q15)))))
 ·refine Dyp 2 rfl (Y.not (b := false) rfl) (Dyp 3 rfl (k6 rfl) (Dsk 4 rfl (Dsk 5 rfl (Dsk 6 rfl (Dsk 7 rfl (Dsk 8 rfl (Dsk 9 rfl (Dsk 10 rfl (Dyp 11 rfl (x6 rfl rfl) (Dyp 12 rfl (k6 rfl) (Dsk 13 rfl (Dsk 14 rfl (Dsk 15 rfl (Dsk 16 rfl ?_))))))))))))))
  refine Dsk 17 rfl (Dsk 18 rfl (Dsk 19 rfl (Dyp 20 rfl (x6 rfl rfl) (Dyp 21 rfl (k6 rfl) (Dsk 22 rfl (Dsk 23 rfl (Dsk 24 rfl (Dsk 25 rfl (Dsk 26 rfl (Dsk 27 rfl (Dsk 28 rfl (Dsk 29 rfl (Dsk 30 rfl (Dyp 31 rfl (x6 rfl rfl) ?_))))))))))))))
  refine t6 kr (Et (o0 rfl (Ew Z1 (Ei rfl ?_))))
  exact Eu (E.ret (s9 (Fb rfl rfl (by exact a9s (b5W q7)))))
theorem a8r {b_s : Nat} : Tr Tryz.prog 203 [.agg #[.int .i64 E4, .int .i64 K4, .slice N5 Q4 N4], .pointer (some ⟨b_s, 0, none⟩)] (fun w L => (I64 E4 ∧ I64 K4 ∧ Ro w L eIs [.slice N5 Q4 N4] G0) ∧ RoPt w L b_s [.slice a_s m_s c_s] ∧ Ro w L eIs [.slice a_s m_s c_s] s) [] (κ := Unit) (fun k => True) (fun k => .bool (!J5 s (E4, K4, G0))) (fun k => []) := by
 refine Tr.intro Tryz.func203 rfl (n := 8) rfl (by decide +kernel) bl (fr := [(0, .agg #[.int .i64 E4, .int .i64 K4, .slice N5 Q4 N4]), (1, .pointer (some ⟨b_s, 0, none⟩))]) rfl fun w L hR => ?_
 obtain ⟨⟨a1w, a3u, W0⟩, hb_s, hs⟩ := hR
 obtain ⟨rfl, a6g⟩ := W0.slen
 obtain ⟨rfl, ls⟩ := hs.slen
 refine Ew Z2 (Est rfl (N.box (cs := [_, _, _]) rfl dc rfl) (fun b2 _ => (Ei rfl (Ev Z5 (Ey rfl (g9 ty_Is rfl (hb_s.has) rfl) (Ey rfl (r9 (cs := [_, _, _]) ty_Rule rfl (Has.pt m0) rfl) (Est rfl (o4 b1M rfl rfl rfl dc (fun w Lp hA => ⟨hA.ro hs, a1w, a3u, hA.ro W0⟩)) (fun _ _ => (Ey rfl ((Y.not rfl).yd) (Ei rfl ?_))))))))))
 exact Eu (E.ret (Fb rfl rfl (by simp_all)))
theorem a9J : Tr Tryz.prog 144 [.slice a_s m_s c_s, .slice a_l m_l c_l] (fun w L => Ro w L eIs [.slice a_s m_s c_s] s ∧ Ro w L G9 [.slice a_l m_l c_l] l) [] (κ := Unit) (fun k => True) (fun k => .bool (C4 s l)) (fun k => []) := by
 refine Tr.intro Tryz.func144 rfl (n := 18) rfl (by decide +kernel) bl (fr := [(0, .slice a_s m_s c_s), (1, .slice a_l m_l c_l)]) rfl fun w L hR => ?_
 obtain ⟨hs, hl⟩ := hR
 obtain ⟨rfl, ls⟩ := hs.slen
 obtain ⟨rfl, ll⟩ := hl.slen
 refine Ew Z2 (Est rfl (N.box (cs := [_]) rfl dc rfl) (fun b2 _ => (Ei rfl (Ev Z14 (Ey rfl (g9 ty_Is rfl (Has.pt m0) rfl) (Est rfl (o4 a1V rfl rfl rfl dc (fun w Lp hA => hA.ro hs)) (fun _ _ => (Ent.b (fun q6 => ?_) (fun q6 => ?_)))))))))
 ·refine Em rfl (Em rfl (Ey rfl ((Y.len us_Rules rfl).yd) (Ey rfl ((Y.leq rfl rfl).yd) (n9 (fun q10 => ?_) (fun q10 => ?_)))))
  ·refine Ey rfl ((x6 rfl rfl).yd) (Em rfl (Em rfl (Ey rfl ((Y.fn (vs := [_]) rfl).yd) (Est rfl (o4 (a6Z (f := (fun z => !J5 s z)) (D_f := (fun _ => True)) (by intros; exact trivial)) rfl rfl rfl dc (fun w Lp hA => ⟨hA.ro hl, b0b (D := (fun _ => True)) (fun hd => a8r) (fun w' hk => ⟨(hA.pt m0).keep hk, (hA.ro hs).keep hk⟩)⟩)) (fun _ _ => (Ey rfl ((Y.not rfl).yd) (Ey rfl ((x6 rfl rfl).yd) (Ei rfl ?_))))))))
   exact Eu (E.ret (Fb rfl rfl (by rw [C4, q6, decide_eq_true (show (l.length : Int) ≤ 4 by omega)]; rfl)))
  ·refine Ey rfl ((x6 rfl rfl).yd) (Em rfl (Es rfl (Es rfl (Es rfl (Es rfl (Ey rfl ((z7 rfl rfl).yd) (Ei rfl ?_)))))))
   exact Eu (E.ret (Fb rfl rfl (by rw [C4, decide_eq_false (show ¬ (l.length : Int) ≤ 4 by omega)]; simp)))
 ·refine Em rfl (Es rfl (Es rfl (Es rfl (Ey rfl ((z7 rfl rfl).yd) (Em rfl (Es rfl (Es rfl (Es rfl (Es rfl (Ey rfl ((z7 rfl rfl).yd) (Ei rfl ?_)))))))))))
  exact Eu (E.ret (Fb rfl rfl (by rw [C4, q6]; rfl)))
theorem a5n : Tr Tryz.prog 30 [.slice a_s m_s c_s, .slice a_l m_l c_l] (fun w L => Ro w L eIs [.slice a_s m_s c_s] s ∧ Ro w L G9 [.slice a_l m_l c_l] l) [] (κ := Unit) (fun k => True) (fun k => .bool (C4 s l)) (fun k => []) := by
 refine Tr.intro Tryz.func30 rfl (n := 26) rfl (by decide +kernel) bl (fr := [(0, .slice a_s m_s c_s), (1, .slice a_l m_l c_l)]) rfl fun w L hR => ?_
 obtain ⟨hs, hl⟩ := hR
 obtain ⟨rfl, ls⟩ := hs.slen
 obtain ⟨rfl, ll⟩ := hl.slen
 refine Ew Z1 (Ei rfl (Eu (Eq_ (Ew Z1 (Ei rfl (Eu (E.block (E.loop (κ := Nat) (fun g => g ≤ l.length ∧ ∀ x ∈ l.take g, (!J5 s x) = false) (fun g => [(0, .slice a_s s.length c_s), (1, .slice a_l l.length c_l), (5, .int .i64 (g : Int))]) (fun g => []) (fun g => l.length - g) 0 ⟨by omega, by simp⟩ ⟨rfl, rfl, rfl, trivial⟩ (.refl _) (fun g pg => ?_)))))))))
 obtain ⟨pk, pa⟩ := pg
 refine Eq_ (Ew Z4 (Em rfl (Em rfl (Ey rfl ((Y.len us_Rules rfl).yd) (Ey rfl ((Y.lss rfl rfl).yd) (n9 (fun q9 => ?_) (fun q9 => ?_)))))))
 ·refine Eu (o0 rfl (f9 (Et (Eq_ (E.block (Ew Z7 (Em rfl (Em rfl (Em rfl ?_)))))))))
  obtain ⟨eb15, eo15, ec15, ea15, er15, el15, eh15⟩ := hl.elem g om
  obtain ⟨xa15_0, xc15_0, rfl, ei15_0, ei15_1, xh15_0⟩ := a1z er15
  have := xh15_0.slen.2
  refine Ey rfl ((w3 us_Rules ty_Rule rfl ea15 rfl g rfl om).yd) (Ey rfl (r9 (cs := [_, _, _]) ty_Rule rfl (eh15 _) rfl) (Est rfl (o4 b1N rfl rfl rfl dc (fun w Lp hA => ⟨hA.ro hs, ei15_0, ei15_1, hA.ro xh15_0⟩)) (fun _ _ => (Ent.b (fun q17 => ?_) (fun q17 => ?_)))))
  ·refine Ey rfl ((Y.not (b := true) rfl).yd) (Eu (n8 rfl (f9 (s8 (Et (Ez Z3 (Em rfl (Ey rfl ((Y.add rfl rfl om om).yd) (Ei rfl ?_)))))))))
   exact Eu (B0 br (g + 1) rs (.refl _) ⟨by omega, X4 om pa (by rw [show J5 s l[g] = true from q17]; rfl)⟩ om)
  ·refine Ey rfl ((Y.not (b := false) rfl).yd) (Eu (o0 rfl (Ew Z1 (Ei rfl ?_))))
   exact Eu (E.ret (C9 (s9 (s9 (C9 (s9 (Fb rfl rfl (by rw [C4, a7Z (p := fun r => !J5 s r) (show g < l.length by omega) (by rw [show J5 s l[g] = false from q17]; rfl)]; simp))))))))
 ·refine Eu (n8 rfl (E.exit (l3 (l3 (y4 (Et (Ew Z8 (Em rfl (Est rfl (o4 O3 rfl rfl rfl dc (fun w Lp hA => hA.ro hs)) (fun _ _ => (Ent.b (fun q20 => ?_) (fun q20 => ?_))))))))))))
  ·refine Em rfl (Em rfl (Ey rfl ((Y.len us_Rules rfl).yd) (Ey rfl ((Y.leq rfl rfl).yd) (Ey rfl ((x6 rfl rfl).yd) (Ei rfl ?_)))))
   exact Eu (E.ret (Fb rfl rfl (by rw [C4, q20, a6A (p := fun r => !J5 s r) (show ¬ g < l.length by omega) pa]; simp)))
  ·refine Em rfl (Es rfl (Es rfl (Es rfl (Ey rfl ((z7 rfl rfl).yd) (Ei rfl ?_)))))
   exact Eu (E.ret (Fb rfl rfl (by rw [C4, q20]; rfl)))
end Go.Proofs.YtlfhopooaejpfaaGreat
