import Derived.Test.YthapcdhdfaibkaaGreatDoorBq
namespace Go.Proofs.YthapcdhdfaibkaaGreatDoor
open Go.RowKit
set_option linter.all false
set_option maxHeartbeats 2000000
attribute [local irreducible] Nop Yd Yp Ent Has Tr FnP FnP2 Src
variable {f_g : FuncId} {low high n : Int} {s : List IL} {f_c : List Value} {m_s c_s : Nat} {a_s : Option Addr}
theorem K4 {x : Int} : TB Tryz.prog 145 [.int .i64 x, .int .i64 low, .int .i64 high] (fun w L => True) (inR x low high) := by
 refine Ti3 Tryz.func145 15 rfl fun w L hR => Ew Z1<|Ei rfl<|Ev Z9<|Em rfl<|Em rfl<|Ey rfl ((Y.geq rfl rfl).yd)<|l3 (fun q9 => ?_)<|fun q9 => ?_
 ·refine Em rfl<|Em rfl<|Em rfl<|Ey rfl ((Y.leq rfl rfl).yd)<|Ypt rfl<|Ei rfl ?_
  exact Eu<|E.ret<|Fb rfl rfl (by simp_all [inR]; try omega)
 ·refine Em rfl<|Es rfl<|Es rfl<|Es rfl<|Ypf rfl<|Ei rfl ?_
  exact Eu<|E.ret<|Fb rfl rfl (by simp_all [inR]; try omega)
theorem O9 : TB Tryz.prog 150 [.int .i64 n, .int .i64 low, .int .i64 high] (fun w L => True) (inR n low high) := by
 refine Ti3 Tryz.func150 15 rfl fun w L hR => Ew Z1<|Ei rfl<|Ev Z9<|Em rfl<|Em rfl<|Ey rfl ((Y.geq rfl rfl).yd)<|l3 (fun q9 => ?_)<|fun q9 => ?_
 ·refine Em rfl<|Em rfl<|Em rfl<|Ey rfl ((Y.leq rfl rfl).yd)<|Ypt rfl<|Ei rfl ?_
  exact Eu<|E.ret<|Fb rfl rfl (by simp_all [inR]; try omega)
 ·refine Em rfl<|Es rfl<|Es rfl<|Es rfl<|Ypf rfl<|Ei rfl ?_
  exact Eu<|E.ret<|Fb rfl rfl (by simp_all [inR]; try omega)
theorem b1E {s : List Int} {D_f : Int → Prop} {f : Int → Bool} (hD_f : ∀ x ∈ s, D_f x) : Tr Tryz.prog 231 [.slice a_s m_s c_s, .func (.func f_g) #[] f_c.toArray] (fun w L => Ro w L eIs [.slice a_s m_s c_s] s ∧ FnP Tryz.prog w L f_g f_c Enc.int a7s D_f f) [] (κ := Unit) (fun k => True) (fun k => .int .i64 (J0 f s)) (fun k => []) := by
 refine Ti2 Tryz.func231 19 rfl fun w L hR => ?_
 obtain ⟨hs, hf⟩ := hR
 obtain ⟨rfl, ls⟩ := hs.slen
 refine Ew Z1<|Ei rfl<|Eu<|Eq_<|Ew Z3<|Em rfl<|Yln us_Is rfl<|Em rfl<|Eu<|E.block<|Lo (κ := Nat) (fun g => g ≤ s.length ∧ ∀ x ∈ s.take g, f x = false) (fun g => [(0, .slice a_s s.length c_s), (1, .func (.func f_g) #[] f_c.toArray), (7, .int .i64 (↑s.length : Int)), (8, .int .i64 (g : Int))]) (fun g => []) (fun g => s.length - g) 0 ⟨by omega, by simp⟩<|fun g pg => ?_
 obtain ⟨pk, pa⟩ := pg
 refine Ew Z1<|Ylt rfl<|l3 (fun q9 => ?_)<|fun q9 => ?_
 ·refine Eu<|Eq_<|Ct<|Eq_<|E.block<|Ew Z2<|Em rfl<|Ei rfl<|Ev Z6<|Em rfl<|Em rfl<|Em rfl ?_
  obtain ⟨eb14, eo14, ea14, ei14, eh14⟩ := hs.elemI g om
  refine Il us_Is i7 rfl ea14 g rfl om rfl (eh14 _)<|Est rfl (N.fn (cs := [_]) hf rfl rfl rfl dc (fun w Lp hA => Y1 ei14)<|hD_f _<|List.getElem_mem om)<|fun _ _ => Ent.b (fun q16 => ?_)<|fun q16 => ?_
  ·refine Eu<|r6 rfl<|Ew Z2<|Em rfl<|Ei rfl<|Eu<|E.ret<|u6<|i9<|i9<|u6<|i9<|Fg rfl rfl () (congrArg (Value.int .i64) (by first | exact Q4 om pa q16 | exact P1 om pa)) rfl
  ·refine Eu<|r7 rfl<|v8<|o6<|Et<|Ez Z2<|Yad rfl om om<|Em rfl ?_
   exact Eu<|t7 br (g + 1) rs (.refl _) ⟨by omega, U7 om pa q16⟩ om
 ·refine Eu<|Eq_<|r7 rfl<|E.exit<|l4<|l4<|w8<|Et<|Ew Z1<|Ei rfl<|Eu<|E.ret<|Fg rfl rfl () (congrArg (Value.int .i64) (by first | exact Q4 om pa q16 | exact P1 om pa)) rfl
theorem X8 {s : List Int} {D_f : Int → Prop} {f : Int → Bool} (hD_f : ∀ x ∈ s, D_f x) : TB Tryz.prog 120 [.slice a_s m_s c_s, .func (.func f_g) #[] f_c.toArray] (fun w L => Ro w L eIs [.slice a_s m_s c_s] s ∧ FnP Tryz.prog w L f_g f_c Enc.int a7s D_f f) (s.any f) := by
 refine Ti2 Tryz.func120 9 rfl fun w L hR => ?_
 obtain ⟨hs, hf⟩ := hR
 obtain ⟨rfl, ls⟩ := hs.slen
 refine Ew Z1<|Ei rfl<|Ev Z5<|Em rfl<|Em rfl<|E0 rfl (b1E (f := f) (D_f := D_f) hD_f) rfl (fun hA => ⟨hA.ro hs, hA.fn hf⟩)<|Ey rfl ((Y.geq rfl rfl).yd)<|Ei rfl<|Eu<|E.ret<|Fb rfl rfl (by exact a0p)
theorem a7y {D_f : IL → Prop} {f : IL → Bool} (hD_f : ∀ x ∈ s, D_f x) : Tr Tryz.prog 298 [.slice a_s m_s c_s, .func (.func f_g) #[] f_c.toArray] (fun w L => Ro w L z6 [.slice a_s m_s c_s] s ∧ FnP Tryz.prog w L f_g f_c T3 a0P D_f f) [] (κ := Unit) (fun k => True) (fun k => .int .i64 (J0 f s)) (fun k => []) := by
 refine Ti2 Tryz.func298 19 rfl fun w L hR => ?_
 obtain ⟨hs, hf⟩ := hR
 obtain ⟨rfl, ls⟩ := hs.slen
 refine Ew Z1<|Ei rfl<|Eu<|Eq_<|Ew Z3<|Em rfl<|Yln us_Accesss rfl<|Em rfl<|Eu<|E.block<|Lo (κ := Nat) (fun g => g ≤ s.length ∧ ∀ x ∈ s.take g, f x = false) (fun g => [(0, .slice a_s s.length c_s), (1, .func (.func f_g) #[] f_c.toArray), (7, .int .i64 (↑s.length : Int)), (8, .int .i64 (g : Int))]) (fun g => []) (fun g => s.length - g) 0 ⟨by omega, by simp⟩<|fun g pg => ?_
 obtain ⟨pk, pa⟩ := pg
 refine Ew Z1<|Ylt rfl<|l3 (fun q9 => ?_)<|fun q9 => ?_
 ·refine Eu<|Eq_<|Ct<|Eq_<|E.block<|Ew Z2<|Em rfl<|Ei rfl<|Ev Z6<|Em rfl<|Em rfl<|Em rfl ?_
  obtain ⟨eb14, eo14, ec14, ea14, er14, el14, eh14⟩ := hs.elem g om
  obtain ⟨xa14_0, xc14_0, rfl, ei14_0, xh14_0⟩ := X7 er14
  have := xh14_0.slen.2
  refine Ix us_Accesss ty_Access rfl ea14 g rfl om<|Ey rfl (k7 (cs := [_, _]) ty_Access rfl (eh14 _) rfl)<|Est rfl (N.fn (cs := [_, _]) hf rfl rfl rfl dc (fun w Lp hA => b3z (x := s[g]) ei14_0<|hA.ro xh14_0)<|hD_f _<|List.getElem_mem om)<|fun _ _ => Ent.b (fun q16 => ?_)<|fun q16 => ?_
  ·refine Eu<|r6 rfl<|Ew Z2<|Em rfl<|Ei rfl<|Eu<|E.ret<|u6<|i9<|i9<|u6<|i9<|Fg rfl rfl () (congrArg (Value.int .i64) (by first | exact Q4 om pa q16 | exact P1 om pa)) rfl
  ·refine Eu<|r7 rfl<|v8<|o6<|Et<|Ez Z2<|Yad rfl om om<|Em rfl ?_
   exact Eu<|t7 br (g + 1) rs (.refl _) ⟨by omega, U7 om pa q16⟩ om
 ·refine Eu<|Eq_<|r7 rfl<|E.exit<|l4<|l4<|w8<|Et<|Ew Z1<|Ei rfl<|Eu<|E.ret<|Fg rfl rfl () (congrArg (Value.int .i64) (by first | exact Q4 om pa q16 | exact P1 om pa)) rfl
theorem a5N {D_f : IL → Prop} {f : IL → Bool} (hD_f : ∀ x ∈ s, D_f x) : TB Tryz.prog 196 [.slice a_s m_s c_s, .func (.func f_g) #[] f_c.toArray] (fun w L => Ro w L z6 [.slice a_s m_s c_s] s ∧ FnP Tryz.prog w L f_g f_c T3 a0P D_f f) (s.any f) := by
 refine Ti2 Tryz.func196 9 rfl fun w L hR => ?_
 obtain ⟨hs, hf⟩ := hR
 obtain ⟨rfl, ls⟩ := hs.slen
 refine Ew Z1<|Ei rfl<|Ev Z5<|Em rfl<|Em rfl<|E0 rfl (a7y (f := f) (D_f := D_f) hD_f) rfl (fun hA => ⟨hA.ro hs, hA.fn hf⟩)<|Ey rfl ((Y.geq rfl rfl).yd)<|Ei rfl<|Eu<|E.ret<|Fb rfl rfl (by exact a0p)
theorem a2f {s : List (Int × List Int × Int × Int × Int)} {D_f : (Int × List Int × Int × Int × Int) → Prop} {f : (Int × List Int × Int × Int × Int) → Bool} (hD_f : ∀ x ∈ s, D_f x) : Tr Tryz.prog 218 [.slice a_s m_s c_s, .func (.func f_g) #[] f_c.toArray] (fun w L => Ro w L G0 [.slice a_s m_s c_s] s ∧ FnP Tryz.prog w L f_g f_c a0e a0P D_f f) [] (κ := Unit) (fun k => True) (fun k => .int .i64 (J0 f s)) (fun k => []) := by
 refine Ti2 Tryz.func218 19 rfl fun w L hR => ?_
 obtain ⟨hs, hf⟩ := hR
 obtain ⟨rfl, ls⟩ := hs.slen
 refine Ew Z1<|Ei rfl<|Eu<|Eq_<|Ew Z3<|Em rfl<|Yln us_Methods rfl<|Em rfl<|Eu<|E.block<|Lo (κ := Nat) (fun g => g ≤ s.length ∧ ∀ x ∈ s.take g, f x = false) (fun g => [(0, .slice a_s s.length c_s), (1, .func (.func f_g) #[] f_c.toArray), (7, .int .i64 (↑s.length : Int)), (8, .int .i64 (g : Int))]) (fun g => []) (fun g => s.length - g) 0 ⟨by omega, by simp⟩<|fun g pg => ?_
 obtain ⟨pk, pa⟩ := pg
 refine Ew Z1<|Ylt rfl<|l3 (fun q9 => ?_)<|fun q9 => ?_
 ·refine Eu<|Eq_<|Ct<|Eq_<|E.block<|Ew Z2<|Em rfl<|Ei rfl<|Ev Z6<|Em rfl<|Em rfl<|Em rfl ?_
  obtain ⟨eb14, eo14, ec14, ea14, er14, el14, eh14⟩ := hs.elem g om
  obtain ⟨xa14_0, xc14_0, rfl, ei14_0, xh14_0, ei14_2, ei14_3, ei14_4⟩ := P5 er14
  have := xh14_0.slen.2
  refine Ix us_Methods ty_Method rfl ea14 g rfl om<|Ey rfl (k7 (cs := [_, _, _, _, _]) ty_Method rfl (eh14 _) rfl)<|Est rfl (N.fn (cs := [_, _, _, _, _]) hf rfl rfl rfl dc (fun w Lp hA => a8v (x := s[g]) ei14_0 (hA.ro xh14_0) ei14_2 ei14_3 ei14_4)<|hD_f _<|List.getElem_mem om)<|fun _ _ => Ent.b (fun q16 => ?_)<|fun q16 => ?_
  ·refine Eu<|r6 rfl<|Ew Z2<|Em rfl<|Ei rfl<|Eu<|E.ret<|u6<|i9<|i9<|u6<|i9<|Fg rfl rfl () (congrArg (Value.int .i64) (by first | exact Q4 om pa q16 | exact P1 om pa)) rfl
  ·refine Eu<|r7 rfl<|v8<|o6<|Et<|Ez Z2<|Yad rfl om om<|Em rfl ?_
   exact Eu<|t7 br (g + 1) rs (.refl _) ⟨by omega, U7 om pa q16⟩ om
 ·refine Eu<|Eq_<|r7 rfl<|E.exit<|l4<|l4<|w8<|Et<|Ew Z1<|Ei rfl<|Eu<|E.ret<|Fg rfl rfl () (congrArg (Value.int .i64) (by first | exact Q4 om pa q16 | exact P1 om pa)) rfl
theorem a5x {s : List (Int × List Int × Int × Int × Int)} {D_f : (Int × List Int × Int × Int × Int) → Prop} {f : (Int × List Int × Int × Int × Int) → Bool} (hD_f : ∀ x ∈ s, D_f x) : TB Tryz.prog 212 [.slice a_s m_s c_s, .func (.func f_g) #[] f_c.toArray] (fun w L => Ro w L G0 [.slice a_s m_s c_s] s ∧ FnP Tryz.prog w L f_g f_c a0e a0P D_f f) (s.any f) := by
 refine Ti2 Tryz.func212 9 rfl fun w L hR => ?_
 obtain ⟨hs, hf⟩ := hR
 obtain ⟨rfl, ls⟩ := hs.slen
 refine Ew Z1<|Ei rfl<|Ev Z5<|Em rfl<|Em rfl<|E0 rfl (a2f (f := f) (D_f := D_f) hD_f) rfl (fun hA => ⟨hA.ro hs, hA.fn hf⟩)<|Ey rfl ((Y.geq rfl rfl).yd)<|Ei rfl<|Eu<|E.ret<|Fb rfl rfl (by exact a0p)
theorem a2O {D_f : IL → Prop} {f : IL → Bool} (hD_f : ∀ x ∈ s, D_f x) : Tr Tryz.prog 292 [.slice a_s m_s c_s, .func (.func f_g) #[] f_c.toArray] (fun w L => Ro w L s5 [.slice a_s m_s c_s] s ∧ FnP Tryz.prog w L f_g f_c J8 a0P D_f f) [] (κ := Unit) (fun k => True) (fun k => .int .i64 (J0 f s)) (fun k => []) := by
 refine Ti2 Tryz.func292 19 rfl fun w L hR => ?_
 obtain ⟨hs, hf⟩ := hR
 obtain ⟨rfl, ls⟩ := hs.slen
 refine Ew Z1<|Ei rfl<|Eu<|Eq_<|Ew Z3<|Em rfl<|Yln us_Facts rfl<|Em rfl<|Eu<|E.block<|Lo (κ := Nat) (fun g => g ≤ s.length ∧ ∀ x ∈ s.take g, f x = false) (fun g => [(0, .slice a_s s.length c_s), (1, .func (.func f_g) #[] f_c.toArray), (7, .int .i64 (↑s.length : Int)), (8, .int .i64 (g : Int))]) (fun g => []) (fun g => s.length - g) 0 ⟨by omega, by simp⟩<|fun g pg => ?_
 obtain ⟨pk, pa⟩ := pg
 refine Ew Z1<|Ylt rfl<|l3 (fun q9 => ?_)<|fun q9 => ?_
 ·refine Eu<|Eq_<|Ct<|Eq_<|E.block<|Ew Z2<|Em rfl<|Ei rfl<|Ev Z6<|Em rfl<|Em rfl<|Em rfl ?_
  obtain ⟨eb14, eo14, ec14, ea14, er14, el14, eh14⟩ := hs.elem g om
  obtain ⟨xa14_0, xc14_0, rfl, ei14_0, xh14_0⟩ := W4 er14
  have := xh14_0.slen.2
  refine Ix us_Facts ty_Fact rfl ea14 g rfl om<|Ey rfl (k7 (cs := [_, _]) ty_Fact rfl (eh14 _) rfl)<|Est rfl (N.fn (cs := [_, _]) hf rfl rfl rfl dc (fun w Lp hA => b6u (x := s[g]) ei14_0<|hA.ro xh14_0)<|hD_f _<|List.getElem_mem om)<|fun _ _ => Ent.b (fun q16 => ?_)<|fun q16 => ?_
  ·refine Eu<|r6 rfl<|Ew Z2<|Em rfl<|Ei rfl<|Eu<|E.ret<|u6<|i9<|i9<|u6<|i9<|Fg rfl rfl () (congrArg (Value.int .i64) (by first | exact Q4 om pa q16 | exact P1 om pa)) rfl
  ·refine Eu<|r7 rfl<|v8<|o6<|Et<|Ez Z2<|Yad rfl om om<|Em rfl ?_
   exact Eu<|t7 br (g + 1) rs (.refl _) ⟨by omega, U7 om pa q16⟩ om
 ·refine Eu<|Eq_<|r7 rfl<|E.exit<|l4<|l4<|w8<|Et<|Ew Z1<|Ei rfl<|Eu<|E.ret<|Fg rfl rfl () (congrArg (Value.int .i64) (by first | exact Q4 om pa q16 | exact P1 om pa)) rfl
theorem a6R {D_f : IL → Prop} {f : IL → Bool} (hD_f : ∀ x ∈ s, D_f x) : TB Tryz.prog 199 [.slice a_s m_s c_s, .func (.func f_g) #[] f_c.toArray] (fun w L => Ro w L s5 [.slice a_s m_s c_s] s ∧ FnP Tryz.prog w L f_g f_c J8 a0P D_f f) (s.any f) := by
 refine Ti2 Tryz.func199 9 rfl fun w L hR => ?_
 obtain ⟨hs, hf⟩ := hR
 obtain ⟨rfl, ls⟩ := hs.slen
 refine Ew Z1<|Ei rfl<|Ev Z5<|Em rfl<|Em rfl<|E0 rfl (a2O (f := f) (D_f := D_f) hD_f) rfl (fun hA => ⟨hA.ro hs, hA.fn hf⟩)<|Ey rfl ((Y.geq rfl rfl).yd)<|Ei rfl<|Eu<|E.ret<|Fb rfl rfl (by exact a0p)
theorem a8F {D_f : IL → Prop} {f : IL → Bool} (hD_f : ∀ x ∈ s, D_f x) : Tr Tryz.prog 210 [.slice a_s m_s c_s, .func (.func f_g) #[] f_c.toArray] (fun w L => Ro w L B1 [.slice a_s m_s c_s] s ∧ FnP Tryz.prog w L f_g f_c a1d a0P D_f f) [] (κ := Unit) (fun k => True) (fun k => .int .i64 (J0 f s)) (fun k => []) := by
 refine Ti2 Tryz.func210 19 rfl fun w L hR => ?_
 obtain ⟨hs, hf⟩ := hR
 obtain ⟨rfl, ls⟩ := hs.slen
 refine Ew Z1<|Ei rfl<|Eu<|Eq_<|Ew Z3<|Em rfl<|Yln us_Atoms rfl<|Em rfl<|Eu<|E.block<|Lo (κ := Nat) (fun g => g ≤ s.length ∧ ∀ x ∈ s.take g, f x = false) (fun g => [(0, .slice a_s s.length c_s), (1, .func (.func f_g) #[] f_c.toArray), (7, .int .i64 (↑s.length : Int)), (8, .int .i64 (g : Int))]) (fun g => []) (fun g => s.length - g) 0 ⟨by omega, by simp⟩<|fun g pg => ?_
 obtain ⟨pk, pa⟩ := pg
 refine Ew Z1<|Ylt rfl<|l3 (fun q9 => ?_)<|fun q9 => ?_
 ·refine Eu<|Eq_<|Ct<|Eq_<|E.block<|Ew Z2<|Em rfl<|Ei rfl<|Ev Z6<|Em rfl<|Em rfl<|Em rfl ?_
  obtain ⟨eb14, eo14, ec14, ea14, er14, el14, eh14⟩ := hs.elem g om
  obtain ⟨xa14_0, xc14_0, rfl, ei14_0, xh14_0⟩ := L5 er14
  have := xh14_0.slen.2
  refine Ix us_Atoms ty_Atom rfl ea14 g rfl om<|Ey rfl (k7 (cs := [_, _]) ty_Atom rfl (eh14 _) rfl)<|Est rfl (N.fn (cs := [_, _]) hf rfl rfl rfl dc (fun w Lp hA => b6s (x := s[g]) ei14_0<|hA.ro xh14_0)<|hD_f _<|List.getElem_mem om)<|fun _ _ => Ent.b (fun q16 => ?_)<|fun q16 => ?_
  ·refine Eu<|r6 rfl<|Ew Z2<|Em rfl<|Ei rfl<|Eu<|E.ret<|u6<|i9<|i9<|u6<|i9<|Fg rfl rfl () (congrArg (Value.int .i64) (by first | exact Q4 om pa q16 | exact P1 om pa)) rfl
  ·refine Eu<|r7 rfl<|v8<|o6<|Et<|Ez Z2<|Yad rfl om om<|Em rfl ?_
   exact Eu<|t7 br (g + 1) rs (.refl _) ⟨by omega, U7 om pa q16⟩ om
 ·refine Eu<|Eq_<|r7 rfl<|E.exit<|l4<|l4<|w8<|Et<|Ew Z1<|Ei rfl<|Eu<|E.ret<|Fg rfl rfl () (congrArg (Value.int .i64) (by first | exact Q4 om pa q16 | exact P1 om pa)) rfl
theorem a1O {D_f : IL → Prop} {f : IL → Bool} (hD_f : ∀ x ∈ s, D_f x) : TB Tryz.prog 91 [.slice a_s m_s c_s, .func (.func f_g) #[] f_c.toArray] (fun w L => Ro w L B1 [.slice a_s m_s c_s] s ∧ FnP Tryz.prog w L f_g f_c a1d a0P D_f f) (s.any f) := by
 refine Ti2 Tryz.func91 9 rfl fun w L hR => ?_
 obtain ⟨hs, hf⟩ := hR
 obtain ⟨rfl, ls⟩ := hs.slen
 refine Ew Z1<|Ei rfl<|Ev Z5<|Em rfl<|Em rfl<|E0 rfl (a8F (f := f) (D_f := D_f) hD_f) rfl (fun hA => ⟨hA.ro hs, hA.fn hf⟩)<|Ey rfl ((Y.geq rfl rfl).yd)<|Ei rfl<|Eu<|E.ret<|Fb rfl rfl (by exact a0p)
theorem a8m : TB Tryz.prog 291 [.int .i64 n] (fun w L => (I64 n) ∧ True) (!inR n 1 3) := by
 refine Ti1 Tryz.func291 6 rfl fun w L hR => ?_
 obtain ⟨i6n, _⟩ := hR
 refine Ew Z1<|Ei rfl<|Ev Z4<|Em rfl<|E0 rfl O9 rfl (fun _ => trivial)<|Ey rfl ((Y.not rfl).yd)<|Ei rfl<|Eu<|E.ret<|Fb rfl rfl (by simp_all)
theorem a1W {s : List Int} : TB Tryz.prog 188 [.slice a_s m_s c_s] (fun w L => Ro w L eIs [.slice a_s m_s c_s] s) (U9 s) := by
 refine Ti1 Tryz.func188 11 rfl fun w L hR => ?_
 have hs := hR
 obtain ⟨rfl, ls⟩ := hs.slen
 refine Ew Z1<|Ei rfl<|Ev Z9<|Em rfl<|Yln us_Is rfl<|E0 rfl O9 rfl (fun _ => trivial)<|Ent.b (fun q5 => ?_)<|fun q5 => ?_
 ·refine Em rfl<|Em rfl<|E0 rfl (X8 (f := (fun n => !inR n 1 3)) (D_f := (fun _ => True)) (by intros; exact trivial)) rfl (fun hA => ⟨hA.ro hs, a2q (D := (fun _ => True)) (fun hd => a8m)<|fun w' hk => trivial⟩)<|Ey rfl ((Y.not rfl).yd)<|Ypt rfl<|Ei rfl<|Eu<|E.ret<|Fb rfl rfl (by simp_all [U9])
 ·refine Em rfl<|Es rfl<|Es rfl<|Es rfl<|Ypf rfl<|Ei rfl<|Eu<|E.ret<|Fb rfl rfl (by simp_all [U9])
theorem R6 {s : List Int} : TB Tryz.prog 103 [.slice a_s m_s c_s] (fun w L => Ro w L eIs [.slice a_s m_s c_s] s) (U9 s) := by
 refine Ti1 Tryz.func103 19 rfl fun w L hR => ?_
 have hs := hR
 obtain ⟨rfl, ls⟩ := hs.slen
 refine Ew Z1<|Ei rfl<|Eu<|Eq_<|Ew Z1<|Ei rfl<|Eu<|E.block<|Lo (κ := Nat) (fun g => g ≤ s.length ∧ ∀ x ∈ s.take g, (!inR x 1 3) = false) (fun g => [(0, .slice a_s s.length c_s), (3, .int .i64 (g : Int))]) (fun g => []) (fun g => s.length - g) 0 ⟨by omega, by simp⟩<|fun g pg => ?_
 obtain ⟨pk, pa⟩ := pg
 refine Eq_<|Ew Z4<|Em rfl<|Em rfl<|Yln us_Is rfl<|Ylt rfl<|l3 (fun q7 => ?_)<|fun q7 => ?_
 ·refine Eu<|Ct<|Eq_<|E.block<|Ew Z6<|Em rfl<|Em rfl ?_
  obtain ⟨eb12, eo12, ea12, ei12, eh12⟩ := hs.elemI g om
  refine Il us_Is i7 rfl ea12 g rfl om rfl (eh12 _)<|E0 rfl K4 rfl (fun _ => trivial)<|Ent.b (fun q14 => ?_)<|fun q14 => ?_
  ·refine Yno true rfl<|Eu<|r7 rfl<|v8<|o6<|Et<|Ez Z3<|Em rfl<|Yad rfl om om<|Ei rfl ?_
   exact Eu<|t7 br (g + 1) ⟨rfl, rfl, trivial⟩ (.refl _) ⟨by omega, U7 om pa (by simp [q14])⟩ om
  ·refine Yno false rfl<|Eu<|r6 rfl<|Ew Z1<|Ei rfl ?_
   exact Eu<|E.ret<|u6<|i9<|i9<|u6<|i9<|Fb rfl rfl (by first | (have := b0h (k := g) (s := s) (p := fun x => !inR x 1 3) om (by simpa using q14); rw [U9, this]; simp) | (have := a8B om pa; rw [U9, this]; simp))
 ·refine Eu<|r7 rfl<|E.exit<|l4<|l4<|w8<|Et<|Ew Z4<|Em rfl<|Yln us_Is rfl<|E0 rfl K4 rfl (fun _ => trivial)<|Ei rfl ?_
  exact Eu<|E.ret<|Fb rfl rfl (by first | (have := b0h (k := g) (s := s) (p := fun x => !inR x 1 3) om (by simpa using q14); rw [U9, this]; simp) | (have := a8B om pa; rw [U9, this]; simp))
theorem a3T {s : List Int} {rel : Int} : TB Tryz.prog 229 [.slice a_s m_s c_s, .int .i64 rel] (fun w L => Ro w L eIs [.slice a_s m_s c_s] s) (P2 s rel) := by
 refine Ti2 Tryz.func229 14 rfl fun w L hR => ?_
 have hs := hR
 obtain ⟨rfl, ls⟩ := hs.slen
 refine Ew Z1<|Ei rfl<|Ev Z10<|Em rfl<|E0 rfl a1W rfl (fun hA => hA.ro hs)<|Ent.b (fun q6 => ?_)<|fun q6 => ?_
 ·refine Em rfl<|Em rfl<|Em rfl<|Yln us_Is rfl<|Ey rfl ((Y.sub rfl rfl om om).yd)<|E0 rfl O9 rfl (fun _ => trivial)<|Ypt rfl<|Ei rfl<|Eu<|E.ret<|Fb rfl rfl (by simp_all [P2])
 ·refine Em rfl<|Es rfl<|Es rfl<|Es rfl<|Es rfl<|Es rfl<|Ypf rfl<|Ei rfl<|Eu<|E.ret<|Fb rfl rfl (by simp_all [P2])
end Go.Proofs.YthapcdhdfaibkaaGreatDoor
