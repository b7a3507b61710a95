import Derived.Test.YtfnbilpemdgkkaaGreatDoorBs
namespace Go.Proofs.YtfnbilpemdgkkaaGreatDoor
open Go.RowKit
set_option linter.all false
set_option maxHeartbeats 2000000
attribute [local irreducible] Nop Yd Yp Ent Has Tr FnP FnP2 Src
variable {f_g : FuncId} {low high n arity i7 r6 : Int} {l : List (Int × Int × List Int)} {s n0 : List Int} {f_c : List Value} {m_s c_s m_l c_l z8 x4 : Nat} {a_s a_l x5 : Option Addr}
theorem E5 {x : Int} : Tr Tryz.prog 112 [.int .i64 x, .int .i64 low, .int .i64 high] (fun w L => True) [] (κ := Unit) (fun k => True) (fun k => .bool (inR x low high)) (fun k => []) := by
 refine f8 Tryz.func112 rfl (n := 15) rfl (by decide +kernel) bl (fr := [(0, .int .i64 x), (1, .int .i64 low), (2, .int .i64 high)]) rfl fun w L hR => (Ew Z1 (Ei rfl (Ev Z9 (Em rfl (Em rfl (Ey rfl ((Y.geq rfl rfl).yd) (j8 (fun q9 => ?_) (fun q9 => ?_))))))))
 ·refine Em rfl (Em rfl (Em rfl (Ey rfl ((Y.leq rfl rfl).yd) (Ey rfl ((o0 rfl rfl).yd) (Ei rfl ?_)))))
  exact Eu (E.ret (Fb rfl rfl (by simp_all [inR]; try omega)))
 ·refine Em rfl (Es rfl (Es rfl (Es rfl (Ey rfl ((o6 rfl rfl).yd) (Ei rfl ?_)))))
  exact Eu (E.ret (Fb rfl rfl (by simp_all [inR]; try omega)))
theorem G0 : Tr Tryz.prog 102 [.int .i64 n, .int .i64 low, .int .i64 high] (fun w L => True) [] (κ := Unit) (fun k => True) (fun k => .bool (inR n low high)) (fun k => []) := by
 refine f8 Tryz.func102 rfl (n := 15) rfl (by decide +kernel) bl (fr := [(0, .int .i64 n), (1, .int .i64 low), (2, .int .i64 high)]) rfl fun w L hR => (Ew Z1 (Ei rfl (Ev Z9 (Em rfl (Em rfl (Ey rfl ((Y.geq rfl rfl).yd) (j8 (fun q9 => ?_) (fun q9 => ?_))))))))
 ·refine Em rfl (Em rfl (Em rfl (Ey rfl ((Y.leq rfl rfl).yd) (Ey rfl ((o0 rfl rfl).yd) (Ei rfl ?_)))))
  exact Eu (E.ret (Fb rfl rfl (by simp_all [inR]; try omega)))
 ·refine Em rfl (Es rfl (Es rfl (Es rfl (Ey rfl ((o6 rfl rfl).yd) (Ei rfl ?_)))))
  exact Eu (E.ret (Fb rfl rfl (by simp_all [inR]; try omega)))
theorem a5O {D_f : Int → Prop} {f : Int → Bool} (hD_f : ∀ x ∈ s, D_f x) : Tr Tryz.prog 183 [.slice a_s m_s c_s, .func (.func f_g) #[] f_c.toArray] (fun w L => Ro w L eIs [.slice a_s m_s c_s] s ∧ FnP Tryz.prog w L f_g f_c Enc.int b0O D_f f) [] (κ := Unit) (fun k => True) (fun k => .int .i64 (H2 f s)) (fun k => []) := by
 refine f8 Tryz.func183 rfl (n := 19) rfl (by decide +kernel) bl (fr := [(0, .slice a_s m_s c_s), (1, .func (.func f_g) #[] f_c.toArray)]) rfl fun w L hR => ?_
 obtain ⟨hs, hf⟩ := hR
 obtain ⟨rfl, ls⟩ := hs.slen
 refine Ew Z1 (Ei rfl (Eu (Eq_ (Ew Z3 (Em rfl (Ey rfl ((Y.len us_Is rfl).yd) (Em rfl (Eu (E.block (E.loop (κ := Nat) (fun g => g ≤ s.length ∧ ∀ x ∈ s.take g, f x = false) (fun g => [(0, .slice a_s s.length c_s), (1, .func (.func f_g) #[] f_c.toArray), (7, .int .i64 (↑s.length : Int)), (8, .int .i64 (g : Int))]) (fun g => []) (fun g => s.length - g) 0 ⟨by omega, by simp⟩ ⟨rfl, rfl, rfl, rfl, trivial⟩ (.refl _) (fun g pg => ?_)))))))))))
 obtain ⟨pk, pa⟩ := pg
 refine Ew Z1 (Ey rfl ((Y.lss rfl rfl).yd) (j8 (fun q9 => ?_) (fun q9 => ?_)))
 ·refine Eu (Eq_ (l3 rfl (d9 (Et (Eq_ (E.block (Ew Z2 (Em rfl (Ei rfl (Ev Z6 (Em rfl (Em rfl (Em rfl ?_)))))))))))))
  obtain ⟨eb14, eo14, ea14, ei14, eh14⟩ := hs.elemI g om
  refine Ey rfl ((r8 us_Is f4 rfl ea14 rfl g rfl om).yd) (Ey rfl (f7 f4 rfl (eh14 _) rfl) (Est rfl (N.fn (cs := [_]) hf rfl rfl rfl dc (fun w Lp hA => X0 ei14) (hD_f _ (List.getElem_mem om))) (fun _ _ => (r5 (fun q16 => ?_) (fun q16 => ?_)))))
  ·refine Eu (l3 rfl (Ew Z2 (Em rfl (Ei rfl ?_))))
   exact Eu (E.ret (w8 (j0 (j0 (w8 (j0 (Fg rfl rfl () (congrArg (Value.int .i64) (by first | exact N4 om pa q16 | exact M8 om pa)) rfl)))))))
  ·refine Eu (l4 rfl (d9 (o2 (Et (Ez Z2 (Ey rfl ((Y.add rfl rfl om om).yd) (Em rfl ?_)))))))
   exact Eu (u7 br (g + 1) rs (.refl _) ⟨by omega, K8 om pa q16⟩ om)
 ·refine Eu (Eq_ (l4 rfl (E.exit (n8 (n8 (w7 (Et (Ew Z1 (Ei rfl ?_)))))))))
  exact Eu (E.ret (Fg rfl rfl () (congrArg (Value.int .i64) (by first | exact N4 om pa q16 | exact M8 om pa)) rfl))
theorem S0 {D_f : Int → Prop} {f : Int → Bool} (hD_f : ∀ x ∈ s, D_f x) : Tr Tryz.prog 151 [.slice a_s m_s c_s, .func (.func f_g) #[] f_c.toArray] (fun w L => Ro w L eIs [.slice a_s m_s c_s] s ∧ FnP Tryz.prog w L f_g f_c Enc.int b0O D_f f) [] (κ := Unit) (fun k => True) (fun k => .bool (s.any f)) (fun k => []) := by
 refine f8 Tryz.func151 rfl (n := 9) rfl (by decide +kernel) bl (fr := [(0, .slice a_s m_s c_s), (1, .func (.func f_g) #[] f_c.toArray)]) rfl fun w L hR => ?_
 obtain ⟨hs, hf⟩ := hR
 obtain ⟨rfl, ls⟩ := hs.slen
 refine Ew Z1 (Ei rfl (Ev Z5 (Em rfl (Em rfl (Est rfl (f5 (a5O (f := f) (D_f := D_f) hD_f) rfl rfl rfl dc (fun w Lp hA => ⟨hA.ro hs, hA.fn hf⟩)) (fun _ _ => (Ey rfl ((Y.geq rfl rfl).yd) (Ei rfl ?_))))))))
 exact Eu (E.ret (Fb rfl rfl (by exact X3)))
theorem a3f {s : List (Int × Int × List Int)} {D_f : (Int × Int × List Int) → Prop} {f : (Int × Int × List Int) → Bool} (hD_f : ∀ x ∈ s, D_f x) : Tr Tryz.prog 160 [.slice a_s m_s c_s, .func (.func f_g) #[] f_c.toArray] (fun w L => Ro w L D0 [.slice a_s m_s c_s] s ∧ FnP Tryz.prog w L f_g f_c U6 a1h D_f f) [] (κ := Unit) (fun k => True) (fun k => .int .i64 (H2 f s)) (fun k => []) := by
 refine f8 Tryz.func160 rfl (n := 19) rfl (by decide +kernel) bl (fr := [(0, .slice a_s m_s c_s), (1, .func (.func f_g) #[] f_c.toArray)]) rfl fun w L hR => ?_
 obtain ⟨hs, hf⟩ := hR
 obtain ⟨rfl, ls⟩ := hs.slen
 refine Ew Z1 (Ei rfl (Eu (Eq_ (Ew Z3 (Em rfl (Ey rfl ((Y.len us_Rules rfl).yd) (Em rfl (Eu (E.block (E.loop (κ := Nat) (fun g => g ≤ s.length ∧ ∀ x ∈ s.take g, f x = false) (fun g => [(0, .slice a_s s.length c_s), (1, .func (.func f_g) #[] f_c.toArray), (7, .int .i64 (↑s.length : Int)), (8, .int .i64 (g : Int))]) (fun g => []) (fun g => s.length - g) 0 ⟨by omega, by simp⟩ ⟨rfl, rfl, rfl, rfl, trivial⟩ (.refl _) (fun g pg => ?_)))))))))))
 obtain ⟨pk, pa⟩ := pg
 refine Ew Z1 (Ey rfl ((Y.lss rfl rfl).yd) (j8 (fun q9 => ?_) (fun q9 => ?_)))
 ·refine Eu (Eq_ (l3 rfl (d9 (Et (Eq_ (E.block (Ew Z2 (Em rfl (Ei rfl (Ev Z6 (Em rfl (Em rfl (Em rfl ?_)))))))))))))
  obtain ⟨eb14, eo14, ec14, ea14, er14, el14, eh14⟩ := hs.elem g om
  obtain ⟨xa14_0, xc14_0, rfl, ei14_0, ei14_1, xh14_0⟩ := P9 er14
  have := xh14_0.slen.2
  refine Ey rfl ((r8 us_Rules ty_Rule rfl ea14 rfl g rfl om).yd) (Ey rfl (l8 (cs := [_, _, _]) ty_Rule rfl (eh14 _) rfl) (Est rfl (N.fn (cs := [_, _, _]) hf rfl rfl rfl dc (fun w Lp hA => b0n (x := s[g]) ei14_0 ei14_1 (hA.ro xh14_0)) (hD_f _ (List.getElem_mem om))) (fun _ _ => (r5 (fun q16 => ?_) (fun q16 => ?_)))))
  ·refine Eu (l3 rfl (Ew Z2 (Em rfl (Ei rfl ?_))))
   exact Eu (E.ret (w8 (j0 (j0 (w8 (j0 (Fg rfl rfl () (congrArg (Value.int .i64) (by first | exact N4 om pa q16 | exact M8 om pa)) rfl)))))))
  ·refine Eu (l4 rfl (d9 (o2 (Et (Ez Z2 (Ey rfl ((Y.add rfl rfl om om).yd) (Em rfl ?_)))))))
   exact Eu (u7 br (g + 1) rs (.refl _) ⟨by omega, K8 om pa q16⟩ om)
 ·refine Eu (Eq_ (l4 rfl (E.exit (n8 (n8 (w7 (Et (Ew Z1 (Ei rfl ?_)))))))))
  exact Eu (E.ret (Fg rfl rfl () (congrArg (Value.int .i64) (by first | exact N4 om pa q16 | exact M8 om pa)) rfl))
theorem a2e {s : List (Int × Int × List Int)} {D_f : (Int × Int × List Int) → Prop} {f : (Int × Int × List Int) → Bool} (hD_f : ∀ x ∈ s, D_f x) : Tr Tryz.prog 115 [.slice a_s m_s c_s, .func (.func f_g) #[] f_c.toArray] (fun w L => Ro w L D0 [.slice a_s m_s c_s] s ∧ FnP Tryz.prog w L f_g f_c U6 a1h D_f f) [] (κ := Unit) (fun k => True) (fun k => .bool (s.any f)) (fun k => []) := by
 refine f8 Tryz.func115 rfl (n := 9) rfl (by decide +kernel) bl (fr := [(0, .slice a_s m_s c_s), (1, .func (.func f_g) #[] f_c.toArray)]) rfl fun w L hR => ?_
 obtain ⟨hs, hf⟩ := hR
 obtain ⟨rfl, ls⟩ := hs.slen
 refine Ew Z1 (Ei rfl (Ev Z5 (Em rfl (Em rfl (Est rfl (f5 (a3f (f := f) (D_f := D_f) hD_f) rfl rfl rfl dc (fun w Lp hA => ⟨hA.ro hs, hA.fn hf⟩)) (fun _ _ => (Ey rfl ((Y.geq rfl rfl).yd) (Ei rfl ?_))))))))
 exact Eu (E.ret (Fb rfl rfl (by exact X3)))
theorem a0B {s : List (Int × List Int)} {D_f : (Int × List Int) → Prop} {f : (Int × List Int) → Bool} (hD_f : ∀ x ∈ s, D_f x) : Tr Tryz.prog 177 [.slice a_s m_s c_s, .func (.func f_g) #[] f_c.toArray] (fun w L => Ro w L f6 [.slice a_s m_s c_s] s ∧ FnP Tryz.prog w L f_g f_c w9 a1h D_f f) [] (κ := Unit) (fun k => True) (fun k => .int .i64 (H2 f s)) (fun k => []) := by
 refine f8 Tryz.func177 rfl (n := 19) rfl (by decide +kernel) bl (fr := [(0, .slice a_s m_s c_s), (1, .func (.func f_g) #[] f_c.toArray)]) rfl fun w L hR => ?_
 obtain ⟨hs, hf⟩ := hR
 obtain ⟨rfl, ls⟩ := hs.slen
 refine Ew Z1 (Ei rfl (Eu (Eq_ (Ew Z3 (Em rfl (Ey rfl ((Y.len us_Facts rfl).yd) (Em rfl (Eu (E.block (E.loop (κ := Nat) (fun g => g ≤ s.length ∧ ∀ x ∈ s.take g, f x = false) (fun g => [(0, .slice a_s s.length c_s), (1, .func (.func f_g) #[] f_c.toArray), (7, .int .i64 (↑s.length : Int)), (8, .int .i64 (g : Int))]) (fun g => []) (fun g => s.length - g) 0 ⟨by omega, by simp⟩ ⟨rfl, rfl, rfl, rfl, trivial⟩ (.refl _) (fun g pg => ?_)))))))))))
 obtain ⟨pk, pa⟩ := pg
 refine Ew Z1 (Ey rfl ((Y.lss rfl rfl).yd) (j8 (fun q9 => ?_) (fun q9 => ?_)))
 ·refine Eu (Eq_ (l3 rfl (d9 (Et (Eq_ (E.block (Ew Z2 (Em rfl (Ei rfl (Ev Z6 (Em rfl (Em rfl (Em rfl ?_)))))))))))))
  obtain ⟨eb14, eo14, ec14, ea14, er14, el14, eh14⟩ := hs.elem g om
  obtain ⟨xa14_0, xc14_0, rfl, ei14_0, xh14_0⟩ := y8 er14
  have := xh14_0.slen.2
  refine Ey rfl ((r8 us_Facts ty_Fact rfl ea14 rfl g rfl om).yd) (Ey rfl (l8 (cs := [_, _]) ty_Fact rfl (eh14 _) rfl) (Est rfl (N.fn (cs := [_, _]) hf rfl rfl rfl dc (fun w Lp hA => b0u (x := s[g]) ei14_0 (hA.ro xh14_0)) (hD_f _ (List.getElem_mem om))) (fun _ _ => (r5 (fun q16 => ?_) (fun q16 => ?_)))))
  ·refine Eu (l3 rfl (Ew Z2 (Em rfl (Ei rfl ?_))))
   exact Eu (E.ret (w8 (j0 (j0 (w8 (j0 (Fg rfl rfl () (congrArg (Value.int .i64) (by first | exact N4 om pa q16 | exact M8 om pa)) rfl)))))))
  ·refine Eu (l4 rfl (d9 (o2 (Et (Ez Z2 (Ey rfl ((Y.add rfl rfl om om).yd) (Em rfl ?_)))))))
   exact Eu (u7 br (g + 1) rs (.refl _) ⟨by omega, K8 om pa q16⟩ om)
 ·refine Eu (Eq_ (l4 rfl (E.exit (n8 (n8 (w7 (Et (Ew Z1 (Ei rfl ?_)))))))))
  exact Eu (E.ret (Fg rfl rfl () (congrArg (Value.int .i64) (by first | exact N4 om pa q16 | exact M8 om pa)) rfl))
theorem a2f {s : List (Int × List Int)} {D_f : (Int × List Int) → Prop} {f : (Int × List Int) → Bool} (hD_f : ∀ x ∈ s, D_f x) : Tr Tryz.prog 180 [.slice a_s m_s c_s, .func (.func f_g) #[] f_c.toArray] (fun w L => Ro w L f6 [.slice a_s m_s c_s] s ∧ FnP Tryz.prog w L f_g f_c w9 a1h D_f f) [] (κ := Unit) (fun k => True) (fun k => .bool (s.any f)) (fun k => []) := by
 refine f8 Tryz.func180 rfl (n := 9) rfl (by decide +kernel) bl (fr := [(0, .slice a_s m_s c_s), (1, .func (.func f_g) #[] f_c.toArray)]) rfl fun w L hR => ?_
 obtain ⟨hs, hf⟩ := hR
 obtain ⟨rfl, ls⟩ := hs.slen
 refine Ew Z1 (Ei rfl (Ev Z5 (Em rfl (Em rfl (Est rfl (f5 (a0B (f := f) (D_f := D_f) hD_f) rfl rfl rfl dc (fun w Lp hA => ⟨hA.ro hs, hA.fn hf⟩)) (fun _ _ => (Ey rfl ((Y.geq rfl rfl).yd) (Ei rfl ?_))))))))
 exact Eu (E.ret (Fb rfl rfl (by exact X3)))
theorem a2U : Tr Tryz.prog 159 [.int .i64 n] (fun w L => (I64 n) ∧ True) [] (κ := Unit) (fun k => True) (fun k => .bool (!inR n 1 3)) (fun k => []) := by
 refine f8 Tryz.func159 rfl (n := 6) rfl (by decide +kernel) bl (fr := [(0, .int .i64 n)]) rfl fun w L hR => ?_
 obtain ⟨i6n, _⟩ := hR
 refine Ew Z1 (Ei rfl (Ev Z4 (Em rfl (Est rfl (f5 G0 rfl rfl rfl dc tv) (fun _ _ => (Ey rfl ((Y.not rfl).yd) (Ei rfl ?_)))))))
 exact Eu (E.ret (Fb rfl rfl (by simp_all)))
theorem S9 : Tr Tryz.prog 114 [.slice a_s m_s c_s] (fun w L => Ro w L eIs [.slice a_s m_s c_s] s) [] (κ := Unit) (fun k => True) (fun k => .bool (B8 s)) (fun k => []) := by
 refine f8 Tryz.func114 rfl (n := 11) rfl (by decide +kernel) bl (fr := [(0, .slice a_s m_s c_s)]) rfl fun w L hR => ?_
 have hs := hR
 obtain ⟨rfl, ls⟩ := hs.slen
 refine Ew Z1 (Ei rfl (Ev Z9 (Em rfl (Ey rfl ((Y.len us_Is rfl).yd) (Est rfl (f5 G0 rfl rfl rfl dc tv) (fun _ _ => (r5 (fun q5 => ?_) (fun q5 => ?_))))))))
 ·refine Em rfl (Em rfl (Est rfl (f5 (S0 (f := (fun n => !inR n 1 3)) (D_f := (fun _ => True)) (by intros; exact trivial)) rfl rfl rfl dc (fun w Lp hA => ⟨hA.ro hs, a4V (D := (fun _ => True)) (fun hd => a2U) (fun w' hk => trivial)⟩)) (fun _ _ => (Ey rfl ((Y.not rfl).yd) (Ey rfl ((o0 rfl rfl).yd) (Ei rfl ?_))))))
  exact Eu (E.ret (Fb rfl rfl (by simp_all [B8])))
 ·refine Em rfl (Es rfl (Es rfl (Es rfl (Ey rfl ((o6 rfl rfl).yd) (Ei rfl ?_)))))
  exact Eu (E.ret (Fb rfl rfl (by simp_all [B8])))
theorem F3 : Tr Tryz.prog 69 [.slice a_s m_s c_s] (fun w L => Ro w L eIs [.slice a_s m_s c_s] s) [] (κ := Unit) (fun k => True) (fun k => .bool (B8 s)) (fun k => []) := by
 refine f8 Tryz.func69 rfl (n := 19) rfl (by decide +kernel) bl (fr := [(0, .slice a_s m_s c_s)]) rfl fun w L hR => ?_
 have hs := hR
 obtain ⟨rfl, ls⟩ := hs.slen
 refine Ew Z1 (Ei rfl (Eu (Eq_ (Ew Z1 (Ei rfl (Eu (E.block (E.loop (κ := Nat) (fun g => g ≤ s.length ∧ ∀ x ∈ s.take g, (!inR x 1 3) = false) (fun g => [(0, .slice a_s s.length c_s), (3, .int .i64 (g : Int))]) (fun g => []) (fun g => s.length - g) 0 ⟨by omega, by simp⟩ ⟨rfl, rfl, trivial⟩ (.refl _) (fun g pg => ?_)))))))))
 obtain ⟨pk, pa⟩ := pg
 refine Eq_ (Ew Z4 (Em rfl (Em rfl (Ey rfl ((Y.len us_Is rfl).yd) (Ey rfl ((Y.lss rfl rfl).yd) (j8 (fun q7 => ?_) (fun q7 => ?_)))))))
 ·refine Eu (l3 rfl (d9 (Et (Eq_ (E.block (Ew Z6 (Em rfl (Em rfl ?_))))))))
  obtain ⟨eb12, eo12, ea12, ei12, eh12⟩ := hs.elemI g om
  refine Ey rfl ((r8 us_Is f4 rfl ea12 rfl g rfl om).yd) (Ey rfl (f7 f4 rfl (eh12 _) rfl) (Est rfl (f5 E5 rfl rfl rfl dc tv) (fun _ _ => (r5 (fun q14 => ?_) (fun q14 => ?_)))))
  ·refine Ey rfl ((Y.not (b := true) rfl).yd) (Eu (l4 rfl (d9 (o2 (Et (Ez Z3 (Em rfl (Ey rfl ((Y.add rfl rfl om om).yd) (Ei rfl ?_)))))))))
   exact Eu (u7 br (g + 1) ⟨rfl, rfl, trivial⟩ (.refl _) ⟨by omega, K8 om pa (by simp [q14])⟩ om)
  ·refine Ey rfl ((Y.not (b := false) rfl).yd) (Eu (l3 rfl (Ew Z1 (Ei rfl ?_))))
   exact Eu (E.ret (w8 (j0 (j0 (w8 (j0 (Fb rfl rfl (by first | (have := a1q (k := g) (s := s) (p := fun x => !inR x 1 3) om (by simpa using q14); rw [B8, this]; simp) | (have := a0v om pa; rw [B8, this]; simp)))))))))
 ·refine Eu (l4 rfl (E.exit (n8 (n8 (w7 (Et (Ew Z4 (Em rfl (Ey rfl ((Y.len us_Is rfl).yd) (Est rfl (f5 E5 rfl rfl rfl dc tv) (fun _ _ => (Ei rfl ?_))))))))))))
  exact Eu (E.ret (Fb rfl rfl (by first | (have := a1q (k := g) (s := s) (p := fun x => !inR x 1 3) om (by simpa using q14); rw [B8, this]; simp) | (have := a0v om pa; rw [B8, this]; simp))))
theorem a0c {rel : Int} : Tr Tryz.prog 157 [.slice a_s m_s c_s, .int .i64 rel] (fun w L => Ro w L eIs [.slice a_s m_s c_s] s) [] (κ := Unit) (fun k => True) (fun k => .bool (D7 s rel)) (fun k => []) := by
 refine f8 Tryz.func157 rfl (n := 14) rfl (by decide +kernel) bl (fr := [(0, .slice a_s m_s c_s), (1, .int .i64 rel)]) rfl fun w L hR => ?_
 have hs := hR
 obtain ⟨rfl, ls⟩ := hs.slen
 refine Ew Z1 (Ei rfl (Ev Z10 (Em rfl (Est rfl (f5 S9 rfl rfl rfl dc (fun w Lp hA => hA.ro hs)) (fun _ _ => (r5 (fun q6 => ?_) (fun q6 => ?_)))))))
 ·refine Em rfl (Em rfl (Em rfl (Ey rfl ((Y.len us_Is rfl).yd) (Ey rfl ((Y.sub rfl rfl om om).yd) (Est rfl (f5 G0 rfl rfl rfl dc tv) (fun _ _ => (Ey rfl ((o0 rfl rfl).yd) (Ei rfl ?_))))))))
  exact Eu (E.ret (Fb rfl rfl (by simp_all [D7])))
 ·refine Em rfl (Es rfl (Es rfl (Es rfl (Es rfl (Es rfl (Ey rfl ((o6 rfl rfl).yd) (Ei rfl ?_)))))))
  exact Eu (E.ret (Fb rfl rfl (by simp_all [D7])))
theorem a1p {i : Int} {b_arity : Nat} : Tr Tryz.prog 152 [.int .i64 i, .pointer (some ⟨b_arity, 0, none⟩)] (fun w L => (I64 i) ∧ RoPt w L b_arity [.int .i64 arity] ∧ -1000 ≤ arity ∧ arity ≤ 1000) [] (κ := Unit) (fun k => True) (fun k => .bool (!inR i 0 (arity - 1))) (fun k => []) := by
 refine f8 Tryz.func152 rfl (n := 9) rfl (by decide +kernel) bl (fr := [(0, .int .i64 i), (1, .pointer (some ⟨b_arity, 0, none⟩))]) rfl fun w L hR => ?_
 obtain ⟨i6i, hb_arity, as0, as1⟩ := hR
 refine Ew Z1 (Ei rfl (Ev Z6 (Em rfl (Ey rfl (f7 f4 rfl (hb_arity.has) rfl) (Ey rfl ((Y.sub rfl rfl om om).yd) (Est rfl (f5 G0 rfl rfl rfl dc tv) (fun _ _ => (Ey rfl ((Y.not rfl).yd) (Ei rfl ?_)))))))))
 exact Eu (E.ret (Fb rfl rfl (by simp_all)))
theorem V5 {l : List Int} : Tr Tryz.prog 103 [.slice a_l m_l c_l, .int .i64 arity] (fun w L => Ro w L eIs [.slice a_l m_l c_l] l ∧ -1000 ≤ arity ∧ arity ≤ 1000) [] (κ := Unit) (fun k => True) (fun k => .bool (E4 l arity)) (fun k => []) := by
 refine f8 Tryz.func103 rfl (n := 9) rfl (by decide +kernel) bl (fr := [(0, .slice a_l m_l c_l), (1, .int .i64 arity)]) rfl fun w L hR => ?_
 obtain ⟨hl, as0, as1⟩ := hR
 obtain ⟨rfl, ll⟩ := hl.slen
 refine Ew Z2 (Est rfl (N.box (cs := [_]) rfl dc rfl) (fun b3 _ => (Ei rfl (Ev Z5 (Em rfl (Ey rfl ((Y.fn (vs := [_]) rfl).yd) (Est rfl (f5 (S0 (f := (fun i => !inR i 0 (arity - 1))) (D_f := (fun _ => True)) (by intros; exact trivial)) rfl rfl rfl dc (fun w Lp hA => ⟨hA.ro hl, a4V (D := (fun _ => True)) (fun hd => a1p) (fun w' hk => ⟨(hA.pt m0).keep hk, (by first | assumption | omega), (by first | assumption | omega)⟩)⟩)) (fun _ _ => (Ey rfl ((Y.not rfl).yd) (Ei rfl ?_))))))))))
 exact Eu (E.ret (Fb rfl rfl (by simp [E4])))
theorem a0a : Tr Tryz.prog 109 [.slice a_s m_s c_s, .agg #[.int .i64 i7, .int .i64 r6, .slice x5 z8 x4]] (fun w L => Ro w L eIs [.slice a_s m_s c_s] s ∧ I64 i7 ∧ I64 r6 ∧ Ro w L eIs [.slice x5 z8 x4] n0) [] (κ := Unit) (fun k => True) (fun k => .bool (t7 s (i7, r6, n0))) (fun k => []) := by
 refine f8 Tryz.func109 rfl (n := 36) rfl (by decide +kernel) bl (fr := [(0, .slice a_s m_s c_s), (1, .agg #[.int .i64 i7, .int .i64 r6, .slice x5 z8 x4])]) rfl fun w L hR => ?_
 obtain ⟨hs, F4, L4, B6⟩ := hR
 obtain ⟨rfl, ls⟩ := hs.slen
 obtain ⟨rfl, Y5⟩ := B6.slen
 refine Ew Z2 (Est rfl (N.box (cs := [_, _, _]) rfl dc rfl) (fun b3 _ => (Ei rfl (Eu (Eq_ (D.region (fun j => true) mixed (Dyp 0 rfl (g0 rfl) (Dyp 1 rfl (g9 fo_Rule_0 f4 dc rfl) (Dy 2 rfl (f7 f4 rfl (Hz m0 0 rfl) rfl) (w3 3 rfl rfl kr (fun _ => rfl) (f5 a0c rfl rfl rfl dc (fun w Lp hA => hA.ro hs)) (fun _ _ => (r5 (fun q8 => ?_) (fun q8 => ?_)))))))))))))
 ·obtain ⟨z1, z2, z5, z6⟩ := J4 q8
  rw [E3 om] at z5 z6
  refine Dyp 4 rfl (g0 rfl) (Dyp 5 rfl (g0 rfl) (Dyp 6 rfl (g9 fo_Rule_1 f4 dc rfl) (Dy 7 rfl (f7 f4 rfl (Hz m0 1 rfl) rfl) (w3 8 rfl rfl kr (fun _ => rfl) (f5 a0c rfl rfl rfl dc (fun w Lp hA => hA.ro hs)) (fun _ _ => (r5 (fun q13 => ?_) (fun q13 => ?_)))))))
  ·obtain ⟨z3, z4, _, _⟩ := J4 q13
   refine Dyp 9 rfl (o0 rfl rfl) (Dyp 10 rfl (g0 rfl) (Dyp 11 rfl (g9 fo_Rule_2 ty_Is dc rfl) (Dy 12 rfl (f7 ty_Is rfl (Hz m0 2 rfl) rfl) (Dyp 13 rfl (Y.len us_Is rfl) (Dyp 14 rfl (g0 rfl) (Dyp 15 rfl (g9 fo_Rule_1 f4 dc rfl) (Dy 16 rfl (f7 f4 rfl (Hz m0 1 rfl) rfl) ?_)))))))
   obtain ⟨eb22, eo22, ea22, ei22, eh22⟩ := hs.elemI r6.toNat om
   refine Dyp 17 rfl (r8 us_Is f4 rfl ea22 rfl r6.toNat om om) (Dy 18 rfl (f7 f4 rfl (eh22 _) rfl) (Dyp 19 rfl (Y.eql rfl rfl) (j8 (fun q24 => ?_) (fun q24 => ?_))))
   ·refine Dyp 20 rfl (o0 rfl rfl) (Dyp 21 rfl (g0 rfl) (Dyp 22 rfl (g9 fo_Rule_2 ty_Is dc rfl) (Dy 23 rfl (f7 ty_Is rfl (Hz m0 2 rfl) rfl) (Dyp 24 rfl (g0 rfl) (Dyp 25 rfl (g9 fo_Rule_0 f4 dc rfl) (Dy 26 rfl (f7 f4 rfl (Hz m0 0 rfl) rfl) ?_))))))
    obtain ⟨eb32, eo32, ea32, ei32, eh32⟩ := hs.elemI i7.toNat om
    refine Dyp 27 rfl (r8 us_Is f4 rfl ea32 rfl i7.toNat om om) (Dy 28 rfl (f7 f4 rfl (eh32 _) rfl) (w3 29 rfl rfl kr (fun _ => rfl) (f5 V5 rfl rfl rfl dc (fun w Lp hA => ⟨hA.ro B6, (by first | assumption | omega), (by first | assumption | omega)⟩)) (fun _ _ => (Dyp 30 rfl (o0 rfl rfl) (Dyp 31 rfl (F1 rfl) ?_)))))
    exact o3 kr (Et (E.ret (Fb rfl rfl (by first | (simp [t7, q8]; done) | (simp [t7, q8, q13]; done) | (simp only [t7, q8, q13, E1 (show i7.toNat < s.length by omega), E1 (show r6.toNat < s.length by omega)]; simp [q24])))))
   ·refine Dyp 20 rfl (o0 rfl rfl) (Dyp 21 rfl (g0 rfl) (Dsk 22 rfl (Dsk 23 rfl (Dsk 24 rfl (Dsk 25 rfl (Dsk 26 rfl (Dsk 27 rfl (Dsk 28 rfl (Dsk 29 rfl (Dyp 30 rfl (o6 rfl rfl) (Dyp 31 rfl (F1 rfl) ?_)))))))))))
    exact o3 kr (Et (E.ret (Fb rfl rfl (by first | (simp [t7, q8]; done) | (simp [t7, q8, q13]; done) | (simp only [t7, q8, q13, E1 (show i7.toNat < s.length by omega), E1 (show r6.toNat < s.length by omega)]; simp [q24])))))
  ·refine Dyp 9 rfl (o0 rfl rfl) (Dyp 10 rfl (g0 rfl) (Dsk 11 rfl (Dsk 12 rfl (Dsk 13 rfl (Dsk 14 rfl (Dsk 15 rfl (Dsk 16 rfl (Dsk 17 rfl (Dsk 18 rfl (Dsk 19 rfl (Dyp 20 rfl (o6 rfl rfl) (Dyp 21 rfl (g0 rfl) (Dsk 22 rfl (Dsk 23 rfl ?_))))))))))))))
   refine Dsk 24 rfl (Dsk 25 rfl (Dsk 26 rfl (Dsk 27 rfl (Dsk 28 rfl (Dsk 29 rfl (Dyp 30 rfl (o6 rfl rfl) (Dyp 31 rfl (F1 rfl) ?_)))))))
   exact o3 kr (Et (E.ret (Fb rfl rfl (by first | (simp [t7, q8]; done) | (simp [t7, q8, q13]; done) | (simp only [t7, q8, q13, E1 (show i7.toNat < s.length by omega), E1 (show r6.toNat < s.length by omega)]; simp [q24])))))
 ·refine Dyp 4 rfl (g0 rfl) (Dsk 5 rfl (Dsk 6 rfl (Dsk 7 rfl (Dsk 8 rfl (Dyp 9 rfl (o6 rfl rfl) (Dyp 10 rfl (g0 rfl) (Dsk 11 rfl (Dsk 12 rfl (Dsk 13 rfl (Dsk 14 rfl (Dsk 15 rfl (Dsk 16 rfl (Dsk 17 rfl (Dsk 18 rfl ?_))))))))))))))
  refine Dsk 19 rfl (Dyp 20 rfl (o6 rfl rfl) (Dyp 21 rfl (g0 rfl) (Dsk 22 rfl (Dsk 23 rfl (Dsk 24 rfl (Dsk 25 rfl (Dsk 26 rfl (Dsk 27 rfl (Dsk 28 rfl (Dsk 29 rfl (Dyp 30 rfl (o6 rfl rfl) (Dyp 31 rfl (F1 rfl) ?_))))))))))))
  exact o3 kr (Et (E.ret (Fb rfl rfl (by first | (simp [t7, q8]; done) | (simp [t7, q8, q13]; done) | (simp only [t7, q8, q13, E1 (show i7.toNat < s.length by omega), E1 (show r6.toNat < s.length by omega)]; simp [q24])))))
theorem Z0 : Tr Tryz.prog 51 [.slice a_s m_s c_s, .agg #[.int .i64 i7, .int .i64 r6, .slice x5 z8 x4]] (fun w L => Ro w L eIs [.slice a_s m_s c_s] s ∧ I64 i7 ∧ I64 r6 ∧ Ro w L eIs [.slice x5 z8 x4] n0) [] (κ := Unit) (fun k => True) (fun k => .bool (t7 s (i7, r6, n0))) (fun k => []) := by
 refine f8 Tryz.func51 rfl (n := 58) rfl (by decide +kernel) bl (fr := [(0, .slice a_s m_s c_s), (1, .agg #[.int .i64 i7, .int .i64 r6, .slice x5 z8 x4])]) rfl fun w L hR => ?_
 obtain ⟨hs, F4, L4, B6⟩ := hR
 obtain ⟨rfl, ls⟩ := hs.slen
 obtain ⟨rfl, Y5⟩ := B6.slen
 refine Ew Z2 (Est rfl (N.box (cs := [_, _, _]) rfl dc rfl) (fun b3 _ => (Ei rfl (Eu (Eq_ (Eq_ (D.region (fun j => true) mixed (Dyp 0 rfl (g0 rfl) (w3 1 rfl rfl kr (fun _ => rfl) (f5 F3 rfl rfl rfl dc (fun w Lp hA => hA.ro hs)) (fun _ _ => (r5 (fun q7 => ?_) (fun q7 => ?_))))))))))))
 ·refine Dyp 2 rfl (Y.not (b := true) rfl) (Dyp 3 rfl (g0 rfl) (Dyp 4 rfl (g9 fo_Rule_0 f4 dc rfl) (Dy 5 rfl (f7 f4 rfl (Hz m0 0 rfl) rfl) (Dyp 6 rfl (g0 rfl) (Dyp 7 rfl (Y.len us_Is rfl) (Dyp 8 rfl (Y.sub rfl rfl om om) (w3 9 rfl rfl kr (fun _ => rfl) (f5 E5 rfl rfl rfl dc tv) (fun _ _ => (r5 (fun q15 => ?_) (fun q15 => ?_))))))))))
  ·have y1 : D7 s i7 = true := by rw [D7, q7, q15]; rfl
   obtain ⟨z1, z2, z5, z6⟩ := J4 y1
   rw [E3 om] at z5 z6
   refine Dyp 10 rfl (Y.not (b := true) rfl) (Dyp 11 rfl (o6 rfl rfl) (Dyp 12 rfl (g0 rfl) (Dyp 13 rfl (g9 fo_Rule_1 f4 dc rfl) (Dy 14 rfl (f7 f4 rfl (Hz m0 1 rfl) rfl) (Dyp 15 rfl (g0 rfl) (Dyp 16 rfl (Y.len us_Is rfl) (Dyp 17 rfl (Y.sub rfl rfl om om) (w3 18 rfl rfl kr (fun _ => rfl) (f5 E5 rfl rfl rfl dc tv) (fun _ _ => (r5 (fun q24 => ?_) (fun q24 => ?_)))))))))))
   ·have y2 : D7 s r6 = true := by rw [D7, q7, q24]; rfl
    obtain ⟨z3, z4, _, _⟩ := J4 y2
    refine Dyp 19 rfl (Y.not (b := true) rfl) (Dyp 20 rfl (o6 rfl rfl) (Dyp 21 rfl (g0 rfl) (Dyp 22 rfl (g9 fo_Rule_2 ty_Is dc rfl) (Dy 23 rfl (f7 ty_Is rfl (Hz m0 2 rfl) rfl) (Dyp 24 rfl (Y.len us_Is rfl) (Dyp 25 rfl (g0 rfl) (Dyp 26 rfl (g9 fo_Rule_1 f4 dc rfl) (Dy 27 rfl (f7 f4 rfl (Hz m0 1 rfl) rfl) ?_))))))))
    obtain ⟨eb34, eo34, ea34, ei34, eh34⟩ := hs.elemI r6.toNat om
    refine Dyp 28 rfl (r8 us_Is f4 rfl ea34 rfl r6.toNat om om) (Dy 29 rfl (f7 f4 rfl (eh34 _) rfl) (Dyp 30 rfl (Y.neq rfl rfl) (j8 (fun q36 => ?_) (fun q36 => ?_))))
    ·refine Dyp 31 rfl (o6 rfl rfl) (o3 kr (Et (l3 rfl (Ew Z1 (Ei rfl ?_)))))
     exact Eu (E.ret (j0 (Fb rfl rfl (by exact a8v (E1 (i := r6) (show r6.toNat < s.length by omega)) q36))))
    ·refine Dyp 31 rfl (o6 rfl rfl) (o3 kr (Et (l4 rfl (d9 (Et (Eq_ (Ew Z1 (Ei rfl (Eu (E.block (E.loop (κ := Nat) (fun g => g ≤ n0.length ∧ ∀ x ∈ n0.take g, (!inR x 0 (s[i7.toNat] - 1)) = false) (fun g => [(0, .slice a_s s.length c_s), (3, .pointer (some ⟨b3, 0, none⟩)), (5, .int .i64 (g : Int))]) (fun g => [pt b3 73 [.int .i64 i7, .int .i64 r6, .slice x5 n0.length x4]]) (fun g => n0.length - g) 0 ⟨by omega, by simp⟩ ⟨rfl, rfl, rfl, trivial⟩ (.refl _) (fun g pg => ?_))))))))))))
     obtain ⟨pk, pa⟩ := pg
     refine Eq_ (Ew Z5 (Em rfl (Ey rfl ((g9 fo_Rule_2 ty_Is dc rfl).yd) (Ey rfl (f7 ty_Is rfl (Hz m0 2 rfl) rfl) (Ey rfl ((Y.len us_Is rfl).yd) (Ey rfl ((Y.lss rfl rfl).yd) (j8 (fun q42 => ?_) (fun q42 => ?_))))))))
     ·refine Eu (l3 rfl (d9 (Et (Eq_ (E.block (Eq_ (D.region (fun j => true) mixed (Dyp 0 rfl (g9 fo_Rule_2 ty_Is dc rfl) (Dy 1 rfl (f7 ty_Is rfl (Hz m0 2 rfl) rfl) (Dyp 2 rfl (g0 rfl) ?_))))))))))
      obtain ⟨eb48, eo48, ea48, ei48, eh48⟩ := B6.elemI g om
      refine Dyp 3 rfl (r8 us_Is f4 rfl ea48 rfl g rfl om) (Dy 4 rfl (f7 f4 rfl (eh48 _) rfl) (Dyp 5 rfl (g0 rfl) (Dyp 6 rfl (g9 fo_Rule_0 f4 dc rfl) (Dy 7 rfl (f7 f4 rfl (Hz m0 0 rfl) rfl) ?_))))
      obtain ⟨eb53, eo53, ea53, ei53, eh53⟩ := hs.elemI i7.toNat om
      refine Dyp 8 rfl (r8 us_Is f4 rfl ea53 rfl i7.toNat om om) (Dy 9 rfl (f7 f4 rfl (eh53 _) rfl) (Dyp 10 rfl (Y.sub rfl rfl om om) (w3 11 rfl rfl kr (fun _ => rfl) (f5 E5 rfl rfl rfl dc tv) (fun _ _ => (r5 (fun q56 => ?_) (fun q56 => ?_))))))
      ·refine Dyp 12 rfl (Y.not (b := true) rfl) (o3 kr (Et (l4 rfl (d9 (o2 (Et (Ez Z3 (Em rfl (Ey rfl ((Y.add rfl rfl om om).yd) (Ei rfl ?_))))))))))
       exact Eu (u7 br (g + 1) rs (.refl _) ⟨by omega, K8 om pa (by rw [q56]; rfl)⟩ om)
      ·refine Dyp 12 rfl (Y.not (b := false) rfl) (o3 kr (Et (l3 rfl (Ew Z1 (Ei rfl ?_)))))
       exact Eu (E.ret (w8 (j0 (j0 (w8 (j0 (Fb rfl rfl (by exact a8y (E1 (i := i7) (show i7.toNat < s.length by omega)) (by rw [E4, a1q (k := g) (show g < n0.length by omega) (by rw [q56]; rfl)]; rfl)))))))))
     ·refine Eu (l4 rfl (E.exit (n8 (n8 (w7 (Et (Ew Z1 (Ei rfl ?_))))))))
      exact Eu (E.ret (Fb rfl rfl (by exact a8R y1 y2 (E1 (i := i7) (show i7.toNat < s.length by omega)) (E1 (i := r6) (show r6.toNat < s.length by omega)) (show (n0.length : Int) = s[r6.toNat] by omega) (by rw [E4, a0v (show ¬ g < n0.length by omega) pa]; rfl))))
   ·refine Dyp 19 rfl (Y.not (b := false) rfl) (Dyp 20 rfl (o6 rfl rfl) (Dyp 21 rfl (g0 rfl) (Dsk 22 rfl (Dsk 23 rfl (Dsk 24 rfl (Dsk 25 rfl (Dsk 26 rfl (Dsk 27 rfl (Dsk 28 rfl (Dsk 29 rfl (Dsk 30 rfl (Dyp 31 rfl (o0 rfl rfl) (o3 kr (Et (l3 rfl (Ew Z1 (Ei rfl ?_)))))))))))))))))
    exact Eu (E.ret (j0 (Fb rfl rfl (by exact a8P (a3d q24)))))
  ·refine Dyp 10 rfl (Y.not (b := false) rfl) (Dyp 11 rfl (o6 rfl rfl) (Dyp 12 rfl (g0 rfl) (Dsk 13 rfl (Dsk 14 rfl (Dsk 15 rfl (Dsk 16 rfl (Dsk 17 rfl (Dsk 18 rfl (Dsk 19 rfl (Dyp 20 rfl (o0 rfl rfl) (Dyp 21 rfl (g0 rfl) (Dsk 22 rfl (Dsk 23 rfl (Dsk 24 rfl ?_))))))))))))))
   refine Dsk 25 rfl (Dsk 26 rfl (Dsk 27 rfl (Dsk 28 rfl (Dsk 29 rfl (Dsk 30 rfl (Dyp 31 rfl (o0 rfl rfl) (o3 kr (Et (l3 rfl (Ew Z1 (Ei rfl ?_)))))))))))
   exact Eu (E.ret (j0 (Fb rfl rfl (by exact a3Y (a3d q15)))))
 ·refine Dyp 2 rfl (Y.not (b := false) rfl) (Dyp 3 rfl (g0 rfl) (Dsk 4 rfl (Dsk 5 rfl (Dsk 6 rfl (Dsk 7 rfl (Dsk 8 rfl (Dsk 9 rfl (Dsk 10 rfl (Dyp 11 rfl (o0 rfl rfl) (Dyp 12 rfl (g0 rfl) (Dsk 13 rfl (Dsk 14 rfl (Dsk 15 rfl (Dsk 16 rfl ?_))))))))))))))
  refine Dsk 17 rfl (Dsk 18 rfl (Dsk 19 rfl (Dyp 20 rfl (o0 rfl rfl) (Dyp 21 rfl (g0 rfl) (Dsk 22 rfl (Dsk 23 rfl (Dsk 24 rfl (Dsk 25 rfl (Dsk 26 rfl (Dsk 27 rfl (Dsk 28 rfl (Dsk 29 rfl (Dsk 30 rfl (Dyp 31 rfl (o0 rfl rfl) ?_))))))))))))))
  refine o3 kr (Et (l3 rfl (Ew Z1 (Ei rfl ?_))))
  exact Eu (E.ret (j0 (Fb rfl rfl (by exact a3Y (a5r q7)))))
theorem a2Y {b_s : Nat} : Tr Tryz.prog 116 [.agg #[.int .i64 i7, .int .i64 r6, .slice x5 z8 x4], .pointer (some ⟨b_s, 0, none⟩)] (fun w L => (I64 i7 ∧ I64 r6 ∧ Ro w L eIs [.slice x5 z8 x4] n0) ∧ RoPt w L b_s [.slice a_s m_s c_s] ∧ Ro w L eIs [.slice a_s m_s c_s] s) [] (κ := Unit) (fun k => True) (fun k => .bool (!t7 s (i7, r6, n0))) (fun k => []) := by
 refine f8 Tryz.func116 rfl (n := 8) rfl (by decide +kernel) bl (fr := [(0, .agg #[.int .i64 i7, .int .i64 r6, .slice x5 z8 x4]), (1, .pointer (some ⟨b_s, 0, none⟩))]) rfl fun w L hR => ?_
 obtain ⟨⟨F4, L4, B6⟩, hb_s, hs⟩ := hR
 obtain ⟨rfl, Y5⟩ := B6.slen
 obtain ⟨rfl, ls⟩ := hs.slen
 refine Ew Z2 (Est rfl (N.box (cs := [_, _, _]) rfl dc rfl) (fun b2 _ => (Ei rfl (Ev Z5 (Ey rfl (f7 ty_Is rfl (hb_s.has) rfl) (Ey rfl (l8 (cs := [_, _, _]) ty_Rule rfl (Has.pt m0) rfl) (Est rfl (f5 a0a rfl rfl rfl dc (fun w Lp hA => ⟨hA.ro hs, F4, L4, hA.ro B6⟩)) (fun _ _ => (Ey rfl ((Y.not rfl).yd) (Ei rfl ?_))))))))))
 exact Eu (E.ret (Fb rfl rfl (by simp_all)))
theorem U1 : Tr Tryz.prog 52 [.slice a_s m_s c_s, .slice a_l m_l c_l] (fun w L => Ro w L eIs [.slice a_s m_s c_s] s ∧ Ro w L D0 [.slice a_l m_l c_l] l) [] (κ := Unit) (fun k => True) (fun k => .bool (o4 s l)) (fun k => []) := by
 refine f8 Tryz.func52 rfl (n := 18) rfl (by decide +kernel) bl (fr := [(0, .slice a_s m_s c_s), (1, .slice a_l m_l c_l)]) rfl fun w L hR => ?_
 obtain ⟨hs, hl⟩ := hR
 obtain ⟨rfl, ls⟩ := hs.slen
 obtain ⟨rfl, ll⟩ := hl.slen
 refine Ew Z2 (Est rfl (N.box (cs := [_]) rfl dc rfl) (fun b2 _ => (Ei rfl (Ev Z14 (Ey rfl (f7 ty_Is rfl (Has.pt m0) rfl) (Est rfl (f5 S9 rfl rfl rfl dc (fun w Lp hA => hA.ro hs)) (fun _ _ => (r5 (fun q6 => ?_) (fun q6 => ?_)))))))))
 ·refine Em rfl (Em rfl (Ey rfl ((Y.len us_Rules rfl).yd) (Ey rfl ((Y.leq rfl rfl).yd) (j8 (fun q10 => ?_) (fun q10 => ?_)))))
  ·refine Ey rfl ((o0 rfl rfl).yd) (Em rfl (Em rfl (Ey rfl ((Y.fn (vs := [_]) rfl).yd) (Est rfl (f5 (a2e (f := (fun z => !t7 s z)) (D_f := (fun _ => True)) (by intros; exact trivial)) rfl rfl rfl dc (fun w Lp hA => ⟨hA.ro hl, a8V (D := (fun _ => True)) (fun hd => a2Y) (fun w' hk => ⟨(hA.pt m0).keep hk, (hA.ro hs).keep hk⟩)⟩)) (fun _ _ => (Ey rfl ((Y.not rfl).yd) (Ey rfl ((o0 rfl rfl).yd) (Ei rfl ?_))))))))
   exact Eu (E.ret (Fb rfl rfl (by rw [o4, q6, decide_eq_true (show (l.length : Int) ≤ 4 by omega)]; rfl)))
  ·refine Ey rfl ((o0 rfl rfl).yd) (Em rfl (Es rfl (Es rfl (Es rfl (Es rfl (Ey rfl ((o6 rfl rfl).yd) (Ei rfl ?_)))))))
   exact Eu (E.ret (Fb rfl rfl (by rw [o4, decide_eq_false (show ¬ (l.length : Int) ≤ 4 by omega)]; simp)))
 ·refine Em rfl (Es rfl (Es rfl (Es rfl (Ey rfl ((o6 rfl rfl).yd) (Em rfl (Es rfl (Es rfl (Es rfl (Es rfl (Ey rfl ((o6 rfl rfl).yd) (Ei rfl ?_)))))))))))
  exact Eu (E.ret (Fb rfl rfl (by rw [o4, q6]; rfl)))
theorem H6 : Tr Tryz.prog 37 [.slice a_s m_s c_s, .slice a_l m_l c_l] (fun w L => Ro w L eIs [.slice a_s m_s c_s] s ∧ Ro w L D0 [.slice a_l m_l c_l] l) [] (κ := Unit) (fun k => True) (fun k => .bool (o4 s l)) (fun k => []) := by
 refine f8 Tryz.func37 rfl (n := 26) rfl (by decide +kernel) bl (fr := [(0, .slice a_s m_s c_s), (1, .slice a_l m_l c_l)]) rfl fun w L hR => ?_
 obtain ⟨hs, hl⟩ := hR
 obtain ⟨rfl, ls⟩ := hs.slen
 obtain ⟨rfl, ll⟩ := hl.slen
 refine Ew Z1 (Ei rfl (Eu (Eq_ (Ew Z1 (Ei rfl (Eu (E.block (E.loop (κ := Nat) (fun g => g ≤ l.length ∧ ∀ x ∈ l.take g, (!t7 s x) = false) (fun g => [(0, .slice a_s s.length c_s), (1, .slice a_l l.length c_l), (5, .int .i64 (g : Int))]) (fun g => []) (fun g => l.length - g) 0 ⟨by omega, by simp⟩ ⟨rfl, rfl, rfl, trivial⟩ (.refl _) (fun g pg => ?_)))))))))
 obtain ⟨pk, pa⟩ := pg
 refine Eq_ (Ew Z4 (Em rfl (Em rfl (Ey rfl ((Y.len us_Rules rfl).yd) (Ey rfl ((Y.lss rfl rfl).yd) (j8 (fun q9 => ?_) (fun q9 => ?_)))))))
 ·refine Eu (l3 rfl (d9 (Et (Eq_ (E.block (Ew Z7 (Em rfl (Em rfl (Em rfl ?_)))))))))
  obtain ⟨eb15, eo15, ec15, ea15, er15, el15, eh15⟩ := hl.elem g om
  obtain ⟨xa15_0, xc15_0, rfl, ei15_0, ei15_1, xh15_0⟩ := P9 er15
  have := xh15_0.slen.2
  refine Ey rfl ((r8 us_Rules ty_Rule rfl ea15 rfl g rfl om).yd) (Ey rfl (l8 (cs := [_, _, _]) ty_Rule rfl (eh15 _) rfl) (Est rfl (f5 Z0 rfl rfl rfl dc (fun w Lp hA => ⟨hA.ro hs, ei15_0, ei15_1, hA.ro xh15_0⟩)) (fun _ _ => (r5 (fun q17 => ?_) (fun q17 => ?_)))))
  ·refine Ey rfl ((Y.not (b := true) rfl).yd) (Eu (l4 rfl (d9 (o2 (Et (Ez Z3 (Em rfl (Ey rfl ((Y.add rfl rfl om om).yd) (Ei rfl ?_)))))))))
   exact Eu (u7 br (g + 1) rs (.refl _) ⟨by omega, K8 om pa (by rw [show t7 s l[g] = true from q17]; rfl)⟩ om)
  ·refine Ey rfl ((Y.not (b := false) rfl).yd) (Eu (l3 rfl (Ew Z1 (Ei rfl ?_))))
   exact Eu (E.ret (w8 (j0 (j0 (w8 (j0 (Fb rfl rfl (by rw [o4, a1q (p := fun r => !t7 s r) (show g < l.length by omega) (by rw [show t7 s l[g] = false from q17]; rfl)]; simp))))))))
 ·refine Eu (l4 rfl (E.exit (n8 (n8 (w7 (Et (Ew Z8 (Em rfl (Est rfl (f5 F3 rfl rfl rfl dc (fun w Lp hA => hA.ro hs)) (fun _ _ => (r5 (fun q20 => ?_) (fun q20 => ?_))))))))))))
  ·refine Em rfl (Em rfl (Ey rfl ((Y.len us_Rules rfl).yd) (Ey rfl ((Y.leq rfl rfl).yd) (Ey rfl ((o0 rfl rfl).yd) (Ei rfl ?_)))))
   exact Eu (E.ret (Fb rfl rfl (by rw [o4, q20, a0v (p := fun r => !t7 s r) (show ¬ g < l.length by omega) pa]; simp)))
  ·refine Em rfl (Es rfl (Es rfl (Es rfl (Ey rfl ((o6 rfl rfl).yd) (Ei rfl ?_)))))
   exact Eu (E.ret (Fb rfl rfl (by rw [o4, q20]; rfl)))
end Go.Proofs.YtfnbilpemdgkkaaGreatDoor
