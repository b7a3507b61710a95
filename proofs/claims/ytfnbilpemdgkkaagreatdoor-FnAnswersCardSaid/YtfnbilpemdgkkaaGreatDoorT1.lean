import Derived.Test.YtfnbilpemdgkkaaGreatDoorBs
namespace Go.Proofs.YtfnbilpemdgkkaaGreatDoor
open Go.RowKit
set_option linter.all false
set_option maxHeartbeats 2000000
attribute [local irreducible] Nop Yd Yp Ent Has Tr FnP FnP2 Src
variable {f_g : FuncId} {low high n : Int} {s : List Int} {f_c : List Value} {m_s c_s : Nat} {a_s : Option Addr}
theorem K0 {x : Int} : Tr Tryz.prog 112 [.int .i64 x, .int .i64 low, .int .i64 high] (fun w L => True) [] (κ := Unit) (fun k => True) (fun k => .bool (inR x low high)) (fun k => []) := by
 refine Tr.intro Tryz.func112 rfl (n := 15) rfl (by decide +kernel) bl (fr := [(0, .int .i64 x), (1, .int .i64 low), (2, .int .i64 high)]) rfl fun w L hR => (Ew Z1 (Ei rfl (Ev Z9 (Em rfl (Em rfl (Ey rfl ((Y.geq rfl rfl).yd) (j4 (fun q9 => ?_) (fun q9 => ?_))))))))
 ·refine Em rfl (Em rfl (Em rfl (Ey rfl ((Y.leq rfl rfl).yd) (Ey rfl ((v6 rfl rfl).yd) (Ei rfl ?_)))))
  exact Eu (E.ret (Fb rfl rfl (by simp_all [inR]; try omega)))
 ·refine Em rfl (Es rfl (Es rfl (Es rfl (Ey rfl ((w7 rfl rfl).yd) (Ei rfl ?_)))))
  exact Eu (E.ret (Fb rfl rfl (by simp_all [inR]; try omega)))
theorem L9 : Tr Tryz.prog 102 [.int .i64 n, .int .i64 low, .int .i64 high] (fun w L => True) [] (κ := Unit) (fun k => True) (fun k => .bool (inR n low high)) (fun k => []) := by
 refine Tr.intro Tryz.func102 rfl (n := 15) rfl (by decide +kernel) bl (fr := [(0, .int .i64 n), (1, .int .i64 low), (2, .int .i64 high)]) rfl fun w L hR => (Ew Z1 (Ei rfl (Ev Z9 (Em rfl (Em rfl (Ey rfl ((Y.geq rfl rfl).yd) (j4 (fun q9 => ?_) (fun q9 => ?_))))))))
 ·refine Em rfl (Em rfl (Em rfl (Ey rfl ((Y.leq rfl rfl).yd) (Ey rfl ((v6 rfl rfl).yd) (Ei rfl ?_)))))
  exact Eu (E.ret (Fb rfl rfl (by simp_all [inR]; try omega)))
 ·refine Em rfl (Es rfl (Es rfl (Es rfl (Ey rfl ((w7 rfl rfl).yd) (Ei rfl ?_)))))
  exact Eu (E.ret (Fb rfl rfl (by simp_all [inR]; try omega)))
theorem a4o {D_f : Int → Prop} {f : Int → Bool} (hD_f : ∀ x ∈ s, D_f x) : Tr Tryz.prog 183 [.slice a_s m_s c_s, .func (.func f_g) #[] f_c.toArray] (fun w L => Ro w L eIs [.slice a_s m_s c_s] s ∧ FnP Tryz.prog w L f_g f_c Enc.int a0L D_f f) [] (κ := Unit) (fun k => True) (fun k => .int .i64 (D5 f s)) (fun k => []) := by
 refine Tr.intro Tryz.func183 rfl (n := 19) rfl (by decide +kernel) bl (fr := [(0, .slice a_s m_s c_s), (1, .func (.func f_g) #[] f_c.toArray)]) rfl fun w L hR => ?_
 obtain ⟨hs, hf⟩ := hR
 obtain ⟨rfl, ls⟩ := hs.slen
 refine Ew Z1 (Ei rfl (Eu (Eq_ (Ew Z3 (Em rfl (Ey rfl ((Y.len us_Is rfl).yd) (Em rfl (Eu (E.block (E.loop (κ := Nat) (fun g => g ≤ s.length ∧ ∀ x ∈ s.take g, f x = false) (fun g => [(0, .slice a_s s.length c_s), (1, .func (.func f_g) #[] f_c.toArray), (7, .int .i64 (↑s.length : Int)), (8, .int .i64 (g : Int))]) (fun g => []) (fun g => s.length - g) 0 ⟨by omega, by simp⟩ ⟨rfl, rfl, rfl, rfl, trivial⟩ (.refl _) (fun g pg => ?_)))))))))))
 obtain ⟨pk, pa⟩ := pg
 refine Ew Z1 (Ey rfl ((Y.lss rfl rfl).yd) (j4 (fun q9 => ?_) (fun q9 => ?_)))
 ·refine Eu (Eq_ (j9 rfl (f5 (Et (Eq_ (E.block (Ew Z2 (Em rfl (Ei rfl (Ev Z6 (Em rfl (Em rfl (Em rfl ?_)))))))))))))
  obtain ⟨eb14, eo14, ea14, ei14, eh14⟩ := hs.elemI g om
  refine Ey rfl ((o6 us_Is d9 rfl ea14 rfl g rfl om).yd) (Ey rfl (f6 d9 rfl (eh14 _) rfl) (Est rfl (N.fn (cs := [_]) hf rfl rfl rfl dc (fun w Lp hA => a0X ei14) (hD_f _ (List.getElem_mem om))) (fun _ _ => (u5 (fun q16 => ?_) (fun q16 => ?_)))))
  ·refine Eu (j9 rfl (Ew Z2 (Em rfl (Ei rfl ?_))))
   exact Eu (E.ret (w9 (j5 (j5 (w9 (j5 (Fg rfl rfl () (congrArg (Value.int .i64) (by first | exact Q0 om pa q16 | exact O4 om pa)) rfl)))))))
  ·refine Eu (j8 rfl (f5 (n9 (Et (Ez Z2 (Ey rfl ((Y.add rfl rfl om om).yd) (Em rfl ?_)))))))
   exact Eu (t8 br (g + 1) rs (.refl _) ⟨by omega, P9 om pa q16⟩ om)
 ·refine Eu (Eq_ (j8 rfl (E.exit (l2 (l2 (w8 (Et (Ew Z1 (Ei rfl ?_)))))))))
  exact Eu (E.ret (Fg rfl rfl () (congrArg (Value.int .i64) (by first | exact Q0 om pa q16 | exact O4 om pa)) rfl))
theorem O8 {D_f : Int → Prop} {f : Int → Bool} (hD_f : ∀ x ∈ s, D_f x) : Tr Tryz.prog 151 [.slice a_s m_s c_s, .func (.func f_g) #[] f_c.toArray] (fun w L => Ro w L eIs [.slice a_s m_s c_s] s ∧ FnP Tryz.prog w L f_g f_c Enc.int a0L D_f f) [] (κ := Unit) (fun k => True) (fun k => .bool (s.any f)) (fun k => []) := by
 refine Tr.intro Tryz.func151 rfl (n := 9) rfl (by decide +kernel) bl (fr := [(0, .slice a_s m_s c_s), (1, .func (.func f_g) #[] f_c.toArray)]) rfl fun w L hR => ?_
 obtain ⟨hs, hf⟩ := hR
 obtain ⟨rfl, ls⟩ := hs.slen
 refine Ew Z1 (Ei rfl (Ev Z5 (Em rfl (Em rfl (Est rfl (i8 (a4o (f := f) (D_f := D_f) hD_f) rfl rfl rfl dc (fun w Lp hA => ⟨hA.ro hs, hA.fn hf⟩)) (fun _ _ => (Ey rfl ((Y.geq rfl rfl).yd) (Ei rfl ?_))))))))
 exact Eu (E.ret (Fb rfl rfl (by exact V9)))
theorem a2a {s : List (Int × List Int)} {D_f : (Int × List Int) → Prop} {f : (Int × List Int) → Bool} (hD_f : ∀ x ∈ s, D_f x) : Tr Tryz.prog 161 [.slice a_s m_s c_s, .func (.func f_g) #[] f_c.toArray] (fun w L => Ro w L C2 [.slice a_s m_s c_s] s ∧ FnP Tryz.prog w L f_g f_c R9 a6l D_f f) [] (κ := Unit) (fun k => True) (fun k => .int .i64 (D5 f s)) (fun k => []) := by
 refine Tr.intro Tryz.func161 rfl (n := 19) rfl (by decide +kernel) bl (fr := [(0, .slice a_s m_s c_s), (1, .func (.func f_g) #[] f_c.toArray)]) rfl fun w L hR => ?_
 obtain ⟨hs, hf⟩ := hR
 obtain ⟨rfl, ls⟩ := hs.slen
 refine Ew Z1 (Ei rfl (Eu (Eq_ (Ew Z3 (Em rfl (Ey rfl ((Y.len us_Atoms rfl).yd) (Em rfl (Eu (E.block (E.loop (κ := Nat) (fun g => g ≤ s.length ∧ ∀ x ∈ s.take g, f x = false) (fun g => [(0, .slice a_s s.length c_s), (1, .func (.func f_g) #[] f_c.toArray), (7, .int .i64 (↑s.length : Int)), (8, .int .i64 (g : Int))]) (fun g => []) (fun g => s.length - g) 0 ⟨by omega, by simp⟩ ⟨rfl, rfl, rfl, rfl, trivial⟩ (.refl _) (fun g pg => ?_)))))))))))
 obtain ⟨pk, pa⟩ := pg
 refine Ew Z1 (Ey rfl ((Y.lss rfl rfl).yd) (j4 (fun q9 => ?_) (fun q9 => ?_)))
 ·refine Eu (Eq_ (j9 rfl (f5 (Et (Eq_ (E.block (Ew Z2 (Em rfl (Ei rfl (Ev Z6 (Em rfl (Em rfl (Em rfl ?_)))))))))))))
  obtain ⟨eb14, eo14, ec14, ea14, er14, el14, eh14⟩ := hs.elem g om
  obtain ⟨xa14_0, xc14_0, rfl, ei14_0, xh14_0⟩ := M8 er14
  have := xh14_0.slen.2
  refine Ey rfl ((o6 us_Atoms ty_Atom rfl ea14 rfl g rfl om).yd) (Ey rfl (o1 (cs := [_, _]) ty_Atom rfl (eh14 _) rfl) (Est rfl (N.fn (cs := [_, _]) hf rfl rfl rfl dc (fun w Lp hA => a7w (x := s[g]) ei14_0 (hA.ro xh14_0)) (hD_f _ (List.getElem_mem om))) (fun _ _ => (u5 (fun q16 => ?_) (fun q16 => ?_)))))
  ·refine Eu (j9 rfl (Ew Z2 (Em rfl (Ei rfl ?_))))
   exact Eu (E.ret (w9 (j5 (j5 (w9 (j5 (Fg rfl rfl () (congrArg (Value.int .i64) (by first | exact Q0 om pa q16 | exact O4 om pa)) rfl)))))))
  ·refine Eu (j8 rfl (f5 (n9 (Et (Ez Z2 (Ey rfl ((Y.add rfl rfl om om).yd) (Em rfl ?_)))))))
   exact Eu (t8 br (g + 1) rs (.refl _) ⟨by omega, P9 om pa q16⟩ om)
 ·refine Eu (Eq_ (j8 rfl (E.exit (l2 (l2 (w8 (Et (Ew Z1 (Ei rfl ?_)))))))))
  exact Eu (E.ret (Fg rfl rfl () (congrArg (Value.int .i64) (by first | exact Q0 om pa q16 | exact O4 om pa)) rfl))
theorem a1h {s : List (Int × List Int)} {D_f : (Int × List Int) → Prop} {f : (Int × List Int) → Bool} (hD_f : ∀ x ∈ s, D_f x) : Tr Tryz.prog 120 [.slice a_s m_s c_s, .func (.func f_g) #[] f_c.toArray] (fun w L => Ro w L C2 [.slice a_s m_s c_s] s ∧ FnP Tryz.prog w L f_g f_c R9 a6l D_f f) [] (κ := Unit) (fun k => True) (fun k => .bool (s.any f)) (fun k => []) := by
 refine Tr.intro Tryz.func120 rfl (n := 9) rfl (by decide +kernel) bl (fr := [(0, .slice a_s m_s c_s), (1, .func (.func f_g) #[] f_c.toArray)]) rfl fun w L hR => ?_
 obtain ⟨hs, hf⟩ := hR
 obtain ⟨rfl, ls⟩ := hs.slen
 refine Ew Z1 (Ei rfl (Ev Z5 (Em rfl (Em rfl (Est rfl (i8 (a2a (f := f) (D_f := D_f) hD_f) rfl rfl rfl dc (fun w Lp hA => ⟨hA.ro hs, hA.fn hf⟩)) (fun _ _ => (Ey rfl ((Y.geq rfl rfl).yd) (Ei rfl ?_))))))))
 exact Eu (E.ret (Fb rfl rfl (by exact V9)))
theorem a1T : Tr Tryz.prog 159 [.int .i64 n] (fun w L => (I64 n) ∧ True) [] (κ := Unit) (fun k => True) (fun k => .bool (!inR n 1 3)) (fun k => []) := by
 refine Tr.intro Tryz.func159 rfl (n := 6) rfl (by decide +kernel) bl (fr := [(0, .int .i64 n)]) rfl fun w L hR => ?_
 obtain ⟨i6n, _⟩ := hR
 refine Ew Z1 (Ei rfl (Ev Z4 (Em rfl (Est rfl (i8 L9 rfl rfl rfl dc tv) (fun _ _ => (Ey rfl ((Y.not rfl).yd) (Ei rfl ?_)))))))
 exact Eu (E.ret (Fb rfl rfl (by simp_all)))
theorem U3 : Tr Tryz.prog 114 [.slice a_s m_s c_s] (fun w L => Ro w L eIs [.slice a_s m_s c_s] s) [] (κ := Unit) (fun k => True) (fun k => .bool (E5 s)) (fun k => []) := by
 refine Tr.intro Tryz.func114 rfl (n := 11) rfl (by decide +kernel) bl (fr := [(0, .slice a_s m_s c_s)]) rfl fun w L hR => ?_
 have hs := hR
 obtain ⟨rfl, ls⟩ := hs.slen
 refine Ew Z1 (Ei rfl (Ev Z9 (Em rfl (Ey rfl ((Y.len us_Is rfl).yd) (Est rfl (i8 L9 rfl rfl rfl dc tv) (fun _ _ => (u5 (fun q5 => ?_) (fun q5 => ?_))))))))
 ·refine Em rfl (Em rfl (Est rfl (i8 (O8 (f := (fun n => !inR n 1 3)) (D_f := (fun _ => True)) (by intros; exact trivial)) rfl rfl rfl dc (fun w Lp hA => ⟨hA.ro hs, a0I (D := (fun _ => True)) (fun hd => a1T) (fun w' hk => trivial)⟩)) (fun _ _ => (Ey rfl ((Y.not rfl).yd) (Ey rfl ((v6 rfl rfl).yd) (Ei rfl ?_))))))
  exact Eu (E.ret (Fb rfl rfl (by simp_all [E5])))
 ·refine Em rfl (Es rfl (Es rfl (Es rfl (Ey rfl ((w7 rfl rfl).yd) (Ei rfl ?_)))))
  exact Eu (E.ret (Fb rfl rfl (by simp_all [E5])))
theorem H5 : Tr Tryz.prog 69 [.slice a_s m_s c_s] (fun w L => Ro w L eIs [.slice a_s m_s c_s] s) [] (κ := Unit) (fun k => True) (fun k => .bool (E5 s)) (fun k => []) := by
 refine Tr.intro Tryz.func69 rfl (n := 19) rfl (by decide +kernel) bl (fr := [(0, .slice a_s m_s c_s)]) rfl fun w L hR => ?_
 have hs := hR
 obtain ⟨rfl, ls⟩ := hs.slen
 refine Ew Z1 (Ei rfl (Eu (Eq_ (Ew Z1 (Ei rfl (Eu (E.block (E.loop (κ := Nat) (fun g => g ≤ s.length ∧ ∀ x ∈ s.take g, (!inR x 1 3) = false) (fun g => [(0, .slice a_s s.length c_s), (3, .int .i64 (g : Int))]) (fun g => []) (fun g => s.length - g) 0 ⟨by omega, by simp⟩ ⟨rfl, rfl, trivial⟩ (.refl _) (fun g pg => ?_)))))))))
 obtain ⟨pk, pa⟩ := pg
 refine Eq_ (Ew Z4 (Em rfl (Em rfl (Ey rfl ((Y.len us_Is rfl).yd) (Ey rfl ((Y.lss rfl rfl).yd) (j4 (fun q7 => ?_) (fun q7 => ?_)))))))
 ·refine Eu (j9 rfl (f5 (Et (Eq_ (E.block (Ew Z6 (Em rfl (Em rfl ?_))))))))
  obtain ⟨eb12, eo12, ea12, ei12, eh12⟩ := hs.elemI g om
  refine Ey rfl ((o6 us_Is d9 rfl ea12 rfl g rfl om).yd) (Ey rfl (f6 d9 rfl (eh12 _) rfl) (Est rfl (i8 K0 rfl rfl rfl dc tv) (fun _ _ => (u5 (fun q14 => ?_) (fun q14 => ?_)))))
  ·refine Ey rfl ((Y.not (b := true) rfl).yd) (Eu (j8 rfl (f5 (n9 (Et (Ez Z3 (Em rfl (Ey rfl ((Y.add rfl rfl om om).yd) (Ei rfl ?_)))))))))
   exact Eu (t8 br (g + 1) ⟨rfl, rfl, trivial⟩ (.refl _) ⟨by omega, P9 om pa (by simp [q14])⟩ om)
  ·refine Ey rfl ((Y.not (b := false) rfl).yd) (Eu (j9 rfl (Ew Z1 (Ei rfl ?_))))
   exact Eu (E.ret (w9 (j5 (j5 (w9 (j5 (Fb rfl rfl (by first | (have := a3f (k := g) (s := s) (p := fun x => !inR x 1 3) om (by simpa using q14); rw [E5, this]; simp) | (have := a2f om pa; rw [E5, this]; simp)))))))))
 ·refine Eu (j8 rfl (E.exit (l2 (l2 (w8 (Et (Ew Z4 (Em rfl (Ey rfl ((Y.len us_Is rfl).yd) (Est rfl (i8 K0 rfl rfl rfl dc tv) (fun _ _ => (Ei rfl ?_))))))))))))
  exact Eu (E.ret (Fb rfl rfl (by first | (have := a3f (k := g) (s := s) (p := fun x => !inR x 1 3) om (by simpa using q14); rw [E5, this]; simp) | (have := a2f om pa; rw [E5, this]; simp))))
theorem a1c {rel : Int} : Tr Tryz.prog 157 [.slice a_s m_s c_s, .int .i64 rel] (fun w L => Ro w L eIs [.slice a_s m_s c_s] s) [] (κ := Unit) (fun k => True) (fun k => .bool (F1 s rel)) (fun k => []) := by
 refine Tr.intro Tryz.func157 rfl (n := 14) rfl (by decide +kernel) bl (fr := [(0, .slice a_s m_s c_s), (1, .int .i64 rel)]) rfl fun w L hR => ?_
 have hs := hR
 obtain ⟨rfl, ls⟩ := hs.slen
 refine Ew Z1 (Ei rfl (Ev Z10 (Em rfl (Est rfl (i8 U3 rfl rfl rfl dc (fun w Lp hA => hA.ro hs)) (fun _ _ => (u5 (fun q6 => ?_) (fun q6 => ?_)))))))
 ·refine Em rfl (Em rfl (Em rfl (Ey rfl ((Y.len us_Is rfl).yd) (Ey rfl ((Y.sub rfl rfl om om).yd) (Est rfl (i8 L9 rfl rfl rfl dc tv) (fun _ _ => (Ey rfl ((v6 rfl rfl).yd) (Ei rfl ?_))))))))
  exact Eu (E.ret (Fb rfl rfl (by simp_all [F1])))
 ·refine Em rfl (Es rfl (Es rfl (Es rfl (Es rfl (Es rfl (Ey rfl ((w7 rfl rfl).yd) (Ei rfl ?_)))))))
  exact Eu (E.ret (Fb rfl rfl (by simp_all [F1])))
end Go.Proofs.YtfnbilpemdgkkaaGreatDoor
