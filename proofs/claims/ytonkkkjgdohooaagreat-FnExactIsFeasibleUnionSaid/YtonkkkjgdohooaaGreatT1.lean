import Derived.Test.YtonkkkjgdohooaaGreatBs
import Derived.Test.YtonkkkjgdohooaaGreatBd
import Derived.Test.YtonkkkjgdohooaaGreatBc
namespace Go.Proofs.YtonkkkjgdohooaaGreat
open Go.RowKit
set_option linter.unusedVariables false
set_option linter.unusedSimpArgs false
set_option maxHeartbeats 2000000
attribute [local irreducible] Nop Yd Yp Ent Has Tr FnP FnP2 Src
theorem t_spec_l1In {x : Int} {low : Int} {high : Int} : Tr Tryz.prog 192 [.int .i64 x, .int .i64 low, .int .i64 high] (fun w L => True) [] (κ := Unit) (fun k => True) (fun k => .bool (inR x low high)) (fun k => []) := by
  refine Tr.intro Tryz.func192 rfl (n := 15) rfl (by decide +kernel) bl (fr := [(0, .int .i64 x), (1, .int .i64 low), (2, .int .i64 high)]) rfl fun w L hR => (Ew Z1 (Eas rfl rfl (Ev Z9 (Emv rfl rfl (Emv rfl rfl (Ey rfl ((Y.geq rfl rfl).yd) (Ent.d (fun q9 => ?_) (fun q9 => ?_))))))))
  · refine Emv rfl rfl (Emv rfl rfl (Emv rfl rfl (Ey rfl ((Y.leq rfl rfl).yd) (Ey rfl ((Y.pkt rfl rfl).yd) (Eas rfl rfl ?_)))))
    exact Eu (E.ret (Fb rfl rfl (by simp_all [inR]; try omega)))
  · refine Emv rfl rfl (Es rfl (Es rfl (Es rfl (Ey rfl ((Y.pkf rfl rfl).yd) (Eas rfl rfl ?_)))))
    exact Eu (E.ret (Fb rfl rfl (by simp_all [inR]; try omega)))
theorem t_impl_within {n : Int} {low : Int} {high : Int} : Tr Tryz.prog 200 [.int .i64 n, .int .i64 low, .int .i64 high] (fun w L => True) [] (κ := Unit) (fun k => True) (fun k => .bool (inR n low high)) (fun k => []) := by
  refine Tr.intro Tryz.func200 rfl (n := 15) rfl (by decide +kernel) bl (fr := [(0, .int .i64 n), (1, .int .i64 low), (2, .int .i64 high)]) rfl fun w L hR => (Ew Z1 (Eas rfl rfl (Ev Z9 (Emv rfl rfl (Emv rfl rfl (Ey rfl ((Y.geq rfl rfl).yd) (Ent.d (fun q9 => ?_) (fun q9 => ?_))))))))
  · refine Emv rfl rfl (Emv rfl rfl (Emv rfl rfl (Ey rfl ((Y.leq rfl rfl).yd) (Ey rfl ((Y.pkt rfl rfl).yd) (Eas rfl rfl ?_)))))
    exact Eu (E.ret (Fb rfl rfl (by simp_all [inR]; try omega)))
  · refine Emv rfl rfl (Es rfl (Es rfl (Es rfl (Ey rfl ((Y.pkf rfl rfl).yd) (Eas rfl rfl ?_)))))
    exact Eu (E.ret (Fb rfl rfl (by simp_all [inR]; try omega)))
theorem t_IndexFunc_I {a_s : Option Addr} {m_s c_s : Nat} {s : List Int} {f_g : FuncId} {f_c : List Value} {D_f : Int → Prop} {f : Int → Bool} (hD_f : ∀ x ∈ s, D_f x) : Tr Tryz.prog 296 [.slice a_s m_s c_s, .func (.func f_g) #[] f_c.toArray] (fun w L => Ro w L eIs [.slice a_s m_s c_s] s ∧ FnP Tryz.prog w L f_g f_c Enc.int val1 D_f f) [] (κ := Unit) (fun k => True) (fun k => .int .i64 (idxP f s)) (fun k => []) := by
  refine Tr.intro Tryz.func296 rfl (n := 19) rfl (by decide +kernel) bl (fr := [(0, .slice a_s m_s c_s), (1, .func (.func f_g) #[] f_c.toArray)]) rfl fun w L hR => ?_
  obtain ⟨hs, hf⟩ := hR
  obtain ⟨rfl, ls⟩ := hs.slen
  refine Ew Z1 (Eas rfl rfl (Eu (Eq_ (Ew Z3 (Emv rfl rfl (Ey rfl ((Y.len us_Is rfl).yd) (Emv rfl rfl (Eu (E.block (E.loop (κ := Nat) (fun g => g ≤ s.length ∧ ∀ x ∈ s.take g, f x = false) (fun g => [(0, .slice a_s s.length c_s), (1, .func (.func f_g) #[] f_c.toArray), (7, .int .i64 (↑s.length : Int)), (8, .int .i64 (g : Int))]) (fun g => []) (fun g => s.length - g) 0 ⟨by omega, by simp⟩ ⟨rfl, rfl, rfl, rfl, trivial⟩ (.refl _) (fun g pg => ?_)))))))))))
  obtain ⟨pk, pa⟩ := pg
  refine Ew Z1 (Ey rfl ((Y.lss rfl rfl).yd) (Ent.d (fun q9 => ?_) (fun q9 => ?_)))
  · refine Eu (Eq_ (E.ct rfl (E.skipc (Et (Eq_ (E.block (Ew Z2 (Emv rfl rfl (Eas rfl rfl (Ev Z6 (Emv rfl rfl (Emv rfl rfl (Emv rfl rfl ?_)))))))))))))
    obtain ⟨eb14, eo14, ea14, ei14, eh14⟩ := hs.elemI g om
    refine Ey rfl ((Y.ix us_Is ty_I rfl ea14 rfl g rfl om).yd) (Ey rfl (Y.ld1 ty_I rfl (eh14 _) rfl) (Est rfl (N.fn (cs := [_]) hf rfl rfl rfl dc (fun w Lp hA => Ro.mkint ei14) (hD_f _ (List.getElem_mem om))) (fun _ _ => (Ent.b (fun q16 => ?_) (fun q16 => ?_)))))
    · refine Eu (E.ct rfl (Ew Z2 (Emv rfl rfl (Eas rfl rfl ?_))))
      exact Eu (E.ret (E.blr (E.thr (E.thr (E.blr (E.thr (Fg rfl rfl () (congrArg (Value.int .i64) (by first | exact idxP_hit om pa q16 | exact idxP_miss om pa)) rfl)))))))
    · refine Eu (E.cf rfl (E.skipc (E.bln (Et (Ez Z2 (Ey rfl ((Y.add rfl rfl om om).yd) (Emv rfl rfl ?_)))))))
      exact Eu (E.again br (g + 1) ⟨rfl, rfl, rfl, rfl, trivial⟩ (.refl _) ⟨by omega, take_step om pa q16⟩ om)
  · refine Eu (Eq_ (E.cf rfl (E.exit (E.the (E.the (E.blh (Et (Ew Z1 (Eas rfl rfl ?_)))))))))
    exact Eu (E.ret (Fg rfl rfl () (congrArg (Value.int .i64) (by first | exact idxP_hit om pa q16 | exact idxP_miss om pa)) rfl))
theorem t_ContainsFunc_I {a_s : Option Addr} {m_s c_s : Nat} {s : List Int} {f_g : FuncId} {f_c : List Value} {D_f : Int → Prop} {f : Int → Bool} (hD_f : ∀ x ∈ s, D_f x) : Tr Tryz.prog 220 [.slice a_s m_s c_s, .func (.func f_g) #[] f_c.toArray] (fun w L => Ro w L eIs [.slice a_s m_s c_s] s ∧ FnP Tryz.prog w L f_g f_c Enc.int val1 D_f f) [] (κ := Unit) (fun k => True) (fun k => .bool (s.any f)) (fun k => []) := by
  refine Tr.intro Tryz.func220 rfl (n := 9) rfl (by decide +kernel) bl (fr := [(0, .slice a_s m_s c_s), (1, .func (.func f_g) #[] f_c.toArray)]) rfl fun w L hR => ?_
  obtain ⟨hs, hf⟩ := hR
  obtain ⟨rfl, ls⟩ := hs.slen
  refine Ew Z1 (Eas rfl rfl (Ev Z5 (Emv rfl rfl (Emv rfl rfl (Est rfl (N.call0 (t_IndexFunc_I (f := f) (D_f := D_f) hD_f) rfl rfl rfl dc (fun w Lp hA => ⟨hA.ro hs, hA.fn hf⟩)) (fun _ _ => (Ey rfl ((Y.geq rfl rfl).yd) (Eas rfl rfl ?_))))))))
  exact Eu (E.ret (Fb rfl rfl (by exact idxP_nonneg)))
theorem t_IndexFunc_Method {a_s : Option Addr} {m_s c_s : Nat} {s : List (Int × List Int × Int × Int × Int)} {f_g : FuncId} {f_c : List Value} {D_f : (Int × List Int × Int × Int × Int) → Prop} {f : (Int × List Int × Int × Int × Int) → Bool} (hD_f : ∀ x ∈ s, D_f x) : Tr Tryz.prog 228 [.slice a_s m_s c_s, .func (.func f_g) #[] f_c.toArray] (fun w L => Ro w L eMethods [.slice a_s m_s c_s] s ∧ FnP Tryz.prog w L f_g f_c eMethod valS D_f f) [] (κ := Unit) (fun k => True) (fun k => .int .i64 (idxP f s)) (fun k => []) := by
  refine Tr.intro Tryz.func228 rfl (n := 19) rfl (by decide +kernel) bl (fr := [(0, .slice a_s m_s c_s), (1, .func (.func f_g) #[] f_c.toArray)]) rfl fun w L hR => ?_
  obtain ⟨hs, hf⟩ := hR
  obtain ⟨rfl, ls⟩ := hs.slen
  refine Ew Z1 (Eas rfl rfl (Eu (Eq_ (Ew Z3 (Emv rfl rfl (Ey rfl ((Y.len us_Methods rfl).yd) (Emv rfl rfl (Eu (E.block (E.loop (κ := Nat) (fun g => g ≤ s.length ∧ ∀ x ∈ s.take g, f x = false) (fun g => [(0, .slice a_s s.length c_s), (1, .func (.func f_g) #[] f_c.toArray), (7, .int .i64 (↑s.length : Int)), (8, .int .i64 (g : Int))]) (fun g => []) (fun g => s.length - g) 0 ⟨by omega, by simp⟩ ⟨rfl, rfl, rfl, rfl, trivial⟩ (.refl _) (fun g pg => ?_)))))))))))
  obtain ⟨pk, pa⟩ := pg
  refine Ew Z1 (Ey rfl ((Y.lss rfl rfl).yd) (Ent.d (fun q9 => ?_) (fun q9 => ?_)))
  · refine Eu (Eq_ (E.ct rfl (E.skipc (Et (Eq_ (E.block (Ew Z2 (Emv rfl rfl (Eas rfl rfl (Ev Z6 (Emv rfl rfl (Emv rfl rfl (Emv rfl rfl ?_)))))))))))))
    obtain ⟨eb14, eo14, ec14, ea14, er14, el14, eh14⟩ := hs.elem g om
    obtain ⟨xa14_0, xc14_0, rfl, ei14_0, xh14_0, ei14_2, ei14_3, ei14_4⟩ := Ro.pMethod er14
    have := xh14_0.slen.2
    refine Ey rfl ((Y.ix us_Methods ty_Method rfl ea14 rfl g rfl om).yd) (Ey rfl (Y.ldS (cs := [_, _, _, _, _]) ty_Method rfl (eh14 _) rfl) (Est rfl (N.fn (cs := [_, _, _, _, _]) hf rfl rfl rfl dc (fun w Lp hA => Ro.mkMethod (x := s[g]) ei14_0 (hA.ro xh14_0) ei14_2 ei14_3 ei14_4) (hD_f _ (List.getElem_mem om))) (fun _ _ => (Ent.b (fun q16 => ?_) (fun q16 => ?_)))))
    · refine Eu (E.ct rfl (Ew Z2 (Emv rfl rfl (Eas rfl rfl ?_))))
      exact Eu (E.ret (E.blr (E.thr (E.thr (E.blr (E.thr (Fg rfl rfl () (congrArg (Value.int .i64) (by first | exact idxP_hit om pa q16 | exact idxP_miss om pa)) rfl)))))))
    · refine Eu (E.cf rfl (E.skipc (E.bln (Et (Ez Z2 (Ey rfl ((Y.add rfl rfl om om).yd) (Emv rfl rfl ?_)))))))
      exact Eu (E.again br (g + 1) ⟨rfl, rfl, rfl, rfl, trivial⟩ (.refl _) ⟨by omega, take_step om pa q16⟩ om)
  · refine Eu (Eq_ (E.cf rfl (E.exit (E.the (E.the (E.blh (Et (Ew Z1 (Eas rfl rfl ?_)))))))))
    exact Eu (E.ret (Fg rfl rfl () (congrArg (Value.int .i64) (by first | exact idxP_hit om pa q16 | exact idxP_miss om pa)) rfl))
theorem t_ContainsFunc_Method {a_s : Option Addr} {m_s c_s : Nat} {s : List (Int × List Int × Int × Int × Int)} {f_g : FuncId} {f_c : List Value} {D_f : (Int × List Int × Int × Int × Int) → Prop} {f : (Int × List Int × Int × Int × Int) → Bool} (hD_f : ∀ x ∈ s, D_f x) : Tr Tryz.prog 197 [.slice a_s m_s c_s, .func (.func f_g) #[] f_c.toArray] (fun w L => Ro w L eMethods [.slice a_s m_s c_s] s ∧ FnP Tryz.prog w L f_g f_c eMethod valS D_f f) [] (κ := Unit) (fun k => True) (fun k => .bool (s.any f)) (fun k => []) := by
  refine Tr.intro Tryz.func197 rfl (n := 9) rfl (by decide +kernel) bl (fr := [(0, .slice a_s m_s c_s), (1, .func (.func f_g) #[] f_c.toArray)]) rfl fun w L hR => ?_
  obtain ⟨hs, hf⟩ := hR
  obtain ⟨rfl, ls⟩ := hs.slen
  refine Ew Z1 (Eas rfl rfl (Ev Z5 (Emv rfl rfl (Emv rfl rfl (Est rfl (N.call0 (t_IndexFunc_Method (f := f) (D_f := D_f) hD_f) rfl rfl rfl dc (fun w Lp hA => ⟨hA.ro hs, hA.fn hf⟩)) (fun _ _ => (Ey rfl ((Y.geq rfl rfl).yd) (Eas rfl rfl ?_))))))))
  exact Eu (E.ret (Fb rfl rfl (by exact idxP_nonneg)))
theorem t_IndexFunc_Fact {a_s : Option Addr} {m_s c_s : Nat} {s : List (Int × List Int)} {f_g : FuncId} {f_c : List Value} {D_f : (Int × List Int) → Prop} {f : (Int × List Int) → Bool} (hD_f : ∀ x ∈ s, D_f x) : Tr Tryz.prog 309 [.slice a_s m_s c_s, .func (.func f_g) #[] f_c.toArray] (fun w L => Ro w L eFacts [.slice a_s m_s c_s] s ∧ FnP Tryz.prog w L f_g f_c eFact valS D_f f) [] (κ := Unit) (fun k => True) (fun k => .int .i64 (idxP f s)) (fun k => []) := by
  refine Tr.intro Tryz.func309 rfl (n := 19) rfl (by decide +kernel) bl (fr := [(0, .slice a_s m_s c_s), (1, .func (.func f_g) #[] f_c.toArray)]) rfl fun w L hR => ?_
  obtain ⟨hs, hf⟩ := hR
  obtain ⟨rfl, ls⟩ := hs.slen
  refine Ew Z1 (Eas rfl rfl (Eu (Eq_ (Ew Z3 (Emv rfl rfl (Ey rfl ((Y.len us_Facts rfl).yd) (Emv rfl rfl (Eu (E.block (E.loop (κ := Nat) (fun g => g ≤ s.length ∧ ∀ x ∈ s.take g, f x = false) (fun g => [(0, .slice a_s s.length c_s), (1, .func (.func f_g) #[] f_c.toArray), (7, .int .i64 (↑s.length : Int)), (8, .int .i64 (g : Int))]) (fun g => []) (fun g => s.length - g) 0 ⟨by omega, by simp⟩ ⟨rfl, rfl, rfl, rfl, trivial⟩ (.refl _) (fun g pg => ?_)))))))))))
  obtain ⟨pk, pa⟩ := pg
  refine Ew Z1 (Ey rfl ((Y.lss rfl rfl).yd) (Ent.d (fun q9 => ?_) (fun q9 => ?_)))
  · refine Eu (Eq_ (E.ct rfl (E.skipc (Et (Eq_ (E.block (Ew Z2 (Emv rfl rfl (Eas rfl rfl (Ev Z6 (Emv rfl rfl (Emv rfl rfl (Emv rfl rfl ?_)))))))))))))
    obtain ⟨eb14, eo14, ec14, ea14, er14, el14, eh14⟩ := hs.elem g om
    obtain ⟨xa14_0, xc14_0, rfl, ei14_0, xh14_0⟩ := Ro.pFact er14
    have := xh14_0.slen.2
    refine Ey rfl ((Y.ix us_Facts ty_Fact rfl ea14 rfl g rfl om).yd) (Ey rfl (Y.ldS (cs := [_, _]) ty_Fact rfl (eh14 _) rfl) (Est rfl (N.fn (cs := [_, _]) hf rfl rfl rfl dc (fun w Lp hA => Ro.mkFact (x := s[g]) ei14_0 (hA.ro xh14_0)) (hD_f _ (List.getElem_mem om))) (fun _ _ => (Ent.b (fun q16 => ?_) (fun q16 => ?_)))))
    · refine Eu (E.ct rfl (Ew Z2 (Emv rfl rfl (Eas rfl rfl ?_))))
      exact Eu (E.ret (E.blr (E.thr (E.thr (E.blr (E.thr (Fg rfl rfl () (congrArg (Value.int .i64) (by first | exact idxP_hit om pa q16 | exact idxP_miss om pa)) rfl)))))))
    · refine Eu (E.cf rfl (E.skipc (E.bln (Et (Ez Z2 (Ey rfl ((Y.add rfl rfl om om).yd) (Emv rfl rfl ?_)))))))
      exact Eu (E.again br (g + 1) ⟨rfl, rfl, rfl, rfl, trivial⟩ (.refl _) ⟨by omega, take_step om pa q16⟩ om)
  · refine Eu (Eq_ (E.cf rfl (E.exit (E.the (E.the (E.blh (Et (Ew Z1 (Eas rfl rfl ?_)))))))))
    exact Eu (E.ret (Fg rfl rfl () (congrArg (Value.int .i64) (by first | exact idxP_hit om pa q16 | exact idxP_miss om pa)) rfl))
theorem t_ContainsFunc_Fact {a_s : Option Addr} {m_s c_s : Nat} {s : List (Int × List Int)} {f_g : FuncId} {f_c : List Value} {D_f : (Int × List Int) → Prop} {f : (Int × List Int) → Bool} (hD_f : ∀ x ∈ s, D_f x) : Tr Tryz.prog 282 [.slice a_s m_s c_s, .func (.func f_g) #[] f_c.toArray] (fun w L => Ro w L eFacts [.slice a_s m_s c_s] s ∧ FnP Tryz.prog w L f_g f_c eFact valS D_f f) [] (κ := Unit) (fun k => True) (fun k => .bool (s.any f)) (fun k => []) := by
  refine Tr.intro Tryz.func282 rfl (n := 9) rfl (by decide +kernel) bl (fr := [(0, .slice a_s m_s c_s), (1, .func (.func f_g) #[] f_c.toArray)]) rfl fun w L hR => ?_
  obtain ⟨hs, hf⟩ := hR
  obtain ⟨rfl, ls⟩ := hs.slen
  refine Ew Z1 (Eas rfl rfl (Ev Z5 (Emv rfl rfl (Emv rfl rfl (Est rfl (N.call0 (t_IndexFunc_Fact (f := f) (D_f := D_f) hD_f) rfl rfl rfl dc (fun w Lp hA => ⟨hA.ro hs, hA.fn hf⟩)) (fun _ _ => (Ey rfl ((Y.geq rfl rfl).yd) (Eas rfl rfl ?_))))))))
  exact Eu (E.ret (Fb rfl rfl (by exact idxP_nonneg)))
theorem t_IndexFunc_Atom {a_s : Option Addr} {m_s c_s : Nat} {s : List (Int × List Int)} {f_g : FuncId} {f_c : List Value} {D_f : (Int × List Int) → Prop} {f : (Int × List Int) → Bool} (hD_f : ∀ x ∈ s, D_f x) : Tr Tryz.prog 294 [.slice a_s m_s c_s, .func (.func f_g) #[] f_c.toArray] (fun w L => Ro w L eAtoms [.slice a_s m_s c_s] s ∧ FnP Tryz.prog w L f_g f_c eAtom valS D_f f) [] (κ := Unit) (fun k => True) (fun k => .int .i64 (idxP f s)) (fun k => []) := by
  refine Tr.intro Tryz.func294 rfl (n := 19) rfl (by decide +kernel) bl (fr := [(0, .slice a_s m_s c_s), (1, .func (.func f_g) #[] f_c.toArray)]) rfl fun w L hR => ?_
  obtain ⟨hs, hf⟩ := hR
  obtain ⟨rfl, ls⟩ := hs.slen
  refine Ew Z1 (Eas rfl rfl (Eu (Eq_ (Ew Z3 (Emv rfl rfl (Ey rfl ((Y.len us_Atoms rfl).yd) (Emv rfl rfl (Eu (E.block (E.loop (κ := Nat) (fun g => g ≤ s.length ∧ ∀ x ∈ s.take g, f x = false) (fun g => [(0, .slice a_s s.length c_s), (1, .func (.func f_g) #[] f_c.toArray), (7, .int .i64 (↑s.length : Int)), (8, .int .i64 (g : Int))]) (fun g => []) (fun g => s.length - g) 0 ⟨by omega, by simp⟩ ⟨rfl, rfl, rfl, rfl, trivial⟩ (.refl _) (fun g pg => ?_)))))))))))
  obtain ⟨pk, pa⟩ := pg
  refine Ew Z1 (Ey rfl ((Y.lss rfl rfl).yd) (Ent.d (fun q9 => ?_) (fun q9 => ?_)))
  · refine Eu (Eq_ (E.ct rfl (E.skipc (Et (Eq_ (E.block (Ew Z2 (Emv rfl rfl (Eas rfl rfl (Ev Z6 (Emv rfl rfl (Emv rfl rfl (Emv rfl rfl ?_)))))))))))))
    obtain ⟨eb14, eo14, ec14, ea14, er14, el14, eh14⟩ := hs.elem g om
    obtain ⟨xa14_0, xc14_0, rfl, ei14_0, xh14_0⟩ := Ro.pAtom er14
    have := xh14_0.slen.2
    refine Ey rfl ((Y.ix us_Atoms ty_Atom rfl ea14 rfl g rfl om).yd) (Ey rfl (Y.ldS (cs := [_, _]) ty_Atom rfl (eh14 _) rfl) (Est rfl (N.fn (cs := [_, _]) hf rfl rfl rfl dc (fun w Lp hA => Ro.mkAtom (x := s[g]) ei14_0 (hA.ro xh14_0)) (hD_f _ (List.getElem_mem om))) (fun _ _ => (Ent.b (fun q16 => ?_) (fun q16 => ?_)))))
    · refine Eu (E.ct rfl (Ew Z2 (Emv rfl rfl (Eas rfl rfl ?_))))
      exact Eu (E.ret (E.blr (E.thr (E.thr (E.blr (E.thr (Fg rfl rfl () (congrArg (Value.int .i64) (by first | exact idxP_hit om pa q16 | exact idxP_miss om pa)) rfl)))))))
    · refine Eu (E.cf rfl (E.skipc (E.bln (Et (Ez Z2 (Ey rfl ((Y.add rfl rfl om om).yd) (Emv rfl rfl ?_)))))))
      exact Eu (E.again br (g + 1) ⟨rfl, rfl, rfl, rfl, trivial⟩ (.refl _) ⟨by omega, take_step om pa q16⟩ om)
  · refine Eu (Eq_ (E.cf rfl (E.exit (E.the (E.the (E.blh (Et (Ew Z1 (Eas rfl rfl ?_)))))))))
    exact Eu (E.ret (Fg rfl rfl () (congrArg (Value.int .i64) (by first | exact idxP_hit om pa q16 | exact idxP_miss om pa)) rfl))
theorem t_ContainsFunc_Atom {a_s : Option Addr} {m_s c_s : Nat} {s : List (Int × List Int)} {f_g : FuncId} {f_c : List Value} {D_f : (Int × List Int) → Prop} {f : (Int × List Int) → Bool} (hD_f : ∀ x ∈ s, D_f x) : Tr Tryz.prog 217 [.slice a_s m_s c_s, .func (.func f_g) #[] f_c.toArray] (fun w L => Ro w L eAtoms [.slice a_s m_s c_s] s ∧ FnP Tryz.prog w L f_g f_c eAtom valS D_f f) [] (κ := Unit) (fun k => True) (fun k => .bool (s.any f)) (fun k => []) := by
  refine Tr.intro Tryz.func217 rfl (n := 9) rfl (by decide +kernel) bl (fr := [(0, .slice a_s m_s c_s), (1, .func (.func f_g) #[] f_c.toArray)]) rfl fun w L hR => ?_
  obtain ⟨hs, hf⟩ := hR
  obtain ⟨rfl, ls⟩ := hs.slen
  refine Ew Z1 (Eas rfl rfl (Ev Z5 (Emv rfl rfl (Emv rfl rfl (Est rfl (N.call0 (t_IndexFunc_Atom (f := f) (D_f := D_f) hD_f) rfl rfl rfl dc (fun w Lp hA => ⟨hA.ro hs, hA.fn hf⟩)) (fun _ _ => (Ey rfl ((Y.geq rfl rfl).yd) (Eas rfl rfl ?_))))))))
  exact Eu (E.ret (Fb rfl rfl (by exact idxP_nonneg)))
theorem t_IndexFunc_Query {a_s : Option Addr} {m_s c_s : Nat} {s : List (List Int × List (Int × List Int))} {f_g : FuncId} {f_c : List Value} {D_f : (List Int × List (Int × List Int)) → Prop} {f : (List Int × List (Int × List Int)) → Bool} (hD_f : ∀ x ∈ s, D_f x) : Tr Tryz.prog 242 [.slice a_s m_s c_s, .func (.func f_g) #[] f_c.toArray] (fun w L => Ro w L eQuerys [.slice a_s m_s c_s] s ∧ FnP Tryz.prog w L f_g f_c eQuery valS D_f f) [] (κ := Unit) (fun k => True) (fun k => .int .i64 (idxP f s)) (fun k => []) := by
  refine Tr.intro Tryz.func242 rfl (n := 19) rfl (by decide +kernel) bl (fr := [(0, .slice a_s m_s c_s), (1, .func (.func f_g) #[] f_c.toArray)]) rfl fun w L hR => ?_
  obtain ⟨hs, hf⟩ := hR
  obtain ⟨rfl, ls⟩ := hs.slen
  refine Ew Z1 (Eas rfl rfl (Eu (Eq_ (Ew Z3 (Emv rfl rfl (Ey rfl ((Y.len us_Querys rfl).yd) (Emv rfl rfl (Eu (E.block (E.loop (κ := Nat) (fun g => g ≤ s.length ∧ ∀ x ∈ s.take g, f x = false) (fun g => [(0, .slice a_s s.length c_s), (1, .func (.func f_g) #[] f_c.toArray), (7, .int .i64 (↑s.length : Int)), (8, .int .i64 (g : Int))]) (fun g => []) (fun g => s.length - g) 0 ⟨by omega, by simp⟩ ⟨rfl, rfl, rfl, rfl, trivial⟩ (.refl _) (fun g pg => ?_)))))))))))
  obtain ⟨pk, pa⟩ := pg
  refine Ew Z1 (Ey rfl ((Y.lss rfl rfl).yd) (Ent.d (fun q9 => ?_) (fun q9 => ?_)))
  · refine Eu (Eq_ (E.ct rfl (E.skipc (Et (Eq_ (E.block (Ew Z2 (Emv rfl rfl (Eas rfl rfl (Ev Z6 (Emv rfl rfl (Emv rfl rfl (Emv rfl rfl ?_)))))))))))))
    obtain ⟨eb14, eo14, ec14, ea14, er14, el14, eh14⟩ := hs.elem g om
    obtain ⟨xa14_0, xc14_0, xa14_1, xc14_1, rfl, xh14_0, xh14_1⟩ := Ro.pQuery er14
    have := xh14_0.slen.2
    have := xh14_1.slen.2
    refine Ey rfl ((Y.ix us_Querys ty_Query rfl ea14 rfl g rfl om).yd) (Ey rfl (Y.ldS (cs := [_, _]) ty_Query rfl (eh14 _) rfl) (Est rfl (N.fn (cs := [_, _]) hf rfl rfl rfl dc (fun w Lp hA => Ro.mkQuery (x := s[g]) (hA.ro xh14_0) (hA.ro xh14_1)) (hD_f _ (List.getElem_mem om))) (fun _ _ => (Ent.b (fun q16 => ?_) (fun q16 => ?_)))))
    · refine Eu (E.ct rfl (Ew Z2 (Emv rfl rfl (Eas rfl rfl ?_))))
      exact Eu (E.ret (E.blr (E.thr (E.thr (E.blr (E.thr (Fg rfl rfl () (congrArg (Value.int .i64) (by first | exact idxP_hit om pa q16 | exact idxP_miss om pa)) rfl)))))))
    · refine Eu (E.cf rfl (E.skipc (E.bln (Et (Ez Z2 (Ey rfl ((Y.add rfl rfl om om).yd) (Emv rfl rfl ?_)))))))
      exact Eu (E.again br (g + 1) ⟨rfl, rfl, rfl, rfl, trivial⟩ (.refl _) ⟨by omega, take_step om pa q16⟩ om)
  · refine Eu (Eq_ (E.cf rfl (E.exit (E.the (E.the (E.blh (Et (Ew Z1 (Eas rfl rfl ?_)))))))))
    exact Eu (E.ret (Fg rfl rfl () (congrArg (Value.int .i64) (by first | exact idxP_hit om pa q16 | exact idxP_miss om pa)) rfl))
theorem t_ContainsFunc_Query {a_s : Option Addr} {m_s c_s : Nat} {s : List (List Int × List (Int × List Int))} {f_g : FuncId} {f_c : List Value} {D_f : (List Int × List (Int × List Int)) → Prop} {f : (List Int × List (Int × List Int)) → Bool} (hD_f : ∀ x ∈ s, D_f x) : Tr Tryz.prog 131 [.slice a_s m_s c_s, .func (.func f_g) #[] f_c.toArray] (fun w L => Ro w L eQuerys [.slice a_s m_s c_s] s ∧ FnP Tryz.prog w L f_g f_c eQuery valS D_f f) [] (κ := Unit) (fun k => True) (fun k => .bool (s.any f)) (fun k => []) := by
  refine Tr.intro Tryz.func131 rfl (n := 9) rfl (by decide +kernel) bl (fr := [(0, .slice a_s m_s c_s), (1, .func (.func f_g) #[] f_c.toArray)]) rfl fun w L hR => ?_
  obtain ⟨hs, hf⟩ := hR
  obtain ⟨rfl, ls⟩ := hs.slen
  refine Ew Z1 (Eas rfl rfl (Ev Z5 (Emv rfl rfl (Emv rfl rfl (Est rfl (N.call0 (t_IndexFunc_Query (f := f) (D_f := D_f) hD_f) rfl rfl rfl dc (fun w Lp hA => ⟨hA.ro hs, hA.fn hf⟩)) (fun _ _ => (Ey rfl ((Y.geq rfl rfl).yd) (Eas rfl rfl ?_))))))))
  exact Eu (E.ret (Fb rfl rfl (by exact idxP_nonneg)))
theorem t_impl_IsSchema_1 {n : Int} : Tr Tryz.prog 284 [.int .i64 n] (fun w L => (I64 n) ∧ True) [] (κ := Unit) (fun k => True) (fun k => .bool (!inR n 1 3)) (fun k => []) := by
  refine Tr.intro Tryz.func284 rfl (n := 6) rfl (by decide +kernel) bl (fr := [(0, .int .i64 n)]) rfl fun w L hR => ?_
  obtain ⟨i6n, _⟩ := hR
  refine Ew Z1 (Eas rfl rfl (Ev Z4 (Emv rfl rfl (Est rfl (N.call0 t_impl_within rfl rfl rfl dc (fun w Lp hA => trivial)) (fun _ _ => (Ey rfl ((Y.not rfl).yd) (Eas rfl rfl ?_)))))))
  exact Eu (E.ret (Fb rfl rfl (by simp_all)))
theorem t_impl_IsSchema {a_s : Option Addr} {m_s c_s : Nat} {s : List Int} : Tr Tryz.prog 196 [.slice a_s m_s c_s] (fun w L => Ro w L eIs [.slice a_s m_s c_s] s) [] (κ := Unit) (fun k => True) (fun k => .bool (okSchema s)) (fun k => []) := by
  refine Tr.intro Tryz.func196 rfl (n := 11) rfl (by decide +kernel) bl (fr := [(0, .slice a_s m_s c_s)]) rfl fun w L hR => ?_
  have hs := hR
  obtain ⟨rfl, ls⟩ := hs.slen
  refine Ew Z1 (Eas rfl rfl (Ev Z9 (Emv rfl rfl (Ey rfl ((Y.len us_Is rfl).yd) (Est rfl (N.call0 t_impl_within rfl rfl rfl dc (fun w Lp hA => trivial)) (fun _ _ => (Ent.b (fun q5 => ?_) (fun q5 => ?_))))))))
  · refine Emv rfl rfl (Emv rfl rfl (Est rfl (N.call0 (t_ContainsFunc_I (f := (fun n => !inR n 1 3)) (D_f := (fun _ => True)) (by intros; exact trivial)) rfl rfl rfl dc (fun w Lp hA => ⟨hA.ro hs, FnP.ofI (D := (fun _ => True)) (fun hd => t_impl_IsSchema_1) (fun w' hk => trivial)⟩)) (fun _ _ => (Ey rfl ((Y.not rfl).yd) (Ey rfl ((Y.pkt rfl rfl).yd) (Eas rfl rfl ?_))))))
    exact Eu (E.ret (Fb rfl rfl (by simp_all [okSchema])))
  · refine Emv rfl rfl (Es rfl (Es rfl (Es rfl (Ey rfl ((Y.pkf rfl rfl).yd) (Eas rfl rfl ?_)))))
    exact Eu (E.ret (Fb rfl rfl (by simp_all [okSchema])))
theorem t_spec_IsSchema {a_s : Option Addr} {m_s c_s : Nat} {s : List Int} : Tr Tryz.prog 191 [.slice a_s m_s c_s] (fun w L => Ro w L eIs [.slice a_s m_s c_s] s) [] (κ := Unit) (fun k => True) (fun k => .bool (okSchema s)) (fun k => []) := by
  refine Tr.intro Tryz.func191 rfl (n := 19) rfl (by decide +kernel) bl (fr := [(0, .slice a_s m_s c_s)]) rfl fun w L hR => ?_
  have hs := hR
  obtain ⟨rfl, ls⟩ := hs.slen
  refine Ew Z1 (Eas rfl rfl (Eu (Eq_ (Ew Z1 (Eas rfl rfl (Eu (E.block (E.loop (κ := Nat) (fun g => g ≤ s.length ∧ ∀ x ∈ s.take g, (!inR x 1 3) = false) (fun g => [(0, .slice a_s s.length c_s), (3, .int .i64 (g : Int))]) (fun g => []) (fun g => s.length - g) 0 ⟨by omega, by simp⟩ ⟨rfl, rfl, trivial⟩ (.refl _) (fun g pg => ?_)))))))))
  obtain ⟨pk, pa⟩ := pg
  refine Eq_ (Ew Z4 (Emv rfl rfl (Emv rfl rfl (Ey rfl ((Y.len us_Is rfl).yd) (Ey rfl ((Y.lss rfl rfl).yd) (Ent.d (fun q7 => ?_) (fun q7 => ?_)))))))
  · refine Eu (E.ct rfl (E.skipc (Et (Eq_ (E.block (Ew Z6 (Emv rfl rfl (Emv rfl rfl ?_))))))))
    obtain ⟨eb12, eo12, ea12, ei12, eh12⟩ := hs.elemI g om
    refine Ey rfl ((Y.ix us_Is ty_I rfl ea12 rfl g rfl om).yd) (Ey rfl (Y.ld1 ty_I rfl (eh12 _) rfl) (Est rfl (N.call0 t_spec_l1In rfl rfl rfl dc (fun w Lp hA => trivial)) (fun _ _ => (Ent.b (fun q14 => ?_) (fun q14 => ?_)))))
    · refine Ey rfl ((Y.not (b := true) rfl).yd) (Eu (E.cf rfl (E.skipc (E.bln (Et (Ez Z3 (Emv rfl rfl (Ey rfl ((Y.add rfl rfl om om).yd) (Eas rfl rfl ?_)))))))))
      exact Eu (E.again br (g + 1) ⟨rfl, rfl, trivial⟩ (.refl _) ⟨by omega, take_step om pa (by simp [q14])⟩ om)
    · refine Ey rfl ((Y.not (b := false) rfl).yd) (Eu (E.ct rfl (Ew Z1 (Eas rfl rfl ?_))))
      exact Eu (E.ret (E.blr (E.thr (E.thr (E.blr (E.thr (Fb rfl rfl (by first | (have := any_hit (k := g) (s := s) (p := fun x => !inR x 1 3) om (by simpa using q14); rw [okSchema, this]; simp) | (have := any_miss om pa; rw [okSchema, this]; simp)))))))))
  · refine Eu (E.cf rfl (E.exit (E.the (E.the (E.blh (Et (Ew Z4 (Emv rfl rfl (Ey rfl ((Y.len us_Is rfl).yd) (Est rfl (N.call0 t_spec_l1In rfl rfl rfl dc (fun w Lp hA => trivial)) (fun _ _ => (Eas rfl rfl ?_))))))))))))
    exact Eu (E.ret (Fb rfl rfl (by first | (have := any_hit (k := g) (s := s) (p := fun x => !inR x 1 3) om (by simpa using q14); rw [okSchema, this]; simp) | (have := any_miss om pa; rw [okSchema, this]; simp))))
theorem t_impl_hasRel {a_s : Option Addr} {m_s c_s : Nat} {s : List Int} {rel : Int} : Tr Tryz.prog 285 [.slice a_s m_s c_s, .int .i64 rel] (fun w L => Ro w L eIs [.slice a_s m_s c_s] s) [] (κ := Unit) (fun k => True) (fun k => .bool (okRel s rel)) (fun k => []) := by
  refine Tr.intro Tryz.func285 rfl (n := 14) rfl (by decide +kernel) bl (fr := [(0, .slice a_s m_s c_s), (1, .int .i64 rel)]) rfl fun w L hR => ?_
  have hs := hR
  obtain ⟨rfl, ls⟩ := hs.slen
  refine Ew Z1 (Eas rfl rfl (Ev Z10 (Emv rfl rfl (Est rfl (N.call0 t_impl_IsSchema rfl rfl rfl dc (fun w Lp hA => hA.ro hs)) (fun _ _ => (Ent.b (fun q6 => ?_) (fun q6 => ?_)))))))
  · refine Emv rfl rfl (Emv rfl rfl (Emv rfl rfl (Ey rfl ((Y.len us_Is rfl).yd) (Ey rfl ((Y.sub rfl rfl om om).yd) (Est rfl (N.call0 t_impl_within rfl rfl rfl dc (fun w Lp hA => trivial)) (fun _ _ => (Ey rfl ((Y.pkt rfl rfl).yd) (Eas rfl rfl ?_))))))))
    exact Eu (E.ret (Fb rfl rfl (by simp_all [okRel])))
  · refine Emv rfl rfl (Es rfl (Es rfl (Es rfl (Es rfl (Es rfl (Ey rfl ((Y.pkf rfl rfl).yd) (Eas rfl rfl ?_)))))))
    exact Eu (E.ret (Fb rfl rfl (by simp_all [okRel])))
theorem t_laws_szIntS {a_a : Option Addr} {m_a c_a : Nat} {a : List Int} {left : Int} : Tr Tryz.prog 102 [.slice a_a m_a c_a, .int .i64 left] (fun w L => Ro w L eIs [.slice a_a m_a c_a] a ∧ 0 ≤ left ∧ left ≤ 1048576) [] (κ := Unit) (fun k => True) (fun k => .int .i64 (szR a.length left)) (fun k => []) := by
  refine Tr.intro Tryz.func102 rfl (n := 12) rfl (by decide +kernel) bl (fr := [(0, .slice a_a m_a c_a), (1, .int .i64 left)]) rfl fun w L hR => ?_
  obtain ⟨ha, as0, as1⟩ := hR
  obtain ⟨rfl, la⟩ := ha.slen
  refine Ew Z1 (Eas rfl rfl (Ev Z5 (Emv rfl rfl (Emv rfl rfl (Ey rfl ((Y.len us_Is rfl).yd) (Ey rfl ((Y.sub rfl rfl om om).yd) (Eas rfl rfl (Eu (Eq_ (Ew Z2 (Emv rfl rfl (Ey rfl ((Y.lss rfl rfl).yd) (Ent.d (fun q10 => ?_) (fun q10 => ?_))))))))))))))
  · refine Eu (E.ct rfl (Ew Z1 (Eas rfl rfl ?_)))
    exact Eu (E.ret (E.thr (Fg rfl rfl () (congrArg (Value.int .i64) (by simp only [szR]; split <;> omega)) rfl)))
  · refine Eu (E.cf rfl (E.skipc (Et (Ew Z2 (Emv rfl rfl (Eas rfl rfl ?_))))))
    exact Eu (E.ret (Fg rfl rfl () (congrArg (Value.int .i64) (by simp only [szR]; split <;> omega)) rfl))
theorem t_laws_toIntS {a_a : Option Addr} {m_a c_a : Nat} {a : List Int} (hz : a.length ≤ 1048576) : Tr Tryz.prog 18 [.slice a_a m_a c_a] (fun w L => Ro w L eIs [.slice a_a m_a c_a] a) [] (κ := Option Addr × Nat × Nat) (fun k => True) (fun k => .slice k.1 k.2.1 k.2.2) (fun k => [ow eIs [.slice k.1 k.2.1 k.2.2] a]) := by
  refine Tr.intro Tryz.func18 rfl (n := 22) rfl (by decide +kernel) bl (fr := [(0, .slice a_a m_a c_a)]) rfl fun w L hR => ?_
  have ha := hR
  obtain ⟨rfl, la⟩ := ha.slen
  refine Ew Z1 (Eas rfl rfl (Ev Z4 (Emv rfl rfl (Ey rfl ((Y.len us_Is rfl).yd) (Est rfl (N.make (m := a.length) us_Is ty_I rfl rfl rfl mx om dc) (fun b7 _ => (Ent.mkow (A := [_]) (Own.made (E := Enc.int) (e := tI) (zx := 0) (Own.int (by unfold I64; omega)) mx) rfl (Eas rfl rfl (Eu (Eq_ (Ew Z1 (Eas rfl rfl (Eu (E.block (E.loop (κ := Nat) (fun g => g ≤ a.length) (fun g => [(0, .slice a_a a.length c_a), (3, .slice (some ⟨b7, 0, none⟩) a.length a.length), (4, .int .i64 (g : Int))]) (fun g => [ow eIs [.slice (some ⟨b7, 0, none⟩) a.length a.length] (a.take g ++ List.replicate (a.length - g) 0)]) (fun g => a.length - g) 0 (Nat.zero_le _) ⟨rfl, rfl, rfl, trivial⟩ (by simp) (fun g pg => (Eq_ (Ew Z4 (Emv rfl rfl (Emv rfl rfl (Ey rfl ((Y.len us_Is rfl).yd) (Ey rfl ((Y.lss rfl rfl).yd) (Ent.d (fun q11 => ?_) (fun q11 => ?_))))))))))))))))))))))))
  · refine Eu (E.ct rfl (E.skipc (Et (Eq_ (E.block (Ez Z8 (Emv rfl rfl (Emv rfl rfl (Emv rfl rfl (Emv rfl rfl ?_))))))))))
    obtain ⟨eb18, eo18, ea18, ei18, eh18⟩ := ha.elemI g om
    refine Ey rfl ((Y.ix us_Is ty_I rfl ea18 rfl g rfl om).yd) (Ey rfl (Y.ld1 ty_I rfl (eh18 _) rfl) (Ey rfl ((Y.ix us_Is ty_I rfl rfl rfl g rfl om).yd) (Est rfl (N.set (E := Enc.int) (j := g) (ex := a[g]) (ce := [_]) ty_I rfl rfl rfl rfl (Own.int ei18) rfl (Nat.zero_add _) rfl (by simp; omega)) (fun _ _ => (En (E.bln (Et (Ez Z3 (Emv rfl rfl (Ey rfl ((Y.add rfl rfl om om).yd) (Eas rfl rfl ?_)))))))))))
    exact Eu (E.again br (g + 1) ⟨rfl, rfl, rfl, trivial⟩ (by rw [set_take om rfl]) om om)
  · refine Eu (E.cf rfl (E.exit (E.the (E.the (E.blh (Et (Ew Z2 (Emv rfl rfl (Eas rfl rfl (Eu (E.ret (Ent.cv (congrArg (ow eIs [_]) (show _ = a by (have := pg; rw [show g = a.length from by omega]; simp))) ?_))))))))))))
    exact Fg rfl rfl (_, _, _) rfl rfl
theorem t_laws_eqIntS {a_a : Option Addr} {m_a c_a : Nat} {a : List Int} {a_b : Option Addr} {m_b c_b : Nat} {b : List Int} : Tr Tryz.prog 24 [.slice a_a m_a c_a, .slice a_b m_b c_b] (fun w L => Ro w L eIs [.slice a_a m_a c_a] a ∧ Ro w L eIs [.slice a_b m_b c_b] b) [] (κ := Unit) (fun k => True) (fun k => .bool (decide (a = b))) (fun k => []) := by
  refine Tr.intro Tryz.func24 rfl (n := 26) rfl (by decide +kernel) bl (fr := [(0, .slice a_a m_a c_a), (1, .slice a_b m_b c_b)]) rfl fun w L hR => ?_
  obtain ⟨ha, hb⟩ := hR
  obtain ⟨rfl, la⟩ := ha.slen
  obtain ⟨rfl, lb⟩ := hb.slen
  refine Ew Z1 (Eas rfl rfl (Eu (Eq_ (Ew Z5 (Emv rfl rfl (Ey rfl ((Y.len us_Is rfl).yd) (Emv rfl rfl (Ey rfl ((Y.len us_Is rfl).yd) (Ey rfl ((Y.neq rfl rfl).yd) (Ent.d (fun q10 => ?_) (fun q10 => ?_)))))))))))
  · refine Eu (E.ct rfl (Ew Z1 (Eas rfl rfl ?_)))
    exact Eu (E.ret (E.thr (Fb rfl rfl (by exact ne_of_len q10))))
  · refine Eu (E.cf rfl (E.skipc (Et (Eq_ (Ew Z1 (Eas rfl rfl (Eu (E.block (E.loop (κ := Nat) (fun g => g ≤ a.length ∧ a.take g = b.take g) (fun g => [(0, .slice a_a a.length c_a), (1, .slice a_b b.length c_b), (5, .int .i64 (g : Int))]) (fun g => []) (fun g => a.length - g) 0 ⟨by omega, by simp⟩ ⟨rfl, rfl, rfl, trivial⟩ (.refl _) (fun g pg => ?_))))))))))
    obtain ⟨pk, pa⟩ := pg
    refine Eq_ (Ew Z4 (Emv rfl rfl (Emv rfl rfl (Ey rfl ((Y.len us_Is rfl).yd) (Ey rfl ((Y.lss rfl rfl).yd) (Ent.d (fun q14 => ?_) (fun q14 => ?_)))))))
    · refine Eu (E.ct rfl (E.skipc (Et (Eq_ (E.block (Eq_ (D.region (fun j => true) mixed (Dyp 0 rfl (Y.mv rfl) (Dyp 1 rfl (Y.mv rfl) ?_)))))))))
      obtain ⟨eb19, eo19, ea19, ei19, eh19⟩ := ha.elemI g om
      refine Dyp 2 rfl (Y.ix us_Is ty_I rfl ea19 rfl g rfl om) (Dy 3 rfl (Y.ld1 ty_I rfl (eh19 _) rfl) (Dyp 4 rfl (Y.mv rfl) (Dyp 5 rfl (Y.mv rfl) ?_)))
      obtain ⟨eb23, eo23, ea23, ei23, eh23⟩ := hb.elemI g om
      refine Dyp 6 rfl (Y.ix us_Is ty_I rfl ea23 rfl g rfl om) (Dy 7 rfl (Y.ld1 ty_I rfl (eh23 _) rfl) (Dyp 8 rfl (Y.neq rfl rfl) (Ent.d (fun q25 => ?_) (fun q25 => ?_))))
      · refine D.done kr (Et (E.ct rfl (Ew Z1 (Eas rfl rfl ?_))))
        exact Eu (E.ret (E.blr (E.thr (E.thr (E.blr (E.thr (Fb rfl rfl (by exact ne_of_get (show g < a.length by omega) (show g < b.length by omega) q25))))))))
      · refine D.done kr (Et (E.cf rfl (E.skipc (E.bln (Et (Ez Z3 (Emv rfl rfl (Ey rfl ((Y.add rfl rfl om om).yd) (Eas rfl rfl ?_)))))))))
        exact Eu (E.again br (g + 1) ⟨rfl, rfl, rfl, trivial⟩ (.refl _) ⟨by omega, take_eq_step om om pa om⟩ om)
    · refine Eu (E.cf rfl (E.exit (E.the (E.the (E.blh (Et (Ew Z1 (Eas rfl rfl ?_))))))))
      exact Eu (E.ret (Fb rfl rfl (by exact eq_of_take (show a.length ≤ g by omega) (show b.length ≤ g by omega) pa)))
end Go.Proofs.YtonkkkjgdohooaaGreat
