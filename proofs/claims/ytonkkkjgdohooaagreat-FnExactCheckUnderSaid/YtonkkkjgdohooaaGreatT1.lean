import Derived.Test.YtonkkkjgdohooaaGreatBs
import Derived.Test.YtonkkkjgdohooaaGreatBd
import Derived.Test.YtonkkkjgdohooaaGreatBc
namespace Go.Proofs.YtonkkkjgdohooaaGreat
open Go.RowKit
set_option linter.unusedVariables false
set_option linter.unusedSimpArgs false
set_option maxHeartbeats 2000000
attribute [local irreducible] Nop Yd Yp Ent Has Tr FnP FnP2 Src
theorem t_spec_l1In {x : Int} {low : Int} {high : Int} : Tr Tryz.prog 192 [.int .i64 x, .int .i64 low, .int .i64 high] (fun w L => True) [] (κ := Unit) (fun k => True) (fun k => .bool (inR x low high)) (fun k => []) := by
  refine Tr.intro Tryz.func192 rfl (n := 15) rfl (by decide +kernel) bl (fr := [(0, .int .i64 x), (1, .int .i64 low), (2, .int .i64 high)]) rfl fun w L hR => (Ew Z1 (Eas rfl rfl (Ev Z9 (Emv rfl rfl (Emv rfl rfl (Ey rfl ((Y.geq rfl rfl).yd) (Ent.d (fun q9 => ?_) (fun q9 => ?_))))))))
  · refine Emv rfl rfl (Emv rfl rfl (Emv rfl rfl (Ey rfl ((Y.leq rfl rfl).yd) (Ey rfl ((Y.pkt rfl rfl).yd) (Eas rfl rfl ?_)))))
    exact Eu (E.ret (Fb rfl rfl (by simp_all [inR]; try omega)))
  · refine Emv rfl rfl (Es rfl (Es rfl (Es rfl (Ey rfl ((Y.pkf rfl rfl).yd) (Eas rfl rfl ?_)))))
    exact Eu (E.ret (Fb rfl rfl (by simp_all [inR]; try omega)))
theorem t_impl_within {n : Int} {low : Int} {high : Int} : Tr Tryz.prog 200 [.int .i64 n, .int .i64 low, .int .i64 high] (fun w L => True) [] (κ := Unit) (fun k => True) (fun k => .bool (inR n low high)) (fun k => []) := by
  refine Tr.intro Tryz.func200 rfl (n := 15) rfl (by decide +kernel) bl (fr := [(0, .int .i64 n), (1, .int .i64 low), (2, .int .i64 high)]) rfl fun w L hR => (Ew Z1 (Eas rfl rfl (Ev Z9 (Emv rfl rfl (Emv rfl rfl (Ey rfl ((Y.geq rfl rfl).yd) (Ent.d (fun q9 => ?_) (fun q9 => ?_))))))))
  · refine Emv rfl rfl (Emv rfl rfl (Emv rfl rfl (Ey rfl ((Y.leq rfl rfl).yd) (Ey rfl ((Y.pkt rfl rfl).yd) (Eas rfl rfl ?_)))))
    exact Eu (E.ret (Fb rfl rfl (by simp_all [inR]; try omega)))
  · refine Emv rfl rfl (Es rfl (Es rfl (Es rfl (Ey rfl ((Y.pkf rfl rfl).yd) (Eas rfl rfl ?_)))))
    exact Eu (E.ret (Fb rfl rfl (by simp_all [inR]; try omega)))
theorem t_IndexFunc_I {a_s : Option Addr} {m_s c_s : Nat} {s : List Int} {f_g : FuncId} {f_c : List Value} {D_f : Int → Prop} {f : Int → Bool} (hD_f : ∀ x ∈ s, D_f x) : Tr Tryz.prog 296 [.slice a_s m_s c_s, .func (.func f_g) #[] f_c.toArray] (fun w L => Ro w L eIs [.slice a_s m_s c_s] s ∧ FnP Tryz.prog w L f_g f_c Enc.int val1 D_f f) [] (κ := Unit) (fun k => True) (fun k => .int .i64 (idxP f s)) (fun k => []) := by
  refine Tr.intro Tryz.func296 rfl (n := 19) rfl (by decide +kernel) bl (fr := [(0, .slice a_s m_s c_s), (1, .func (.func f_g) #[] f_c.toArray)]) rfl fun w L hR => ?_
  obtain ⟨hs, hf⟩ := hR
  obtain ⟨rfl, ls⟩ := hs.slen
  refine Ew Z1 (Eas rfl rfl (Eu (Eq_ (Ew Z3 (Emv rfl rfl (Ey rfl ((Y.len us_Is rfl).yd) (Emv rfl rfl (Eu (E.block (E.loop (κ := Nat) (fun g => g ≤ s.length ∧ ∀ x ∈ s.take g, f x = false) (fun g => [(0, .slice a_s s.length c_s), (1, .func (.func f_g) #[] f_c.toArray), (7, .int .i64 (↑s.length : Int)), (8, .int .i64 (g : Int))]) (fun g => []) (fun g => s.length - g) 0 ⟨by omega, by simp⟩ ⟨rfl, rfl, rfl, rfl, trivial⟩ (.refl _) (fun g pg => ?_)))))))))))
  obtain ⟨pk, pa⟩ := pg
  refine Ew Z1 (Ey rfl ((Y.lss rfl rfl).yd) (Ent.d (fun q9 => ?_) (fun q9 => ?_)))
  · refine Eu (Eq_ (E.ct rfl (E.skipc (Et (Eq_ (E.block (Ew Z2 (Emv rfl rfl (Eas rfl rfl (Ev Z6 (Emv rfl rfl (Emv rfl rfl (Emv rfl rfl ?_)))))))))))))
    obtain ⟨eb14, eo14, ea14, ei14, eh14⟩ := hs.elemI g om
    refine Ey rfl ((Y.ix us_Is ty_I rfl ea14 rfl g rfl om).yd) (Ey rfl (Y.ld1 ty_I rfl (eh14 _) rfl) (Est rfl (N.fn (cs := [_]) hf rfl rfl rfl dc (fun w Lp hA => Ro.mkint ei14) (hD_f _ (List.getElem_mem om))) (fun _ _ => (Ent.b (fun q16 => ?_) (fun q16 => ?_)))))
    · refine Eu (E.ct rfl (Ew Z2 (Emv rfl rfl (Eas rfl rfl ?_))))
      exact Eu (E.ret (E.blr (E.thr (E.thr (E.blr (E.thr (Fg rfl rfl () (congrArg (Value.int .i64) (by first | exact idxP_hit om pa q16 | exact idxP_miss om pa)) rfl)))))))
    · refine Eu (E.cf rfl (E.skipc (E.bln (Et (Ez Z2 (Ey rfl ((Y.add rfl rfl om om).yd) (Emv rfl rfl ?_)))))))
      exact Eu (E.again br (g + 1) ⟨rfl, rfl, rfl, rfl, trivial⟩ (.refl _) ⟨by omega, take_step om pa q16⟩ om)
  · refine Eu (Eq_ (E.cf rfl (E.exit (E.the (E.the (E.blh (Et (Ew Z1 (Eas rfl rfl ?_)))))))))
    exact Eu (E.ret (Fg rfl rfl () (congrArg (Value.int .i64) (by first | exact idxP_hit om pa q16 | exact idxP_miss om pa)) rfl))
theorem t_ContainsFunc_I {a_s : Option Addr} {m_s c_s : Nat} {s : List Int} {f_g : FuncId} {f_c : List Value} {D_f : Int → Prop} {f : Int → Bool} (hD_f : ∀ x ∈ s, D_f x) : Tr Tryz.prog 220 [.slice a_s m_s c_s, .func (.func f_g) #[] f_c.toArray] (fun w L => Ro w L eIs [.slice a_s m_s c_s] s ∧ FnP Tryz.prog w L f_g f_c Enc.int val1 D_f f) [] (κ := Unit) (fun k => True) (fun k => .bool (s.any f)) (fun k => []) := by
  refine Tr.intro Tryz.func220 rfl (n := 9) rfl (by decide +kernel) bl (fr := [(0, .slice a_s m_s c_s), (1, .func (.func f_g) #[] f_c.toArray)]) rfl fun w L hR => ?_
  obtain ⟨hs, hf⟩ := hR
  obtain ⟨rfl, ls⟩ := hs.slen
  refine Ew Z1 (Eas rfl rfl (Ev Z5 (Emv rfl rfl (Emv rfl rfl (Est rfl (N.call0 (t_IndexFunc_I (f := f) (D_f := D_f) hD_f) rfl rfl rfl dc (fun w Lp hA => ⟨hA.ro hs, hA.fn hf⟩)) (fun _ _ => (Ey rfl ((Y.geq rfl rfl).yd) (Eas rfl rfl ?_))))))))
  exact Eu (E.ret (Fb rfl rfl (by exact idxP_nonneg)))
theorem t_IndexFunc_Rule {a_s : Option Addr} {m_s c_s : Nat} {s : List (Int × Int × List Int)} {f_g : FuncId} {f_c : List Value} {D_f : (Int × Int × List Int) → Prop} {f : (Int × Int × List Int) → Bool} (hD_f : ∀ x ∈ s, D_f x) : Tr Tryz.prog 343 [.slice a_s m_s c_s, .func (.func f_g) #[] f_c.toArray] (fun w L => Ro w L eRules [.slice a_s m_s c_s] s ∧ FnP Tryz.prog w L f_g f_c eRule valS D_f f) [] (κ := Unit) (fun k => True) (fun k => .int .i64 (idxP f s)) (fun k => []) := by
  refine Tr.intro Tryz.func343 rfl (n := 19) rfl (by decide +kernel) bl (fr := [(0, .slice a_s m_s c_s), (1, .func (.func f_g) #[] f_c.toArray)]) rfl fun w L hR => ?_
  obtain ⟨hs, hf⟩ := hR
  obtain ⟨rfl, ls⟩ := hs.slen
  refine Ew Z1 (Eas rfl rfl (Eu (Eq_ (Ew Z3 (Emv rfl rfl (Ey rfl ((Y.len us_Rules rfl).yd) (Emv rfl rfl (Eu (E.block (E.loop (κ := Nat) (fun g => g ≤ s.length ∧ ∀ x ∈ s.take g, f x = false) (fun g => [(0, .slice a_s s.length c_s), (1, .func (.func f_g) #[] f_c.toArray), (7, .int .i64 (↑s.length : Int)), (8, .int .i64 (g : Int))]) (fun g => []) (fun g => s.length - g) 0 ⟨by omega, by simp⟩ ⟨rfl, rfl, rfl, rfl, trivial⟩ (.refl _) (fun g pg => ?_)))))))))))
  obtain ⟨pk, pa⟩ := pg
  refine Ew Z1 (Ey rfl ((Y.lss rfl rfl).yd) (Ent.d (fun q9 => ?_) (fun q9 => ?_)))
  · refine Eu (Eq_ (E.ct rfl (E.skipc (Et (Eq_ (E.block (Ew Z2 (Emv rfl rfl (Eas rfl rfl (Ev Z6 (Emv rfl rfl (Emv rfl rfl (Emv rfl rfl ?_)))))))))))))
    obtain ⟨eb14, eo14, ec14, ea14, er14, el14, eh14⟩ := hs.elem g om
    obtain ⟨xa14_0, xc14_0, rfl, ei14_0, ei14_1, xh14_0⟩ := Ro.pRule er14
    have := xh14_0.slen.2
    refine Ey rfl ((Y.ix us_Rules ty_Rule rfl ea14 rfl g rfl om).yd) (Ey rfl (Y.ldS (cs := [_, _, _]) ty_Rule rfl (eh14 _) rfl) (Est rfl (N.fn (cs := [_, _, _]) hf rfl rfl rfl dc (fun w Lp hA => Ro.mkRule (x := s[g]) ei14_0 ei14_1 (hA.ro xh14_0)) (hD_f _ (List.getElem_mem om))) (fun _ _ => (Ent.b (fun q16 => ?_) (fun q16 => ?_)))))
    · refine Eu (E.ct rfl (Ew Z2 (Emv rfl rfl (Eas rfl rfl ?_))))
      exact Eu (E.ret (E.blr (E.thr (E.thr (E.blr (E.thr (Fg rfl rfl () (congrArg (Value.int .i64) (by first | exact idxP_hit om pa q16 | exact idxP_miss om pa)) rfl)))))))
    · refine Eu (E.cf rfl (E.skipc (E.bln (Et (Ez Z2 (Ey rfl ((Y.add rfl rfl om om).yd) (Emv rfl rfl ?_)))))))
      exact Eu (E.again br (g + 1) ⟨rfl, rfl, rfl, rfl, trivial⟩ (.refl _) ⟨by omega, take_step om pa q16⟩ om)
  · refine Eu (Eq_ (E.cf rfl (E.exit (E.the (E.the (E.blh (Et (Ew Z1 (Eas rfl rfl ?_)))))))))
    exact Eu (E.ret (Fg rfl rfl () (congrArg (Value.int .i64) (by first | exact idxP_hit om pa q16 | exact idxP_miss om pa)) rfl))
theorem t_ContainsFunc_Rule {a_s : Option Addr} {m_s c_s : Nat} {s : List (Int × Int × List Int)} {f_g : FuncId} {f_c : List Value} {D_f : (Int × Int × List Int) → Prop} {f : (Int × Int × List Int) → Bool} (hD_f : ∀ x ∈ s, D_f x) : Tr Tryz.prog 317 [.slice a_s m_s c_s, .func (.func f_g) #[] f_c.toArray] (fun w L => Ro w L eRules [.slice a_s m_s c_s] s ∧ FnP Tryz.prog w L f_g f_c eRule valS D_f f) [] (κ := Unit) (fun k => True) (fun k => .bool (s.any f)) (fun k => []) := by
  refine Tr.intro Tryz.func317 rfl (n := 9) rfl (by decide +kernel) bl (fr := [(0, .slice a_s m_s c_s), (1, .func (.func f_g) #[] f_c.toArray)]) rfl fun w L hR => ?_
  obtain ⟨hs, hf⟩ := hR
  obtain ⟨rfl, ls⟩ := hs.slen
  refine Ew Z1 (Eas rfl rfl (Ev Z5 (Emv rfl rfl (Emv rfl rfl (Est rfl (N.call0 (t_IndexFunc_Rule (f := f) (D_f := D_f) hD_f) rfl rfl rfl dc (fun w Lp hA => ⟨hA.ro hs, hA.fn hf⟩)) (fun _ _ => (Ey rfl ((Y.geq rfl rfl).yd) (Eas rfl rfl ?_))))))))
  exact Eu (E.ret (Fb rfl rfl (by exact idxP_nonneg)))
theorem t_IndexFunc_Access {a_s : Option Addr} {m_s c_s : Nat} {s : List (Int × List Int)} {f_g : FuncId} {f_c : List Value} {D_f : (Int × List Int) → Prop} {f : (Int × List Int) → Bool} (hD_f : ∀ x ∈ s, D_f x) : Tr Tryz.prog 328 [.slice a_s m_s c_s, .func (.func f_g) #[] f_c.toArray] (fun w L => Ro w L eAccesss [.slice a_s m_s c_s] s ∧ FnP Tryz.prog w L f_g f_c eAccess valS D_f f) [] (κ := Unit) (fun k => True) (fun k => .int .i64 (idxP f s)) (fun k => []) := by
  refine Tr.intro Tryz.func328 rfl (n := 19) rfl (by decide +kernel) bl (fr := [(0, .slice a_s m_s c_s), (1, .func (.func f_g) #[] f_c.toArray)]) rfl fun w L hR => ?_
  obtain ⟨hs, hf⟩ := hR
  obtain ⟨rfl, ls⟩ := hs.slen
  refine Ew Z1 (Eas rfl rfl (Eu (Eq_ (Ew Z3 (Emv rfl rfl (Ey rfl ((Y.len us_Accesss rfl).yd) (Emv rfl rfl (Eu (E.block (E.loop (κ := Nat) (fun g => g ≤ s.length ∧ ∀ x ∈ s.take g, f x = false) (fun g => [(0, .slice a_s s.length c_s), (1, .func (.func f_g) #[] f_c.toArray), (7, .int .i64 (↑s.length : Int)), (8, .int .i64 (g : Int))]) (fun g => []) (fun g => s.length - g) 0 ⟨by omega, by simp⟩ ⟨rfl, rfl, rfl, rfl, trivial⟩ (.refl _) (fun g pg => ?_)))))))))))
  obtain ⟨pk, pa⟩ := pg
  refine Ew Z1 (Ey rfl ((Y.lss rfl rfl).yd) (Ent.d (fun q9 => ?_) (fun q9 => ?_)))
  · refine Eu (Eq_ (E.ct rfl (E.skipc (Et (Eq_ (E.block (Ew Z2 (Emv rfl rfl (Eas rfl rfl (Ev Z6 (Emv rfl rfl (Emv rfl rfl (Emv rfl rfl ?_)))))))))))))
    obtain ⟨eb14, eo14, ec14, ea14, er14, el14, eh14⟩ := hs.elem g om
    obtain ⟨xa14_0, xc14_0, rfl, ei14_0, xh14_0⟩ := Ro.pAccess er14
    have := xh14_0.slen.2
    refine Ey rfl ((Y.ix us_Accesss ty_Access rfl ea14 rfl g rfl om).yd) (Ey rfl (Y.ldS (cs := [_, _]) ty_Access rfl (eh14 _) rfl) (Est rfl (N.fn (cs := [_, _]) hf rfl rfl rfl dc (fun w Lp hA => Ro.mkAccess (x := s[g]) ei14_0 (hA.ro xh14_0)) (hD_f _ (List.getElem_mem om))) (fun _ _ => (Ent.b (fun q16 => ?_) (fun q16 => ?_)))))
    · refine Eu (E.ct rfl (Ew Z2 (Emv rfl rfl (Eas rfl rfl ?_))))
      exact Eu (E.ret (E.blr (E.thr (E.thr (E.blr (E.thr (Fg rfl rfl () (congrArg (Value.int .i64) (by first | exact idxP_hit om pa q16 | exact idxP_miss om pa)) rfl)))))))
    · refine Eu (E.cf rfl (E.skipc (E.bln (Et (Ez Z2 (Ey rfl ((Y.add rfl rfl om om).yd) (Emv rfl rfl ?_)))))))
      exact Eu (E.again br (g + 1) ⟨rfl, rfl, rfl, rfl, trivial⟩ (.refl _) ⟨by omega, take_step om pa q16⟩ om)
  · refine Eu (Eq_ (E.cf rfl (E.exit (E.the (E.the (E.blh (Et (Ew Z1 (Eas rfl rfl ?_)))))))))
    exact Eu (E.ret (Fg rfl rfl () (congrArg (Value.int .i64) (by first | exact idxP_hit om pa q16 | exact idxP_miss om pa)) rfl))
theorem t_ContainsFunc_Access {a_s : Option Addr} {m_s c_s : Nat} {s : List (Int × List Int)} {f_g : FuncId} {f_c : List Value} {D_f : (Int × List Int) → Prop} {f : (Int × List Int) → Bool} (hD_f : ∀ x ∈ s, D_f x) : Tr Tryz.prog 279 [.slice a_s m_s c_s, .func (.func f_g) #[] f_c.toArray] (fun w L => Ro w L eAccesss [.slice a_s m_s c_s] s ∧ FnP Tryz.prog w L f_g f_c eAccess valS D_f f) [] (κ := Unit) (fun k => True) (fun k => .bool (s.any f)) (fun k => []) := by
  refine Tr.intro Tryz.func279 rfl (n := 9) rfl (by decide +kernel) bl (fr := [(0, .slice a_s m_s c_s), (1, .func (.func f_g) #[] f_c.toArray)]) rfl fun w L hR => ?_
  obtain ⟨hs, hf⟩ := hR
  obtain ⟨rfl, ls⟩ := hs.slen
  refine Ew Z1 (Eas rfl rfl (Ev Z5 (Emv rfl rfl (Emv rfl rfl (Est rfl (N.call0 (t_IndexFunc_Access (f := f) (D_f := D_f) hD_f) rfl rfl rfl dc (fun w Lp hA => ⟨hA.ro hs, hA.fn hf⟩)) (fun _ _ => (Ey rfl ((Y.geq rfl rfl).yd) (Eas rfl rfl ?_))))))))
  exact Eu (E.ret (Fb rfl rfl (by exact idxP_nonneg)))
theorem t_IndexFunc_Method {a_s : Option Addr} {m_s c_s : Nat} {s : List (Int × List Int × Int × Int × Int)} {f_g : FuncId} {f_c : List Value} {D_f : (Int × List Int × Int × Int × Int) → Prop} {f : (Int × List Int × Int × Int × Int) → Bool} (hD_f : ∀ x ∈ s, D_f x) : Tr Tryz.prog 228 [.slice a_s m_s c_s, .func (.func f_g) #[] f_c.toArray] (fun w L => Ro w L eMethods [.slice a_s m_s c_s] s ∧ FnP Tryz.prog w L f_g f_c eMethod valS D_f f) [] (κ := Unit) (fun k => True) (fun k => .int .i64 (idxP f s)) (fun k => []) := by
  refine Tr.intro Tryz.func228 rfl (n := 19) rfl (by decide +kernel) bl (fr := [(0, .slice a_s m_s c_s), (1, .func (.func f_g) #[] f_c.toArray)]) rfl fun w L hR => ?_
  obtain ⟨hs, hf⟩ := hR
  obtain ⟨rfl, ls⟩ := hs.slen
  refine Ew Z1 (Eas rfl rfl (Eu (Eq_ (Ew Z3 (Emv rfl rfl (Ey rfl ((Y.len us_Methods rfl).yd) (Emv rfl rfl (Eu (E.block (E.loop (κ := Nat) (fun g => g ≤ s.length ∧ ∀ x ∈ s.take g, f x = false) (fun g => [(0, .slice a_s s.length c_s), (1, .func (.func f_g) #[] f_c.toArray), (7, .int .i64 (↑s.length : Int)), (8, .int .i64 (g : Int))]) (fun g => []) (fun g => s.length - g) 0 ⟨by omega, by simp⟩ ⟨rfl, rfl, rfl, rfl, trivial⟩ (.refl _) (fun g pg => ?_)))))))))))
  obtain ⟨pk, pa⟩ := pg
  refine Ew Z1 (Ey rfl ((Y.lss rfl rfl).yd) (Ent.d (fun q9 => ?_) (fun q9 => ?_)))
  · refine Eu (Eq_ (E.ct rfl (E.skipc (Et (Eq_ (E.block (Ew Z2 (Emv rfl rfl (Eas rfl rfl (Ev Z6 (Emv rfl rfl (Emv rfl rfl (Emv rfl rfl ?_)))))))))))))
    obtain ⟨eb14, eo14, ec14, ea14, er14, el14, eh14⟩ := hs.elem g om
    obtain ⟨xa14_0, xc14_0, rfl, ei14_0, xh14_0, ei14_2, ei14_3, ei14_4⟩ := Ro.pMethod er14
    have := xh14_0.slen.2
    refine Ey rfl ((Y.ix us_Methods ty_Method rfl ea14 rfl g rfl om).yd) (Ey rfl (Y.ldS (cs := [_, _, _, _, _]) ty_Method rfl (eh14 _) rfl) (Est rfl (N.fn (cs := [_, _, _, _, _]) hf rfl rfl rfl dc (fun w Lp hA => Ro.mkMethod (x := s[g]) ei14_0 (hA.ro xh14_0) ei14_2 ei14_3 ei14_4) (hD_f _ (List.getElem_mem om))) (fun _ _ => (Ent.b (fun q16 => ?_) (fun q16 => ?_)))))
    · refine Eu (E.ct rfl (Ew Z2 (Emv rfl rfl (Eas rfl rfl ?_))))
      exact Eu (E.ret (E.blr (E.thr (E.thr (E.blr (E.thr (Fg rfl rfl () (congrArg (Value.int .i64) (by first | exact idxP_hit om pa q16 | exact idxP_miss om pa)) rfl)))))))
    · refine Eu (E.cf rfl (E.skipc (E.bln (Et (Ez Z2 (Ey rfl ((Y.add rfl rfl om om).yd) (Emv rfl rfl ?_)))))))
      exact Eu (E.again br (g + 1) ⟨rfl, rfl, rfl, rfl, trivial⟩ (.refl _) ⟨by omega, take_step om pa q16⟩ om)
  · refine Eu (Eq_ (E.cf rfl (E.exit (E.the (E.the (E.blh (Et (Ew Z1 (Eas rfl rfl ?_)))))))))
    exact Eu (E.ret (Fg rfl rfl () (congrArg (Value.int .i64) (by first | exact idxP_hit om pa q16 | exact idxP_miss om pa)) rfl))
theorem t_ContainsFunc_Method {a_s : Option Addr} {m_s c_s : Nat} {s : List (Int × List Int × Int × Int × Int)} {f_g : FuncId} {f_c : List Value} {D_f : (Int × List Int × Int × Int × Int) → Prop} {f : (Int × List Int × Int × Int × Int) → Bool} (hD_f : ∀ x ∈ s, D_f x) : Tr Tryz.prog 197 [.slice a_s m_s c_s, .func (.func f_g) #[] f_c.toArray] (fun w L => Ro w L eMethods [.slice a_s m_s c_s] s ∧ FnP Tryz.prog w L f_g f_c eMethod valS D_f f) [] (κ := Unit) (fun k => True) (fun k => .bool (s.any f)) (fun k => []) := by
  refine Tr.intro Tryz.func197 rfl (n := 9) rfl (by decide +kernel) bl (fr := [(0, .slice a_s m_s c_s), (1, .func (.func f_g) #[] f_c.toArray)]) rfl fun w L hR => ?_
  obtain ⟨hs, hf⟩ := hR
  obtain ⟨rfl, ls⟩ := hs.slen
  refine Ew Z1 (Eas rfl rfl (Ev Z5 (Emv rfl rfl (Emv rfl rfl (Est rfl (N.call0 (t_IndexFunc_Method (f := f) (D_f := D_f) hD_f) rfl rfl rfl dc (fun w Lp hA => ⟨hA.ro hs, hA.fn hf⟩)) (fun _ _ => (Ey rfl ((Y.geq rfl rfl).yd) (Eas rfl rfl ?_))))))))
  exact Eu (E.ret (Fb rfl rfl (by exact idxP_nonneg)))
theorem t_IndexFunc_Fact {a_s : Option Addr} {m_s c_s : Nat} {s : List (Int × List Int)} {f_g : FuncId} {f_c : List Value} {D_f : (Int × List Int) → Prop} {f : (Int × List Int) → Bool} (hD_f : ∀ x ∈ s, D_f x) : Tr Tryz.prog 309 [.slice a_s m_s c_s, .func (.func f_g) #[] f_c.toArray] (fun w L => Ro w L eFacts [.slice a_s m_s c_s] s ∧ FnP Tryz.prog w L f_g f_c eFact valS D_f f) [] (κ := Unit) (fun k => True) (fun k => .int .i64 (idxP f s)) (fun k => []) := by
  refine Tr.intro Tryz.func309 rfl (n := 19) rfl (by decide +kernel) bl (fr := [(0, .slice a_s m_s c_s), (1, .func (.func f_g) #[] f_c.toArray)]) rfl fun w L hR => ?_
  obtain ⟨hs, hf⟩ := hR
  obtain ⟨rfl, ls⟩ := hs.slen
  refine Ew Z1 (Eas rfl rfl (Eu (Eq_ (Ew Z3 (Emv rfl rfl (Ey rfl ((Y.len us_Facts rfl).yd) (Emv rfl rfl (Eu (E.block (E.loop (κ := Nat) (fun g => g ≤ s.length ∧ ∀ x ∈ s.take g, f x = false) (fun g => [(0, .slice a_s s.length c_s), (1, .func (.func f_g) #[] f_c.toArray), (7, .int .i64 (↑s.length : Int)), (8, .int .i64 (g : Int))]) (fun g => []) (fun g => s.length - g) 0 ⟨by omega, by simp⟩ ⟨rfl, rfl, rfl, rfl, trivial⟩ (.refl _) (fun g pg => ?_)))))))))))
  obtain ⟨pk, pa⟩ := pg
  refine Ew Z1 (Ey rfl ((Y.lss rfl rfl).yd) (Ent.d (fun q9 => ?_) (fun q9 => ?_)))
  · refine Eu (Eq_ (E.ct rfl (E.skipc (Et (Eq_ (E.block (Ew Z2 (Emv rfl rfl (Eas rfl rfl (Ev Z6 (Emv rfl rfl (Emv rfl rfl (Emv rfl rfl ?_)))))))))))))
    obtain ⟨eb14, eo14, ec14, ea14, er14, el14, eh14⟩ := hs.elem g om
    obtain ⟨xa14_0, xc14_0, rfl, ei14_0, xh14_0⟩ := Ro.pFact er14
    have := xh14_0.slen.2
    refine Ey rfl ((Y.ix us_Facts ty_Fact rfl ea14 rfl g rfl om).yd) (Ey rfl (Y.ldS (cs := [_, _]) ty_Fact rfl (eh14 _) rfl) (Est rfl (N.fn (cs := [_, _]) hf rfl rfl rfl dc (fun w Lp hA => Ro.mkFact (x := s[g]) ei14_0 (hA.ro xh14_0)) (hD_f _ (List.getElem_mem om))) (fun _ _ => (Ent.b (fun q16 => ?_) (fun q16 => ?_)))))
    · refine Eu (E.ct rfl (Ew Z2 (Emv rfl rfl (Eas rfl rfl ?_))))
      exact Eu (E.ret (E.blr (E.thr (E.thr (E.blr (E.thr (Fg rfl rfl () (congrArg (Value.int .i64) (by first | exact idxP_hit om pa q16 | exact idxP_miss om pa)) rfl)))))))
    · refine Eu (E.cf rfl (E.skipc (E.bln (Et (Ez Z2 (Ey rfl ((Y.add rfl rfl om om).yd) (Emv rfl rfl ?_)))))))
      exact Eu (E.again br (g + 1) ⟨rfl, rfl, rfl, rfl, trivial⟩ (.refl _) ⟨by omega, take_step om pa q16⟩ om)
  · refine Eu (Eq_ (E.cf rfl (E.exit (E.the (E.the (E.blh (Et (Ew Z1 (Eas rfl rfl ?_)))))))))
    exact Eu (E.ret (Fg rfl rfl () (congrArg (Value.int .i64) (by first | exact idxP_hit om pa q16 | exact idxP_miss om pa)) rfl))
theorem t_ContainsFunc_Fact {a_s : Option Addr} {m_s c_s : Nat} {s : List (Int × List Int)} {f_g : FuncId} {f_c : List Value} {D_f : (Int × List Int) → Prop} {f : (Int × List Int) → Bool} (hD_f : ∀ x ∈ s, D_f x) : Tr Tryz.prog 282 [.slice a_s m_s c_s, .func (.func f_g) #[] f_c.toArray] (fun w L => Ro w L eFacts [.slice a_s m_s c_s] s ∧ FnP Tryz.prog w L f_g f_c eFact valS D_f f) [] (κ := Unit) (fun k => True) (fun k => .bool (s.any f)) (fun k => []) := by
  refine Tr.intro Tryz.func282 rfl (n := 9) rfl (by decide +kernel) bl (fr := [(0, .slice a_s m_s c_s), (1, .func (.func f_g) #[] f_c.toArray)]) rfl fun w L hR => ?_
  obtain ⟨hs, hf⟩ := hR
  obtain ⟨rfl, ls⟩ := hs.slen
  refine Ew Z1 (Eas rfl rfl (Ev Z5 (Emv rfl rfl (Emv rfl rfl (Est rfl (N.call0 (t_IndexFunc_Fact (f := f) (D_f := D_f) hD_f) rfl rfl rfl dc (fun w Lp hA => ⟨hA.ro hs, hA.fn hf⟩)) (fun _ _ => (Ey rfl ((Y.geq rfl rfl).yd) (Eas rfl rfl ?_))))))))
  exact Eu (E.ret (Fb rfl rfl (by exact idxP_nonneg)))
theorem t_IndexFunc_Atom {a_s : Option Addr} {m_s c_s : Nat} {s : List (Int × List Int)} {f_g : FuncId} {f_c : List Value} {D_f : (Int × List Int) → Prop} {f : (Int × List Int) → Bool} (hD_f : ∀ x ∈ s, D_f x) : Tr Tryz.prog 294 [.slice a_s m_s c_s, .func (.func f_g) #[] f_c.toArray] (fun w L => Ro w L eAtoms [.slice a_s m_s c_s] s ∧ FnP Tryz.prog w L f_g f_c eAtom valS D_f f) [] (κ := Unit) (fun k => True) (fun k => .int .i64 (idxP f s)) (fun k => []) := by
  refine Tr.intro Tryz.func294 rfl (n := 19) rfl (by decide +kernel) bl (fr := [(0, .slice a_s m_s c_s), (1, .func (.func f_g) #[] f_c.toArray)]) rfl fun w L hR => ?_
  obtain ⟨hs, hf⟩ := hR
  obtain ⟨rfl, ls⟩ := hs.slen
  refine Ew Z1 (Eas rfl rfl (Eu (Eq_ (Ew Z3 (Emv rfl rfl (Ey rfl ((Y.len us_Atoms rfl).yd) (Emv rfl rfl (Eu (E.block (E.loop (κ := Nat) (fun g => g ≤ s.length ∧ ∀ x ∈ s.take g, f x = false) (fun g => [(0, .slice a_s s.length c_s), (1, .func (.func f_g) #[] f_c.toArray), (7, .int .i64 (↑s.length : Int)), (8, .int .i64 (g : Int))]) (fun g => []) (fun g => s.length - g) 0 ⟨by omega, by simp⟩ ⟨rfl, rfl, rfl, rfl, trivial⟩ (.refl _) (fun g pg => ?_)))))))))))
  obtain ⟨pk, pa⟩ := pg
  refine Ew Z1 (Ey rfl ((Y.lss rfl rfl).yd) (Ent.d (fun q9 => ?_) (fun q9 => ?_)))
  · refine Eu (Eq_ (E.ct rfl (E.skipc (Et (Eq_ (E.block (Ew Z2 (Emv rfl rfl (Eas rfl rfl (Ev Z6 (Emv rfl rfl (Emv rfl rfl (Emv rfl rfl ?_)))))))))))))
    obtain ⟨eb14, eo14, ec14, ea14, er14, el14, eh14⟩ := hs.elem g om
    obtain ⟨xa14_0, xc14_0, rfl, ei14_0, xh14_0⟩ := Ro.pAtom er14
    have := xh14_0.slen.2
    refine Ey rfl ((Y.ix us_Atoms ty_Atom rfl ea14 rfl g rfl om).yd) (Ey rfl (Y.ldS (cs := [_, _]) ty_Atom rfl (eh14 _) rfl) (Est rfl (N.fn (cs := [_, _]) hf rfl rfl rfl dc (fun w Lp hA => Ro.mkAtom (x := s[g]) ei14_0 (hA.ro xh14_0)) (hD_f _ (List.getElem_mem om))) (fun _ _ => (Ent.b (fun q16 => ?_) (fun q16 => ?_)))))
    · refine Eu (E.ct rfl (Ew Z2 (Emv rfl rfl (Eas rfl rfl ?_))))
      exact Eu (E.ret (E.blr (E.thr (E.thr (E.blr (E.thr (Fg rfl rfl () (congrArg (Value.int .i64) (by first | exact idxP_hit om pa q16 | exact idxP_miss om pa)) rfl)))))))
    · refine Eu (E.cf rfl (E.skipc (E.bln (Et (Ez Z2 (Ey rfl ((Y.add rfl rfl om om).yd) (Emv rfl rfl ?_)))))))
      exact Eu (E.again br (g + 1) ⟨rfl, rfl, rfl, rfl, trivial⟩ (.refl _) ⟨by omega, take_step om pa q16⟩ om)
  · refine Eu (Eq_ (E.cf rfl (E.exit (E.the (E.the (E.blh (Et (Ew Z1 (Eas rfl rfl ?_)))))))))
    exact Eu (E.ret (Fg rfl rfl () (congrArg (Value.int .i64) (by first | exact idxP_hit om pa q16 | exact idxP_miss om pa)) rfl))
theorem t_ContainsFunc_Atom {a_s : Option Addr} {m_s c_s : Nat} {s : List (Int × List Int)} {f_g : FuncId} {f_c : List Value} {D_f : (Int × List Int) → Prop} {f : (Int × List Int) → Bool} (hD_f : ∀ x ∈ s, D_f x) : Tr Tryz.prog 217 [.slice a_s m_s c_s, .func (.func f_g) #[] f_c.toArray] (fun w L => Ro w L eAtoms [.slice a_s m_s c_s] s ∧ FnP Tryz.prog w L f_g f_c eAtom valS D_f f) [] (κ := Unit) (fun k => True) (fun k => .bool (s.any f)) (fun k => []) := by
  refine Tr.intro Tryz.func217 rfl (n := 9) rfl (by decide +kernel) bl (fr := [(0, .slice a_s m_s c_s), (1, .func (.func f_g) #[] f_c.toArray)]) rfl fun w L hR => ?_
  obtain ⟨hs, hf⟩ := hR
  obtain ⟨rfl, ls⟩ := hs.slen
  refine Ew Z1 (Eas rfl rfl (Ev Z5 (Emv rfl rfl (Emv rfl rfl (Est rfl (N.call0 (t_IndexFunc_Atom (f := f) (D_f := D_f) hD_f) rfl rfl rfl dc (fun w Lp hA => ⟨hA.ro hs, hA.fn hf⟩)) (fun _ _ => (Ey rfl ((Y.geq rfl rfl).yd) (Eas rfl rfl ?_))))))))
  exact Eu (E.ret (Fb rfl rfl (by exact idxP_nonneg)))
theorem t_impl_IsSchema_1 {n : Int} : Tr Tryz.prog 284 [.int .i64 n] (fun w L => (I64 n) ∧ True) [] (κ := Unit) (fun k => True) (fun k => .bool (!inR n 1 3)) (fun k => []) := by
  refine Tr.intro Tryz.func284 rfl (n := 6) rfl (by decide +kernel) bl (fr := [(0, .int .i64 n)]) rfl fun w L hR => ?_
  obtain ⟨i6n, _⟩ := hR
  refine Ew Z1 (Eas rfl rfl (Ev Z4 (Emv rfl rfl (Est rfl (N.call0 t_impl_within rfl rfl rfl dc (fun w Lp hA => trivial)) (fun _ _ => (Ey rfl ((Y.not rfl).yd) (Eas rfl rfl ?_)))))))
  exact Eu (E.ret (Fb rfl rfl (by simp_all)))
theorem t_impl_IsSchema {a_s : Option Addr} {m_s c_s : Nat} {s : List Int} : Tr Tryz.prog 196 [.slice a_s m_s c_s] (fun w L => Ro w L eIs [.slice a_s m_s c_s] s) [] (κ := Unit) (fun k => True) (fun k => .bool (okSchema s)) (fun k => []) := by
  refine Tr.intro Tryz.func196 rfl (n := 11) rfl (by decide +kernel) bl (fr := [(0, .slice a_s m_s c_s)]) rfl fun w L hR => ?_
  have hs := hR
  obtain ⟨rfl, ls⟩ := hs.slen
  refine Ew Z1 (Eas rfl rfl (Ev Z9 (Emv rfl rfl (Ey rfl ((Y.len us_Is rfl).yd) (Est rfl (N.call0 t_impl_within rfl rfl rfl dc (fun w Lp hA => trivial)) (fun _ _ => (Ent.b (fun q5 => ?_) (fun q5 => ?_))))))))
  · refine Emv rfl rfl (Emv rfl rfl (Est rfl (N.call0 (t_ContainsFunc_I (f := (fun n => !inR n 1 3)) (D_f := (fun _ => True)) (by intros; exact trivial)) rfl rfl rfl dc (fun w Lp hA => ⟨hA.ro hs, FnP.ofI (D := (fun _ => True)) (fun hd => t_impl_IsSchema_1) (fun w' hk => trivial)⟩)) (fun _ _ => (Ey rfl ((Y.not rfl).yd) (Ey rfl ((Y.pkt rfl rfl).yd) (Eas rfl rfl ?_))))))
    exact Eu (E.ret (Fb rfl rfl (by simp_all [okSchema])))
  · refine Emv rfl rfl (Es rfl (Es rfl (Es rfl (Ey rfl ((Y.pkf rfl rfl).yd) (Eas rfl rfl ?_)))))
    exact Eu (E.ret (Fb rfl rfl (by simp_all [okSchema])))
theorem t_spec_IsSchema {a_s : Option Addr} {m_s c_s : Nat} {s : List Int} : Tr Tryz.prog 191 [.slice a_s m_s c_s] (fun w L => Ro w L eIs [.slice a_s m_s c_s] s) [] (κ := Unit) (fun k => True) (fun k => .bool (okSchema s)) (fun k => []) := by
  refine Tr.intro Tryz.func191 rfl (n := 19) rfl (by decide +kernel) bl (fr := [(0, .slice a_s m_s c_s)]) rfl fun w L hR => ?_
  have hs := hR
  obtain ⟨rfl, ls⟩ := hs.slen
  refine Ew Z1 (Eas rfl rfl (Eu (Eq_ (Ew Z1 (Eas rfl rfl (Eu (E.block (E.loop (κ := Nat) (fun g => g ≤ s.length ∧ ∀ x ∈ s.take g, (!inR x 1 3) = false) (fun g => [(0, .slice a_s s.length c_s), (3, .int .i64 (g : Int))]) (fun g => []) (fun g => s.length - g) 0 ⟨by omega, by simp⟩ ⟨rfl, rfl, trivial⟩ (.refl _) (fun g pg => ?_)))))))))
  obtain ⟨pk, pa⟩ := pg
  refine Eq_ (Ew Z4 (Emv rfl rfl (Emv rfl rfl (Ey rfl ((Y.len us_Is rfl).yd) (Ey rfl ((Y.lss rfl rfl).yd) (Ent.d (fun q7 => ?_) (fun q7 => ?_)))))))
  · refine Eu (E.ct rfl (E.skipc (Et (Eq_ (E.block (Ew Z6 (Emv rfl rfl (Emv rfl rfl ?_))))))))
    obtain ⟨eb12, eo12, ea12, ei12, eh12⟩ := hs.elemI g om
    refine Ey rfl ((Y.ix us_Is ty_I rfl ea12 rfl g rfl om).yd) (Ey rfl (Y.ld1 ty_I rfl (eh12 _) rfl) (Est rfl (N.call0 t_spec_l1In rfl rfl rfl dc (fun w Lp hA => trivial)) (fun _ _ => (Ent.b (fun q14 => ?_) (fun q14 => ?_)))))
    · refine Ey rfl ((Y.not (b := true) rfl).yd) (Eu (E.cf rfl (E.skipc (E.bln (Et (Ez Z3 (Emv rfl rfl (Ey rfl ((Y.add rfl rfl om om).yd) (Eas rfl rfl ?_)))))))))
      exact Eu (E.again br (g + 1) ⟨rfl, rfl, trivial⟩ (.refl _) ⟨by omega, take_step om pa (by simp [q14])⟩ om)
    · refine Ey rfl ((Y.not (b := false) rfl).yd) (Eu (E.ct rfl (Ew Z1 (Eas rfl rfl ?_))))
      exact Eu (E.ret (E.blr (E.thr (E.thr (E.blr (E.thr (Fb rfl rfl (by first | (have := any_hit (k := g) (s := s) (p := fun x => !inR x 1 3) om (by simpa using q14); rw [okSchema, this]; simp) | (have := any_miss om pa; rw [okSchema, this]; simp)))))))))
  · refine Eu (E.cf rfl (E.exit (E.the (E.the (E.blh (Et (Ew Z4 (Emv rfl rfl (Ey rfl ((Y.len us_Is rfl).yd) (Est rfl (N.call0 t_spec_l1In rfl rfl rfl dc (fun w Lp hA => trivial)) (fun _ _ => (Eas rfl rfl ?_))))))))))))
    exact Eu (E.ret (Fb rfl rfl (by first | (have := any_hit (k := g) (s := s) (p := fun x => !inR x 1 3) om (by simpa using q14); rw [okSchema, this]; simp) | (have := any_miss om pa; rw [okSchema, this]; simp))))
theorem t_impl_hasRel {a_s : Option Addr} {m_s c_s : Nat} {s : List Int} {rel : Int} : Tr Tryz.prog 285 [.slice a_s m_s c_s, .int .i64 rel] (fun w L => Ro w L eIs [.slice a_s m_s c_s] s) [] (κ := Unit) (fun k => True) (fun k => .bool (okRel s rel)) (fun k => []) := by
  refine Tr.intro Tryz.func285 rfl (n := 14) rfl (by decide +kernel) bl (fr := [(0, .slice a_s m_s c_s), (1, .int .i64 rel)]) rfl fun w L hR => ?_
  have hs := hR
  obtain ⟨rfl, ls⟩ := hs.slen
  refine Ew Z1 (Eas rfl rfl (Ev Z10 (Emv rfl rfl (Est rfl (N.call0 t_impl_IsSchema rfl rfl rfl dc (fun w Lp hA => hA.ro hs)) (fun _ _ => (Ent.b (fun q6 => ?_) (fun q6 => ?_)))))))
  · refine Emv rfl rfl (Emv rfl rfl (Emv rfl rfl (Ey rfl ((Y.len us_Is rfl).yd) (Ey rfl ((Y.sub rfl rfl om om).yd) (Est rfl (N.call0 t_impl_within rfl rfl rfl dc (fun w Lp hA => trivial)) (fun _ _ => (Ey rfl ((Y.pkt rfl rfl).yd) (Eas rfl rfl ?_))))))))
    exact Eu (E.ret (Fb rfl rfl (by simp_all [okRel])))
  · refine Emv rfl rfl (Es rfl (Es rfl (Es rfl (Es rfl (Es rfl (Ey rfl ((Y.pkf rfl rfl).yd) (Eas rfl rfl ?_)))))))
    exact Eu (E.ret (Fb rfl rfl (by simp_all [okRel])))
theorem t_impl_arePositions_1 {i : Int} {b_arity : Nat} {arity : Int} : Tr Tryz.prog 361 [.int .i64 i, .pointer (some ⟨b_arity, 0, none⟩)] (fun w L => (I64 i) ∧ RoPt w L b_arity [.int .i64 arity] ∧ -1000 ≤ arity ∧ arity ≤ 1000) [] (κ := Unit) (fun k => True) (fun k => .bool (!inR i 0 (arity - 1))) (fun k => []) := by
  refine Tr.intro Tryz.func361 rfl (n := 9) rfl (by decide +kernel) bl (fr := [(0, .int .i64 i), (1, .pointer (some ⟨b_arity, 0, none⟩))]) rfl fun w L hR => ?_
  obtain ⟨i6i, hb_arity, as0, as1⟩ := hR
  refine Ew Z1 (Eas rfl rfl (Ev Z6 (Emv rfl rfl (Ey rfl (Y.ld1 ty_I rfl (hb_arity.has) rfl) (Ey rfl ((Y.sub rfl rfl om om).yd) (Est rfl (N.call0 t_impl_within rfl rfl rfl dc (fun w Lp hA => trivial)) (fun _ _ => (Ey rfl ((Y.not rfl).yd) (Eas rfl rfl ?_)))))))))
  exact Eu (E.ret (Fb rfl rfl (by simp_all)))
theorem t_impl_arePositions {a_l : Option Addr} {m_l c_l : Nat} {l : List Int} {arity : Int} : Tr Tryz.prog 344 [.slice a_l m_l c_l, .int .i64 arity] (fun w L => Ro w L eIs [.slice a_l m_l c_l] l ∧ -1000 ≤ arity ∧ arity ≤ 1000) [] (κ := Unit) (fun k => True) (fun k => .bool (okPos l arity)) (fun k => []) := by
  refine Tr.intro Tryz.func344 rfl (n := 9) rfl (by decide +kernel) bl (fr := [(0, .slice a_l m_l c_l), (1, .int .i64 arity)]) rfl fun w L hR => ?_
  obtain ⟨hl, as0, as1⟩ := hR
  obtain ⟨rfl, ll⟩ := hl.slen
  refine Ew Z2 (Est rfl (N.box (cs := [_]) rfl dc rfl) (fun b3 _ => (Eas rfl rfl (Ev Z5 (Emv rfl rfl (Ey rfl ((Y.fn (vs := [_]) rfl).yd) (Est rfl (N.call0 (t_ContainsFunc_I (f := (fun i => !inR i 0 (arity - 1))) (D_f := (fun _ => True)) (by intros; exact trivial)) rfl rfl rfl dc (fun w Lp hA => ⟨hA.ro hl, FnP.ofI (D := (fun _ => True)) (fun hd => t_impl_arePositions_1) (fun w' hk => ⟨(hA.pt m0).keep hk, (by first | assumption | omega), (by first | assumption | omega)⟩)⟩)) (fun _ _ => (Ey rfl ((Y.not rfl).yd) (Eas rfl rfl ?_))))))))))
  exact Eu (E.ret (Fb rfl rfl (by simp [okPos])))
theorem t_impl_IsRule {a_s : Option Addr} {m_s c_s : Nat} {s : List Int} {r_From : Int} {r_To : Int} {a_r_Map : Option Addr} {m_r_Map c_r_Map : Nat} {r_Map : List Int} : Tr Tryz.prog 319 [.slice a_s m_s c_s, .agg #[.int .i64 r_From, .int .i64 r_To, .slice a_r_Map m_r_Map c_r_Map]] (fun w L => Ro w L eIs [.slice a_s m_s c_s] s ∧ I64 r_From ∧ I64 r_To ∧ Ro w L eIs [.slice a_r_Map m_r_Map c_r_Map] r_Map) [] (κ := Unit) (fun k => True) (fun k => .bool (okRule s (r_From, r_To, r_Map))) (fun k => []) := by
  refine Tr.intro Tryz.func319 rfl (n := 36) rfl (by decide +kernel) bl (fr := [(0, .slice a_s m_s c_s), (1, .agg #[.int .i64 r_From, .int .i64 r_To, .slice a_r_Map m_r_Map c_r_Map])]) rfl fun w L hR => ?_
  obtain ⟨hs, i6r_From, i6r_To, hr_Map⟩ := hR
  obtain ⟨rfl, ls⟩ := hs.slen
  obtain ⟨rfl, lr_Map⟩ := hr_Map.slen
  refine Ew Z2 (Est rfl (N.box (cs := [_, _, _]) rfl dc rfl) (fun b3 _ => (Eas rfl rfl (Eu (Eq_ (D.region (fun j => true) mixed (Dyp 0 rfl (Y.mv rfl) (Dyp 1 rfl (Y.fld fo_Rule_0 ty_I dc rfl) (Dy 2 rfl (Y.ld1 ty_I rfl ((Has.pt m0).sub (cs' := [_]) 0 rfl) rfl) (D.st 3 rfl rfl kr (fun _ => rfl) (N.call0 t_impl_hasRel rfl rfl rfl dc (fun w Lp hA => hA.ro hs)) (fun _ _ => (Ent.b (fun q8 => ?_) (fun q8 => ?_)))))))))))))
  · obtain ⟨z1, z2, z5, z6⟩ := okRel_lt q8
    rw [getD_get om] at z5 z6
    refine Dyp 4 rfl (Y.mv rfl) (Dyp 5 rfl (Y.mv rfl) (Dyp 6 rfl (Y.fld fo_Rule_1 ty_I dc rfl) (Dy 7 rfl (Y.ld1 ty_I rfl ((Has.pt m0).sub (cs' := [_]) 1 rfl) rfl) (D.st 8 rfl rfl kr (fun _ => rfl) (N.call0 t_impl_hasRel rfl rfl rfl dc (fun w Lp hA => hA.ro hs)) (fun _ _ => (Ent.b (fun q13 => ?_) (fun q13 => ?_)))))))
    · obtain ⟨z3, z4, _, _⟩ := okRel_lt q13
      refine Dyp 9 rfl (Y.pkt rfl rfl) (Dyp 10 rfl (Y.mv rfl) (Dyp 11 rfl (Y.fld fo_Rule_2 ty_Is dc rfl) (Dy 12 rfl (Y.ld1 ty_Is rfl ((Has.pt m0).sub (cs' := [_]) 2 rfl) rfl) (Dyp 13 rfl (Y.len us_Is rfl) (Dyp 14 rfl (Y.mv rfl) (Dyp 15 rfl (Y.fld fo_Rule_1 ty_I dc rfl) (Dy 16 rfl (Y.ld1 ty_I rfl ((Has.pt m0).sub (cs' := [_]) 1 rfl) rfl) ?_)))))))
      obtain ⟨eb22, eo22, ea22, ei22, eh22⟩ := hs.elemI r_To.toNat om
      refine Dyp 17 rfl (Y.ix us_Is ty_I rfl ea22 rfl r_To.toNat om om) (Dy 18 rfl (Y.ld1 ty_I rfl (eh22 _) rfl) (Dyp 19 rfl (Y.eql rfl rfl) (Ent.d (fun q24 => ?_) (fun q24 => ?_))))
      · refine Dyp 20 rfl (Y.pkt rfl rfl) (Dyp 21 rfl (Y.mv rfl) (Dyp 22 rfl (Y.fld fo_Rule_2 ty_Is dc rfl) (Dy 23 rfl (Y.ld1 ty_Is rfl ((Has.pt m0).sub (cs' := [_]) 2 rfl) rfl) (Dyp 24 rfl (Y.mv rfl) (Dyp 25 rfl (Y.fld fo_Rule_0 ty_I dc rfl) (Dy 26 rfl (Y.ld1 ty_I rfl ((Has.pt m0).sub (cs' := [_]) 0 rfl) rfl) ?_))))))
        obtain ⟨eb32, eo32, ea32, ei32, eh32⟩ := hs.elemI r_From.toNat om
        refine Dyp 27 rfl (Y.ix us_Is ty_I rfl ea32 rfl r_From.toNat om om) (Dy 28 rfl (Y.ld1 ty_I rfl (eh32 _) rfl) (D.st 29 rfl rfl kr (fun _ => rfl) (N.call0 t_impl_arePositions rfl rfl rfl dc (fun w Lp hA => ⟨hA.ro hr_Map, (by first | assumption | omega), (by first | assumption | omega)⟩)) (fun _ _ => (Dyp 30 rfl (Y.pkt rfl rfl) (Dyp 31 rfl (Y.as rfl) ?_)))))
        exact D.done kr (Et (E.ret (Fb rfl rfl (by first | (simp [okRule, q8]; done) | (simp [okRule, q8, q13]; done) | (simp only [okRule, q8, q13, at0_get (show r_From.toNat < s.length by omega), at0_get (show r_To.toNat < s.length by omega)]; simp [q24])))))
      · refine Dyp 20 rfl (Y.pkt rfl rfl) (Dyp 21 rfl (Y.mv rfl) (Dsk 22 rfl (Dsk 23 rfl (Dsk 24 rfl (Dsk 25 rfl (Dsk 26 rfl (Dsk 27 rfl (Dsk 28 rfl (Dsk 29 rfl (Dyp 30 rfl (Y.pkf rfl rfl) (Dyp 31 rfl (Y.as rfl) ?_)))))))))))
        exact D.done kr (Et (E.ret (Fb rfl rfl (by first | (simp [okRule, q8]; done) | (simp [okRule, q8, q13]; done) | (simp only [okRule, q8, q13, at0_get (show r_From.toNat < s.length by omega), at0_get (show r_To.toNat < s.length by omega)]; simp [q24])))))
    · refine Dyp 9 rfl (Y.pkt rfl rfl) (Dyp 10 rfl (Y.mv rfl) (Dsk 11 rfl (Dsk 12 rfl (Dsk 13 rfl (Dsk 14 rfl (Dsk 15 rfl (Dsk 16 rfl (Dsk 17 rfl (Dsk 18 rfl (Dsk 19 rfl (Dyp 20 rfl (Y.pkf rfl rfl) (Dyp 21 rfl (Y.mv rfl) (Dsk 22 rfl (Dsk 23 rfl ?_))))))))))))))
      refine Dsk 24 rfl (Dsk 25 rfl (Dsk 26 rfl (Dsk 27 rfl (Dsk 28 rfl (Dsk 29 rfl (Dyp 30 rfl (Y.pkf rfl rfl) (Dyp 31 rfl (Y.as rfl) ?_)))))))
      exact D.done kr (Et (E.ret (Fb rfl rfl (by first | (simp [okRule, q8]; done) | (simp [okRule, q8, q13]; done) | (simp only [okRule, q8, q13, at0_get (show r_From.toNat < s.length by omega), at0_get (show r_To.toNat < s.length by omega)]; simp [q24])))))
  · refine Dyp 4 rfl (Y.mv rfl) (Dsk 5 rfl (Dsk 6 rfl (Dsk 7 rfl (Dsk 8 rfl (Dyp 9 rfl (Y.pkf rfl rfl) (Dyp 10 rfl (Y.mv rfl) (Dsk 11 rfl (Dsk 12 rfl (Dsk 13 rfl (Dsk 14 rfl (Dsk 15 rfl (Dsk 16 rfl (Dsk 17 rfl (Dsk 18 rfl ?_))))))))))))))
    refine Dsk 19 rfl (Dyp 20 rfl (Y.pkf rfl rfl) (Dyp 21 rfl (Y.mv rfl) (Dsk 22 rfl (Dsk 23 rfl (Dsk 24 rfl (Dsk 25 rfl (Dsk 26 rfl (Dsk 27 rfl (Dsk 28 rfl (Dsk 29 rfl (Dyp 30 rfl (Y.pkf rfl rfl) (Dyp 31 rfl (Y.as rfl) ?_))))))))))))
    exact D.done kr (Et (E.ret (Fb rfl rfl (by first | (simp [okRule, q8]; done) | (simp [okRule, q8, q13]; done) | (simp only [okRule, q8, q13, at0_get (show r_From.toNat < s.length by omega), at0_get (show r_To.toNat < s.length by omega)]; simp [q24])))))
theorem t_spec_IsRule {a_s : Option Addr} {m_s c_s : Nat} {s : List Int} {r_From : Int} {r_To : Int} {a_r_Map : Option Addr} {m_r_Map c_r_Map : Nat} {r_Map : List Int} : Tr Tryz.prog 315 [.slice a_s m_s c_s, .agg #[.int .i64 r_From, .int .i64 r_To, .slice a_r_Map m_r_Map c_r_Map]] (fun w L => Ro w L eIs [.slice a_s m_s c_s] s ∧ I64 r_From ∧ I64 r_To ∧ Ro w L eIs [.slice a_r_Map m_r_Map c_r_Map] r_Map) [] (κ := Unit) (fun k => True) (fun k => .bool (okRule s (r_From, r_To, r_Map))) (fun k => []) := by
  refine Tr.intro Tryz.func315 rfl (n := 58) rfl (by decide +kernel) bl (fr := [(0, .slice a_s m_s c_s), (1, .agg #[.int .i64 r_From, .int .i64 r_To, .slice a_r_Map m_r_Map c_r_Map])]) rfl fun w L hR => ?_
  obtain ⟨hs, i6r_From, i6r_To, hr_Map⟩ := hR
  obtain ⟨rfl, ls⟩ := hs.slen
  obtain ⟨rfl, lr_Map⟩ := hr_Map.slen
  refine Ew Z2 (Est rfl (N.box (cs := [_, _, _]) rfl dc rfl) (fun b3 _ => (Eas rfl rfl (Eu (Eq_ (Eq_ (D.region (fun j => true) mixed (Dyp 0 rfl (Y.mv rfl) (D.st 1 rfl rfl kr (fun _ => rfl) (N.call0 t_spec_IsSchema rfl rfl rfl dc (fun w Lp hA => hA.ro hs)) (fun _ _ => (Ent.b (fun q7 => ?_) (fun q7 => ?_))))))))))))
  · refine Dyp 2 rfl (Y.not (b := true) rfl) (Dyp 3 rfl (Y.mv rfl) (Dyp 4 rfl (Y.fld fo_Rule_0 ty_I dc rfl) (Dy 5 rfl (Y.ld1 ty_I rfl ((Has.pt m0).sub (cs' := [_]) 0 rfl) rfl) (Dyp 6 rfl (Y.mv rfl) (Dyp 7 rfl (Y.len us_Is rfl) (Dyp 8 rfl (Y.sub rfl rfl om om) (D.st 9 rfl rfl kr (fun _ => rfl) (N.call0 t_spec_l1In rfl rfl rfl dc (fun w Lp hA => trivial)) (fun _ _ => (Ent.b (fun q15 => ?_) (fun q15 => ?_))))))))))
    · have y1 : okRel s r_From = true := by rw [okRel, q7, q15]; rfl
      obtain ⟨z1, z2, z5, z6⟩ := okRel_lt y1
      rw [getD_get om] at z5 z6
      refine Dyp 10 rfl (Y.not (b := true) rfl) (Dyp 11 rfl (Y.pkf rfl rfl) (Dyp 12 rfl (Y.mv rfl) (Dyp 13 rfl (Y.fld fo_Rule_1 ty_I dc rfl) (Dy 14 rfl (Y.ld1 ty_I rfl ((Has.pt m0).sub (cs' := [_]) 1 rfl) rfl) (Dyp 15 rfl (Y.mv rfl) (Dyp 16 rfl (Y.len us_Is rfl) (Dyp 17 rfl (Y.sub rfl rfl om om) (D.st 18 rfl rfl kr (fun _ => rfl) (N.call0 t_spec_l1In rfl rfl rfl dc (fun w Lp hA => trivial)) (fun _ _ => (Ent.b (fun q24 => ?_) (fun q24 => ?_)))))))))))
      · have y2 : okRel s r_To = true := by rw [okRel, q7, q24]; rfl
        obtain ⟨z3, z4, _, _⟩ := okRel_lt y2
        refine Dyp 19 rfl (Y.not (b := true) rfl) (Dyp 20 rfl (Y.pkf rfl rfl) (Dyp 21 rfl (Y.mv rfl) (Dyp 22 rfl (Y.fld fo_Rule_2 ty_Is dc rfl) (Dy 23 rfl (Y.ld1 ty_Is rfl ((Has.pt m0).sub (cs' := [_]) 2 rfl) rfl) (Dyp 24 rfl (Y.len us_Is rfl) (Dyp 25 rfl (Y.mv rfl) (Dyp 26 rfl (Y.fld fo_Rule_1 ty_I dc rfl) (Dy 27 rfl (Y.ld1 ty_I rfl ((Has.pt m0).sub (cs' := [_]) 1 rfl) rfl) ?_))))))))
        obtain ⟨eb34, eo34, ea34, ei34, eh34⟩ := hs.elemI r_To.toNat om
        refine Dyp 28 rfl (Y.ix us_Is ty_I rfl ea34 rfl r_To.toNat om om) (Dy 29 rfl (Y.ld1 ty_I rfl (eh34 _) rfl) (Dyp 30 rfl (Y.neq rfl rfl) (Ent.d (fun q36 => ?_) (fun q36 => ?_))))
        · refine Dyp 31 rfl (Y.pkf rfl rfl) (D.done kr (Et (E.ct rfl (Ew Z1 (Eas rfl rfl ?_)))))
          exact Eu (E.ret (E.thr (Fb rfl rfl (by exact okRule_no3 (at0_get (i := r_To) (show r_To.toNat < s.length by omega)) q36))))
        · refine Dyp 31 rfl (Y.pkf rfl rfl) (D.done kr (Et (E.cf rfl (E.skipc (Et (Eq_ (Ew Z1 (Eas rfl rfl (Eu (E.block (E.loop (κ := Nat) (fun g => g ≤ r_Map.length ∧ ∀ x ∈ r_Map.take g, (!inR x 0 (s[r_From.toNat] - 1)) = false) (fun g => [(0, .slice a_s s.length c_s), (3, .pointer (some ⟨b3, 0, none⟩)), (5, .int .i64 (g : Int))]) (fun g => [pt b3 193 [.int .i64 r_From, .int .i64 r_To, .slice a_r_Map r_Map.length c_r_Map]]) (fun g => r_Map.length - g) 0 ⟨by omega, by simp⟩ ⟨rfl, rfl, rfl, trivial⟩ (.refl _) (fun g pg => ?_))))))))))))
          obtain ⟨pk, pa⟩ := pg
          refine Eq_ (Ew Z5 (Emv rfl rfl (Ey rfl ((Y.fld fo_Rule_2 ty_Is dc rfl).yd) (Ey rfl (Y.ld1 ty_Is rfl ((Has.pt m0).sub (cs' := [_]) 2 rfl) rfl) (Ey rfl ((Y.len us_Is rfl).yd) (Ey rfl ((Y.lss rfl rfl).yd) (Ent.d (fun q42 => ?_) (fun q42 => ?_))))))))
          · refine Eu (E.ct rfl (E.skipc (Et (Eq_ (E.block (Eq_ (D.region (fun j => true) mixed (Dyp 0 rfl (Y.fld fo_Rule_2 ty_Is dc rfl) (Dy 1 rfl (Y.ld1 ty_Is rfl ((Has.pt m0).sub (cs' := [_]) 2 rfl) rfl) (Dyp 2 rfl (Y.mv rfl) ?_))))))))))
            obtain ⟨eb48, eo48, ea48, ei48, eh48⟩ := hr_Map.elemI g om
            refine Dyp 3 rfl (Y.ix us_Is ty_I rfl ea48 rfl g rfl om) (Dy 4 rfl (Y.ld1 ty_I rfl (eh48 _) rfl) (Dyp 5 rfl (Y.mv rfl) (Dyp 6 rfl (Y.fld fo_Rule_0 ty_I dc rfl) (Dy 7 rfl (Y.ld1 ty_I rfl ((Has.pt m0).sub (cs' := [_]) 0 rfl) rfl) ?_))))
            obtain ⟨eb53, eo53, ea53, ei53, eh53⟩ := hs.elemI r_From.toNat om
            refine Dyp 8 rfl (Y.ix us_Is ty_I rfl ea53 rfl r_From.toNat om om) (Dy 9 rfl (Y.ld1 ty_I rfl (eh53 _) rfl) (Dyp 10 rfl (Y.sub rfl rfl om om) (D.st 11 rfl rfl kr (fun _ => rfl) (N.call0 t_spec_l1In rfl rfl rfl dc (fun w Lp hA => trivial)) (fun _ _ => (Ent.b (fun q56 => ?_) (fun q56 => ?_))))))
            · refine Dyp 12 rfl (Y.not (b := true) rfl) (D.done kr (Et (E.cf rfl (E.skipc (E.bln (Et (Ez Z3 (Emv rfl rfl (Ey rfl ((Y.add rfl rfl om om).yd) (Eas rfl rfl ?_))))))))))
              exact Eu (E.again br (g + 1) ⟨rfl, rfl, rfl, trivial⟩ (.refl _) ⟨by omega, take_step om pa (by rw [q56]; rfl)⟩ om)
            · refine Dyp 12 rfl (Y.not (b := false) rfl) (D.done kr (Et (E.ct rfl (Ew Z1 (Eas rfl rfl ?_)))))
              exact Eu (E.ret (E.blr (E.thr (E.thr (E.blr (E.thr (Fb rfl rfl (by exact okRule_no4 (at0_get (i := r_From) (show r_From.toNat < s.length by omega)) (by rw [okPos, any_hit (k := g) (show g < r_Map.length by omega) (by rw [q56]; rfl)]; rfl)))))))))
          · refine Eu (E.cf rfl (E.exit (E.the (E.the (E.blh (Et (Ew Z1 (Eas rfl rfl ?_))))))))
            exact Eu (E.ret (Fb rfl rfl (by exact okRule_yes y1 y2 (at0_get (i := r_From) (show r_From.toNat < s.length by omega)) (at0_get (i := r_To) (show r_To.toNat < s.length by omega)) (show (r_Map.length : Int) = s[r_To.toNat] by omega) (by rw [okPos, any_miss (show ¬ g < r_Map.length by omega) pa]; rfl))))
      · refine Dyp 19 rfl (Y.not (b := false) rfl) (Dyp 20 rfl (Y.pkf rfl rfl) (Dyp 21 rfl (Y.mv rfl) (Dsk 22 rfl (Dsk 23 rfl (Dsk 24 rfl (Dsk 25 rfl (Dsk 26 rfl (Dsk 27 rfl (Dsk 28 rfl (Dsk 29 rfl (Dsk 30 rfl (Dyp 31 rfl (Y.pkt rfl rfl) (D.done kr (Et (E.ct rfl (Ew Z1 (Eas rfl rfl ?_)))))))))))))))))
        exact Eu (E.ret (E.thr (Fb rfl rfl (by exact okRule_no2 (okRel_no q24)))))
    · refine Dyp 10 rfl (Y.not (b := false) rfl) (Dyp 11 rfl (Y.pkf rfl rfl) (Dyp 12 rfl (Y.mv rfl) (Dsk 13 rfl (Dsk 14 rfl (Dsk 15 rfl (Dsk 16 rfl (Dsk 17 rfl (Dsk 18 rfl (Dsk 19 rfl (Dyp 20 rfl (Y.pkt rfl rfl) (Dyp 21 rfl (Y.mv rfl) (Dsk 22 rfl (Dsk 23 rfl (Dsk 24 rfl ?_))))))))))))))
      refine Dsk 25 rfl (Dsk 26 rfl (Dsk 27 rfl (Dsk 28 rfl (Dsk 29 rfl (Dsk 30 rfl (Dyp 31 rfl (Y.pkt rfl rfl) (D.done kr (Et (E.ct rfl (Ew Z1 (Eas rfl rfl ?_)))))))))))
      exact Eu (E.ret (E.thr (Fb rfl rfl (by exact okRule_no1 (okRel_no q15)))))
  · refine Dyp 2 rfl (Y.not (b := false) rfl) (Dyp 3 rfl (Y.mv rfl) (Dsk 4 rfl (Dsk 5 rfl (Dsk 6 rfl (Dsk 7 rfl (Dsk 8 rfl (Dsk 9 rfl (Dsk 10 rfl (Dyp 11 rfl (Y.pkt rfl rfl) (Dyp 12 rfl (Y.mv rfl) (Dsk 13 rfl (Dsk 14 rfl (Dsk 15 rfl (Dsk 16 rfl ?_))))))))))))))
    refine Dsk 17 rfl (Dsk 18 rfl (Dsk 19 rfl (Dyp 20 rfl (Y.pkt rfl rfl) (Dyp 21 rfl (Y.mv rfl) (Dsk 22 rfl (Dsk 23 rfl (Dsk 24 rfl (Dsk 25 rfl (Dsk 26 rfl (Dsk 27 rfl (Dsk 28 rfl (Dsk 29 rfl (Dsk 30 rfl (Dyp 31 rfl (Y.pkt rfl rfl) ?_))))))))))))))
    refine D.done kr (Et (E.ct rfl (Ew Z1 (Eas rfl rfl ?_))))
    exact Eu (E.ret (E.thr (Fb rfl rfl (by exact okRule_no1 (okRel_no0 q7)))))
theorem t_impl_AreRules_1 {r_From : Int} {r_To : Int} {a_r_Map : Option Addr} {m_r_Map c_r_Map : Nat} {r_Map : List Int} {b_s : Nat} {a_s : Option Addr} {m_s c_s : Nat} {s : List Int} : Tr Tryz.prog 318 [.agg #[.int .i64 r_From, .int .i64 r_To, .slice a_r_Map m_r_Map c_r_Map], .pointer (some ⟨b_s, 0, none⟩)] (fun w L => (I64 r_From ∧ I64 r_To ∧ Ro w L eIs [.slice a_r_Map m_r_Map c_r_Map] r_Map) ∧ RoPt w L b_s [.slice a_s m_s c_s] ∧ Ro w L eIs [.slice a_s m_s c_s] s) [] (κ := Unit) (fun k => True) (fun k => .bool (!okRule s (r_From, r_To, r_Map))) (fun k => []) := by
  refine Tr.intro Tryz.func318 rfl (n := 8) rfl (by decide +kernel) bl (fr := [(0, .agg #[.int .i64 r_From, .int .i64 r_To, .slice a_r_Map m_r_Map c_r_Map]), (1, .pointer (some ⟨b_s, 0, none⟩))]) rfl fun w L hR => ?_
  obtain ⟨⟨i6r_From, i6r_To, hr_Map⟩, hb_s, hs⟩ := hR
  obtain ⟨rfl, lr_Map⟩ := hr_Map.slen
  obtain ⟨rfl, ls⟩ := hs.slen
  refine Ew Z2 (Est rfl (N.box (cs := [_, _, _]) rfl dc rfl) (fun b2 _ => (Eas rfl rfl (Ev Z5 (Ey rfl (Y.ld1 ty_Is rfl (hb_s.has) rfl) (Ey rfl (Y.ldS (cs := [_, _, _]) ty_Rule rfl (Has.pt m0) rfl) (Est rfl (N.call0 t_impl_IsRule rfl rfl rfl dc (fun w Lp hA => ⟨hA.ro hs, i6r_From, i6r_To, hA.ro hr_Map⟩)) (fun _ _ => (Ey rfl ((Y.not rfl).yd) (Eas rfl rfl ?_))))))))))
  exact Eu (E.ret (Fb rfl rfl (by simp_all)))
theorem t_impl_AreRules {a_s : Option Addr} {m_s c_s : Nat} {s : List Int} {a_l : Option Addr} {m_l c_l : Nat} {l : List (Int × Int × List Int)} : Tr Tryz.prog 256 [.slice a_s m_s c_s, .slice a_l m_l c_l] (fun w L => Ro w L eIs [.slice a_s m_s c_s] s ∧ Ro w L eRules [.slice a_l m_l c_l] l) [] (κ := Unit) (fun k => True) (fun k => .bool (okRules s l)) (fun k => []) := by
  refine Tr.intro Tryz.func256 rfl (n := 18) rfl (by decide +kernel) bl (fr := [(0, .slice a_s m_s c_s), (1, .slice a_l m_l c_l)]) rfl fun w L hR => ?_
  obtain ⟨hs, hl⟩ := hR
  obtain ⟨rfl, ls⟩ := hs.slen
  obtain ⟨rfl, ll⟩ := hl.slen
  refine Ew Z2 (Est rfl (N.box (cs := [_]) rfl dc rfl) (fun b2 _ => (Eas rfl rfl (Ev Z14 (Ey rfl (Y.ld1 ty_Is rfl (Has.pt m0) rfl) (Est rfl (N.call0 t_impl_IsSchema rfl rfl rfl dc (fun w Lp hA => hA.ro hs)) (fun _ _ => (Ent.b (fun q6 => ?_) (fun q6 => ?_)))))))))
  · refine Emv rfl rfl (Emv rfl rfl (Ey rfl ((Y.len us_Rules rfl).yd) (Ey rfl ((Y.leq rfl rfl).yd) (Ent.d (fun q10 => ?_) (fun q10 => ?_)))))
    · refine Ey rfl ((Y.pkt rfl rfl).yd) (Emv rfl rfl (Emv rfl rfl (Ey rfl ((Y.fn (vs := [_]) rfl).yd) (Est rfl (N.call0 (t_ContainsFunc_Rule (f := (fun z => !okRule s z)) (D_f := (fun _ => True)) (by intros; exact trivial)) rfl rfl rfl dc (fun w Lp hA => ⟨hA.ro hl, FnP.ofRule (D := (fun _ => True)) (fun hd => t_impl_AreRules_1) (fun w' hk => ⟨(hA.pt m0).keep hk, (hA.ro hs).keep hk⟩)⟩)) (fun _ _ => (Ey rfl ((Y.not rfl).yd) (Ey rfl ((Y.pkt rfl rfl).yd) (Eas rfl rfl ?_))))))))
      exact Eu (E.ret (Fb rfl rfl (by rw [okRules, q6, decide_eq_true (show (l.length : Int) ≤ 4 by omega)]; rfl)))
    · refine Ey rfl ((Y.pkt rfl rfl).yd) (Emv rfl rfl (Es rfl (Es rfl (Es rfl (Es rfl (Ey rfl ((Y.pkf rfl rfl).yd) (Eas rfl rfl ?_)))))))
      exact Eu (E.ret (Fb rfl rfl (by rw [okRules, decide_eq_false (show ¬ (l.length : Int) ≤ 4 by omega)]; simp)))
  · refine Emv rfl rfl (Es rfl (Es rfl (Es rfl (Ey rfl ((Y.pkf rfl rfl).yd) (Emv rfl rfl (Es rfl (Es rfl (Es rfl (Es rfl (Ey rfl ((Y.pkf rfl rfl).yd) (Eas rfl rfl ?_)))))))))))
    exact Eu (E.ret (Fb rfl rfl (by rw [okRules, q6]; rfl)))
theorem t_spec_AreRules {a_s : Option Addr} {m_s c_s : Nat} {s : List Int} {a_l : Option Addr} {m_l c_l : Nat} {l : List (Int × Int × List Int)} : Tr Tryz.prog 251 [.slice a_s m_s c_s, .slice a_l m_l c_l] (fun w L => Ro w L eIs [.slice a_s m_s c_s] s ∧ Ro w L eRules [.slice a_l m_l c_l] l) [] (κ := Unit) (fun k => True) (fun k => .bool (okRules s l)) (fun k => []) := by
  refine Tr.intro Tryz.func251 rfl (n := 26) rfl (by decide +kernel) bl (fr := [(0, .slice a_s m_s c_s), (1, .slice a_l m_l c_l)]) rfl fun w L hR => ?_
  obtain ⟨hs, hl⟩ := hR
  obtain ⟨rfl, ls⟩ := hs.slen
  obtain ⟨rfl, ll⟩ := hl.slen
  refine Ew Z1 (Eas rfl rfl (Eu (Eq_ (Ew Z1 (Eas rfl rfl (Eu (E.block (E.loop (κ := Nat) (fun g => g ≤ l.length ∧ ∀ x ∈ l.take g, (!okRule s x) = false) (fun g => [(0, .slice a_s s.length c_s), (1, .slice a_l l.length c_l), (5, .int .i64 (g : Int))]) (fun g => []) (fun g => l.length - g) 0 ⟨by omega, by simp⟩ ⟨rfl, rfl, rfl, trivial⟩ (.refl _) (fun g pg => ?_)))))))))
  obtain ⟨pk, pa⟩ := pg
  refine Eq_ (Ew Z4 (Emv rfl rfl (Emv rfl rfl (Ey rfl ((Y.len us_Rules rfl).yd) (Ey rfl ((Y.lss rfl rfl).yd) (Ent.d (fun q9 => ?_) (fun q9 => ?_)))))))
  · refine Eu (E.ct rfl (E.skipc (Et (Eq_ (E.block (Ew Z7 (Emv rfl rfl (Emv rfl rfl (Emv rfl rfl ?_)))))))))
    obtain ⟨eb15, eo15, ec15, ea15, er15, el15, eh15⟩ := hl.elem g om
    obtain ⟨xa15_0, xc15_0, rfl, ei15_0, ei15_1, xh15_0⟩ := Ro.pRule er15
    have := xh15_0.slen.2
    refine Ey rfl ((Y.ix us_Rules ty_Rule rfl ea15 rfl g rfl om).yd) (Ey rfl (Y.ldS (cs := [_, _, _]) ty_Rule rfl (eh15 _) rfl) (Est rfl (N.call0 t_spec_IsRule rfl rfl rfl dc (fun w Lp hA => ⟨hA.ro hs, ei15_0, ei15_1, hA.ro xh15_0⟩)) (fun _ _ => (Ent.b (fun q17 => ?_) (fun q17 => ?_)))))
    · refine Ey rfl ((Y.not (b := true) rfl).yd) (Eu (E.cf rfl (E.skipc (E.bln (Et (Ez Z3 (Emv rfl rfl (Ey rfl ((Y.add rfl rfl om om).yd) (Eas rfl rfl ?_)))))))))
      exact Eu (E.again br (g + 1) ⟨rfl, rfl, rfl, trivial⟩ (.refl _) ⟨by omega, take_step om pa (by rw [show okRule s l[g] = true from q17]; rfl)⟩ om)
    · refine Ey rfl ((Y.not (b := false) rfl).yd) (Eu (E.ct rfl (Ew Z1 (Eas rfl rfl ?_))))
      exact Eu (E.ret (E.blr (E.thr (E.thr (E.blr (E.thr (Fb rfl rfl (by rw [okRules, any_hit (p := fun r => !okRule s r) (show g < l.length by omega) (by rw [show okRule s l[g] = false from q17]; rfl)]; simp))))))))
  · refine Eu (E.cf rfl (E.exit (E.the (E.the (E.blh (Et (Ew Z8 (Emv rfl rfl (Est rfl (N.call0 t_spec_IsSchema rfl rfl rfl dc (fun w Lp hA => hA.ro hs)) (fun _ _ => (Ent.b (fun q20 => ?_) (fun q20 => ?_))))))))))))
    · refine Emv rfl rfl (Emv rfl rfl (Ey rfl ((Y.len us_Rules rfl).yd) (Ey rfl ((Y.leq rfl rfl).yd) (Ey rfl ((Y.pkt rfl rfl).yd) (Eas rfl rfl ?_)))))
      exact Eu (E.ret (Fb rfl rfl (by rw [okRules, q20, any_miss (p := fun r => !okRule s r) (show ¬ g < l.length by omega) pa]; simp)))
    · refine Emv rfl rfl (Es rfl (Es rfl (Es rfl (Ey rfl ((Y.pkf rfl rfl).yd) (Eas rfl rfl ?_)))))
      exact Eu (E.ret (Fb rfl rfl (by rw [okRules, q20]; rfl)))
theorem t_laws_szIntS {a_a : Option Addr} {m_a c_a : Nat} {a : List Int} {left : Int} : Tr Tryz.prog 102 [.slice a_a m_a c_a, .int .i64 left] (fun w L => Ro w L eIs [.slice a_a m_a c_a] a ∧ 0 ≤ left ∧ left ≤ 1048576) [] (κ := Unit) (fun k => True) (fun k => .int .i64 (szR a.length left)) (fun k => []) := by
  refine Tr.intro Tryz.func102 rfl (n := 12) rfl (by decide +kernel) bl (fr := [(0, .slice a_a m_a c_a), (1, .int .i64 left)]) rfl fun w L hR => ?_
  obtain ⟨ha, as0, as1⟩ := hR
  obtain ⟨rfl, la⟩ := ha.slen
  refine Ew Z1 (Eas rfl rfl (Ev Z5 (Emv rfl rfl (Emv rfl rfl (Ey rfl ((Y.len us_Is rfl).yd) (Ey rfl ((Y.sub rfl rfl om om).yd) (Eas rfl rfl (Eu (Eq_ (Ew Z2 (Emv rfl rfl (Ey rfl ((Y.lss rfl rfl).yd) (Ent.d (fun q10 => ?_) (fun q10 => ?_))))))))))))))
  · refine Eu (E.ct rfl (Ew Z1 (Eas rfl rfl ?_)))
    exact Eu (E.ret (E.thr (Fg rfl rfl () (congrArg (Value.int .i64) (by simp only [szR]; split <;> omega)) rfl)))
  · refine Eu (E.cf rfl (E.skipc (Et (Ew Z2 (Emv rfl rfl (Eas rfl rfl ?_))))))
    exact Eu (E.ret (Fg rfl rfl () (congrArg (Value.int .i64) (by simp only [szR]; split <;> omega)) rfl))
theorem t_laws_toIntS {a_a : Option Addr} {m_a c_a : Nat} {a : List Int} (hz : a.length ≤ 1048576) : Tr Tryz.prog 18 [.slice a_a m_a c_a] (fun w L => Ro w L eIs [.slice a_a m_a c_a] a) [] (κ := Option Addr × Nat × Nat) (fun k => True) (fun k => .slice k.1 k.2.1 k.2.2) (fun k => [ow eIs [.slice k.1 k.2.1 k.2.2] a]) := by
  refine Tr.intro Tryz.func18 rfl (n := 22) rfl (by decide +kernel) bl (fr := [(0, .slice a_a m_a c_a)]) rfl fun w L hR => ?_
  have ha := hR
  obtain ⟨rfl, la⟩ := ha.slen
  refine Ew Z1 (Eas rfl rfl (Ev Z4 (Emv rfl rfl (Ey rfl ((Y.len us_Is rfl).yd) (Est rfl (N.make (m := a.length) us_Is ty_I rfl rfl rfl mx om dc) (fun b7 _ => (Ent.mkow (A := [_]) (Own.made (E := Enc.int) (e := tI) (zx := 0) (Own.int (by unfold I64; omega)) mx) rfl (Eas rfl rfl (Eu (Eq_ (Ew Z1 (Eas rfl rfl (Eu (E.block (E.loop (κ := Nat) (fun g => g ≤ a.length) (fun g => [(0, .slice a_a a.length c_a), (3, .slice (some ⟨b7, 0, none⟩) a.length a.length), (4, .int .i64 (g : Int))]) (fun g => [ow eIs [.slice (some ⟨b7, 0, none⟩) a.length a.length] (a.take g ++ List.replicate (a.length - g) 0)]) (fun g => a.length - g) 0 (Nat.zero_le _) ⟨rfl, rfl, rfl, trivial⟩ (by simp) (fun g pg => (Eq_ (Ew Z4 (Emv rfl rfl (Emv rfl rfl (Ey rfl ((Y.len us_Is rfl).yd) (Ey rfl ((Y.lss rfl rfl).yd) (Ent.d (fun q11 => ?_) (fun q11 => ?_))))))))))))))))))))))))
  · refine Eu (E.ct rfl (E.skipc (Et (Eq_ (E.block (Ez Z8 (Emv rfl rfl (Emv rfl rfl (Emv rfl rfl (Emv rfl rfl ?_))))))))))
    obtain ⟨eb18, eo18, ea18, ei18, eh18⟩ := ha.elemI g om
    refine Ey rfl ((Y.ix us_Is ty_I rfl ea18 rfl g rfl om).yd) (Ey rfl (Y.ld1 ty_I rfl (eh18 _) rfl) (Ey rfl ((Y.ix us_Is ty_I rfl rfl rfl g rfl om).yd) (Est rfl (N.set (E := Enc.int) (j := g) (ex := a[g]) (ce := [_]) ty_I rfl rfl rfl rfl (Own.int ei18) rfl (Nat.zero_add _) rfl (by simp; omega)) (fun _ _ => (En (E.bln (Et (Ez Z3 (Emv rfl rfl (Ey rfl ((Y.add rfl rfl om om).yd) (Eas rfl rfl ?_)))))))))))
    exact Eu (E.again br (g + 1) ⟨rfl, rfl, rfl, trivial⟩ (by rw [set_take om rfl]) om om)
  · refine Eu (E.cf rfl (E.exit (E.the (E.the (E.blh (Et (Ew Z2 (Emv rfl rfl (Eas rfl rfl (Eu (E.ret (Ent.cv (congrArg (ow eIs [_]) (show _ = a by (have := pg; rw [show g = a.length from by omega]; simp))) ?_))))))))))))
    exact Fg rfl rfl (_, _, _) rfl rfl
theorem t_laws_eqIntS {a_a : Option Addr} {m_a c_a : Nat} {a : List Int} {a_b : Option Addr} {m_b c_b : Nat} {b : List Int} : Tr Tryz.prog 24 [.slice a_a m_a c_a, .slice a_b m_b c_b] (fun w L => Ro w L eIs [.slice a_a m_a c_a] a ∧ Ro w L eIs [.slice a_b m_b c_b] b) [] (κ := Unit) (fun k => True) (fun k => .bool (decide (a = b))) (fun k => []) := by
  refine Tr.intro Tryz.func24 rfl (n := 26) rfl (by decide +kernel) bl (fr := [(0, .slice a_a m_a c_a), (1, .slice a_b m_b c_b)]) rfl fun w L hR => ?_
  obtain ⟨ha, hb⟩ := hR
  obtain ⟨rfl, la⟩ := ha.slen
  obtain ⟨rfl, lb⟩ := hb.slen
  refine Ew Z1 (Eas rfl rfl (Eu (Eq_ (Ew Z5 (Emv rfl rfl (Ey rfl ((Y.len us_Is rfl).yd) (Emv rfl rfl (Ey rfl ((Y.len us_Is rfl).yd) (Ey rfl ((Y.neq rfl rfl).yd) (Ent.d (fun q10 => ?_) (fun q10 => ?_)))))))))))
  · refine Eu (E.ct rfl (Ew Z1 (Eas rfl rfl ?_)))
    exact Eu (E.ret (E.thr (Fb rfl rfl (by exact ne_of_len q10))))
  · refine Eu (E.cf rfl (E.skipc (Et (Eq_ (Ew Z1 (Eas rfl rfl (Eu (E.block (E.loop (κ := Nat) (fun g => g ≤ a.length ∧ a.take g = b.take g) (fun g => [(0, .slice a_a a.length c_a), (1, .slice a_b b.length c_b), (5, .int .i64 (g : Int))]) (fun g => []) (fun g => a.length - g) 0 ⟨by omega, by simp⟩ ⟨rfl, rfl, rfl, trivial⟩ (.refl _) (fun g pg => ?_))))))))))
    obtain ⟨pk, pa⟩ := pg
    refine Eq_ (Ew Z4 (Emv rfl rfl (Emv rfl rfl (Ey rfl ((Y.len us_Is rfl).yd) (Ey rfl ((Y.lss rfl rfl).yd) (Ent.d (fun q14 => ?_) (fun q14 => ?_)))))))
    · refine Eu (E.ct rfl (E.skipc (Et (Eq_ (E.block (Eq_ (D.region (fun j => true) mixed (Dyp 0 rfl (Y.mv rfl) (Dyp 1 rfl (Y.mv rfl) ?_)))))))))
      obtain ⟨eb19, eo19, ea19, ei19, eh19⟩ := ha.elemI g om
      refine Dyp 2 rfl (Y.ix us_Is ty_I rfl ea19 rfl g rfl om) (Dy 3 rfl (Y.ld1 ty_I rfl (eh19 _) rfl) (Dyp 4 rfl (Y.mv rfl) (Dyp 5 rfl (Y.mv rfl) ?_)))
      obtain ⟨eb23, eo23, ea23, ei23, eh23⟩ := hb.elemI g om
      refine Dyp 6 rfl (Y.ix us_Is ty_I rfl ea23 rfl g rfl om) (Dy 7 rfl (Y.ld1 ty_I rfl (eh23 _) rfl) (Dyp 8 rfl (Y.neq rfl rfl) (Ent.d (fun q25 => ?_) (fun q25 => ?_))))
      · refine D.done kr (Et (E.ct rfl (Ew Z1 (Eas rfl rfl ?_))))
        exact Eu (E.ret (E.blr (E.thr (E.thr (E.blr (E.thr (Fb rfl rfl (by exact ne_of_get (show g < a.length by omega) (show g < b.length by omega) q25))))))))
      · refine D.done kr (Et (E.cf rfl (E.skipc (E.bln (Et (Ez Z3 (Emv rfl rfl (Ey rfl ((Y.add rfl rfl om om).yd) (Eas rfl rfl ?_)))))))))
        exact Eu (E.again br (g + 1) ⟨rfl, rfl, rfl, trivial⟩ (.refl _) ⟨by omega, take_eq_step om om pa om⟩ om)
    · refine Eu (E.cf rfl (E.exit (E.the (E.the (E.blh (Et (Ew Z1 (Eas rfl rfl ?_))))))))
      exact Eu (E.ret (Fb rfl rfl (by exact eq_of_take (show a.length ≤ g by omega) (show b.length ≤ g by omega) pa)))
theorem t_laws_szRule {a_From : Int} {a_To : Int} {a_a_Map : Option Addr} {m_a_Map c_a_Map : Nat} {a_Map : List Int} {left : Int} : Tr Tryz.prog 147 [.agg #[.int .i64 a_From, .int .i64 a_To, .slice a_a_Map m_a_Map c_a_Map], .int .i64 left] (fun w L => I64 a_From ∧ I64 a_To ∧ Ro w L eIs [.slice a_a_Map m_a_Map c_a_Map] a_Map ∧ 0 ≤ left ∧ left ≤ 1048576) [] (κ := Unit) (fun k => True) (fun k => .int .i64 (szR (a_Map.length) left)) (fun k => []) := by
  refine Tr.intro Tryz.func147 rfl (n := 12) rfl (by decide +kernel) bl (fr := [(0, .agg #[.int .i64 a_From, .int .i64 a_To, .slice a_a_Map m_a_Map c_a_Map]), (1, .int .i64 left)]) rfl fun w L hR => ?_
  obtain ⟨i6a_From, i6a_To, ha_Map, as0, as1⟩ := hR
  obtain ⟨rfl, la_Map⟩ := ha_Map.slen
  refine Ew Z2 (Est rfl (N.box (cs := [_, _, _]) rfl dc rfl) (fun b2 _ => (Eas rfl rfl (Ev Z5 (Ey rfl ((Y.fld fo_lRule_2 ty_Is dc rfl).yd) (Ey rfl (Y.ld1 ty_Is rfl ((Has.pt m0).sub (cs' := [_]) 2 rfl) rfl) (Emv rfl rfl (Est rfl (N.call0 t_laws_szIntS rfl rfl rfl dc (fun w Lp hA => ⟨hA.ro ha_Map, (by first | assumption | omega), (by first | assumption | omega)⟩)) (fun _ _ => (Eas rfl rfl (Eu (Eq_ (Ew Z2 (Emv rfl rfl (Ey rfl ((Y.lss rfl rfl).yd) (Ent.d (fun q10 => ?_) (fun q10 => ?_)))))))))))))))))
  · have z10 := szR_bad q10 om
    refine Eu (E.ct rfl (Ew Z1 (Eas rfl rfl ?_)))
    exact Eu (E.ret (E.thr (Fg rfl rfl () (congrArg (Value.int .i64) (by unfold szR; split <;> omega)) rfl)))
  · obtain ⟨z10, y10⟩ := szR_ok q10 om
    refine Eu (E.cf rfl (E.skipc (Et (Ew Z2 (Emv rfl rfl (Eas rfl rfl ?_))))))
    exact Eu (E.ret (Fg rfl rfl () (congrArg (Value.int .i64) (by have e : szR (a_Map.length) left = left - ((a_Map.length : Nat) : Int) := by { unfold szR; split <;> omega }; omega)) rfl))
theorem t_laws_toRule {a_From : Int} {a_To : Int} {a_a_Map : Option Addr} {m_a_Map c_a_Map : Nat} {a_Map : List Int} (h2 : a_Map.length ≤ 1048576) : Tr Tryz.prog 156 [.agg #[.int .i64 a_From, .int .i64 a_To, .slice a_a_Map m_a_Map c_a_Map]] (fun w L => I64 a_From ∧ I64 a_To ∧ Ro w L eIs [.slice a_a_Map m_a_Map c_a_Map] a_Map) [] (κ := Option Addr × Nat × Nat) (fun k => True) (fun k => .agg #[.int .i64 a_From, .int .i64 a_To, .slice k.1 k.2.1 k.2.2]) (fun k => [ow eIs [.slice k.1 k.2.1 k.2.2] a_Map]) := by
  refine Tr.intro Tryz.func156 rfl (n := 15) rfl (by decide +kernel) bl (fr := [(0, .agg #[.int .i64 a_From, .int .i64 a_To, .slice a_a_Map m_a_Map c_a_Map])]) rfl fun w L hR => ?_
  obtain ⟨i6a_From, i6a_To, ha_Map⟩ := hR
  obtain ⟨rfl, la_Map⟩ := ha_Map.slen
  refine Ew Z2 (Est rfl (N.box (cs := [_, _, _]) rfl dc rfl) (fun b1 _ => (Est rfl (N.alloc ty_Rule dc) (fun b2 _ => (Ev Z1 (Est rfl (N.alloc ty_Rule dc) (fun b3 _ => (Ev Z4 (Ey rfl ((Y.fld fo_lRule_0 ty_I dc rfl).yd) (Ey rfl (Y.ld1 ty_I rfl ((Has.pt (mS (mS m0))).sub (cs' := [_]) 0 rfl) rfl) (Ey rfl ((Y.fld fo_Rule_0 ty_I dc rfl).yd) (Est rfl (N.sto (vs := [_]) (cs' := [_, _, _]) ty_I rfl rfl rfl rfl rfl bl rfl) (fun _ _ => (Ev Z4 (Ey rfl ((Y.fld fo_lRule_1 ty_I dc rfl).yd) (Ey rfl (Y.ld1 ty_I rfl ((Has.pt (mS (mS m0))).sub (cs' := [_]) 1 rfl) rfl) (Ey rfl ((Y.fld fo_Rule_1 ty_I dc rfl).yd) (Est rfl (N.sto (vs := [_]) (cs' := [_, _, _]) ty_I rfl rfl rfl rfl rfl bl rfl) (fun _ _ => (Ev Z5 (Ey rfl ((Y.fld fo_lRule_2 ty_Is dc rfl).yd) (Ey rfl (Y.ld1 ty_Is rfl ((Has.pt (mS (mS m0))).sub (cs' := [_]) 2 rfl) rfl) (Est rfl (N.call (t_laws_toIntS fc) rfl rfl rfl dc rfl (fun w Lp hA => hA.ro ha_Map)) (fun k12 _ => ?_))))))))))))))))))))))))
  obtain ⟨a12, m12, c12⟩ := k12
  refine Ent.lenow m0 fun e12 l12 => ?_
  subst e12
  refine Ey rfl ((Y.fld fo_Rule_2 ty_Is dc rfl).yd) (Ent.p1 (Est rfl (N.sto (vs := [_]) (cs' := [_, _, _]) ty_Is rfl rfl rfl rfl rfl bl rfl) (fun _ _ => (Ev Z2 (Ey rfl (Y.ldS (cs := [_, _, _]) ty_Rule rfl (Has.pt m0) rfl) (Ent.p2 (Est rfl (N.sto (vs := [_, _, _]) (cs' := [_, _, _]) ty_Rule rfl rfl rfl rfl rfl bl rfl) (fun _ _ => (Eu (E.ret (Ent.p2 ?_)))))))))))
  exact F.c1 br rfl rfl (mS m0) ty_Rule rfl (_, _, _) trivial rfl (J := _) (.refl _) (.inl rfl)
theorem t_laws_eqRule {a_From : Int} {a_To : Int} {a_a_Map : Option Addr} {m_a_Map c_a_Map : Nat} {a_Map : List Int} {b_From : Int} {b_To : Int} {a_b_Map : Option Addr} {m_b_Map c_b_Map : Nat} {b_Map : List Int} : Tr Tryz.prog 167 [.agg #[.int .i64 a_From, .int .i64 a_To, .slice a_a_Map m_a_Map c_a_Map], .agg #[.int .i64 b_From, .int .i64 b_To, .slice a_b_Map m_b_Map c_b_Map]] (fun w L => I64 a_From ∧ I64 a_To ∧ Ro w L eIs [.slice a_a_Map m_a_Map c_a_Map] a_Map ∧ I64 b_From ∧ I64 b_To ∧ Ro w L eIs [.slice a_b_Map m_b_Map c_b_Map] b_Map) [] (κ := Unit) (fun k => True) (fun k => .bool (decide ((a_From, a_To, a_Map) = (b_From, b_To, b_Map)))) (fun k => []) := by
  refine Tr.intro Tryz.func167 rfl (n := 21) rfl (by decide +kernel) bl (fr := [(0, .agg #[.int .i64 a_From, .int .i64 a_To, .slice a_a_Map m_a_Map c_a_Map]), (1, .agg #[.int .i64 b_From, .int .i64 b_To, .slice a_b_Map m_b_Map c_b_Map])]) rfl fun w L hR => ?_
  obtain ⟨i6a_From, i6a_To, ha_Map, i6b_From, i6b_To, hb_Map⟩ := hR
  obtain ⟨rfl, la_Map⟩ := ha_Map.slen
  obtain ⟨rfl, lb_Map⟩ := hb_Map.slen
  refine Ew Z3 (Est rfl (N.box (cs := [_, _, _]) rfl dc rfl) (fun b2 _ => (Est rfl (N.box (cs := [_, _, _]) rfl dc rfl) (fun b3 _ => (Eas rfl rfl (Eu (Eq_ (Ew Z5 (Ey rfl ((Y.fld fo_Rule_0 ty_I dc rfl).yd) (Ey rfl (Y.ld1 ty_I rfl ((Has.pt (mS m0)).sub (cs' := [_]) 0 rfl) rfl) (Ey rfl ((Y.fld fo_Rule_0 ty_I dc rfl).yd) (Ey rfl (Y.ld1 ty_I rfl ((Has.pt m0).sub (cs' := [_]) 0 rfl) rfl) (Ey rfl ((Y.neq rfl rfl).yd) (Ent.d (fun q9 => ?_) (fun q9 => ?_)))))))))))))))
  · refine Eu (E.ct rfl (Ew Z1 (Eas rfl rfl ?_)))
    exact Eu (E.ret (E.thr (Fb rfl rfl (by simp_all))))
  · refine Eu (E.cf rfl (E.skipc (Et (Eq_ (Ew Z5 (Ey rfl ((Y.fld fo_Rule_1 ty_I dc rfl).yd) (Ey rfl (Y.ld1 ty_I rfl ((Has.pt (mS m0)).sub (cs' := [_]) 1 rfl) rfl) (Ey rfl ((Y.fld fo_Rule_1 ty_I dc rfl).yd) (Ey rfl (Y.ld1 ty_I rfl ((Has.pt m0).sub (cs' := [_]) 1 rfl) rfl) (Ey rfl ((Y.neq rfl rfl).yd) (Ent.d (fun q14 => ?_) (fun q14 => ?_))))))))))))
    · refine Eu (E.ct rfl (Ew Z1 (Eas rfl rfl ?_)))
      exact Eu (E.ret (E.thr (Fb rfl rfl (by simp_all))))
    · refine Eu (E.cf rfl (E.skipc (Et (Eq_ (Ew Z6 (Ey rfl ((Y.fld fo_Rule_2 ty_Is dc rfl).yd) (Ey rfl (Y.ld1 ty_Is rfl ((Has.pt (mS m0)).sub (cs' := [_]) 2 rfl) rfl) (Ey rfl ((Y.fld fo_Rule_2 ty_Is dc rfl).yd) (Ey rfl (Y.ld1 ty_Is rfl ((Has.pt m0).sub (cs' := [_]) 2 rfl) rfl) (Est rfl (N.call0 t_laws_eqIntS rfl rfl rfl dc (fun w Lp hA => ⟨hA.ro ha_Map, hA.ro hb_Map⟩)) (fun _ _ => (Ent.b (fun q19 => ?_) (fun q19 => ?_)))))))))))))
      · refine Ey rfl ((Y.not (b := true) rfl).yd) (Eu (E.cf rfl (E.skipc (Et (Ew Z1 (Eas rfl rfl ?_))))))
        exact Eu (E.ret (Fb rfl rfl (by simp_all)))
      · refine Ey rfl ((Y.not (b := false) rfl).yd) (Eu (E.ct rfl (Ew Z1 (Eas rfl rfl ?_))))
        exact Eu (E.ret (E.thr (Fb rfl rfl (by simp_all))))
theorem t_laws_szRuleS {a_a : Option Addr} {m_a c_a : Nat} {a : List (Int × Int × List Int)} {left : Int} : Tr Tryz.prog 65 [.slice a_a m_a c_a, .int .i64 left] (fun w L => Ro w L eRules [.slice a_a m_a c_a] a ∧ 0 ≤ left ∧ left ≤ 1048576) [] (κ := Unit) (fun k => True) (fun k => .int .i64 (szR (totL (fun x => x.2.2.length) a) left)) (fun k => []) := by
  refine Tr.intro Tryz.func65 rfl (n := 27) rfl (by decide +kernel) bl (fr := [(0, .slice a_a m_a c_a), (1, .int .i64 left)]) rfl fun w L hR => ?_
  obtain ⟨ha, as0, as1⟩ := hR
  obtain ⟨rfl, la⟩ := ha.slen
  refine Ew Z1 (Eas rfl rfl (Ev Z5 (Emv rfl rfl (Emv rfl rfl (Ey rfl ((Y.len us_lRules rfl).yd) (Ey rfl ((Y.sub rfl rfl om om).yd) (Eas rfl rfl (Eu (Eq_ (Ew Z2 (Emv rfl rfl (Ey rfl ((Y.lss rfl rfl).yd) (Ent.d (fun q11 => ?_) (fun q11 => ?_))))))))))))))
  · refine Eu (E.ct rfl (Ew Z1 (Eas rfl rfl ?_)))
    exact Eu (E.ret (E.thr (Fg rfl rfl () (congrArg (Value.int .i64) (by exact szS_no1 q11)) rfl)))
  · refine Eu (E.cf rfl (E.skipc (Et (Eq_ (Ew Z1 (Eas rfl rfl (Eu (E.block (E.loop (κ := Nat) (fun g => g ≤ a.length ∧ (a.length : Int) + (totS (fun x => x.2.2.length) (a.take g) : Nat) ≤ left) (fun g => [(0, .slice a_a a.length c_a), (1, .int .i64 (left - ((a.length : Int) + (totS (fun x => x.2.2.length) (a.take g) : Nat)))), (5, .int .i64 (g : Int))]) (fun g => []) (fun g => a.length - g) 0 ⟨by omega, by simp [totS]; omega⟩ ⟨rfl, frI (by simp [totS]), rfl, trivial⟩ (.refl _) (fun g pg => ?_))))))))))
    obtain ⟨pk, pa⟩ := pg
    refine Eq_ (Ew Z4 (Emv rfl rfl (Emv rfl rfl (Ey rfl ((Y.len us_lRules rfl).yd) (Ey rfl ((Y.lss rfl rfl).yd) (Ent.d (fun q15 => ?_) (fun q15 => ?_)))))))
    · refine Eu (E.ct rfl (E.skipc (Et (Eq_ (E.block (Ew Z7 (Emv rfl rfl (Emv rfl rfl ?_))))))))
      obtain ⟨eb20, eo20, ec20, ea20, er20, el20, eh20⟩ := ha.elem g om
      obtain ⟨xa20_0, xc20_0, rfl, ei20_0, ei20_1, xh20_0⟩ := Ro.pRule er20
      have := xh20_0.slen.2
      refine Ey rfl ((Y.ix us_lRules ty_lRule rfl ea20 rfl g rfl om).yd) (Ey rfl (Y.ldS (cs := [_, _, _]) ty_lRule rfl (eh20 _) rfl) (Emv rfl rfl (Est rfl (N.call0 t_laws_szRule rfl rfl rfl dc (fun w Lp hA => ⟨ei20_0, ei20_1, hA.ro xh20_0, (by first | assumption | omega), (by first | assumption | omega)⟩)) (fun _ _ => (Eas rfl rfl (Ev Z2 (Emv rfl rfl (Ey rfl ((Y.lss rfl rfl).yd) (Ent.d (fun q25 => ?_) (fun q25 => ?_))))))))))
      · have z25 := szR_bad q25 om
        refine Eu (E.ct rfl (Ew Z1 (Eas rfl rfl ?_)))
        exact Eu (E.ret (E.blr (E.thr (E.thr (E.blr (E.thr (Fg rfl rfl () (congrArg (Value.int .i64) (by exact szS_no2 (t := (fun x => x.2.2.length)) (n := a[g].2.2.length) (show g < a.length by omega) rfl om)) rfl)))))))
      · obtain ⟨z25, y25⟩ := szR_ok q25 om
        refine Eu (E.cf rfl (E.skipc (E.bln (Et (Ez Z3 (Emv rfl rfl (Ey rfl ((Y.add rfl rfl om om).yd) (Eas rfl rfl ?_))))))))
        exact Eu (E.again br (g + 1) ⟨rfl, frI (by rw [z25]; have y := totS_step (t := (fun x => x.2.2.length)) (show g < a.length by omega); omega), rfl, trivial⟩ (.refl _) ⟨by omega, by have y := totS_step (t := (fun x => x.2.2.length)) (show g < a.length by omega); omega⟩ om)
    · refine Eu (E.cf rfl (E.exit (E.the (E.the (E.blh (Et (Ew Z2 (Emv rfl rfl (Eas rfl rfl ?_)))))))))
      exact Eu (E.ret (Fg rfl rfl () (congrArg (Value.int .i64) (by exact szS_yes (t := (fun x => x.2.2.length)) (show a.length ≤ g by omega) pa)) rfl))
theorem t_laws_toRuleS {a_a : Option Addr} {m_a c_a : Nat} {a : List (Int × Int × List Int)} (hz : totL (fun x => x.2.2.length) a ≤ 1048576) : Tr Tryz.prog 68 [.slice a_a m_a c_a] (fun w L => Ro w L eRules [.slice a_a m_a c_a] a) [] (κ := Option Addr × Nat × Nat) (fun k => True) (fun k => .slice k.1 k.2.1 k.2.2) (fun k => [ow eRules [.slice k.1 k.2.1 k.2.2] a]) := by
  refine Tr.intro Tryz.func68 rfl (n := 23) rfl (by decide +kernel) bl (fr := [(0, .slice a_a m_a c_a)]) rfl fun w L hR => ?_
  have ha := hR
  obtain ⟨rfl, la⟩ := ha.slen
  have hlen : a.length ≤ totL (fun x => x.2.2.length) a := by unfold totL; omega
  refine Ew Z1 (Eas rfl rfl (Ev Z4 (Emv rfl rfl (Ey rfl ((Y.len us_lRules rfl).yd) (Est rfl (N.make (m := a.length) us_Rules ty_Rule rfl rfl rfl mx om dc) (fun b7 _ => (Ent.mkow (A := [_]) (Own.made (E := eRule) (e := tRule) (zx := (0, 0, [])) (Own.mkRule (x := (0, 0, [])) ⟨by decide, by decide⟩ ⟨by decide, by decide⟩ Own.nil) mx) rfl (Eas rfl rfl (Eu (Eq_ (Ew Z1 (Eas rfl rfl (Eu (E.block (E.loop (κ := Nat) (fun g => g ≤ a.length) (fun g => [(0, .slice a_a a.length c_a), (3, .slice (some ⟨b7, 0, none⟩) a.length a.length), (4, .int .i64 (g : Int))]) (fun g => [ow eRules [.slice (some ⟨b7, 0, none⟩) a.length a.length] (a.take g ++ List.replicate (a.length - g) (0, 0, []))]) (fun g => a.length - g) 0 (Nat.zero_le _) ⟨rfl, rfl, rfl, trivial⟩ (by simp) (fun g pg => (Eq_ (Ew Z4 (Emv rfl rfl (Emv rfl rfl (Ey rfl ((Y.len us_lRules rfl).yd) (Ey rfl ((Y.lss rfl rfl).yd) (Ent.d (fun q11 => ?_) (fun q11 => ?_))))))))))))))))))))))))
  · refine Eu (E.ct rfl (E.skipc (Et (Eq_ (E.block (Ez Z9 (Emv rfl rfl (Emv rfl rfl (Emv rfl rfl (Emv rfl rfl ?_))))))))))
    obtain ⟨eb18, eo18, ec18, ea18, er18, el18, eh18⟩ := ha.elem g om
    obtain ⟨xa18_0, xc18_0, rfl, ei18_0, ei18_1, xh18_0⟩ := Ro.pRule er18
    have := xh18_0.slen.2
    refine Ey rfl ((Y.ix us_lRules ty_lRule rfl ea18 rfl g rfl om).yd) (Ey rfl (Y.ldS (cs := [_, _, _]) ty_lRule rfl (eh18 _) rfl) (Est rfl (N.call (t_laws_toRule (by have y := tot_elem (t := (fun x => x.2.2.length)) (l := a) (g := g) om; omega)) rfl rfl rfl dc rfl (fun w Lp hA => ⟨ei18_0, ei18_1, hA.ro xh18_0⟩)) (fun k20 _ => ?_)))
    obtain ⟨a20, m20, c20⟩ := k20
    refine Ent.lenow m0 fun e20 l20 => ?_
    subst e20
    refine Ey rfl ((Y.ix us_Rules ty_Rule rfl rfl rfl g rfl om).yd) (Ent.p1 (Est rfl (N.set (E := eRule) (j := g) (ex := a[g]) (ce := [_, _, _]) ty_Rule rfl rfl rfl rfl (Own.mkRule (x := a[g]) ei18_0 ei18_1 Own.ow) rfl (Nat.zero_add _) rfl (by simp; omega)) (fun _ _ => (En (E.bln (Et (Ez Z3 (Emv rfl rfl (Ey rfl ((Y.add rfl rfl om om).yd) (Eas rfl rfl ?_))))))))))
    exact Eu (E.again br (g + 1) ⟨rfl, rfl, rfl, trivial⟩ (by rw [set_take om rfl]) om om)
  · refine Eu (E.cf rfl (E.exit (E.the (E.the (E.blh (Et (Ew Z2 (Emv rfl rfl (Eas rfl rfl (Eu (E.ret (Ent.cv (congrArg (ow eRules [_]) (show _ = a by exact take_rep_all om)) ?_))))))))))))
    exact Fg rfl rfl (_, _, _) rfl rfl
theorem t_laws_eqRuleS {a_a : Option Addr} {m_a c_a : Nat} {a : List (Int × Int × List Int)} {a_b : Option Addr} {m_b c_b : Nat} {b : List (Int × Int × List Int)} : Tr Tryz.prog 71 [.slice a_a m_a c_a, .slice a_b m_b c_b] (fun w L => Ro w L eRules [.slice a_a m_a c_a] a ∧ Ro w L eRules [.slice a_b m_b c_b] b) [] (κ := Unit) (fun k => True) (fun k => .bool (decide (a = b))) (fun k => []) := by
  refine Tr.intro Tryz.func71 rfl (n := 27) rfl (by decide +kernel) bl (fr := [(0, .slice a_a m_a c_a), (1, .slice a_b m_b c_b)]) rfl fun w L hR => ?_
  obtain ⟨ha, hb⟩ := hR
  obtain ⟨rfl, la⟩ := ha.slen
  obtain ⟨rfl, lb⟩ := hb.slen
  refine Ew Z1 (Eas rfl rfl (Eu (Eq_ (Ew Z5 (Emv rfl rfl (Ey rfl ((Y.len us_Rules rfl).yd) (Emv rfl rfl (Ey rfl ((Y.len us_Rules rfl).yd) (Ey rfl ((Y.neq rfl rfl).yd) (Ent.d (fun q10 => ?_) (fun q10 => ?_)))))))))))
  · refine Eu (E.ct rfl (Ew Z1 (Eas rfl rfl ?_)))
    exact Eu (E.ret (E.thr (Fb rfl rfl (by exact ne_of_len q10))))
  · refine Eu (E.cf rfl (E.skipc (Et (Eq_ (Ew Z1 (Eas rfl rfl (Eu (E.block (E.loop (κ := Nat) (fun g => g ≤ a.length ∧ a.take g = b.take g) (fun g => [(0, .slice a_a a.length c_a), (1, .slice a_b b.length c_b), (5, .int .i64 (g : Int))]) (fun g => []) (fun g => a.length - g) 0 ⟨by omega, by simp⟩ ⟨rfl, rfl, rfl, trivial⟩ (.refl _) (fun g pg => ?_))))))))))
    obtain ⟨pk, pa⟩ := pg
    refine Eq_ (Ew Z4 (Emv rfl rfl (Emv rfl rfl (Ey rfl ((Y.len us_Rules rfl).yd) (Ey rfl ((Y.lss rfl rfl).yd) (Ent.d (fun q14 => ?_) (fun q14 => ?_)))))))
    · refine Eu (E.ct rfl (E.skipc (Et (Eq_ (E.block (Eq_ (D.region (fun j => true) mixed (Dyp 0 rfl (Y.mv rfl) (Dyp 1 rfl (Y.mv rfl) ?_)))))))))
      obtain ⟨eb19, eo19, ec19, ea19, er19, el19, eh19⟩ := ha.elem g om
      obtain ⟨xa19_0, xc19_0, rfl, ei19_0, ei19_1, xh19_0⟩ := Ro.pRule er19
      have := xh19_0.slen.2
      refine Dyp 2 rfl (Y.ix us_Rules ty_Rule rfl ea19 rfl g rfl om) (Dy 3 rfl (Y.ldS (cs := [_, _, _]) ty_Rule rfl (eh19 _) rfl) (Dyp 4 rfl (Y.mv rfl) (Dyp 5 rfl (Y.mv rfl) ?_)))
      obtain ⟨eb23, eo23, ec23, ea23, er23, el23, eh23⟩ := hb.elem g om
      obtain ⟨xa23_0, xc23_0, rfl, ei23_0, ei23_1, xh23_0⟩ := Ro.pRule er23
      have := xh23_0.slen.2
      refine Dyp 6 rfl (Y.ix us_Rules ty_Rule rfl ea23 rfl g rfl om) (Dy 7 rfl (Y.ldS (cs := [_, _, _]) ty_Rule rfl (eh23 _) rfl) (D.st 8 rfl rfl kr (fun _ => rfl) (N.call0 t_laws_eqRule rfl rfl rfl dc (fun w Lp hA => ⟨ei19_0, ei19_1, hA.ro xh19_0, ei23_0, ei23_1, hA.ro xh23_0⟩)) (fun _ _ => (Ent.b (fun q25 => ?_) (fun q25 => ?_)))))
      · refine Dyp 9 rfl (Y.not (b := true) rfl) (D.done kr (Et (E.cf rfl (E.skipc (E.bln (Et (Ez Z3 (Emv rfl rfl (Ey rfl ((Y.add rfl rfl om om).yd) (Eas rfl rfl ?_))))))))))
        exact Eu (E.again br (g + 1) ⟨rfl, rfl, rfl, trivial⟩ (.refl _) ⟨by omega, take_eq_step om om pa (of_decide_eq_true q25)⟩ om)
      · refine Dyp 9 rfl (Y.not (b := false) rfl) (D.done kr (Et (E.ct rfl (Ew Z1 (Eas rfl rfl ?_)))))
        exact Eu (E.ret (E.blr (E.thr (E.thr (E.blr (E.thr (Fb rfl rfl (by exact ne_of_get (show g < a.length by omega) (show g < b.length by omega) (of_decide_eq_false q25)))))))))
    · refine Eu (E.cf rfl (E.exit (E.the (E.the (E.blh (Et (Ew Z1 (Eas rfl rfl ?_))))))))
      exact Eu (E.ret (Fb rfl rfl (by exact eq_of_take (show a.length ≤ g by omega) (show b.length ≤ g by omega) pa)))
end Go.Proofs.YtonkkkjgdohooaaGreat
