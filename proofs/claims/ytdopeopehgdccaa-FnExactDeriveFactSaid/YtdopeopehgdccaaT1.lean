import Derived.Test.YtdopeopehgdccaaBs
import Derived.Test.YtdopeopehgdccaaBd
import Derived.Test.YtdopeopehgdccaaBc
namespace Go.Proofs.Ytdopeopehgdccaa
open Go.RowKit
set_option linter.all false
set_option maxHeartbeats 2000000
attribute [local irreducible] Nop Yd Yp Ent Has Tr FnP FnP2 Src
variable {f_g : FuncId} {low high n arity f4 j8 left z7 H7 : Int} {l : List (Int × Int × List Int)} {s f8 a G1 : List Int} {f_c : List Value} {m_s c_s m_l c_l o4 k7 m_a c_a m_b c_b B2 B3 : Nat} {a_s a_l k8 a_a a_b B4 : Option Addr}
theorem u7 {x : Int} : Tr Try.prog 45 [.int .i64 x, .int .i64 low, .int .i64 high] (fun w L => True) [] (κ := Unit) (fun k => True) (fun k => .bool (inR x low high)) (fun k => []) := by
 refine Tr.intro Try.func45 rfl (n := 15) rfl (by decide +kernel) bl (fr := [(0, .int .i64 x), (1, .int .i64 low), (2, .int .i64 high)]) rfl fun w L hR => (Ew Z1 (Eas rfl rfl (Ev Z9 (Emv rfl rfl (Emv rfl rfl (Ey rfl ((Y.geq rfl rfl).yd) (Ent.d (fun q9 => ?_) (fun q9 => ?_))))))))
 ·refine Emv rfl rfl (Emv rfl rfl (Emv rfl rfl (Ey rfl ((Y.leq rfl rfl).yd) (Ey rfl ((Y.pkt rfl rfl).yd) (Eas rfl rfl ?_)))))
  exact Eu (E.ret (Fb rfl rfl (by simp_all [inR]; try omega)))
 ·refine Emv rfl rfl (Es rfl (Es rfl (Es rfl (Ey rfl ((Y.pkf rfl rfl).yd) (Eas rfl rfl ?_)))))
  exact Eu (E.ret (Fb rfl rfl (by simp_all [inR]; try omega)))
theorem w4 : Tr Try.prog 55 [.int .i64 n, .int .i64 low, .int .i64 high] (fun w L => True) [] (κ := Unit) (fun k => True) (fun k => .bool (inR n low high)) (fun k => []) := by
 refine Tr.intro Try.func55 rfl (n := 15) rfl (by decide +kernel) bl (fr := [(0, .int .i64 n), (1, .int .i64 low), (2, .int .i64 high)]) rfl fun w L hR => (Ew Z1 (Eas rfl rfl (Ev Z9 (Emv rfl rfl (Emv rfl rfl (Ey rfl ((Y.geq rfl rfl).yd) (Ent.d (fun q9 => ?_) (fun q9 => ?_))))))))
 ·refine Emv rfl rfl (Emv rfl rfl (Emv rfl rfl (Ey rfl ((Y.leq rfl rfl).yd) (Ey rfl ((Y.pkt rfl rfl).yd) (Eas rfl rfl ?_)))))
  exact Eu (E.ret (Fb rfl rfl (by simp_all [inR]; try omega)))
 ·refine Emv rfl rfl (Es rfl (Es rfl (Es rfl (Ey rfl ((Y.pkf rfl rfl).yd) (Eas rfl rfl ?_)))))
  exact Eu (E.ret (Fb rfl rfl (by simp_all [inR]; try omega)))
theorem X2 {D_f : Int → Prop} {f : Int → Bool} (hD_f : ∀ x ∈ s, D_f x) : Tr Try.prog 63 [.slice a_s m_s c_s, .func (.func f_g) #[] f_c.toArray] (fun w L => Ro w L eIs [.slice a_s m_s c_s] s ∧ FnP Try.prog w L f_g f_c Enc.int a1I D_f f) [] (κ := Unit) (fun k => True) (fun k => .int .i64 (H3 f s)) (fun k => []) := by
 refine Tr.intro Try.func63 rfl (n := 19) rfl (by decide +kernel) bl (fr := [(0, .slice a_s m_s c_s), (1, .func (.func f_g) #[] f_c.toArray)]) rfl fun w L hR => ?_
 obtain ⟨hs, hf⟩ := hR
 obtain ⟨rfl, ls⟩ := hs.slen
 refine Ew Z1 (Eas rfl rfl (Eu (Eq_ (Ew Z3 (Emv rfl rfl (Ey rfl ((Y.len us_Is rfl).yd) (Emv rfl rfl (Eu (E.block (E.loop (κ := Nat) (fun g => g ≤ s.length ∧ ∀ x ∈ s.take g, f x = false) (fun g => [(0, .slice a_s s.length c_s), (1, .func (.func f_g) #[] f_c.toArray), (7, .int .i64 (↑s.length : Int)), (8, .int .i64 (g : Int))]) (fun g => []) (fun g => s.length - g) 0 ⟨by omega, by simp⟩ ⟨rfl, rfl, rfl, rfl, trivial⟩ (.refl _) (fun g pg => ?_)))))))))))
 obtain ⟨pk, pa⟩ := pg
 refine Ew Z1 (Ey rfl ((Y.lss rfl rfl).yd) (Ent.d (fun q9 => ?_) (fun q9 => ?_)))
 ·refine Eu (Eq_ (E.ct rfl (E.skipc (Et (Eq_ (E.block (Ew Z2 (Emv rfl rfl (Eas rfl rfl (Ev Z6 (Emv rfl rfl (Emv rfl rfl (Emv rfl rfl ?_)))))))))))))
  obtain ⟨eb14, eo14, ea14, ei14, eh14⟩ := hs.elemI g om
  refine Ey rfl ((Y.ix us_Is c6 rfl ea14 rfl g rfl om).yd) (Ey rfl (Y.ld1 c6 rfl (eh14 _) rfl) (Est rfl (N.fn (cs := [_]) hf rfl rfl rfl dc (fun w Lp hA => Ro.mkint ei14) (hD_f _ (List.getElem_mem om))) (fun _ _ => (Ent.b (fun q16 => ?_) (fun q16 => ?_)))))
  ·refine Eu (E.ct rfl (Ew Z2 (Emv rfl rfl (Eas rfl rfl ?_))))
   exact Eu (E.ret (E.blr (E.thr (E.thr (E.blr (E.thr (Fg rfl rfl () (congrArg (Value.int .i64) (by first | exact E0 om pa q16 | exact C3 om pa)) rfl)))))))
  ·refine Eu (E.cf rfl (E.skipc (E.bln (Et (Ez Z2 (Ey rfl ((Y.add rfl rfl om om).yd) (Emv rfl rfl ?_)))))))
   exact Eu (E.again br (g + 1) rs (.refl _) ⟨by omega, v7 om pa q16⟩ om)
 ·refine Eu (Eq_ (E.cf rfl (E.exit (E.the (E.the (E.blh (Et (Ew Z1 (Eas rfl rfl ?_)))))))))
  exact Eu (E.ret (Fg rfl rfl () (congrArg (Value.int .i64) (by first | exact E0 om pa q16 | exact C3 om pa)) rfl))
theorem B9 {D_f : Int → Prop} {f : Int → Bool} (hD_f : ∀ x ∈ s, D_f x) : Tr Try.prog 56 [.slice a_s m_s c_s, .func (.func f_g) #[] f_c.toArray] (fun w L => Ro w L eIs [.slice a_s m_s c_s] s ∧ FnP Try.prog w L f_g f_c Enc.int a1I D_f f) [] (κ := Unit) (fun k => True) (fun k => .bool (s.any f)) (fun k => []) := by
 refine Tr.intro Try.func56 rfl (n := 9) rfl (by decide +kernel) bl (fr := [(0, .slice a_s m_s c_s), (1, .func (.func f_g) #[] f_c.toArray)]) rfl fun w L hR => ?_
 obtain ⟨hs, hf⟩ := hR
 obtain ⟨rfl, ls⟩ := hs.slen
 refine Ew Z1 (Eas rfl rfl (Ev Z5 (Emv rfl rfl (Emv rfl rfl (Est rfl (N.call0 (X2 (f := f) (D_f := D_f) hD_f) rfl rfl rfl dc (fun w Lp hA => ⟨hA.ro hs, hA.fn hf⟩)) (fun _ _ => (Ey rfl ((Y.geq rfl rfl).yd) (Eas rfl rfl ?_))))))))
 exact Eu (E.ret (Fb rfl rfl (by exact I5)))
theorem Q6 {s : List (Int × Int × List Int)} {D_f : (Int × Int × List Int) → Prop} {f : (Int × Int × List Int) → Bool} (hD_f : ∀ x ∈ s, D_f x) : Tr Try.prog 58 [.slice a_s m_s c_s, .func (.func f_g) #[] f_c.toArray] (fun w L => Ro w L l5 [.slice a_s m_s c_s] s ∧ FnP Try.prog w L f_g f_c C6 V2 D_f f) [] (κ := Unit) (fun k => True) (fun k => .int .i64 (H3 f s)) (fun k => []) := by
 refine Tr.intro Try.func58 rfl (n := 19) rfl (by decide +kernel) bl (fr := [(0, .slice a_s m_s c_s), (1, .func (.func f_g) #[] f_c.toArray)]) rfl fun w L hR => ?_
 obtain ⟨hs, hf⟩ := hR
 obtain ⟨rfl, ls⟩ := hs.slen
 refine Ew Z1 (Eas rfl rfl (Eu (Eq_ (Ew Z3 (Emv rfl rfl (Ey rfl ((Y.len us_Rules rfl).yd) (Emv rfl rfl (Eu (E.block (E.loop (κ := Nat) (fun g => g ≤ s.length ∧ ∀ x ∈ s.take g, f x = false) (fun g => [(0, .slice a_s s.length c_s), (1, .func (.func f_g) #[] f_c.toArray), (7, .int .i64 (↑s.length : Int)), (8, .int .i64 (g : Int))]) (fun g => []) (fun g => s.length - g) 0 ⟨by omega, by simp⟩ ⟨rfl, rfl, rfl, rfl, trivial⟩ (.refl _) (fun g pg => ?_)))))))))))
 obtain ⟨pk, pa⟩ := pg
 refine Ew Z1 (Ey rfl ((Y.lss rfl rfl).yd) (Ent.d (fun q9 => ?_) (fun q9 => ?_)))
 ·refine Eu (Eq_ (E.ct rfl (E.skipc (Et (Eq_ (E.block (Ew Z2 (Emv rfl rfl (Eas rfl rfl (Ev Z6 (Emv rfl rfl (Emv rfl rfl (Emv rfl rfl ?_)))))))))))))
  obtain ⟨eb14, eo14, ec14, ea14, er14, el14, eh14⟩ := hs.elem g om
  obtain ⟨xa14_0, xc14_0, rfl, ei14_0, ei14_1, xh14_0⟩ := Ro.pRule er14
  have := xh14_0.slen.2
  refine Ey rfl ((Y.ix us_Rules ty_Rule rfl ea14 rfl g rfl om).yd) (Ey rfl (Y.ldS (cs := [_, _, _]) ty_Rule rfl (eh14 _) rfl) (Est rfl (N.fn (cs := [_, _, _]) hf rfl rfl rfl dc (fun w Lp hA => Ro.mkRule (x := s[g]) ei14_0 ei14_1 (hA.ro xh14_0)) (hD_f _ (List.getElem_mem om))) (fun _ _ => (Ent.b (fun q16 => ?_) (fun q16 => ?_)))))
  ·refine Eu (E.ct rfl (Ew Z2 (Emv rfl rfl (Eas rfl rfl ?_))))
   exact Eu (E.ret (E.blr (E.thr (E.thr (E.blr (E.thr (Fg rfl rfl () (congrArg (Value.int .i64) (by first | exact E0 om pa q16 | exact C3 om pa)) rfl)))))))
  ·refine Eu (E.cf rfl (E.skipc (E.bln (Et (Ez Z2 (Ey rfl ((Y.add rfl rfl om om).yd) (Emv rfl rfl ?_)))))))
   exact Eu (E.again br (g + 1) rs (.refl _) ⟨by omega, v7 om pa q16⟩ om)
 ·refine Eu (Eq_ (E.cf rfl (E.exit (E.the (E.the (E.blh (Et (Ew Z1 (Eas rfl rfl ?_)))))))))
  exact Eu (E.ret (Fg rfl rfl () (congrArg (Value.int .i64) (by first | exact E0 om pa q16 | exact C3 om pa)) rfl))
theorem L9 {s : List (Int × Int × List Int)} {D_f : (Int × Int × List Int) → Prop} {f : (Int × Int × List Int) → Bool} (hD_f : ∀ x ∈ s, D_f x) : Tr Try.prog 47 [.slice a_s m_s c_s, .func (.func f_g) #[] f_c.toArray] (fun w L => Ro w L l5 [.slice a_s m_s c_s] s ∧ FnP Try.prog w L f_g f_c C6 V2 D_f f) [] (κ := Unit) (fun k => True) (fun k => .bool (s.any f)) (fun k => []) := by
 refine Tr.intro Try.func47 rfl (n := 9) rfl (by decide +kernel) bl (fr := [(0, .slice a_s m_s c_s), (1, .func (.func f_g) #[] f_c.toArray)]) rfl fun w L hR => ?_
 obtain ⟨hs, hf⟩ := hR
 obtain ⟨rfl, ls⟩ := hs.slen
 refine Ew Z1 (Eas rfl rfl (Ev Z5 (Emv rfl rfl (Emv rfl rfl (Est rfl (N.call0 (Q6 (f := f) (D_f := D_f) hD_f) rfl rfl rfl dc (fun w Lp hA => ⟨hA.ro hs, hA.fn hf⟩)) (fun _ _ => (Ey rfl ((Y.geq rfl rfl).yd) (Eas rfl rfl ?_))))))))
 exact Eu (E.ret (Fb rfl rfl (by exact I5)))
theorem P0 : Tr Try.prog 57 [.int .i64 n] (fun w L => (I64 n) ∧ True) [] (κ := Unit) (fun k => True) (fun k => .bool (!inR n 1 3)) (fun k => []) := by
 refine Tr.intro Try.func57 rfl (n := 6) rfl (by decide +kernel) bl (fr := [(0, .int .i64 n)]) rfl fun w L hR => ?_
 obtain ⟨i6n, _⟩ := hR
 refine Ew Z1 (Eas rfl rfl (Ev Z4 (Emv rfl rfl (Est rfl (N.call0 w4 rfl rfl rfl dc (fun w Lp hA => trivial)) (fun _ _ => (Ey rfl ((Y.not rfl).yd) (Eas rfl rfl ?_)))))))
 exact Eu (E.ret (Fb rfl rfl (by simp_all)))
theorem C7 : Tr Try.prog 46 [.slice a_s m_s c_s] (fun w L => Ro w L eIs [.slice a_s m_s c_s] s) [] (κ := Unit) (fun k => True) (fun k => .bool (l2 s)) (fun k => []) := by
 refine Tr.intro Try.func46 rfl (n := 11) rfl (by decide +kernel) bl (fr := [(0, .slice a_s m_s c_s)]) rfl fun w L hR => ?_
 have hs := hR
 obtain ⟨rfl, ls⟩ := hs.slen
 refine Ew Z1 (Eas rfl rfl (Ev Z9 (Emv rfl rfl (Ey rfl ((Y.len us_Is rfl).yd) (Est rfl (N.call0 w4 rfl rfl rfl dc (fun w Lp hA => trivial)) (fun _ _ => (Ent.b (fun q5 => ?_) (fun q5 => ?_))))))))
 ·refine Emv rfl rfl (Emv rfl rfl (Est rfl (N.call0 (B9 (f := (fun n => !inR n 1 3)) (D_f := (fun _ => True)) (by intros; exact trivial)) rfl rfl rfl dc (fun w Lp hA => ⟨hA.ro hs, FnP.ofI (D := (fun _ => True)) (fun hd => P0) (fun w' hk => trivial)⟩)) (fun _ _ => (Ey rfl ((Y.not rfl).yd) (Ey rfl ((Y.pkt rfl rfl).yd) (Eas rfl rfl ?_))))))
  exact Eu (E.ret (Fb rfl rfl (by simp_all [l2])))
 ·refine Emv rfl rfl (Es rfl (Es rfl (Es rfl (Ey rfl ((Y.pkf rfl rfl).yd) (Eas rfl rfl ?_)))))
  exact Eu (E.ret (Fb rfl rfl (by simp_all [l2])))
theorem y4 : Tr Try.prog 32 [.slice a_s m_s c_s] (fun w L => Ro w L eIs [.slice a_s m_s c_s] s) [] (κ := Unit) (fun k => True) (fun k => .bool (l2 s)) (fun k => []) := by
 refine Tr.intro Try.func32 rfl (n := 19) rfl (by decide +kernel) bl (fr := [(0, .slice a_s m_s c_s)]) rfl fun w L hR => ?_
 have hs := hR
 obtain ⟨rfl, ls⟩ := hs.slen
 refine Ew Z1 (Eas rfl rfl (Eu (Eq_ (Ew Z1 (Eas rfl rfl (Eu (E.block (E.loop (κ := Nat) (fun g => g ≤ s.length ∧ ∀ x ∈ s.take g, (!inR x 1 3) = false) (fun g => [(0, .slice a_s s.length c_s), (3, .int .i64 (g : Int))]) (fun g => []) (fun g => s.length - g) 0 ⟨by omega, by simp⟩ ⟨rfl, rfl, trivial⟩ (.refl _) (fun g pg => ?_)))))))))
 obtain ⟨pk, pa⟩ := pg
 refine Eq_ (Ew Z4 (Emv rfl rfl (Emv rfl rfl (Ey rfl ((Y.len us_Is rfl).yd) (Ey rfl ((Y.lss rfl rfl).yd) (Ent.d (fun q7 => ?_) (fun q7 => ?_)))))))
 ·refine Eu (E.ct rfl (E.skipc (Et (Eq_ (E.block (Ew Z6 (Emv rfl rfl (Emv rfl rfl ?_))))))))
  obtain ⟨eb12, eo12, ea12, ei12, eh12⟩ := hs.elemI g om
  refine Ey rfl ((Y.ix us_Is c6 rfl ea12 rfl g rfl om).yd) (Ey rfl (Y.ld1 c6 rfl (eh12 _) rfl) (Est rfl (N.call0 u7 rfl rfl rfl dc (fun w Lp hA => trivial)) (fun _ _ => (Ent.b (fun q14 => ?_) (fun q14 => ?_)))))
  ·refine Ey rfl ((Y.not (b := true) rfl).yd) (Eu (E.cf rfl (E.skipc (E.bln (Et (Ez Z3 (Emv rfl rfl (Ey rfl ((Y.add rfl rfl om om).yd) (Eas rfl rfl ?_)))))))))
   exact Eu (E.again br (g + 1) ⟨rfl, rfl, trivial⟩ (.refl _) ⟨by omega, v7 om pa (by simp [q14])⟩ om)
  ·refine Ey rfl ((Y.not (b := false) rfl).yd) (Eu (E.ct rfl (Ew Z1 (Eas rfl rfl ?_))))
   exact Eu (E.ret (E.blr (E.thr (E.thr (E.blr (E.thr (Fb rfl rfl (by first | (have := J9 (k := g) (s := s) (p := fun x => !inR x 1 3) om (by simpa using q14); rw [l2, this]; simp) | (have := G8 om pa; rw [l2, this]; simp)))))))))
 ·refine Eu (E.cf rfl (E.exit (E.the (E.the (E.blh (Et (Ew Z4 (Emv rfl rfl (Ey rfl ((Y.len us_Is rfl).yd) (Est rfl (N.call0 u7 rfl rfl rfl dc (fun w Lp hA => trivial)) (fun _ _ => (Eas rfl rfl ?_))))))))))))
  exact Eu (E.ret (Fb rfl rfl (by first | (have := J9 (k := g) (s := s) (p := fun x => !inR x 1 3) om (by simpa using q14); rw [l2, this]; simp) | (have := G8 om pa; rw [l2, this]; simp))))
theorem F4 {rel : Int} : Tr Try.prog 59 [.slice a_s m_s c_s, .int .i64 rel] (fun w L => Ro w L eIs [.slice a_s m_s c_s] s) [] (κ := Unit) (fun k => True) (fun k => .bool (l3 s rel)) (fun k => []) := by
 refine Tr.intro Try.func59 rfl (n := 14) rfl (by decide +kernel) bl (fr := [(0, .slice a_s m_s c_s), (1, .int .i64 rel)]) rfl fun w L hR => ?_
 have hs := hR
 obtain ⟨rfl, ls⟩ := hs.slen
 refine Ew Z1 (Eas rfl rfl (Ev Z10 (Emv rfl rfl (Est rfl (N.call0 C7 rfl rfl rfl dc (fun w Lp hA => hA.ro hs)) (fun _ _ => (Ent.b (fun q6 => ?_) (fun q6 => ?_)))))))
 ·refine Emv rfl rfl (Emv rfl rfl (Emv rfl rfl (Ey rfl ((Y.len us_Is rfl).yd) (Ey rfl ((Y.sub rfl rfl om om).yd) (Est rfl (N.call0 w4 rfl rfl rfl dc (fun w Lp hA => trivial)) (fun _ _ => (Ey rfl ((Y.pkt rfl rfl).yd) (Eas rfl rfl ?_))))))))
  exact Eu (E.ret (Fb rfl rfl (by simp_all [l3])))
 ·refine Emv rfl rfl (Es rfl (Es rfl (Es rfl (Es rfl (Es rfl (Ey rfl ((Y.pkf rfl rfl).yd) (Eas rfl rfl ?_)))))))
  exact Eu (E.ret (Fb rfl rfl (by simp_all [l3])))
theorem J8 {i : Int} {b_arity : Nat} : Tr Try.prog 64 [.int .i64 i, .pointer (some ⟨b_arity, 0, none⟩)] (fun w L => (I64 i) ∧ RoPt w L b_arity [.int .i64 arity] ∧ -1000 ≤ arity ∧ arity ≤ 1000) [] (κ := Unit) (fun k => True) (fun k => .bool (!inR i 0 (arity - 1))) (fun k => []) := by
 refine Tr.intro Try.func64 rfl (n := 9) rfl (by decide +kernel) bl (fr := [(0, .int .i64 i), (1, .pointer (some ⟨b_arity, 0, none⟩))]) rfl fun w L hR => ?_
 obtain ⟨i6i, hb_arity, as0, as1⟩ := hR
 refine Ew Z1 (Eas rfl rfl (Ev Z6 (Emv rfl rfl (Ey rfl (Y.ld1 c6 rfl (hb_arity.has) rfl) (Ey rfl ((Y.sub rfl rfl om om).yd) (Est rfl (N.call0 w4 rfl rfl rfl dc (fun w Lp hA => trivial)) (fun _ _ => (Ey rfl ((Y.not rfl).yd) (Eas rfl rfl ?_)))))))))
 exact Eu (E.ret (Fb rfl rfl (by simp_all)))
theorem M0 {l : List Int} : Tr Try.prog 60 [.slice a_l m_l c_l, .int .i64 arity] (fun w L => Ro w L eIs [.slice a_l m_l c_l] l ∧ -1000 ≤ arity ∧ arity ≤ 1000) [] (κ := Unit) (fun k => True) (fun k => .bool (F7 l arity)) (fun k => []) := by
 refine Tr.intro Try.func60 rfl (n := 9) rfl (by decide +kernel) bl (fr := [(0, .slice a_l m_l c_l), (1, .int .i64 arity)]) rfl fun w L hR => ?_
 obtain ⟨hl, as0, as1⟩ := hR
 obtain ⟨rfl, ll⟩ := hl.slen
 refine Ew Z2 (Est rfl (N.box (cs := [_]) rfl dc rfl) (fun b3 _ => (Eas rfl rfl (Ev Z5 (Emv rfl rfl (Ey rfl ((Y.fn (vs := [_]) rfl).yd) (Est rfl (N.call0 (B9 (f := (fun i => !inR i 0 (arity - 1))) (D_f := (fun _ => True)) (by intros; exact trivial)) rfl rfl rfl dc (fun w Lp hA => ⟨hA.ro hl, FnP.ofI (D := (fun _ => True)) (fun hd => J8) (fun w' hk => ⟨(hA.pt m0).keep hk, (by first | assumption | omega), (by first | assumption | omega)⟩)⟩)) (fun _ _ => (Ey rfl ((Y.not rfl).yd) (Eas rfl rfl ?_))))))))))
 exact Eu (E.ret (Fb rfl rfl (by simp [F7])))
theorem X1 : Tr Try.prog 49 [.slice a_s m_s c_s, .agg #[.int .i64 f4, .int .i64 j8, .slice k8 o4 k7]] (fun w L => Ro w L eIs [.slice a_s m_s c_s] s ∧ I64 f4 ∧ I64 j8 ∧ Ro w L eIs [.slice k8 o4 k7] f8) [] (κ := Unit) (fun k => True) (fun k => .bool (g9 s (f4, j8, f8))) (fun k => []) := by
 refine Tr.intro Try.func49 rfl (n := 36) rfl (by decide +kernel) bl (fr := [(0, .slice a_s m_s c_s), (1, .agg #[.int .i64 f4, .int .i64 j8, .slice k8 o4 k7])]) rfl fun w L hR => ?_
 obtain ⟨hs, H8, N8, u0⟩ := hR
 obtain ⟨rfl, ls⟩ := hs.slen
 obtain ⟨rfl, S7⟩ := u0.slen
 refine Ew Z2 (Est rfl (N.box (cs := [_, _, _]) rfl dc rfl) (fun b3 _ => (Eas rfl rfl (Eu (Eq_ (D.region (fun j => true) n0 (Dyp 0 rfl (Y.mv rfl) (Dyp 1 rfl (Y.fld fo_Rule_0 c6 dc rfl) (Dy 2 rfl (Y.ld1 c6 rfl ((Has.pt m0).sub (cs' := [_]) 0 rfl) rfl) (D.st 3 rfl rfl kr (fun _ => rfl) (N.call0 F4 rfl rfl rfl dc (fun w Lp hA => hA.ro hs)) (fun _ _ => (Ent.b (fun q8 => ?_) (fun q8 => ?_)))))))))))))
 ·obtain ⟨z1, z2, z5, z6⟩ := w2 q8
  rw [u8 om] at z5 z6
  refine Dyp 4 rfl (Y.mv rfl) (Dyp 5 rfl (Y.mv rfl) (Dyp 6 rfl (Y.fld fo_Rule_1 c6 dc rfl) (Dy 7 rfl (Y.ld1 c6 rfl ((Has.pt m0).sub (cs' := [_]) 1 rfl) rfl) (D.st 8 rfl rfl kr (fun _ => rfl) (N.call0 F4 rfl rfl rfl dc (fun w Lp hA => hA.ro hs)) (fun _ _ => (Ent.b (fun q13 => ?_) (fun q13 => ?_)))))))
  ·obtain ⟨z3, z4, _, _⟩ := w2 q13
   refine Dyp 9 rfl (Y.pkt rfl rfl) (Dyp 10 rfl (Y.mv rfl) (Dyp 11 rfl (Y.fld fo_Rule_2 ty_Is dc rfl) (Dy 12 rfl (Y.ld1 ty_Is rfl ((Has.pt m0).sub (cs' := [_]) 2 rfl) rfl) (Dyp 13 rfl (Y.len us_Is rfl) (Dyp 14 rfl (Y.mv rfl) (Dyp 15 rfl (Y.fld fo_Rule_1 c6 dc rfl) (Dy 16 rfl (Y.ld1 c6 rfl ((Has.pt m0).sub (cs' := [_]) 1 rfl) rfl) ?_)))))))
   obtain ⟨eb22, eo22, ea22, ei22, eh22⟩ := hs.elemI j8.toNat om
   refine Dyp 17 rfl (Y.ix us_Is c6 rfl ea22 rfl j8.toNat om om) (Dy 18 rfl (Y.ld1 c6 rfl (eh22 _) rfl) (Dyp 19 rfl (Y.eql rfl rfl) (Ent.d (fun q24 => ?_) (fun q24 => ?_))))
   ·refine Dyp 20 rfl (Y.pkt rfl rfl) (Dyp 21 rfl (Y.mv rfl) (Dyp 22 rfl (Y.fld fo_Rule_2 ty_Is dc rfl) (Dy 23 rfl (Y.ld1 ty_Is rfl ((Has.pt m0).sub (cs' := [_]) 2 rfl) rfl) (Dyp 24 rfl (Y.mv rfl) (Dyp 25 rfl (Y.fld fo_Rule_0 c6 dc rfl) (Dy 26 rfl (Y.ld1 c6 rfl ((Has.pt m0).sub (cs' := [_]) 0 rfl) rfl) ?_))))))
    obtain ⟨eb32, eo32, ea32, ei32, eh32⟩ := hs.elemI f4.toNat om
    refine Dyp 27 rfl (Y.ix us_Is c6 rfl ea32 rfl f4.toNat om om) (Dy 28 rfl (Y.ld1 c6 rfl (eh32 _) rfl) (D.st 29 rfl rfl kr (fun _ => rfl) (N.call0 M0 rfl rfl rfl dc (fun w Lp hA => ⟨hA.ro u0, (by first | assumption | omega), (by first | assumption | omega)⟩)) (fun _ _ => (Dyp 30 rfl (Y.pkt rfl rfl) (Dyp 31 rfl (Y.as rfl) ?_)))))
    exact D.done kr (Et (E.ret (Fb rfl rfl (by first | (simp [g9, q8]; done) | (simp [g9, q8, q13]; done) | (simp only [g9, q8, q13, m5 (show f4.toNat < s.length by omega), m5 (show j8.toNat < s.length by omega)]; simp [q24])))))
   ·refine Dyp 20 rfl (Y.pkt rfl rfl) (Dyp 21 rfl (Y.mv rfl) (Dsk 22 rfl (Dsk 23 rfl (Dsk 24 rfl (Dsk 25 rfl (Dsk 26 rfl (Dsk 27 rfl (Dsk 28 rfl (Dsk 29 rfl (Dyp 30 rfl (Y.pkf rfl rfl) (Dyp 31 rfl (Y.as rfl) ?_)))))))))))
    exact D.done kr (Et (E.ret (Fb rfl rfl (by first | (simp [g9, q8]; done) | (simp [g9, q8, q13]; done) | (simp only [g9, q8, q13, m5 (show f4.toNat < s.length by omega), m5 (show j8.toNat < s.length by omega)]; simp [q24])))))
  ·refine Dyp 9 rfl (Y.pkt rfl rfl) (Dyp 10 rfl (Y.mv rfl) (Dsk 11 rfl (Dsk 12 rfl (Dsk 13 rfl (Dsk 14 rfl (Dsk 15 rfl (Dsk 16 rfl (Dsk 17 rfl (Dsk 18 rfl (Dsk 19 rfl (Dyp 20 rfl (Y.pkf rfl rfl) (Dyp 21 rfl (Y.mv rfl) (Dsk 22 rfl (Dsk 23 rfl (Dsk 24 rfl (Dsk 25 rfl (Dsk 26 rfl (Dsk 27 rfl (Dsk 28 rfl (Dsk 29 rfl (Dyp 30 rfl (Y.pkf rfl rfl) (Dyp 31 rfl (Y.as rfl) ?_))))))))))))))))))))))
   exact D.done kr (Et (E.ret (Fb rfl rfl (by first | (simp [g9, q8]; done) | (simp [g9, q8, q13]; done) | (simp only [g9, q8, q13, m5 (show f4.toNat < s.length by omega), m5 (show j8.toNat < s.length by omega)]; simp [q24])))))
 ·refine Dyp 4 rfl (Y.mv rfl) (Dsk 5 rfl (Dsk 6 rfl (Dsk 7 rfl (Dsk 8 rfl (Dyp 9 rfl (Y.pkf rfl rfl) (Dyp 10 rfl (Y.mv rfl) (Dsk 11 rfl (Dsk 12 rfl (Dsk 13 rfl (Dsk 14 rfl (Dsk 15 rfl (Dsk 16 rfl (Dsk 17 rfl (Dsk 18 rfl (Dsk 19 rfl (Dyp 20 rfl (Y.pkf rfl rfl) (Dyp 21 rfl (Y.mv rfl) (Dsk 22 rfl (Dsk 23 rfl (Dsk 24 rfl (Dsk 25 rfl (Dsk 26 rfl (Dsk 27 rfl (Dsk 28 rfl (Dsk 29 rfl (Dyp 30 rfl (Y.pkf rfl rfl) (Dyp 31 rfl (Y.as rfl) ?_)))))))))))))))))))))))))))
  exact D.done kr (Et (E.ret (Fb rfl rfl (by first | (simp [g9, q8]; done) | (simp [g9, q8, q13]; done) | (simp only [g9, q8, q13, m5 (show f4.toNat < s.length by omega), m5 (show j8.toNat < s.length by omega)]; simp [q24])))))
theorem X7 : Tr Try.prog 31 [.slice a_s m_s c_s, .agg #[.int .i64 f4, .int .i64 j8, .slice k8 o4 k7]] (fun w L => Ro w L eIs [.slice a_s m_s c_s] s ∧ I64 f4 ∧ I64 j8 ∧ Ro w L eIs [.slice k8 o4 k7] f8) [] (κ := Unit) (fun k => True) (fun k => .bool (g9 s (f4, j8, f8))) (fun k => []) := by
 refine Tr.intro Try.func31 rfl (n := 58) rfl (by decide +kernel) bl (fr := [(0, .slice a_s m_s c_s), (1, .agg #[.int .i64 f4, .int .i64 j8, .slice k8 o4 k7])]) rfl fun w L hR => ?_
 obtain ⟨hs, H8, N8, u0⟩ := hR
 obtain ⟨rfl, ls⟩ := hs.slen
 obtain ⟨rfl, S7⟩ := u0.slen
 refine Ew Z2 (Est rfl (N.box (cs := [_, _, _]) rfl dc rfl) (fun b3 _ => (Eas rfl rfl (Eu (Eq_ (Eq_ (D.region (fun j => true) n0 (Dyp 0 rfl (Y.mv rfl) (D.st 1 rfl rfl kr (fun _ => rfl) (N.call0 y4 rfl rfl rfl dc (fun w Lp hA => hA.ro hs)) (fun _ _ => (Ent.b (fun q7 => ?_) (fun q7 => ?_))))))))))))
 ·refine Dyp 2 rfl (Y.not (b := true) rfl) (Dyp 3 rfl (Y.mv rfl) (Dyp 4 rfl (Y.fld fo_Rule_0 c6 dc rfl) (Dy 5 rfl (Y.ld1 c6 rfl ((Has.pt m0).sub (cs' := [_]) 0 rfl) rfl) (Dyp 6 rfl (Y.mv rfl) (Dyp 7 rfl (Y.len us_Is rfl) (Dyp 8 rfl (Y.sub rfl rfl om om) (D.st 9 rfl rfl kr (fun _ => rfl) (N.call0 u7 rfl rfl rfl dc (fun w Lp hA => trivial)) (fun _ _ => (Ent.b (fun q15 => ?_) (fun q15 => ?_))))))))))
  ·have y1 : l3 s f4 = true := by rw [l3, q7, q15]; rfl
   obtain ⟨z1, z2, z5, z6⟩ := w2 y1
   rw [u8 om] at z5 z6
   refine Dyp 10 rfl (Y.not (b := true) rfl) (Dyp 11 rfl (Y.pkf rfl rfl) (Dyp 12 rfl (Y.mv rfl) (Dyp 13 rfl (Y.fld fo_Rule_1 c6 dc rfl) (Dy 14 rfl (Y.ld1 c6 rfl ((Has.pt m0).sub (cs' := [_]) 1 rfl) rfl) (Dyp 15 rfl (Y.mv rfl) (Dyp 16 rfl (Y.len us_Is rfl) (Dyp 17 rfl (Y.sub rfl rfl om om) (D.st 18 rfl rfl kr (fun _ => rfl) (N.call0 u7 rfl rfl rfl dc (fun w Lp hA => trivial)) (fun _ _ => (Ent.b (fun q24 => ?_) (fun q24 => ?_)))))))))))
   ·have y2 : l3 s j8 = true := by rw [l3, q7, q24]; rfl
    obtain ⟨z3, z4, _, _⟩ := w2 y2
    refine Dyp 19 rfl (Y.not (b := true) rfl) (Dyp 20 rfl (Y.pkf rfl rfl) (Dyp 21 rfl (Y.mv rfl) (Dyp 22 rfl (Y.fld fo_Rule_2 ty_Is dc rfl) (Dy 23 rfl (Y.ld1 ty_Is rfl ((Has.pt m0).sub (cs' := [_]) 2 rfl) rfl) (Dyp 24 rfl (Y.len us_Is rfl) (Dyp 25 rfl (Y.mv rfl) (Dyp 26 rfl (Y.fld fo_Rule_1 c6 dc rfl) (Dy 27 rfl (Y.ld1 c6 rfl ((Has.pt m0).sub (cs' := [_]) 1 rfl) rfl) ?_))))))))
    obtain ⟨eb34, eo34, ea34, ei34, eh34⟩ := hs.elemI j8.toNat om
    refine Dyp 28 rfl (Y.ix us_Is c6 rfl ea34 rfl j8.toNat om om) (Dy 29 rfl (Y.ld1 c6 rfl (eh34 _) rfl) (Dyp 30 rfl (Y.neq rfl rfl) (Ent.d (fun q36 => ?_) (fun q36 => ?_))))
    ·refine Dyp 31 rfl (Y.pkf rfl rfl) (D.done kr (Et (E.ct rfl (Ew Z1 (Eas rfl rfl ?_)))))
     exact Eu (E.ret (E.thr (Fb rfl rfl (by exact a0N (m5 (i := j8) (show j8.toNat < s.length by omega)) q36))))
    ·refine Dyp 31 rfl (Y.pkf rfl rfl) (D.done kr (Et (E.cf rfl (E.skipc (Et (Eq_ (Ew Z1 (Eas rfl rfl (Eu (E.block (E.loop (κ := Nat) (fun g => g ≤ f8.length ∧ ∀ x ∈ f8.take g, (!inR x 0 (s[f4.toNat] - 1)) = false) (fun g => [(0, .slice a_s s.length c_s), (3, .pointer (some ⟨b3, 0, none⟩)), (5, .int .i64 (g : Int))]) (fun g => [pt b3 54 [.int .i64 f4, .int .i64 j8, .slice k8 f8.length k7]]) (fun g => f8.length - g) 0 ⟨by omega, by simp⟩ ⟨rfl, rfl, rfl, trivial⟩ (.refl _) (fun g pg => ?_))))))))))))
     obtain ⟨pk, pa⟩ := pg
     refine Eq_ (Ew Z5 (Emv rfl rfl (Ey rfl ((Y.fld fo_Rule_2 ty_Is dc rfl).yd) (Ey rfl (Y.ld1 ty_Is rfl ((Has.pt m0).sub (cs' := [_]) 2 rfl) rfl) (Ey rfl ((Y.len us_Is rfl).yd) (Ey rfl ((Y.lss rfl rfl).yd) (Ent.d (fun q42 => ?_) (fun q42 => ?_))))))))
     ·refine Eu (E.ct rfl (E.skipc (Et (Eq_ (E.block (Eq_ (D.region (fun j => true) n0 (Dyp 0 rfl (Y.fld fo_Rule_2 ty_Is dc rfl) (Dy 1 rfl (Y.ld1 ty_Is rfl ((Has.pt m0).sub (cs' := [_]) 2 rfl) rfl) (Dyp 2 rfl (Y.mv rfl) ?_))))))))))
      obtain ⟨eb48, eo48, ea48, ei48, eh48⟩ := u0.elemI g om
      refine Dyp 3 rfl (Y.ix us_Is c6 rfl ea48 rfl g rfl om) (Dy 4 rfl (Y.ld1 c6 rfl (eh48 _) rfl) (Dyp 5 rfl (Y.mv rfl) (Dyp 6 rfl (Y.fld fo_Rule_0 c6 dc rfl) (Dy 7 rfl (Y.ld1 c6 rfl ((Has.pt m0).sub (cs' := [_]) 0 rfl) rfl) ?_))))
      obtain ⟨eb53, eo53, ea53, ei53, eh53⟩ := hs.elemI f4.toNat om
      refine Dyp 8 rfl (Y.ix us_Is c6 rfl ea53 rfl f4.toNat om om) (Dy 9 rfl (Y.ld1 c6 rfl (eh53 _) rfl) (Dyp 10 rfl (Y.sub rfl rfl om om) (D.st 11 rfl rfl kr (fun _ => rfl) (N.call0 u7 rfl rfl rfl dc (fun w Lp hA => trivial)) (fun _ _ => (Ent.b (fun q56 => ?_) (fun q56 => ?_))))))
      ·refine Dyp 12 rfl (Y.not (b := true) rfl) (D.done kr (Et (E.cf rfl (E.skipc (E.bln (Et (Ez Z3 (Emv rfl rfl (Ey rfl ((Y.add rfl rfl om om).yd) (Eas rfl rfl ?_))))))))))
       exact Eu (E.again br (g + 1) rs (.refl _) ⟨by omega, v7 om pa (by rw [q56]; rfl)⟩ om)
      ·refine Dyp 12 rfl (Y.not (b := false) rfl) (D.done kr (Et (E.ct rfl (Ew Z1 (Eas rfl rfl ?_)))))
       exact Eu (E.ret (E.blr (E.thr (E.thr (E.blr (E.thr (Fb rfl rfl (by exact a0X (m5 (i := f4) (show f4.toNat < s.length by omega)) (by rw [F7, J9 (k := g) (show g < f8.length by omega) (by rw [q56]; rfl)]; rfl)))))))))
     ·refine Eu (E.cf rfl (E.exit (E.the (E.the (E.blh (Et (Ew Z1 (Eas rfl rfl ?_))))))))
      exact Eu (E.ret (Fb rfl rfl (by exact a0J y1 y2 (m5 (i := f4) (show f4.toNat < s.length by omega)) (m5 (i := j8) (show j8.toNat < s.length by omega)) (show (f8.length : Int) = s[j8.toNat] by omega) (by rw [F7, G8 (show ¬ g < f8.length by omega) pa]; rfl))))
   ·refine Dyp 19 rfl (Y.not (b := false) rfl) (Dyp 20 rfl (Y.pkf rfl rfl) (Dyp 21 rfl (Y.mv rfl) (Dsk 22 rfl (Dsk 23 rfl (Dsk 24 rfl (Dsk 25 rfl (Dsk 26 rfl (Dsk 27 rfl (Dsk 28 rfl (Dsk 29 rfl (Dsk 30 rfl (Dyp 31 rfl (Y.pkt rfl rfl) (D.done kr (Et (E.ct rfl (Ew Z1 (Eas rfl rfl ?_)))))))))))))))))
    exact Eu (E.ret (E.thr (Fb rfl rfl (by exact a0O (Q0 q24)))))
  ·refine Dyp 10 rfl (Y.not (b := false) rfl) (Dyp 11 rfl (Y.pkf rfl rfl) (Dyp 12 rfl (Y.mv rfl) (Dsk 13 rfl (Dsk 14 rfl (Dsk 15 rfl (Dsk 16 rfl (Dsk 17 rfl (Dsk 18 rfl (Dsk 19 rfl (Dyp 20 rfl (Y.pkt rfl rfl) (Dyp 21 rfl (Y.mv rfl) (Dsk 22 rfl (Dsk 23 rfl (Dsk 24 rfl (Dsk 25 rfl (Dsk 26 rfl (Dsk 27 rfl (Dsk 28 rfl (Dsk 29 rfl (Dsk 30 rfl (Dyp 31 rfl (Y.pkt rfl rfl) (D.done kr (Et (E.ct rfl (Ew Z1 (Eas rfl rfl ?_))))))))))))))))))))))))))
   exact Eu (E.ret (E.thr (Fb rfl rfl (by exact R3 (Q0 q15)))))
 ·refine Dyp 2 rfl (Y.not (b := false) rfl) (Dyp 3 rfl (Y.mv rfl) (Dsk 4 rfl (Dsk 5 rfl (Dsk 6 rfl (Dsk 7 rfl (Dsk 8 rfl (Dsk 9 rfl (Dsk 10 rfl (Dyp 11 rfl (Y.pkt rfl rfl) (Dyp 12 rfl (Y.mv rfl) (Dsk 13 rfl (Dsk 14 rfl (Dsk 15 rfl (Dsk 16 rfl (Dsk 17 rfl (Dsk 18 rfl (Dsk 19 rfl (Dyp 20 rfl (Y.pkt rfl rfl) (Dyp 21 rfl (Y.mv rfl) (Dsk 22 rfl (Dsk 23 rfl (Dsk 24 rfl (Dsk 25 rfl (Dsk 26 rfl (Dsk 27 rfl (Dsk 28 rfl (Dsk 29 rfl (Dsk 30 rfl (Dyp 31 rfl (Y.pkt rfl rfl) (D.done kr (Et (E.ct rfl (Ew Z1 (Eas rfl rfl ?_))))))))))))))))))))))))))))))))))
  exact Eu (E.ret (E.thr (Fb rfl rfl (by exact R3 (W4 q7)))))
theorem P1 {b_s : Nat} : Tr Try.prog 48 [.agg #[.int .i64 f4, .int .i64 j8, .slice k8 o4 k7], .pointer (some ⟨b_s, 0, none⟩)] (fun w L => (I64 f4 ∧ I64 j8 ∧ Ro w L eIs [.slice k8 o4 k7] f8) ∧ RoPt w L b_s [.slice a_s m_s c_s] ∧ Ro w L eIs [.slice a_s m_s c_s] s) [] (κ := Unit) (fun k => True) (fun k => .bool (!g9 s (f4, j8, f8))) (fun k => []) := by
 refine Tr.intro Try.func48 rfl (n := 8) rfl (by decide +kernel) bl (fr := [(0, .agg #[.int .i64 f4, .int .i64 j8, .slice k8 o4 k7]), (1, .pointer (some ⟨b_s, 0, none⟩))]) rfl fun w L hR => ?_
 obtain ⟨⟨H8, N8, u0⟩, hb_s, hs⟩ := hR
 obtain ⟨rfl, S7⟩ := u0.slen
 obtain ⟨rfl, ls⟩ := hs.slen
 refine Ew Z2 (Est rfl (N.box (cs := [_, _, _]) rfl dc rfl) (fun b2 _ => (Eas rfl rfl (Ev Z5 (Ey rfl (Y.ld1 ty_Is rfl (hb_s.has) rfl) (Ey rfl (Y.ldS (cs := [_, _, _]) ty_Rule rfl (Has.pt m0) rfl) (Est rfl (N.call0 X1 rfl rfl rfl dc (fun w Lp hA => ⟨hA.ro hs, H8, N8, hA.ro u0⟩)) (fun _ _ => (Ey rfl ((Y.not rfl).yd) (Eas rfl rfl ?_))))))))))
 exact Eu (E.ret (Fb rfl rfl (by simp_all)))
theorem R6 : Tr Try.prog 38 [.slice a_s m_s c_s, .slice a_l m_l c_l] (fun w L => Ro w L eIs [.slice a_s m_s c_s] s ∧ Ro w L l5 [.slice a_l m_l c_l] l) [] (κ := Unit) (fun k => True) (fun k => .bool (g0 s l)) (fun k => []) := by
 refine Tr.intro Try.func38 rfl (n := 18) rfl (by decide +kernel) bl (fr := [(0, .slice a_s m_s c_s), (1, .slice a_l m_l c_l)]) rfl fun w L hR => ?_
 obtain ⟨hs, hl⟩ := hR
 obtain ⟨rfl, ls⟩ := hs.slen
 obtain ⟨rfl, ll⟩ := hl.slen
 refine Ew Z2 (Est rfl (N.box (cs := [_]) rfl dc rfl) (fun b2 _ => (Eas rfl rfl (Ev Z14 (Ey rfl (Y.ld1 ty_Is rfl (Has.pt m0) rfl) (Est rfl (N.call0 C7 rfl rfl rfl dc (fun w Lp hA => hA.ro hs)) (fun _ _ => (Ent.b (fun q6 => ?_) (fun q6 => ?_)))))))))
 ·refine Emv rfl rfl (Emv rfl rfl (Ey rfl ((Y.len us_Rules rfl).yd) (Ey rfl ((Y.leq rfl rfl).yd) (Ent.d (fun q10 => ?_) (fun q10 => ?_)))))
  ·refine Ey rfl ((Y.pkt rfl rfl).yd) (Emv rfl rfl (Emv rfl rfl (Ey rfl ((Y.fn (vs := [_]) rfl).yd) (Est rfl (N.call0 (L9 (f := (fun z => !g9 s z)) (D_f := (fun _ => True)) (by intros; exact trivial)) rfl rfl rfl dc (fun w Lp hA => ⟨hA.ro hl, FnP.ofRule (D := (fun _ => True)) (fun hd => P1) (fun w' hk => ⟨(hA.pt m0).keep hk, (hA.ro hs).keep hk⟩)⟩)) (fun _ _ => (Ey rfl ((Y.not rfl).yd) (Ey rfl ((Y.pkt rfl rfl).yd) (Eas rfl rfl ?_))))))))
   exact Eu (E.ret (Fb rfl rfl (by rw [g0, q6, decide_eq_true (show (l.length : Int) ≤ 4 by omega)]; rfl)))
  ·refine Ey rfl ((Y.pkt rfl rfl).yd) (Emv rfl rfl (Es rfl (Es rfl (Es rfl (Es rfl (Ey rfl ((Y.pkf rfl rfl).yd) (Eas rfl rfl ?_)))))))
   exact Eu (E.ret (Fb rfl rfl (by rw [g0, decide_eq_false (show ¬ (l.length : Int) ≤ 4 by omega)]; simp)))
 ·refine Emv rfl rfl (Es rfl (Es rfl (Es rfl (Ey rfl ((Y.pkf rfl rfl).yd) (Emv rfl rfl (Es rfl (Es rfl (Es rfl (Es rfl (Ey rfl ((Y.pkf rfl rfl).yd) (Eas rfl rfl ?_)))))))))))
  exact Eu (E.ret (Fb rfl rfl (by rw [g0, q6]; rfl)))
theorem R0 : Tr Try.prog 24 [.slice a_s m_s c_s, .slice a_l m_l c_l] (fun w L => Ro w L eIs [.slice a_s m_s c_s] s ∧ Ro w L l5 [.slice a_l m_l c_l] l) [] (κ := Unit) (fun k => True) (fun k => .bool (g0 s l)) (fun k => []) := by
 refine Tr.intro Try.func24 rfl (n := 26) rfl (by decide +kernel) bl (fr := [(0, .slice a_s m_s c_s), (1, .slice a_l m_l c_l)]) rfl fun w L hR => ?_
 obtain ⟨hs, hl⟩ := hR
 obtain ⟨rfl, ls⟩ := hs.slen
 obtain ⟨rfl, ll⟩ := hl.slen
 refine Ew Z1 (Eas rfl rfl (Eu (Eq_ (Ew Z1 (Eas rfl rfl (Eu (E.block (E.loop (κ := Nat) (fun g => g ≤ l.length ∧ ∀ x ∈ l.take g, (!g9 s x) = false) (fun g => [(0, .slice a_s s.length c_s), (1, .slice a_l l.length c_l), (5, .int .i64 (g : Int))]) (fun g => []) (fun g => l.length - g) 0 ⟨by omega, by simp⟩ ⟨rfl, rfl, rfl, trivial⟩ (.refl _) (fun g pg => ?_)))))))))
 obtain ⟨pk, pa⟩ := pg
 refine Eq_ (Ew Z4 (Emv rfl rfl (Emv rfl rfl (Ey rfl ((Y.len us_Rules rfl).yd) (Ey rfl ((Y.lss rfl rfl).yd) (Ent.d (fun q9 => ?_) (fun q9 => ?_)))))))
 ·refine Eu (E.ct rfl (E.skipc (Et (Eq_ (E.block (Ew Z7 (Emv rfl rfl (Emv rfl rfl (Emv rfl rfl ?_)))))))))
  obtain ⟨eb15, eo15, ec15, ea15, er15, el15, eh15⟩ := hl.elem g om
  obtain ⟨xa15_0, xc15_0, rfl, ei15_0, ei15_1, xh15_0⟩ := Ro.pRule er15
  have := xh15_0.slen.2
  refine Ey rfl ((Y.ix us_Rules ty_Rule rfl ea15 rfl g rfl om).yd) (Ey rfl (Y.ldS (cs := [_, _, _]) ty_Rule rfl (eh15 _) rfl) (Est rfl (N.call0 X7 rfl rfl rfl dc (fun w Lp hA => ⟨hA.ro hs, ei15_0, ei15_1, hA.ro xh15_0⟩)) (fun _ _ => (Ent.b (fun q17 => ?_) (fun q17 => ?_)))))
  ·refine Ey rfl ((Y.not (b := true) rfl).yd) (Eu (E.cf rfl (E.skipc (E.bln (Et (Ez Z3 (Emv rfl rfl (Ey rfl ((Y.add rfl rfl om om).yd) (Eas rfl rfl ?_)))))))))
   exact Eu (E.again br (g + 1) rs (.refl _) ⟨by omega, v7 om pa (by rw [show g9 s l[g] = true from q17]; rfl)⟩ om)
  ·refine Ey rfl ((Y.not (b := false) rfl).yd) (Eu (E.ct rfl (Ew Z1 (Eas rfl rfl ?_))))
   exact Eu (E.ret (E.blr (E.thr (E.thr (E.blr (E.thr (Fb rfl rfl (by rw [g0, J9 (p := fun r => !g9 s r) (show g < l.length by omega) (by rw [show g9 s l[g] = false from q17]; rfl)]; simp))))))))
 ·refine Eu (E.cf rfl (E.exit (E.the (E.the (E.blh (Et (Ew Z8 (Emv rfl rfl (Est rfl (N.call0 y4 rfl rfl rfl dc (fun w Lp hA => hA.ro hs)) (fun _ _ => (Ent.b (fun q20 => ?_) (fun q20 => ?_))))))))))))
  ·refine Emv rfl rfl (Emv rfl rfl (Ey rfl ((Y.len us_Rules rfl).yd) (Ey rfl ((Y.leq rfl rfl).yd) (Ey rfl ((Y.pkt rfl rfl).yd) (Eas rfl rfl ?_)))))
   exact Eu (E.ret (Fb rfl rfl (by rw [g0, q20, G8 (p := fun r => !g9 s r) (show ¬ g < l.length by omega) pa]; simp)))
  ·refine Emv rfl rfl (Es rfl (Es rfl (Es rfl (Ey rfl ((Y.pkf rfl rfl).yd) (Eas rfl rfl ?_)))))
   exact Eu (E.ret (Fb rfl rfl (by rw [g0, q20]; rfl)))
theorem L6 : Tr Try.prog 23 [.slice a_a m_a c_a, .int .i64 left] (fun w L => Ro w L eIs [.slice a_a m_a c_a] a ∧ 0 ≤ left ∧ left ≤ 1048576) [] (κ := Unit) (fun k => True) (fun k => .int .i64 (szR a.length left)) (fun k => []) := by
 refine Tr.intro Try.func23 rfl (n := 12) rfl (by decide +kernel) bl (fr := [(0, .slice a_a m_a c_a), (1, .int .i64 left)]) rfl fun w L hR => ?_
 obtain ⟨ha, as0, as1⟩ := hR
 obtain ⟨rfl, la⟩ := ha.slen
 refine Ew Z1 (Eas rfl rfl (Ev Z5 (Emv rfl rfl (Emv rfl rfl (Ey rfl ((Y.len us_Is rfl).yd) (Ey rfl ((Y.sub rfl rfl om om).yd) (Eas rfl rfl (Eu (Eq_ (Ew Z2 (Emv rfl rfl (Ey rfl ((Y.lss rfl rfl).yd) (Ent.d (fun q10 => ?_) (fun q10 => ?_))))))))))))))
 ·refine Eu (E.ct rfl (Ew Z1 (Eas rfl rfl ?_)))
  exact Eu (E.ret (E.thr (Fg rfl rfl () (congrArg (Value.int .i64) (by simp only [szR]; split <;> omega)) rfl)))
 ·refine Eu (E.cf rfl (E.skipc (Et (Ew Z2 (Emv rfl rfl (Eas rfl rfl ?_))))))
  exact Eu (E.ret (Fg rfl rfl () (congrArg (Value.int .i64) (by simp only [szR]; split <;> omega)) rfl))
theorem t6 (hz : a.length ≤ 1048576) : Tr Try.prog 8 [.slice a_a m_a c_a] (fun w L => Ro w L eIs [.slice a_a m_a c_a] a) [] (κ := Option Addr × Nat × Nat) (fun k => True) (fun k => .slice k.1 k.2.1 k.2.2) (fun k => [ow eIs [.slice k.1 k.2.1 k.2.2] a]) := by
 refine Tr.intro Try.func8 rfl (n := 22) rfl (by decide +kernel) bl (fr := [(0, .slice a_a m_a c_a)]) rfl fun w L hR => ?_
 have ha := hR
 obtain ⟨rfl, la⟩ := ha.slen
 refine Ew Z1 (Eas rfl rfl (Ev Z4 (Emv rfl rfl (Ey rfl ((Y.len us_Is rfl).yd) (Est rfl (N.make (m := a.length) us_Is c6 rfl rfl rfl mx om dc) (fun b7 _ => (Ent.mkow (A := [_]) (Own.made (E := Enc.int) (e := tI) (zx := 0) (Own.int (by unfold I64; omega)) mx) rfl (Eas rfl rfl (Eu (Eq_ (Ew Z1 (Eas rfl rfl (Eu (E.block (E.loop (κ := Nat) (fun g => g ≤ a.length) (fun g => [(0, .slice a_a a.length c_a), (3, .slice (some ⟨b7, 0, none⟩) a.length a.length), (4, .int .i64 (g : Int))]) (fun g => [ow eIs [.slice (some ⟨b7, 0, none⟩) a.length a.length] (a.take g ++ List.replicate (a.length - g) 0)]) (fun g => a.length - g) 0 (Nat.zero_le _) ⟨rfl, rfl, rfl, trivial⟩ (by simp) (fun g pg => (Eq_ (Ew Z4 (Emv rfl rfl (Emv rfl rfl (Ey rfl ((Y.len us_Is rfl).yd) (Ey rfl ((Y.lss rfl rfl).yd) (Ent.d (fun q11 => ?_) (fun q11 => ?_))))))))))))))))))))))))
 ·refine Eu (E.ct rfl (E.skipc (Et (Eq_ (E.block (Ez Z8 (Emv rfl rfl (Emv rfl rfl (Emv rfl rfl (Emv rfl rfl ?_))))))))))
  obtain ⟨eb18, eo18, ea18, ei18, eh18⟩ := ha.elemI g om
  refine Ey rfl ((Y.ix us_Is c6 rfl ea18 rfl g rfl om).yd) (Ey rfl (Y.ld1 c6 rfl (eh18 _) rfl) (Ey rfl ((Y.ix us_Is c6 rfl rfl rfl g rfl om).yd) (Est rfl (N.set (E := Enc.int) (j := g) (ex := a[g]) (ce := [_]) c6 rfl rfl rfl rfl (Own.int ei18) rfl (Nat.zero_add _) rfl (by simp; omega)) (fun _ _ => (En (E.bln (Et (Ez Z3 (Emv rfl rfl (Ey rfl ((Y.add rfl rfl om om).yd) (Eas rfl rfl ?_)))))))))))
  exact Eu (E.again br (g + 1) rs (by rw [P9 om rfl]) om om)
 ·refine Eu (E.cf rfl (E.exit (E.the (E.the (E.blh (Et (Ew Z2 (Emv rfl rfl (Eas rfl rfl (Eu (E.ret (Ent.cv (congrArg (ow eIs [_]) (show _ = a by (have := pg; rw [show g = a.length from by omega]; simp))) ?_))))))))))))
  exact Fg rfl rfl (_, _, _) rfl rfl
theorem t7 {b : List Int} : Tr Try.prog 13 [.slice a_a m_a c_a, .slice a_b m_b c_b] (fun w L => Ro w L eIs [.slice a_a m_a c_a] a ∧ Ro w L eIs [.slice a_b m_b c_b] b) [] (κ := Unit) (fun k => True) (fun k => .bool (decide (a = b))) (fun k => []) := by
 refine Tr.intro Try.func13 rfl (n := 26) rfl (by decide +kernel) bl (fr := [(0, .slice a_a m_a c_a), (1, .slice a_b m_b c_b)]) rfl fun w L hR => ?_
 obtain ⟨ha, hb⟩ := hR
 obtain ⟨rfl, la⟩ := ha.slen
 obtain ⟨rfl, lb⟩ := hb.slen
 refine Ew Z1 (Eas rfl rfl (Eu (Eq_ (Ew Z5 (Emv rfl rfl (Ey rfl ((Y.len us_Is rfl).yd) (Emv rfl rfl (Ey rfl ((Y.len us_Is rfl).yd) (Ey rfl ((Y.neq rfl rfl).yd) (Ent.d (fun q10 => ?_) (fun q10 => ?_)))))))))))
 ·refine Eu (E.ct rfl (Ew Z1 (Eas rfl rfl ?_)))
  exact Eu (E.ret (E.thr (Fb rfl rfl (by exact N4 q10))))
 ·refine Eu (E.cf rfl (E.skipc (Et (Eq_ (Ew Z1 (Eas rfl rfl (Eu (E.block (E.loop (κ := Nat) (fun g => g ≤ a.length ∧ a.take g = b.take g) (fun g => [(0, .slice a_a a.length c_a), (1, .slice a_b b.length c_b), (5, .int .i64 (g : Int))]) (fun g => []) (fun g => a.length - g) 0 ⟨by omega, by simp⟩ ⟨rfl, rfl, rfl, trivial⟩ (.refl _) (fun g pg => ?_))))))))))
  obtain ⟨pk, pa⟩ := pg
  refine Eq_ (Ew Z4 (Emv rfl rfl (Emv rfl rfl (Ey rfl ((Y.len us_Is rfl).yd) (Ey rfl ((Y.lss rfl rfl).yd) (Ent.d (fun q14 => ?_) (fun q14 => ?_)))))))
  ·refine Eu (E.ct rfl (E.skipc (Et (Eq_ (E.block (Eq_ (D.region (fun j => true) n0 (Dyp 0 rfl (Y.mv rfl) (Dyp 1 rfl (Y.mv rfl) ?_)))))))))
   obtain ⟨eb19, eo19, ea19, ei19, eh19⟩ := ha.elemI g om
   refine Dyp 2 rfl (Y.ix us_Is c6 rfl ea19 rfl g rfl om) (Dy 3 rfl (Y.ld1 c6 rfl (eh19 _) rfl) (Dyp 4 rfl (Y.mv rfl) (Dyp 5 rfl (Y.mv rfl) ?_)))
   obtain ⟨eb23, eo23, ea23, ei23, eh23⟩ := hb.elemI g om
   refine Dyp 6 rfl (Y.ix us_Is c6 rfl ea23 rfl g rfl om) (Dy 7 rfl (Y.ld1 c6 rfl (eh23 _) rfl) (Dyp 8 rfl (Y.neq rfl rfl) (Ent.d (fun q25 => ?_) (fun q25 => ?_))))
   ·refine D.done kr (Et (E.ct rfl (Ew Z1 (Eas rfl rfl ?_))))
    exact Eu (E.ret (E.blr (E.thr (E.thr (E.blr (E.thr (Fb rfl rfl (by exact M7 (show g < a.length by omega) (show g < b.length by omega) q25))))))))
   ·refine D.done kr (Et (E.cf rfl (E.skipc (E.bln (Et (Ez Z3 (Emv rfl rfl (Ey rfl ((Y.add rfl rfl om om).yd) (Eas rfl rfl ?_)))))))))
    exact Eu (E.again br (g + 1) rs (.refl _) ⟨by omega, H4 om om pa om⟩ om)
  ·refine Eu (E.cf rfl (E.exit (E.the (E.the (E.blh (Et (Ew Z1 (Eas rfl rfl ?_))))))))
   exact Eu (E.ret (Fb rfl rfl (by exact K7 (show a.length ≤ g by omega) (show b.length ≤ g by omega) pa)))
theorem X6 : Tr Try.prog 22 [.agg #[.int .i64 z7, .int .i64 H7, .slice B4 B2 B3], .int .i64 left] (fun w L => I64 z7 ∧ I64 H7 ∧ Ro w L eIs [.slice B4 B2 B3] G1 ∧ 0 ≤ left ∧ left ≤ 1048576) [] (κ := Unit) (fun k => True) (fun k => .int .i64 (szR (G1.length) left)) (fun k => []) := by
 refine Tr.intro Try.func22 rfl (n := 12) rfl (by decide +kernel) bl (fr := [(0, .agg #[.int .i64 z7, .int .i64 H7, .slice B4 B2 B3]), (1, .int .i64 left)]) rfl fun w L hR => ?_
 obtain ⟨a0w, a1r, F1, as0, as1⟩ := hR
 obtain ⟨rfl, a1s⟩ := F1.slen
 refine Ew Z2 (Est rfl (N.box (cs := [_, _, _]) rfl dc rfl) (fun b2 _ => (Eas rfl rfl (Ev Z5 (Ey rfl ((Y.fld fo_lRule_2 ty_Is dc rfl).yd) (Ey rfl (Y.ld1 ty_Is rfl ((Has.pt m0).sub (cs' := [_]) 2 rfl) rfl) (Emv rfl rfl (Est rfl (N.call0 L6 rfl rfl rfl dc (fun w Lp hA => ⟨hA.ro F1, (by first | assumption | omega), (by first | assumption | omega)⟩)) (fun _ _ => (Eas rfl rfl (Eu (Eq_ (Ew Z2 (Emv rfl rfl (Ey rfl ((Y.lss rfl rfl).yd) (Ent.d (fun q10 => ?_) (fun q10 => ?_)))))))))))))))))
 ·have z10 := E4 q10 om
  refine Eu (E.ct rfl (Ew Z1 (Eas rfl rfl ?_)))
  exact Eu (E.ret (E.thr (Fg rfl rfl () (congrArg (Value.int .i64) (by unfold szR; split <;> omega)) rfl)))
 ·obtain ⟨z10, y10⟩ := G9 q10 om
  refine Eu (E.cf rfl (E.skipc (Et (Ew Z2 (Emv rfl rfl (Eas rfl rfl ?_))))))
  exact Eu (E.ret (Fg rfl rfl () (congrArg (Value.int .i64) (by have e : szR (G1.length) left = left - ((G1.length : Nat) : Int) := by { unfold szR; split <;> omega }; omega)) rfl))
theorem X4 (h2 : G1.length ≤ 1048576) : Tr Try.prog 27 [.agg #[.int .i64 z7, .int .i64 H7, .slice B4 B2 B3]] (fun w L => I64 z7 ∧ I64 H7 ∧ Ro w L eIs [.slice B4 B2 B3] G1) [] (κ := Option Addr × Nat × Nat) (fun k => True) (fun k => .agg #[.int .i64 z7, .int .i64 H7, .slice k.1 k.2.1 k.2.2]) (fun k => [ow eIs [.slice k.1 k.2.1 k.2.2] G1]) := by
 refine Tr.intro Try.func27 rfl (n := 15) rfl (by decide +kernel) bl (fr := [(0, .agg #[.int .i64 z7, .int .i64 H7, .slice B4 B2 B3])]) rfl fun w L hR => ?_
 obtain ⟨a0w, a1r, F1⟩ := hR
 obtain ⟨rfl, a1s⟩ := F1.slen
 refine Ew Z2 (Est rfl (N.box (cs := [_, _, _]) rfl dc rfl) (fun b1 _ => (Est rfl (N.alloc ty_Rule dc) (fun b2 _ => (Ev Z1 (Est rfl (N.alloc ty_Rule dc) (fun b3 _ => (Ev Z4 (Ey rfl ((Y.fld fo_lRule_0 c6 dc rfl).yd) (Ey rfl (Y.ld1 c6 rfl ((Has.pt (mS (mS m0))).sub (cs' := [_]) 0 rfl) rfl) (Ey rfl ((Y.fld fo_Rule_0 c6 dc rfl).yd) (Est rfl (N.sto (vs := [_]) (cs' := [_, _, _]) c6 rfl rfl rfl rfl rfl bl rfl) (fun _ _ => (Ev Z4 (Ey rfl ((Y.fld fo_lRule_1 c6 dc rfl).yd) (Ey rfl (Y.ld1 c6 rfl ((Has.pt (mS (mS m0))).sub (cs' := [_]) 1 rfl) rfl) (Ey rfl ((Y.fld fo_Rule_1 c6 dc rfl).yd) (Est rfl (N.sto (vs := [_]) (cs' := [_, _, _]) c6 rfl rfl rfl rfl rfl bl rfl) (fun _ _ => (Ev Z5 (Ey rfl ((Y.fld fo_lRule_2 ty_Is dc rfl).yd) (Ey rfl (Y.ld1 ty_Is rfl ((Has.pt (mS (mS m0))).sub (cs' := [_]) 2 rfl) rfl) (Est rfl (N.call (t6 fc) rfl rfl rfl dc rfl (fun w Lp hA => hA.ro F1)) (fun k12 _ => ?_))))))))))))))))))))))))
 obtain ⟨a12, m12, c12⟩ := k12
 refine Ent.lenow m0 fun e12 l12 => ?_
 subst e12
 refine Ey rfl ((Y.fld fo_Rule_2 ty_Is dc rfl).yd) (Ent.p1 (Est rfl (N.sto (vs := [_]) (cs' := [_, _, _]) ty_Is rfl rfl rfl rfl rfl bl rfl) (fun _ _ => (Ev Z2 (Ey rfl (Y.ldS (cs := [_, _, _]) ty_Rule rfl (Has.pt m0) rfl) (Ent.p2 (Est rfl (N.sto (vs := [_, _, _]) (cs' := [_, _, _]) ty_Rule rfl rfl rfl rfl rfl bl rfl) (fun _ _ => (Eu (E.ret (Ent.p2 ?_)))))))))))
 exact F.c1 br rfl rfl (mS m0) ty_Rule rfl (_, _, _) trivial rfl (J := _) (.refl _) (.inl rfl)
theorem X5 {S8 : Int} {a1a : Int} {V4 : Option Addr} {V5 V6 : Nat} {a2j : List Int} : Tr Try.prog 30 [.agg #[.int .i64 z7, .int .i64 H7, .slice B4 B2 B3], .agg #[.int .i64 S8, .int .i64 a1a, .slice V4 V5 V6]] (fun w L => I64 z7 ∧ I64 H7 ∧ Ro w L eIs [.slice B4 B2 B3] G1 ∧ I64 S8 ∧ I64 a1a ∧ Ro w L eIs [.slice V4 V5 V6] a2j) [] (κ := Unit) (fun k => True) (fun k => .bool (decide ((z7, H7, G1) = (S8, a1a, a2j)))) (fun k => []) := by
 refine Tr.intro Try.func30 rfl (n := 21) rfl (by decide +kernel) bl (fr := [(0, .agg #[.int .i64 z7, .int .i64 H7, .slice B4 B2 B3]), (1, .agg #[.int .i64 S8, .int .i64 a1a, .slice V4 V5 V6])]) rfl fun w L hR => ?_
 obtain ⟨a0w, a1r, F1, a4g, a4r, a1t⟩ := hR
 obtain ⟨rfl, a1s⟩ := F1.slen
 obtain ⟨rfl, a4s⟩ := a1t.slen
 refine Ew Z3 (Est rfl (N.box (cs := [_, _, _]) rfl dc rfl) (fun b2 _ => (Est rfl (N.box (cs := [_, _, _]) rfl dc rfl) (fun b3 _ => (Eas rfl rfl (Eu (Eq_ (Ew Z5 (Ey rfl ((Y.fld fo_Rule_0 c6 dc rfl).yd) (Ey rfl (Y.ld1 c6 rfl ((Has.pt (mS m0)).sub (cs' := [_]) 0 rfl) rfl) (Ey rfl ((Y.fld fo_Rule_0 c6 dc rfl).yd) (Ey rfl (Y.ld1 c6 rfl ((Has.pt m0).sub (cs' := [_]) 0 rfl) rfl) (Ey rfl ((Y.neq rfl rfl).yd) (Ent.d (fun q9 => ?_) (fun q9 => ?_)))))))))))))))
 ·refine Eu (E.ct rfl (Ew Z1 (Eas rfl rfl ?_)))
  exact Eu (E.ret (E.thr (Fb rfl rfl (by simp_all))))
 ·refine Eu (E.cf rfl (E.skipc (Et (Eq_ (Ew Z5 (Ey rfl ((Y.fld fo_Rule_1 c6 dc rfl).yd) (Ey rfl (Y.ld1 c6 rfl ((Has.pt (mS m0)).sub (cs' := [_]) 1 rfl) rfl) (Ey rfl ((Y.fld fo_Rule_1 c6 dc rfl).yd) (Ey rfl (Y.ld1 c6 rfl ((Has.pt m0).sub (cs' := [_]) 1 rfl) rfl) (Ey rfl ((Y.neq rfl rfl).yd) (Ent.d (fun q14 => ?_) (fun q14 => ?_))))))))))))
  ·refine Eu (E.ct rfl (Ew Z1 (Eas rfl rfl ?_)))
   exact Eu (E.ret (E.thr (Fb rfl rfl (by simp_all))))
  ·refine Eu (E.cf rfl (E.skipc (Et (Eq_ (Ew Z6 (Ey rfl ((Y.fld fo_Rule_2 ty_Is dc rfl).yd) (Ey rfl (Y.ld1 ty_Is rfl ((Has.pt (mS m0)).sub (cs' := [_]) 2 rfl) rfl) (Ey rfl ((Y.fld fo_Rule_2 ty_Is dc rfl).yd) (Ey rfl (Y.ld1 ty_Is rfl ((Has.pt m0).sub (cs' := [_]) 2 rfl) rfl) (Est rfl (N.call0 t7 rfl rfl rfl dc (fun w Lp hA => ⟨hA.ro F1, hA.ro a1t⟩)) (fun _ _ => (Ent.b (fun q19 => ?_) (fun q19 => ?_)))))))))))))
   ·refine Ey rfl ((Y.not (b := true) rfl).yd) (Eu (E.cf rfl (E.skipc (Et (Ew Z1 (Eas rfl rfl ?_))))))
    exact Eu (E.ret (Fb rfl rfl (by simp_all)))
   ·refine Ey rfl ((Y.not (b := false) rfl).yd) (Eu (E.ct rfl (Ew Z1 (Eas rfl rfl ?_))))
    exact Eu (E.ret (E.thr (Fb rfl rfl (by simp_all))))
theorem T2 {a : List (Int × Int × List Int)} : Tr Try.prog 4 [.slice a_a m_a c_a, .int .i64 left] (fun w L => Ro w L l5 [.slice a_a m_a c_a] a ∧ 0 ≤ left ∧ left ≤ 1048576) [] (κ := Unit) (fun k => True) (fun k => .int .i64 (szR (x4 (fun x => x.2.2.length) a) left)) (fun k => []) := by
 refine Tr.intro Try.func4 rfl (n := 27) rfl (by decide +kernel) bl (fr := [(0, .slice a_a m_a c_a), (1, .int .i64 left)]) rfl fun w L hR => ?_
 obtain ⟨ha, as0, as1⟩ := hR
 obtain ⟨rfl, la⟩ := ha.slen
 refine Ew Z1 (Eas rfl rfl (Ev Z5 (Emv rfl rfl (Emv rfl rfl (Ey rfl ((Y.len us_lRules rfl).yd) (Ey rfl ((Y.sub rfl rfl om om).yd) (Eas rfl rfl (Eu (Eq_ (Ew Z2 (Emv rfl rfl (Ey rfl ((Y.lss rfl rfl).yd) (Ent.d (fun q11 => ?_) (fun q11 => ?_))))))))))))))
 ·refine Eu (E.ct rfl (Ew Z1 (Eas rfl rfl ?_)))
  exact Eu (E.ret (E.thr (Fg rfl rfl () (congrArg (Value.int .i64) (by exact a0G q11)) rfl)))
 ·refine Eu (E.cf rfl (E.skipc (Et (Eq_ (Ew Z1 (Eas rfl rfl (Eu (E.block (E.loop (κ := Nat) (fun g => g ≤ a.length ∧ (a.length : Int) + (c7 (fun x => x.2.2.length) (a.take g) : Nat) ≤ left) (fun g => [(0, .slice a_a a.length c_a), (1, .int .i64 (left - ((a.length : Int) + (c7 (fun x => x.2.2.length) (a.take g) : Nat)))), (5, .int .i64 (g : Int))]) (fun g => []) (fun g => a.length - g) 0 ⟨by omega, by simp [c7]; omega⟩ ⟨rfl, frI (by simp [c7]), rfl, trivial⟩ (.refl _) (fun g pg => ?_))))))))))
  obtain ⟨pk, pa⟩ := pg
  refine Eq_ (Ew Z4 (Emv rfl rfl (Emv rfl rfl (Ey rfl ((Y.len us_lRules rfl).yd) (Ey rfl ((Y.lss rfl rfl).yd) (Ent.d (fun q15 => ?_) (fun q15 => ?_)))))))
  ·refine Eu (E.ct rfl (E.skipc (Et (Eq_ (E.block (Ew Z7 (Emv rfl rfl (Emv rfl rfl ?_))))))))
   obtain ⟨eb20, eo20, ec20, ea20, er20, el20, eh20⟩ := ha.elem g om
   obtain ⟨xa20_0, xc20_0, rfl, ei20_0, ei20_1, xh20_0⟩ := Ro.pRule er20
   have := xh20_0.slen.2
   refine Ey rfl ((Y.ix us_lRules ty_lRule rfl ea20 rfl g rfl om).yd) (Ey rfl (Y.ldS (cs := [_, _, _]) ty_lRule rfl (eh20 _) rfl) (Emv rfl rfl (Est rfl (N.call0 X6 rfl rfl rfl dc (fun w Lp hA => ⟨ei20_0, ei20_1, hA.ro xh20_0, (by first | assumption | omega), (by first | assumption | omega)⟩)) (fun _ _ => (Eas rfl rfl (Ev Z2 (Emv rfl rfl (Ey rfl ((Y.lss rfl rfl).yd) (Ent.d (fun q25 => ?_) (fun q25 => ?_))))))))))
   ·have z25 := E4 q25 om
    refine Eu (E.ct rfl (Ew Z1 (Eas rfl rfl ?_)))
    exact Eu (E.ret (E.blr (E.thr (E.thr (E.blr (E.thr (Fg rfl rfl () (congrArg (Value.int .i64) (by exact a0A (t := (fun x => x.2.2.length)) (n := a[g].2.2.length) (show g < a.length by omega) rfl om)) rfl)))))))
   ·obtain ⟨z25, y25⟩ := G9 q25 om
    refine Eu (E.cf rfl (E.skipc (E.bln (Et (Ez Z3 (Emv rfl rfl (Ey rfl ((Y.add rfl rfl om om).yd) (Eas rfl rfl ?_))))))))
    exact Eu (E.again br (g + 1) ⟨rfl, frI (by rw [z25]; have y := s8 (t := (fun x => x.2.2.length)) (show g < a.length by omega); omega), rfl, trivial⟩ (.refl _) ⟨by omega, by have y := s8 (t := (fun x => x.2.2.length)) (show g < a.length by omega); omega⟩ om)
  ·refine Eu (E.cf rfl (E.exit (E.the (E.the (E.blh (Et (Ew Z2 (Emv rfl rfl (Eas rfl rfl ?_)))))))))
   exact Eu (E.ret (Fg rfl rfl () (congrArg (Value.int .i64) (by exact a0F (t := (fun x => x.2.2.length)) (show a.length ≤ g by omega) pa)) rfl))
theorem B0 {a : List (Int × Int × List Int)} (hz : x4 (fun x => x.2.2.length) a ≤ 1048576) : Tr Try.prog 9 [.slice a_a m_a c_a] (fun w L => Ro w L l5 [.slice a_a m_a c_a] a) [] (κ := Option Addr × Nat × Nat) (fun k => True) (fun k => .slice k.1 k.2.1 k.2.2) (fun k => [ow l5 [.slice k.1 k.2.1 k.2.2] a]) := by
 refine Tr.intro Try.func9 rfl (n := 23) rfl (by decide +kernel) bl (fr := [(0, .slice a_a m_a c_a)]) rfl fun w L hR => ?_
 have ha := hR
 obtain ⟨rfl, la⟩ := ha.slen
 have hlen : a.length ≤ x4 (fun x => x.2.2.length) a := by unfold x4; omega
 refine Ew Z1 (Eas rfl rfl (Ev Z4 (Emv rfl rfl (Ey rfl ((Y.len us_lRules rfl).yd) (Est rfl (N.make (m := a.length) us_Rules ty_Rule rfl rfl rfl mx om dc) (fun b7 _ => (Ent.mkow (A := [_]) (Own.made (E := C6) (e := tRule) (zx := (0, 0, [])) (Own.mkRule (x := (0, 0, [])) ⟨by decide, by decide⟩ ⟨by decide, by decide⟩ Own.nil) mx) rfl (Eas rfl rfl (Eu (Eq_ (Ew Z1 (Eas rfl rfl (Eu (E.block (E.loop (κ := Nat) (fun g => g ≤ a.length) (fun g => [(0, .slice a_a a.length c_a), (3, .slice (some ⟨b7, 0, none⟩) a.length a.length), (4, .int .i64 (g : Int))]) (fun g => [ow l5 [.slice (some ⟨b7, 0, none⟩) a.length a.length] (a.take g ++ List.replicate (a.length - g) (0, 0, []))]) (fun g => a.length - g) 0 (Nat.zero_le _) ⟨rfl, rfl, rfl, trivial⟩ (by simp) (fun g pg => (Eq_ (Ew Z4 (Emv rfl rfl (Emv rfl rfl (Ey rfl ((Y.len us_lRules rfl).yd) (Ey rfl ((Y.lss rfl rfl).yd) (Ent.d (fun q11 => ?_) (fun q11 => ?_))))))))))))))))))))))))
 ·refine Eu (E.ct rfl (E.skipc (Et (Eq_ (E.block (Ez Z9 (Emv rfl rfl (Emv rfl rfl (Emv rfl rfl (Emv rfl rfl ?_))))))))))
  obtain ⟨eb18, eo18, ec18, ea18, er18, el18, eh18⟩ := ha.elem g om
  obtain ⟨xa18_0, xc18_0, rfl, ei18_0, ei18_1, xh18_0⟩ := Ro.pRule er18
  have := xh18_0.slen.2
  refine Ey rfl ((Y.ix us_lRules ty_lRule rfl ea18 rfl g rfl om).yd) (Ey rfl (Y.ldS (cs := [_, _, _]) ty_lRule rfl (eh18 _) rfl) (Est rfl (N.call (X4 (by have y := a0v (t := (fun x => x.2.2.length)) (l := a) (g := g) om; omega)) rfl rfl rfl dc rfl (fun w Lp hA => ⟨ei18_0, ei18_1, hA.ro xh18_0⟩)) (fun k20 _ => ?_)))
  obtain ⟨a20, m20, c20⟩ := k20
  refine Ent.lenow m0 fun e20 l20 => ?_
  subst e20
  refine Ey rfl ((Y.ix us_Rules ty_Rule rfl rfl rfl g rfl om).yd) (Ent.p1 (Est rfl (N.set (E := C6) (j := g) (ex := a[g]) (ce := [_, _, _]) ty_Rule rfl rfl rfl rfl (Own.mkRule (x := a[g]) ei18_0 ei18_1 Own.ow) rfl (Nat.zero_add _) rfl (by simp; omega)) (fun _ _ => (En (E.bln (Et (Ez Z3 (Emv rfl rfl (Ey rfl ((Y.add rfl rfl om om).yd) (Eas rfl rfl ?_))))))))))
  exact Eu (E.again br (g + 1) rs (by rw [P9 om rfl]) om om)
 ·refine Eu (E.cf rfl (E.exit (E.the (E.the (E.blh (Et (Ew Z2 (Emv rfl rfl (Eas rfl rfl (Eu (E.ret (Ent.cv (congrArg (ow l5 [_]) (show _ = a by exact M4 om)) ?_))))))))))))
  exact Fg rfl rfl (_, _, _) rfl rfl
theorem T3 {a : List (Int × Int × List Int)} {b : List (Int × Int × List Int)} : Tr Try.prog 14 [.slice a_a m_a c_a, .slice a_b m_b c_b] (fun w L => Ro w L l5 [.slice a_a m_a c_a] a ∧ Ro w L l5 [.slice a_b m_b c_b] b) [] (κ := Unit) (fun k => True) (fun k => .bool (decide (a = b))) (fun k => []) := by
 refine Tr.intro Try.func14 rfl (n := 27) rfl (by decide +kernel) bl (fr := [(0, .slice a_a m_a c_a), (1, .slice a_b m_b c_b)]) rfl fun w L hR => ?_
 obtain ⟨ha, hb⟩ := hR
 obtain ⟨rfl, la⟩ := ha.slen
 obtain ⟨rfl, lb⟩ := hb.slen
 refine Ew Z1 (Eas rfl rfl (Eu (Eq_ (Ew Z5 (Emv rfl rfl (Ey rfl ((Y.len us_Rules rfl).yd) (Emv rfl rfl (Ey rfl ((Y.len us_Rules rfl).yd) (Ey rfl ((Y.neq rfl rfl).yd) (Ent.d (fun q10 => ?_) (fun q10 => ?_)))))))))))
 ·refine Eu (E.ct rfl (Ew Z1 (Eas rfl rfl ?_)))
  exact Eu (E.ret (E.thr (Fb rfl rfl (by exact N4 q10))))
 ·refine Eu (E.cf rfl (E.skipc (Et (Eq_ (Ew Z1 (Eas rfl rfl (Eu (E.block (E.loop (κ := Nat) (fun g => g ≤ a.length ∧ a.take g = b.take g) (fun g => [(0, .slice a_a a.length c_a), (1, .slice a_b b.length c_b), (5, .int .i64 (g : Int))]) (fun g => []) (fun g => a.length - g) 0 ⟨by omega, by simp⟩ ⟨rfl, rfl, rfl, trivial⟩ (.refl _) (fun g pg => ?_))))))))))
  obtain ⟨pk, pa⟩ := pg
  refine Eq_ (Ew Z4 (Emv rfl rfl (Emv rfl rfl (Ey rfl ((Y.len us_Rules rfl).yd) (Ey rfl ((Y.lss rfl rfl).yd) (Ent.d (fun q14 => ?_) (fun q14 => ?_)))))))
  ·refine Eu (E.ct rfl (E.skipc (Et (Eq_ (E.block (Eq_ (D.region (fun j => true) n0 (Dyp 0 rfl (Y.mv rfl) (Dyp 1 rfl (Y.mv rfl) ?_)))))))))
   obtain ⟨eb19, eo19, ec19, ea19, er19, el19, eh19⟩ := ha.elem g om
   obtain ⟨xa19_0, xc19_0, rfl, ei19_0, ei19_1, xh19_0⟩ := Ro.pRule er19
   have := xh19_0.slen.2
   refine Dyp 2 rfl (Y.ix us_Rules ty_Rule rfl ea19 rfl g rfl om) (Dy 3 rfl (Y.ldS (cs := [_, _, _]) ty_Rule rfl (eh19 _) rfl) (Dyp 4 rfl (Y.mv rfl) (Dyp 5 rfl (Y.mv rfl) ?_)))
   obtain ⟨eb23, eo23, ec23, ea23, er23, el23, eh23⟩ := hb.elem g om
   obtain ⟨xa23_0, xc23_0, rfl, ei23_0, ei23_1, xh23_0⟩ := Ro.pRule er23
   have := xh23_0.slen.2
   refine Dyp 6 rfl (Y.ix us_Rules ty_Rule rfl ea23 rfl g rfl om) (Dy 7 rfl (Y.ldS (cs := [_, _, _]) ty_Rule rfl (eh23 _) rfl) (D.st 8 rfl rfl kr (fun _ => rfl) (N.call0 X5 rfl rfl rfl dc (fun w Lp hA => ⟨ei19_0, ei19_1, hA.ro xh19_0, ei23_0, ei23_1, hA.ro xh23_0⟩)) (fun _ _ => (Ent.b (fun q25 => ?_) (fun q25 => ?_)))))
   ·refine Dyp 9 rfl (Y.not (b := true) rfl) (D.done kr (Et (E.cf rfl (E.skipc (E.bln (Et (Ez Z3 (Emv rfl rfl (Ey rfl ((Y.add rfl rfl om om).yd) (Eas rfl rfl ?_))))))))))
    exact Eu (E.again br (g + 1) rs (.refl _) ⟨by omega, H4 om om pa (of_decide_eq_true q25)⟩ om)
   ·refine Dyp 9 rfl (Y.not (b := false) rfl) (D.done kr (Et (E.ct rfl (Ew Z1 (Eas rfl rfl ?_)))))
    exact Eu (E.ret (E.blr (E.thr (E.thr (E.blr (E.thr (Fb rfl rfl (by exact M7 (show g < a.length by omega) (show g < b.length by omega) (of_decide_eq_false q25)))))))))
  ·refine Eu (E.cf rfl (E.exit (E.the (E.the (E.blh (Et (Ew Z1 (Eas rfl rfl ?_))))))))
   exact Eu (E.ret (Fb rfl rfl (by exact K7 (show a.length ≤ g by omega) (show b.length ≤ g by omega) pa)))
end Go.Proofs.Ytdopeopehgdccaa
