import Derived.Test.YtfnbilpemdgkkaaGreatDoorT17
import Derived.Test.YtfnbilpemdgkkaaGreatDoorT20
import Derived.Test.YtfnbilpemdgkkaaGreatDoorT11
import Derived.Test.YtfnbilpemdgkkaaGreatDoorT13
import Derived.Test.YtfnbilpemdgkkaaGreatDoorDy
namespace Go.Proofs.YtfnbilpemdgkkaaGreatDoor
open Go.RowKit
set_option linter.all false
set_option maxHeartbeats 2000000
attribute [local irreducible] Nop Yd Yp Ent Has Tr FnP FnP2 Src J8 P6 S7 U6 E7
variable {f_g : FuncId} {f4 c7 : List (Int × List Int)} {s l : List (List Int)} {x t i7 : List Int} {f_c : List Value} {m_s c_s m_x c_x b_t m_t c_t m_l c_l s9 o2 r6 l7 m_facts c_facts : Nat} {a_s a_x a_t a_l o3 m7 a_facts : Option Addr}
theorem a0v {D_f : (List Int) → Prop} {f : (List Int) → Bool} (hD_f : ∀ x ∈ s, D_f x) : Tr Tryz.prog 138 [.slice a_s m_s c_s, .func (.func f_g) #[] f_c.toArray] (fun w L => Ro w L B2 [.slice a_s m_s c_s] s ∧ FnP Tryz.prog w L f_g f_c eIs a0L D_f f) [] (κ := Unit) (fun k => True) (fun k => .int .i64 (D5 f s)) (fun k => []) := by
 refine Tr.intro Tryz.func138 rfl (n := 19) rfl (by decide +kernel) bl (fr := [(0, .slice a_s m_s c_s), (1, .func (.func f_g) #[] f_c.toArray)]) rfl fun w L hR => ?_
 obtain ⟨hs, hf⟩ := hR
 obtain ⟨rfl, ls⟩ := hs.slen
 refine Ew Z1 (Ei rfl (Eu (Eq_ (Ew Z3 (Em rfl (Ey rfl ((Y.len us_Iss rfl).yd) (Em rfl (Eu (E.block (E.loop (κ := Nat) (fun g => g ≤ s.length ∧ ∀ x ∈ s.take g, f x = false) (fun g => [(0, .slice a_s s.length c_s), (1, .func (.func f_g) #[] f_c.toArray), (7, .int .i64 (↑s.length : Int)), (8, .int .i64 (g : Int))]) (fun g => []) (fun g => s.length - g) 0 ⟨by omega, by simp⟩ ⟨rfl, rfl, rfl, rfl, trivial⟩ (.refl _) (fun g pg => ?_)))))))))))
 obtain ⟨pk, pa⟩ := pg
 refine Ew Z1 (Ey rfl ((Y.lss rfl rfl).yd) (j4 (fun q9 => ?_) (fun q9 => ?_)))
 ·refine Eu (Eq_ (j9 rfl (f5 (Et (Eq_ (E.block (Ew Z2 (Em rfl (Ei rfl (Ev Z6 (Em rfl (Em rfl (Em rfl ?_)))))))))))))
  obtain ⟨eb14, eo14, ec14, ea14, er14, el14, eh14⟩ := hs.elem g om
  obtain ⟨xa14, xc14, rfl⟩ := er14.sl
  have := er14.slen.2
  refine Ey rfl ((o6 us_Iss ty_Is rfl ea14 rfl g rfl om).yd) (Ey rfl (f6 ty_Is rfl (eh14 _) rfl) (Est rfl (N.fn (cs := [_]) hf rfl rfl rfl dc (fun w Lp hA => (hA.ro er14)) (hD_f _ (List.getElem_mem om))) (fun _ _ => (u5 (fun q16 => ?_) (fun q16 => ?_)))))
  ·refine Eu (j9 rfl (Ew Z2 (Em rfl (Ei rfl ?_))))
   exact Eu (E.ret (w9 (j5 (j5 (w9 (j5 (Fg rfl rfl () (congrArg (Value.int .i64) (by first | exact Q0 om pa q16 | exact O4 om pa)) rfl)))))))
  ·refine Eu (j8 rfl (f5 (n9 (Et (Ez Z2 (Ey rfl ((Y.add rfl rfl om om).yd) (Em rfl ?_)))))))
   exact Eu (t8 br (g + 1) rs (.refl _) ⟨by omega, P9 om pa q16⟩ om)
 ·refine Eu (Eq_ (j8 rfl (E.exit (l2 (l2 (w8 (Et (Ew Z1 (Ei rfl ?_)))))))))
  exact Eu (E.ret (Fg rfl rfl () (congrArg (Value.int .i64) (by first | exact Q0 om pa q16 | exact O4 om pa)) rfl))
theorem a1Q {D_f : (List Int) → Prop} {f : (List Int) → Bool} (hD_f : ∀ x ∈ s, D_f x) : Tr Tryz.prog 172 [.slice a_s m_s c_s, .func (.func f_g) #[] f_c.toArray] (fun w L => Ro w L B2 [.slice a_s m_s c_s] s ∧ FnP Tryz.prog w L f_g f_c eIs a0L D_f f) [] (κ := Unit) (fun k => True) (fun k => .bool (s.any f)) (fun k => []) := by
 refine Tr.intro Tryz.func172 rfl (n := 9) rfl (by decide +kernel) bl (fr := [(0, .slice a_s m_s c_s), (1, .func (.func f_g) #[] f_c.toArray)]) rfl fun w L hR => ?_
 obtain ⟨hs, hf⟩ := hR
 obtain ⟨rfl, ls⟩ := hs.slen
 refine Ew Z1 (Ei rfl (Ev Z5 (Em rfl (Em rfl (Est rfl (i8 (a0v (f := f) (D_f := D_f) hD_f) rfl rfl rfl dc (fun w Lp hA => ⟨hA.ro hs, hA.fn hf⟩)) (fun _ _ => (Ey rfl ((Y.geq rfl rfl).yd) (Ei rfl ?_))))))))
 exact Eu (E.ret (Fb rfl rfl (by exact V9)))
theorem a1O : Tr Tryz.prog 173 [.slice a_x m_x c_x, .pointer (some ⟨b_t, 0, none⟩)] (fun w L => (Ro w L eIs [.slice a_x m_x c_x] x) ∧ RoPt w L b_t [.slice a_t m_t c_t] ∧ Ro w L eIs [.slice a_t m_t c_t] t) [] (κ := Unit) (fun k => True) (fun k => .bool (decide (x = t))) (fun k => []) := by
 refine Tr.intro Tryz.func173 rfl (n := 7) rfl (by decide +kernel) bl (fr := [(0, .slice a_x m_x c_x), (1, .pointer (some ⟨b_t, 0, none⟩))]) rfl fun w L hR => ?_
 obtain ⟨hx, hb_t, ht⟩ := hR
 obtain ⟨rfl, lx⟩ := hx.slen
 obtain ⟨rfl, lt⟩ := ht.slen
 refine Ew Z1 (Ei rfl (Ev Z4 (Em rfl (Ey rfl (f6 ty_Is rfl (hb_t.has) rfl) (Est rfl (i8 M6 rfl rfl rfl dc (fun w Lp hA => ⟨hA.ro hx, hA.ro ht⟩)) (fun _ _ => (Ei rfl ?_)))))))
 exact Eu (E.ret (Fg rfl rfl () rfl rfl))
theorem a2P : Tr Tryz.prog 137 [.slice a_l m_l c_l, .slice a_t m_t c_t] (fun w L => Ro w L B2 [.slice a_l m_l c_l] l ∧ Ro w L eIs [.slice a_t m_t c_t] t) [] (κ := Unit) (fun k => True) (fun k => .bool (E8 l t)) (fun k => []) := by
 refine Tr.intro Tryz.func137 rfl (n := 8) rfl (by decide +kernel) bl (fr := [(0, .slice a_l m_l c_l), (1, .slice a_t m_t c_t)]) rfl fun w L hR => ?_
 obtain ⟨hl, ht⟩ := hR
 obtain ⟨rfl, ll⟩ := hl.slen
 obtain ⟨rfl, lt⟩ := ht.slen
 refine Ew Z2 (Est rfl (N.box (cs := [_]) rfl dc rfl) (fun b3 _ => (Ei rfl (Ev Z4 (Em rfl (Ey rfl ((Y.fn (vs := [_]) rfl).yd) (Est rfl (i8 (a1Q (f := (fun x => decide (x = t))) (D_f := (fun _ => True)) (by intros; exact trivial)) rfl rfl rfl dc (fun w Lp hA => ⟨hA.ro hl, a5t (D := (fun _ => True)) (fun hd => a1O) (fun w' hk => ⟨(hA.pt m0).keep hk, (hA.ro ht).keep hk⟩)⟩)) (fun _ _ => (Ei rfl ?_)))))))))
 exact Eu (E.ret (Fb rfl rfl (by grind [E8, d1, d2, t1, t2])))
theorem a1j : Tr Tryz.prog 139 [.slice a_x m_x c_x, .pointer (some ⟨b_t, 0, none⟩)] (fun w L => (Ro w L eIs [.slice a_x m_x c_x] x) ∧ RoPt w L b_t [.slice a_t m_t c_t] ∧ Ro w L eIs [.slice a_t m_t c_t] t) [] (κ := Unit) (fun k => True) (fun k => .bool (decide (0 < C3 x t))) (fun k => []) := by
 refine Tr.intro Tryz.func139 rfl (n := 8) rfl (by decide +kernel) bl (fr := [(0, .slice a_x m_x c_x), (1, .pointer (some ⟨b_t, 0, none⟩))]) rfl fun w L hR => ?_
 obtain ⟨hx, hb_t, ht⟩ := hR
 obtain ⟨rfl, lx⟩ := hx.slen
 obtain ⟨rfl, lt⟩ := ht.slen
 refine Ew Z1 (Ei rfl (Ev Z5 (Em rfl (Ey rfl (f6 ty_Is rfl (hb_t.has) rfl) (Est rfl (i8 Q8 rfl rfl rfl dc (fun w Lp hA => ⟨hA.ro hx, hA.ro ht⟩)) (fun _ _ => (Ey rfl ((Y.gtr rfl rfl).yd) (Ei rfl ?_))))))))
 exact Eu (E.ret (Fg rfl rfl () rfl rfl))
theorem X3 (hz : l.length ≤ 1000000000000) (ht : t.length ≤ 1048576) : Tr Tryz.prog 84 [.slice a_l m_l c_l, .slice a_t m_t c_t] (fun w L => Ro w L eIs [.slice a_t m_t c_t] t) [ow B2 [.slice a_l m_l c_l] l] (κ := Option Addr × Nat × Nat) (fun k => True) (fun k => .slice k.1 k.2.1 k.2.2) (fun k => [ow B2 [.slice k.1 k.2.1 k.2.2] (D1 l t)]) := by
 refine Tr.intro Tryz.func84 rfl (n := 23) rfl (by decide +kernel) bl (fr := [(0, .slice a_l m_l c_l), (1, .slice a_t m_t c_t)]) rfl fun w L hR => ?_
 have ht := hR
 obtain ⟨rfl, lt⟩ := ht.slen
 refine f0 m0 fun el ll => ?_
 subst el
 refine Ew Z2 (Est rfl (N.box (cs := [_]) rfl dc rfl) (fun b3 _ => (Ei rfl (Eu (Eq_ (Ew Z3 (Em rfl (Ey rfl (f6 ty_Is rfl (Has.pt m0) rfl) (Est rfl (i8 a2P rfl rfl rfl dc (fun w Lp hA => ⟨hA.ow (mS m0), hA.ro ht⟩)) (fun _ _ => (u5 (fun q8 => ?_) (fun q8 => ?_))))))))))))
 ·refine Eu (j9 rfl (Ew Z2 (Em rfl (Ei rfl (Eu (E.ret (j5 (d7 (i9 (congrArg (ow B2 [_]) (show _ = D1 l t by grind [a2g, a2p])) ?_)))))))))
  exact Fg rfl rfl (_, _, _) rfl rfl
 ·refine Eu (j8 rfl (f5 (Et (Ew Z4 (Em rfl (Ey rfl ((Y.fn (vs := [_]) rfl).yd) ?_))))))
  have ji := a3W (p := fun z => decide (0 < C3 z t)) (s := l)
  refine Est rfl (i8 (a0v (f := (fun x => decide (0 < C3 x t))) (D_f := (fun _ => True)) (by intros; exact trivial)) rfl rfl rfl dc (fun w Lp hA => ⟨hA.ow (mS m0), a5t (D := (fun _ => True)) (fun hd => a1j) (fun w' hk => ⟨(hA.pt m0).keep hk, (hA.ro ht).keep hk⟩)⟩)) (fun _ _ => (Ei rfl (Eu (Eq_ (Ew Z2 (Em rfl (Ey rfl ((Y.lss rfl rfl).yd) (j4 (fun q14 => ?_) (fun q14 => ?_)))))))))
  ·refine Eu (j9 rfl (Ez Z3 (Em rfl (Ey rfl ((Y.len us_Iss rfl).yd) (Ei rfl (Ev Z7 (Em rfl (Em rfl (Ey rfl (f6 ty_Is rfl (Has.pt m0) rfl) (Est rfl (N.call (V1 fc) rfl rfl rfl dc rfl (fun w Lp hA => hA.ro ht)) (fun k20 _ => ?_)))))))))))
   obtain ⟨a20, m20, c20⟩ := k20
   refine f0 m0 fun e20 l20 => ?_
   subst e20
   refine Est rfl (Nb [_] [_] us_Iss ty_Is rfl rfl) (fun b21 _ => (d7 (d7 (l3 (A := _ :: _) (S8 (E := eIs) (e := tIs) Own.ow) rfl (g9 (Est rfl (N.call (pre := [_, _]) (a1U om (by simp) (by simp; omega)) rfl rfl rfl dc rfl tv) (fun k22 _ => ?_)))))))
   obtain ⟨a22, m22, c22⟩ := k22
   refine f0 m0 fun e22 l22 => ?_
   subst e22
   refine Ei rfl (Eu (E.ret (i9 (congrArg (ow B2 [_]) (show _ = D1 l t by grind [a2g, a2p])) ?_)))
   exact Fg rfl rfl (_, _, _) rfl rfl
  ·refine Eu (j8 rfl (f5 (Et (Ew Z7 (Em rfl (Em rfl (Ey rfl (f6 ty_Is rfl (Has.pt m0) rfl) (Est rfl (N.call (V1 fc) rfl rfl rfl dc rfl (fun w Lp hA => hA.ro ht)) (fun k20 _ => ?_)))))))))
   obtain ⟨a20, m20, c20⟩ := k20
   refine f0 m0 fun e20 l20 => ?_
   subst e20
   refine Est rfl (Nb [_] [_] us_Iss ty_Is rfl rfl) (fun b21 _ => (d7 (d7 (l3 (A := _ :: _) (S8 (E := eIs) (e := tIs) Own.ow) rfl (g9 (Est rfl (N.call (pre := [_, _]) (a1U om (by simp) (by simp; omega)) rfl rfl rfl dc rfl tv) (fun k22 _ => ?_)))))))
   obtain ⟨a22, m22, c22⟩ := k22
   refine f0 m0 fun e22 l22 => ?_
   subst e22
   refine Ei rfl (Eu (E.ret (i9 (congrArg (ow B2 [_]) (show _ = D1 l t by grind [a2g, a2p])) ?_)))
   exact Fg rfl rfl (_, _, _) rfl rfl
theorem a4h {a_a : Option Addr} {m_a c_a : Nat} {a : List Int} {a_b : Option Addr} {m_b c_b : Nat} {b : List Int} : Tr Tryz.prog 86 [.slice a_a m_a c_a, .slice a_b m_b c_b] (fun w L => Ro w L eIs [.slice a_a m_a c_a] a ∧ Ro w L eIs [.slice a_b m_b c_b] b) [] (κ := Unit) (fun k => True) (fun k => .bool (ltT a b)) (fun k => []) := by
 refine Tr.intro Tryz.func86 rfl (n := 41) rfl (by decide +kernel) bl (fr := [(0, .slice a_a m_a c_a), (1, .slice a_b m_b c_b)]) rfl fun w L hR => ?_
 obtain ⟨ha, hb⟩ := hR
 obtain ⟨rfl, la⟩ := ha.slen
 obtain ⟨rfl, lb⟩ := hb.slen
 refine Ew Z1 (Ei rfl (Eu (Eq_ (Ew Z1 (Ei rfl (Eu (E.block (E.loop (κ := Nat) (fun g => g ≤ a.length ∧ g ≤ b.length ∧ C3 a b = C3 (a.drop g) (b.drop g)) (fun g => [(0, .slice a_a a.length c_a), (1, .slice a_b b.length c_b), (5, .int .i64 (g : Int))]) (fun g => []) (fun g => a.length - g) 0 ⟨Nat.zero_le _, by simp⟩ ⟨rfl, rfl, rfl, trivial⟩ (.refl _) (fun g pg => ?_)))))))))
 obtain ⟨pk, pa⟩ := pg
 refine Eq_ (Ew Z10 (Em rfl (Em rfl (Ey rfl ((Y.len us_Is rfl).yd) (Ey rfl ((Y.lss rfl rfl).yd) (j4 (fun q9 => ?_) (fun q9 => ?_)))))))
 ·refine Em rfl (Em rfl (Em rfl (Ey rfl ((Y.len us_Is rfl).yd) (Ey rfl ((Y.lss rfl rfl).yd) (j4 (fun q14 => ?_) (fun q14 => ?_))))))
  ·refine Ey rfl ((v6 rfl rfl).yd) (Eu (j9 rfl (f5 (Et (Eq_ (E.block (Eq_ (D.region (fun j => true) mixed (Dyp 0 rfl (i0 rfl) (Dyp 1 rfl (i0 rfl) ?_))))))))))
   obtain ⟨eb20, eo20, ea20, ei20, eh20⟩ := ha.elemI g om
   refine Dyp 2 rfl (o6 us_Is d9 rfl ea20 rfl g rfl om) (Dy 3 rfl (f6 d9 rfl (eh20 _) rfl) (Dyp 4 rfl (i0 rfl) (Dyp 5 rfl (i0 rfl) ?_)))
   obtain ⟨eb24, eo24, ea24, ei24, eh24⟩ := hb.elemI g om
   refine Dyp 6 rfl (o6 us_Is d9 rfl ea24 rfl g rfl om) (Dy 7 rfl (f6 d9 rfl (eh24 _) rfl) (Dyp 8 rfl (Y.neq rfl rfl) (j4 (fun q26 => ?_) (fun q26 => ?_))))
   ·refine o0 kr (Et (j9 rfl (Eq_ (D.region (fun j => true) mixed (Dyp 0 rfl (i0 rfl) (Dyp 1 rfl (i0 rfl) (Dyp 2 rfl (o6 us_Is d9 rfl ea20 rfl g rfl om) (Dy 3 rfl (f6 d9 rfl (eh20 _) rfl) (Dyp 4 rfl (i0 rfl) (Dyp 5 rfl (i0 rfl) (Dyp 6 rfl (o6 us_Is d9 rfl ea24 rfl g rfl om) (Dy 7 rfl (f6 d9 rfl (eh24 _) rfl) (Dyp 8 rfl (Y.lss rfl rfl) (Dyp 9 rfl (D8 rfl) ?_))))))))))))))
    exact o0 kr (Et (E.ret (w9 (j5 (j5 (w9 (j5 (Fb rfl rfl (by grind [ltT, C3, G2, d1, d2, t1, t2])))))))))
   ·refine o0 kr (Et (j8 rfl (f5 (n9 (Et (Ez Z3 (Em rfl (Ey rfl ((Y.add rfl rfl om om).yd) (Ei rfl ?_)))))))))
    exact Eu (t8 br (g + 1) rs (.refl _) ⟨by omega, by grind [C3, G2, d1, d2, t1, t2]⟩ om)
  ·refine Ey rfl ((v6 rfl rfl).yd) (Eu (j8 rfl (E.exit (l2 (l2 (w8 (Et (Ew Z6 (Em rfl (Ey rfl ((Y.len us_Is rfl).yd) (Em rfl (Ey rfl ((Y.len us_Is rfl).yd) (Ey rfl ((Y.lss rfl rfl).yd) (Ei rfl ?_))))))))))))))
   exact Eu (E.ret (Fb rfl rfl (by grind [ltT, C3, G2, d1, d2, t1, t2])))
 ·refine Em rfl (Es rfl (Es rfl (Es rfl (Es rfl (Ey rfl ((w7 rfl rfl).yd) (Eu (j8 rfl (E.exit (l2 (l2 (w8 (Et (Ew Z6 (Em rfl (Ey rfl ((Y.len us_Is rfl).yd) (Em rfl (Ey rfl ((Y.len us_Is rfl).yd) (Ey rfl ((Y.lss rfl rfl).yd) (Ei rfl ?_)))))))))))))))))))
  exact Eu (E.ret (Fb rfl rfl (by grind [ltT, C3, G2, d1, d2, t1, t2])))
theorem U7 (hz : l.length ≤ 1000000000000) (hyl : ∀ x ∈ l, x.length ≤ 1048576) (ht : t.length ≤ 1048576) : Tr Tryz.prog 25 [.slice a_l m_l c_l, .slice a_t m_t c_t] (fun w L => Ro w L B2 [.slice a_l m_l c_l] l ∧ Ro w L eIs [.slice a_t m_t c_t] t) [] (κ := Option Addr × Nat × Nat) (fun k => True) (fun k => .slice k.1 k.2.1 k.2.2) (fun k => [ow B2 [.slice k.1 k.2.1 k.2.2] (D1 l t)]) := by
 refine Tr.intro Tryz.func25 rfl (n := 65) rfl (by decide +kernel) bl (fr := [(0, .slice a_l m_l c_l), (1, .slice a_t m_t c_t)]) rfl fun w L hR => ?_
 obtain ⟨hl, ht⟩ := hR
 obtain ⟨rfl, ll⟩ := hl.slen
 obtain ⟨rfl, lt⟩ := ht.slen
 refine Ew Z1 (Ei rfl (Ev Z2 (Est rfl (Nb [] [] us_Iss ty_Is rfl rfl) (fun b9 _ => (Ent.drop (Ei rfl (Ev Z1 (Ei rfl (Eu (Eq_ (Ew Z1 (Ei rfl (Eu (E.block (E.loop (κ := Nat) (fun g => g ≤ l.length ∧ True) (fun g => [(0, .slice a_l l.length c_l), (1, .slice a_t t.length c_t), (5, .slice (some ⟨b9, 0, none⟩) 0 0), (6, .bool ((l.take g).any fun x => decide (x = t))), (7, .int .i64 (g : Int))]) (fun g => []) (fun g => l.length - g) (0) ⟨Nat.zero_le _, by simp⟩ ⟨rfl, rfl, rfl, frB (by first | rfl | (simp; done) | grind [D1, y6, y7, B3, x6, E8, d1, d2, t1, t2]), rfl, trivial⟩ (.refl _) (fun g pg => ?_))))))))))))))))
 try dsimp only
 obtain ⟨pk, pa⟩ := pg
 refine Eq_ (Ew Z4 (Em rfl (Em rfl (Ey rfl ((Y.len us_Iss rfl).yd) (Ey rfl ((Y.lss rfl rfl).yd) (j4 (fun q13 => ?_) (fun q13 => ?_)))))))
 ·refine Eu (j9 rfl (f5 (Et (Eq_ (E.block (Ez Z10 (Em rfl (u5 (fun q16 => ?_) (fun q16 => ?_)))))))))
  ·refine Em rfl (Es rfl (Es rfl (Es rfl (Es rfl (Es rfl (Es rfl (Ey rfl ((v6 rfl rfl).yd) (Ei rfl (En (n9 (Et (Ez Z3 (Em rfl (Ey rfl ((Y.add rfl rfl om om).yd) (Ei rfl ?_)))))))))))))))
   exact Eu (t8 br (g + 1) ⟨rfl, rfl, rfl, frB (by grind [D1, y6, y7, B3, x6, E8, d1, d2, t1, t2]), rfl, trivial⟩ (.refl _) ⟨oz, trivial⟩ oz)
  ·refine Em rfl (Em rfl (Em rfl ?_))
   obtain ⟨eb20, eo20, ec20, ea20, er20, el20, eh20⟩ := hl.elem g om
   obtain ⟨xa20, xc20, rfl⟩ := er20.sl
   have := er20.slen.2
   refine Ey rfl ((o6 us_Iss ty_Is rfl ea20 rfl g rfl om).yd) (Ey rfl (f6 ty_Is rfl (eh20 _) rfl) (Em rfl (Est rfl (i8 X0 rfl rfl rfl dc (fun w Lp hA => ⟨hA.ro er20, hA.ro ht⟩)) (fun _ _ => (Ey rfl ((w7 rfl rfl).yd) (Ei rfl (u5 (fun q6 => ?_) (fun q6 => ?_))))))))
   ·refine En (n9 (Et (Ez Z3 (Em rfl (Ey rfl ((Y.add rfl rfl om om).yd) (Ei rfl ?_))))))
    exact Eu (t8 br (g + 1) ⟨rfl, rfl, rfl, frB (by grind [D1, y6, y7, B3, x6, E8, d1, d2, t1, t2]), rfl, trivial⟩ (.refl _) ⟨oz, trivial⟩ oz)
   ·refine En (n9 (Et (Ez Z3 (Em rfl (Ey rfl ((Y.add rfl rfl om om).yd) (Ei rfl ?_))))))
    exact Eu (t8 br (g + 1) ⟨rfl, rfl, rfl, frB (by grind [D1, y6, y7, B3, x6, E8, d1, d2, t1, t2]), rfl, trivial⟩ (.refl _) ⟨oz, trivial⟩ oz)
 ·refine Eu (j8 rfl (E.exit (l2 (l2 (w8 (Et (Eq_ (Ew Z1 (Ei rfl (Eu (E.block (l3 (A := []) (Own.nil (E := eIs) (e := tIs) (a := (some ⟨b9, 0, none⟩))) rfl (i9 (congrArg (ow B2 [_]) (show [] = addS (E8 l t) (ltT t) t (l.take 0) from by first | rfl | (simp; done) | grind [D1, y6, y7, B3, x6, E8, d1, d2, t1, t2])) (E.loop (κ := Nat × Option Addr × Nat × Nat) (fun g => g.1 ≤ l.length ∧ True) (fun g => [(0, .slice a_l l.length c_l), (1, .slice a_t t.length c_t), (5, .slice g.2.1 g.2.2.1 g.2.2.2), (6, .bool (E8 l t || (l.take g.1).any (ltT t))), (8, .int .i64 (↑g.1 : Int))]) (fun g => [ow B2 [.slice g.2.1 g.2.2.1 g.2.2.2] (addS (E8 l t) (ltT t) t (l.take g.1))]) (fun g => l.length - g.1) (0, (some ⟨b9, 0, none⟩), 0, 0) ⟨Nat.zero_le _, by simp⟩ ⟨rfl, rfl, rfl, frB (by first | rfl | (simp; done) | grind [D1, y6, y7, B3, x6, E8, d1, d2, t1, t2]), rfl, trivial⟩ (.refl _) (fun g pg => ?_)))))))))))))))
  obtain ⟨g, aA1_0, mA1_0, cA1_0⟩ := g
  try dsimp only at pg
  try dsimp only
  obtain ⟨pk, pa⟩ := pg
  have jp := List.length_take_le g l
  have ji := a2r (h := E8 l t) (p := (ltT t)) (f := t) (l := l.take g)
  refine f0 m0 fun eaA1_0 laA1_0 => ?_
  subst eaA1_0
  refine Eq_ (Ew Z4 (Em rfl (Em rfl (Ey rfl ((Y.len us_Iss rfl).yd) (Ey rfl ((Y.lss rfl rfl).yd) (j4 (fun q28 => ?_) (fun q28 => ?_)))))))
  ·have jy1 := hyl l[g] (List.getElem_mem om)
   refine Eu (j9 rfl (f5 (Et (Eq_ (E.block (Eq_ (Ew Z10 (Em rfl (u5 (fun q31 => ?_) (fun q31 => ?_))))))))))
   ·refine Ey rfl ((Y.not (b := true) rfl).yd) (Em rfl (Es rfl (Es rfl (Es rfl (Es rfl (Es rfl (Es rfl (Ey rfl ((w7 rfl rfl).yd) (Eu (j8 rfl (f5 (Et (Ez Z10 (Em rfl (Est rfl (Nb [] [] us_Is d9 rfl rfl) (fun b48 _ => (Ent.drop (Em rfl (Em rfl ?_)))))))))))))))))))
    obtain ⟨eb51, eo51, ec51, ea51, er51, el51, eh51⟩ := hl.elem g om
    obtain ⟨xa51, xc51, rfl⟩ := er51.sl
    have := er51.slen.2
    refine Ey rfl ((o6 us_Iss ty_Is rfl ea51 rfl g rfl om).yd) (Ey rfl (f6 ty_Is rfl (eh51 _) rfl) (Est rfl (E0 (E := Enc.int) Plain.int us_Is d9 rfl rfl rfl er51 bn bn dc) (fun p53 _ => (Est rfl (Nb [_] [_] us_Iss ty_Is rfl rfl) (fun b54 _ => (d7 (d7 (g9 (Est rfl (u4 (E := eIs) (ex := l[g]) us_Iss ty_Is rfl rfl rfl Own.ow rfl bn bn dc) (fun p55 _ => (Ei rfl (En (n9 (Et (Ez Z3 (Em rfl (Ey rfl ((Y.add rfl rfl om om).yd) (Ei rfl (Eu (i9 (congrArg (ow B2 [_]) (show (addS (E8 l t) (ltT t) t (l.take g)) ++ [l[g]] = addS (E8 l t) (ltT t) t (l.take (g + 1)) from by grind [D1, y6, y7, B3, x6, E8, d1, d2, t1, t2])) ?_))))))))))))))))))))
    exact t8 br (g + 1, p55.1, ((addS (E8 l t) (ltT t) t (l.take g)).length + 1), p55.2) ⟨rfl, rfl, rfl, frB (by grind [D1, y6, y7, B3, x6, E8, d1, d2, t1, t2]), rfl, trivial⟩ (.refl _) ⟨oz, trivial⟩ oz
   ·refine Ey rfl ((Y.not (b := false) rfl).yd) (Em rfl (Em rfl (Em rfl (Em rfl ?_))))
    obtain ⟨eb37, eo37, ec37, ea37, er37, el37, eh37⟩ := hl.elem g om
    obtain ⟨xa37, xc37, rfl⟩ := er37.sl
    have := er37.slen.2
    refine Ey rfl ((o6 us_Iss ty_Is rfl ea37 rfl g rfl om).yd) (Ey rfl (f6 ty_Is rfl (eh37 _) rfl) (Est rfl (i8 a4h rfl rfl rfl dc (fun w Lp hA => ⟨hA.ro ht, hA.ro er37⟩)) (fun _ _ => (u5 (fun q39 => ?_) (fun q39 => ?_)))))
    ·refine Ey rfl ((v6 rfl rfl).yd) (Eu (j9 rfl (Ew Z7 (Em rfl (Est rfl (Nb [] [] us_Is d9 rfl rfl) (fun b42 _ => (Ent.drop (Em rfl (Est rfl (E0 (E := Enc.int) Plain.int us_Is d9 rfl rfl rfl ht bn bn dc) (fun p44 _ => (Est rfl (Nb [_] [_] us_Iss ty_Is rfl rfl) (fun b45 _ => (d7 (d7 (g9 (Est rfl (u4 (E := eIs) (ex := t) us_Iss ty_Is rfl rfl rfl Own.ow rfl bn bn dc) (fun p46 _ => (Ei rfl (Eu (Ez Z1 (Ei rfl (Eu (Ez Z10 (Em rfl (Est rfl (Nb [] [] us_Is d9 rfl rfl) (fun b48 _ => ?_))))))))))))))))))))))))))
     refine Ent.drop (Em rfl (Em rfl (Ey rfl ((o6 us_Iss ty_Is rfl ea37 rfl g rfl om).yd) (Ey rfl (f6 ty_Is rfl (eh37 _) rfl) (Est rfl (E0 (E := Enc.int) Plain.int us_Is d9 rfl rfl rfl er37 bn bn dc) (fun p53 _ => (Est rfl (Nb [_] [_] us_Iss ty_Is rfl rfl) (fun b54 _ => (d7 (d7 (g9 (Est rfl (u4 (E := eIs) (ex := l[g]) us_Iss ty_Is rfl rfl rfl Own.ow rfl bn bn dc) (fun p55 _ => (Ei rfl (En (n9 (Et (Ez Z3 (Em rfl (Ey rfl ((Y.add rfl rfl om om).yd) (Ei rfl ?_)))))))))))))))))))))
     refine Eu (i9 (congrArg (ow B2 [_]) (show ((addS (E8 l t) (ltT t) t (l.take g)) ++ [t]) ++ [l[g]] = addS (E8 l t) (ltT t) t (l.take (g + 1)) from by grind [D1, y6, y7, B3, x6, E8, d1, d2, t1, t2])) ?_)
     exact t8 br (g + 1, p55.1, (((addS (E8 l t) (ltT t) t (l.take g)).length + 1) + 1), p55.2) ⟨rfl, rfl, rfl, frB (by grind [D1, y6, y7, B3, x6, E8, d1, d2, t1, t2]), rfl, trivial⟩ (.refl _) ⟨oz, trivial⟩ oz
    ·refine Ey rfl ((v6 rfl rfl).yd) (Eu (j8 rfl (f5 (Et (Ez Z10 (Em rfl (Est rfl (Nb [] [] us_Is d9 rfl rfl) (fun b48 _ => (Ent.drop (Em rfl (Em rfl (Ey rfl ((o6 us_Iss ty_Is rfl ea37 rfl g rfl om).yd) (Ey rfl (f6 ty_Is rfl (eh37 _) rfl) (Est rfl (E0 (E := Enc.int) Plain.int us_Is d9 rfl rfl rfl er37 bn bn dc) (fun p53 _ => (Est rfl (Nb [_] [_] us_Iss ty_Is rfl rfl) (fun b54 _ => (d7 (d7 (g9 (Est rfl (u4 (E := eIs) (ex := l[g]) us_Iss ty_Is rfl rfl rfl Own.ow rfl bn bn dc) (fun p55 _ => (Ei rfl ?_)))))))))))))))))))))))
     refine En (n9 (Et (Ez Z3 (Em rfl (Ey rfl ((Y.add rfl rfl om om).yd) (Ei rfl (Eu (i9 (congrArg (ow B2 [_]) (show (addS (E8 l t) (ltT t) t (l.take g)) ++ [l[g]] = addS (E8 l t) (ltT t) t (l.take (g + 1)) from by grind [D1, y6, y7, B3, x6, E8, d1, d2, t1, t2])) ?_))))))))
     exact t8 br (g + 1, p55.1, ((addS (E8 l t) (ltT t) t (l.take g)).length + 1), p55.2) ⟨rfl, rfl, rfl, frB (by grind [D1, y6, y7, B3, x6, E8, d1, d2, t1, t2]), rfl, trivial⟩ (.refl _) ⟨oz, trivial⟩ oz
  ·refine Eu (j8 rfl (E.exit (l2 (l2 (w8 (Et (Eq_ (Ew Z2 (Em rfl (u5 (fun q56 => ?_) (fun q56 => ?_)))))))))))
   ·refine Ey rfl ((Y.not (b := true) rfl).yd) (Eu (j8 rfl (f5 (Et (Ew Z2 (Em rfl (Ei rfl (Eu (E.ret (i9 (congrArg (ow B2 [_]) (show _ = D1 l t by grind [D1, y6, y7, B3, x6, E8, d1, d2, t1, t2])) ?_))))))))))
    exact Fg rfl rfl (_, _, _) rfl rfl
   ·refine Ey rfl ((Y.not (b := false) rfl).yd) (Eu (j9 rfl (Ez Z7 (Em rfl (Est rfl (Nb [] [] us_Is d9 rfl rfl) (fun b59 _ => (Ent.drop (Em rfl (Est rfl (E0 (E := Enc.int) Plain.int us_Is d9 rfl rfl rfl ht bn bn dc) (fun p61 _ => (Est rfl (Nb [_] [_] us_Iss ty_Is rfl rfl) (fun b62 _ => (d7 (d7 (g9 (Est rfl (u4 (E := eIs) (ex := t) us_Iss ty_Is rfl rfl rfl Own.ow rfl bn bn dc) (fun p63 _ => (Ei rfl (Ev Z2 (Em rfl (Ei rfl (Eu (E.ret (i9 (congrArg (ow B2 [_]) (show _ = D1 l t by grind [D1, y6, y7, B3, x6, E8, d1, d2, t1, t2])) ?_))))))))))))))))))))))))
    exact Fg rfl rfl (_, _, _) rfl rfl
theorem a2H {l : List (List Int × List Int)} (hqh : i7.length ≤ 1048576) (hz : l.length ≤ 1000000000000) : Tr Tryz.prog 125 [.agg #[.slice o3 s9 o2, .slice m7 r6 l7], .slice a_l m_l c_l] (fun w L => Ro w L eIs [.slice o3 s9 o2] i7 ∧ Ro w L C2 [.slice m7 r6 l7] f4 ∧ Ro w L y8 [.slice a_l m_l c_l] l) [] (κ := Option Addr × Nat × Nat) (fun k => True) (fun k => .slice k.1 k.2.1 k.2.2) (fun k => [ow B2 [.slice k.1 k.2.1 k.2.2] (H3 i7 l)]) := by
 refine Tr.intro Tryz.func125 rfl (n := 22) rfl (by decide +kernel) bl (fr := [(0, .agg #[.slice o3 s9 o2, .slice m7 r6 l7]), (1, .slice a_l m_l c_l)]) rfl fun w L hR => ?_
 obtain ⟨w4, s5, hl⟩ := hR
 obtain ⟨rfl, I4⟩ := w4.slen
 obtain ⟨rfl, G5⟩ := s5.slen
 obtain ⟨rfl, ll⟩ := hl.slen
 have jv := a6b hl
 have jw := w4.i64
 refine Ew Z2 (Est rfl (N.box (cs := [_, _]) rfl dc rfl) (fun b2 _ => (Ei rfl (Ev Z2 (Est rfl (Nb [] [] us_Iss ty_Is rfl rfl) (fun b8 _ => (Ent.drop (Ei rfl (Eu (Eq_ (Ew Z3 (Em rfl (Ey rfl ((Y.len us_Bindings rfl).yd) (Em rfl (Eu (E.block (l3 (A := []) (Own.nil (E := eIs) (e := tIs) (a := (some ⟨b8, 0, none⟩))) rfl (i9 (congrArg (ow B2 [_]) (show [] = H3 i7 (l.take 0) from by first | rfl | (simp; done) | grind [U0, Q4, d1, d2, t1, t2])) (E.loop (κ := Nat × Option Addr × Nat × Nat) (fun g => g.1 ≤ l.length ∧ True) (fun g => [(2, .pointer (some ⟨b2, 0, none⟩)), (5, .slice g.2.1 g.2.2.1 g.2.2.2), (9, .slice a_l l.length c_l), (10, .int .i64 (↑l.length : Int)), (11, .int .i64 (↑g.1 : Int))]) (fun g => [ow B2 [.slice g.2.1 g.2.2.1 g.2.2.2] (H3 i7 (l.take g.1)), pt b2 27 [.slice o3 i7.length o2, .slice m7 f4.length l7]]) (fun g => l.length - g.1) (0, (some ⟨b8, 0, none⟩), 0, 0) ⟨Nat.zero_le _, by simp⟩ ⟨rfl, rfl, rfl, rfl, rfl, trivial⟩ (.refl _) (fun g pg => ?_))))))))))))))))))))
 obtain ⟨g, aA0_0, mA0_0, cA0_0⟩ := g
 try dsimp only at pg
 try dsimp only
 obtain ⟨pk, pa⟩ := pg
 have jp := List.length_take_le g l
 have jn := a3o (h := i7) (l := l.take g)
 have je := a4z (h := i7) (l := l.take g)
 refine f0 m0 fun eaA0_0 laA0_0 => ?_
 subst eaA0_0
 refine Ew Z1 (Ey rfl ((Y.lss rfl rfl).yd) (j4 (fun q12 => ?_) (fun q12 => ?_)))
 ·obtain ⟨eb13, eo13, ec13, ea13, er13, el13, eh13⟩ := hl.elem g om
  obtain ⟨xa13_0, xc13_0, xa13_1, xc13_1, rfl, xh13_0, xh13_1⟩ := W4 er13
  have := xh13_0.slen.2
  have := xh13_1.slen.2
  refine Eu (Eq_ (j9 rfl (f5 (Et (Eq_ (E.block (Ew Z4 (Ey rfl ((o6 us_Bindings ty_Binding rfl ea13 rfl g rfl om).yd) (Ey rfl (o1 (cs := [_, _]) ty_Binding rfl (eh13 _) rfl) (Est rfl (N.alloc ty_Binding dc) (fun b7 _ => (Est rfl (Ns [_, _] ty_Binding rfl) (fun _ _ => (Eu (Ez Z6 (Em rfl (Ey rfl (o1 (cs := [_, _]) ty_Query rfl (Has.pt (mS (mS m0))) rfl) (Ey rfl (o1 (cs := [_, _]) ty_Binding rfl (Has.pt m0) rfl) (Est rfl (N.call (a0y (by first | omega | assumption | (simp; omega))) rfl rfl rfl dc rfl (fun w Lp hA => ⟨hA.ro w4, hA.ro s5, hA.ro xh13_0, hA.ro xh13_1⟩)) (fun k18 _ => ?_))))))))))))))))))))
  obtain ⟨a18, m18, c18⟩ := k18
  refine f0 m0 fun e18 l18 => ?_
  subst e18
  refine g9 (Est rfl (N.call (pre := [_]) (X3 (by first | omega | assumption | (simp; omega)) (by first | omega | assumption | (simp; omega))) rfl rfl rfl dc rfl (fun w Lp hA => hA.ow m0)) (fun k19 _ => ?_))
  obtain ⟨a19, m19, c19⟩ := k19
  refine f0 m0 fun e19 l19 => ?_
  subst e19
  refine Ei rfl (En (n9 (Et (Ez Z2 (Ey rfl ((Y.add rfl rfl om om).yd) (Em rfl (Eu (d7 (Ent.drop (d7 (Ent.drop (i9 (congrArg (ow B2 [_]) (show D1 (H3 i7 (l.take g)) (i7.map (s4 l[g])) = H3 i7 (l.take (g + 1)) from by grind [U0, Q4, d1, d2, t1, t2])) (d7 (d7 ?_))))))))))))))
  exact Ea (g + 1, a19, (D1 (H3 i7 (l.take g)) (i7.map (s4 l[g]))).length, c19) ⟨oz, trivial⟩
 ·refine Eu (Eq_ (j8 rfl (E.exit (l2 (l2 (w8 (Et (Ew Z2 (Em rfl (Ei rfl (Eu (E.ret (i9 (congrArg (ow B2 [_]) (show _ = H3 i7 l by grind [U0, Q4, d1, d2, t1, t2])) ?_)))))))))))))
  exact Fg rfl rfl (_, _, _) rfl rfl
theorem a2D {l : List (List Int × List Int)} (hqh : i7.length ≤ 1048576) (hz : l.length ≤ 1000000000000) : Tr Tryz.prog 60 [.agg #[.slice o3 s9 o2, .slice m7 r6 l7], .slice a_l m_l c_l] (fun w L => Ro w L eIs [.slice o3 s9 o2] i7 ∧ Ro w L C2 [.slice m7 r6 l7] f4 ∧ Ro w L y8 [.slice a_l m_l c_l] l) [] (κ := Option Addr × Nat × Nat) (fun k => True) (fun k => .slice k.1 k.2.1 k.2.2) (fun k => [ow B2 [.slice k.1 k.2.1 k.2.2] (H3 i7 l)]) := by
 refine Tr.intro Tryz.func60 rfl (n := 41) rfl (by decide +kernel) bl (fr := [(0, .agg #[.slice o3 s9 o2, .slice m7 r6 l7]), (1, .slice a_l m_l c_l)]) rfl fun w L hR => ?_
 obtain ⟨w4, s5, hl⟩ := hR
 obtain ⟨rfl, I4⟩ := w4.slen
 obtain ⟨rfl, G5⟩ := s5.slen
 obtain ⟨rfl, ll⟩ := hl.slen
 have jv := a6b hl
 have jw := w4.i64
 refine Ew Z2 (Est rfl (N.box (cs := [_, _]) rfl dc rfl) (fun b2 _ => (Ei rfl (Ev Z2 (Est rfl (Nb [] [] us_Iss ty_Is rfl rfl) (fun b9 _ => (Ent.drop (Ei rfl (Eu (Eq_ (Ew Z1 (Ei rfl (Eu (E.block (l3 (A := []) (Own.nil (E := eIs) (e := tIs) (a := (some ⟨b9, 0, none⟩))) rfl (i9 (congrArg (ow B2 [_]) (show [] = H3 i7 (l.take 0) from by first | rfl | (simp; done) | grind [U0, Q4, d1, d2, t1, t2])) (E.loop (κ := Nat × Option Addr × Nat × Nat) (fun g => g.1 ≤ l.length ∧ True) (fun g => [(1, .slice a_l l.length c_l), (2, .pointer (some ⟨b2, 0, none⟩)), (5, .slice g.2.1 g.2.2.1 g.2.2.2), (6, .int .i64 (↑g.1 : Int))]) (fun g => [ow B2 [.slice g.2.1 g.2.2.1 g.2.2.2] (H3 i7 (l.take g.1)), pt b2 27 [.slice o3 i7.length o2, .slice m7 f4.length l7]]) (fun g => l.length - g.1) (0, (some ⟨b9, 0, none⟩), 0, 0) ⟨Nat.zero_le _, by simp⟩ ⟨rfl, rfl, rfl, rfl, trivial⟩ (.refl _) (fun g pg => ?_))))))))))))))))))
 obtain ⟨g, aA0_0, mA0_0, cA0_0⟩ := g
 try dsimp only at pg
 try dsimp only
 obtain ⟨pk, pa⟩ := pg
 have jp := List.length_take_le g l
 have jn := a3o (h := i7) (l := l.take g)
 have je := a4z (h := i7) (l := l.take g)
 refine f0 m0 fun eaA0_0 laA0_0 => ?_
 subst eaA0_0
 refine Eq_ (Ew Z4 (Em rfl (Em rfl (Ey rfl ((Y.len us_Bindings rfl).yd) (Ey rfl ((Y.lss rfl rfl).yd) (j4 (fun q13 => ?_) (fun q13 => ?_)))))))
 ·refine Eu (j9 rfl (f5 (Et (Eq_ (E.block (Ew Z2 (Est rfl (Nb [] [] us_Is d9 rfl rfl) (fun b16 _ => (Ent.drop (Ei rfl (Eu (Eq_ (Ew Z1 (Ei rfl (Eu (E.block (l3 (A := []) (Own.nil (E := Enc.int) (e := tI) (a := (some ⟨b16, 0, none⟩))) rfl (i9 (congrArg (ow eIs [_]) (show [] = (i7.take 0).map (s4 l[g]) from by first | rfl | (simp; done) | grind [U0, Q4, d1, d2, t1, t2])) (E.loop (κ := Nat × Option Addr × Nat × Nat) (fun h => h.1 ≤ i7.length ∧ True) (fun h => [(1, .slice a_l l.length c_l), (2, .pointer (some ⟨b2, 0, none⟩)), (5, .slice aA0_0 (H3 i7 (l.take g)).length cA0_0), (6, .int .i64 (g : Int)), (7, .slice h.2.1 h.2.2.1 h.2.2.2), (8, .int .i64 (↑h.1 : Int))]) (fun h => [ow eIs [.slice h.2.1 h.2.2.1 h.2.2.2] ((i7.take h.1).map (s4 l[g])), ow B2 [.slice aA0_0 (H3 i7 (l.take g)).length cA0_0] (H3 i7 (l.take g)), pt b2 27 [.slice o3 i7.length o2, .slice m7 f4.length l7]]) (fun h => i7.length - h.1) (0, (some ⟨b16, 0, none⟩), 0, 0) ⟨Nat.zero_le _, by simp⟩ ⟨rfl, rfl, rfl, rfl, rfl, rfl, trivial⟩ (.refl _) (fun h ph => ?_))))))))))))))))))))
  obtain ⟨h, aA1_0, mA1_0, cA1_0⟩ := h
  try dsimp only at ph
  try dsimp only
  obtain ⟨pk, pa⟩ := ph
  refine f0 m0 fun eaA1_0 laA1_0 => ?_
  subst eaA1_0
  refine Eq_ (Ew Z5 (Em rfl (Ey rfl ((f9 fo_Query_0 ty_Is dc rfl).yd) (Ey rfl (f6 ty_Is rfl (Hz (mS (mS m0)) 0 rfl) rfl) (Ey rfl ((Y.len us_Is rfl).yd) (Ey rfl ((Y.lss rfl rfl).yd) (j4 (fun q21 => ?_) (fun q21 => ?_))))))))
  ·have jx := a2n (b := l[g]) (jw i7[h] (List.getElem_mem om)) (jv l[g] (List.getElem_mem om)).2
   refine Eu (j9 rfl (f5 (Et (Eq_ (E.block (D.region (fun j => !(Nat.beq j 12)) mixed (Dyp 0 rfl (i0 rfl) (Dyp 1 rfl (i0 rfl) (Dyp 2 rfl (i0 rfl) ?_)))))))))
   obtain ⟨eb27, eo27, ec27, ea27, er27, el27, eh27⟩ := hl.elem g om
   obtain ⟨xa27_0, xc27_0, xa27_1, xc27_1, rfl, xh27_0, xh27_1⟩ := W4 er27
   have := xh27_0.slen.2
   have := xh27_1.slen.2
   refine Dyp 3 rfl (o6 us_Bindings ty_Binding rfl ea27 rfl g rfl om) (Dy 4 rfl (o1 (cs := [_, _]) ty_Binding rfl (eh27 _) rfl) (Dyp 5 rfl (f9 fo_Query_0 ty_Is dc rfl) (Dy 6 rfl (f6 ty_Is rfl (Hz (mS (mS m0)) 0 rfl) rfl) (Dyp 7 rfl (i0 rfl) ?_))))
   obtain ⟨eb32, eo32, ea32, ei32, eh32⟩ := w4.elemI h om
   refine Dyp 8 rfl (o6 us_Is d9 rfl ea32 rfl h rfl om) (Dy 9 rfl (f6 d9 rfl (eh32 _) rfl) (t7 10 rfl rfl kr (fun _ => rfl) (i8 M9 rfl rfl rfl dc (fun w Lp hA => ⟨hA.ro xh27_0, hA.ro xh27_1⟩)) (fun _ _ => (t7 11 rfl rfl kr (fun _ => rfl) (Nb [_] [_] us_Is d9 rfl rfl) (fun b35 _ => (d7 (t7 12 rfl rfl kr (fun h => by cases h) (u4 (E := Enc.int) (ex := s4 l[g] i7[h]) us_Is d9 rfl rfl rfl (Own.int i6) rfl bn bn dc) (fun p36 _ => (Dyp 13 rfl (D8 rfl) (o0 kr (n9 (Et (Ez Z3 (Em rfl (Ey rfl ((Y.add rfl rfl om om).yd) (Ei rfl (Eu (i9 (congrArg (ow eIs [_]) (show ((i7.take h).map (s4 l[g])) ++ [s4 l[g] i7[h]] = (i7.take (h + 1)).map (s4 l[g]) from by grind [U0, Q4, d1, d2, t1, t2])) (g9 (g9 (g9 ?_)))))))))))))))))))))
   exact Ea (h + 1, p36.1, (((i7.take h).map (s4 l[g])).length + 1), p36.2) ⟨oz, trivial⟩
  ·refine Eu (j8 rfl (E.exit (l2 (l2 (w8 (Et (Ez Z4 (Em rfl (Em rfl (Est rfl (N.call (U7 (by first | omega | assumption | (simp; omega)) (fun x hx => Nat.le_trans (je x hx) hqh) (by first | omega | assumption | (simp; omega))) rfl rfl rfl dc rfl (fun w Lp hA => ⟨hA.ow (mS m0), hA.ow m0⟩)) (fun k39 _ => ?_)))))))))))
   obtain ⟨a39, m39, c39⟩ := k39
   refine f0 m0 fun e39 l39 => ?_
   subst e39
   refine Ei rfl (En (n9 (Et (Ez Z3 (Em rfl (Ey rfl ((Y.add rfl rfl om om).yd) (Ei rfl (Eu (d7 (Ent.drop (d7 (Ent.drop (i9 (congrArg (ow B2 [_]) (show D1 (H3 i7 (l.take g)) ((i7.take h).map (s4 l[g])) = H3 i7 (l.take (g + 1)) from by grind [U0, Q4, d1, d2, t1, t2])) (d7 (d7 ?_)))))))))))))))
   exact Ea (g + 1, a39, (D1 (H3 i7 (l.take g)) ((i7.take h).map (s4 l[g]))).length, c39) ⟨oz, trivial⟩
 ·refine Eu (j8 rfl (E.exit (l2 (l2 (w8 (Et (Ew Z2 (Em rfl (Ei rfl (Eu (E.ret (i9 (congrArg (ow B2 [_]) (show _ = H3 i7 l by grind [U0, Q4, d1, d2, t1, t2])) ?_))))))))))))
  exact Fg rfl rfl (_, _, _) rfl rfl
theorem a3n (hqa : f4.length ≤ 4) (hqt : ∀ a ∈ f4, a.2.length ≤ 3) (hf : ∀ a ∈ f4, Few a c7) (hqh : i7.length ≤ 3) : Tr Tryz.prog 57 [.agg #[.slice o3 s9 o2, .slice m7 r6 l7], .slice a_facts m_facts c_facts] (fun w L => Ro w L eIs [.slice o3 s9 o2] i7 ∧ Ro w L C2 [.slice m7 r6 l7] f4 ∧ Ro w L B9 [.slice a_facts m_facts c_facts] c7) [] (κ := Option Addr × Nat × Nat) (fun k => True) (fun k => .slice k.1 k.2.1 k.2.2) (fun k => [ow B2 [.slice k.1 k.2.1 k.2.2] (H3 i7 (r8 f4 c7))]) := by
 refine Tr.intro Tryz.func57 rfl (n := 10) rfl (by decide +kernel) bl (fr := [(0, .agg #[.slice o3 s9 o2, .slice m7 r6 l7]), (1, .slice a_facts m_facts c_facts)]) rfl fun w L hR => ?_
 obtain ⟨w4, s5, hfacts⟩ := hR
 obtain ⟨rfl, I4⟩ := w4.slen
 obtain ⟨rfl, G5⟩ := s5.slen
 obtain ⟨rfl, lfacts⟩ := hfacts.slen
 have jb := a2x (c7 := c7) hf hqa hqt
 refine Ew Z2 (Est rfl (N.box (cs := [_, _]) rfl dc rfl) (fun b2 _ => (Ei rfl (Eu (Eq_ (D.region (fun j => true) mixed (Dy 0 rfl (o1 (cs := [_, _]) ty_Query rfl (Has.pt m0) rfl) (Dy 1 rfl (o1 (cs := [_, _]) ty_Query rfl (Has.pt m0) rfl) (Dyp 2 rfl (i0 rfl) (t7 3 rfl rfl kr (fun _ => rfl) (N.call (R7 fc fc fc) rfl rfl rfl dc rfl (fun w Lp hA => ⟨hA.ro w4, hA.ro s5, hA.ro hfacts⟩)) (fun k8 _ => ?_)))))))))))
 obtain ⟨a8, m8, c8⟩ := k8
 refine f0 m0 fun e8 l8 => ?_
 subst e8
 refine t7 4 rfl rfl kr (fun _ => rfl) (N.call (a2H fc fc) rfl rfl rfl dc rfl (fun w Lp hA => ⟨hA.ro w4, hA.ro s5, hA.ow m0⟩)) (fun k9 _ => ?_)
 obtain ⟨a9, m9, c9⟩ := k9
 refine f0 m0 fun e9 l9 => ?_
 subst e9
 refine Dyp 5 rfl (D8 rfl) ?_
 exact o0 kr (Et (E.ret (Fg rfl rfl (_, _, _) rfl rfl)))
theorem Y0 {s : List Int} (hz : I3 (fun x => x.2.length) f4 ≤ 1048576) : Tr Tryz.prog 7 [.slice a_s m_s c_s, .agg #[.slice o3 s9 o2, .slice m7 r6 l7], .slice a_facts m_facts c_facts] (fun w L => Ro w L eIs [.slice a_s m_s c_s] s ∧ Ro w L eIs [.slice o3 s9 o2] i7 ∧ Ro w L C2 [.slice m7 r6 l7] f4 ∧ Ro w L B9 [.slice a_facts m_facts c_facts] c7) [] (κ := Option Addr × Nat × Nat) (fun k => True) (fun k => .slice k.1 k.2.1 k.2.2) (fun k => [ow B2 [.slice k.1 k.2.1 k.2.2] (C0 s (i7, f4) c7)]) := by
 refine Tr.intro Tryz.func7 rfl (n := 20) rfl (by decide +kernel) bl (fr := [(0, .slice a_s m_s c_s), (1, .agg #[.slice o3 s9 o2, .slice m7 r6 l7]), (2, .slice a_facts m_facts c_facts)]) rfl fun w L hR => ?_
 obtain ⟨hs, w4, s5, hfacts⟩ := hR
 obtain ⟨rfl, ls⟩ := hs.slen
 obtain ⟨rfl, I4⟩ := w4.slen
 obtain ⟨rfl, G5⟩ := s5.slen
 obtain ⟨rfl, lfacts⟩ := hfacts.slen
 refine Ew Z2 (Est rfl (N.box (cs := [_, _]) rfl dc rfl) (fun b4 _ => (Ei rfl (Eu (Eq_ (Ew Z10 (Em rfl (Ey rfl (o1 (cs := [_, _]) ty_Query rfl (Has.pt m0) rfl) (Est rfl (i8 (a3g (fo)) rfl rfl rfl dc (fun w Lp hA => ⟨hA.ro hs, hA.ro w4, hA.ro s5⟩)) (fun _ _ => (u5 (fun q9 => ?_) (fun q9 => ?_))))))))))))
 ·refine Ey rfl ((Y.not (b := true) rfl).yd) (Em rfl (Em rfl (Em rfl (Est rfl (i8 a2M rfl rfl rfl dc (fun w Lp hA => ⟨hA.ro hs, hA.ro hfacts⟩)) (fun _ _ => (u5 (fun q14 => ?_) (fun q14 => ?_)))))))
  ·refine Ey rfl ((Y.not (b := true) rfl).yd) (Ey rfl ((w7 rfl rfl).yd) (Eu (j8 rfl (f5 (Et (Ew Z4 (Ey rfl (o1 (cs := [_, _]) ty_Query rfl (Has.pt m0) rfl) (Em rfl (Est rfl (N.call (a3n ((O6 (s := s) (q := (i7, f4)) (by assumption)).1) ((O6 (s := s) (q := (i7, f4)) (by assumption)).2.2) ((fun a _ => a1z (W2 (s := s) (by assumption)).1)) ((Nat.le_trans (O6 (s := s) (q := (i7, f4)) (by assumption)).2.1 dc))) rfl rfl rfl dc rfl (fun w Lp hA => ⟨hA.ro w4, hA.ro s5, hA.ro hfacts⟩)) (fun k19 _ => ?_))))))))))
   obtain ⟨a19, m19, c19⟩ := k19
   refine f0 m0 fun e19 l19 => ?_
   subst e19
   refine Ei rfl (Eu (E.ret (i9 (congrArg (ow B2 [_]) (show _ = C0 s (i7, f4) c7 by grind [C0, d1, d2, t1, t2])) ?_)))
   exact Fg rfl rfl (_, _, _) rfl rfl
  ·refine Ey rfl ((Y.not (b := false) rfl).yd) (Ey rfl ((w7 rfl rfl).yd) (Eu (j9 rfl (Ew Z1 (Ei rfl (Eu (E.ret (j5 (l3 (A := []) (Own.nil (E := eIs) (e := tIs) (a := none)) rfl (i9 (congrArg (ow B2 [_]) (show _ = C0 s (i7, f4) c7 by grind [C0, d1, d2, t1, t2])) ?_))))))))))
   exact Fg rfl rfl (none, 0, 0) rfl rfl
 ·refine Ey rfl ((Y.not (b := false) rfl).yd) (Em rfl (Es rfl (Es rfl (Es rfl (Es rfl (Ey rfl ((v6 rfl rfl).yd) (Eu (j9 rfl (Ew Z1 (Ei rfl (Eu (E.ret (j5 (l3 (A := []) (Own.nil (E := eIs) (e := tIs) (a := none)) rfl (i9 (congrArg (ow B2 [_]) (show _ = C0 s (i7, f4) c7 by grind [C0, d1, d2, t1, t2])) ?_)))))))))))))))
  exact Fg rfl rfl (none, 0, 0) rfl rfl
theorem a2e {s : List Int} (hz : I3 (fun x => x.2.length) f4 ≤ 1048576) : Tr Tryz.prog 9 [.slice a_s m_s c_s, .agg #[.slice o3 s9 o2, .slice m7 r6 l7], .slice a_facts m_facts c_facts] (fun w L => Ro w L eIs [.slice a_s m_s c_s] s ∧ Ro w L eIs [.slice o3 s9 o2] i7 ∧ Ro w L C2 [.slice m7 r6 l7] f4 ∧ Ro w L B9 [.slice a_facts m_facts c_facts] c7) [] (κ := Option Addr × Nat × Nat) (fun k => True) (fun k => .slice k.1 k.2.1 k.2.2) (fun k => [ow B2 [.slice k.1 k.2.1 k.2.2] (C0 s (i7, f4) c7)]) := by
 refine Tr.intro Tryz.func9 rfl (n := 23) rfl (by decide +kernel) bl (fr := [(0, .slice a_s m_s c_s), (1, .agg #[.slice o3 s9 o2, .slice m7 r6 l7]), (2, .slice a_facts m_facts c_facts)]) rfl fun w L hR => ?_
 obtain ⟨hs, w4, s5, hfacts⟩ := hR
 obtain ⟨rfl, ls⟩ := hs.slen
 obtain ⟨rfl, I4⟩ := w4.slen
 obtain ⟨rfl, G5⟩ := s5.slen
 obtain ⟨rfl, lfacts⟩ := hfacts.slen
 refine Ew Z2 (Est rfl (N.box (cs := [_, _]) rfl dc rfl) (fun b4 _ => (Ei rfl (Eu (Eq_ (Ew Z10 (Em rfl (Ey rfl (o1 (cs := [_, _]) ty_Query rfl (Has.pt m0) rfl) (Est rfl (i8 (a3k (fo)) rfl rfl rfl dc (fun w Lp hA => ⟨hA.ro hs, hA.ro w4, hA.ro s5⟩)) (fun _ _ => (u5 (fun q9 => ?_) (fun q9 => ?_))))))))))))
 ·refine Ey rfl ((Y.not (b := true) rfl).yd) (Em rfl (Em rfl (Em rfl (Est rfl (i8 a0i rfl rfl rfl dc (fun w Lp hA => ⟨hA.ro hs, hA.ro hfacts⟩)) (fun _ _ => (u5 (fun q14 => ?_) (fun q14 => ?_)))))))
  ·refine Ey rfl ((Y.not (b := true) rfl).yd) (Ey rfl ((w7 rfl rfl).yd) (Eu (j8 rfl (f5 (Et (Eq_ (D.region (fun j => true) mixed (Dy 0 rfl (o1 (cs := [_, _]) ty_Query rfl (Has.pt m0) rfl) (Dy 1 rfl (o1 (cs := [_, _]) ty_Query rfl (Has.pt m0) rfl) (Dyp 2 rfl (i0 rfl) (t7 3 rfl rfl kr (fun _ => rfl) (N.call (X4 ((O6 (s := s) (q := (i7, f4)) (by assumption)).1) ((O6 (s := s) (q := (i7, f4)) (by assumption)).2.2) ((fun a _ => a1z (W2 (s := s) (by assumption)).1))) rfl rfl rfl dc rfl (fun w Lp hA => ⟨hA.ro w4, hA.ro s5, hA.ro hfacts⟩)) (fun k21 _ => ?_))))))))))))
   obtain ⟨a21, m21, c21⟩ := k21
   refine f0 m0 fun e21 l21 => ?_
   subst e21
   refine t7 4 rfl rfl kr (fun _ => rfl) (N.call (a2D ((Nat.le_trans (O6 (s := s) (q := (i7, f4)) (by assumption)).2.1 dc)) ((Nat.le_trans (a1Y (c7 := c7) (W2 (s := s) (by assumption)).1 (O6 (s := s) (q := (i7, f4)) (by assumption)).1 (O6 (s := s) (q := (i7, f4)) (by assumption)).2.2).1 dc))) rfl rfl rfl dc rfl (fun w Lp hA => ⟨hA.ro w4, hA.ro s5, hA.ow m0⟩)) (fun k22 _ => ?_)
   obtain ⟨a22, m22, c22⟩ := k22
   refine f0 m0 fun e22 l22 => ?_
   subst e22
   refine Dyp 5 rfl (D8 rfl) (o0 kr (Et (E.ret (i9 (congrArg (ow B2 [_]) (show _ = C0 s (i7, f4) c7 by grind [C0, d1, d2, t1, t2])) ?_))))
   exact Fg rfl rfl (_, _, _) rfl rfl
  ·refine Ey rfl ((Y.not (b := false) rfl).yd) (Ey rfl ((w7 rfl rfl).yd) (Eu (j9 rfl (Ew Z2 (Est rfl (Nb [] [] us_Iss ty_Is rfl rfl) (fun b17 _ => (Ent.drop (Ei rfl (Eu (E.ret (j5 (l3 (A := []) (Own.nil (E := eIs) (e := tIs) (a := (some ⟨b17, 0, none⟩))) rfl (i9 (congrArg (ow B2 [_]) (show _ = C0 s (i7, f4) c7 by grind [C0, d1, d2, t1, t2])) ?_)))))))))))))
   exact Fg rfl rfl ((some ⟨b17, 0, none⟩), 0, 0) rfl rfl
 ·refine Ey rfl ((Y.not (b := false) rfl).yd) (Em rfl (Es rfl (Es rfl (Es rfl (Es rfl (Ey rfl ((v6 rfl rfl).yd) (Eu (j9 rfl (Ew Z2 (Est rfl (Nb [] [] us_Iss ty_Is rfl rfl) (fun b17 _ => (Ent.drop (Ei rfl (Eu (E.ret (j5 (l3 (A := []) (Own.nil (E := eIs) (e := tIs) (a := (some ⟨b17, 0, none⟩))) rfl (i9 (congrArg (ow B2 [_]) (show _ = C0 s (i7, f4) c7 by grind [C0, d1, d2, t1, t2])) ?_))))))))))))))))))
  exact Fg rfl rfl ((some ⟨b17, 0, none⟩), 0, 0) rfl rfl
end Go.Proofs.YtfnbilpemdgkkaaGreatDoor
