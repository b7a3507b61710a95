import Derived.Test.YtdopeopehgdccaaGreatT17
import Derived.Test.YtdopeopehgdccaaGreatT11
import Derived.Test.YtdopeopehgdccaaGreatT13
namespace Go.Proofs.YtdopeopehgdccaaGreat
open Go.RowKit
set_option linter.all false
set_option maxHeartbeats 2000000
attribute [local irreducible] Nop Yd Yp Ent Has Tr FnP FnP2 Src O8 Y2 a0b a0m G5
variable {f_g : FuncId} {v : Int} {d4 : List (Int × List Int)} {s l a : List (List Int)} {x t f6 : List Int} {f_c : List Value} {m_s c_s m_x c_x b_t m_t c_t m_l c_l m_a c_a m_b c_b s8 o9 s5 o1 : Nat} {a_s a_x a_t a_l a_a a_b r5 o2 : Option Addr}
theorem a5w {D_f : (List Int) → Prop} {f : (List Int) → Bool} (hD_f : ∀ x ∈ s, D_f x) : Tr Tryz.prog 240 [.slice a_s m_s c_s, .func (.func f_g) #[] f_c.toArray] (fun w L => Ro w L E7 [.slice a_s m_s c_s] s ∧ FnP Tryz.prog w L f_g f_c eIs a7b D_f f) [] (κ := Unit) (fun k => True) (fun k => .int .i64 (J0 f s)) (fun k => []) := by
 refine l0 Tryz.func240 rfl (n := 19) rfl (by decide +kernel) bl (fr := [(0, .slice a_s m_s c_s), (1, .func (.func f_g) #[] f_c.toArray)]) rfl fun w L hR => ?_
 obtain ⟨hs, hf⟩ := hR
 obtain ⟨rfl, ls⟩ := hs.slen
 refine Ew Z1 (Ei rfl (Eu (Eq_ (Ew Z3 (Em rfl (Ey rfl ((Y.len us_Iss rfl).yd) (Em rfl (Eu (E.block (E.loop (κ := Nat) (fun g => g ≤ s.length ∧ ∀ x ∈ s.take g, f x = false) (fun g => [(0, .slice a_s s.length c_s), (1, .func (.func f_g) #[] f_c.toArray), (7, .int .i64 (↑s.length : Int)), (8, .int .i64 (g : Int))]) (fun g => []) (fun g => s.length - g) 0 ⟨by omega, by simp⟩ ⟨rfl, rfl, rfl, rfl, trivial⟩ (.refl _) (fun g pg => ?_)))))))))))
 obtain ⟨pk, pa⟩ := pg
 refine Ew Z1 (Ey rfl ((Y.lss rfl rfl).yd) (o7 (fun q9 => ?_) (fun q9 => ?_)))
 ·refine Eu (Eq_ (o5 rfl (i7 (Et (Eq_ (E.block (Ew Z2 (Em rfl (Ei rfl (Ev Z6 (Em rfl (Em rfl (Em rfl ?_)))))))))))))
  obtain ⟨eb14, eo14, ec14, ea14, er14, el14, eh14⟩ := hs.elem g om
  obtain ⟨xa14, xc14, rfl⟩ := er14.sl
  have := er14.slen.2
  refine Ey rfl ((s4 us_Iss ty_Is rfl ea14 rfl g rfl om).yd) (Ey rfl (g9 ty_Is rfl (eh14 _) rfl) (Est rfl (N.fn (cs := [_]) hf rfl rfl rfl dc (fun w Lp hA => (hA.ro er14)) (hD_f _ (List.getElem_mem om))) (fun _ _ => (Ent.b (fun q16 => ?_) (fun q16 => ?_)))))
  ·refine Eu (o5 rfl (Ew Z2 (Em rfl (Ei rfl ?_))))
   exact Eu (E.ret (w8 (l4 (l4 (w8 (l4 (Fg rfl rfl () (congrArg (Value.int .i64) (by first | exact P8 om pa q16 | exact O4 om pa)) rfl)))))))
  ·refine Eu (o4 rfl (i7 (t8 (Et (Ez Z2 (Ey rfl ((Y.add rfl rfl om om).yd) (Em rfl ?_)))))))
   exact Eu (w4 br (g + 1) rs (.refl _) ⟨by omega, X8 om pa q16⟩ om)
 ·refine Eu (Eq_ (o4 rfl (E.exit (o3 (o3 (w3 (Et (Ew Z1 (Ei rfl ?_)))))))))
  exact Eu (E.ret (Fg rfl rfl () (congrArg (Value.int .i64) (by first | exact P8 om pa q16 | exact O4 om pa)) rfl))
theorem a8t {D_f : (List Int) → Prop} {f : (List Int) → Bool} (hD_f : ∀ x ∈ s, D_f x) : Tr Tryz.prog 293 [.slice a_s m_s c_s, .func (.func f_g) #[] f_c.toArray] (fun w L => Ro w L E7 [.slice a_s m_s c_s] s ∧ FnP Tryz.prog w L f_g f_c eIs a7b D_f f) [] (κ := Unit) (fun k => True) (fun k => .bool (s.any f)) (fun k => []) := by
 refine l0 Tryz.func293 rfl (n := 9) rfl (by decide +kernel) bl (fr := [(0, .slice a_s m_s c_s), (1, .func (.func f_g) #[] f_c.toArray)]) rfl fun w L hR => ?_
 obtain ⟨hs, hf⟩ := hR
 obtain ⟨rfl, ls⟩ := hs.slen
 refine Ew Z1 (Ei rfl (Ev Z5 (Em rfl (Em rfl (Est rfl (n0 (a5w (f := f) (D_f := D_f) hD_f) rfl rfl rfl dc (fun w Lp hA => ⟨hA.ro hs, hA.fn hf⟩)) (fun _ _ => (Ey rfl ((Y.geq rfl rfl).yd) (Ei rfl ?_))))))))
 exact Eu (E.ret (Fb rfl rfl (by exact W6)))
theorem a8z : Tr Tryz.prog 294 [.slice a_x m_x c_x, .pointer (some ⟨b_t, 0, none⟩)] (fun w L => (Ro w L eIs [.slice a_x m_x c_x] x) ∧ RoPt w L b_t [.slice a_t m_t c_t] ∧ Ro w L eIs [.slice a_t m_t c_t] t) [] (κ := Unit) (fun k => True) (fun k => .bool (decide (x = t))) (fun k => []) := by
 refine l0 Tryz.func294 rfl (n := 7) rfl (by decide +kernel) bl (fr := [(0, .slice a_x m_x c_x), (1, .pointer (some ⟨b_t, 0, none⟩))]) rfl fun w L hR => ?_
 obtain ⟨hx, hb_t, ht⟩ := hR
 obtain ⟨rfl, lx⟩ := hx.slen
 obtain ⟨rfl, lt⟩ := ht.slen
 refine Ew Z1 (Ei rfl (Ev Z4 (Em rfl (Ey rfl (g9 ty_Is rfl (hb_t.has) rfl) (Est rfl (n0 a1f rfl rfl rfl dc (fun w Lp hA => ⟨hA.ro hx, hA.ro ht⟩)) (fun _ _ => (Ei rfl ?_)))))))
 exact Eu (E.ret (Fg rfl rfl () rfl rfl))
theorem b0v : Tr Tryz.prog 239 [.slice a_l m_l c_l, .slice a_t m_t c_t] (fun w L => Ro w L E7 [.slice a_l m_l c_l] l ∧ Ro w L eIs [.slice a_t m_t c_t] t) [] (κ := Unit) (fun k => True) (fun k => .bool (V0 l t)) (fun k => []) := by
 refine l0 Tryz.func239 rfl (n := 8) rfl (by decide +kernel) bl (fr := [(0, .slice a_l m_l c_l), (1, .slice a_t m_t c_t)]) rfl fun w L hR => ?_
 obtain ⟨hl, ht⟩ := hR
 obtain ⟨rfl, ll⟩ := hl.slen
 obtain ⟨rfl, lt⟩ := ht.slen
 refine Ew Z2 (Est rfl (N.box (cs := [_]) rfl dc rfl) (fun b3 _ => (Ei rfl (Ev Z4 (Em rfl (Ey rfl ((Y.fn (vs := [_]) rfl).yd) (Est rfl (n0 (a8t (f := (fun x => decide (x = t))) (D_f := (fun _ => True)) (by intros; exact trivial)) rfl rfl rfl dc (fun w Lp hA => ⟨hA.ro hl, b4o (D := (fun _ => True)) (fun hd => a8z) (fun w' hk => ⟨(hA.pt m0).keep hk, (hA.ro ht).keep hk⟩)⟩)) (fun _ _ => (Ei rfl ?_)))))))))
 exact Eu (E.ret (Fb rfl rfl (by grind [V0, d1, d2, t1, t2])))
theorem a6W : Tr Tryz.prog 241 [.slice a_x m_x c_x, .pointer (some ⟨b_t, 0, none⟩)] (fun w L => (Ro w L eIs [.slice a_x m_x c_x] x) ∧ RoPt w L b_t [.slice a_t m_t c_t] ∧ Ro w L eIs [.slice a_t m_t c_t] t) [] (κ := Unit) (fun k => True) (fun k => .bool (decide (0 < I1 x t))) (fun k => []) := by
 refine l0 Tryz.func241 rfl (n := 8) rfl (by decide +kernel) bl (fr := [(0, .slice a_x m_x c_x), (1, .pointer (some ⟨b_t, 0, none⟩))]) rfl fun w L hR => ?_
 obtain ⟨hx, hb_t, ht⟩ := hR
 obtain ⟨rfl, lx⟩ := hx.slen
 obtain ⟨rfl, lt⟩ := ht.slen
 refine Ew Z1 (Ei rfl (Ev Z5 (Em rfl (Ey rfl (g9 ty_Is rfl (hb_t.has) rfl) (Est rfl (n0 a2h rfl rfl rfl dc (fun w Lp hA => ⟨hA.ro hx, hA.ro ht⟩)) (fun _ _ => (Ey rfl ((Y.gtr rfl rfl).yd) (Ei rfl ?_))))))))
 exact Eu (E.ret (Fg rfl rfl () rfl rfl))
theorem a4z (hz : l.length ≤ 1000000000000) (ht : t.length ≤ 1048576) : Tr Tryz.prog 165 [.slice a_l m_l c_l, .slice a_t m_t c_t] (fun w L => Ro w L eIs [.slice a_t m_t c_t] t) [ow E7 [.slice a_l m_l c_l] l] (κ := Option Addr × Nat × Nat) (fun k => True) (fun k => .slice k.1 k.2.1 k.2.2) (fun k => [ow E7 [.slice k.1 k.2.1 k.2.2] (H8 l t)]) := by
 refine l0 Tryz.func165 rfl (n := 23) rfl (by decide +kernel) bl (fr := [(0, .slice a_l m_l c_l), (1, .slice a_t m_t c_t)]) rfl fun w L hR => ?_
 have ht := hR
 obtain ⟨rfl, lt⟩ := ht.slen
 refine f5 m0 fun el ll => ?_
 subst el
 refine Ew Z2 (Est rfl (N.box (cs := [_]) rfl dc rfl) (fun b3 _ => (Ei rfl (Eu (Eq_ (Ew Z3 (Em rfl (Ey rfl (g9 ty_Is rfl (Has.pt m0) rfl) (Est rfl (n0 b0v rfl rfl rfl dc (fun w Lp hA => ⟨hA.ow (mS m0), hA.ro ht⟩)) (fun _ _ => (Ent.b (fun q8 => ?_) (fun q8 => ?_))))))))))))
 ·refine Eu (o5 rfl (Ew Z2 (Em rfl (Ei rfl (Eu (E.ret (l4 (f8 (i9 (congrArg (ow E7 [_]) (show _ = H8 l t by grind [a9o, a8Y])) ?_)))))))))
  exact Fg rfl rfl (_, _, _) rfl rfl
 ·refine Eu (o4 rfl (i7 (Et (Ew Z4 (Em rfl (Ey rfl ((Y.fn (vs := [_]) rfl).yd) ?_))))))
  have ji := a3c (p := fun z => decide (0 < I1 z t)) (s := l)
  refine Est rfl (n0 (a5w (f := (fun x => decide (0 < I1 x t))) (D_f := (fun _ => True)) (by intros; exact trivial)) rfl rfl rfl dc (fun w Lp hA => ⟨hA.ow (mS m0), b4o (D := (fun _ => True)) (fun hd => a6W) (fun w' hk => ⟨(hA.pt m0).keep hk, (hA.ro ht).keep hk⟩)⟩)) (fun _ _ => (Ei rfl (Eu (Eq_ (Ew Z2 (Em rfl (Ey rfl ((Y.lss rfl rfl).yd) (o7 (fun q14 => ?_) (fun q14 => ?_)))))))))
  ·refine Eu (o5 rfl (Ez Z3 (Em rfl (Ey rfl ((Y.len us_Iss rfl).yd) (Ei rfl (Ev Z7 (Em rfl (Em rfl (Ey rfl (g9 ty_Is rfl (Has.pt m0) rfl) (Est rfl (N.call (a0X fc) rfl rfl rfl dc rfl (fun w Lp hA => hA.ro ht)) (fun k20 _ => ?_)))))))))))
   obtain ⟨a20, m20, c20⟩ := k20
   refine f5 m0 fun e20 l20 => ?_
   subst e20
   refine Est rfl (Nb [_] [_] us_Iss ty_Is rfl rfl) (fun b21 _ => (f8 (f8 (s7 (A := _ :: _) (Y9 (E := eIs) (e := tIs) Own.ow) rfl (o6 (Est rfl (N.call (pre := [_, _]) (a8F om (by simp) (by simp; omega)) rfl rfl rfl dc rfl tv) (fun k22 _ => ?_)))))))
   obtain ⟨a22, m22, c22⟩ := k22
   refine f5 m0 fun e22 l22 => ?_
   subst e22
   refine Ei rfl (Eu (E.ret (i9 (congrArg (ow E7 [_]) (show _ = H8 l t by grind [a9o, a8Y])) ?_)))
   exact Fg rfl rfl (_, _, _) rfl rfl
  ·refine Eu (o4 rfl (i7 (Et (Ew Z7 (Em rfl (Em rfl (Ey rfl (g9 ty_Is rfl (Has.pt m0) rfl) (Est rfl (N.call (a0X fc) rfl rfl rfl dc rfl (fun w Lp hA => hA.ro ht)) (fun k20 _ => ?_)))))))))
   obtain ⟨a20, m20, c20⟩ := k20
   refine f5 m0 fun e20 l20 => ?_
   subst e20
   refine Est rfl (Nb [_] [_] us_Iss ty_Is rfl rfl) (fun b21 _ => (f8 (f8 (s7 (A := _ :: _) (Y9 (E := eIs) (e := tIs) Own.ow) rfl (o6 (Est rfl (N.call (pre := [_, _]) (a8F om (by simp) (by simp; omega)) rfl rfl rfl dc rfl tv) (fun k22 _ => ?_)))))))
   obtain ⟨a22, m22, c22⟩ := k22
   refine f5 m0 fun e22 l22 => ?_
   subst e22
   refine Ei rfl (Eu (E.ret (i9 (congrArg (ow E7 [_]) (show _ = H8 l t by grind [a9o, a8Y])) ?_)))
   exact Fg rfl rfl (_, _, _) rfl rfl
theorem b2q {a : List Int} {b : List Int} : Tr Tryz.prog 146 [.slice a_a m_a c_a, .slice a_b m_b c_b] (fun w L => Ro w L eIs [.slice a_a m_a c_a] a ∧ Ro w L eIs [.slice a_b m_b c_b] b) [] (κ := Unit) (fun k => True) (fun k => .bool (ltT a b)) (fun k => []) := by
 refine l0 Tryz.func146 rfl (n := 41) rfl (by decide +kernel) bl (fr := [(0, .slice a_a m_a c_a), (1, .slice a_b m_b c_b)]) rfl fun w L hR => ?_
 obtain ⟨ha, hb⟩ := hR
 obtain ⟨rfl, la⟩ := ha.slen
 obtain ⟨rfl, lb⟩ := hb.slen
 refine Ew Z1 (Ei rfl (Eu (Eq_ (Ew Z1 (Ei rfl (Eu (E.block (E.loop (κ := Nat) (fun g => g ≤ a.length ∧ g ≤ b.length ∧ I1 a b = I1 (a.drop g) (b.drop g)) (fun g => [(0, .slice a_a a.length c_a), (1, .slice a_b b.length c_b), (5, .int .i64 (g : Int))]) (fun g => []) (fun g => a.length - g) 0 ⟨Nat.zero_le _, by simp⟩ ⟨rfl, rfl, rfl, trivial⟩ (.refl _) (fun g pg => ?_)))))))))
 obtain ⟨pk, pa⟩ := pg
 refine Eq_ (Ew Z10 (Em rfl (Em rfl (Ey rfl ((Y.len us_Is rfl).yd) (Ey rfl ((Y.lss rfl rfl).yd) (o7 (fun q9 => ?_) (fun q9 => ?_)))))))
 ·refine Em rfl (Em rfl (Em rfl (Ey rfl ((Y.len us_Is rfl).yd) (Ey rfl ((Y.lss rfl rfl).yd) (o7 (fun q14 => ?_) (fun q14 => ?_))))))
  ·refine Ey rfl ((w5 rfl rfl).yd) (Eu (o5 rfl (i7 (Et (Eq_ (E.block (Eq_ (D.region (fun j => true) mixed (Dyp 0 rfl (o0 rfl) (Dyp 1 rfl (o0 rfl) ?_))))))))))
   obtain ⟨eb20, eo20, ea20, ei20, eh20⟩ := ha.elemI g om
   refine Dyp 2 rfl (s4 us_Is i8 rfl ea20 rfl g rfl om) (Dy 3 rfl (g9 i8 rfl (eh20 _) rfl) (Dyp 4 rfl (o0 rfl) (Dyp 5 rfl (o0 rfl) ?_)))
   obtain ⟨eb24, eo24, ea24, ei24, eh24⟩ := hb.elemI g om
   refine Dyp 6 rfl (s4 us_Is i8 rfl ea24 rfl g rfl om) (Dy 7 rfl (g9 i8 rfl (eh24 _) rfl) (Dyp 8 rfl (Y.neq rfl rfl) (o7 (fun q26 => ?_) (fun q26 => ?_))))
   ·refine s3 kr (Et (o5 rfl (Eq_ (D.region (fun j => true) mixed (Dyp 0 rfl (o0 rfl) (Dyp 1 rfl (o0 rfl) (Dyp 2 rfl (s4 us_Is i8 rfl ea20 rfl g rfl om) (Dy 3 rfl (g9 i8 rfl (eh20 _) rfl) (Dyp 4 rfl (o0 rfl) (Dyp 5 rfl (o0 rfl) (Dyp 6 rfl (s4 us_Is i8 rfl ea24 rfl g rfl om) (Dy 7 rfl (g9 i8 rfl (eh24 _) rfl) (Dyp 8 rfl (Y.lss rfl rfl) (Dyp 9 rfl (F0 rfl) ?_))))))))))))))
    exact s3 kr (Et (E.ret (w8 (l4 (l4 (w8 (l4 (Fb rfl rfl (by grind [ltT, I1, Q8, d1, d2, t1, t2])))))))))
   ·refine s3 kr (Et (o4 rfl (i7 (t8 (Et (Ez Z3 (Em rfl (Ey rfl ((Y.add rfl rfl om om).yd) (Ei rfl ?_)))))))))
    exact Eu (w4 br (g + 1) rs (.refl _) ⟨by omega, by grind [I1, Q8, d1, d2, t1, t2]⟩ om)
  ·refine Ey rfl ((w5 rfl rfl).yd) (Eu (o4 rfl (E.exit (o3 (o3 (w3 (Et (Ew Z6 (Em rfl (Ey rfl ((Y.len us_Is rfl).yd) (Em rfl (Ey rfl ((Y.len us_Is rfl).yd) (Ey rfl ((Y.lss rfl rfl).yd) (Ei rfl ?_))))))))))))))
   exact Eu (E.ret (Fb rfl rfl (by grind [ltT, I1, Q8, d1, d2, t1, t2])))
 ·refine Em rfl (Es rfl (Es rfl (Es rfl (Es rfl (Ey rfl ((v8 rfl rfl).yd) (Eu (o4 rfl (E.exit (o3 (o3 (w3 (Et (Ew Z6 (Em rfl (Ey rfl ((Y.len us_Is rfl).yd) (Em rfl (Ey rfl ((Y.len us_Is rfl).yd) (Ey rfl ((Y.lss rfl rfl).yd) (Ei rfl ?_)))))))))))))))))))
  exact Eu (E.ret (Fb rfl rfl (by grind [ltT, I1, Q8, d1, d2, t1, t2])))
theorem a5i (hz : l.length ≤ 1000000000000) (hyl : ∀ x ∈ l, x.length ≤ 1048576) (ht : t.length ≤ 1048576) : Tr Tryz.prog 68 [.slice a_l m_l c_l, .slice a_t m_t c_t] (fun w L => Ro w L E7 [.slice a_l m_l c_l] l ∧ Ro w L eIs [.slice a_t m_t c_t] t) [] (κ := Option Addr × Nat × Nat) (fun k => True) (fun k => .slice k.1 k.2.1 k.2.2) (fun k => [ow E7 [.slice k.1 k.2.1 k.2.2] (H8 l t)]) := by
 refine l0 Tryz.func68 rfl (n := 65) rfl (by decide +kernel) bl (fr := [(0, .slice a_l m_l c_l), (1, .slice a_t m_t c_t)]) rfl fun w L hR => ?_
 obtain ⟨hl, ht⟩ := hR
 obtain ⟨rfl, ll⟩ := hl.slen
 obtain ⟨rfl, lt⟩ := ht.slen
 refine Ew Z1 (Ei rfl (Ev Z2 (Est rfl (Nb [] [] us_Iss ty_Is rfl rfl) (fun b9 _ => (Ent.drop (Ei rfl (Ev Z1 (Ei rfl (Eu (Eq_ (Ew Z1 (Ei rfl (Eu (E.block (E.loop (κ := Nat) (fun g => g ≤ l.length ∧ True) (fun g => [(0, .slice a_l l.length c_l), (1, .slice a_t t.length c_t), (5, .slice (some ⟨b9, 0, none⟩) 0 0), (6, .bool ((l.take g).any fun x => decide (x = t))), (7, .int .i64 (g : Int))]) (fun g => []) (fun g => l.length - g) (0) ⟨Nat.zero_le _, by simp⟩ ⟨rfl, rfl, rfl, frB (by first | rfl | (simp; done) | grind [H8, F3, F2, G7, G6, V0, d1, d2, t1, t2]), rfl, trivial⟩ (.refl _) (fun g pg => ?_))))))))))))))))
 try dsimp only
 obtain ⟨pk, pa⟩ := pg
 refine Eq_ (Ew Z4 (Em rfl (Em rfl (Ey rfl ((Y.len us_Iss rfl).yd) (Ey rfl ((Y.lss rfl rfl).yd) (o7 (fun q13 => ?_) (fun q13 => ?_)))))))
 ·refine Eu (o5 rfl (i7 (Et (Eq_ (E.block (Ez Z10 (Em rfl (Ent.b (fun q16 => ?_) (fun q16 => ?_)))))))))
  ·refine Em rfl (Es rfl (Es rfl (Es rfl (Es rfl (Es rfl (Es rfl (Ey rfl ((w5 rfl rfl).yd) (Ei rfl (En (t8 (Et (Ez Z3 (Em rfl (Ey rfl ((Y.add rfl rfl om om).yd) (Ei rfl ?_)))))))))))))))
   exact Eu (w4 br (g + 1) ⟨rfl, rfl, rfl, frB (by grind [H8, F3, F2, G7, G6, V0, d1, d2, t1, t2]), rfl, trivial⟩ (.refl _) ⟨oz, trivial⟩ oz)
  ·refine Em rfl (Em rfl (Em rfl ?_))
   obtain ⟨eb20, eo20, ec20, ea20, er20, el20, eh20⟩ := hl.elem g om
   obtain ⟨xa20, xc20, rfl⟩ := er20.sl
   have := er20.slen.2
   refine Ey rfl ((s4 us_Iss ty_Is rfl ea20 rfl g rfl om).yd) (Ey rfl (g9 ty_Is rfl (eh20 _) rfl) (Em rfl (Est rfl (n0 a4u rfl rfl rfl dc (fun w Lp hA => ⟨hA.ro er20, hA.ro ht⟩)) (fun _ _ => (Ey rfl ((v8 rfl rfl).yd) (Ei rfl (Ent.b (fun q6 => ?_) (fun q6 => ?_))))))))
   ·refine En (t8 (Et (Ez Z3 (Em rfl (Ey rfl ((Y.add rfl rfl om om).yd) (Ei rfl ?_))))))
    exact Eu (w4 br (g + 1) ⟨rfl, rfl, rfl, frB (by grind [H8, F3, F2, G7, G6, V0, d1, d2, t1, t2]), rfl, trivial⟩ (.refl _) ⟨oz, trivial⟩ oz)
   ·refine En (t8 (Et (Ez Z3 (Em rfl (Ey rfl ((Y.add rfl rfl om om).yd) (Ei rfl ?_))))))
    exact Eu (w4 br (g + 1) ⟨rfl, rfl, rfl, frB (by grind [H8, F3, F2, G7, G6, V0, d1, d2, t1, t2]), rfl, trivial⟩ (.refl _) ⟨oz, trivial⟩ oz)
 ·refine Eu (o4 rfl (E.exit (o3 (o3 (w3 (Et (Eq_ (Ew Z1 (Ei rfl (Eu (E.block (s7 (A := []) (Own.nil (E := eIs) (e := tIs) (a := (some ⟨b9, 0, none⟩))) rfl (i9 (congrArg (ow E7 [_]) (show [] = N3 (V0 l t) (ltT t) t (l.take 0) from by first | rfl | (simp; done) | grind [H8, F3, F2, G7, G6, V0, d1, d2, t1, t2])) (E.loop (κ := Nat × Option Addr × Nat × Nat) (fun g => g.1 ≤ l.length ∧ True) (fun g => [(0, .slice a_l l.length c_l), (1, .slice a_t t.length c_t), (5, .slice g.2.1 g.2.2.1 g.2.2.2), (6, .bool (V0 l t || (l.take g.1).any (ltT t))), (8, .int .i64 (↑g.1 : Int))]) (fun g => [ow E7 [.slice g.2.1 g.2.2.1 g.2.2.2] (N3 (V0 l t) (ltT t) t (l.take g.1))]) (fun g => l.length - g.1) (0, (some ⟨b9, 0, none⟩), 0, 0) ⟨Nat.zero_le _, by simp⟩ ⟨rfl, rfl, rfl, frB (by first | rfl | (simp; done) | grind [H8, F3, F2, G7, G6, V0, d1, d2, t1, t2]), rfl, trivial⟩ (.refl _) (fun g pg => ?_)))))))))))))))
  obtain ⟨g, aA1_0, mA1_0, cA1_0⟩ := g
  try dsimp only at pg
  try dsimp only
  obtain ⟨pk, pa⟩ := pg
  have jp := List.length_take_le g l
  have ji := a9n (h := V0 l t) (p := (ltT t)) (f := t) (l := l.take g)
  refine f5 m0 fun eaA1_0 laA1_0 => ?_
  subst eaA1_0
  refine Eq_ (Ew Z4 (Em rfl (Em rfl (Ey rfl ((Y.len us_Iss rfl).yd) (Ey rfl ((Y.lss rfl rfl).yd) (o7 (fun q28 => ?_) (fun q28 => ?_)))))))
  ·have jy1 := hyl l[g] (List.getElem_mem om)
   refine Eu (o5 rfl (i7 (Et (Eq_ (E.block (Eq_ (Ew Z10 (Em rfl (Ent.b (fun q31 => ?_) (fun q31 => ?_))))))))))
   ·refine Ey rfl ((Y.not (b := true) rfl).yd) (Em rfl (Es rfl (Es rfl (Es rfl (Es rfl (Es rfl (Es rfl (Ey rfl ((v8 rfl rfl).yd) (Eu (o4 rfl (i7 (Et (Ez Z10 (Em rfl (Est rfl (Nb [] [] us_Is i8 rfl rfl) (fun b48 _ => (Ent.drop (Em rfl (Em rfl ?_)))))))))))))))))))
    obtain ⟨eb51, eo51, ec51, ea51, er51, el51, eh51⟩ := hl.elem g om
    obtain ⟨xa51, xc51, rfl⟩ := er51.sl
    have := er51.slen.2
    refine Ey rfl ((s4 us_Iss ty_Is rfl ea51 rfl g rfl om).yd) (Ey rfl (g9 ty_Is rfl (eh51 _) rfl) (Est rfl (K7 (E := Enc.int) Plain.int us_Is i8 rfl rfl rfl er51 bn bn dc) (fun p53 _ => (Est rfl (Nb [_] [_] us_Iss ty_Is rfl rfl) (fun b54 _ => (f8 (f8 (o6 (Est rfl (B1 (E := eIs) (ex := l[g]) us_Iss ty_Is rfl rfl rfl Own.ow rfl bn bn dc) (fun p55 _ => (Ei rfl (En (t8 (Et (Ez Z3 (Em rfl (Ey rfl ((Y.add rfl rfl om om).yd) (Ei rfl (Eu (i9 (congrArg (ow E7 [_]) (show (N3 (V0 l t) (ltT t) t (l.take g)) ++ [l[g]] = N3 (V0 l t) (ltT t) t (l.take (g + 1)) from by grind [H8, F3, F2, G7, G6, V0, d1, d2, t1, t2])) ?_))))))))))))))))))))
    exact w4 br (g + 1, p55.1, ((N3 (V0 l t) (ltT t) t (l.take g)).length + 1), p55.2) ⟨rfl, rfl, rfl, frB (by grind [H8, F3, F2, G7, G6, V0, d1, d2, t1, t2]), rfl, trivial⟩ (.refl _) ⟨oz, trivial⟩ oz
   ·refine Ey rfl ((Y.not (b := false) rfl).yd) (Em rfl (Em rfl (Em rfl (Em rfl ?_))))
    obtain ⟨eb37, eo37, ec37, ea37, er37, el37, eh37⟩ := hl.elem g om
    obtain ⟨xa37, xc37, rfl⟩ := er37.sl
    have := er37.slen.2
    refine Ey rfl ((s4 us_Iss ty_Is rfl ea37 rfl g rfl om).yd) (Ey rfl (g9 ty_Is rfl (eh37 _) rfl) (Est rfl (n0 b2q rfl rfl rfl dc (fun w Lp hA => ⟨hA.ro ht, hA.ro er37⟩)) (fun _ _ => (Ent.b (fun q39 => ?_) (fun q39 => ?_)))))
    ·refine Ey rfl ((w5 rfl rfl).yd) (Eu (o5 rfl (Ew Z7 (Em rfl (Est rfl (Nb [] [] us_Is i8 rfl rfl) (fun b42 _ => (Ent.drop (Em rfl (Est rfl (K7 (E := Enc.int) Plain.int us_Is i8 rfl rfl rfl ht bn bn dc) (fun p44 _ => (Est rfl (Nb [_] [_] us_Iss ty_Is rfl rfl) (fun b45 _ => (f8 (f8 (o6 (Est rfl (B1 (E := eIs) (ex := t) us_Iss ty_Is rfl rfl rfl Own.ow rfl bn bn dc) (fun p46 _ => (Ei rfl (Eu (Ez Z1 (Ei rfl (Eu (Ez Z10 (Em rfl (Est rfl (Nb [] [] us_Is i8 rfl rfl) (fun b48 _ => (Ent.drop (Em rfl (Em rfl (Ey rfl ((s4 us_Iss ty_Is rfl ea37 rfl g rfl om).yd) (Ey rfl (g9 ty_Is rfl (eh37 _) rfl) (Est rfl (K7 (E := Enc.int) Plain.int us_Is i8 rfl rfl rfl er37 bn bn dc) (fun p53 _ => (Est rfl (Nb [_] [_] us_Iss ty_Is rfl rfl) (fun b54 _ => (f8 (f8 (o6 (Est rfl (B1 (E := eIs) (ex := l[g]) us_Iss ty_Is rfl rfl rfl Own.ow rfl bn bn dc) (fun p55 _ => (Ei rfl (En (t8 (Et (Ez Z3 (Em rfl (Ey rfl ((Y.add rfl rfl om om).yd) (Ei rfl (Eu (i9 (congrArg (ow E7 [_]) (show ((N3 (V0 l t) (ltT t) t (l.take g)) ++ [t]) ++ [l[g]] = N3 (V0 l t) (ltT t) t (l.take (g + 1)) from by grind [H8, F3, F2, G7, G6, V0, d1, d2, t1, t2])) ?_))))))))))))))))))))))))))))))))))))))))))))))))))
     exact w4 br (g + 1, p55.1, (((N3 (V0 l t) (ltT t) t (l.take g)).length + 1) + 1), p55.2) ⟨rfl, rfl, rfl, frB (by grind [H8, F3, F2, G7, G6, V0, d1, d2, t1, t2]), rfl, trivial⟩ (.refl _) ⟨oz, trivial⟩ oz
    ·refine Ey rfl ((w5 rfl rfl).yd) (Eu (o4 rfl (i7 (Et (Ez Z10 (Em rfl (Est rfl (Nb [] [] us_Is i8 rfl rfl) (fun b48 _ => (Ent.drop (Em rfl (Em rfl (Ey rfl ((s4 us_Iss ty_Is rfl ea37 rfl g rfl om).yd) (Ey rfl (g9 ty_Is rfl (eh37 _) rfl) (Est rfl (K7 (E := Enc.int) Plain.int us_Is i8 rfl rfl rfl er37 bn bn dc) (fun p53 _ => (Est rfl (Nb [_] [_] us_Iss ty_Is rfl rfl) (fun b54 _ => (f8 (f8 (o6 (Est rfl (B1 (E := eIs) (ex := l[g]) us_Iss ty_Is rfl rfl rfl Own.ow rfl bn bn dc) (fun p55 _ => (Ei rfl (En (t8 (Et (Ez Z3 (Em rfl (Ey rfl ((Y.add rfl rfl om om).yd) (Ei rfl (Eu (i9 (congrArg (ow E7 [_]) (show (N3 (V0 l t) (ltT t) t (l.take g)) ++ [l[g]] = N3 (V0 l t) (ltT t) t (l.take (g + 1)) from by grind [H8, F3, F2, G7, G6, V0, d1, d2, t1, t2])) ?_))))))))))))))))))))))))))))))))
     exact w4 br (g + 1, p55.1, ((N3 (V0 l t) (ltT t) t (l.take g)).length + 1), p55.2) ⟨rfl, rfl, rfl, frB (by grind [H8, F3, F2, G7, G6, V0, d1, d2, t1, t2]), rfl, trivial⟩ (.refl _) ⟨oz, trivial⟩ oz
  ·refine Eu (o4 rfl (E.exit (o3 (o3 (w3 (Et (Eq_ (Ew Z2 (Em rfl (Ent.b (fun q56 => ?_) (fun q56 => ?_)))))))))))
   ·refine Ey rfl ((Y.not (b := true) rfl).yd) (Eu (o4 rfl (i7 (Et (Ew Z2 (Em rfl (Ei rfl (Eu (E.ret (i9 (congrArg (ow E7 [_]) (show _ = H8 l t by grind [H8, F3, F2, G7, G6, V0, d1, d2, t1, t2])) ?_))))))))))
    exact Fg rfl rfl (_, _, _) rfl rfl
   ·refine Ey rfl ((Y.not (b := false) rfl).yd) (Eu (o5 rfl (Ez Z7 (Em rfl (Est rfl (Nb [] [] us_Is i8 rfl rfl) (fun b59 _ => (Ent.drop (Em rfl (Est rfl (K7 (E := Enc.int) Plain.int us_Is i8 rfl rfl rfl ht bn bn dc) (fun p61 _ => (Est rfl (Nb [_] [_] us_Iss ty_Is rfl rfl) (fun b62 _ => (f8 (f8 (o6 (Est rfl (B1 (E := eIs) (ex := t) us_Iss ty_Is rfl rfl rfl Own.ow rfl bn bn dc) (fun p63 _ => (Ei rfl (Ev Z2 (Em rfl (Ei rfl (Eu (E.ret (i9 (congrArg (ow E7 [_]) (show _ = H8 l t by grind [H8, F3, F2, G7, G6, V0, d1, d2, t1, t2])) ?_))))))))))))))))))))))))
    exact Fg rfl rfl (_, _, _) rfl rfl
theorem a9X {l : List (List Int × List Int)} (hqh : f6.length ≤ 1048576) (hz : l.length ≤ 1000000000000) : Tr Tryz.prog 128 [.agg #[.slice r5 s8 o9, .slice o2 s5 o1], .slice a_l m_l c_l] (fun w L => Ro w L eIs [.slice r5 s8 o9] f6 ∧ Ro w L w9 [.slice o2 s5 o1] d4 ∧ Ro w L B2 [.slice a_l m_l c_l] l) [] (κ := Option Addr × Nat × Nat) (fun k => True) (fun k => .slice k.1 k.2.1 k.2.2) (fun k => [ow E7 [.slice k.1 k.2.1 k.2.2] (U1 f6 l)]) := by
 refine l0 Tryz.func128 rfl (n := 22) rfl (by decide +kernel) bl (fr := [(0, .agg #[.slice r5 s8 o9, .slice o2 s5 o1]), (1, .slice a_l m_l c_l)]) rfl fun w L hR => ?_
 obtain ⟨t7, s0, hl⟩ := hR
 obtain ⟨rfl, I9⟩ := t7.slen
 obtain ⟨rfl, H0⟩ := s0.slen
 obtain ⟨rfl, ll⟩ := hl.slen
 have jv := b5w hl
 have jw := t7.i64
 refine Ew Z2 (Est rfl (N.box (cs := [_, _]) rfl dc rfl) (fun b2 _ => (Ei rfl (Ev Z2 (Est rfl (Nb [] [] us_Iss ty_Is rfl rfl) (fun b8 _ => (Ent.drop (Ei rfl (Eu (Eq_ (Ew Z3 (Em rfl (Ey rfl ((Y.len us_Bindings rfl).yd) (Em rfl (Eu (E.block (s7 (A := []) (Own.nil (E := eIs) (e := tIs) (a := (some ⟨b8, 0, none⟩))) rfl (i9 (congrArg (ow E7 [_]) (show [] = U1 f6 (l.take 0) from by first | rfl | (simp; done) | grind [a2V, a2l, d1, d2, t1, t2])) (E.loop (κ := Nat × Option Addr × Nat × Nat) (fun g => g.1 ≤ l.length ∧ True) (fun g => [(2, .pointer (some ⟨b2, 0, none⟩)), (5, .slice g.2.1 g.2.2.1 g.2.2.2), (9, .slice a_l l.length c_l), (10, .int .i64 (↑l.length : Int)), (11, .int .i64 (↑g.1 : Int))]) (fun g => [ow E7 [.slice g.2.1 g.2.2.1 g.2.2.2] (U1 f6 (l.take g.1)), pt b2 61 [.slice r5 f6.length o9, .slice o2 d4.length o1]]) (fun g => l.length - g.1) (0, (some ⟨b8, 0, none⟩), 0, 0) ⟨Nat.zero_le _, by simp⟩ ⟨rfl, rfl, rfl, rfl, rfl, trivial⟩ (.refl _) (fun g pg => ?_))))))))))))))))))))
 obtain ⟨g, aA0_0, mA0_0, cA0_0⟩ := g
 try dsimp only at pg
 try dsimp only
 obtain ⟨pk, pa⟩ := pg
 have jp := List.length_take_le g l
 have jn := b1k (h := f6) (l := l.take g)
 have je := b3m (h := f6) (l := l.take g)
 refine f5 m0 fun eaA0_0 laA0_0 => ?_
 subst eaA0_0
 refine Ew Z1 (Ey rfl ((Y.lss rfl rfl).yd) (o7 (fun q12 => ?_) (fun q12 => ?_)))
 ·obtain ⟨eb13, eo13, ec13, ea13, er13, el13, eh13⟩ := hl.elem g om
  obtain ⟨xa13_0, xc13_0, xa13_1, xc13_1, rfl, xh13_0, xh13_1⟩ := a2L er13
  have := xh13_0.slen.2
  have := xh13_1.slen.2
  refine Eu (Eq_ (o5 rfl (i7 (Et (Eq_ (E.block (Ew Z4 (Ey rfl ((s4 us_Bindings ty_Binding rfl ea13 rfl g rfl om).yd) (Ey rfl (r9 (cs := [_, _]) ty_Binding rfl (eh13 _) rfl) (Est rfl (N.alloc ty_Binding dc) (fun b7 _ => (Est rfl (Ns [_, _] ty_Binding rfl) (fun _ _ => (Eu (Ez Z6 (Em rfl (Ey rfl (r9 (cs := [_, _]) ty_Query rfl (Has.pt (mS (mS m0))) rfl) (Ey rfl (r9 (cs := [_, _]) ty_Binding rfl (Has.pt m0) rfl) (Est rfl (N.call (a2C (by first | omega | assumption | (simp; omega))) rfl rfl rfl dc rfl (fun w Lp hA => ⟨hA.ro t7, hA.ro s0, hA.ro xh13_0, hA.ro xh13_1⟩)) (fun k18 _ => ?_))))))))))))))))))))
  obtain ⟨a18, m18, c18⟩ := k18
  refine f5 m0 fun e18 l18 => ?_
  subst e18
  refine o6 (Est rfl (N.call (pre := [_]) (a4z (by first | omega | assumption | (simp; omega)) (by first | omega | assumption | (simp; omega))) rfl rfl rfl dc rfl (fun w Lp hA => hA.ow m0)) (fun k19 _ => ?_))
  obtain ⟨a19, m19, c19⟩ := k19
  refine f5 m0 fun e19 l19 => ?_
  subst e19
  refine Ei rfl (En (t8 (Et (Ez Z2 (Ey rfl ((Y.add rfl rfl om om).yd) (Em rfl (Eu (f8 (Ent.drop (f8 (Ent.drop (i9 (congrArg (ow E7 [_]) (show H8 (U1 f6 (l.take g)) (f6.map (C7 l[g])) = U1 f6 (l.take (g + 1)) from by grind [a2V, a2l, d1, d2, t1, t2])) (f8 (f8 ?_))))))))))))))
  exact Ea (g + 1, a19, (H8 (U1 f6 (l.take g)) (f6.map (C7 l[g]))).length, c19) ⟨oz, trivial⟩
 ·refine Eu (Eq_ (o4 rfl (E.exit (o3 (o3 (w3 (Et (Ew Z2 (Em rfl (Ei rfl (Eu (E.ret (i9 (congrArg (ow E7 [_]) (show _ = U1 f6 l by grind [a2V, a2l, d1, d2, t1, t2])) ?_)))))))))))))
  exact Fg rfl rfl (_, _, _) rfl rfl
theorem b0d {l : List (List Int × List Int)} (hqh : f6.length ≤ 1048576) (hz : l.length ≤ 1000000000000) : Tr Tryz.prog 89 [.agg #[.slice r5 s8 o9, .slice o2 s5 o1], .slice a_l m_l c_l] (fun w L => Ro w L eIs [.slice r5 s8 o9] f6 ∧ Ro w L w9 [.slice o2 s5 o1] d4 ∧ Ro w L B2 [.slice a_l m_l c_l] l) [] (κ := Option Addr × Nat × Nat) (fun k => True) (fun k => .slice k.1 k.2.1 k.2.2) (fun k => [ow E7 [.slice k.1 k.2.1 k.2.2] (U1 f6 l)]) := by
 refine l0 Tryz.func89 rfl (n := 41) rfl (by decide +kernel) bl (fr := [(0, .agg #[.slice r5 s8 o9, .slice o2 s5 o1]), (1, .slice a_l m_l c_l)]) rfl fun w L hR => ?_
 obtain ⟨t7, s0, hl⟩ := hR
 obtain ⟨rfl, I9⟩ := t7.slen
 obtain ⟨rfl, H0⟩ := s0.slen
 obtain ⟨rfl, ll⟩ := hl.slen
 have jv := b5w hl
 have jw := t7.i64
 refine Ew Z2 (Est rfl (N.box (cs := [_, _]) rfl dc rfl) (fun b2 _ => (Ei rfl (Ev Z2 (Est rfl (Nb [] [] us_Iss ty_Is rfl rfl) (fun b9 _ => (Ent.drop (Ei rfl (Eu (Eq_ (Ew Z1 (Ei rfl (Eu (E.block (s7 (A := []) (Own.nil (E := eIs) (e := tIs) (a := (some ⟨b9, 0, none⟩))) rfl (i9 (congrArg (ow E7 [_]) (show [] = U1 f6 (l.take 0) from by first | rfl | (simp; done) | grind [a2V, a2l, d1, d2, t1, t2])) (E.loop (κ := Nat × Option Addr × Nat × Nat) (fun g => g.1 ≤ l.length ∧ True) (fun g => [(1, .slice a_l l.length c_l), (2, .pointer (some ⟨b2, 0, none⟩)), (5, .slice g.2.1 g.2.2.1 g.2.2.2), (6, .int .i64 (↑g.1 : Int))]) (fun g => [ow E7 [.slice g.2.1 g.2.2.1 g.2.2.2] (U1 f6 (l.take g.1)), pt b2 61 [.slice r5 f6.length o9, .slice o2 d4.length o1]]) (fun g => l.length - g.1) (0, (some ⟨b9, 0, none⟩), 0, 0) ⟨Nat.zero_le _, by simp⟩ ⟨rfl, rfl, rfl, rfl, trivial⟩ (.refl _) (fun g pg => ?_))))))))))))))))))
 obtain ⟨g, aA0_0, mA0_0, cA0_0⟩ := g
 try dsimp only at pg
 try dsimp only
 obtain ⟨pk, pa⟩ := pg
 have jp := List.length_take_le g l
 have jn := b1k (h := f6) (l := l.take g)
 have je := b3m (h := f6) (l := l.take g)
 refine f5 m0 fun eaA0_0 laA0_0 => ?_
 subst eaA0_0
 refine Eq_ (Ew Z4 (Em rfl (Em rfl (Ey rfl ((Y.len us_Bindings rfl).yd) (Ey rfl ((Y.lss rfl rfl).yd) (o7 (fun q13 => ?_) (fun q13 => ?_)))))))
 ·refine Eu (o5 rfl (i7 (Et (Eq_ (E.block (Ew Z2 (Est rfl (Nb [] [] us_Is i8 rfl rfl) (fun b16 _ => (Ent.drop (Ei rfl (Eu (Eq_ (Ew Z1 (Ei rfl (Eu (E.block (s7 (A := []) (Own.nil (E := Enc.int) (e := tI) (a := (some ⟨b16, 0, none⟩))) rfl (i9 (congrArg (ow eIs [_]) (show [] = (f6.take 0).map (C7 l[g]) from by first | rfl | (simp; done) | grind [a2V, a2l, d1, d2, t1, t2])) (E.loop (κ := Nat × Option Addr × Nat × Nat) (fun h => h.1 ≤ f6.length ∧ True) (fun h => [(1, .slice a_l l.length c_l), (2, .pointer (some ⟨b2, 0, none⟩)), (5, .slice aA0_0 (U1 f6 (l.take g)).length cA0_0), (6, .int .i64 (g : Int)), (7, .slice h.2.1 h.2.2.1 h.2.2.2), (8, .int .i64 (↑h.1 : Int))]) (fun h => [ow eIs [.slice h.2.1 h.2.2.1 h.2.2.2] ((f6.take h.1).map (C7 l[g])), ow E7 [.slice aA0_0 (U1 f6 (l.take g)).length cA0_0] (U1 f6 (l.take g)), pt b2 61 [.slice r5 f6.length o9, .slice o2 d4.length o1]]) (fun h => f6.length - h.1) (0, (some ⟨b16, 0, none⟩), 0, 0) ⟨Nat.zero_le _, by simp⟩ ⟨rfl, rfl, rfl, rfl, rfl, rfl, trivial⟩ (.refl _) (fun h ph => ?_))))))))))))))))))))
  obtain ⟨h, aA1_0, mA1_0, cA1_0⟩ := h
  try dsimp only at ph
  try dsimp only
  obtain ⟨pk, pa⟩ := ph
  refine f5 m0 fun eaA1_0 laA1_0 => ?_
  subst eaA1_0
  refine Eq_ (Ew Z5 (Em rfl (Ey rfl ((j6 fo_Query_0 ty_Is dc rfl).yd) (Ey rfl (g9 ty_Is rfl (Hz (mS (mS m0)) 0 rfl) rfl) (Ey rfl ((Y.len us_Is rfl).yd) (Ey rfl ((Y.lss rfl rfl).yd) (o7 (fun q21 => ?_) (fun q21 => ?_))))))))
  ·have jx := a4T (b := l[g]) (jw f6[h] (List.getElem_mem om)) (jv l[g] (List.getElem_mem om)).2
   refine Eu (o5 rfl (i7 (Et (Eq_ (E.block (D.region (fun j => !(Nat.beq j 12)) mixed (Dyp 0 rfl (o0 rfl) (Dyp 1 rfl (o0 rfl) (Dyp 2 rfl (o0 rfl) ?_)))))))))
   obtain ⟨eb27, eo27, ec27, ea27, er27, el27, eh27⟩ := hl.elem g om
   obtain ⟨xa27_0, xc27_0, xa27_1, xc27_1, rfl, xh27_0, xh27_1⟩ := a2L er27
   have := xh27_0.slen.2
   have := xh27_1.slen.2
   refine Dyp 3 rfl (s4 us_Bindings ty_Binding rfl ea27 rfl g rfl om) (Dy 4 rfl (r9 (cs := [_, _]) ty_Binding rfl (eh27 _) rfl) (Dyp 5 rfl (j6 fo_Query_0 ty_Is dc rfl) (Dy 6 rfl (g9 ty_Is rfl (Hz (mS (mS m0)) 0 rfl) rfl) (Dyp 7 rfl (o0 rfl) ?_))))
   obtain ⟨eb32, eo32, ea32, ei32, eh32⟩ := t7.elemI h om
   refine Dyp 8 rfl (s4 us_Is i8 rfl ea32 rfl h rfl om) (Dy 9 rfl (g9 i8 rfl (eh32 _) rfl) (t6 10 rfl rfl kr (fun _ => rfl) (n0 a1k rfl rfl rfl dc (fun w Lp hA => ⟨hA.ro xh27_0, hA.ro xh27_1⟩)) (fun _ _ => (t6 11 rfl rfl kr (fun _ => rfl) (Nb [_] [_] us_Is i8 rfl rfl) (fun b35 _ => (f8 (t6 12 rfl rfl kr (fun h => by cases h) (B1 (E := Enc.int) (ex := C7 l[g] f6[h]) us_Is i8 rfl rfl rfl (Own.int i6) rfl bn bn dc) (fun p36 _ => (Dyp 13 rfl (F0 rfl) (s3 kr (t8 (Et (Ez Z3 (Em rfl (Ey rfl ((Y.add rfl rfl om om).yd) (Ei rfl (Eu (i9 (congrArg (ow eIs [_]) (show ((f6.take h).map (C7 l[g])) ++ [C7 l[g] f6[h]] = (f6.take (h + 1)).map (C7 l[g]) from by grind [a2V, a2l, d1, d2, t1, t2])) (o6 (o6 (o6 ?_)))))))))))))))))))))
   exact Ea (h + 1, p36.1, (((f6.take h).map (C7 l[g])).length + 1), p36.2) ⟨oz, trivial⟩
  ·refine Eu (o4 rfl (E.exit (o3 (o3 (w3 (Et (Ez Z4 (Em rfl (Em rfl (Est rfl (N.call (a5i (by first | omega | assumption | (simp; omega)) (fun x hx => Nat.le_trans (je x hx) hqh) (by first | omega | assumption | (simp; omega))) rfl rfl rfl dc rfl (fun w Lp hA => ⟨hA.ow (mS m0), hA.ow m0⟩)) (fun k39 _ => ?_)))))))))))
   obtain ⟨a39, m39, c39⟩ := k39
   refine f5 m0 fun e39 l39 => ?_
   subst e39
   refine Ei rfl (En (t8 (Et (Ez Z3 (Em rfl (Ey rfl ((Y.add rfl rfl om om).yd) (Ei rfl (Eu (f8 (Ent.drop (f8 (Ent.drop (i9 (congrArg (ow E7 [_]) (show H8 (U1 f6 (l.take g)) ((f6.take h).map (C7 l[g])) = U1 f6 (l.take (g + 1)) from by grind [a2V, a2l, d1, d2, t1, t2])) (f8 (f8 ?_)))))))))))))))
   exact Ea (g + 1, a39, (H8 (U1 f6 (l.take g)) ((f6.take h).map (C7 l[g]))).length, c39) ⟨oz, trivial⟩
 ·refine Eu (o4 rfl (E.exit (o3 (o3 (w3 (Et (Ew Z2 (Em rfl (Ei rfl (Eu (E.ret (i9 (congrArg (ow E7 [_]) (show _ = U1 f6 l by grind [a2V, a2l, d1, d2, t1, t2])) ?_))))))))))))
  exact Fg rfl rfl (_, _, _) rfl rfl
theorem a9m : Tr Tryz.prog 26 [.slice a_a m_a c_a, .int .i64 v] (fun w L => 0 ≤ v ∧ v + ((u5 M7 a : Nat) : Int) ≤ 4611686018427387904) [ow E7 [.slice a_a m_a c_a] a] (κ := Unit) (fun k => True) (fun k => .int .i64 (v + (u5 M7 a : Nat))) (fun k => [ow E7 [.slice a_a m_a c_a] (mkL M7 a2N a v)]) := by
 refine l0 Tryz.func26 rfl (n := 19) rfl (by decide +kernel) bl (fr := [(0, .slice a_a m_a c_a), (1, .int .i64 v)]) rfl fun w L hR => ?_
 obtain ⟨as0, as1⟩ := hR
 refine f5 m0 fun ea la => ?_
 subst ea
 refine Ew Z1 (Ei rfl (Eu (Eq_ (Ew Z1 (Ei rfl (Eu (E.block (E.loop (κ := Nat) (fun g => g ≤ a.length) (fun g => [(0, .slice a_a a.length c_a), (1, .int .i64 (v + (u5 M7 (a.take g) : Nat))), (5, .int .i64 (g : Int))]) (fun g => [ow E7 [.slice a_a a.length c_a] (mkL M7 a2N (a.take g) v ++ a.drop g)]) (fun g => a.length - g) 0 (Nat.zero_le _) ⟨rfl, frI (by simp [u5]), rfl, trivial⟩ (.refl _) (fun g pg => ?_)))))))))
 have u1 := R6 (t := M7) (l := a) (g := g)
 have u2 := R6 (t := M7) (l := a) (g := g + 1)
 have hlen : (mkL M7 a2N (a.take g) v ++ a.drop g).length = a.length := by rw [List.length_append, a1j, ← List.length_append, List.take_append_drop]
 refine Eq_ (Ew Z4 (Em rfl (Em rfl (Ey rfl ((Y.len us_Iss rfl).yd) (Ey rfl ((Y.lss rfl rfl).yd) (o7 (fun q9 => ?_) (fun q9 => ?_)))))))
 ·have u3 := N5 (t := M7) (show g < a.length by omega)
  have u4 : M7 a[g] = u5 E8 a[g] := rfl
  refine Eu (o5 rfl (i7 (Et (Eq_ (E.block (Ez Z7 (Em rfl (Em rfl (U9 m0 om fun ab14 ae14 => (V7 (x := a[g]) g (a7r (show g < a.length by omega)) fun ce14 => (f8 (b5x fun oa14_0 om14_0 oc14_0 oe14 on14_0 => ?_))))))))))))
  subst oe14
  subst on14_0
  refine Ey rfl ((s4 us_Iss ty_Is rfl ae14 rfl g rfl om).yd) (Ey rfl (g9 ty_Is rfl (Has.hole ae14 (mS m0)) rfl) (Em rfl (Est rfl (N.call (pre := [_]) a0j rfl rfl rfl dc rfl (fun w Lp hA => ⟨(by first | assumption | omega), (by first | assumption | omega)⟩)) (fun _ _ => (Ei rfl (En (t8 (Et (Ez Z3 (Em rfl (Ey rfl ((Y.add rfl rfl om om).yd) (Ei rfl (Eu (f8 (O1 Own.ow rfl ?_)))))))))))))))
  exact w4 br (g + 1) ⟨rfl, frI om, rfl, trivial⟩ (a4i (a5P (c := M7) (m := a2N) (show g < a.length by omega) rfl)) om om
 ·refine Eu (o4 rfl (E.exit (o3 (o3 (w3 (Et (Ew Z2 (Em rfl (Ei rfl (Eu (E.ret (i9 (congrArg (ow E7 [_]) (show mkL M7 a2N (a.take g) v ++ a.drop g = mkL M7 a2N a v from by first | exact a1P om | (rw [V6 om]))) ?_))))))))))))
  exact Fg rfl rfl () (by rw [show (v + (u5 M7 a : Nat)) = (v + (u5 M7 (a.take g) : Nat)) from (by first | exact a1P om | (rw [V6 om]))]; try rfl) rfl
theorem a4N (hz : mkL M7 a2N a v = a) : Tr Tryz.prog 27 [.slice a_a m_a c_a, .int .i64 v] (fun w L => Ro w L E7 [.slice a_a m_a c_a] a ∧ 0 ≤ v ∧ v + ((u5 M7 a : Nat) : Int) ≤ 4611686018427387904) [] (κ := Unit) (fun k => True) (fun k => .int .i64 (v + (u5 M7 a : Nat))) (fun k => []) := by
 refine l0 Tryz.func27 rfl (n := 21) rfl (by decide +kernel) bl (fr := [(0, .slice a_a m_a c_a), (1, .int .i64 v)]) rfl fun w L hR => ?_
 obtain ⟨ha, as0, as1⟩ := hR
 obtain ⟨rfl, la⟩ := ha.slen
 refine Ew Z1 (Ei rfl (Eu (Eq_ (Ew Z1 (Ei rfl (Eu (E.block (E.loop (κ := Nat) (fun g => g ≤ a.length) (fun g => [(0, .slice a_a a.length c_a), (1, .int .i64 (v + (u5 M7 (a.take g) : Nat))), (5, .int .i64 (g : Int))]) (fun g => []) (fun g => a.length - g) 0 (Nat.zero_le _) ⟨rfl, frI (by simp [u5]), rfl, trivial⟩ (.refl _) (fun g pg => ?_)))))))))
 have u1 := R6 (t := M7) (l := a) (g := g)
 have u2 := R6 (t := M7) (l := a) (g := g + 1)
 refine Eq_ (Ew Z4 (Em rfl (Em rfl (Ey rfl ((Y.len us_Iss rfl).yd) (Ey rfl ((Y.lss rfl rfl).yd) (o7 (fun q9 => ?_) (fun q9 => ?_)))))))
 ·have u3 := N5 (t := M7) (show g < a.length by omega)
  have u4 : M7 a[g] = u5 E8 a[g] := rfl
  refine Eu (o5 rfl (i7 (Et (Eq_ (E.block (Ew Z7 (Em rfl (Em rfl ?_))))))))
  obtain ⟨eb14, eo14, ec14, ea14, er14, el14, eh14⟩ := ha.elem g om
  obtain ⟨xa14, xc14, rfl⟩ := er14.sl
  have := er14.slen.2
  refine Ey rfl ((s4 us_Iss ty_Is rfl ea14 rfl g rfl om).yd) (Ey rfl (g9 ty_Is rfl (eh14 _) rfl) (Em rfl (Est rfl (n0 (a9O (b6F hz (show g < a.length by omega))) rfl rfl rfl dc (fun w Lp hA => ⟨hA.ro er14, (by first | assumption | omega), (by first | assumption | omega)⟩)) (fun _ _ => (Ei rfl (Ev Z2 (Em rfl (Ey rfl ((Y.lss rfl rfl).yd) (o7 (fun q19 => ?_) (fun q19 => ?_))))))))))
  ·exact absurd q19 om
  ·refine Eu (o4 rfl (i7 (t8 (Et (Ez Z3 (Em rfl (Ey rfl ((Y.add rfl rfl om om).yd) (Ei rfl ?_))))))))
   exact Eu (w4 br (g + 1) ⟨rfl, frI om, rfl, trivial⟩ (.refl _) om om)
 ·refine Eu (o4 rfl (E.exit (o3 (o3 (w3 (Et (Ew Z2 (Em rfl (Ei rfl ?_)))))))))
  exact Eu (E.ret (Fg rfl rfl () (congrArg (Value.int .i64) (by rw [V6 om])) rfl))
theorem a3W {b : List (List Int)} : Tr Tryz.prog 17 [.slice a_a m_a c_a, .slice a_b m_b c_b] (fun w L => Ro w L E7 [.slice a_a m_a c_a] a ∧ Ro w L E7 [.slice a_b m_b c_b] b) [] (κ := Unit) (fun k => True) (fun k => .bool (decide (a = b))) (fun k => []) := by
 refine l0 Tryz.func17 rfl (n := 27) rfl (by decide +kernel) bl (fr := [(0, .slice a_a m_a c_a), (1, .slice a_b m_b c_b)]) rfl fun w L hR => ?_
 obtain ⟨ha, hb⟩ := hR
 obtain ⟨rfl, la⟩ := ha.slen
 obtain ⟨rfl, lb⟩ := hb.slen
 refine Ew Z1 (Ei rfl (Eu (Eq_ (Ew Z5 (Em rfl (Ey rfl ((Y.len us_Iss rfl).yd) (Em rfl (Ey rfl ((Y.len us_Iss rfl).yd) (Ey rfl ((Y.neq rfl rfl).yd) (o7 (fun q10 => ?_) (fun q10 => ?_)))))))))))
 ·refine Eu (o5 rfl (Ew Z1 (Ei rfl ?_)))
  exact Eu (E.ret (l4 (Fb rfl rfl (by exact a3d q10))))
 ·refine Eu (o4 rfl (i7 (Et (Eq_ (Ew Z1 (Ei rfl (Eu (E.block (E.loop (κ := Nat) (fun g => g ≤ a.length ∧ a.take g = b.take g) (fun g => [(0, .slice a_a a.length c_a), (1, .slice a_b b.length c_b), (5, .int .i64 (g : Int))]) (fun g => []) (fun g => a.length - g) 0 ⟨by omega, by simp⟩ ⟨rfl, rfl, rfl, trivial⟩ (.refl _) (fun g pg => ?_))))))))))
  obtain ⟨pk, pa⟩ := pg
  refine Eq_ (Ew Z4 (Em rfl (Em rfl (Ey rfl ((Y.len us_Iss rfl).yd) (Ey rfl ((Y.lss rfl rfl).yd) (o7 (fun q14 => ?_) (fun q14 => ?_)))))))
  ·refine Eu (o5 rfl (i7 (Et (Eq_ (E.block (Eq_ (D.region (fun j => true) mixed (Dyp 0 rfl (o0 rfl) (Dyp 1 rfl (o0 rfl) ?_)))))))))
   obtain ⟨eb19, eo19, ec19, ea19, er19, el19, eh19⟩ := ha.elem g om
   obtain ⟨xa19, xc19, rfl⟩ := er19.sl
   have := er19.slen.2
   refine Dyp 2 rfl (s4 us_Iss ty_Is rfl ea19 rfl g rfl om) (Dy 3 rfl (g9 ty_Is rfl (eh19 _) rfl) (Dyp 4 rfl (o0 rfl) (Dyp 5 rfl (o0 rfl) ?_)))
   obtain ⟨eb23, eo23, ec23, ea23, er23, el23, eh23⟩ := hb.elem g om
   obtain ⟨xa23, xc23, rfl⟩ := er23.sl
   have := er23.slen.2
   refine Dyp 6 rfl (s4 us_Iss ty_Is rfl ea23 rfl g rfl om) (Dy 7 rfl (g9 ty_Is rfl (eh23 _) rfl) (t6 8 rfl rfl kr (fun _ => rfl) (n0 a0R rfl rfl rfl dc (fun w Lp hA => ⟨hA.ro er19, hA.ro er23⟩)) (fun _ _ => (Ent.b (fun q25 => ?_) (fun q25 => ?_)))))
   ·refine Dyp 9 rfl (Y.not (b := true) rfl) (s3 kr (Et (o4 rfl (i7 (t8 (Et (Ez Z3 (Em rfl (Ey rfl ((Y.add rfl rfl om om).yd) (Ei rfl ?_))))))))))
    exact Eu (w4 br (g + 1) rs (.refl _) ⟨by omega, a1q om om pa (of_decide_eq_true q25)⟩ om)
   ·refine Dyp 9 rfl (Y.not (b := false) rfl) (s3 kr (Et (o5 rfl (Ew Z1 (Ei rfl ?_)))))
    exact Eu (E.ret (w8 (l4 (l4 (w8 (l4 (Fb rfl rfl (by exact a2U (show g < a.length by omega) (show g < b.length by omega) (of_decide_eq_false q25)))))))))
  ·refine Eu (o4 rfl (E.exit (o3 (o3 (w3 (Et (Ew Z1 (Ei rfl ?_))))))))
   exact Eu (E.ret (Fb rfl rfl (by exact a2v (show a.length ≤ g by omega) (show b.length ≤ g by omega) pa)))
end Go.Proofs.YtdopeopehgdccaaGreat
