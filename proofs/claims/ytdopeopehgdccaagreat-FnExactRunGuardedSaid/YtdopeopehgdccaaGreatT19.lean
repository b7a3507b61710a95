import Derived.Test.YtdopeopehgdccaaGreatT17
import Derived.Test.YtdopeopehgdccaaGreatT20
import Derived.Test.YtdopeopehgdccaaGreatT11
import Derived.Test.YtdopeopehgdccaaGreatT13
import Derived.Test.YtdopeopehgdccaaGreatDy
namespace Go.Proofs.YtdopeopehgdccaaGreat
open Go.RowKit
set_option linter.all false
set_option maxHeartbeats 2000000
attribute [local irreducible] Nop Yd Yp Ent Has Tr FnP FnP2 Src R6 a0d a0I a1c H6
variable {f_g : FuncId} {v : Int} {d7 : List (Int × List Int)} {s l a : List (List Int)} {x t o0 : List Int} {f_c : List Value} {m_s c_s m_x c_x b_t m_t c_t m_l c_l m_a c_a m_b c_b C6 x8 B3 v7 : Nat} {a_s a_x a_t a_l a_a a_b x7 v6 : Option Addr}
theorem a5G {D_f : (List Int) → Prop} {f : (List Int) → Bool} (hD_f : ∀ x ∈ s, D_f x) : Tr Tryz.prog 240 [.slice a_s m_s c_s, .func (.func f_g) #[] f_c.toArray] (fun w L => Ro w L J9 [.slice a_s m_s c_s] s ∧ FnP Tryz.prog w L f_g f_c eIs a7f D_f f) [] (κ := Unit) (fun k => True) (fun k => .int .i64 (H0 f s)) (fun k => []) := by
 refine n9 Tryz.func240 rfl (n := 19) rfl (by decide +kernel) bl (fr := [(0, .slice a_s m_s c_s), (1, .func (.func f_g) #[] f_c.toArray)]) rfl fun w L hR => ?_
 obtain ⟨hs, hf⟩ := hR
 obtain ⟨rfl, ls⟩ := hs.slen
 refine Ew Z1 (Ei rfl (Eu (Eq_ (Ew Z3 (Em rfl (Ey rfl ((Y.len us_Iss rfl).yd) (Em rfl (Eu (E.block (E.loop (κ := Nat) (fun g => g ≤ s.length ∧ ∀ x ∈ s.take g, f x = false) (fun g => [(0, .slice a_s s.length c_s), (1, .func (.func f_g) #[] f_c.toArray), (7, .int .i64 (↑s.length : Int)), (8, .int .i64 (g : Int))]) (fun g => []) (fun g => s.length - g) 0 ⟨by omega, by simp⟩ ⟨rfl, rfl, rfl, rfl, trivial⟩ (.refl _) (fun g pg => ?_)))))))))))
 obtain ⟨pk, pa⟩ := pg
 refine Ew Z1 (Ey rfl ((Y.lss rfl rfl).yd) (o6 (fun q9 => ?_) (fun q9 => ?_)))
 ·refine Eu (Eq_ (o2 rfl (j5 (Et (Eq_ (E.block (Ew Z2 (Em rfl (Ei rfl (Ev Z6 (Em rfl (Em rfl (Em rfl ?_)))))))))))))
  obtain ⟨eb14, eo14, ec14, ea14, er14, el14, eh14⟩ := hs.elem g om
  obtain ⟨xa14, xc14, rfl⟩ := er14.sl
  have := er14.slen.2
  refine Ey rfl ((r7 us_Iss ty_Is rfl ea14 rfl g rfl om).yd) (Ey rfl (g9 ty_Is rfl (eh14 _) rfl) (Est rfl (N.fn (cs := [_]) hf rfl rfl rfl dc (fun w Lp hA => (hA.ro er14)) (hD_f _ (List.getElem_mem om))) (fun _ _ => (Ent.b (fun q16 => ?_) (fun q16 => ?_)))))
  ·refine Eu (o2 rfl (Ew Z2 (Em rfl (Ei rfl ?_))))
   exact Eu (E.ret (w5 (l4 (l4 (w5 (l4 (Fg rfl rfl () (congrArg (Value.int .i64) (by first | exact P0 om pa q16 | exact O2 om pa)) rfl)))))))
  ·refine Eu (o3 rfl (j5 (t7 (Et (Ez Z2 (Ey rfl ((Y.add rfl rfl om om).yd) (Em rfl ?_)))))))
   exact Eu (v8 br (g + 1) rs (.refl _) ⟨by omega, T2 om pa q16⟩ om)
 ·refine Eu (Eq_ (o3 rfl (E.exit (o8 (o8 (x9 (Et (Ew Z1 (Ei rfl ?_)))))))))
  exact Eu (E.ret (Fg rfl rfl () (congrArg (Value.int .i64) (by first | exact P0 om pa q16 | exact O2 om pa)) rfl))
theorem a8i {D_f : (List Int) → Prop} {f : (List Int) → Bool} (hD_f : ∀ x ∈ s, D_f x) : Tr Tryz.prog 293 [.slice a_s m_s c_s, .func (.func f_g) #[] f_c.toArray] (fun w L => Ro w L J9 [.slice a_s m_s c_s] s ∧ FnP Tryz.prog w L f_g f_c eIs a7f D_f f) [] (κ := Unit) (fun k => True) (fun k => .bool (s.any f)) (fun k => []) := by
 refine n9 Tryz.func293 rfl (n := 9) rfl (by decide +kernel) bl (fr := [(0, .slice a_s m_s c_s), (1, .func (.func f_g) #[] f_c.toArray)]) rfl fun w L hR => ?_
 obtain ⟨hs, hf⟩ := hR
 obtain ⟨rfl, ls⟩ := hs.slen
 refine Ew Z1 (Ei rfl (Ev Z5 (Em rfl (Em rfl (Est rfl (n0 (a5G (f := f) (D_f := D_f) hD_f) rfl rfl rfl dc (fun w Lp hA => ⟨hA.ro hs, hA.fn hf⟩)) (fun _ _ => (Ey rfl ((Y.geq rfl rfl).yd) (Ei rfl ?_))))))))
 exact Eu (E.ret (Fb rfl rfl (by exact a0Q)))
theorem a8f : Tr Tryz.prog 294 [.slice a_x m_x c_x, .pointer (some ⟨b_t, 0, none⟩)] (fun w L => (Ro w L eIs [.slice a_x m_x c_x] x) ∧ RoPt w L b_t [.slice a_t m_t c_t] ∧ Ro w L eIs [.slice a_t m_t c_t] t) [] (κ := Unit) (fun k => True) (fun k => .bool (decide (x = t))) (fun k => []) := by
 refine n9 Tryz.func294 rfl (n := 7) rfl (by decide +kernel) bl (fr := [(0, .slice a_x m_x c_x), (1, .pointer (some ⟨b_t, 0, none⟩))]) rfl fun w L hR => ?_
 obtain ⟨hx, hb_t, ht⟩ := hR
 obtain ⟨rfl, lx⟩ := hx.slen
 obtain ⟨rfl, lt⟩ := ht.slen
 refine Ew Z1 (Ei rfl (Ev Z4 (Em rfl (Ey rfl (g9 ty_Is rfl (hb_t.has) rfl) (Est rfl (n0 a2O rfl rfl rfl dc (fun w Lp hA => ⟨hA.ro hx, hA.ro ht⟩)) (fun _ _ => (Ei rfl ?_)))))))
 exact Eu (E.ret (Fg rfl rfl () rfl rfl))
theorem a9U : Tr Tryz.prog 239 [.slice a_l m_l c_l, .slice a_t m_t c_t] (fun w L => Ro w L J9 [.slice a_l m_l c_l] l ∧ Ro w L eIs [.slice a_t m_t c_t] t) [] (κ := Unit) (fun k => True) (fun k => .bool (U3 l t)) (fun k => []) := by
 refine n9 Tryz.func239 rfl (n := 8) rfl (by decide +kernel) bl (fr := [(0, .slice a_l m_l c_l), (1, .slice a_t m_t c_t)]) rfl fun w L hR => ?_
 obtain ⟨hl, ht⟩ := hR
 obtain ⟨rfl, ll⟩ := hl.slen
 obtain ⟨rfl, lt⟩ := ht.slen
 refine Ew Z2 (Est rfl (N.box (cs := [_]) rfl dc rfl) (fun b3 _ => (Ei rfl (Ev Z4 (Em rfl (Ey rfl ((Y.fn (vs := [_]) rfl).yd) (Est rfl (n0 (a8i (f := (fun x => decide (x = t))) (D_f := (fun _ => True)) (by intros; exact trivial)) rfl rfl rfl dc (fun w Lp hA => ⟨hA.ro hl, b3v (D := (fun _ => True)) (fun hd => a8f) (fun w' hk => ⟨(hA.pt m0).keep hk, (hA.ro ht).keep hk⟩)⟩)) (fun _ _ => (Ei rfl ?_)))))))))
 exact Eu (E.ret (Fb rfl rfl (by grind [U3, d1, d2, t1, t2])))
theorem a6U : Tr Tryz.prog 241 [.slice a_x m_x c_x, .pointer (some ⟨b_t, 0, none⟩)] (fun w L => (Ro w L eIs [.slice a_x m_x c_x] x) ∧ RoPt w L b_t [.slice a_t m_t c_t] ∧ Ro w L eIs [.slice a_t m_t c_t] t) [] (κ := Unit) (fun k => True) (fun k => .bool (decide (0 < I2 x t))) (fun k => []) := by
 refine n9 Tryz.func241 rfl (n := 8) rfl (by decide +kernel) bl (fr := [(0, .slice a_x m_x c_x), (1, .pointer (some ⟨b_t, 0, none⟩))]) rfl fun w L hR => ?_
 obtain ⟨hx, hb_t, ht⟩ := hR
 obtain ⟨rfl, lx⟩ := hx.slen
 obtain ⟨rfl, lt⟩ := ht.slen
 refine Ew Z1 (Ei rfl (Ev Z5 (Em rfl (Ey rfl (g9 ty_Is rfl (hb_t.has) rfl) (Est rfl (n0 a2u rfl rfl rfl dc (fun w Lp hA => ⟨hA.ro hx, hA.ro ht⟩)) (fun _ _ => (Ey rfl ((Y.gtr rfl rfl).yd) (Ei rfl ?_))))))))
 exact Eu (E.ret (Fg rfl rfl () rfl rfl))
theorem a8h (hz : l.length ≤ 1000000000000) (ht : t.length ≤ 1048576) : Tr Tryz.prog 165 [.slice a_l m_l c_l, .slice a_t m_t c_t] (fun w L => Ro w L eIs [.slice a_t m_t c_t] t) [ow J9 [.slice a_l m_l c_l] l] (κ := Option Addr × Nat × Nat) (fun k => True) (fun k => .slice k.1 k.2.1 k.2.2) (fun k => [ow J9 [.slice k.1 k.2.1 k.2.2] (S5 l t)]) := by
 refine n9 Tryz.func165 rfl (n := 23) rfl (by decide +kernel) bl (fr := [(0, .slice a_l m_l c_l), (1, .slice a_t m_t c_t)]) rfl fun w L hR => ?_
 have ht := hR
 obtain ⟨rfl, lt⟩ := ht.slen
 refine i9 m0 fun el ll => ?_
 subst el
 refine Ew Z2 (Est rfl (N.box (cs := [_]) rfl dc rfl) (fun b3 _ => (Ei rfl (Eu (Eq_ (Ew Z3 (Em rfl (Ey rfl (g9 ty_Is rfl (Has.pt m0) rfl) (Est rfl (n0 a9U rfl rfl rfl dc (fun w Lp hA => ⟨hA.ow (mS m0), hA.ro ht⟩)) (fun _ _ => (Ent.b (fun q8 => ?_) (fun q8 => ?_))))))))))))
 ·refine Eu (o2 rfl (Ew Z2 (Em rfl (Ei rfl (Eu (E.ret (l4 (i7 (j6 (congrArg (ow J9 [_]) (show _ = S5 l t by grind [a8I, a8t])) ?_)))))))))
  exact Fg rfl rfl (_, _, _) rfl rfl
 ·refine Eu (o3 rfl (j5 (Et (Ew Z4 (Em rfl (Ey rfl ((Y.fn (vs := [_]) rfl).yd) ?_))))))
  have ji := a0O (p := fun z => decide (0 < I2 z t)) (s := l)
  refine Est rfl (n0 (a5G (f := (fun x => decide (0 < I2 x t))) (D_f := (fun _ => True)) (by intros; exact trivial)) rfl rfl rfl dc (fun w Lp hA => ⟨hA.ow (mS m0), b3v (D := (fun _ => True)) (fun hd => a6U) (fun w' hk => ⟨(hA.pt m0).keep hk, (hA.ro ht).keep hk⟩)⟩)) (fun _ _ => (Ei rfl (Eu (Eq_ (Ew Z2 (Em rfl (Ey rfl ((Y.lss rfl rfl).yd) (o6 (fun q14 => ?_) (fun q14 => ?_)))))))))
  ·refine Eu (o2 rfl (Ez Z3 (Em rfl (Ey rfl ((Y.len us_Iss rfl).yd) (Ei rfl (Ev Z7 (Em rfl (Em rfl (Ey rfl (g9 ty_Is rfl (Has.pt m0) rfl) (Est rfl (N.call (a3y fc) rfl rfl rfl dc rfl (fun w Lp hA => hA.ro ht)) (fun k20 _ => ?_)))))))))))
   obtain ⟨a20, m20, c20⟩ := k20
   refine i9 m0 fun e20 l20 => ?_
   subst e20
   refine Est rfl (Nb [_] [_] us_Iss ty_Is rfl rfl) (fun b21 _ => (i7 (i7 (s3 (A := _ :: _) (a0H (E := eIs) (e := tIs) Own.ow) rfl (r5 (Est rfl (N.call (pre := [_, _]) (a8p om (by simp) (by simp; omega)) rfl rfl rfl dc rfl tv) (fun k22 _ => ?_)))))))
   obtain ⟨a22, m22, c22⟩ := k22
   refine i9 m0 fun e22 l22 => ?_
   subst e22
   refine Ei rfl (Eu (E.ret (j6 (congrArg (ow J9 [_]) (show _ = S5 l t by grind [a8I, a8t])) ?_)))
   exact Fg rfl rfl (_, _, _) rfl rfl
  ·refine Eu (o3 rfl (j5 (Et (Ew Z7 (Em rfl (Em rfl (Ey rfl (g9 ty_Is rfl (Has.pt m0) rfl) (Est rfl (N.call (a3y fc) rfl rfl rfl dc rfl (fun w Lp hA => hA.ro ht)) (fun k20 _ => ?_)))))))))
   obtain ⟨a20, m20, c20⟩ := k20
   refine i9 m0 fun e20 l20 => ?_
   subst e20
   refine Est rfl (Nb [_] [_] us_Iss ty_Is rfl rfl) (fun b21 _ => (i7 (i7 (s3 (A := _ :: _) (a0H (E := eIs) (e := tIs) Own.ow) rfl (r5 (Est rfl (N.call (pre := [_, _]) (a8p om (by simp) (by simp; omega)) rfl rfl rfl dc rfl tv) (fun k22 _ => ?_)))))))
   obtain ⟨a22, m22, c22⟩ := k22
   refine i9 m0 fun e22 l22 => ?_
   subst e22
   refine Ei rfl (Eu (E.ret (j6 (congrArg (ow J9 [_]) (show _ = S5 l t by grind [a8I, a8t])) ?_)))
   exact Fg rfl rfl (_, _, _) rfl rfl
theorem b1M {a : List Int} {b : List Int} : Tr Tryz.prog 146 [.slice a_a m_a c_a, .slice a_b m_b c_b] (fun w L => Ro w L eIs [.slice a_a m_a c_a] a ∧ Ro w L eIs [.slice a_b m_b c_b] b) [] (κ := Unit) (fun k => True) (fun k => .bool (ltT a b)) (fun k => []) := by
 refine n9 Tryz.func146 rfl (n := 41) rfl (by decide +kernel) bl (fr := [(0, .slice a_a m_a c_a), (1, .slice a_b m_b c_b)]) rfl fun w L hR => ?_
 obtain ⟨ha, hb⟩ := hR
 obtain ⟨rfl, la⟩ := ha.slen
 obtain ⟨rfl, lb⟩ := hb.slen
 refine Ew Z1 (Ei rfl (Eu (Eq_ (Ew Z1 (Ei rfl (Eu (E.block (E.loop (κ := Nat) (fun g => g ≤ a.length ∧ g ≤ b.length ∧ I2 a b = I2 (a.drop g) (b.drop g)) (fun g => [(0, .slice a_a a.length c_a), (1, .slice a_b b.length c_b), (5, .int .i64 (g : Int))]) (fun g => []) (fun g => a.length - g) 0 ⟨Nat.zero_le _, by simp⟩ ⟨rfl, rfl, rfl, trivial⟩ (.refl _) (fun g pg => ?_)))))))))
 obtain ⟨pk, pa⟩ := pg
 refine Eq_ (Ew Z10 (Em rfl (Em rfl (Ey rfl ((Y.len us_Is rfl).yd) (Ey rfl ((Y.lss rfl rfl).yd) (o6 (fun q9 => ?_) (fun q9 => ?_)))))))
 ·refine Em rfl (Em rfl (Em rfl (Ey rfl ((Y.len us_Is rfl).yd) (Ey rfl ((Y.lss rfl rfl).yd) (o6 (fun q14 => ?_) (fun q14 => ?_))))))
  ·refine Ey rfl ((u7 rfl rfl).yd) (Eu (o2 rfl (j5 (Et (Eq_ (E.block (Eq_ (D.region (fun j => true) mixed (Dyp 0 rfl (l3 rfl) (Dyp 1 rfl (l3 rfl) ?_))))))))))
   obtain ⟨eb20, eo20, ea20, ei20, eh20⟩ := ha.elemI g om
   refine Dyp 2 rfl (r7 us_Is i8 rfl ea20 rfl g rfl om) (Dy 3 rfl (g9 i8 rfl (eh20 _) rfl) (Dyp 4 rfl (l3 rfl) (Dyp 5 rfl (l3 rfl) ?_)))
   obtain ⟨eb24, eo24, ea24, ei24, eh24⟩ := hb.elemI g om
   refine Dyp 6 rfl (r7 us_Is i8 rfl ea24 rfl g rfl om) (Dy 7 rfl (g9 i8 rfl (eh24 _) rfl) (Dyp 8 rfl (Y.neq rfl rfl) (o6 (fun q26 => ?_) (fun q26 => ?_))))
   ·refine r8 kr (Et (o2 rfl (Eq_ (D.region (fun j => true) mixed (Dyp 0 rfl (l3 rfl) (Dyp 1 rfl (l3 rfl) (Dyp 2 rfl (r7 us_Is i8 rfl ea20 rfl g rfl om) (Dy 3 rfl (g9 i8 rfl (eh20 _) rfl) (Dyp 4 rfl (l3 rfl) (Dyp 5 rfl (l3 rfl) (Dyp 6 rfl (r7 us_Is i8 rfl ea24 rfl g rfl om) (Dy 7 rfl (g9 i8 rfl (eh24 _) rfl) (Dyp 8 rfl (Y.lss rfl rfl) (Dyp 9 rfl (F7 rfl) ?_))))))))))))))
    exact r8 kr (Et (E.ret (w5 (l4 (l4 (w5 (l4 (Fb rfl rfl (by grind [ltT, I2, S1, d1, d2, t1, t2])))))))))
   ·refine r8 kr (Et (o3 rfl (j5 (t7 (Et (Ez Z3 (Em rfl (Ey rfl ((Y.add rfl rfl om om).yd) (Ei rfl ?_)))))))))
    exact Eu (v8 br (g + 1) rs (.refl _) ⟨by omega, by grind [I2, S1, d1, d2, t1, t2]⟩ om)
  ·refine Ey rfl ((u7 rfl rfl).yd) (Eu (o3 rfl (E.exit (o8 (o8 (x9 (Et (Ew Z6 (Em rfl (Ey rfl ((Y.len us_Is rfl).yd) (Em rfl (Ey rfl ((Y.len us_Is rfl).yd) (Ey rfl ((Y.lss rfl rfl).yd) (Ei rfl ?_))))))))))))))
   exact Eu (E.ret (Fb rfl rfl (by grind [ltT, I2, S1, d1, d2, t1, t2])))
 ·refine Em rfl (Es rfl (Es rfl (Es rfl (Es rfl (Ey rfl ((u0 rfl rfl).yd) (Eu (o3 rfl (E.exit (o8 (o8 (x9 (Et (Ew Z6 (Em rfl (Ey rfl ((Y.len us_Is rfl).yd) (Em rfl (Ey rfl ((Y.len us_Is rfl).yd) (Ey rfl ((Y.lss rfl rfl).yd) (Ei rfl ?_)))))))))))))))))))
  exact Eu (E.ret (Fb rfl rfl (by grind [ltT, I2, S1, d1, d2, t1, t2])))
theorem a9N (hz : l.length ≤ 1000000000000) (hyl : ∀ x ∈ l, x.length ≤ 1048576) (ht : t.length ≤ 1048576) : Tr Tryz.prog 68 [.slice a_l m_l c_l, .slice a_t m_t c_t] (fun w L => Ro w L J9 [.slice a_l m_l c_l] l ∧ Ro w L eIs [.slice a_t m_t c_t] t) [] (κ := Option Addr × Nat × Nat) (fun k => True) (fun k => .slice k.1 k.2.1 k.2.2) (fun k => [ow J9 [.slice k.1 k.2.1 k.2.2] (S5 l t)]) := by
 refine n9 Tryz.func68 rfl (n := 65) rfl (by decide +kernel) bl (fr := [(0, .slice a_l m_l c_l), (1, .slice a_t m_t c_t)]) rfl fun w L hR => ?_
 obtain ⟨hl, ht⟩ := hR
 obtain ⟨rfl, ll⟩ := hl.slen
 obtain ⟨rfl, lt⟩ := ht.slen
 refine Ew Z1 (Ei rfl (Ev Z2 (Est rfl (Nb [] [] us_Iss ty_Is rfl rfl) (fun b9 _ => (Ent.drop (Ei rfl (Ev Z1 (Ei rfl (Eu (Eq_ (Ew Z1 (Ei rfl (Eu (E.block (E.loop (κ := Nat) (fun g => g ≤ l.length ∧ True) (fun g => [(0, .slice a_l l.length c_l), (1, .slice a_t t.length c_t), (5, .slice (some ⟨b9, 0, none⟩) 0 0), (6, .bool ((l.take g).any fun x => decide (x = t))), (7, .int .i64 (g : Int))]) (fun g => []) (fun g => l.length - g) (0) ⟨Nat.zero_le _, by simp⟩ ⟨rfl, rfl, rfl, frB (by first | rfl | (simp; done) | grind [S5, F9, F8, H1, H3, U3, d1, d2, t1, t2]), rfl, trivial⟩ (.refl _) (fun g pg => ?_))))))))))))))))
 try dsimp only
 obtain ⟨pk, pa⟩ := pg
 refine Eq_ (Ew Z4 (Em rfl (Em rfl (Ey rfl ((Y.len us_Iss rfl).yd) (Ey rfl ((Y.lss rfl rfl).yd) (o6 (fun q13 => ?_) (fun q13 => ?_)))))))
 ·refine Eu (o2 rfl (j5 (Et (Eq_ (E.block (Ez Z10 (Em rfl (Ent.b (fun q16 => ?_) (fun q16 => ?_)))))))))
  ·refine Em rfl (Es rfl (Es rfl (Es rfl (Es rfl (Es rfl (Es rfl (Ey rfl ((u7 rfl rfl).yd) (Ei rfl (En (t7 (Et (Ez Z3 (Em rfl (Ey rfl ((Y.add rfl rfl om om).yd) (Ei rfl ?_)))))))))))))))
   exact Eu (v8 br (g + 1) ⟨rfl, rfl, rfl, frB (by grind [S5, F9, F8, H1, H3, U3, d1, d2, t1, t2]), rfl, trivial⟩ (.refl _) ⟨oz, trivial⟩ oz)
  ·refine Em rfl (Em rfl (Em rfl ?_))
   obtain ⟨eb20, eo20, ec20, ea20, er20, el20, eh20⟩ := hl.elem g om
   obtain ⟨xa20, xc20, rfl⟩ := er20.sl
   have := er20.slen.2
   refine Ey rfl ((r7 us_Iss ty_Is rfl ea20 rfl g rfl om).yd) (Ey rfl (g9 ty_Is rfl (eh20 _) rfl) (Em rfl (Est rfl (n0 a6N rfl rfl rfl dc (fun w Lp hA => ⟨hA.ro er20, hA.ro ht⟩)) (fun _ _ => (Ey rfl ((u0 rfl rfl).yd) (Ei rfl (Ent.b (fun q6 => ?_) (fun q6 => ?_))))))))
   ·refine En (t7 (Et (Ez Z3 (Em rfl (Ey rfl ((Y.add rfl rfl om om).yd) (Ei rfl ?_))))))
    exact Eu (v8 br (g + 1) ⟨rfl, rfl, rfl, frB (by grind [S5, F9, F8, H1, H3, U3, d1, d2, t1, t2]), rfl, trivial⟩ (.refl _) ⟨oz, trivial⟩ oz)
   ·refine En (t7 (Et (Ez Z3 (Em rfl (Ey rfl ((Y.add rfl rfl om om).yd) (Ei rfl ?_))))))
    exact Eu (v8 br (g + 1) ⟨rfl, rfl, rfl, frB (by grind [S5, F9, F8, H1, H3, U3, d1, d2, t1, t2]), rfl, trivial⟩ (.refl _) ⟨oz, trivial⟩ oz)
 ·refine Eu (o3 rfl (E.exit (o8 (o8 (x9 (Et (Eq_ (Ew Z1 (Ei rfl (Eu (E.block (s3 (A := []) (Own.nil (E := eIs) (e := tIs) (a := (some ⟨b9, 0, none⟩))) rfl (j6 (congrArg (ow J9 [_]) (show [] = O5 (U3 l t) (ltT t) t (l.take 0) from by first | rfl | (simp; done) | grind [S5, F9, F8, H1, H3, U3, d1, d2, t1, t2])) (E.loop (κ := Nat × Option Addr × Nat × Nat) (fun g => g.1 ≤ l.length ∧ True) (fun g => [(0, .slice a_l l.length c_l), (1, .slice a_t t.length c_t), (5, .slice g.2.1 g.2.2.1 g.2.2.2), (6, .bool (U3 l t || (l.take g.1).any (ltT t))), (8, .int .i64 (↑g.1 : Int))]) (fun g => [ow J9 [.slice g.2.1 g.2.2.1 g.2.2.2] (O5 (U3 l t) (ltT t) t (l.take g.1))]) (fun g => l.length - g.1) (0, (some ⟨b9, 0, none⟩), 0, 0) ⟨Nat.zero_le _, by simp⟩ ⟨rfl, rfl, rfl, frB (by first | rfl | (simp; done) | grind [S5, F9, F8, H1, H3, U3, d1, d2, t1, t2]), rfl, trivial⟩ (.refl _) (fun g pg => ?_)))))))))))))))
  obtain ⟨g, aA1_0, mA1_0, cA1_0⟩ := g
  try dsimp only at pg
  try dsimp only
  obtain ⟨pk, pa⟩ := pg
  have jp := List.length_take_le g l
  have ji := a8V (h := U3 l t) (p := (ltT t)) (f := t) (l := l.take g)
  refine i9 m0 fun eaA1_0 laA1_0 => ?_
  subst eaA1_0
  refine Eq_ (Ew Z4 (Em rfl (Em rfl (Ey rfl ((Y.len us_Iss rfl).yd) (Ey rfl ((Y.lss rfl rfl).yd) (o6 (fun q28 => ?_) (fun q28 => ?_)))))))
  ·have jy1 := hyl l[g] (List.getElem_mem om)
   refine Eu (o2 rfl (j5 (Et (Eq_ (E.block (Eq_ (Ew Z10 (Em rfl (Ent.b (fun q31 => ?_) (fun q31 => ?_))))))))))
   ·refine Ey rfl ((Y.not (b := true) rfl).yd) (Em rfl (Es rfl (Es rfl (Es rfl (Es rfl (Es rfl (Es rfl (Ey rfl ((u0 rfl rfl).yd) (Eu (o3 rfl (j5 (Et (Ez Z10 (Em rfl (Est rfl (Nb [] [] us_Is i8 rfl rfl) (fun b48 _ => (Ent.drop (Em rfl (Em rfl ?_)))))))))))))))))))
    obtain ⟨eb51, eo51, ec51, ea51, er51, el51, eh51⟩ := hl.elem g om
    obtain ⟨xa51, xc51, rfl⟩ := er51.sl
    have := er51.slen.2
    refine Ey rfl ((r7 us_Iss ty_Is rfl ea51 rfl g rfl om).yd) (Ey rfl (g9 ty_Is rfl (eh51 _) rfl) (Est rfl (O6 (E := Enc.int) Plain.int us_Is i8 rfl rfl rfl er51 bn bn dc) (fun p53 _ => (Est rfl (Nb [_] [_] us_Iss ty_Is rfl rfl) (fun b54 _ => (i7 (i7 (r5 (Est rfl (D6 (E := eIs) (ex := l[g]) us_Iss ty_Is rfl rfl rfl Own.ow rfl bn bn dc) (fun p55 _ => (Ei rfl (En (t7 (Et (Ez Z3 (Em rfl (Ey rfl ((Y.add rfl rfl om om).yd) (Ei rfl (Eu (j6 (congrArg (ow J9 [_]) (show (O5 (U3 l t) (ltT t) t (l.take g)) ++ [l[g]] = O5 (U3 l t) (ltT t) t (l.take (g + 1)) from by grind [S5, F9, F8, H1, H3, U3, d1, d2, t1, t2])) ?_))))))))))))))))))))
    exact v8 br (g + 1, p55.1, ((O5 (U3 l t) (ltT t) t (l.take g)).length + 1), p55.2) ⟨rfl, rfl, rfl, frB (by grind [S5, F9, F8, H1, H3, U3, d1, d2, t1, t2]), rfl, trivial⟩ (.refl _) ⟨oz, trivial⟩ oz
   ·refine Ey rfl ((Y.not (b := false) rfl).yd) (Em rfl (Em rfl (Em rfl (Em rfl ?_))))
    obtain ⟨eb37, eo37, ec37, ea37, er37, el37, eh37⟩ := hl.elem g om
    obtain ⟨xa37, xc37, rfl⟩ := er37.sl
    have := er37.slen.2
    refine Ey rfl ((r7 us_Iss ty_Is rfl ea37 rfl g rfl om).yd) (Ey rfl (g9 ty_Is rfl (eh37 _) rfl) (Est rfl (n0 b1M rfl rfl rfl dc (fun w Lp hA => ⟨hA.ro ht, hA.ro er37⟩)) (fun _ _ => (Ent.b (fun q39 => ?_) (fun q39 => ?_)))))
    ·refine Ey rfl ((u7 rfl rfl).yd) (Eu (o2 rfl (Ew Z7 (Em rfl (Est rfl (Nb [] [] us_Is i8 rfl rfl) (fun b42 _ => (Ent.drop (Em rfl (Est rfl (O6 (E := Enc.int) Plain.int us_Is i8 rfl rfl rfl ht bn bn dc) (fun p44 _ => (Est rfl (Nb [_] [_] us_Iss ty_Is rfl rfl) (fun b45 _ => (i7 (i7 (r5 (Est rfl (D6 (E := eIs) (ex := t) us_Iss ty_Is rfl rfl rfl Own.ow rfl bn bn dc) (fun p46 _ => (Ei rfl (Eu (Ez Z1 (Ei rfl (Eu (Ez Z10 (Em rfl (Est rfl (Nb [] [] us_Is i8 rfl rfl) (fun b48 _ => (Ent.drop (Em rfl (Em rfl (Ey rfl ((r7 us_Iss ty_Is rfl ea37 rfl g rfl om).yd) (Ey rfl (g9 ty_Is rfl (eh37 _) rfl) (Est rfl (O6 (E := Enc.int) Plain.int us_Is i8 rfl rfl rfl er37 bn bn dc) (fun p53 _ => (Est rfl (Nb [_] [_] us_Iss ty_Is rfl rfl) (fun b54 _ => (i7 (i7 (r5 (Est rfl (D6 (E := eIs) (ex := l[g]) us_Iss ty_Is rfl rfl rfl Own.ow rfl bn bn dc) (fun p55 _ => (Ei rfl (En (t7 (Et (Ez Z3 (Em rfl (Ey rfl ((Y.add rfl rfl om om).yd) (Ei rfl (Eu (j6 (congrArg (ow J9 [_]) (show ((O5 (U3 l t) (ltT t) t (l.take g)) ++ [t]) ++ [l[g]] = O5 (U3 l t) (ltT t) t (l.take (g + 1)) from by grind [S5, F9, F8, H1, H3, U3, d1, d2, t1, t2])) ?_))))))))))))))))))))))))))))))))))))))))))))))))))
     exact v8 br (g + 1, p55.1, (((O5 (U3 l t) (ltT t) t (l.take g)).length + 1) + 1), p55.2) ⟨rfl, rfl, rfl, frB (by grind [S5, F9, F8, H1, H3, U3, d1, d2, t1, t2]), rfl, trivial⟩ (.refl _) ⟨oz, trivial⟩ oz
    ·refine Ey rfl ((u7 rfl rfl).yd) (Eu (o3 rfl (j5 (Et (Ez Z10 (Em rfl (Est rfl (Nb [] [] us_Is i8 rfl rfl) (fun b48 _ => (Ent.drop (Em rfl (Em rfl (Ey rfl ((r7 us_Iss ty_Is rfl ea37 rfl g rfl om).yd) (Ey rfl (g9 ty_Is rfl (eh37 _) rfl) (Est rfl (O6 (E := Enc.int) Plain.int us_Is i8 rfl rfl rfl er37 bn bn dc) (fun p53 _ => (Est rfl (Nb [_] [_] us_Iss ty_Is rfl rfl) (fun b54 _ => (i7 (i7 (r5 (Est rfl (D6 (E := eIs) (ex := l[g]) us_Iss ty_Is rfl rfl rfl Own.ow rfl bn bn dc) (fun p55 _ => (Ei rfl (En (t7 (Et (Ez Z3 (Em rfl (Ey rfl ((Y.add rfl rfl om om).yd) (Ei rfl (Eu (j6 (congrArg (ow J9 [_]) (show (O5 (U3 l t) (ltT t) t (l.take g)) ++ [l[g]] = O5 (U3 l t) (ltT t) t (l.take (g + 1)) from by grind [S5, F9, F8, H1, H3, U3, d1, d2, t1, t2])) ?_))))))))))))))))))))))))))))))))
     exact v8 br (g + 1, p55.1, ((O5 (U3 l t) (ltT t) t (l.take g)).length + 1), p55.2) ⟨rfl, rfl, rfl, frB (by grind [S5, F9, F8, H1, H3, U3, d1, d2, t1, t2]), rfl, trivial⟩ (.refl _) ⟨oz, trivial⟩ oz
  ·refine Eu (o3 rfl (E.exit (o8 (o8 (x9 (Et (Eq_ (Ew Z2 (Em rfl (Ent.b (fun q56 => ?_) (fun q56 => ?_)))))))))))
   ·refine Ey rfl ((Y.not (b := true) rfl).yd) (Eu (o3 rfl (j5 (Et (Ew Z2 (Em rfl (Ei rfl (Eu (E.ret (j6 (congrArg (ow J9 [_]) (show _ = S5 l t by grind [S5, F9, F8, H1, H3, U3, d1, d2, t1, t2])) ?_))))))))))
    exact Fg rfl rfl (_, _, _) rfl rfl
   ·refine Ey rfl ((Y.not (b := false) rfl).yd) (Eu (o2 rfl (Ez Z7 (Em rfl (Est rfl (Nb [] [] us_Is i8 rfl rfl) (fun b59 _ => (Ent.drop (Em rfl (Est rfl (O6 (E := Enc.int) Plain.int us_Is i8 rfl rfl rfl ht bn bn dc) (fun p61 _ => (Est rfl (Nb [_] [_] us_Iss ty_Is rfl rfl) (fun b62 _ => (i7 (i7 (r5 (Est rfl (D6 (E := eIs) (ex := t) us_Iss ty_Is rfl rfl rfl Own.ow rfl bn bn dc) (fun p63 _ => (Ei rfl (Ev Z2 (Em rfl (Ei rfl (Eu (E.ret (j6 (congrArg (ow J9 [_]) (show _ = S5 l t by grind [S5, F9, F8, H1, H3, U3, d1, d2, t1, t2])) ?_))))))))))))))))))))))))
    exact Fg rfl rfl (_, _, _) rfl rfl
theorem a5j {l : List (List Int × List Int)} (hqh : o0.length ≤ 1048576) (hz : l.length ≤ 1000000000000) : Tr Tryz.prog 128 [.agg #[.slice x7 C6 x8, .slice v6 B3 v7], .slice a_l m_l c_l] (fun w L => Ro w L eIs [.slice x7 C6 x8] o0 ∧ Ro w L B7 [.slice v6 B3 v7] d7 ∧ Ro w L u9 [.slice a_l m_l c_l] l) [] (κ := Option Addr × Nat × Nat) (fun k => True) (fun k => .slice k.1 k.2.1 k.2.2) (fun k => [ow J9 [.slice k.1 k.2.1 k.2.2] (S0 o0 l)]) := by
 refine n9 Tryz.func128 rfl (n := 22) rfl (by decide +kernel) bl (fr := [(0, .agg #[.slice x7 C6 x8, .slice v6 B3 v7]), (1, .slice a_l m_l c_l)]) rfl fun w L hR => ?_
 obtain ⟨F6, D4, hl⟩ := hR
 obtain ⟨rfl, a0t⟩ := F6.slen
 obtain ⟨rfl, X6⟩ := D4.slen
 obtain ⟨rfl, ll⟩ := hl.slen
 have jv := b4t hl
 have jw := F6.i64
 refine Ew Z2 (Est rfl (N.box (cs := [_, _]) rfl dc rfl) (fun b2 _ => (Ei rfl (Ev Z2 (Est rfl (Nb [] [] us_Iss ty_Is rfl rfl) (fun b8 _ => (Ent.drop (Ei rfl (Eu (Eq_ (Ew Z3 (Em rfl (Ey rfl ((Y.len us_Bindings rfl).yd) (Em rfl (Eu (E.block (s3 (A := []) (Own.nil (E := eIs) (e := tIs) (a := (some ⟨b8, 0, none⟩))) rfl (j6 (congrArg (ow J9 [_]) (show [] = S0 o0 (l.take 0) from by first | rfl | (simp; done) | grind [a3k, a2v, d1, d2, t1, t2])) (E.loop (κ := Nat × Option Addr × Nat × Nat) (fun g => g.1 ≤ l.length ∧ True) (fun g => [(2, .pointer (some ⟨b2, 0, none⟩)), (5, .slice g.2.1 g.2.2.1 g.2.2.2), (9, .slice a_l l.length c_l), (10, .int .i64 (↑l.length : Int)), (11, .int .i64 (↑g.1 : Int))]) (fun g => [ow J9 [.slice g.2.1 g.2.2.1 g.2.2.2] (S0 o0 (l.take g.1)), pt b2 61 [.slice x7 o0.length x8, .slice v6 d7.length v7]]) (fun g => l.length - g.1) (0, (some ⟨b8, 0, none⟩), 0, 0) ⟨Nat.zero_le _, by simp⟩ ⟨rfl, rfl, rfl, rfl, rfl, trivial⟩ (.refl _) (fun g pg => ?_))))))))))))))))))))
 obtain ⟨g, aA0_0, mA0_0, cA0_0⟩ := g
 try dsimp only at pg
 try dsimp only
 obtain ⟨pk, pa⟩ := pg
 have jp := List.length_take_le g l
 have jn := b0p (h := o0) (l := l.take g)
 have je := b2o (h := o0) (l := l.take g)
 refine i9 m0 fun eaA0_0 laA0_0 => ?_
 subst eaA0_0
 refine Ew Z1 (Ey rfl ((Y.lss rfl rfl).yd) (o6 (fun q12 => ?_) (fun q12 => ?_)))
 ·obtain ⟨eb13, eo13, ec13, ea13, er13, el13, eh13⟩ := hl.elem g om
  obtain ⟨xa13_0, xc13_0, xa13_1, xc13_1, rfl, xh13_0, xh13_1⟩ := a0R er13
  have := xh13_0.slen.2
  have := xh13_1.slen.2
  refine Eu (Eq_ (o2 rfl (j5 (Et (Eq_ (E.block (Ew Z4 (Ey rfl ((r7 us_Bindings ty_Binding rfl ea13 rfl g rfl om).yd) (Ey rfl (o9 (cs := [_, _]) ty_Binding rfl (eh13 _) rfl) (Est rfl (N.alloc ty_Binding dc) (fun b7 _ => (Est rfl (Ns [_, _] ty_Binding rfl) (fun _ _ => (Eu (Ez Z6 (Em rfl (Ey rfl (o9 (cs := [_, _]) ty_Query rfl (Has.pt (mS (mS m0))) rfl) (Ey rfl (o9 (cs := [_, _]) ty_Binding rfl (Has.pt m0) rfl) (Est rfl (N.call (b0G (by first | omega | assumption | (simp; omega))) rfl rfl rfl dc rfl (fun w Lp hA => ⟨hA.ro F6, hA.ro D4, hA.ro xh13_0, hA.ro xh13_1⟩)) (fun k18 _ => ?_))))))))))))))))))))
  obtain ⟨a18, m18, c18⟩ := k18
  refine i9 m0 fun e18 l18 => ?_
  subst e18
  refine r5 (Est rfl (N.call (pre := [_]) (a8h (by first | omega | assumption | (simp; omega)) (by first | omega | assumption | (simp; omega))) rfl rfl rfl dc rfl (fun w Lp hA => hA.ow m0)) (fun k19 _ => ?_))
  obtain ⟨a19, m19, c19⟩ := k19
  refine i9 m0 fun e19 l19 => ?_
  subst e19
  refine Ei rfl (En (t7 (Et (Ez Z2 (Ey rfl ((Y.add rfl rfl om om).yd) (Em rfl (Eu (i7 (Ent.drop (i7 (Ent.drop (j6 (congrArg (ow J9 [_]) (show S5 (S0 o0 (l.take g)) (o0.map (F3 l[g])) = S0 o0 (l.take (g + 1)) from by grind [a3k, a2v, d1, d2, t1, t2])) (i7 (i7 ?_))))))))))))))
  exact Ea (g + 1, a19, (S5 (S0 o0 (l.take g)) (o0.map (F3 l[g]))).length, c19) ⟨oz, trivial⟩
 ·refine Eu (Eq_ (o3 rfl (E.exit (o8 (o8 (x9 (Et (Ew Z2 (Em rfl (Ei rfl (Eu (E.ret (j6 (congrArg (ow J9 [_]) (show _ = S0 o0 l by grind [a3k, a2v, d1, d2, t1, t2])) ?_)))))))))))))
  exact Fg rfl rfl (_, _, _) rfl rfl
theorem a5a {l : List (List Int × List Int)} (hqh : o0.length ≤ 1048576) (hz : l.length ≤ 1000000000000) : Tr Tryz.prog 89 [.agg #[.slice x7 C6 x8, .slice v6 B3 v7], .slice a_l m_l c_l] (fun w L => Ro w L eIs [.slice x7 C6 x8] o0 ∧ Ro w L B7 [.slice v6 B3 v7] d7 ∧ Ro w L u9 [.slice a_l m_l c_l] l) [] (κ := Option Addr × Nat × Nat) (fun k => True) (fun k => .slice k.1 k.2.1 k.2.2) (fun k => [ow J9 [.slice k.1 k.2.1 k.2.2] (S0 o0 l)]) := by
 refine n9 Tryz.func89 rfl (n := 41) rfl (by decide +kernel) bl (fr := [(0, .agg #[.slice x7 C6 x8, .slice v6 B3 v7]), (1, .slice a_l m_l c_l)]) rfl fun w L hR => ?_
 obtain ⟨F6, D4, hl⟩ := hR
 obtain ⟨rfl, a0t⟩ := F6.slen
 obtain ⟨rfl, X6⟩ := D4.slen
 obtain ⟨rfl, ll⟩ := hl.slen
 have jv := b4t hl
 have jw := F6.i64
 refine Ew Z2 (Est rfl (N.box (cs := [_, _]) rfl dc rfl) (fun b2 _ => (Ei rfl (Ev Z2 (Est rfl (Nb [] [] us_Iss ty_Is rfl rfl) (fun b9 _ => (Ent.drop (Ei rfl (Eu (Eq_ (Ew Z1 (Ei rfl (Eu (E.block (s3 (A := []) (Own.nil (E := eIs) (e := tIs) (a := (some ⟨b9, 0, none⟩))) rfl (j6 (congrArg (ow J9 [_]) (show [] = S0 o0 (l.take 0) from by first | rfl | (simp; done) | grind [a3k, a2v, d1, d2, t1, t2])) (E.loop (κ := Nat × Option Addr × Nat × Nat) (fun g => g.1 ≤ l.length ∧ True) (fun g => [(1, .slice a_l l.length c_l), (2, .pointer (some ⟨b2, 0, none⟩)), (5, .slice g.2.1 g.2.2.1 g.2.2.2), (6, .int .i64 (↑g.1 : Int))]) (fun g => [ow J9 [.slice g.2.1 g.2.2.1 g.2.2.2] (S0 o0 (l.take g.1)), pt b2 61 [.slice x7 o0.length x8, .slice v6 d7.length v7]]) (fun g => l.length - g.1) (0, (some ⟨b9, 0, none⟩), 0, 0) ⟨Nat.zero_le _, by simp⟩ ⟨rfl, rfl, rfl, rfl, trivial⟩ (.refl _) (fun g pg => ?_))))))))))))))))))
 obtain ⟨g, aA0_0, mA0_0, cA0_0⟩ := g
 try dsimp only at pg
 try dsimp only
 obtain ⟨pk, pa⟩ := pg
 have jp := List.length_take_le g l
 have jn := b0p (h := o0) (l := l.take g)
 have je := b2o (h := o0) (l := l.take g)
 refine i9 m0 fun eaA0_0 laA0_0 => ?_
 subst eaA0_0
 refine Eq_ (Ew Z4 (Em rfl (Em rfl (Ey rfl ((Y.len us_Bindings rfl).yd) (Ey rfl ((Y.lss rfl rfl).yd) (o6 (fun q13 => ?_) (fun q13 => ?_)))))))
 ·refine Eu (o2 rfl (j5 (Et (Eq_ (E.block (Ew Z2 (Est rfl (Nb [] [] us_Is i8 rfl rfl) (fun b16 _ => (Ent.drop (Ei rfl (Eu (Eq_ (Ew Z1 (Ei rfl (Eu (E.block (s3 (A := []) (Own.nil (E := Enc.int) (e := tI) (a := (some ⟨b16, 0, none⟩))) rfl (j6 (congrArg (ow eIs [_]) (show [] = (o0.take 0).map (F3 l[g]) from by first | rfl | (simp; done) | grind [a3k, a2v, d1, d2, t1, t2])) (E.loop (κ := Nat × Option Addr × Nat × Nat) (fun h => h.1 ≤ o0.length ∧ True) (fun h => [(1, .slice a_l l.length c_l), (2, .pointer (some ⟨b2, 0, none⟩)), (5, .slice aA0_0 (S0 o0 (l.take g)).length cA0_0), (6, .int .i64 (g : Int)), (7, .slice h.2.1 h.2.2.1 h.2.2.2), (8, .int .i64 (↑h.1 : Int))]) (fun h => [ow eIs [.slice h.2.1 h.2.2.1 h.2.2.2] ((o0.take h.1).map (F3 l[g])), ow J9 [.slice aA0_0 (S0 o0 (l.take g)).length cA0_0] (S0 o0 (l.take g)), pt b2 61 [.slice x7 o0.length x8, .slice v6 d7.length v7]]) (fun h => o0.length - h.1) (0, (some ⟨b16, 0, none⟩), 0, 0) ⟨Nat.zero_le _, by simp⟩ ⟨rfl, rfl, rfl, rfl, rfl, rfl, trivial⟩ (.refl _) (fun h ph => ?_))))))))))))))))))))
  obtain ⟨h, aA1_0, mA1_0, cA1_0⟩ := h
  try dsimp only at ph
  try dsimp only
  obtain ⟨pk, pa⟩ := ph
  refine i9 m0 fun eaA1_0 laA1_0 => ?_
  subst eaA1_0
  refine Eq_ (Ew Z5 (Em rfl (Ey rfl ((j7 fo_Query_0 ty_Is dc rfl).yd) (Ey rfl (g9 ty_Is rfl (Hz (mS (mS m0)) 0 rfl) rfl) (Ey rfl ((Y.len us_Is rfl).yd) (Ey rfl ((Y.lss rfl rfl).yd) (o6 (fun q21 => ?_) (fun q21 => ?_))))))))
  ·have jx := a6v (b := l[g]) (jw o0[h] (List.getElem_mem om)) (jv l[g] (List.getElem_mem om)).2
   refine Eu (o2 rfl (j5 (Et (Eq_ (E.block (D.region (fun j => !(Nat.beq j 12)) mixed (Dyp 0 rfl (l3 rfl) (Dyp 1 rfl (l3 rfl) (Dyp 2 rfl (l3 rfl) ?_)))))))))
   obtain ⟨eb27, eo27, ec27, ea27, er27, el27, eh27⟩ := hl.elem g om
   obtain ⟨xa27_0, xc27_0, xa27_1, xc27_1, rfl, xh27_0, xh27_1⟩ := a0R er27
   have := xh27_0.slen.2
   have := xh27_1.slen.2
   refine Dyp 3 rfl (r7 us_Bindings ty_Binding rfl ea27 rfl g rfl om) (Dy 4 rfl (o9 (cs := [_, _]) ty_Binding rfl (eh27 _) rfl) (Dyp 5 rfl (j7 fo_Query_0 ty_Is dc rfl) (Dy 6 rfl (g9 ty_Is rfl (Hz (mS (mS m0)) 0 rfl) rfl) (Dyp 7 rfl (l3 rfl) ?_))))
   obtain ⟨eb32, eo32, ea32, ei32, eh32⟩ := F6.elemI h om
   refine Dyp 8 rfl (r7 us_Is i8 rfl ea32 rfl h rfl om) (Dy 9 rfl (g9 i8 rfl (eh32 _) rfl) (t8 10 rfl rfl kr (fun _ => rfl) (n0 a2F rfl rfl rfl dc (fun w Lp hA => ⟨hA.ro xh27_0, hA.ro xh27_1⟩)) (fun _ _ => (t8 11 rfl rfl kr (fun _ => rfl) (Nb [_] [_] us_Is i8 rfl rfl) (fun b35 _ => (i7 (t8 12 rfl rfl kr (fun h => by cases h) (D6 (E := Enc.int) (ex := F3 l[g] o0[h]) us_Is i8 rfl rfl rfl (Own.int i6) rfl bn bn dc) (fun p36 _ => (Dyp 13 rfl (F7 rfl) (r8 kr (t7 (Et (Ez Z3 (Em rfl (Ey rfl ((Y.add rfl rfl om om).yd) (Ei rfl (Eu (j6 (congrArg (ow eIs [_]) (show ((o0.take h).map (F3 l[g])) ++ [F3 l[g] o0[h]] = (o0.take (h + 1)).map (F3 l[g]) from by grind [a3k, a2v, d1, d2, t1, t2])) (r5 (r5 (r5 ?_)))))))))))))))))))))
   exact Ea (h + 1, p36.1, (((o0.take h).map (F3 l[g])).length + 1), p36.2) ⟨oz, trivial⟩
  ·refine Eu (o3 rfl (E.exit (o8 (o8 (x9 (Et (Ez Z4 (Em rfl (Em rfl (Est rfl (N.call (a9N (by first | omega | assumption | (simp; omega)) (fun x hx => Nat.le_trans (je x hx) hqh) (by first | omega | assumption | (simp; omega))) rfl rfl rfl dc rfl (fun w Lp hA => ⟨hA.ow (mS m0), hA.ow m0⟩)) (fun k39 _ => ?_)))))))))))
   obtain ⟨a39, m39, c39⟩ := k39
   refine i9 m0 fun e39 l39 => ?_
   subst e39
   refine Ei rfl (En (t7 (Et (Ez Z3 (Em rfl (Ey rfl ((Y.add rfl rfl om om).yd) (Ei rfl (Eu (i7 (Ent.drop (i7 (Ent.drop (j6 (congrArg (ow J9 [_]) (show S5 (S0 o0 (l.take g)) ((o0.take h).map (F3 l[g])) = S0 o0 (l.take (g + 1)) from by grind [a3k, a2v, d1, d2, t1, t2])) (i7 (i7 ?_)))))))))))))))
   exact Ea (g + 1, a39, (S5 (S0 o0 (l.take g)) ((o0.take h).map (F3 l[g]))).length, c39) ⟨oz, trivial⟩
 ·refine Eu (o3 rfl (E.exit (o8 (o8 (x9 (Et (Ew Z2 (Em rfl (Ei rfl (Eu (E.ret (j6 (congrArg (ow J9 [_]) (show _ = S0 o0 l by grind [a3k, a2v, d1, d2, t1, t2])) ?_))))))))))))
  exact Fg rfl rfl (_, _, _) rfl rfl
theorem a9c : Tr Tryz.prog 26 [.slice a_a m_a c_a, .int .i64 v] (fun w L => 0 ≤ v ∧ v + ((r9 O9 a : Nat) : Int) ≤ 4611686018427387904) [ow J9 [.slice a_a m_a c_a] a] (κ := Unit) (fun k => True) (fun k => .int .i64 (v + (r9 O9 a : Nat))) (fun k => [ow J9 [.slice a_a m_a c_a] (mkL O9 a2Q a v)]) := by
 refine n9 Tryz.func26 rfl (n := 19) rfl (by decide +kernel) bl (fr := [(0, .slice a_a m_a c_a), (1, .int .i64 v)]) rfl fun w L hR => ?_
 obtain ⟨as0, as1⟩ := hR
 refine i9 m0 fun ea la => ?_
 subst ea
 refine Ew Z1 (Ei rfl (Eu (Eq_ (Ew Z1 (Ei rfl (Eu (E.block (E.loop (κ := Nat) (fun g => g ≤ a.length) (fun g => [(0, .slice a_a a.length c_a), (1, .int .i64 (v + (r9 O9 (a.take g) : Nat))), (5, .int .i64 (g : Int))]) (fun g => [ow J9 [.slice a_a a.length c_a] (mkL O9 a2Q (a.take g) v ++ a.drop g)]) (fun g => a.length - g) 0 (Nat.zero_le _) ⟨rfl, frI (by simp [r9]), rfl, trivial⟩ (.refl _) (fun g pg => ?_)))))))))
 have u1 := R3 (t := O9) (l := a) (g := g)
 have u2 := R3 (t := O9) (l := a) (g := g + 1)
 have hlen : (mkL O9 a2Q (a.take g) v ++ a.drop g).length = a.length := by rw [List.length_append, a1H, ← List.length_append, List.take_append_drop]
 refine Eq_ (Ew Z4 (Em rfl (Em rfl (Ey rfl ((Y.len us_Iss rfl).yd) (Ey rfl ((Y.lss rfl rfl).yd) (o6 (fun q9 => ?_) (fun q9 => ?_)))))))
 ·have u3 := P7 (t := O9) (show g < a.length by omega)
  have u4 : O9 a[g] = r9 E1 a[g] := rfl
  refine Eu (o2 rfl (j5 (Et (Eq_ (E.block (Ez Z7 (Em rfl (Em rfl (a0j m0 om fun ab14 ae14 => (a2e (x := a[g]) g (a7a (show g < a.length by omega)) fun ce14 => (i7 (b8f fun oa14_0 om14_0 oc14_0 oe14 on14_0 => ?_))))))))))))
  subst oe14
  subst on14_0
  refine Ey rfl ((r7 us_Iss ty_Is rfl ae14 rfl g rfl om).yd) (Ey rfl (g9 ty_Is rfl (Has.hole ae14 (mS m0)) rfl) (Em rfl (Est rfl (N.call (pre := [_]) X3 rfl rfl rfl dc rfl (fun w Lp hA => ⟨(by first | assumption | omega), (by first | assumption | omega)⟩)) (fun _ _ => (Ei rfl (En (t7 (Et (Ez Z3 (Em rfl (Ey rfl ((Y.add rfl rfl om om).yd) (Ei rfl (Eu (i7 (a1h Own.ow rfl ?_)))))))))))))))
  exact v8 br (g + 1) ⟨rfl, frI om, rfl, trivial⟩ (a4d (a5P (c := O9) (m := a2Q) (show g < a.length by omega) rfl)) om om
 ·refine Eu (o3 rfl (E.exit (o8 (o8 (x9 (Et (Ew Z2 (Em rfl (Ei rfl (Eu (E.ret (j6 (congrArg (ow J9 [_]) (show mkL O9 a2Q (a.take g) v ++ a.drop g = mkL O9 a2Q a v from by first | exact a2f om | (rw [U8 om]))) ?_))))))))))))
  exact Fg rfl rfl () (by rw [show (v + (r9 O9 a : Nat)) = (v + (r9 O9 (a.take g) : Nat)) from (by first | exact a2f om | (rw [U8 om]))]; try rfl) rfl
theorem a4M (hz : mkL O9 a2Q a v = a) : Tr Tryz.prog 27 [.slice a_a m_a c_a, .int .i64 v] (fun w L => Ro w L J9 [.slice a_a m_a c_a] a ∧ 0 ≤ v ∧ v + ((r9 O9 a : Nat) : Int) ≤ 4611686018427387904) [] (κ := Unit) (fun k => True) (fun k => .int .i64 (v + (r9 O9 a : Nat))) (fun k => []) := by
 refine n9 Tryz.func27 rfl (n := 21) rfl (by decide +kernel) bl (fr := [(0, .slice a_a m_a c_a), (1, .int .i64 v)]) rfl fun w L hR => ?_
 obtain ⟨ha, as0, as1⟩ := hR
 obtain ⟨rfl, la⟩ := ha.slen
 refine Ew Z1 (Ei rfl (Eu (Eq_ (Ew Z1 (Ei rfl (Eu (E.block (E.loop (κ := Nat) (fun g => g ≤ a.length) (fun g => [(0, .slice a_a a.length c_a), (1, .int .i64 (v + (r9 O9 (a.take g) : Nat))), (5, .int .i64 (g : Int))]) (fun g => []) (fun g => a.length - g) 0 (Nat.zero_le _) ⟨rfl, frI (by simp [r9]), rfl, trivial⟩ (.refl _) (fun g pg => ?_)))))))))
 have u1 := R3 (t := O9) (l := a) (g := g)
 have u2 := R3 (t := O9) (l := a) (g := g + 1)
 refine Eq_ (Ew Z4 (Em rfl (Em rfl (Ey rfl ((Y.len us_Iss rfl).yd) (Ey rfl ((Y.lss rfl rfl).yd) (o6 (fun q9 => ?_) (fun q9 => ?_)))))))
 ·have u3 := P7 (t := O9) (show g < a.length by omega)
  have u4 : O9 a[g] = r9 E1 a[g] := rfl
  refine Eu (o2 rfl (j5 (Et (Eq_ (E.block (Ew Z7 (Em rfl (Em rfl ?_))))))))
  obtain ⟨eb14, eo14, ec14, ea14, er14, el14, eh14⟩ := ha.elem g om
  obtain ⟨xa14, xc14, rfl⟩ := er14.sl
  have := er14.slen.2
  refine Ey rfl ((r7 us_Iss ty_Is rfl ea14 rfl g rfl om).yd) (Ey rfl (g9 ty_Is rfl (eh14 _) rfl) (Em rfl (Est rfl (n0 (a5i (a9H hz (show g < a.length by omega))) rfl rfl rfl dc (fun w Lp hA => ⟨hA.ro er14, (by first | assumption | omega), (by first | assumption | omega)⟩)) (fun _ _ => (Ei rfl (Ev Z2 (Em rfl (Ey rfl ((Y.lss rfl rfl).yd) (o6 (fun q19 => ?_) (fun q19 => ?_))))))))))
  ·exact absurd q19 om
  ·refine Eu (o3 rfl (j5 (t7 (Et (Ez Z3 (Em rfl (Ey rfl ((Y.add rfl rfl om om).yd) (Ei rfl ?_))))))))
   exact Eu (v8 br (g + 1) ⟨rfl, frI om, rfl, trivial⟩ (.refl _) om om)
 ·refine Eu (o3 rfl (E.exit (o8 (o8 (x9 (Et (Ew Z2 (Em rfl (Ei rfl ?_)))))))))
  exact Eu (E.ret (Fg rfl rfl () (congrArg (Value.int .i64) (by rw [U8 om])) rfl))
theorem a3K {b : List (List Int)} : Tr Tryz.prog 17 [.slice a_a m_a c_a, .slice a_b m_b c_b] (fun w L => Ro w L J9 [.slice a_a m_a c_a] a ∧ Ro w L J9 [.slice a_b m_b c_b] b) [] (κ := Unit) (fun k => True) (fun k => .bool (decide (a = b))) (fun k => []) := by
 refine n9 Tryz.func17 rfl (n := 27) rfl (by decide +kernel) bl (fr := [(0, .slice a_a m_a c_a), (1, .slice a_b m_b c_b)]) rfl fun w L hR => ?_
 obtain ⟨ha, hb⟩ := hR
 obtain ⟨rfl, la⟩ := ha.slen
 obtain ⟨rfl, lb⟩ := hb.slen
 refine Ew Z1 (Ei rfl (Eu (Eq_ (Ew Z5 (Em rfl (Ey rfl ((Y.len us_Iss rfl).yd) (Em rfl (Ey rfl ((Y.len us_Iss rfl).yd) (Ey rfl ((Y.neq rfl rfl).yd) (o6 (fun q10 => ?_) (fun q10 => ?_)))))))))))
 ·refine Eu (o2 rfl (Ew Z1 (Ei rfl ?_)))
  exact Eu (E.ret (l4 (Fb rfl rfl (by exact a3l q10))))
 ·refine Eu (o3 rfl (j5 (Et (Eq_ (Ew Z1 (Ei rfl (Eu (E.block (E.loop (κ := Nat) (fun g => g ≤ a.length ∧ a.take g = b.take g) (fun g => [(0, .slice a_a a.length c_a), (1, .slice a_b b.length c_b), (5, .int .i64 (g : Int))]) (fun g => []) (fun g => a.length - g) 0 ⟨by omega, by simp⟩ ⟨rfl, rfl, rfl, trivial⟩ (.refl _) (fun g pg => ?_))))))))))
  obtain ⟨pk, pa⟩ := pg
  refine Eq_ (Ew Z4 (Em rfl (Em rfl (Ey rfl ((Y.len us_Iss rfl).yd) (Ey rfl ((Y.lss rfl rfl).yd) (o6 (fun q14 => ?_) (fun q14 => ?_)))))))
  ·refine Eu (o2 rfl (j5 (Et (Eq_ (E.block (Eq_ (D.region (fun j => true) mixed (Dyp 0 rfl (l3 rfl) (Dyp 1 rfl (l3 rfl) ?_)))))))))
   obtain ⟨eb19, eo19, ec19, ea19, er19, el19, eh19⟩ := ha.elem g om
   obtain ⟨xa19, xc19, rfl⟩ := er19.sl
   have := er19.slen.2
   refine Dyp 2 rfl (r7 us_Iss ty_Is rfl ea19 rfl g rfl om) (Dy 3 rfl (g9 ty_Is rfl (eh19 _) rfl) (Dyp 4 rfl (l3 rfl) (Dyp 5 rfl (l3 rfl) ?_)))
   obtain ⟨eb23, eo23, ec23, ea23, er23, el23, eh23⟩ := hb.elem g om
   obtain ⟨xa23, xc23, rfl⟩ := er23.sl
   have := er23.slen.2
   refine Dyp 6 rfl (r7 us_Iss ty_Is rfl ea23 rfl g rfl om) (Dy 7 rfl (g9 ty_Is rfl (eh23 _) rfl) (t8 8 rfl rfl kr (fun _ => rfl) (n0 a0z rfl rfl rfl dc (fun w Lp hA => ⟨hA.ro er19, hA.ro er23⟩)) (fun _ _ => (Ent.b (fun q25 => ?_) (fun q25 => ?_)))))
   ·refine Dyp 9 rfl (Y.not (b := true) rfl) (r8 kr (Et (o3 rfl (j5 (t7 (Et (Ez Z3 (Em rfl (Ey rfl ((Y.add rfl rfl om om).yd) (Ei rfl ?_))))))))))
    exact Eu (v8 br (g + 1) rs (.refl _) ⟨by omega, a1E om om pa (of_decide_eq_true q25)⟩ om)
   ·refine Dyp 9 rfl (Y.not (b := false) rfl) (r8 kr (Et (o2 rfl (Ew Z1 (Ei rfl ?_)))))
    exact Eu (E.ret (w5 (l4 (l4 (w5 (l4 (Fb rfl rfl (by exact a3j (show g < a.length by omega) (show g < b.length by omega) (of_decide_eq_false q25)))))))))
  ·refine Eu (o3 rfl (E.exit (o8 (o8 (x9 (Et (Ew Z1 (Ei rfl ?_))))))))
   exact Eu (E.ret (Fb rfl rfl (by exact a2C (show a.length ≤ g by omega) (show b.length ≤ g by omega) pa)))
end Go.Proofs.YtdopeopehgdccaaGreat
