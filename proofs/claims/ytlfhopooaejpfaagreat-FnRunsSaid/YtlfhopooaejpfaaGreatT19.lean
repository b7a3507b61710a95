import Derived.Test.YtlfhopooaejpfaaGreatT17
import Derived.Test.YtlfhopooaejpfaaGreatT11
import Derived.Test.YtlfhopooaejpfaaGreatT13
namespace Go.Proofs.YtlfhopooaejpfaaGreat
open Go.RowKit
set_option linter.all false
set_option maxHeartbeats 2000000
attribute [local irreducible] Nop Yd Yp Ent Has Tr FnP FnP2 Src M0 S8 V1 W0 G4
variable {f_g : FuncId} {a6 : List (Int × List Int)} {s l : List (List Int)} {x t f9 : List Int} {f_c : List Value} {m_s c_s m_x c_x b_t m_t c_t m_l c_l t6 r5 s7 o1 : Nat} {a_s a_x a_t a_l r6 o2 : Option Addr}
theorem a3n {D_f : (List Int) → Prop} {f : (List Int) → Bool} (hD_f : ∀ x ∈ s, D_f x) : Tr Tryz.prog 232 [.slice a_s m_s c_s, .func (.func f_g) #[] f_c.toArray] (fun w L => Ro w L I3 [.slice a_s m_s c_s] s ∧ FnP Tryz.prog w L f_g f_c eIs a5d D_f f) [] (κ := Unit) (fun k => True) (fun k => .int .i64 (H3 f s)) (fun k => []) := by
 refine Tr.intro Tryz.func232 rfl (n := 19) rfl (by decide +kernel) bl (fr := [(0, .slice a_s m_s c_s), (1, .func (.func f_g) #[] f_c.toArray)]) rfl fun w L hR => ?_
 obtain ⟨hs, hf⟩ := hR
 obtain ⟨rfl, ls⟩ := hs.slen
 refine Ew Z1 (Ei rfl (Eu (Eq_ (Ew Z3 (Em rfl (Ey rfl ((Y.len us_Iss rfl).yd) (Em rfl (Eu (E.block (E.loop (κ := Nat) (fun g => g ≤ s.length ∧ ∀ x ∈ s.take g, f x = false) (fun g => [(0, .slice a_s s.length c_s), (1, .func (.func f_g) #[] f_c.toArray), (7, .int .i64 (↑s.length : Int)), (8, .int .i64 (g : Int))]) (fun g => []) (fun g => s.length - g) 0 ⟨by omega, by simp⟩ ⟨rfl, rfl, rfl, rfl, trivial⟩ (.refl _) (fun g pg => ?_)))))))))))
 obtain ⟨pk, pa⟩ := pg
 refine Ew Z1 (Ey rfl ((Y.lss rfl rfl).yd) (n0 (fun q9 => ?_) (fun q9 => ?_)))
 ·refine Eu (Eq_ (l4 rfl (i8 (Et (Eq_ (E.block (Ew Z2 (Em rfl (Ei rfl (Ev Z6 (Em rfl (Em rfl (Em rfl ?_)))))))))))))
  obtain ⟨eb14, eo14, ec14, ea14, er14, el14, eh14⟩ := hs.elem g om
  obtain ⟨xa14, xc14, rfl⟩ := er14.sl
  have := er14.slen.2
  refine Ey rfl ((o6 us_Iss ty_Is rfl ea14 rfl g rfl om).yd) (Ey rfl (f8 ty_Is rfl (eh14 _) rfl) (Est rfl (N.fn (cs := [_]) hf rfl rfl rfl dc (fun w Lp hA => (hA.ro er14)) (hD_f _ (List.getElem_mem om))) (fun _ _ => (Ent.b (fun q16 => ?_) (fun q16 => ?_)))))
  ·refine Eu (l4 rfl (Ew Z2 (Em rfl (Ei rfl ?_))))
   exact Eu (E.ret (t7 (l0 (l0 (t7 (l0 (Fg rfl rfl () (congrArg (Value.int .i64) (by first | exact M6 om pa q16 | exact K5 om pa)) rfl)))))))
  ·refine Eu (l6 rfl (i8 (o4 (Et (Ez Z2 (Ey rfl ((Y.add rfl rfl om om).yd) (Em rfl ?_)))))))
   exact Eu (u9 br (g + 1) rs (.refl _) ⟨by omega, Q4 om pa q16⟩ om)
 ·refine Eu (Eq_ (l6 rfl (E.exit (n8 (n8 (w5 (Et (Ew Z1 (Ei rfl ?_)))))))))
  exact Eu (E.ret (Fg rfl rfl () (congrArg (Value.int .i64) (by first | exact M6 om pa q16 | exact K5 om pa)) rfl))
theorem a5v {D_f : (List Int) → Prop} {f : (List Int) → Bool} (hD_f : ∀ x ∈ s, D_f x) : Tr Tryz.prog 249 [.slice a_s m_s c_s, .func (.func f_g) #[] f_c.toArray] (fun w L => Ro w L I3 [.slice a_s m_s c_s] s ∧ FnP Tryz.prog w L f_g f_c eIs a5d D_f f) [] (κ := Unit) (fun k => True) (fun k => .bool (s.any f)) (fun k => []) := by
 refine Tr.intro Tryz.func249 rfl (n := 9) rfl (by decide +kernel) bl (fr := [(0, .slice a_s m_s c_s), (1, .func (.func f_g) #[] f_c.toArray)]) rfl fun w L hR => ?_
 obtain ⟨hs, hf⟩ := hR
 obtain ⟨rfl, ls⟩ := hs.slen
 refine Ew Z1 (Ei rfl (Ev Z5 (Em rfl (Em rfl (Est rfl (k6 (a3n (f := f) (D_f := D_f) hD_f) rfl rfl rfl dc (fun w Lp hA => ⟨hA.ro hs, hA.fn hf⟩)) (fun _ _ => (Ey rfl ((Y.geq rfl rfl).yd) (Ei rfl ?_))))))))
 exact Eu (E.ret (Fb rfl rfl (by exact V5)))
theorem a5B : Tr Tryz.prog 250 [.slice a_x m_x c_x, .pointer (some ⟨b_t, 0, none⟩)] (fun w L => (Ro w L eIs [.slice a_x m_x c_x] x) ∧ RoPt w L b_t [.slice a_t m_t c_t] ∧ Ro w L eIs [.slice a_t m_t c_t] t) [] (κ := Unit) (fun k => True) (fun k => .bool (decide (x = t))) (fun k => []) := by
 refine Tr.intro Tryz.func250 rfl (n := 7) rfl (by decide +kernel) bl (fr := [(0, .slice a_x m_x c_x), (1, .pointer (some ⟨b_t, 0, none⟩))]) rfl fun w L hR => ?_
 obtain ⟨hx, hb_t, ht⟩ := hR
 obtain ⟨rfl, lx⟩ := hx.slen
 obtain ⟨rfl, lt⟩ := ht.slen
 refine Ew Z1 (Ei rfl (Ev Z4 (Em rfl (Ey rfl (f8 ty_Is rfl (hb_t.has) rfl) (Est rfl (k6 a0U rfl rfl rfl dc (fun w Lp hA => ⟨hA.ro hx, hA.ro ht⟩)) (fun _ _ => (Ei rfl ?_)))))))
 exact Eu (E.ret (Fg rfl rfl () rfl rfl))
theorem a6W : Tr Tryz.prog 231 [.slice a_l m_l c_l, .slice a_t m_t c_t] (fun w L => Ro w L I3 [.slice a_l m_l c_l] l ∧ Ro w L eIs [.slice a_t m_t c_t] t) [] (κ := Unit) (fun k => True) (fun k => .bool (N3 l t)) (fun k => []) := by
 refine Tr.intro Tryz.func231 rfl (n := 8) rfl (by decide +kernel) bl (fr := [(0, .slice a_l m_l c_l), (1, .slice a_t m_t c_t)]) rfl fun w L hR => ?_
 obtain ⟨hl, ht⟩ := hR
 obtain ⟨rfl, ll⟩ := hl.slen
 obtain ⟨rfl, lt⟩ := ht.slen
 refine Ew Z2 (Est rfl (N.box (cs := [_]) rfl dc rfl) (fun b3 _ => (Ei rfl (Ev Z4 (Em rfl (Ey rfl ((Y.fn (vs := [_]) rfl).yd) (Est rfl (k6 (a5v (f := (fun x => decide (x = t))) (D_f := (fun _ => True)) (by intros; exact trivial)) rfl rfl rfl dc (fun w Lp hA => ⟨hA.ro hl, b0E (D := (fun _ => True)) (fun hd => a5B) (fun w' hk => ⟨(hA.pt m0).keep hk, (hA.ro ht).keep hk⟩)⟩)) (fun _ _ => (Ei rfl ?_)))))))))
 exact Eu (E.ret (Fb rfl rfl (by grind [N3, d1, d2, t1, t2])))
theorem a4z : Tr Tryz.prog 233 [.slice a_x m_x c_x, .pointer (some ⟨b_t, 0, none⟩)] (fun w L => (Ro w L eIs [.slice a_x m_x c_x] x) ∧ RoPt w L b_t [.slice a_t m_t c_t] ∧ Ro w L eIs [.slice a_t m_t c_t] t) [] (κ := Unit) (fun k => True) (fun k => .bool (decide (0 < G6 x t))) (fun k => []) := by
 refine Tr.intro Tryz.func233 rfl (n := 8) rfl (by decide +kernel) bl (fr := [(0, .slice a_x m_x c_x), (1, .pointer (some ⟨b_t, 0, none⟩))]) rfl fun w L hR => ?_
 obtain ⟨hx, hb_t, ht⟩ := hR
 obtain ⟨rfl, lx⟩ := hx.slen
 obtain ⟨rfl, lt⟩ := ht.slen
 refine Ew Z1 (Ei rfl (Ev Z5 (Em rfl (Ey rfl (f8 ty_Is rfl (hb_t.has) rfl) (Est rfl (k6 a0D rfl rfl rfl dc (fun w Lp hA => ⟨hA.ro hx, hA.ro ht⟩)) (fun _ _ => (Ey rfl ((Y.gtr rfl rfl).yd) (Ei rfl ?_))))))))
 exact Eu (E.ret (Fg rfl rfl () rfl rfl))
theorem a5C (hz : l.length ≤ 1000000000000) (ht : t.length ≤ 1048576) : Tr Tryz.prog 191 [.slice a_l m_l c_l, .slice a_t m_t c_t] (fun w L => Ro w L eIs [.slice a_t m_t c_t] t) [ow I3 [.slice a_l m_l c_l] l] (κ := Option Addr × Nat × Nat) (fun k => True) (fun k => .slice k.1 k.2.1 k.2.2) (fun k => [ow I3 [.slice k.1 k.2.1 k.2.2] (K0 l t)]) := by
 refine Tr.intro Tryz.func191 rfl (n := 23) rfl (by decide +kernel) bl (fr := [(0, .slice a_l m_l c_l), (1, .slice a_t m_t c_t)]) rfl fun w L hR => ?_
 have ht := hR
 obtain ⟨rfl, lt⟩ := ht.slen
 refine i9 m0 fun el ll => ?_
 subst el
 refine Ew Z2 (Est rfl (N.box (cs := [_]) rfl dc rfl) (fun b3 _ => (Ei rfl (Eu (Eq_ (Ew Z3 (Em rfl (Ey rfl (f8 ty_Is rfl (Has.pt m0) rfl) (Est rfl (k6 a6W rfl rfl rfl dc (fun w Lp hA => ⟨hA.ow (mS m0), hA.ro ht⟩)) (fun _ _ => (Ent.b (fun q8 => ?_) (fun q8 => ?_))))))))))))
 ·refine Eu (l4 rfl (Ew Z2 (Em rfl (Ei rfl (Eu (E.ret (l0 (f7 (j8 (congrArg (ow I3 [_]) (show _ = K0 l t by grind [a5S, a6f])) ?_)))))))))
  exact Fg rfl rfl (_, _, _) rfl rfl
 ·refine Eu (l6 rfl (i8 (Et (Ew Z4 (Em rfl (Ey rfl ((Y.fn (vs := [_]) rfl).yd) ?_))))))
  have ji := a1U (p := fun z => decide (0 < G6 z t)) (s := l)
  refine Est rfl (k6 (a3n (f := (fun x => decide (0 < G6 x t))) (D_f := (fun _ => True)) (by intros; exact trivial)) rfl rfl rfl dc (fun w Lp hA => ⟨hA.ow (mS m0), b0E (D := (fun _ => True)) (fun hd => a4z) (fun w' hk => ⟨(hA.pt m0).keep hk, (hA.ro ht).keep hk⟩)⟩)) (fun _ _ => (Ei rfl (Eu (Eq_ (Ew Z2 (Em rfl (Ey rfl ((Y.lss rfl rfl).yd) (n0 (fun q14 => ?_) (fun q14 => ?_)))))))))
  ·refine Eu (l4 rfl (Ez Z3 (Em rfl (Ey rfl ((Y.len us_Iss rfl).yd) (Ei rfl (Ev Z7 (Em rfl (Em rfl (Ey rfl (f8 ty_Is rfl (Has.pt m0) rfl) (Est rfl (N.call (a1A fc) rfl rfl rfl dc rfl (fun w Lp hA => hA.ro ht)) (fun k20 _ => ?_)))))))))))
   obtain ⟨a20, m20, c20⟩ := k20
   refine i9 m0 fun e20 l20 => ?_
   subst e20
   refine Est rfl (Nb [_] [_] us_Iss ty_Is rfl rfl) (fun b21 _ => (f7 (f7 (n9 (A := _ :: _) (R3 (E := eIs) (e := tIs) Own.ow) rfl (j6 (Est rfl (N.call (pre := [_, _]) (a5H om (by simp) (by simp; omega)) rfl rfl rfl dc rfl tv) (fun k22 _ => ?_)))))))
   obtain ⟨a22, m22, c22⟩ := k22
   refine i9 m0 fun e22 l22 => ?_
   subst e22
   refine Ei rfl (Eu (E.ret (j8 (congrArg (ow I3 [_]) (show _ = K0 l t by grind [a5S, a6f])) ?_)))
   exact Fg rfl rfl (_, _, _) rfl rfl
  ·refine Eu (l6 rfl (i8 (Et (Ew Z7 (Em rfl (Em rfl (Ey rfl (f8 ty_Is rfl (Has.pt m0) rfl) (Est rfl (N.call (a1A fc) rfl rfl rfl dc rfl (fun w Lp hA => hA.ro ht)) (fun k20 _ => ?_)))))))))
   obtain ⟨a20, m20, c20⟩ := k20
   refine i9 m0 fun e20 l20 => ?_
   subst e20
   refine Est rfl (Nb [_] [_] us_Iss ty_Is rfl rfl) (fun b21 _ => (f7 (f7 (n9 (A := _ :: _) (R3 (E := eIs) (e := tIs) Own.ow) rfl (j6 (Est rfl (N.call (pre := [_, _]) (a5H om (by simp) (by simp; omega)) rfl rfl rfl dc rfl tv) (fun k22 _ => ?_)))))))
   obtain ⟨a22, m22, c22⟩ := k22
   refine i9 m0 fun e22 l22 => ?_
   subst e22
   refine Ei rfl (Eu (E.ret (j8 (congrArg (ow I3 [_]) (show _ = K0 l t by grind [a5S, a6f])) ?_)))
   exact Fg rfl rfl (_, _, _) rfl rfl
theorem a8O {a_a : Option Addr} {m_a c_a : Nat} {a : List Int} {a_b : Option Addr} {m_b c_b : Nat} {b : List Int} : Tr Tryz.prog 146 [.slice a_a m_a c_a, .slice a_b m_b c_b] (fun w L => Ro w L eIs [.slice a_a m_a c_a] a ∧ Ro w L eIs [.slice a_b m_b c_b] b) [] (κ := Unit) (fun k => True) (fun k => .bool (ltT a b)) (fun k => []) := by
 refine Tr.intro Tryz.func146 rfl (n := 41) rfl (by decide +kernel) bl (fr := [(0, .slice a_a m_a c_a), (1, .slice a_b m_b c_b)]) rfl fun w L hR => ?_
 obtain ⟨ha, hb⟩ := hR
 obtain ⟨rfl, la⟩ := ha.slen
 obtain ⟨rfl, lb⟩ := hb.slen
 refine Ew Z1 (Ei rfl (Eu (Eq_ (Ew Z1 (Ei rfl (Eu (E.block (E.loop (κ := Nat) (fun g => g ≤ a.length ∧ g ≤ b.length ∧ G6 a b = G6 (a.drop g) (b.drop g)) (fun g => [(0, .slice a_a a.length c_a), (1, .slice a_b b.length c_b), (5, .int .i64 (g : Int))]) (fun g => []) (fun g => a.length - g) 0 ⟨Nat.zero_le _, by simp⟩ ⟨rfl, rfl, rfl, trivial⟩ (.refl _) (fun g pg => ?_)))))))))
 obtain ⟨pk, pa⟩ := pg
 refine Eq_ (Ew Z10 (Em rfl (Em rfl (Ey rfl ((Y.len us_Is rfl).yd) (Ey rfl ((Y.lss rfl rfl).yd) (n0 (fun q9 => ?_) (fun q9 => ?_)))))))
 ·refine Em rfl (Em rfl (Em rfl (Ey rfl ((Y.len us_Is rfl).yd) (Ey rfl ((Y.lss rfl rfl).yd) (n0 (fun q14 => ?_) (fun q14 => ?_))))))
  ·refine Ey rfl ((s6 rfl rfl).yd) (Eu (l4 rfl (i8 (Et (Eq_ (E.block (Eq_ (D.region (fun j => true) mixed (Dyp 0 rfl (j4 rfl) (Dyp 1 rfl (j4 rfl) ?_))))))))))
   obtain ⟨eb20, eo20, ea20, ei20, eh20⟩ := ha.elemI g om
   refine Dyp 2 rfl (o6 us_Is f0 rfl ea20 rfl g rfl om) (Dy 3 rfl (f8 f0 rfl (eh20 _) rfl) (Dyp 4 rfl (j4 rfl) (Dyp 5 rfl (j4 rfl) ?_)))
   obtain ⟨eb24, eo24, ea24, ei24, eh24⟩ := hb.elemI g om
   refine Dyp 6 rfl (o6 us_Is f0 rfl ea24 rfl g rfl om) (Dy 7 rfl (f8 f0 rfl (eh24 _) rfl) (Dyp 8 rfl (Y.neq rfl rfl) (n0 (fun q26 => ?_) (fun q26 => ?_))))
   ·refine o3 kr (Et (l4 rfl (Eq_ (D.region (fun j => true) mixed (Dyp 0 rfl (j4 rfl) (Dyp 1 rfl (j4 rfl) (Dyp 2 rfl (o6 us_Is f0 rfl ea20 rfl g rfl om) (Dy 3 rfl (f8 f0 rfl (eh20 _) rfl) (Dyp 4 rfl (j4 rfl) (Dyp 5 rfl (j4 rfl) (Dyp 6 rfl (o6 us_Is f0 rfl ea24 rfl g rfl om) (Dy 7 rfl (f8 f0 rfl (eh24 _) rfl) (Dyp 8 rfl (Y.lss rfl rfl) (Dyp 9 rfl (G1 rfl) ?_))))))))))))))
    exact o3 kr (Et (E.ret (t7 (l0 (l0 (t7 (l0 (Fb rfl rfl (by grind [ltT, G6, M5, d1, d2, t1, t2])))))))))
   ·refine o3 kr (Et (l6 rfl (i8 (o4 (Et (Ez Z3 (Em rfl (Ey rfl ((Y.add rfl rfl om om).yd) (Ei rfl ?_)))))))))
    exact Eu (u9 br (g + 1) rs (.refl _) ⟨by omega, by grind [G6, M5, d1, d2, t1, t2]⟩ om)
  ·refine Ey rfl ((s6 rfl rfl).yd) (Eu (l6 rfl (E.exit (n8 (n8 (w5 (Et (Ew Z6 (Em rfl (Ey rfl ((Y.len us_Is rfl).yd) (Em rfl (Ey rfl ((Y.len us_Is rfl).yd) (Ey rfl ((Y.lss rfl rfl).yd) (Ei rfl ?_))))))))))))))
   exact Eu (E.ret (Fb rfl rfl (by grind [ltT, G6, M5, d1, d2, t1, t2])))
 ·refine Em rfl (Es rfl (Es rfl (Es rfl (Es rfl (Ey rfl ((r9 rfl rfl).yd) (Eu (l6 rfl (E.exit (n8 (n8 (w5 (Et (Ew Z6 (Em rfl (Ey rfl ((Y.len us_Is rfl).yd) (Em rfl (Ey rfl ((Y.len us_Is rfl).yd) (Ey rfl ((Y.lss rfl rfl).yd) (Ei rfl ?_)))))))))))))))))))
  exact Eu (E.ret (Fb rfl rfl (by grind [ltT, G6, M5, d1, d2, t1, t2])))
theorem a6V (hz : l.length ≤ 1000000000000) (hyl : ∀ x ∈ l, x.length ≤ 1048576) (ht : t.length ≤ 1048576) : Tr Tryz.prog 130 [.slice a_l m_l c_l, .slice a_t m_t c_t] (fun w L => Ro w L I3 [.slice a_l m_l c_l] l ∧ Ro w L eIs [.slice a_t m_t c_t] t) [] (κ := Option Addr × Nat × Nat) (fun k => True) (fun k => .slice k.1 k.2.1 k.2.2) (fun k => [ow I3 [.slice k.1 k.2.1 k.2.2] (K0 l t)]) := by
 refine Tr.intro Tryz.func130 rfl (n := 65) rfl (by decide +kernel) bl (fr := [(0, .slice a_l m_l c_l), (1, .slice a_t m_t c_t)]) rfl fun w L hR => ?_
 obtain ⟨hl, ht⟩ := hR
 obtain ⟨rfl, ll⟩ := hl.slen
 obtain ⟨rfl, lt⟩ := ht.slen
 refine Ew Z1 (Ei rfl (Ev Z2 (Est rfl (Nb [] [] us_Iss ty_Is rfl rfl) (fun b9 _ => (Ent.drop (Ei rfl (Ev Z1 (Ei rfl (Eu (Eq_ (Ew Z1 (Ei rfl (Eu (E.block (E.loop (κ := Nat) (fun g => g ≤ l.length ∧ True) (fun g => [(0, .slice a_l l.length c_l), (1, .slice a_t t.length c_t), (5, .slice (some ⟨b9, 0, none⟩) 0 0), (6, .bool ((l.take g).any fun x => decide (x = t))), (7, .int .i64 (g : Int))]) (fun g => []) (fun g => l.length - g) (0) ⟨Nat.zero_le _, by simp⟩ ⟨rfl, rfl, rfl, frB (by first | rfl | (simp; done) | grind [K0, E8, E9, F8, D9, N3, d1, d2, t1, t2]), rfl, trivial⟩ (.refl _) (fun g pg => ?_))))))))))))))))
 try dsimp only
 obtain ⟨pk, pa⟩ := pg
 refine Eq_ (Ew Z4 (Em rfl (Em rfl (Ey rfl ((Y.len us_Iss rfl).yd) (Ey rfl ((Y.lss rfl rfl).yd) (n0 (fun q13 => ?_) (fun q13 => ?_)))))))
 ·refine Eu (l4 rfl (i8 (Et (Eq_ (E.block (Ez Z10 (Em rfl (Ent.b (fun q16 => ?_) (fun q16 => ?_)))))))))
  ·refine Em rfl (Es rfl (Es rfl (Es rfl (Es rfl (Es rfl (Es rfl (Ey rfl ((s6 rfl rfl).yd) (Ei rfl (En (o4 (Et (Ez Z3 (Em rfl (Ey rfl ((Y.add rfl rfl om om).yd) (Ei rfl ?_)))))))))))))))
   exact Eu (u9 br (g + 1) ⟨rfl, rfl, rfl, frB (by grind [K0, E8, E9, F8, D9, N3, d1, d2, t1, t2]), rfl, trivial⟩ (.refl _) ⟨oz, trivial⟩ oz)
  ·refine Em rfl (Em rfl (Em rfl ?_))
   obtain ⟨eb20, eo20, ec20, ea20, er20, el20, eh20⟩ := hl.elem g om
   obtain ⟨xa20, xc20, rfl⟩ := er20.sl
   have := er20.slen.2
   refine Ey rfl ((o6 us_Iss ty_Is rfl ea20 rfl g rfl om).yd) (Ey rfl (f8 ty_Is rfl (eh20 _) rfl) (Em rfl (Est rfl (k6 a4w rfl rfl rfl dc (fun w Lp hA => ⟨hA.ro er20, hA.ro ht⟩)) (fun _ _ => (Ey rfl ((r9 rfl rfl).yd) (Ei rfl (Ent.b (fun q6 => ?_) (fun q6 => ?_))))))))
   ·refine En (o4 (Et (Ez Z3 (Em rfl (Ey rfl ((Y.add rfl rfl om om).yd) (Ei rfl ?_))))))
    exact Eu (u9 br (g + 1) ⟨rfl, rfl, rfl, frB (by grind [K0, E8, E9, F8, D9, N3, d1, d2, t1, t2]), rfl, trivial⟩ (.refl _) ⟨oz, trivial⟩ oz)
   ·refine En (o4 (Et (Ez Z3 (Em rfl (Ey rfl ((Y.add rfl rfl om om).yd) (Ei rfl ?_))))))
    exact Eu (u9 br (g + 1) ⟨rfl, rfl, rfl, frB (by grind [K0, E8, E9, F8, D9, N3, d1, d2, t1, t2]), rfl, trivial⟩ (.refl _) ⟨oz, trivial⟩ oz)
 ·refine Eu (l6 rfl (E.exit (n8 (n8 (w5 (Et (Eq_ (Ew Z1 (Ei rfl (Eu (E.block (n9 (A := []) (Own.nil (E := eIs) (e := tIs) (a := (some ⟨b9, 0, none⟩))) rfl (j8 (congrArg (ow I3 [_]) (show [] = J7 (N3 l t) (ltT t) t (l.take 0) from by first | rfl | (simp; done) | grind [K0, E8, E9, F8, D9, N3, d1, d2, t1, t2])) (E.loop (κ := Nat × Option Addr × Nat × Nat) (fun g => g.1 ≤ l.length ∧ True) (fun g => [(0, .slice a_l l.length c_l), (1, .slice a_t t.length c_t), (5, .slice g.2.1 g.2.2.1 g.2.2.2), (6, .bool (N3 l t || (l.take g.1).any (ltT t))), (8, .int .i64 (↑g.1 : Int))]) (fun g => [ow I3 [.slice g.2.1 g.2.2.1 g.2.2.2] (J7 (N3 l t) (ltT t) t (l.take g.1))]) (fun g => l.length - g.1) (0, (some ⟨b9, 0, none⟩), 0, 0) ⟨Nat.zero_le _, by simp⟩ ⟨rfl, rfl, rfl, frB (by first | rfl | (simp; done) | grind [K0, E8, E9, F8, D9, N3, d1, d2, t1, t2]), rfl, trivial⟩ (.refl _) (fun g pg => ?_)))))))))))))))
  obtain ⟨g, aA1_0, mA1_0, cA1_0⟩ := g
  try dsimp only at pg
  try dsimp only
  obtain ⟨pk, pa⟩ := pg
  have jp := List.length_take_le g l
  have ji := a5U (h := N3 l t) (p := (ltT t)) (f := t) (l := l.take g)
  refine i9 m0 fun eaA1_0 laA1_0 => ?_
  subst eaA1_0
  refine Eq_ (Ew Z4 (Em rfl (Em rfl (Ey rfl ((Y.len us_Iss rfl).yd) (Ey rfl ((Y.lss rfl rfl).yd) (n0 (fun q28 => ?_) (fun q28 => ?_)))))))
  ·have jy1 := hyl l[g] (List.getElem_mem om)
   refine Eu (l4 rfl (i8 (Et (Eq_ (E.block (Eq_ (Ew Z10 (Em rfl (Ent.b (fun q31 => ?_) (fun q31 => ?_))))))))))
   ·refine Ey rfl ((Y.not (b := true) rfl).yd) (Em rfl (Es rfl (Es rfl (Es rfl (Es rfl (Es rfl (Es rfl (Ey rfl ((r9 rfl rfl).yd) (Eu (l6 rfl (i8 (Et (Ez Z10 (Em rfl (Est rfl (Nb [] [] us_Is f0 rfl rfl) (fun b48 _ => (Ent.drop (Em rfl (Em rfl ?_)))))))))))))))))))
    obtain ⟨eb51, eo51, ec51, ea51, er51, el51, eh51⟩ := hl.elem g om
    obtain ⟨xa51, xc51, rfl⟩ := er51.sl
    have := er51.slen.2
    refine Ey rfl ((o6 us_Iss ty_Is rfl ea51 rfl g rfl om).yd) (Ey rfl (f8 ty_Is rfl (eh51 _) rfl) (Est rfl (J3 (E := Enc.int) Plain.int us_Is f0 rfl rfl rfl er51 bn bn dc) (fun p53 _ => (Est rfl (Nb [_] [_] us_Iss ty_Is rfl rfl) (fun b54 _ => (f7 (f7 (j6 (Est rfl (y6 (E := eIs) (ex := l[g]) us_Iss ty_Is rfl rfl rfl Own.ow rfl bn bn dc) (fun p55 _ => (Ei rfl (En (o4 (Et (Ez Z3 (Em rfl (Ey rfl ((Y.add rfl rfl om om).yd) (Ei rfl (Eu (j8 (congrArg (ow I3 [_]) (show (J7 (N3 l t) (ltT t) t (l.take g)) ++ [l[g]] = J7 (N3 l t) (ltT t) t (l.take (g + 1)) from by grind [K0, E8, E9, F8, D9, N3, d1, d2, t1, t2])) ?_))))))))))))))))))))
    exact u9 br (g + 1, p55.1, ((J7 (N3 l t) (ltT t) t (l.take g)).length + 1), p55.2) ⟨rfl, rfl, rfl, frB (by grind [K0, E8, E9, F8, D9, N3, d1, d2, t1, t2]), rfl, trivial⟩ (.refl _) ⟨oz, trivial⟩ oz
   ·refine Ey rfl ((Y.not (b := false) rfl).yd) (Em rfl (Em rfl (Em rfl (Em rfl ?_))))
    obtain ⟨eb37, eo37, ec37, ea37, er37, el37, eh37⟩ := hl.elem g om
    obtain ⟨xa37, xc37, rfl⟩ := er37.sl
    have := er37.slen.2
    refine Ey rfl ((o6 us_Iss ty_Is rfl ea37 rfl g rfl om).yd) (Ey rfl (f8 ty_Is rfl (eh37 _) rfl) (Est rfl (k6 a8O rfl rfl rfl dc (fun w Lp hA => ⟨hA.ro ht, hA.ro er37⟩)) (fun _ _ => (Ent.b (fun q39 => ?_) (fun q39 => ?_)))))
    ·refine Ey rfl ((s6 rfl rfl).yd) (Eu (l4 rfl (Ew Z7 (Em rfl (Est rfl (Nb [] [] us_Is f0 rfl rfl) (fun b42 _ => (Ent.drop (Em rfl (Est rfl (J3 (E := Enc.int) Plain.int us_Is f0 rfl rfl rfl ht bn bn dc) (fun p44 _ => (Est rfl (Nb [_] [_] us_Iss ty_Is rfl rfl) (fun b45 _ => (f7 (f7 (j6 (Est rfl (y6 (E := eIs) (ex := t) us_Iss ty_Is rfl rfl rfl Own.ow rfl bn bn dc) (fun p46 _ => (Ei rfl (Eu (Ez Z1 (Ei rfl (Eu (Ez Z10 (Em rfl (Est rfl (Nb [] [] us_Is f0 rfl rfl) (fun b48 _ => ?_))))))))))))))))))))))))))
     refine Ent.drop (Em rfl (Em rfl (Ey rfl ((o6 us_Iss ty_Is rfl ea37 rfl g rfl om).yd) (Ey rfl (f8 ty_Is rfl (eh37 _) rfl) (Est rfl (J3 (E := Enc.int) Plain.int us_Is f0 rfl rfl rfl er37 bn bn dc) (fun p53 _ => (Est rfl (Nb [_] [_] us_Iss ty_Is rfl rfl) (fun b54 _ => (f7 (f7 (j6 (Est rfl (y6 (E := eIs) (ex := l[g]) us_Iss ty_Is rfl rfl rfl Own.ow rfl bn bn dc) (fun p55 _ => (Ei rfl (En (o4 (Et (Ez Z3 (Em rfl (Ey rfl ((Y.add rfl rfl om om).yd) (Ei rfl ?_)))))))))))))))))))))
     refine Eu (j8 (congrArg (ow I3 [_]) (show ((J7 (N3 l t) (ltT t) t (l.take g)) ++ [t]) ++ [l[g]] = J7 (N3 l t) (ltT t) t (l.take (g + 1)) from by grind [K0, E8, E9, F8, D9, N3, d1, d2, t1, t2])) ?_)
     exact u9 br (g + 1, p55.1, (((J7 (N3 l t) (ltT t) t (l.take g)).length + 1) + 1), p55.2) ⟨rfl, rfl, rfl, frB (by grind [K0, E8, E9, F8, D9, N3, d1, d2, t1, t2]), rfl, trivial⟩ (.refl _) ⟨oz, trivial⟩ oz
    ·refine Ey rfl ((s6 rfl rfl).yd) (Eu (l6 rfl (i8 (Et (Ez Z10 (Em rfl (Est rfl (Nb [] [] us_Is f0 rfl rfl) (fun b48 _ => (Ent.drop (Em rfl (Em rfl (Ey rfl ((o6 us_Iss ty_Is rfl ea37 rfl g rfl om).yd) (Ey rfl (f8 ty_Is rfl (eh37 _) rfl) (Est rfl (J3 (E := Enc.int) Plain.int us_Is f0 rfl rfl rfl er37 bn bn dc) (fun p53 _ => (Est rfl (Nb [_] [_] us_Iss ty_Is rfl rfl) (fun b54 _ => (f7 (f7 (j6 (Est rfl (y6 (E := eIs) (ex := l[g]) us_Iss ty_Is rfl rfl rfl Own.ow rfl bn bn dc) (fun p55 _ => (Ei rfl ?_)))))))))))))))))))))))
     refine En (o4 (Et (Ez Z3 (Em rfl (Ey rfl ((Y.add rfl rfl om om).yd) (Ei rfl (Eu (j8 (congrArg (ow I3 [_]) (show (J7 (N3 l t) (ltT t) t (l.take g)) ++ [l[g]] = J7 (N3 l t) (ltT t) t (l.take (g + 1)) from by grind [K0, E8, E9, F8, D9, N3, d1, d2, t1, t2])) ?_))))))))
     exact u9 br (g + 1, p55.1, ((J7 (N3 l t) (ltT t) t (l.take g)).length + 1), p55.2) ⟨rfl, rfl, rfl, frB (by grind [K0, E8, E9, F8, D9, N3, d1, d2, t1, t2]), rfl, trivial⟩ (.refl _) ⟨oz, trivial⟩ oz
  ·refine Eu (l6 rfl (E.exit (n8 (n8 (w5 (Et (Eq_ (Ew Z2 (Em rfl (Ent.b (fun q56 => ?_) (fun q56 => ?_)))))))))))
   ·refine Ey rfl ((Y.not (b := true) rfl).yd) (Eu (l6 rfl (i8 (Et (Ew Z2 (Em rfl (Ei rfl (Eu (E.ret (j8 (congrArg (ow I3 [_]) (show _ = K0 l t by grind [K0, E8, E9, F8, D9, N3, d1, d2, t1, t2])) ?_))))))))))
    exact Fg rfl rfl (_, _, _) rfl rfl
   ·refine Ey rfl ((Y.not (b := false) rfl).yd) (Eu (l4 rfl (Ez Z7 (Em rfl (Est rfl (Nb [] [] us_Is f0 rfl rfl) (fun b59 _ => (Ent.drop (Em rfl (Est rfl (J3 (E := Enc.int) Plain.int us_Is f0 rfl rfl rfl ht bn bn dc) (fun p61 _ => (Est rfl (Nb [_] [_] us_Iss ty_Is rfl rfl) (fun b62 _ => (f7 (f7 (j6 (Est rfl (y6 (E := eIs) (ex := t) us_Iss ty_Is rfl rfl rfl Own.ow rfl bn bn dc) (fun p63 _ => (Ei rfl (Ev Z2 (Em rfl (Ei rfl (Eu (E.ret (j8 (congrArg (ow I3 [_]) (show _ = K0 l t by grind [K0, E8, E9, F8, D9, N3, d1, d2, t1, t2])) ?_))))))))))))))))))))))))
    exact Fg rfl rfl (_, _, _) rfl rfl
theorem a7a {l : List (List Int × List Int)} (hqh : f9.length ≤ 1048576) (hz : l.length ≤ 1000000000000) : Tr Tryz.prog 124 [.agg #[.slice r6 t6 r5, .slice o2 s7 o1], .slice a_l m_l c_l] (fun w L => Ro w L eIs [.slice r6 t6 r5] f9 ∧ Ro w L G8 [.slice o2 s7 o1] a6 ∧ Ro w L B6 [.slice a_l m_l c_l] l) [] (κ := Option Addr × Nat × Nat) (fun k => True) (fun k => .slice k.1 k.2.1 k.2.2) (fun k => [ow I3 [.slice k.1 k.2.1 k.2.2] (O4 f9 l)]) := by
 refine Tr.intro Tryz.func124 rfl (n := 22) rfl (by decide +kernel) bl (fr := [(0, .agg #[.slice r6 t6 r5, .slice o2 s7 o1]), (1, .slice a_l m_l c_l)]) rfl fun w L hR => ?_
 obtain ⟨y8, v6, hl⟩ := hR
 obtain ⟨rfl, N5⟩ := y8.slen
 obtain ⟨rfl, K9⟩ := v6.slen
 obtain ⟨rfl, ll⟩ := hl.slen
 have jv := b1N hl
 have jw := y8.i64
 refine Ew Z2 (Est rfl (N.box (cs := [_, _]) rfl dc rfl) (fun b2 _ => (Ei rfl (Ev Z2 (Est rfl (Nb [] [] us_Iss ty_Is rfl rfl) (fun b8 _ => (Ent.drop (Ei rfl (Eu (Eq_ (Ew Z3 (Em rfl (Ey rfl ((Y.len us_Bindings rfl).yd) (Em rfl (Eu (E.block (n9 (A := []) (Own.nil (E := eIs) (e := tIs) (a := (some ⟨b8, 0, none⟩))) rfl (j8 (congrArg (ow I3 [_]) (show [] = O4 f9 (l.take 0) from by first | rfl | (simp; done) | grind [a1l, a0H, d1, d2, t1, t2])) (E.loop (κ := Nat × Option Addr × Nat × Nat) (fun g => g.1 ≤ l.length ∧ True) (fun g => [(2, .pointer (some ⟨b2, 0, none⟩)), (5, .slice g.2.1 g.2.2.1 g.2.2.2), (9, .slice a_l l.length c_l), (10, .int .i64 (↑l.length : Int)), (11, .int .i64 (↑g.1 : Int))]) (fun g => [ow I3 [.slice g.2.1 g.2.2.1 g.2.2.2] (O4 f9 (l.take g.1)), pt b2 28 [.slice r6 f9.length r5, .slice o2 a6.length o1]]) (fun g => l.length - g.1) (0, (some ⟨b8, 0, none⟩), 0, 0) ⟨Nat.zero_le _, by simp⟩ ⟨rfl, rfl, rfl, rfl, rfl, trivial⟩ (.refl _) (fun g pg => ?_))))))))))))))))))))
 obtain ⟨g, aA0_0, mA0_0, cA0_0⟩ := g
 try dsimp only at pg
 try dsimp only
 obtain ⟨pk, pa⟩ := pg
 have jp := List.length_take_le g l
 have jn := b1E (h := f9) (l := l.take g)
 have je := b2u (h := f9) (l := l.take g)
 refine i9 m0 fun eaA0_0 laA0_0 => ?_
 subst eaA0_0
 refine Ew Z1 (Ey rfl ((Y.lss rfl rfl).yd) (n0 (fun q12 => ?_) (fun q12 => ?_)))
 ·obtain ⟨eb13, eo13, ec13, ea13, er13, el13, eh13⟩ := hl.elem g om
  obtain ⟨xa13_0, xc13_0, xa13_1, xc13_1, rfl, xh13_0, xh13_1⟩ := a1S er13
  have := xh13_0.slen.2
  have := xh13_1.slen.2
  refine Eu (Eq_ (l4 rfl (i8 (Et (Eq_ (E.block (Ew Z4 (Ey rfl ((o6 us_Bindings ty_Binding rfl ea13 rfl g rfl om).yd) (Ey rfl (o0 (cs := [_, _]) ty_Binding rfl (eh13 _) rfl) (Est rfl (N.alloc ty_Binding dc) (fun b7 _ => (Est rfl (Ns [_, _] ty_Binding rfl) (fun _ _ => (Eu (Ez Z6 (Em rfl (Ey rfl (o0 (cs := [_, _]) ty_Query rfl (Has.pt (mS (mS m0))) rfl) (Ey rfl (o0 (cs := [_, _]) ty_Binding rfl (Has.pt m0) rfl) (Est rfl (N.call (a7M (by first | omega | assumption | (simp; omega))) rfl rfl rfl dc rfl (fun w Lp hA => ⟨hA.ro y8, hA.ro v6, hA.ro xh13_0, hA.ro xh13_1⟩)) (fun k18 _ => ?_))))))))))))))))))))
  obtain ⟨a18, m18, c18⟩ := k18
  refine i9 m0 fun e18 l18 => ?_
  subst e18
  refine j6 (Est rfl (N.call (pre := [_]) (a5C (by first | omega | assumption | (simp; omega)) (by first | omega | assumption | (simp; omega))) rfl rfl rfl dc rfl (fun w Lp hA => hA.ow m0)) (fun k19 _ => ?_))
  obtain ⟨a19, m19, c19⟩ := k19
  refine i9 m0 fun e19 l19 => ?_
  subst e19
  refine Ei rfl (En (o4 (Et (Ez Z2 (Ey rfl ((Y.add rfl rfl om om).yd) (Em rfl (Eu (f7 (Ent.drop (f7 (Ent.drop (j8 (congrArg (ow I3 [_]) (show K0 (O4 f9 (l.take g)) (f9.map (B1 l[g])) = O4 f9 (l.take (g + 1)) from by grind [a1l, a0H, d1, d2, t1, t2])) (f7 (f7 ?_))))))))))))))
  exact Ea (g + 1, a19, (K0 (O4 f9 (l.take g)) (f9.map (B1 l[g]))).length, c19) ⟨oz, trivial⟩
 ·refine Eu (Eq_ (l6 rfl (E.exit (n8 (n8 (w5 (Et (Ew Z2 (Em rfl (Ei rfl (Eu (E.ret (j8 (congrArg (ow I3 [_]) (show _ = O4 f9 l by grind [a1l, a0H, d1, d2, t1, t2])) ?_)))))))))))))
  exact Fg rfl rfl (_, _, _) rfl rfl
theorem a2U {l : List (List Int × List Int)} (hqh : f9.length ≤ 1048576) (hz : l.length ≤ 1000000000000) : Tr Tryz.prog 54 [.agg #[.slice r6 t6 r5, .slice o2 s7 o1], .slice a_l m_l c_l] (fun w L => Ro w L eIs [.slice r6 t6 r5] f9 ∧ Ro w L G8 [.slice o2 s7 o1] a6 ∧ Ro w L B6 [.slice a_l m_l c_l] l) [] (κ := Option Addr × Nat × Nat) (fun k => True) (fun k => .slice k.1 k.2.1 k.2.2) (fun k => [ow I3 [.slice k.1 k.2.1 k.2.2] (O4 f9 l)]) := by
 refine Tr.intro Tryz.func54 rfl (n := 41) rfl (by decide +kernel) bl (fr := [(0, .agg #[.slice r6 t6 r5, .slice o2 s7 o1]), (1, .slice a_l m_l c_l)]) rfl fun w L hR => ?_
 obtain ⟨y8, v6, hl⟩ := hR
 obtain ⟨rfl, N5⟩ := y8.slen
 obtain ⟨rfl, K9⟩ := v6.slen
 obtain ⟨rfl, ll⟩ := hl.slen
 have jv := b1N hl
 have jw := y8.i64
 refine Ew Z2 (Est rfl (N.box (cs := [_, _]) rfl dc rfl) (fun b2 _ => (Ei rfl (Ev Z2 (Est rfl (Nb [] [] us_Iss ty_Is rfl rfl) (fun b9 _ => (Ent.drop (Ei rfl (Eu (Eq_ (Ew Z1 (Ei rfl (Eu (E.block (n9 (A := []) (Own.nil (E := eIs) (e := tIs) (a := (some ⟨b9, 0, none⟩))) rfl (j8 (congrArg (ow I3 [_]) (show [] = O4 f9 (l.take 0) from by first | rfl | (simp; done) | grind [a1l, a0H, d1, d2, t1, t2])) (E.loop (κ := Nat × Option Addr × Nat × Nat) (fun g => g.1 ≤ l.length ∧ True) (fun g => [(1, .slice a_l l.length c_l), (2, .pointer (some ⟨b2, 0, none⟩)), (5, .slice g.2.1 g.2.2.1 g.2.2.2), (6, .int .i64 (↑g.1 : Int))]) (fun g => [ow I3 [.slice g.2.1 g.2.2.1 g.2.2.2] (O4 f9 (l.take g.1)), pt b2 28 [.slice r6 f9.length r5, .slice o2 a6.length o1]]) (fun g => l.length - g.1) (0, (some ⟨b9, 0, none⟩), 0, 0) ⟨Nat.zero_le _, by simp⟩ ⟨rfl, rfl, rfl, rfl, trivial⟩ (.refl _) (fun g pg => ?_))))))))))))))))))
 obtain ⟨g, aA0_0, mA0_0, cA0_0⟩ := g
 try dsimp only at pg
 try dsimp only
 obtain ⟨pk, pa⟩ := pg
 have jp := List.length_take_le g l
 have jn := b1E (h := f9) (l := l.take g)
 have je := b2u (h := f9) (l := l.take g)
 refine i9 m0 fun eaA0_0 laA0_0 => ?_
 subst eaA0_0
 refine Eq_ (Ew Z4 (Em rfl (Em rfl (Ey rfl ((Y.len us_Bindings rfl).yd) (Ey rfl ((Y.lss rfl rfl).yd) (n0 (fun q13 => ?_) (fun q13 => ?_)))))))
 ·refine Eu (l4 rfl (i8 (Et (Eq_ (E.block (Ew Z2 (Est rfl (Nb [] [] us_Is f0 rfl rfl) (fun b16 _ => (Ent.drop (Ei rfl (Eu (Eq_ (Ew Z1 (Ei rfl (Eu (E.block (n9 (A := []) (Own.nil (E := Enc.int) (e := tI) (a := (some ⟨b16, 0, none⟩))) rfl (j8 (congrArg (ow eIs [_]) (show [] = (f9.take 0).map (B1 l[g]) from by first | rfl | (simp; done) | grind [a1l, a0H, d1, d2, t1, t2])) (E.loop (κ := Nat × Option Addr × Nat × Nat) (fun h => h.1 ≤ f9.length ∧ True) (fun h => [(1, .slice a_l l.length c_l), (2, .pointer (some ⟨b2, 0, none⟩)), (5, .slice aA0_0 (O4 f9 (l.take g)).length cA0_0), (6, .int .i64 (g : Int)), (7, .slice h.2.1 h.2.2.1 h.2.2.2), (8, .int .i64 (↑h.1 : Int))]) (fun h => [ow eIs [.slice h.2.1 h.2.2.1 h.2.2.2] ((f9.take h.1).map (B1 l[g])), ow I3 [.slice aA0_0 (O4 f9 (l.take g)).length cA0_0] (O4 f9 (l.take g)), pt b2 28 [.slice r6 f9.length r5, .slice o2 a6.length o1]]) (fun h => f9.length - h.1) (0, (some ⟨b16, 0, none⟩), 0, 0) ⟨Nat.zero_le _, by simp⟩ ⟨rfl, rfl, rfl, rfl, rfl, rfl, trivial⟩ (.refl _) (fun h ph => ?_))))))))))))))))))))
  obtain ⟨h, aA1_0, mA1_0, cA1_0⟩ := h
  try dsimp only at ph
  try dsimp only
  obtain ⟨pk, pa⟩ := ph
  refine i9 m0 fun eaA1_0 laA1_0 => ?_
  subst eaA1_0
  refine Eq_ (Ew Z5 (Em rfl (Ey rfl ((i7 fo_Query_0 ty_Is dc rfl).yd) (Ey rfl (f8 ty_Is rfl (Hz (mS (mS m0)) 0 rfl) rfl) (Ey rfl ((Y.len us_Is rfl).yd) (Ey rfl ((Y.lss rfl rfl).yd) (n0 (fun q21 => ?_) (fun q21 => ?_))))))))
  ·have jx := a3T (b := l[g]) (jw f9[h] (List.getElem_mem om)) (jv l[g] (List.getElem_mem om)).2
   refine Eu (l4 rfl (i8 (Et (Eq_ (E.block (D.region (fun j => !(Nat.beq j 12)) mixed (Dyp 0 rfl (j4 rfl) (Dyp 1 rfl (j4 rfl) (Dyp 2 rfl (j4 rfl) ?_)))))))))
   obtain ⟨eb27, eo27, ec27, ea27, er27, el27, eh27⟩ := hl.elem g om
   obtain ⟨xa27_0, xc27_0, xa27_1, xc27_1, rfl, xh27_0, xh27_1⟩ := a1S er27
   have := xh27_0.slen.2
   have := xh27_1.slen.2
   refine Dyp 3 rfl (o6 us_Bindings ty_Binding rfl ea27 rfl g rfl om) (Dy 4 rfl (o0 (cs := [_, _]) ty_Binding rfl (eh27 _) rfl) (Dyp 5 rfl (i7 fo_Query_0 ty_Is dc rfl) (Dy 6 rfl (f8 ty_Is rfl (Hz (mS (mS m0)) 0 rfl) rfl) (Dyp 7 rfl (j4 rfl) ?_))))
   obtain ⟨eb32, eo32, ea32, ei32, eh32⟩ := y8.elemI h om
   refine Dyp 8 rfl (o6 us_Is f0 rfl ea32 rfl h rfl om) (Dy 9 rfl (f8 f0 rfl (eh32 _) rfl) (u7 10 rfl rfl kr (fun _ => rfl) (k6 a1E rfl rfl rfl dc (fun w Lp hA => ⟨hA.ro xh27_0, hA.ro xh27_1⟩)) (fun _ _ => (u7 11 rfl rfl kr (fun _ => rfl) (Nb [_] [_] us_Is f0 rfl rfl) (fun b35 _ => (f7 (u7 12 rfl rfl kr (fun h => by cases h) (y6 (E := Enc.int) (ex := B1 l[g] f9[h]) us_Is f0 rfl rfl rfl (Own.int i6) rfl bn bn dc) (fun p36 _ => (Dyp 13 rfl (G1 rfl) (o3 kr (o4 (Et (Ez Z3 (Em rfl (Ey rfl ((Y.add rfl rfl om om).yd) (Ei rfl (Eu (j8 (congrArg (ow eIs [_]) (show ((f9.take h).map (B1 l[g])) ++ [B1 l[g] f9[h]] = (f9.take (h + 1)).map (B1 l[g]) from by grind [a1l, a0H, d1, d2, t1, t2])) (j6 (j6 (j6 ?_)))))))))))))))))))))
   exact Ea (h + 1, p36.1, (((f9.take h).map (B1 l[g])).length + 1), p36.2) ⟨oz, trivial⟩
  ·refine Eu (l6 rfl (E.exit (n8 (n8 (w5 (Et (Ez Z4 (Em rfl (Em rfl (Est rfl (N.call (a6V (by first | omega | assumption | (simp; omega)) (fun x hx => Nat.le_trans (je x hx) hqh) (by first | omega | assumption | (simp; omega))) rfl rfl rfl dc rfl (fun w Lp hA => ⟨hA.ow (mS m0), hA.ow m0⟩)) (fun k39 _ => ?_)))))))))))
   obtain ⟨a39, m39, c39⟩ := k39
   refine i9 m0 fun e39 l39 => ?_
   subst e39
   refine Ei rfl (En (o4 (Et (Ez Z3 (Em rfl (Ey rfl ((Y.add rfl rfl om om).yd) (Ei rfl (Eu (f7 (Ent.drop (f7 (Ent.drop (j8 (congrArg (ow I3 [_]) (show K0 (O4 f9 (l.take g)) ((f9.take h).map (B1 l[g])) = O4 f9 (l.take (g + 1)) from by grind [a1l, a0H, d1, d2, t1, t2])) (f7 (f7 ?_)))))))))))))))
   exact Ea (g + 1, a39, (K0 (O4 f9 (l.take g)) ((f9.take h).map (B1 l[g]))).length, c39) ⟨oz, trivial⟩
 ·refine Eu (l6 rfl (E.exit (n8 (n8 (w5 (Et (Ew Z2 (Em rfl (Ei rfl (Eu (E.ret (j8 (congrArg (ow I3 [_]) (show _ = O4 f9 l by grind [a1l, a0H, d1, d2, t1, t2])) ?_))))))))))))
  exact Fg rfl rfl (_, _, _) rfl rfl
theorem a5Y {s : List Int} {a_facts : Option Addr} {m_facts c_facts : Nat} {d4 : List (Int × List Int)} (hz : O5 (fun x => x.2.length) a6 ≤ 1048576) : Tr Tryz.prog 14 [.slice a_s m_s c_s, .agg #[.slice r6 t6 r5, .slice o2 s7 o1], .slice a_facts m_facts c_facts] (fun w L => Ro w L eIs [.slice a_s m_s c_s] s ∧ Ro w L eIs [.slice r6 t6 r5] f9 ∧ Ro w L G8 [.slice o2 s7 o1] a6 ∧ Ro w L r7 [.slice a_facts m_facts c_facts] d4) [] (κ := Option Addr × Nat × Nat) (fun k => True) (fun k => .slice k.1 k.2.1 k.2.2) (fun k => [ow I3 [.slice k.1 k.2.1 k.2.2] (V9 s (f9, a6) d4)]) := by
 refine Tr.intro Tryz.func14 rfl (n := 23) rfl (by decide +kernel) bl (fr := [(0, .slice a_s m_s c_s), (1, .agg #[.slice r6 t6 r5, .slice o2 s7 o1]), (2, .slice a_facts m_facts c_facts)]) rfl fun w L hR => ?_
 obtain ⟨hs, y8, v6, hfacts⟩ := hR
 obtain ⟨rfl, ls⟩ := hs.slen
 obtain ⟨rfl, N5⟩ := y8.slen
 obtain ⟨rfl, K9⟩ := v6.slen
 obtain ⟨rfl, lfacts⟩ := hfacts.slen
 refine Ew Z2 (Est rfl (N.box (cs := [_, _]) rfl dc rfl) (fun b4 _ => (Ei rfl (Eu (Eq_ (Ew Z10 (Em rfl (Ey rfl (o0 (cs := [_, _]) ty_Query rfl (Has.pt m0) rfl) (Est rfl (k6 (a3F (fo)) rfl rfl rfl dc (fun w Lp hA => ⟨hA.ro hs, hA.ro y8, hA.ro v6⟩)) (fun _ _ => (Ent.b (fun q9 => ?_) (fun q9 => ?_))))))))))))
 ·refine Ey rfl ((Y.not (b := true) rfl).yd) (Em rfl (Em rfl (Em rfl (Est rfl (k6 a0z rfl rfl rfl dc (fun w Lp hA => ⟨hA.ro hs, hA.ro hfacts⟩)) (fun _ _ => (Ent.b (fun q14 => ?_) (fun q14 => ?_)))))))
  ·refine Ey rfl ((Y.not (b := true) rfl).yd) (Ey rfl ((r9 rfl rfl).yd) (Eu (l6 rfl (i8 (Et (Eq_ (D.region (fun j => true) mixed (Dy 0 rfl (o0 (cs := [_, _]) ty_Query rfl (Has.pt m0) rfl) (Dy 1 rfl (o0 (cs := [_, _]) ty_Query rfl (Has.pt m0) rfl) (Dyp 2 rfl (j4 rfl) (u7 3 rfl rfl kr (fun _ => rfl) (N.call (a5z ((R6 (s := s) (q := (f9, a6)) (by assumption)).1) ((R6 (s := s) (q := (f9, a6)) (by assumption)).2.2) ((fun a _ => b7s (K3 (s := s) (by assumption)).1))) rfl rfl rfl dc rfl (fun w Lp hA => ⟨hA.ro y8, hA.ro v6, hA.ro hfacts⟩)) (fun k21 _ => ?_))))))))))))
   obtain ⟨a21, m21, c21⟩ := k21
   refine i9 m0 fun e21 l21 => ?_
   subst e21
   refine u7 4 rfl rfl kr (fun _ => rfl) (N.call (a2U ((Nat.le_trans (R6 (s := s) (q := (f9, a6)) (by assumption)).2.1 dc)) ((Nat.le_trans (b0d (d4 := d4) (K3 (s := s) (by assumption)).1 (R6 (s := s) (q := (f9, a6)) (by assumption)).1 (R6 (s := s) (q := (f9, a6)) (by assumption)).2.2).1 dc))) rfl rfl rfl dc rfl (fun w Lp hA => ⟨hA.ro y8, hA.ro v6, hA.ow m0⟩)) (fun k22 _ => ?_)
   obtain ⟨a22, m22, c22⟩ := k22
   refine i9 m0 fun e22 l22 => ?_
   subst e22
   refine Dyp 5 rfl (G1 rfl) (o3 kr (Et (E.ret (j8 (congrArg (ow I3 [_]) (show _ = V9 s (f9, a6) d4 by grind [V9, d1, d2, t1, t2])) ?_))))
   exact Fg rfl rfl (_, _, _) rfl rfl
  ·refine Ey rfl ((Y.not (b := false) rfl).yd) (Ey rfl ((r9 rfl rfl).yd) (Eu (l4 rfl (Ew Z2 (Est rfl (Nb [] [] us_Iss ty_Is rfl rfl) (fun b17 _ => (Ent.drop (Ei rfl (Eu (E.ret (l0 (n9 (A := []) (Own.nil (E := eIs) (e := tIs) (a := (some ⟨b17, 0, none⟩))) rfl (j8 (congrArg (ow I3 [_]) (show _ = V9 s (f9, a6) d4 by grind [V9, d1, d2, t1, t2])) ?_)))))))))))))
   exact Fg rfl rfl ((some ⟨b17, 0, none⟩), 0, 0) rfl rfl
 ·refine Ey rfl ((Y.not (b := false) rfl).yd) (Em rfl (Es rfl (Es rfl (Es rfl (Es rfl (Ey rfl ((s6 rfl rfl).yd) (Eu (l4 rfl (Ew Z2 (Est rfl (Nb [] [] us_Iss ty_Is rfl rfl) (fun b17 _ => (Ent.drop (Ei rfl (Eu (E.ret (l0 (n9 (A := []) (Own.nil (E := eIs) (e := tIs) (a := (some ⟨b17, 0, none⟩))) rfl (j8 (congrArg (ow I3 [_]) (show _ = V9 s (f9, a6) d4 by grind [V9, d1, d2, t1, t2])) ?_))))))))))))))))))
  exact Fg rfl rfl ((some ⟨b17, 0, none⟩), 0, 0) rfl rfl
end Go.Proofs.YtlfhopooaejpfaaGreat
