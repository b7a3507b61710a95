import Derived.Test.YthapcdhdfaibkaaGreatDoorT17
namespace Go.Proofs.YthapcdhdfaibkaaGreatDoor
open Go.RowKit
set_option linter.all false
set_option maxHeartbeats 2000000
attribute [local irreducible] Nop Yd Yp Ent Has Tr FnP FnP2 Src M5 U1 V6 W3 G3
variable {f_g : FuncId} {d4 d6 : List IL} {s l : List (List Int)} {x t j8 : List Int} {f_c : List Value} {m_s c_s m_x c_x b_t m_t c_t m_l c_l D9 y8 C6 v6 m_facts c_facts : Nat} {a_s a_x a_t a_l y9 v7 a_facts : Option Addr}
theorem a5I {D_f : (List Int) → Prop} {f : (List Int) → Bool} (hD_f : ∀ x ∈ s, D_f x) : Tr Tryz.prog 299 [.slice a_s m_s c_s, .func (.func f_g) #[] f_c.toArray] (fun w L => Ro w L H3 [.slice a_s m_s c_s] s ∧ FnP Tryz.prog w L f_g f_c eIs a7s D_f f) [] (κ := Unit) (fun k => True) (fun k => .int .i64 (J0 f s)) (fun k => []) := by
 refine Ti2 Tryz.func299 19 rfl fun w L hR => ?_
 obtain ⟨hs, hf⟩ := hR
 obtain ⟨rfl, ls⟩ := hs.slen
 refine Ew Z1<|Ei rfl<|Eu<|Eq_<|Ew Z3<|Em rfl<|Yln us_Iss rfl<|Em rfl<|Eu<|E.block<|Lo (κ := Nat) (fun g => g ≤ s.length ∧ ∀ x ∈ s.take g, f x = false) (fun g => [(0, .slice a_s s.length c_s), (1, .func (.func f_g) #[] f_c.toArray), (7, .int .i64 (↑s.length : Int)), (8, .int .i64 (g : Int))]) (fun g => []) (fun g => s.length - g) 0 ⟨by omega, by simp⟩<|fun g pg => ?_
 obtain ⟨pk, pa⟩ := pg
 refine Ew Z1<|Ylt rfl<|l3 (fun q9 => ?_)<|fun q9 => ?_
 ·refine Eu<|Eq_<|Ct<|Eq_<|E.block<|Ew Z2<|Em rfl<|Ei rfl<|Ev Z6<|Em rfl<|Em rfl<|Em rfl ?_
  obtain ⟨eb14, eo14, ec14, ea14, er14, el14, eh14⟩ := hs.elem g om
  obtain ⟨xa14, xc14, rfl⟩ := er14.sl
  have := er14.slen.2
  refine Il us_Iss ty_Is rfl ea14 g rfl om rfl (eh14 _)<|Est rfl (N.fn (cs := [_]) hf rfl rfl rfl dc (fun w Lp hA => hA.ro er14)<|hD_f _<|List.getElem_mem om)<|fun _ _ => Ent.b (fun q16 => ?_)<|fun q16 => ?_
  ·refine Eu<|r6 rfl<|Ew Z2<|Em rfl<|Ei rfl<|Eu<|E.ret<|u6<|i9<|i9<|u6<|i9<|Fg rfl rfl () (congrArg (Value.int .i64) (by first | exact Q4 om pa q16 | exact P1 om pa)) rfl
  ·refine Eu<|r7 rfl<|v8<|o6<|Et<|Ez Z2<|Yad rfl om om<|Em rfl ?_
   exact Eu<|t7 br (g + 1) rs (.refl _) ⟨by omega, U7 om pa q16⟩ om
 ·refine Eu<|Eq_<|r7 rfl<|E.exit<|l4<|l4<|w8<|Et<|Ew Z1<|Ei rfl<|Eu<|E.ret<|Fg rfl rfl () (congrArg (Value.int .i64) (by first | exact Q4 om pa q16 | exact P1 om pa)) rfl
theorem a8p {D_f : (List Int) → Prop} {f : (List Int) → Bool} (hD_f : ∀ x ∈ s, D_f x) : TB Tryz.prog 224 [.slice a_s m_s c_s, .func (.func f_g) #[] f_c.toArray] (fun w L => Ro w L H3 [.slice a_s m_s c_s] s ∧ FnP Tryz.prog w L f_g f_c eIs a7s D_f f) (s.any f) := by
 refine Ti2 Tryz.func224 9 rfl fun w L hR => ?_
 obtain ⟨hs, hf⟩ := hR
 obtain ⟨rfl, ls⟩ := hs.slen
 refine Ew Z1<|Ei rfl<|Ev Z5<|Em rfl<|Em rfl<|E0 rfl (a5I (f := f) (D_f := D_f) hD_f) rfl (fun hA => ⟨hA.ro hs, hA.fn hf⟩)<|Ey rfl ((Y.geq rfl rfl).yd)<|Ei rfl<|Eu<|E.ret<|Fb rfl rfl (by exact a0p)
theorem a8i : TB Tryz.prog 225 [.slice a_x m_x c_x, .pointer (some ⟨b_t, 0, none⟩)] (fun w L => (Ro w L eIs [.slice a_x m_x c_x] x) ∧ RoPt w L b_t [.slice a_t m_t c_t] ∧ Ro w L eIs [.slice a_t m_t c_t] t) (decide (x = t)) := by
 refine Ti2 Tryz.func225 7 rfl fun w L hR => ?_
 obtain ⟨hx, hb_t, ht⟩ := hR
 obtain ⟨rfl, lx⟩ := hx.slen
 obtain ⟨rfl, lt⟩ := ht.slen
 refine Ew Z1<|Ei rfl<|Ev Z4<|Em rfl<|Ey rfl (B4 ty_Is rfl (hb_t.has) rfl)<|E0 rfl a2B rfl (fun hA => ⟨hA.ro hx, hA.ro ht⟩)<|Ei rfl<|Eu<|E.ret<|Fg rfl rfl () rfl rfl
theorem a3f : TB Tryz.prog 114 [.slice a_l m_l c_l, .slice a_t m_t c_t] (fun w L => Ro w L H3 [.slice a_l m_l c_l] l ∧ Ro w L eIs [.slice a_t m_t c_t] t) (T0 l t) := by
 refine Ti2 Tryz.func114 8 rfl fun w L hR => ?_
 obtain ⟨hl, ht⟩ := hR
 obtain ⟨rfl, ll⟩ := hl.slen
 obtain ⟨rfl, lt⟩ := ht.slen
 refine Ew Z2<|Est rfl (N.box (cs := [_]) rfl dc rfl)<|fun b3 _ => Ei rfl<|Ev Z4<|Em rfl<|Ey rfl ((Y.fn (vs := [_]) rfl).yd)<|E0 rfl (a8p (f := (fun x => decide (x = t))) (D_f := (fun _ => True)) (by intros; exact trivial)) rfl (fun hA => ⟨hA.ro hl, b3r (D := (fun _ => True)) (fun hd => a8i)<|fun w' hk => ⟨(hA.pt m0).keep hk, (hA.ro ht).keep hk⟩⟩)<|Ei rfl<|Eu<|E.ret<|Fb rfl rfl (by grind [T0, d1, d2, t1, t2])
theorem a6S : TB Tryz.prog 300 [.slice a_x m_x c_x, .pointer (some ⟨b_t, 0, none⟩)] (fun w L => (Ro w L eIs [.slice a_x m_x c_x] x) ∧ RoPt w L b_t [.slice a_t m_t c_t] ∧ Ro w L eIs [.slice a_t m_t c_t] t) (decide (0 < K5 x t)) := by
 refine Ti2 Tryz.func300 8 rfl fun w L hR => ?_
 obtain ⟨hx, hb_t, ht⟩ := hR
 obtain ⟨rfl, lx⟩ := hx.slen
 obtain ⟨rfl, lt⟩ := ht.slen
 refine Ew Z1<|Ei rfl<|Ev Z5<|Em rfl<|Ey rfl (B4 ty_Is rfl (hb_t.has) rfl)<|E0 rfl a2e rfl (fun hA => ⟨hA.ro hx, hA.ro ht⟩)<|Ey rfl ((Y.gtr rfl rfl).yd)<|Ei rfl<|Eu<|E.ret<|Fg rfl rfl () rfl rfl
theorem a8g (hz : l.length ≤ 1000000000000) (ht : t.length ≤ 1048576) : Tr Tryz.prog 201 [.slice a_l m_l c_l, .slice a_t m_t c_t] (fun w L => Ro w L eIs [.slice a_t m_t c_t] t) [ow H3 [.slice a_l m_l c_l] l] (κ := SL) (fun k => True) (fun k => .slice k.1 k.2.1 k.2.2) (fun k => [ow H3 [.slice k.1 k.2.1 k.2.2] (U0 l t)]) := by
 refine Ti2 Tryz.func201 23 rfl fun w L hR => ?_
 have ht := hR
 obtain ⟨rfl, lt⟩ := ht.slen
 refine r8 m0 ?_
 rintro rfl ll
 refine Ew Z2<|Est rfl (N.box (cs := [_]) rfl dc rfl)<|fun b3 _ => Ei rfl<|Eu<|Eq_<|Ew Z3<|Em rfl<|Ey rfl (B4 ty_Is rfl (Has.pt m0) rfl)<|E0 rfl a3f rfl (fun hA => ⟨hA.ow<|mS m0, hA.ro ht⟩)<|Ent.b (fun q8 => ?_)<|fun q8 => ?_
 ·refine Eu<|r6 rfl<|Ew Z2<|Em rfl<|Ei rfl<|Eu<|E.ret<|i9<|f5<|g9 (congrArg (ow H3 [_]) (show _ = U0 l t by grind [a8z, a8G]))<|Fg rfl rfl (_, _, _) rfl rfl
 ·refine Eu<|Cf<|Ew Z4<|Em rfl<|Ey rfl ((Y.fn (vs := [_]) rfl).yd) ?_
  have ji := a0G (p := fun z => decide (0 < K5 z t)) (s := l)
  refine E0 rfl (a5I (f := (fun x => decide (0 < K5 x t))) (D_f := (fun _ => True)) (by intros; exact trivial)) rfl (fun hA => ⟨hA.ow<|mS m0, b3r (D := (fun _ => True)) (fun hd => a6S)<|fun w' hk => ⟨(hA.pt m0).keep hk, (hA.ro ht).keep hk⟩⟩)<|Ei rfl<|Eu<|Eq_<|Ew Z2<|Em rfl<|Ylt rfl<|l3 (fun q14 => ?_)<|fun q14 => ?_
  ·refine Eu<|r6 rfl<|Ez Z3<|Em rfl<|Yln us_Iss rfl<|Ei rfl<|Ev Z7<|Em rfl<|Em rfl<|Ey rfl (B4 ty_Is rfl (Has.pt m0) rfl)<|El rfl (a3q fc) rfl (fun hA => hA.ro ht)<|fun a20 c20 l20 => ?_
   refine Est rfl (Nb [_] [_] us_Iss ty_Is rfl rfl)<|fun b21 _ => f5<|f5<|l6 (A := _ :: _) (U5 (E := eIs) (e := tIs) Own.ow) rfl<|i8<|Est rfl (N.call (pre := [_, _]) (a8t om (by simp) (by simp; omega)) rfl rfl rfl dc rfl tv)<|fun k22 _ => ?_
   obtain ⟨a22, m22, c22⟩ := k22
   refine r8 m0 ?_
   rintro rfl l22
   refine Ei rfl<|Eu<|E.ret<|g9 (congrArg (ow H3 [_]) (show _ = U0 l t by grind [a8z, a8G]))<|Fg rfl rfl (_, _, _) rfl rfl
  ·refine Eu<|Cf<|Ew Z7<|Em rfl<|Em rfl<|Ey rfl (B4 ty_Is rfl (Has.pt m0) rfl)<|El rfl (a3q fc) rfl (fun hA => hA.ro ht)<|fun a20 c20 l20 => ?_
   refine Est rfl (Nb [_] [_] us_Iss ty_Is rfl rfl)<|fun b21 _ => f5<|f5<|l6 (A := _ :: _) (U5 (E := eIs) (e := tIs) Own.ow) rfl<|i8<|Est rfl (N.call (pre := [_, _]) (a8t om (by simp) (by simp; omega)) rfl rfl rfl dc rfl tv)<|fun k22 _ => ?_
   obtain ⟨a22, m22, c22⟩ := k22
   refine r8 m0 ?_
   rintro rfl l22
   refine Ei rfl<|Eu<|E.ret<|g9 (congrArg (ow H3 [_]) (show _ = U0 l t by grind [a8z, a8G]))<|Fg rfl rfl (_, _, _) rfl rfl
theorem b1B {a_a : Option Addr} {m_a c_a : Nat} {a : List Int} {a_b : Option Addr} {m_b c_b : Nat} {b : List Int} : TB Tryz.prog 245 [.slice a_a m_a c_a, .slice a_b m_b c_b] (fun w L => Ro w L eIs [.slice a_a m_a c_a] a ∧ Ro w L eIs [.slice a_b m_b c_b] b) (ltT a b) := by
 refine Ti2 Tryz.func245 41 rfl fun w L hR => ?_
 obtain ⟨ha, hb⟩ := hR
 obtain ⟨rfl, la⟩ := ha.slen
 obtain ⟨rfl, lb⟩ := hb.slen
 refine Ew Z1<|Ei rfl<|Eu<|Eq_<|Ew Z1<|Ei rfl<|Eu<|E.block<|Lo (κ := Nat) (fun g => g ≤ a.length ∧ g ≤ b.length ∧ K5 a b = K5 (a.drop g) (b.drop g)) (fun g => [(0, .slice a_a a.length c_a), (1, .slice a_b b.length c_b), (5, .int .i64 (g : Int))]) (fun g => []) (fun g => a.length - g) 0 ⟨Nat.zero_le _, by simp⟩<|fun g pg => ?_
 obtain ⟨pk, pa⟩ := pg
 refine Eq_<|Ew Z10<|Em rfl<|Em rfl<|Yln us_Is rfl<|Ylt rfl<|l3 (fun q9 => ?_)<|fun q9 => ?_
 ·refine Em rfl<|Em rfl<|Em rfl<|Yln us_Is rfl<|Ylt rfl<|l3 (fun q14 => ?_)<|fun q14 => ?_
  ·refine Ypt rfl<|Eu<|Ct<|Eq_<|E.block<|Eq_<|D.region (fun j => true) mixed<|Dm 0 rfl<|Dm 1 rfl ?_
   obtain ⟨eb20, eo20, ea20, ei20, eh20⟩ := ha.elemI g om
   refine Dyp 2 rfl (z8 us_Is i7 rfl ea20 rfl g rfl om)<|Dy 3 rfl (B4 i7 rfl (eh20 _) rfl)<|Dm 4 rfl<|Dm 5 rfl ?_
   obtain ⟨eb24, eo24, ea24, ei24, eh24⟩ := hb.elemI g om
   refine Dyp 6 rfl (z8 us_Is i7 rfl ea24 rfl g rfl om)<|Dy 7 rfl (B4 i7 rfl (eh24 _) rfl)<|Dyp 8 rfl (Y.neq rfl rfl)<|l3 (fun q26 => ?_)<|fun q26 => ?_
   ·refine n9 kr<|Et<|r6 rfl<|Eq_<|D.region (fun j => true) mixed<|Dm 0 rfl<|Dm 1 rfl<|Dyp 2 rfl (z8 us_Is i7 rfl ea20 rfl g rfl om)<|Dy 3 rfl (B4 i7 rfl (eh20 _) rfl)<|Dm 4 rfl<|Dm 5 rfl<|Dyp 6 rfl (z8 us_Is i7 rfl ea24 rfl g rfl om)<|Dy 7 rfl (B4 i7 rfl (eh24 _) rfl)<|Dyp 8 rfl (Y.lss rfl rfl)<|Dyp 9 rfl (G7 rfl)<|n9 kr<|Et<|E.ret<|u6<|i9<|i9<|u6<|i9<|Fb rfl rfl (by grind [ltT, K5, V0, d1, d2, t1, t2])
   ·refine n9 kr<|Et<|r7 rfl<|v8<|o6<|Et<|Ez Z3<|Em rfl<|Yad rfl om om<|Ei rfl ?_
    exact Eu<|t7 br (g + 1) rs (.refl _) ⟨by omega, by grind [K5, V0, d1, d2, t1, t2]⟩ om
  ·refine Ypt rfl<|Eu<|r7 rfl<|E.exit<|l4<|l4<|w8<|Et<|Ew Z6<|Em rfl<|Yln us_Is rfl<|Em rfl<|Yln us_Is rfl<|Ylt rfl<|Ei rfl<|Eu<|E.ret<|Fb rfl rfl (by grind [ltT, K5, V0, d1, d2, t1, t2])
 ·refine Em rfl<|Es rfl<|Es rfl<|Es rfl<|Es rfl<|Ypf rfl<|Eu<|r7 rfl<|E.exit<|l4<|l4<|w8<|Et<|Ew Z6<|Em rfl<|Yln us_Is rfl<|Em rfl<|Yln us_Is rfl<|Ylt rfl<|Ei rfl<|Eu<|E.ret<|Fb rfl rfl (by grind [ltT, K5, V0, d1, d2, t1, t2])
theorem a9v (hz : l.length ≤ 1000000000000) (hyl : ∀ x ∈ l, x.length ≤ 1048576) (ht : t.length ≤ 1048576) : TL Tryz.prog 139 [.slice a_l m_l c_l, .slice a_t m_t c_t] (fun w L => Ro w L H3 [.slice a_l m_l c_l] l ∧ Ro w L eIs [.slice a_t m_t c_t] t) H3 (U0 l t) := by
 refine Ti2 Tryz.func139 65 rfl fun w L hR => ?_
 obtain ⟨hl, ht⟩ := hR
 obtain ⟨rfl, ll⟩ := hl.slen
 obtain ⟨rfl, lt⟩ := ht.slen
 refine Ew Z1<|Ei rfl<|Ev Z2<|Est rfl (Nb [] [] us_Iss ty_Is rfl rfl)<|fun b9 _ => Ent.drop<|Ei rfl<|Ev Z1<|Ei rfl<|Eu<|Eq_<|Ew Z1<|Ei rfl<|Eu<|E.block<|E.loop (κ := Nat) (fun g => g ≤ l.length ∧ True) (fun g => [(0, .slice a_l l.length c_l), (1, .slice a_t t.length c_t), (5, .slice (some ⟨b9, 0, none⟩) 0 0), (6, .bool<|(l.take g).any fun x => decide (x = t)), (7, .int .i64 (g : Int))]) (fun g => []) (fun g => l.length - g) (0) ⟨Nat.zero_le _, by simp⟩ ⟨rfl, rfl, rfl, frB (by first | rfl | (simp; done) | grind [U0, H9, H8, J1, E4, T0, d1, d2, t1, t2]), rfl, trivial⟩ (.refl _)<|fun g pg => ?_
 try dsimp only
 obtain ⟨pk, pa⟩ := pg
 refine Eq_<|Ew Z4<|Em rfl<|Em rfl<|Yln us_Iss rfl<|Ylt rfl<|l3 (fun q13 => ?_)<|fun q13 => ?_
 ·refine Eu<|Ct<|Eq_<|E.block<|Ez Z10<|Em rfl<|Ent.b (fun q16 => ?_)<|fun q16 => ?_
  ·refine Em rfl<|Es rfl<|Es rfl<|Es rfl<|Es rfl<|Es rfl<|Es rfl<|Ypt rfl<|Ei rfl<|En<|o6<|Et<|Ez Z3<|Em rfl<|Yad rfl om om<|Ei rfl ?_
   exact Eu<|t7 br (g + 1) ⟨rfl, rfl, rfl, frB (by grind [U0, H9, H8, J1, E4, T0, d1, d2, t1, t2]), rfl, trivial⟩ (.refl _) ⟨oz, trivial⟩ oz
  ·refine Em rfl<|Em rfl<|Em rfl ?_
   obtain ⟨eb20, eo20, ec20, ea20, er20, el20, eh20⟩ := hl.elem g om
   obtain ⟨xa20, xc20, rfl⟩ := er20.sl
   have := er20.slen.2
   refine Il us_Iss ty_Is rfl ea20 g rfl om rfl (eh20 _)<|Em rfl<|E0 rfl a2E rfl (fun hA => ⟨hA.ro er20, hA.ro ht⟩)<|Ypf rfl<|Ei rfl<|Ent.b (fun q6 => ?_)<|fun q6 => ?_
   ·refine En<|o6<|Et<|Ez Z3<|Em rfl<|Yad rfl om om<|Ei rfl ?_
    exact Eu<|t7 br (g + 1) ⟨rfl, rfl, rfl, frB (by grind [U0, H9, H8, J1, E4, T0, d1, d2, t1, t2]), rfl, trivial⟩ (.refl _) ⟨oz, trivial⟩ oz
   ·refine En<|o6<|Et<|Ez Z3<|Em rfl<|Yad rfl om om<|Ei rfl ?_
    exact Eu<|t7 br (g + 1) ⟨rfl, rfl, rfl, frB (by grind [U0, H9, H8, J1, E4, T0, d1, d2, t1, t2]), rfl, trivial⟩ (.refl _) ⟨oz, trivial⟩ oz
 ·refine Eu<|r7 rfl<|E.exit<|l4<|l4<|w8<|Et<|Eq_<|Ew Z1<|Ei rfl<|Eu<|E.block<|l6 (A := []) (Own.nil (E := eIs) (e := tIs) (a := (some ⟨b9, 0, none⟩))) rfl<|g9 (congrArg (ow H3 [_]) (show _ = addS (T0 l t) (ltT t) t (l.take 0) from by first | rfl | (simp; done) | grind [U0, H9, H8, J1, E4, T0, d1, d2, t1, t2]))<|E.loop (κ := Nat × SL) (fun g => g.1 ≤ l.length ∧ True) (fun g => [(0, .slice a_l l.length c_l), (1, .slice a_t t.length c_t), (5, .slice g.2.1 g.2.2.1 g.2.2.2), (6, .bool<|T0 l t || (l.take g.1).any (ltT t)), (8, .int .i64 (↑g.1 : Int))]) (fun g => [ow H3 [.slice g.2.1 g.2.2.1 g.2.2.2]<|addS (T0 l t) (ltT t) t<|l.take g.1]) (fun g => l.length - g.1) (0, (some ⟨b9, 0, none⟩), 0, 0) ⟨Nat.zero_le _, by simp⟩ ⟨rfl, rfl, rfl, frB (by first | rfl | (simp; done) | grind [U0, H9, H8, J1, E4, T0, d1, d2, t1, t2]), rfl, trivial⟩ (.refl _)<|fun g pg => ?_
  obtain ⟨g, aA1_0, mA1_0, cA1_0⟩ := g
  try dsimp only at pg
  try dsimp only
  obtain ⟨pk, pa⟩ := pg
  have jp := List.length_take_le g l
  have ji := a8E (h := T0 l t) (p := (ltT t)) (f := t) (l := l.take g)
  refine r8 m0 ?_
  rintro rfl laA1_0
  refine Eq_<|Ew Z4<|Em rfl<|Em rfl<|Yln us_Iss rfl<|Ylt rfl<|l3 (fun q28 => ?_)<|fun q28 => ?_
  ·have jy1 := hyl l[g] (List.getElem_mem om)
   refine Eu<|Ct<|Eq_<|E.block<|Eq_<|Ew Z10<|Em rfl<|Ent.b (fun q31 => ?_)<|fun q31 => ?_
   ·refine Yno true rfl<|Em rfl<|Es rfl<|Es rfl<|Es rfl<|Es rfl<|Es rfl<|Es rfl<|Ypf rfl<|Eu<|Cf<|Ez Z10<|Em rfl<|Est rfl (Nb [] [] us_Is i7 rfl rfl)<|fun b48 _ => Ent.drop<|Em rfl<|Em rfl ?_
    obtain ⟨eb51, eo51, ec51, ea51, er51, el51, eh51⟩ := hl.elem g om
    obtain ⟨xa51, xc51, rfl⟩ := er51.sl
    have := er51.slen.2
    refine Il us_Iss ty_Is rfl ea51 g rfl om rfl (eh51 _)<|Est rfl (R1 (E := Enc.int) Plain.int us_Is i7 rfl rfl rfl er51 bn bn dc)<|fun p53 _ => Est rfl (Nb [_] [_] us_Iss ty_Is rfl rfl)<|fun b54 _ => f5<|f5<|i8<|Est rfl (B0 (E := eIs) (ex := l[g]) us_Iss ty_Is rfl rfl rfl Own.ow rfl bn bn dc)<|fun p55 _ => Ei rfl<|En<|o6<|Et<|Ez Z3<|Em rfl<|Yad rfl om om<|Ei rfl<|Eu<|g9 (congrArg (ow H3 [_]) (show _ = addS (T0 l t) (ltT t) t (l.take<|g + 1) from by grind [U0, H9, H8, J1, E4, T0, d1, d2, t1, t2])) ?_
    exact t7 br (g + 1, p55.1, ((addS (T0 l t) (ltT t) t<|l.take g).length + 1), p55.2) ⟨rfl, rfl, rfl, frB (by grind [U0, H9, H8, J1, E4, T0, d1, d2, t1, t2]), rfl, trivial⟩ (.refl _) ⟨oz, trivial⟩ oz
   ·refine Yno false rfl<|Em rfl<|Em rfl<|Em rfl<|Em rfl ?_
    obtain ⟨eb37, eo37, ec37, ea37, er37, el37, eh37⟩ := hl.elem g om
    obtain ⟨xa37, xc37, rfl⟩ := er37.sl
    have := er37.slen.2
    refine Il us_Iss ty_Is rfl ea37 g rfl om rfl (eh37 _)<|E0 rfl b1B rfl (fun hA => ⟨hA.ro ht, hA.ro er37⟩)<|Ent.b (fun q39 => ?_)<|fun q39 => ?_
    ·refine Ypt rfl<|Eu<|r6 rfl<|Ew Z7<|Em rfl<|Est rfl (Nb [] [] us_Is i7 rfl rfl)<|fun b42 _ => Ent.drop<|Em rfl<|Est rfl (R1 (E := Enc.int) Plain.int us_Is i7 rfl rfl rfl ht bn bn dc)<|fun p44 _ => Est rfl (Nb [_] [_] us_Iss ty_Is rfl rfl)<|fun b45 _ => f5<|f5<|i8<|Est rfl (B0 (E := eIs) (ex := t) us_Iss ty_Is rfl rfl rfl Own.ow rfl bn bn dc)<|fun p46 _ => Ei rfl<|Eu<|Ez Z1<|Ei rfl<|Eu<|Ez Z10<|Em rfl<|Est rfl (Nb [] [] us_Is i7 rfl rfl)<|fun b48 _ => Ent.drop<|Em rfl<|Em rfl<|Il us_Iss ty_Is rfl ea37 g rfl om rfl (eh37 _)<|Est rfl (R1 (E := Enc.int) Plain.int us_Is i7 rfl rfl rfl er37 bn bn dc)<|fun p53 _ => Est rfl (Nb [_] [_] us_Iss ty_Is rfl rfl)<|fun b54 _ => f5<|f5<|i8<|Est rfl (B0 (E := eIs) (ex := l[g]) us_Iss ty_Is rfl rfl rfl Own.ow rfl bn bn dc)<|fun p55 _ => Ei rfl<|En<|o6<|Et<|Ez Z3<|Em rfl<|Yad rfl om om<|Ei rfl<|Eu<|g9 (congrArg (ow H3 [_]) (show _ = addS (T0 l t) (ltT t) t (l.take<|g + 1) from by grind [U0, H9, H8, J1, E4, T0, d1, d2, t1, t2])) ?_
     exact t7 br (g + 1, p55.1, (((addS (T0 l t) (ltT t) t<|l.take g).length + 1) + 1), p55.2) ⟨rfl, rfl, rfl, frB (by grind [U0, H9, H8, J1, E4, T0, d1, d2, t1, t2]), rfl, trivial⟩ (.refl _) ⟨oz, trivial⟩ oz
    ·refine Ypt rfl<|Eu<|Cf<|Ez Z10<|Em rfl<|Est rfl (Nb [] [] us_Is i7 rfl rfl)<|fun b48 _ => Ent.drop<|Em rfl<|Em rfl<|Il us_Iss ty_Is rfl ea37 g rfl om rfl (eh37 _)<|Est rfl (R1 (E := Enc.int) Plain.int us_Is i7 rfl rfl rfl er37 bn bn dc)<|fun p53 _ => Est rfl (Nb [_] [_] us_Iss ty_Is rfl rfl)<|fun b54 _ => f5<|f5<|i8<|Est rfl (B0 (E := eIs) (ex := l[g]) us_Iss ty_Is rfl rfl rfl Own.ow rfl bn bn dc)<|fun p55 _ => Ei rfl<|En<|o6<|Et<|Ez Z3<|Em rfl<|Yad rfl om om<|Ei rfl<|Eu<|g9 (congrArg (ow H3 [_]) (show _ = addS (T0 l t) (ltT t) t (l.take<|g + 1) from by grind [U0, H9, H8, J1, E4, T0, d1, d2, t1, t2])) ?_
     exact t7 br (g + 1, p55.1, ((addS (T0 l t) (ltT t) t<|l.take g).length + 1), p55.2) ⟨rfl, rfl, rfl, frB (by grind [U0, H9, H8, J1, E4, T0, d1, d2, t1, t2]), rfl, trivial⟩ (.refl _) ⟨oz, trivial⟩ oz
  ·refine Eu<|r7 rfl<|E.exit<|l4<|l4<|w8<|Et<|Eq_<|Ew Z2<|Em rfl<|Ent.b (fun q56 => ?_)<|fun q56 => ?_
   ·refine Yno true rfl<|Eu<|Cf<|Ew Z2<|Em rfl<|Ei rfl<|Eu<|E.ret<|g9 (congrArg (ow H3 [_]) (show _ = U0 l t by grind [U0, H9, H8, J1, E4, T0, d1, d2, t1, t2]))<|Fg rfl rfl (_, _, _) rfl rfl
   ·refine Yno false rfl<|Eu<|r6 rfl<|Ez Z7<|Em rfl<|Est rfl (Nb [] [] us_Is i7 rfl rfl)<|fun b59 _ => Ent.drop<|Em rfl<|Est rfl (R1 (E := Enc.int) Plain.int us_Is i7 rfl rfl rfl ht bn bn dc)<|fun p61 _ => Est rfl (Nb [_] [_] us_Iss ty_Is rfl rfl)<|fun b62 _ => f5<|f5<|i8<|Est rfl (B0 (E := eIs) (ex := t) us_Iss ty_Is rfl rfl rfl Own.ow rfl bn bn dc)<|fun p63 _ => Ei rfl<|Ev Z2<|Em rfl<|Ei rfl<|Eu<|E.ret<|g9 (congrArg (ow H3 [_]) (show _ = U0 l t by grind [U0, H9, H8, J1, E4, T0, d1, d2, t1, t2]))<|Fg rfl rfl (_, _, _) rfl rfl
theorem a1V {l : List (List Int × List Int)} (hqh : j8.length ≤ 1048576) (hz : l.length ≤ 1000000000000) : TL Tryz.prog 80 [.agg #[.slice y9 D9 y8, .slice v7 C6 v6], .slice a_l m_l c_l] (fun w L => Ro w L eIs [.slice y9 D9 y8] j8 ∧ Ro w L B1 [.slice v7 C6 v6] d4 ∧ Ro w L s9 [.slice a_l m_l c_l] l) H3 (S2 j8 l) := by
 refine Ti2 Tryz.func80 22 rfl fun w L hR => ?_
 obtain ⟨C0, z7, hl⟩ := hR
 obtain ⟨rfl, W8⟩ := C0.slen
 obtain ⟨rfl, U3⟩ := z7.slen
 obtain ⟨rfl, ll⟩ := hl.slen
 have jv := b4o hl
 have jw := C0.i64
 refine Ew Z2<|Est rfl (N.box (cs := [_, _]) rfl dc rfl)<|fun b2 _ => Ei rfl<|Ev Z2<|Est rfl (Nb [] [] us_Iss ty_Is rfl rfl)<|fun b8 _ => Ent.drop<|Ei rfl<|Eu<|Eq_<|Ew Z3<|Em rfl<|Yln us_Bindings rfl<|Em rfl<|Eu<|E.block<|l6 (A := []) (Own.nil (E := eIs) (e := tIs) (a := (some ⟨b8, 0, none⟩))) rfl<|g9 (congrArg (ow H3 [_]) (show _ = S2 j8 (l.take 0) from by first | rfl | (simp; done) | grind [a2X, a1Z, d1, d2, t1, t2]))<|Lo (κ := Nat × SL) (fun g => g.1 ≤ l.length ∧ True) (fun g => [(2, .pointer<|some ⟨b2, 0, none⟩), (5, .slice g.2.1 g.2.2.1 g.2.2.2), (9, .slice a_l l.length c_l), (10, .int .i64 (↑l.length : Int)), (11, .int .i64 (↑g.1 : Int))]) (fun g => [ow H3 [.slice g.2.1 g.2.2.1 g.2.2.2]<|S2 j8<|l.take g.1, pt b2 28 [.slice y9 j8.length y8, .slice v7 d4.length v6]]) (fun g => l.length - g.1) (0, (some ⟨b8, 0, none⟩), 0, 0) ⟨Nat.zero_le _, by simp⟩<|fun g pg => ?_
 obtain ⟨g, aA0_0, mA0_0, cA0_0⟩ := g
 try dsimp only at pg
 try dsimp only
 obtain ⟨pk, pa⟩ := pg
 have jp := List.length_take_le g l
 have jn := b4d (h := j8) (l := l.take g)
 have je := b2h (h := j8) (l := l.take g)
 refine r8 m0 ?_
 rintro rfl laA0_0
 refine Ew Z1<|Ylt rfl<|l3 (fun q12 => ?_)<|fun q12 => ?_
 ·obtain ⟨eb13, eo13, ec13, ea13, er13, el13, eh13⟩ := hl.elem g om
  obtain ⟨xa13_0, xc13_0, xa13_1, xc13_1, rfl, xh13_0, xh13_1⟩ := a0K er13
  have := xh13_0.slen.2
  have := xh13_1.slen.2
  refine Eu<|Eq_<|Ct<|Eq_<|E.block<|Ew Z4<|Ix us_Bindings ty_Binding rfl ea13 g rfl om<|Ey rfl (k7 (cs := [_, _]) ty_Binding rfl (eh13 _) rfl)<|Est rfl (N.alloc ty_Binding dc)<|fun b7 _ => Est rfl (Ns [_, _] ty_Binding rfl)<|fun _ _ => Eu<|Ez Z6<|Em rfl<|Ey rfl (k7 (cs := [_, _]) ty_Query rfl (Has.pt<|mS<|mS m0) rfl)<|Ey rfl (k7 (cs := [_, _]) ty_Binding rfl (Has.pt m0) rfl)<|El rfl (b0u (by first | omega | assumption | (simp; omega))) rfl (fun hA => ⟨hA.ro C0, hA.ro z7, hA.ro xh13_0, hA.ro xh13_1⟩)<|fun a18 c18 l18 => ?_
  refine i8<|Est rfl (N.call (pre := [_]) (a8g (by first | omega | assumption | (simp; omega)) (by first | omega | assumption | (simp; omega))) rfl rfl rfl dc rfl<|fun w Lp hA => hA.ow m0)<|fun k19 _ => ?_
  obtain ⟨a19, m19, c19⟩ := k19
  refine r8 m0 ?_
  rintro rfl l19
  refine Ei rfl<|En<|o6<|Et<|Ez Z2<|Yad rfl om om<|Em rfl<|Eu<|f5<|Ent.drop<|f5<|Ent.drop<|g9 (congrArg (ow H3 [_]) (show _ = S2 j8 (l.take<|g + 1) from by grind [a2X, a1Z, d1, d2, t1, t2]))<|f5<|f5 ?_
  exact Ea (g + 1, a19, _, c19) ⟨oz, trivial⟩
 ·refine Eu<|Eq_<|r7 rfl<|E.exit<|l4<|l4<|w8<|Et<|Ew Z2<|Em rfl<|Ei rfl<|Eu<|E.ret<|g9 (congrArg (ow H3 [_]) (show _ = S2 j8 l by grind [a2X, a1Z, d1, d2, t1, t2]))<|Fg rfl rfl (_, _, _) rfl rfl
theorem a1S {l : List (List Int × List Int)} (hqh : j8.length ≤ 1048576) (hz : l.length ≤ 1000000000000) : TL Tryz.prog 89 [.agg #[.slice y9 D9 y8, .slice v7 C6 v6], .slice a_l m_l c_l] (fun w L => Ro w L eIs [.slice y9 D9 y8] j8 ∧ Ro w L B1 [.slice v7 C6 v6] d4 ∧ Ro w L s9 [.slice a_l m_l c_l] l) H3 (S2 j8 l) := by
 refine Ti2 Tryz.func89 41 rfl fun w L hR => ?_
 obtain ⟨C0, z7, hl⟩ := hR
 obtain ⟨rfl, W8⟩ := C0.slen
 obtain ⟨rfl, U3⟩ := z7.slen
 obtain ⟨rfl, ll⟩ := hl.slen
 have jv := b4o hl
 have jw := C0.i64
 refine Ew Z2<|Est rfl (N.box (cs := [_, _]) rfl dc rfl)<|fun b2 _ => Ei rfl<|Ev Z2<|Est rfl (Nb [] [] us_Iss ty_Is rfl rfl)<|fun b9 _ => Ent.drop<|Ei rfl<|Eu<|Eq_<|Ew Z1<|Ei rfl<|Eu<|E.block<|l6 (A := []) (Own.nil (E := eIs) (e := tIs) (a := (some ⟨b9, 0, none⟩))) rfl<|g9 (congrArg (ow H3 [_]) (show _ = S2 j8 (l.take 0) from by first | rfl | (simp; done) | grind [a2X, a1Z, d1, d2, t1, t2]))<|Lo (κ := Nat × SL) (fun g => g.1 ≤ l.length ∧ True) (fun g => [(1, .slice a_l l.length c_l), (2, .pointer<|some ⟨b2, 0, none⟩), (5, .slice g.2.1 g.2.2.1 g.2.2.2), (6, .int .i64 (↑g.1 : Int))]) (fun g => [ow H3 [.slice g.2.1 g.2.2.1 g.2.2.2]<|S2 j8<|l.take g.1, pt b2 28 [.slice y9 j8.length y8, .slice v7 d4.length v6]]) (fun g => l.length - g.1) (0, (some ⟨b9, 0, none⟩), 0, 0) ⟨Nat.zero_le _, by simp⟩<|fun g pg => ?_
 obtain ⟨g, aA0_0, mA0_0, cA0_0⟩ := g
 try dsimp only at pg
 try dsimp only
 obtain ⟨pk, pa⟩ := pg
 have jp := List.length_take_le g l
 have jn := b4d (h := j8) (l := l.take g)
 have je := b2h (h := j8) (l := l.take g)
 refine r8 m0 ?_
 rintro rfl laA0_0
 refine Eq_<|Ew Z4<|Em rfl<|Em rfl<|Yln us_Bindings rfl<|Ylt rfl<|l3 (fun q13 => ?_)<|fun q13 => ?_
 ·refine Eu<|Ct<|Eq_<|E.block<|Ew Z2<|Est rfl (Nb [] [] us_Is i7 rfl rfl)<|fun b16 _ => Ent.drop<|Ei rfl<|Eu<|Eq_<|Ew Z1<|Ei rfl<|Eu<|E.block<|l6 (A := []) (Own.nil (E := Enc.int) (e := tI) (a := (some ⟨b16, 0, none⟩))) rfl<|g9 (congrArg (ow eIs [_]) (show _ = (j8.take 0).map (F6 l[g]) from by first | rfl | (simp; done) | grind [a2X, a1Z, d1, d2, t1, t2]))<|Lo (κ := Nat × SL) (fun h => h.1 ≤ j8.length ∧ True) (fun h => [(1, .slice a_l l.length c_l), (2, .pointer<|some ⟨b2, 0, none⟩), (5, .slice aA0_0 (S2 j8<|l.take g).length cA0_0), (6, .int .i64 (g : Int)), (7, .slice h.2.1 h.2.2.1 h.2.2.2), (8, .int .i64 (↑h.1 : Int))]) (fun h => [ow eIs [.slice h.2.1 h.2.2.1 h.2.2.2]<|(j8.take h.1).map (F6 l[g]), ow H3 [.slice aA0_0 (S2 j8<|l.take g).length cA0_0]<|S2 j8<|l.take g, pt b2 28 [.slice y9 j8.length y8, .slice v7 d4.length v6]]) (fun h => j8.length - h.1) (0, (some ⟨b16, 0, none⟩), 0, 0) ⟨Nat.zero_le _, by simp⟩<|fun h ph => ?_
  obtain ⟨h, aA1_0, mA1_0, cA1_0⟩ := h
  try dsimp only at ph
  try dsimp only
  obtain ⟨pk, pa⟩ := ph
  refine r8 m0 ?_
  rintro rfl laA1_0
  refine Eq_<|Ew Z5<|Em rfl<|Lz fo_Query_0 ty_Is rfl (mS<|mS m0) rfl<|Yln us_Is rfl<|Ylt rfl<|l3 (fun q21 => ?_)<|fun q21 => ?_
  ·have jx := a6r (b := l[g]) (jw j8[h] (List.getElem_mem om)) (jv l[g] (List.getElem_mem om)).2
   refine Eu<|Ct<|Eq_<|E.block<|D.region (fun j => !(Nat.beq j 12)) mixed<|Dm 0 rfl<|Dm 1 rfl<|Dm 2 rfl ?_
   obtain ⟨eb27, eo27, ec27, ea27, er27, el27, eh27⟩ := hl.elem g om
   obtain ⟨xa27_0, xc27_0, xa27_1, xc27_1, rfl, xh27_0, xh27_1⟩ := a0K er27
   have := xh27_0.slen.2
   have := xh27_1.slen.2
   refine Dyp 3 rfl (z8 us_Bindings ty_Binding rfl ea27 rfl g rfl om)<|Dy 4 rfl (k7 (cs := [_, _]) ty_Binding rfl (eh27 _) rfl)<|Df 5 6 fo_Query_0 ty_Is rfl (Hz (mS<|mS m0) 0 rfl)<|Dm 7 rfl ?_
   obtain ⟨eb32, eo32, ea32, ei32, eh32⟩ := C0.elemI h om
   refine Dyp 8 rfl (z8 us_Is i7 rfl ea32 rfl h rfl om)<|Dy 9 rfl (B4 i7 rfl (eh32 _) rfl)<|D0 10 rfl a2l rfl (fun hA => ⟨hA.ro xh27_0, hA.ro xh27_1⟩)<|E7 11 rfl rfl kr (fun _ => rfl) (Nb [_] [_] us_Is i7 rfl rfl)<|fun b35 _ => f5<|E7 12 rfl rfl kr (fun h => by cases h) (B0 (E := Enc.int) (ex := F6 l[g] j8[h]) us_Is i7 rfl rfl rfl (Own.int i6) rfl bn bn dc)<|fun p36 _ => Dyp 13 rfl (G7 rfl)<|n9 kr<|o6<|Et<|Ez Z3<|Em rfl<|Yad rfl om om<|Ei rfl<|Eu<|g9 (congrArg (ow eIs [_]) (show _ = (j8.take<|h + 1).map (F6 l[g]) from by grind [a2X, a1Z, d1, d2, t1, t2]))<|i8<|i8<|i8 ?_
   exact Ea (h + 1, p36.1, (((j8.take h).map (F6 l[g])).length + 1), p36.2) ⟨oz, trivial⟩
  ·refine Eu<|r7 rfl<|E.exit<|l4<|l4<|w8<|Et<|Ez Z4<|Em rfl<|Em rfl<|El rfl (a9v (by first | omega | assumption | (simp; omega)) (fun x hx => Nat.le_trans (je x hx) hqh) (by first | omega | assumption | (simp; omega))) rfl (fun hA => ⟨hA.ow<|mS m0, hA.ow m0⟩)<|fun a39 c39 l39 => Ei rfl<|En<|o6<|Et<|Ez Z3<|Em rfl<|Yad rfl om om<|Ei rfl<|Eu<|f5<|Ent.drop<|f5<|Ent.drop<|g9 (congrArg (ow H3 [_]) (show _ = S2 j8 (l.take<|g + 1) from by grind [a2X, a1Z, d1, d2, t1, t2]))<|f5<|f5 ?_
   exact Ea (g + 1, a39, _, c39) ⟨oz, trivial⟩
 ·refine Eu<|r7 rfl<|E.exit<|l4<|l4<|w8<|Et<|Ew Z2<|Em rfl<|Ei rfl<|Eu<|E.ret<|g9 (congrArg (ow H3 [_]) (show _ = S2 j8 l by grind [a2X, a1Z, d1, d2, t1, t2]))<|Fg rfl rfl (_, _, _) rfl rfl
theorem b0p (hqa : d4.length ≤ 4) (hqt : ∀ a ∈ d4, a.2.length ≤ 3) (hf : ∀ a ∈ d4, Few a d6) (hqh : j8.length ≤ 3) : TL Tryz.prog 131 [.agg #[.slice y9 D9 y8, .slice v7 C6 v6], .slice a_facts m_facts c_facts] (fun w L => Ro w L eIs [.slice y9 D9 y8] j8 ∧ Ro w L B1 [.slice v7 C6 v6] d4 ∧ Ro w L s5 [.slice a_facts m_facts c_facts] d6) H3 (S2 j8 (H6 d4 d6)) := by
 refine Ti2 Tryz.func131 10 rfl fun w L hR => ?_
 obtain ⟨C0, z7, hfacts⟩ := hR
 obtain ⟨rfl, W8⟩ := C0.slen
 obtain ⟨rfl, U3⟩ := z7.slen
 obtain ⟨rfl, lfacts⟩ := hfacts.slen
 have jb := b4H (d6 := d6) hf hqa hqt
 refine Ew Z2<|Est rfl (N.box (cs := [_, _]) rfl dc rfl)<|fun b2 _ => Ei rfl<|Eu<|Eq_<|D.region (fun j => true) mixed<|Dy 0 rfl (k7 (cs := [_, _]) ty_Query rfl (Has.pt m0) rfl)<|Dy 1 rfl (k7 (cs := [_, _]) ty_Query rfl (Has.pt m0) rfl)<|Dm 2 rfl<|Dl 3 rfl (a2u fc fc fc) rfl (fun hA => ⟨hA.ro C0, hA.ro z7, hA.ro hfacts⟩)<|fun a8 c8 l8 => Dl 4 rfl (a1V fc fc) rfl (fun hA => ⟨hA.ro C0, hA.ro z7, hA.ow m0⟩)<|fun a9 c9 l9 => Dyp 5 rfl (G7 rfl)<|n9 kr<|Et<|E.ret<|Fg rfl rfl (_, _, _) rfl rfl
theorem a8K {s : List Int} (hz : O1 (fun x => x.2.length) d4 ≤ 1048576) : TL Tryz.prog 115 [.slice a_s m_s c_s, .agg #[.slice y9 D9 y8, .slice v7 C6 v6], .slice a_facts m_facts c_facts] (fun w L => Ro w L eIs [.slice a_s m_s c_s] s ∧ Ro w L eIs [.slice y9 D9 y8] j8 ∧ Ro w L B1 [.slice v7 C6 v6] d4 ∧ Ro w L s5 [.slice a_facts m_facts c_facts] d6) H3 (X6 s (j8, d4) d6) := by
 refine Ti3 Tryz.func115 20 rfl fun w L hR => ?_
 obtain ⟨hs, C0, z7, hfacts⟩ := hR
 obtain ⟨rfl, ls⟩ := hs.slen
 obtain ⟨rfl, W8⟩ := C0.slen
 obtain ⟨rfl, U3⟩ := z7.slen
 obtain ⟨rfl, lfacts⟩ := hfacts.slen
 refine Ew Z2<|Est rfl (N.box (cs := [_, _]) rfl dc rfl)<|fun b4 _ => Ei rfl<|Eu<|Eq_<|Ew Z10<|Em rfl<|Ey rfl (k7 (cs := [_, _]) ty_Query rfl (Has.pt m0) rfl)<|E0 rfl (a5z<|fo) rfl (fun hA => ⟨hA.ro hs, hA.ro C0, hA.ro z7⟩)<|Ent.b (fun q9 => ?_)<|fun q9 => ?_
 ·refine Yno true rfl<|Em rfl<|Em rfl<|Em rfl<|E0 rfl a3c rfl (fun hA => ⟨hA.ro hs, hA.ro hfacts⟩)<|Ent.b (fun q14 => ?_)<|fun q14 => ?_
  ·refine Yno true rfl<|Ypf rfl<|Eu<|Cf<|Ew Z4<|Ey rfl (k7 (cs := [_, _]) ty_Query rfl (Has.pt m0) rfl)<|Em rfl<|El rfl (b0p ((J7 (s := s) (q := (j8, d4)) (by assumption)).1) ((J7 (s := s) (q := (j8, d4)) (by assumption)).2.2) ((fun a _ => a7R (G4 (s := s) (by assumption)).1))<|(Nat.le_trans (J7 (s := s) (q := (j8, d4)) (by assumption)).2.1 dc)) rfl (fun hA => ⟨hA.ro C0, hA.ro z7, hA.ro hfacts⟩)<|fun a19 c19 l19 => Ei rfl<|Eu<|E.ret<|g9 (congrArg (ow H3 [_]) (show _ = X6 s (j8, d4) d6 by grind [X6, d1, d2, t1, t2]))<|Fg rfl rfl (_, _, _) rfl rfl
  ·refine Yno false rfl<|Ypf rfl<|Eu<|r6 rfl<|Ew Z1<|Ei rfl<|Eu<|E.ret<|i9<|l6 (A := []) (Own.nil (E := eIs) (e := tIs) (a := none)) rfl<|g9 (congrArg (ow H3 [_]) (show _ = X6 s (j8, d4) d6 by grind [X6, d1, d2, t1, t2]))<|Fg rfl rfl (none, 0, 0) rfl rfl
 ·refine Yno false rfl<|Em rfl<|Es rfl<|Es rfl<|Es rfl<|Es rfl<|Ypt rfl<|Eu<|r6 rfl<|Ew Z1<|Ei rfl<|Eu<|E.ret<|i9<|l6 (A := []) (Own.nil (E := eIs) (e := tIs) (a := none)) rfl<|g9 (congrArg (ow H3 [_]) (show _ = X6 s (j8, d4) d6 by grind [X6, d1, d2, t1, t2]))<|Fg rfl rfl (none, 0, 0) rfl rfl
theorem a2K {s : List Int} (hz : O1 (fun x => x.2.length) d4 ≤ 1048576) : TL Tryz.prog 18 [.slice a_s m_s c_s, .agg #[.slice y9 D9 y8, .slice v7 C6 v6], .slice a_facts m_facts c_facts] (fun w L => Ro w L eIs [.slice a_s m_s c_s] s ∧ Ro w L eIs [.slice y9 D9 y8] j8 ∧ Ro w L B1 [.slice v7 C6 v6] d4 ∧ Ro w L s5 [.slice a_facts m_facts c_facts] d6) H3 (X6 s (j8, d4) d6) := by
 refine Ti3 Tryz.func18 23 rfl fun w L hR => ?_
 obtain ⟨hs, C0, z7, hfacts⟩ := hR
 obtain ⟨rfl, ls⟩ := hs.slen
 obtain ⟨rfl, W8⟩ := C0.slen
 obtain ⟨rfl, U3⟩ := z7.slen
 obtain ⟨rfl, lfacts⟩ := hfacts.slen
 refine Ew Z2<|Est rfl (N.box (cs := [_, _]) rfl dc rfl)<|fun b4 _ => Ei rfl<|Eu<|Eq_<|Ew Z10<|Em rfl<|Ey rfl (k7 (cs := [_, _]) ty_Query rfl (Has.pt m0) rfl)<|E0 rfl (a3v<|fo) rfl (fun hA => ⟨hA.ro hs, hA.ro C0, hA.ro z7⟩)<|Ent.b (fun q9 => ?_)<|fun q9 => ?_
 ·refine Yno true rfl<|Em rfl<|Em rfl<|Em rfl<|E0 rfl a0v rfl (fun hA => ⟨hA.ro hs, hA.ro hfacts⟩)<|Ent.b (fun q14 => ?_)<|fun q14 => ?_
  ·refine Yno true rfl<|Ypf rfl<|Eu<|Cf<|Eq_<|D.region (fun j => true) mixed<|Dy 0 rfl (k7 (cs := [_, _]) ty_Query rfl (Has.pt m0) rfl)<|Dy 1 rfl (k7 (cs := [_, _]) ty_Query rfl (Has.pt m0) rfl)<|Dm 2 rfl<|Dl 3 rfl (a2v ((J7 (s := s) (q := (j8, d4)) (by assumption)).1) ((J7 (s := s) (q := (j8, d4)) (by assumption)).2.2)<|(fun a _ => a7R (G4 (s := s) (by assumption)).1)) rfl (fun hA => ⟨hA.ro C0, hA.ro z7, hA.ro hfacts⟩)<|fun a21 c21 l21 => Dl 4 rfl (a1S ((Nat.le_trans (J7 (s := s) (q := (j8, d4)) (by assumption)).2.1 dc))<|(Nat.le_trans (a4A (d6 := d6) (G4 (s := s) (by assumption)).1 (J7 (s := s) (q := (j8, d4)) (by assumption)).1 (J7 (s := s) (q := (j8, d4)) (by assumption)).2.2).1 dc)) rfl (fun hA => ⟨hA.ro C0, hA.ro z7, hA.ow m0⟩)<|fun a22 c22 l22 => Dyp 5 rfl (G7 rfl)<|n9 kr<|Et<|E.ret<|g9 (congrArg (ow H3 [_]) (show _ = X6 s (j8, d4) d6 by grind [X6, d1, d2, t1, t2]))<|Fg rfl rfl (_, _, _) rfl rfl
  ·refine Yno false rfl<|Ypf rfl<|Eu<|r6 rfl<|Ew Z2<|Est rfl (Nb [] [] us_Iss ty_Is rfl rfl)<|fun b17 _ => Ent.drop<|Ei rfl<|Eu<|E.ret<|i9<|l6 (A := []) (Own.nil (E := eIs) (e := tIs) (a := (some ⟨b17, 0, none⟩))) rfl<|g9 (congrArg (ow H3 [_]) (show _ = X6 s (j8, d4) d6 by grind [X6, d1, d2, t1, t2]))<|Fg rfl rfl ((some ⟨b17, 0, none⟩), 0, 0) rfl rfl
 ·refine Yno false rfl<|Em rfl<|Es rfl<|Es rfl<|Es rfl<|Es rfl<|Ypt rfl<|Eu<|r6 rfl<|Ew Z2<|Est rfl (Nb [] [] us_Iss ty_Is rfl rfl)<|fun b17 _ => Ent.drop<|Ei rfl<|Eu<|E.ret<|i9<|l6 (A := []) (Own.nil (E := eIs) (e := tIs) (a := (some ⟨b17, 0, none⟩))) rfl<|g9 (congrArg (ow H3 [_]) (show _ = X6 s (j8, d4) d6 by grind [X6, d1, d2, t1, t2]))<|Fg rfl rfl ((some ⟨b17, 0, none⟩), 0, 0) rfl rfl
end Go.Proofs.YthapcdhdfaibkaaGreatDoor
