import Derived.Test.YtbedienpleiamaaGreatT17
import Derived.Test.YtbedienpleiamaaGreatT11
import Derived.Test.YtbedienpleiamaaGreatT13
import Derived.Test.YtbedienpleiamaaGreatDy
namespace Go.Proofs.YtbedienpleiamaaGreat
open Go.RowKit
set_option linter.all false
set_option maxHeartbeats 2000000
attribute [local irreducible] Nop Yd Yp Ent Has Tr FnP FnP2 Src O1 S7 W5 X5 I0
variable {a6 : List (Int × List Int)} {f5 : List Int} {m_l c_l r5 k6 o1 j0 : Nat} {a_l l0 j3 : Option Addr}
theorem a5R {a_a : Option Addr} {m_a c_a : Nat} {a : List Int} {a_b : Option Addr} {m_b c_b : Nat} {b : List Int} : Tr Tryz.prog 173 [.slice a_a m_a c_a, .slice a_b m_b c_b] (fun w L => Ro w L eIs [.slice a_a m_a c_a] a ∧ Ro w L eIs [.slice a_b m_b c_b] b) [] (κ := Unit) (fun k => True) (fun k => .bool (ltT a b)) (fun k => []) := by
 refine Tr.intro Tryz.func173 rfl (n := 41) rfl (by decide +kernel) bl (fr := [(0, .slice a_a m_a c_a), (1, .slice a_b m_b c_b)]) rfl fun w L hR => ?_
 obtain ⟨ha, hb⟩ := hR
 obtain ⟨rfl, la⟩ := ha.slen
 obtain ⟨rfl, lb⟩ := hb.slen
 refine Ew Z1 (Ei rfl (Eu (Eq_ (Ew Z1 (Ei rfl (Eu (E.block (E.loop (κ := Nat) (fun g => g ≤ a.length ∧ g ≤ b.length ∧ G3 a b = G3 (a.drop g) (b.drop g)) (fun g => [(0, .slice a_a a.length c_a), (1, .slice a_b b.length c_b), (5, .int .i64 (g : Int))]) (fun g => []) (fun g => a.length - g) 0 ⟨Nat.zero_le _, by simp⟩ ⟨rfl, rfl, rfl, trivial⟩ (.refl _) (fun g pg => ?_)))))))))
 obtain ⟨pk, pa⟩ := pg
 refine Eq_ (Ew Z10 (Em rfl (Em rfl (Ey rfl ((Y.len us_Is rfl).yd) (Ey rfl ((Y.lss rfl rfl).yd) (n9 (fun q9 => ?_) (fun q9 => ?_)))))))
 ·refine Em rfl (Em rfl (Em rfl (Ey rfl ((Y.len us_Is rfl).yd) (Ey rfl ((Y.lss rfl rfl).yd) (n9 (fun q14 => ?_) (fun q14 => ?_))))))
  ·refine Ey rfl ((v8 rfl rfl).yd) (Eu (o0 rfl (f8 (Et (Eq_ (E.block (Eq_ (D.region (fun j => true) mixed (Dyp 0 rfl (i8 rfl) (Dyp 1 rfl (i8 rfl) ?_))))))))))
   obtain ⟨eb20, eo20, ea20, ei20, eh20⟩ := ha.elemI g om
   refine Dyp 2 rfl (t6 us_Is f6 rfl ea20 rfl g rfl om) (Dy 3 rfl (f9 f6 rfl (eh20 _) rfl) (Dyp 4 rfl (i8 rfl) (Dyp 5 rfl (i8 rfl) ?_)))
   obtain ⟨eb24, eo24, ea24, ei24, eh24⟩ := hb.elemI g om
   refine Dyp 6 rfl (t6 us_Is f6 rfl ea24 rfl g rfl om) (Dy 7 rfl (f9 f6 rfl (eh24 _) rfl) (Dyp 8 rfl (Y.neq rfl rfl) (n9 (fun q26 => ?_) (fun q26 => ?_))))
   ·refine r7 kr (Et (o0 rfl (Eq_ (D.region (fun j => true) mixed (Dyp 0 rfl (i8 rfl) (Dyp 1 rfl (i8 rfl) (Dyp 2 rfl (t6 us_Is f6 rfl ea20 rfl g rfl om) (Dy 3 rfl (f9 f6 rfl (eh20 _) rfl) (Dyp 4 rfl (i8 rfl) (Dyp 5 rfl (i8 rfl) (Dyp 6 rfl (t6 us_Is f6 rfl ea24 rfl g rfl om) (Dy 7 rfl (f9 f6 rfl (eh24 _) rfl) (Dyp 8 rfl (Y.lss rfl rfl) (Dyp 9 rfl (C0 rfl) ?_))))))))))))))
    exact r7 kr (Et (E.ret (B0 (o4 (o4 (B0 (o4 (Fb rfl rfl (by grind [ltT, G3, L7, d1, d2, t1, t2])))))))))
   ·refine r7 kr (Et (n0 rfl (f8 (s4 (Et (Ez Z3 (Em rfl (Ey rfl ((Y.add rfl rfl om om).yd) (Ei rfl ?_)))))))))
    exact Eu (x3 br (g + 1) rs (.refl _) ⟨by omega, by grind [G3, L7, d1, d2, t1, t2]⟩ om)
  ·refine Ey rfl ((v8 rfl rfl).yd) (Eu (n0 rfl (E.exit (o3 (o3 (x5 (Et (Ew Z6 (Em rfl (Ey rfl ((Y.len us_Is rfl).yd) (Em rfl (Ey rfl ((Y.len us_Is rfl).yd) (Ey rfl ((Y.lss rfl rfl).yd) (Ei rfl ?_))))))))))))))
   exact Eu (E.ret (Fb rfl rfl (by grind [ltT, G3, L7, d1, d2, t1, t2])))
 ·refine Em rfl (Es rfl (Es rfl (Es rfl (Es rfl (Ey rfl ((u7 rfl rfl).yd) (Eu (n0 rfl (E.exit (o3 (o3 (x5 (Et (Ew Z6 (Em rfl (Ey rfl ((Y.len us_Is rfl).yd) (Em rfl (Ey rfl ((Y.len us_Is rfl).yd) (Ey rfl ((Y.lss rfl rfl).yd) (Ei rfl ?_)))))))))))))))))))
  exact Eu (E.ret (Fb rfl rfl (by grind [ltT, G3, L7, d1, d2, t1, t2])))
theorem a4N {l : List (List Int)} {a_t : Option Addr} {m_t c_t : Nat} {t : List Int} (hz : l.length ≤ 1000000000000) (hyl : ∀ x ∈ l, x.length ≤ 1048576) (ht : t.length ≤ 1048576) : Tr Tryz.prog 123 [.slice a_l m_l c_l, .slice a_t m_t c_t] (fun w L => Ro w L P2 [.slice a_l m_l c_l] l ∧ Ro w L eIs [.slice a_t m_t c_t] t) [] (κ := Option Addr × Nat × Nat) (fun k => True) (fun k => .slice k.1 k.2.1 k.2.2) (fun k => [ow P2 [.slice k.1 k.2.1 k.2.2] (M9 l t)]) := by
 refine Tr.intro Tryz.func123 rfl (n := 65) rfl (by decide +kernel) bl (fr := [(0, .slice a_l m_l c_l), (1, .slice a_t m_t c_t)]) rfl fun w L hR => ?_
 obtain ⟨hl, ht⟩ := hR
 obtain ⟨rfl, ll⟩ := hl.slen
 obtain ⟨rfl, lt⟩ := ht.slen
 refine Ew Z1 (Ei rfl (Ev Z2 (Est rfl (Nb [] [] us_Iss ty_Is rfl rfl) (fun b9 _ => (Ent.drop (Ei rfl (Ev Z1 (Ei rfl (Eu (Eq_ (Ew Z1 (Ei rfl (Eu (E.block (E.loop (κ := Nat) (fun g => g ≤ l.length ∧ True) (fun g => [(0, .slice a_l l.length c_l), (1, .slice a_t t.length c_t), (5, .slice (some ⟨b9, 0, none⟩) 0 0), (6, .bool ((l.take g).any fun x => decide (x = t))), (7, .int .i64 (g : Int))]) (fun g => []) (fun g => l.length - g) (0) ⟨Nat.zero_le _, by simp⟩ ⟨rfl, rfl, rfl, frB (by first | rfl | (simp; done) | grind [M9, C5, C6, D2, B9, L9, d1, d2, t1, t2]), rfl, trivial⟩ (.refl _) (fun g pg => ?_))))))))))))))))
 try dsimp only
 obtain ⟨pk, pa⟩ := pg
 refine Eq_ (Ew Z4 (Em rfl (Em rfl (Ey rfl ((Y.len us_Iss rfl).yd) (Ey rfl ((Y.lss rfl rfl).yd) (n9 (fun q13 => ?_) (fun q13 => ?_)))))))
 ·refine Eu (o0 rfl (f8 (Et (Eq_ (E.block (Ez Z10 (Em rfl (t7 (fun q16 => ?_) (fun q16 => ?_)))))))))
  ·refine Em rfl (Es rfl (Es rfl (Es rfl (Es rfl (Es rfl (Es rfl (Ey rfl ((v8 rfl rfl).yd) (Ei rfl (En (s4 (Et (Ez Z3 (Em rfl (Ey rfl ((Y.add rfl rfl om om).yd) (Ei rfl ?_)))))))))))))))
   exact Eu (x3 br (g + 1) ⟨rfl, rfl, rfl, frB (by grind [M9, C5, C6, D2, B9, L9, d1, d2, t1, t2]), rfl, trivial⟩ (.refl _) ⟨oz, trivial⟩ oz)
  ·refine Em rfl (Em rfl (Em rfl ?_))
   obtain ⟨eb20, eo20, ec20, ea20, er20, el20, eh20⟩ := hl.elem g om
   obtain ⟨xa20, xc20, rfl⟩ := er20.sl
   have := er20.slen.2
   refine Ey rfl ((t6 us_Iss ty_Is rfl ea20 rfl g rfl om).yd) (Ey rfl (f9 ty_Is rfl (eh20 _) rfl) (Em rfl (Est rfl (m6 V1 rfl rfl rfl dc (fun w Lp hA => ⟨hA.ro er20, hA.ro ht⟩)) (fun _ _ => (Ey rfl ((u7 rfl rfl).yd) (Ei rfl (t7 (fun q6 => ?_) (fun q6 => ?_))))))))
   ·refine En (s4 (Et (Ez Z3 (Em rfl (Ey rfl ((Y.add rfl rfl om om).yd) (Ei rfl ?_))))))
    exact Eu (x3 br (g + 1) ⟨rfl, rfl, rfl, frB (by grind [M9, C5, C6, D2, B9, L9, d1, d2, t1, t2]), rfl, trivial⟩ (.refl _) ⟨oz, trivial⟩ oz)
   ·refine En (s4 (Et (Ez Z3 (Em rfl (Ey rfl ((Y.add rfl rfl om om).yd) (Ei rfl ?_))))))
    exact Eu (x3 br (g + 1) ⟨rfl, rfl, rfl, frB (by grind [M9, C5, C6, D2, B9, L9, d1, d2, t1, t2]), rfl, trivial⟩ (.refl _) ⟨oz, trivial⟩ oz)
 ·refine Eu (n0 rfl (E.exit (o3 (o3 (x5 (Et (Eq_ (Ew Z1 (Ei rfl (Eu (E.block (o2 (A := []) (Own.nil (E := eIs) (e := tIs) (a := (some ⟨b9, 0, none⟩))) rfl (i9 (congrArg (ow P2 [_]) (show [] = G8 (L9 l t) (ltT t) t (l.take 0) from by first | rfl | (simp; done) | grind [M9, C5, C6, D2, B9, L9, d1, d2, t1, t2])) (E.loop (κ := Nat × Option Addr × Nat × Nat) (fun g => g.1 ≤ l.length ∧ True) (fun g => [(0, .slice a_l l.length c_l), (1, .slice a_t t.length c_t), (5, .slice g.2.1 g.2.2.1 g.2.2.2), (6, .bool (L9 l t || (l.take g.1).any (ltT t))), (8, .int .i64 (↑g.1 : Int))]) (fun g => [ow P2 [.slice g.2.1 g.2.2.1 g.2.2.2] (G8 (L9 l t) (ltT t) t (l.take g.1))]) (fun g => l.length - g.1) (0, (some ⟨b9, 0, none⟩), 0, 0) ⟨Nat.zero_le _, by simp⟩ ⟨rfl, rfl, rfl, frB (by first | rfl | (simp; done) | grind [M9, C5, C6, D2, B9, L9, d1, d2, t1, t2]), rfl, trivial⟩ (.refl _) (fun g pg => ?_)))))))))))))))
  obtain ⟨g, aA1_0, mA1_0, cA1_0⟩ := g
  try dsimp only at pg
  try dsimp only
  obtain ⟨pk, pa⟩ := pg
  have jp := List.length_take_le g l
  have ji := a3U (h := L9 l t) (p := (ltT t)) (f := t) (l := l.take g)
  refine d4 m0 fun eaA1_0 laA1_0 => ?_
  subst eaA1_0
  refine Eq_ (Ew Z4 (Em rfl (Em rfl (Ey rfl ((Y.len us_Iss rfl).yd) (Ey rfl ((Y.lss rfl rfl).yd) (n9 (fun q28 => ?_) (fun q28 => ?_)))))))
  ·have jy1 := hyl l[g] (List.getElem_mem om)
   refine Eu (o0 rfl (f8 (Et (Eq_ (E.block (Eq_ (Ew Z10 (Em rfl (t7 (fun q31 => ?_) (fun q31 => ?_))))))))))
   ·refine Ey rfl ((Y.not (b := true) rfl).yd) (Em rfl (Es rfl (Es rfl (Es rfl (Es rfl (Es rfl (Es rfl (Ey rfl ((u7 rfl rfl).yd) (Eu (n0 rfl (f8 (Et (Ez Z10 (Em rfl (Est rfl (Nb [] [] us_Is f6 rfl rfl) (fun b48 _ => (Ent.drop (Em rfl (Em rfl ?_)))))))))))))))))))
    obtain ⟨eb51, eo51, ec51, ea51, er51, el51, eh51⟩ := hl.elem g om
    obtain ⟨xa51, xc51, rfl⟩ := er51.sl
    have := er51.slen.2
    refine Ey rfl ((t6 us_Iss ty_Is rfl ea51 rfl g rfl om).yd) (Ey rfl (f9 ty_Is rfl (eh51 _) rfl) (Est rfl (G9 (E := Enc.int) Plain.int us_Is f6 rfl rfl rfl er51 bn bn dc) (fun p53 _ => (Est rfl (Nb [_] [_] us_Iss ty_Is rfl rfl) (fun b54 _ => (d7 (d7 (g9 (Est rfl (v7 (E := eIs) (ex := l[g]) us_Iss ty_Is rfl rfl rfl Own.ow rfl bn bn dc) (fun p55 _ => (Ei rfl (En (s4 (Et (Ez Z3 (Em rfl (Ey rfl ((Y.add rfl rfl om om).yd) (Ei rfl (Eu (i9 (congrArg (ow P2 [_]) (show (G8 (L9 l t) (ltT t) t (l.take g)) ++ [l[g]] = G8 (L9 l t) (ltT t) t (l.take (g + 1)) from by grind [M9, C5, C6, D2, B9, L9, d1, d2, t1, t2])) ?_))))))))))))))))))))
    exact x3 br (g + 1, p55.1, ((G8 (L9 l t) (ltT t) t (l.take g)).length + 1), p55.2) ⟨rfl, rfl, rfl, frB (by grind [M9, C5, C6, D2, B9, L9, d1, d2, t1, t2]), rfl, trivial⟩ (.refl _) ⟨oz, trivial⟩ oz
   ·refine Ey rfl ((Y.not (b := false) rfl).yd) (Em rfl (Em rfl (Em rfl (Em rfl ?_))))
    obtain ⟨eb37, eo37, ec37, ea37, er37, el37, eh37⟩ := hl.elem g om
    obtain ⟨xa37, xc37, rfl⟩ := er37.sl
    have := er37.slen.2
    refine Ey rfl ((t6 us_Iss ty_Is rfl ea37 rfl g rfl om).yd) (Ey rfl (f9 ty_Is rfl (eh37 _) rfl) (Est rfl (m6 a5R rfl rfl rfl dc (fun w Lp hA => ⟨hA.ro ht, hA.ro er37⟩)) (fun _ _ => (t7 (fun q39 => ?_) (fun q39 => ?_)))))
    ·refine Ey rfl ((v8 rfl rfl).yd) (Eu (o0 rfl (Ew Z7 (Em rfl (Est rfl (Nb [] [] us_Is f6 rfl rfl) (fun b42 _ => (Ent.drop (Em rfl (Est rfl (G9 (E := Enc.int) Plain.int us_Is f6 rfl rfl rfl ht bn bn dc) (fun p44 _ => (Est rfl (Nb [_] [_] us_Iss ty_Is rfl rfl) (fun b45 _ => (d7 (d7 (g9 (Est rfl (v7 (E := eIs) (ex := t) us_Iss ty_Is rfl rfl rfl Own.ow rfl bn bn dc) (fun p46 _ => (Ei rfl (Eu (Ez Z1 (Ei rfl (Eu (Ez Z10 (Em rfl (Est rfl (Nb [] [] us_Is f6 rfl rfl) (fun b48 _ => (Ent.drop (Em rfl (Em rfl (Ey rfl ((t6 us_Iss ty_Is rfl ea37 rfl g rfl om).yd) (Ey rfl (f9 ty_Is rfl (eh37 _) rfl) (Est rfl (G9 (E := Enc.int) Plain.int us_Is f6 rfl rfl rfl er37 bn bn dc) (fun p53 _ => (Est rfl (Nb [_] [_] us_Iss ty_Is rfl rfl) (fun b54 _ => (d7 (d7 (g9 (Est rfl (v7 (E := eIs) (ex := l[g]) us_Iss ty_Is rfl rfl rfl Own.ow rfl bn bn dc) (fun p55 _ => (Ei rfl (En (s4 (Et (Ez Z3 (Em rfl (Ey rfl ((Y.add rfl rfl om om).yd) (Ei rfl (Eu (i9 (congrArg (ow P2 [_]) (show ((G8 (L9 l t) (ltT t) t (l.take g)) ++ [t]) ++ [l[g]] = G8 (L9 l t) (ltT t) t (l.take (g + 1)) from by grind [M9, C5, C6, D2, B9, L9, d1, d2, t1, t2])) ?_))))))))))))))))))))))))))))))))))))))))))))))))))
     exact x3 br (g + 1, p55.1, (((G8 (L9 l t) (ltT t) t (l.take g)).length + 1) + 1), p55.2) ⟨rfl, rfl, rfl, frB (by grind [M9, C5, C6, D2, B9, L9, d1, d2, t1, t2]), rfl, trivial⟩ (.refl _) ⟨oz, trivial⟩ oz
    ·refine Ey rfl ((v8 rfl rfl).yd) (Eu (n0 rfl (f8 (Et (Ez Z10 (Em rfl (Est rfl (Nb [] [] us_Is f6 rfl rfl) (fun b48 _ => (Ent.drop (Em rfl (Em rfl (Ey rfl ((t6 us_Iss ty_Is rfl ea37 rfl g rfl om).yd) (Ey rfl (f9 ty_Is rfl (eh37 _) rfl) (Est rfl (G9 (E := Enc.int) Plain.int us_Is f6 rfl rfl rfl er37 bn bn dc) (fun p53 _ => (Est rfl (Nb [_] [_] us_Iss ty_Is rfl rfl) (fun b54 _ => (d7 (d7 (g9 (Est rfl (v7 (E := eIs) (ex := l[g]) us_Iss ty_Is rfl rfl rfl Own.ow rfl bn bn dc) (fun p55 _ => (Ei rfl (En (s4 (Et (Ez Z3 (Em rfl (Ey rfl ((Y.add rfl rfl om om).yd) (Ei rfl (Eu (i9 (congrArg (ow P2 [_]) (show (G8 (L9 l t) (ltT t) t (l.take g)) ++ [l[g]] = G8 (L9 l t) (ltT t) t (l.take (g + 1)) from by grind [M9, C5, C6, D2, B9, L9, d1, d2, t1, t2])) ?_))))))))))))))))))))))))))))))))
     exact x3 br (g + 1, p55.1, ((G8 (L9 l t) (ltT t) t (l.take g)).length + 1), p55.2) ⟨rfl, rfl, rfl, frB (by grind [M9, C5, C6, D2, B9, L9, d1, d2, t1, t2]), rfl, trivial⟩ (.refl _) ⟨oz, trivial⟩ oz
  ·refine Eu (n0 rfl (E.exit (o3 (o3 (x5 (Et (Eq_ (Ew Z2 (Em rfl (t7 (fun q56 => ?_) (fun q56 => ?_)))))))))))
   ·refine Ey rfl ((Y.not (b := true) rfl).yd) (Eu (n0 rfl (f8 (Et (Ew Z2 (Em rfl (Ei rfl (Eu (E.ret (i9 (congrArg (ow P2 [_]) (show _ = M9 l t by grind [M9, C5, C6, D2, B9, L9, d1, d2, t1, t2])) ?_))))))))))
    exact Fg rfl rfl (_, _, _) rfl rfl
   ·refine Ey rfl ((Y.not (b := false) rfl).yd) (Eu (o0 rfl (Ez Z7 (Em rfl (Est rfl (Nb [] [] us_Is f6 rfl rfl) (fun b59 _ => (Ent.drop (Em rfl (Est rfl (G9 (E := Enc.int) Plain.int us_Is f6 rfl rfl rfl ht bn bn dc) (fun p61 _ => (Est rfl (Nb [_] [_] us_Iss ty_Is rfl rfl) (fun b62 _ => (d7 (d7 (g9 (Est rfl (v7 (E := eIs) (ex := t) us_Iss ty_Is rfl rfl rfl Own.ow rfl bn bn dc) (fun p63 _ => (Ei rfl (Ev Z2 (Em rfl (Ei rfl (Eu (E.ret (i9 (congrArg (ow P2 [_]) (show _ = M9 l t by grind [M9, C5, C6, D2, B9, L9, d1, d2, t1, t2])) ?_))))))))))))))))))))))))
    exact Fg rfl rfl (_, _, _) rfl rfl
theorem a1J {l : List (List Int × List Int)} (hqh : f5.length ≤ 1048576) (hz : l.length ≤ 1000000000000) : Tr Tryz.prog 57 [.agg #[.slice l0 r5 k6, .slice j3 o1 j0], .slice a_l m_l c_l] (fun w L => Ro w L eIs [.slice l0 r5 k6] f5 ∧ Ro w L j8 [.slice j3 o1 j0] a6 ∧ Ro w L C1 [.slice a_l m_l c_l] l) [] (κ := Option Addr × Nat × Nat) (fun k => True) (fun k => .slice k.1 k.2.1 k.2.2) (fun k => [ow P2 [.slice k.1 k.2.1 k.2.2] (L8 f5 l)]) := by
 refine Tr.intro Tryz.func57 rfl (n := 41) rfl (by decide +kernel) bl (fr := [(0, .agg #[.slice l0 r5 k6, .slice j3 o1 j0]), (1, .slice a_l m_l c_l)]) rfl fun w L hR => ?_
 obtain ⟨o6, l4, hl⟩ := hR
 obtain ⟨rfl, F2⟩ := o6.slen
 obtain ⟨rfl, E0⟩ := l4.slen
 obtain ⟨rfl, ll⟩ := hl.slen
 have jv := b0J hl
 have jw := o6.i64
 refine Ew Z2 (Est rfl (N.box (cs := [_, _]) rfl dc rfl) (fun b2 _ => (Ei rfl (Ev Z2 (Est rfl (Nb [] [] us_Iss ty_Is rfl rfl) (fun b9 _ => (Ent.drop (Ei rfl (Eu (Eq_ (Ew Z1 (Ei rfl (Eu (E.block (o2 (A := []) (Own.nil (E := eIs) (e := tIs) (a := (some ⟨b9, 0, none⟩))) rfl (i9 (congrArg (ow P2 [_]) (show [] = L8 f5 (l.take 0) from by first | rfl | (simp; done) | grind [a1Z, a1d, d1, d2, t1, t2])) (E.loop (κ := Nat × Option Addr × Nat × Nat) (fun g => g.1 ≤ l.length ∧ True) (fun g => [(1, .slice a_l l.length c_l), (2, .pointer (some ⟨b2, 0, none⟩)), (5, .slice g.2.1 g.2.2.1 g.2.2.2), (6, .int .i64 (↑g.1 : Int))]) (fun g => [ow P2 [.slice g.2.1 g.2.2.1 g.2.2.2] (L8 f5 (l.take g.1)), pt b2 27 [.slice l0 f5.length k6, .slice j3 a6.length j0]]) (fun g => l.length - g.1) (0, (some ⟨b9, 0, none⟩), 0, 0) ⟨Nat.zero_le _, by simp⟩ ⟨rfl, rfl, rfl, rfl, trivial⟩ (.refl _) (fun g pg => ?_))))))))))))))))))
 obtain ⟨g, aA0_0, mA0_0, cA0_0⟩ := g
 try dsimp only at pg
 try dsimp only
 obtain ⟨pk, pa⟩ := pg
 have jp := List.length_take_le g l
 have jn := b0t (h := f5) (l := l.take g)
 have je := a8F (h := f5) (l := l.take g)
 refine d4 m0 fun eaA0_0 laA0_0 => ?_
 subst eaA0_0
 refine Eq_ (Ew Z4 (Em rfl (Em rfl (Ey rfl ((Y.len us_Bindings rfl).yd) (Ey rfl ((Y.lss rfl rfl).yd) (n9 (fun q13 => ?_) (fun q13 => ?_)))))))
 ·refine Eu (o0 rfl (f8 (Et (Eq_ (E.block (Ew Z2 (Est rfl (Nb [] [] us_Is f6 rfl rfl) (fun b16 _ => (Ent.drop (Ei rfl (Eu (Eq_ (Ew Z1 (Ei rfl (Eu (E.block (o2 (A := []) (Own.nil (E := Enc.int) (e := tI) (a := (some ⟨b16, 0, none⟩))) rfl (i9 (congrArg (ow eIs [_]) (show [] = (f5.take 0).map (u6 l[g]) from by first | rfl | (simp; done) | grind [a1Z, a1d, d1, d2, t1, t2])) (E.loop (κ := Nat × Option Addr × Nat × Nat) (fun h => h.1 ≤ f5.length ∧ True) (fun h => [(1, .slice a_l l.length c_l), (2, .pointer (some ⟨b2, 0, none⟩)), (5, .slice aA0_0 (L8 f5 (l.take g)).length cA0_0), (6, .int .i64 (g : Int)), (7, .slice h.2.1 h.2.2.1 h.2.2.2), (8, .int .i64 (↑h.1 : Int))]) (fun h => [ow eIs [.slice h.2.1 h.2.2.1 h.2.2.2] ((f5.take h.1).map (u6 l[g])), ow P2 [.slice aA0_0 (L8 f5 (l.take g)).length cA0_0] (L8 f5 (l.take g)), pt b2 27 [.slice l0 f5.length k6, .slice j3 a6.length j0]]) (fun h => f5.length - h.1) (0, (some ⟨b16, 0, none⟩), 0, 0) ⟨Nat.zero_le _, by simp⟩ ⟨rfl, rfl, rfl, rfl, rfl, rfl, trivial⟩ (.refl _) (fun h ph => ?_))))))))))))))))))))
  obtain ⟨h, aA1_0, mA1_0, cA1_0⟩ := h
  try dsimp only at ph
  try dsimp only
  obtain ⟨pk, pa⟩ := ph
  refine d4 m0 fun eaA1_0 laA1_0 => ?_
  subst eaA1_0
  refine Eq_ (Ew Z5 (Em rfl (Ey rfl ((i0 fo_Query_0 ty_Is dc rfl).yd) (Ey rfl (f9 ty_Is rfl (Hz (mS (mS m0)) 0 rfl) rfl) (Ey rfl ((Y.len us_Is rfl).yd) (Ey rfl ((Y.lss rfl rfl).yd) (n9 (fun q21 => ?_) (fun q21 => ?_))))))))
  ·have jx := a2E (b := l[g]) (jw f5[h] (List.getElem_mem om)) (jv l[g] (List.getElem_mem om)).2
   refine Eu (o0 rfl (f8 (Et (Eq_ (E.block (D.region (fun j => !(Nat.beq j 12)) mixed (Dyp 0 rfl (i8 rfl) (Dyp 1 rfl (i8 rfl) (Dyp 2 rfl (i8 rfl) ?_)))))))))
   obtain ⟨eb27, eo27, ec27, ea27, er27, el27, eh27⟩ := hl.elem g om
   obtain ⟨xa27_0, xc27_0, xa27_1, xc27_1, rfl, xh27_0, xh27_1⟩ := a0G er27
   have := xh27_0.slen.2
   have := xh27_1.slen.2
   refine Dyp 3 rfl (t6 us_Bindings ty_Binding rfl ea27 rfl g rfl om) (Dy 4 rfl (j6 (cs := [_, _]) ty_Binding rfl (eh27 _) rfl) (Dyp 5 rfl (i0 fo_Query_0 ty_Is dc rfl) (Dy 6 rfl (f9 ty_Is rfl (Hz (mS (mS m0)) 0 rfl) rfl) (Dyp 7 rfl (i8 rfl) ?_))))
   obtain ⟨eb32, eo32, ea32, ei32, eh32⟩ := o6.elemI h om
   refine Dyp 8 rfl (t6 us_Is f6 rfl ea32 rfl h rfl om) (Dy 9 rfl (f9 f6 rfl (eh32 _) rfl) (r8 10 rfl rfl kr (fun _ => rfl) (m6 T4 rfl rfl rfl dc (fun w Lp hA => ⟨hA.ro xh27_0, hA.ro xh27_1⟩)) (fun _ _ => (r8 11 rfl rfl kr (fun _ => rfl) (Nb [_] [_] us_Is f6 rfl rfl) (fun b35 _ => (d7 (r8 12 rfl rfl kr (fun h => by cases h) (v7 (E := Enc.int) (ex := u6 l[g] f5[h]) us_Is f6 rfl rfl rfl (Own.int i6) rfl bn bn dc) (fun p36 _ => (Dyp 13 rfl (C0 rfl) (r7 kr (s4 (Et (Ez Z3 (Em rfl (Ey rfl ((Y.add rfl rfl om om).yd) (Ei rfl (Eu (i9 (congrArg (ow eIs [_]) (show ((f5.take h).map (u6 l[g])) ++ [u6 l[g] f5[h]] = (f5.take (h + 1)).map (u6 l[g]) from by grind [a1Z, a1d, d1, d2, t1, t2])) (g9 (g9 (g9 ?_)))))))))))))))))))))
   exact Ea (h + 1, p36.1, (((f5.take h).map (u6 l[g])).length + 1), p36.2) ⟨oz, trivial⟩
  ·refine Eu (n0 rfl (E.exit (o3 (o3 (x5 (Et (Ez Z4 (Em rfl (Em rfl (Est rfl (N.call (a4N (by first | omega | assumption | (simp; omega)) (fun x hx => Nat.le_trans (je x hx) hqh) (by first | omega | assumption | (simp; omega))) rfl rfl rfl dc rfl (fun w Lp hA => ⟨hA.ow (mS m0), hA.ow m0⟩)) (fun k39 _ => ?_)))))))))))
   obtain ⟨a39, m39, c39⟩ := k39
   refine d4 m0 fun e39 l39 => ?_
   subst e39
   refine Ei rfl (En (s4 (Et (Ez Z3 (Em rfl (Ey rfl ((Y.add rfl rfl om om).yd) (Ei rfl (Eu (d7 (Ent.drop (d7 (Ent.drop (i9 (congrArg (ow P2 [_]) (show M9 (L8 f5 (l.take g)) ((f5.take h).map (u6 l[g])) = L8 f5 (l.take (g + 1)) from by grind [a1Z, a1d, d1, d2, t1, t2])) (d7 (d7 ?_)))))))))))))))
   exact Ea (g + 1, a39, (M9 (L8 f5 (l.take g)) ((f5.take h).map (u6 l[g]))).length, c39) ⟨oz, trivial⟩
 ·refine Eu (n0 rfl (E.exit (o3 (o3 (x5 (Et (Ew Z2 (Em rfl (Ei rfl (Eu (E.ret (i9 (congrArg (ow P2 [_]) (show _ = L8 f5 l by grind [a1Z, a1d, d1, d2, t1, t2])) ?_))))))))))))
  exact Fg rfl rfl (_, _, _) rfl rfl
theorem a1n {a_s : Option Addr} {m_s c_s : Nat} {s : List Int} {a_facts : Option Addr} {m_facts c_facts : Nat} {f0 : List (Int × List Int)} (hz : E7 (fun x => x.2.length) a6 ≤ 1048576) : Tr Tryz.prog 12 [.slice a_s m_s c_s, .agg #[.slice l0 r5 k6, .slice j3 o1 j0], .slice a_facts m_facts c_facts] (fun w L => Ro w L eIs [.slice a_s m_s c_s] s ∧ Ro w L eIs [.slice l0 r5 k6] f5 ∧ Ro w L j8 [.slice j3 o1 j0] a6 ∧ Ro w L u5 [.slice a_facts m_facts c_facts] f0) [] (κ := Option Addr × Nat × Nat) (fun k => True) (fun k => .slice k.1 k.2.1 k.2.2) (fun k => [ow P2 [.slice k.1 k.2.1 k.2.2] (a0v s (f5, a6) f0)]) := by
 refine Tr.intro Tryz.func12 rfl (n := 23) rfl (by decide +kernel) bl (fr := [(0, .slice a_s m_s c_s), (1, .agg #[.slice l0 r5 k6, .slice j3 o1 j0]), (2, .slice a_facts m_facts c_facts)]) rfl fun w L hR => ?_
 obtain ⟨hs, o6, l4, hfacts⟩ := hR
 obtain ⟨rfl, ls⟩ := hs.slen
 obtain ⟨rfl, F2⟩ := o6.slen
 obtain ⟨rfl, E0⟩ := l4.slen
 obtain ⟨rfl, lfacts⟩ := hfacts.slen
 refine Ew Z2 (Est rfl (N.box (cs := [_, _]) rfl dc rfl) (fun b4 _ => (Ei rfl (Eu (Eq_ (Ew Z10 (Em rfl (Ey rfl (j6 (cs := [_, _]) ty_Query rfl (Has.pt m0) rfl) (Est rfl (m6 (J7 (fo)) rfl rfl rfl dc (fun w Lp hA => ⟨hA.ro hs, hA.ro o6, hA.ro l4⟩)) (fun _ _ => (t7 (fun q9 => ?_) (fun q9 => ?_))))))))))))
 ·refine Ey rfl ((Y.not (b := true) rfl).yd) (Em rfl (Em rfl (Em rfl (Est rfl (m6 a1x rfl rfl rfl dc (fun w Lp hA => ⟨hA.ro hs, hA.ro hfacts⟩)) (fun _ _ => (t7 (fun q14 => ?_) (fun q14 => ?_)))))))
  ·refine Ey rfl ((Y.not (b := true) rfl).yd) (Ey rfl ((u7 rfl rfl).yd) (Eu (n0 rfl (f8 (Et (Eq_ (D.region (fun j => true) mixed (Dy 0 rfl (j6 (cs := [_, _]) ty_Query rfl (Has.pt m0) rfl) (Dy 1 rfl (j6 (cs := [_, _]) ty_Query rfl (Has.pt m0) rfl) (Dyp 2 rfl (i8 rfl) (r8 3 rfl rfl kr (fun _ => rfl) (N.call (X6 ((D4 (s := s) (q := (f5, a6)) (by assumption)).1) ((D4 (s := s) (q := (f5, a6)) (by assumption)).2.2) ((fun a _ => W9 (a3Q (s := s) (by assumption)).1))) rfl rfl rfl dc rfl (fun w Lp hA => ⟨hA.ro o6, hA.ro l4, hA.ro hfacts⟩)) (fun k21 _ => ?_))))))))))))
   obtain ⟨a21, m21, c21⟩ := k21
   refine d4 m0 fun e21 l21 => ?_
   subst e21
   refine r8 4 rfl rfl kr (fun _ => rfl) (N.call (a1J ((Nat.le_trans (D4 (s := s) (q := (f5, a6)) (by assumption)).2.1 dc)) ((Nat.le_trans (a3W (f0 := f0) (a3Q (s := s) (by assumption)).1 (D4 (s := s) (q := (f5, a6)) (by assumption)).1 (D4 (s := s) (q := (f5, a6)) (by assumption)).2.2).1 dc))) rfl rfl rfl dc rfl (fun w Lp hA => ⟨hA.ro o6, hA.ro l4, hA.ow m0⟩)) (fun k22 _ => ?_)
   obtain ⟨a22, m22, c22⟩ := k22
   refine d4 m0 fun e22 l22 => ?_
   subst e22
   refine Dyp 5 rfl (C0 rfl) (r7 kr (Et (E.ret (i9 (congrArg (ow P2 [_]) (show _ = a0v s (f5, a6) f0 by grind [a0v, d1, d2, t1, t2])) ?_))))
   exact Fg rfl rfl (_, _, _) rfl rfl
  ·refine Ey rfl ((Y.not (b := false) rfl).yd) (Ey rfl ((u7 rfl rfl).yd) (Eu (o0 rfl (Ew Z2 (Est rfl (Nb [] [] us_Iss ty_Is rfl rfl) (fun b17 _ => (Ent.drop (Ei rfl (Eu (E.ret (o4 (o2 (A := []) (Own.nil (E := eIs) (e := tIs) (a := (some ⟨b17, 0, none⟩))) rfl (i9 (congrArg (ow P2 [_]) (show _ = a0v s (f5, a6) f0 by grind [a0v, d1, d2, t1, t2])) ?_)))))))))))))
   exact Fg rfl rfl ((some ⟨b17, 0, none⟩), 0, 0) rfl rfl
 ·refine Ey rfl ((Y.not (b := false) rfl).yd) (Em rfl (Es rfl (Es rfl (Es rfl (Es rfl (Ey rfl ((v8 rfl rfl).yd) (Eu (o0 rfl (Ew Z2 (Est rfl (Nb [] [] us_Iss ty_Is rfl rfl) (fun b17 _ => (Ent.drop (Ei rfl (Eu (E.ret (o4 (o2 (A := []) (Own.nil (E := eIs) (e := tIs) (a := (some ⟨b17, 0, none⟩))) rfl (i9 (congrArg (ow P2 [_]) (show _ = a0v s (f5, a6) f0 by grind [a0v, d1, d2, t1, t2])) ?_))))))))))))))))))
  exact Fg rfl rfl ((some ⟨b17, 0, none⟩), 0, 0) rfl rfl
end Go.Proofs.YtbedienpleiamaaGreat
