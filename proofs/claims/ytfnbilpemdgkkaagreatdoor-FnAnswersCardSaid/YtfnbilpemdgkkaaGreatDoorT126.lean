import Derived.Test.YtfnbilpemdgkkaaGreatDoorT60
import Derived.Test.YtfnbilpemdgkkaaGreatDoorHk
import Derived.Test.YtfnbilpemdgkkaaGreatDoorT19
namespace Go.Proofs.YtfnbilpemdgkkaaGreatDoor
open Go.RowKit
set_option linter.all false
set_option maxHeartbeats 2000000
attribute [local irreducible] Nop Yd Yp Ent Has Tr FnP FnP2 Src J8 P6 S7 U6 E7
variable {a b l : List (List Int)} {m_a c_a m_b c_b m_l c_l : Nat} {a_a a_b a_l : Option Addr}
theorem a3i {a_s1 : Option Addr} {m_s1 c_s1 : Nat} {s1 : List (List Int)} {a_s2 : Option Addr} {m_s2 c_s2 : Nat} {s2 : List (List Int)} {eq_g : FuncId} {eq_c : List Value} {eq : (List Int) → (List Int) → Bool} : Tr Tryz.prog 87 [.slice a_s1 m_s1 c_s1, .slice a_s2 m_s2 c_s2, .func (.func eq_g) #[] eq_c.toArray] (fun w L => Ro w L B2 [.slice a_s1 m_s1 c_s1] s1 ∧ Ro w L B2 [.slice a_s2 m_s2 c_s2] s2 ∧ FnP2 Tryz.prog w L eq_g eq_c eIs a0L eq) [] (κ := Unit) (fun k => True) (fun k => .bool (eqP eq s1 s2)) (fun k => []) := by
 refine Tr.intro Tryz.func87 rfl (n := 32) rfl (by decide +kernel) bl (fr := [(0, .slice a_s1 m_s1 c_s1), (1, .slice a_s2 m_s2 c_s2), (2, .func (.func eq_g) #[] eq_c.toArray)]) rfl fun w L hR => ?_
 obtain ⟨hs1, hs2, heq⟩ := hR
 obtain ⟨rfl, ls1⟩ := hs1.slen
 obtain ⟨rfl, ls2⟩ := hs2.slen
 refine Ew Z1 (Ei rfl (Eu (Eq_ (Ew Z5 (Em rfl (Ey rfl ((Y.len us_Iss rfl).yd) (Em rfl (Ey rfl ((Y.len us_Iss rfl).yd) (Ey rfl ((Y.neq rfl rfl).yd) (j4 (fun q14 => ?_) (fun q14 => ?_)))))))))))
 ·refine Eu (j9 rfl (Ew Z1 (Ei rfl ?_)))
  exact Eu (E.ret (j5 (Fb rfl rfl (by grind [eqP, a0G, d1, d2, t1, t2]))))
 ·refine Eu (j8 rfl (f5 (Et (Eq_ (Ew Z3 (Em rfl (Ey rfl ((Y.len us_Iss rfl).yd) (Em rfl (Eu (E.block (E.loop (κ := Nat) (fun g => g ≤ s1.length ∧ s1.length = s2.length ∧ eqP eq s1 s2 = eqP eq (s1.drop g) (s2.drop g)) (fun g => [(1, .slice a_s2 s2.length c_s2), (2, .func (.func eq_g) #[] eq_c.toArray), (15, .slice a_s1 s1.length c_s1), (16, .int .i64 (↑s1.length : Int)), (17, .int .i64 (g : Int))]) (fun g => []) (fun g => s1.length - g) 0 ⟨Nat.zero_le _, by exact ⟨by omega, rfl⟩⟩ ⟨rfl, rfl, rfl, rfl, rfl, trivial⟩ (.refl _) (fun g pg => ?_))))))))))))
  obtain ⟨pk, pa⟩ := pg
  refine Ew Z1 (Ey rfl ((Y.lss rfl rfl).yd) (j4 (fun q18 => ?_) (fun q18 => ?_)))
  ·refine Eu (Eq_ (j9 rfl (f5 (Et (Eq_ (E.block (Ew Z5 (Em rfl ?_))))))))
   obtain ⟨eb20, eo20, ec20, ea20, er20, el20, eh20⟩ := hs1.elem g om
   obtain ⟨xa20, xc20, rfl⟩ := er20.sl
   have := er20.slen.2
   refine Ey rfl ((o6 us_Iss ty_Is rfl ea20 rfl g rfl om).yd) (Ey rfl (f6 ty_Is rfl (eh20 _) rfl) (Ei rfl (Ei rfl (Ev Z5 (Em rfl (Em rfl ?_))))))
   obtain ⟨eb24, eo24, ec24, ea24, er24, el24, eh24⟩ := hs2.elem g om
   obtain ⟨xa24, xc24, rfl⟩ := er24.sl
   have := er24.slen.2
   refine Ey rfl ((o6 us_Iss ty_Is rfl ea24 rfl g rfl om).yd) (Ey rfl (f6 ty_Is rfl (eh24 _) rfl) (Ei rfl (Ev Z5 (Em rfl (Em rfl (Em rfl (Est rfl (b0R (cs := [_]) (ds := [_]) heq rfl rfl rfl rfl rfl dc (fun w Lp hA => (hA.ro er20)) (fun w Lp hA => (hA.ro er24))) (fun _ _ => (u5 (fun q29 => ?_) (fun q29 => ?_))))))))))
   ·refine Ey rfl ((Y.not (b := true) rfl).yd) (Eu (j8 rfl (f5 (n9 (Et (Ez Z2 (Ey rfl ((Y.add rfl rfl om om).yd) (Em rfl ?_))))))))
    exact Eu (t8 br (g + 1) rs (.refl _) ⟨by omega, by grind [eqP, a0G, d1, d2, t1, t2]⟩ om)
   ·refine Ey rfl ((Y.not (b := false) rfl).yd) (Eu (j9 rfl (Ew Z1 (Ei rfl ?_))))
    exact Eu (E.ret (w9 (j5 (j5 (w9 (j5 (Fb rfl rfl (by grind [eqP, a0G, d1, d2, t1, t2]))))))))
  ·refine Eu (Eq_ (j8 rfl (E.exit (l2 (l2 (w8 (Et (Ew Z1 (Ei rfl ?_)))))))))
   exact Eu (E.ret (Fb rfl rfl (by grind [eqP, a0G, d1, d2, t1, t2])))
theorem a1S : Tr Tryz.prog 26 [.slice a_a m_a c_a, .slice a_b m_b c_b] (fun w L => Ro w L B2 [.slice a_a m_a c_a] a ∧ Ro w L B2 [.slice a_b m_b c_b] b) [] (κ := Unit) (fun k => True) (fun k => .bool (decide (a = b))) (fun k => []) := by
 refine Tr.intro Tryz.func26 rfl (n := 8) rfl (by decide +kernel) bl (fr := [(0, .slice a_a m_a c_a), (1, .slice a_b m_b c_b)]) rfl fun w L hR => ?_
 obtain ⟨ha, hb⟩ := hR
 obtain ⟨rfl, la⟩ := ha.slen
 obtain ⟨rfl, lb⟩ := hb.slen
 refine Ew Z1 (Ei rfl (Ev Z4 (Em rfl (Em rfl (Est rfl (i8 (a3i (eq := (fun z y => decide (z = y)))) rfl rfl rfl dc (fun w Lp hA => ⟨hA.ro ha, hA.ro hb, a7v (RR := fun _ _ => True) (a8L M6 (fun _ _ h => h.1)) (fun w' hk => trivial)⟩)) (fun _ _ => (Ei rfl ?_)))))))
 exact Eu (E.ret (Fb rfl rfl (by exact a5N)))
theorem R6 : Tr Tryz.prog 8 [.slice a_a m_a c_a, .slice a_b m_b c_b] (fun w L => Ro w L B2 [.slice a_a m_a c_a] a ∧ Ro w L B2 [.slice a_b m_b c_b] b) [] (κ := Unit) (fun k => True) (fun k => .bool (decide (a = b))) (fun k => []) := by
 refine Tr.intro Tryz.func8 rfl (n := 27) rfl (by decide +kernel) bl (fr := [(0, .slice a_a m_a c_a), (1, .slice a_b m_b c_b)]) rfl fun w L hR => ?_
 obtain ⟨ha, hb⟩ := hR
 obtain ⟨rfl, la⟩ := ha.slen
 obtain ⟨rfl, lb⟩ := hb.slen
 refine Ew Z1 (Ei rfl (Eu (Eq_ (Ew Z5 (Em rfl (Ey rfl ((Y.len us_Iss rfl).yd) (Em rfl (Ey rfl ((Y.len us_Iss rfl).yd) (Ey rfl ((Y.neq rfl rfl).yd) (j4 (fun q10 => ?_) (fun q10 => ?_)))))))))))
 ·refine Eu (j9 rfl (Ew Z1 (Ei rfl ?_)))
  exact Eu (E.ret (j5 (Fb rfl rfl (by grind [d1, d2, t1, t2]))))
 ·refine Eu (j8 rfl (f5 (Et (Eq_ (Ew Z1 (Ei rfl (Eu (E.block (E.loop (κ := Nat) (fun g => g ≤ a.length ∧ a.length = b.length ∧ (a = b ↔ a.drop g = b.drop g)) (fun g => [(0, .slice a_a a.length c_a), (1, .slice a_b b.length c_b), (5, .int .i64 (g : Int))]) (fun g => []) (fun g => a.length - g) 0 ⟨Nat.zero_le _, by exact ⟨by omega, by simp⟩⟩ ⟨rfl, rfl, rfl, trivial⟩ (.refl _) (fun g pg => ?_))))))))))
  obtain ⟨pk, pa⟩ := pg
  refine Eq_ (Ew Z4 (Em rfl (Em rfl (Ey rfl ((Y.len us_Iss rfl).yd) (Ey rfl ((Y.lss rfl rfl).yd) (j4 (fun q14 => ?_) (fun q14 => ?_)))))))
  ·refine Eu (j9 rfl (f5 (Et (Eq_ (E.block (Eq_ (D.region (fun j => true) mixed (Dyp 0 rfl (i0 rfl) (Dyp 1 rfl (i0 rfl) ?_)))))))))
   obtain ⟨eb19, eo19, ec19, ea19, er19, el19, eh19⟩ := ha.elem g om
   obtain ⟨xa19, xc19, rfl⟩ := er19.sl
   have := er19.slen.2
   refine Dyp 2 rfl (o6 us_Iss ty_Is rfl ea19 rfl g rfl om) (Dy 3 rfl (f6 ty_Is rfl (eh19 _) rfl) (Dyp 4 rfl (i0 rfl) (Dyp 5 rfl (i0 rfl) ?_)))
   obtain ⟨eb23, eo23, ec23, ea23, er23, el23, eh23⟩ := hb.elem g om
   obtain ⟨xa23, xc23, rfl⟩ := er23.sl
   have := er23.slen.2
   refine Dyp 6 rfl (o6 us_Iss ty_Is rfl ea23 rfl g rfl om) (Dy 7 rfl (f6 ty_Is rfl (eh23 _) rfl) (t7 8 rfl rfl kr (fun _ => rfl) (i8 X0 rfl rfl rfl dc (fun w Lp hA => ⟨hA.ro er19, hA.ro er23⟩)) (fun _ _ => (u5 (fun q25 => ?_) (fun q25 => ?_)))))
   ·refine Dyp 9 rfl (Y.not (b := true) rfl) (o0 kr (Et (j8 rfl (f5 (n9 (Et (Ez Z3 (Em rfl (Ey rfl ((Y.add rfl rfl om om).yd) (Ei rfl ?_))))))))))
    exact Eu (t8 br (g + 1) rs (.refl _) ⟨by omega, by grind [d1, d2, t1, t2]⟩ om)
   ·refine Dyp 9 rfl (Y.not (b := false) rfl) (o0 kr (Et (j9 rfl (Ew Z1 (Ei rfl ?_)))))
    exact Eu (E.ret (w9 (j5 (j5 (w9 (j5 (Fb rfl rfl (by grind [d1, d2, t1, t2]))))))))
  ·refine Eu (j8 rfl (E.exit (l2 (l2 (w8 (Et (Ew Z1 (Ei rfl ?_))))))))
   exact Eu (E.ret (Fb rfl rfl (by grind [d1, d2, t1, t2])))
theorem a1N (hln : l.length ≤ 1048576) (hlt : ∀ t ∈ l, t.length ≤ 1048576) : Tr Tryz.prog 85 [.slice a_l m_l c_l] (fun w L => Ro w L B2 [.slice a_l m_l c_l] l) [] (κ := Option Addr × Nat × Nat) (fun k => True) (fun k => .slice k.1 k.2.1 k.2.2) (fun k => [ow B2 [.slice k.1 k.2.1 k.2.2] l]) := by
 refine Tr.intro Tryz.func85 rfl (n := 20) rfl (by decide +kernel) bl (fr := [(0, .slice a_l m_l c_l)]) rfl fun w L hR => ?_
 have hl := hR
 obtain ⟨rfl, ll⟩ := hl.slen
 refine Ew Z1 (Ei rfl (Ev Z2 (Est rfl (Nb [] [] us_Iss ty_Is rfl rfl) (fun b6 _ => (Ent.drop (Ei rfl (Eu (Eq_ (Ew Z3 (Em rfl (Ey rfl ((Y.len us_Iss rfl).yd) (Em rfl (Eu (E.block (l3 (A := []) (Own.nil (E := eIs) (e := tIs) (a := (some ⟨b6, 0, none⟩))) rfl (i9 (congrArg (ow B2 [_]) (show [] = l.take 0 from by first | rfl | (simp; done) | grind [d1, d2, t1, t2])) (E.loop (κ := Nat × Option Addr × Nat × Nat) (fun g => g.1 ≤ l.length ∧ True) (fun g => [(3, .slice g.2.1 g.2.2.1 g.2.2.2), (7, .slice a_l l.length c_l), (8, .int .i64 (↑l.length : Int)), (9, .int .i64 (↑g.1 : Int))]) (fun g => [ow B2 [.slice g.2.1 g.2.2.1 g.2.2.2] (l.take g.1)]) (fun g => l.length - g.1) (0, (some ⟨b6, 0, none⟩), 0, 0) ⟨Nat.zero_le _, by simp⟩ ⟨rfl, rfl, rfl, rfl, trivial⟩ (.refl _) (fun g pg => ?_))))))))))))))))))
 obtain ⟨g, aA0_0, mA0_0, cA0_0⟩ := g
 try dsimp only at pg
 try dsimp only
 obtain ⟨pk, pa⟩ := pg
 have jp := List.length_take_le g l
 refine f0 m0 fun eaA0_0 laA0_0 => ?_
 subst eaA0_0
 refine Ew Z1 (Ey rfl ((Y.lss rfl rfl).yd) (j4 (fun q10 => ?_) (fun q10 => ?_)))
 ·obtain ⟨eb11, eo11, ec11, ea11, er11, el11, eh11⟩ := hl.elem g om
  obtain ⟨xa11, xc11, rfl⟩ := er11.sl
  have := er11.slen.2
  refine Eu (Eq_ (j9 rfl (f5 (Et (Eq_ (E.block (Ew Z3 (Ey rfl ((o6 us_Iss ty_Is rfl ea11 rfl g rfl om).yd) (Ey rfl (f6 ty_Is rfl (eh11 _) rfl) (Ei rfl (Eu (Ez Z6 (Em rfl (Em rfl (Est rfl (N.call (V1 (hlt _ (List.getElem_mem om))) rfl rfl rfl dc rfl (fun w Lp hA => hA.ro er11)) (fun k15 _ => ?_))))))))))))))))
  obtain ⟨a15, m15, c15⟩ := k15
  refine f0 m0 fun e15 l15 => ?_
  subst e15
  refine Est rfl (Nb [_] [_] us_Iss ty_Is rfl rfl) (fun b16 _ => (d7 (d7 (g9 (Est rfl (u4 (E := eIs) (ex := l[g]) us_Iss ty_Is rfl rfl rfl Own.ow rfl bn bn dc) (fun p17 _ => (Ei rfl (En (n9 (Et (Ez Z2 (Ey rfl ((Y.add rfl rfl om om).yd) (Em rfl (Eu (i9 (congrArg (ow B2 [_]) (show (l.take g) ++ [l[g]] = l.take (g + 1) from by grind [d1, d2, t1, t2])) ?_)))))))))))))))
  exact Ea (g + 1, p17.1, ((l.take g).length + 1), p17.2) ⟨oz, trivial⟩
 ·refine Eu (Eq_ (j8 rfl (E.exit (l2 (l2 (w8 (Et (Ew Z2 (Em rfl (Ei rfl (Eu (E.ret (i9 (congrArg (ow B2 [_]) (show _ = l by grind [d1, d2, t1, t2])) ?_)))))))))))))
  exact Fg rfl rfl (_, _, _) rfl rfl
theorem a2v {a_t : Option Addr} {m_t c_t : Nat} {t : List Int} (hln : l.length ≤ 1048576) (hlt : ∀ t ∈ l, t.length ≤ 1048576) (ht : t.length ≤ 1048576) : Tr Tryz.prog 24 [.slice a_l m_l c_l, .slice a_t m_t c_t] (fun w L => Ro w L B2 [.slice a_l m_l c_l] l ∧ Ro w L eIs [.slice a_t m_t c_t] t) [] (κ := Option Addr × Nat × Nat) (fun k => True) (fun k => .slice k.1 k.2.1 k.2.2) (fun k => [ow B2 [.slice k.1 k.2.1 k.2.2] (D1 l t)]) := by
 refine Tr.intro Tryz.func24 rfl (n := 9) rfl (by decide +kernel) bl (fr := [(0, .slice a_l m_l c_l), (1, .slice a_t m_t c_t)]) rfl fun w L hR => ?_
 obtain ⟨hl, ht⟩ := hR
 obtain ⟨rfl, ll⟩ := hl.slen
 obtain ⟨rfl, lt⟩ := ht.slen
 refine Ew Z1 (Ei rfl (Ev Z5 (Em rfl (Est rfl (N.call (a1N (by first | assumption | omega) (by first | assumption | omega)) rfl rfl rfl dc rfl (fun w Lp hA => hA.ro hl)) (fun k6 _ => ?_)))))
 obtain ⟨a6, m6, c6⟩ := k6
 refine f0 m0 fun e6 l6 => ?_
 subst e6
 refine Em rfl (Est rfl (N.call (pre := [_]) (X3 (by first | assumption | omega) (by first | assumption | omega)) rfl rfl rfl dc rfl (fun w Lp hA => hA.ro ht)) (fun k8 _ => ?_))
 obtain ⟨a8, m8, c8⟩ := k8
 refine f0 m0 fun e8 l8 => ?_
 subst e8
 refine Ei rfl ?_
 exact Eu (E.ret (Fg rfl rfl (_, _, _) rfl rfl))
theorem a1f (hn : l.length ≤ 1048576) (hy : ∀ t ∈ l, t.length ≤ 3) (hv : ∀ t ∈ l, ∀ x ∈ t, 0 ≤ x ∧ x ≤ 9) : Tr Tryz.prog 10 [.slice a_l m_l c_l] (fun w L => Ro w L B2 [.slice a_l m_l c_l] l) [] (κ := Unit) (fun k => True) (fun k => E4 (Q7 l)) (fun k => []) := by
 refine Tr.intro Tryz.func10 rfl (n := 26) rfl (by decide +kernel) bl (fr := [(0, .slice a_l m_l c_l)]) rfl fun w L hR => ?_
 have hl := hR
 obtain ⟨rfl, ll⟩ := hl.slen
 refine Ew Z1 (Ei rfl (Eu (Eq_ (Ew Z3 (Em rfl (Ey rfl ((Y.len us_Iss rfl).yd) (Ey rfl ((Y.eql rfl rfl).yd) (j4 (fun q8 => ?_) (fun q8 => ?_)))))))))
 ·refine Eu (j9 rfl (Ew Z1 (Ei rfl ?_)))
  exact Eu (E.ret (j5 (Fg rfl rfl () (by rw [show (Q7 l) = ([110, 111, 110, 101]) from (by rw [Q7, if_pos om])]; try rfl) rfl)))
 ·refine Eu (j8 rfl (f5 (Et (Ew Z2 (Est rfl (Nb [] [] us_Ss ty_S rfl rfl) (fun b9 _ => (Ent.drop (Ei rfl (Eu (Eq_ (Ew Z3 (Em rfl (Ey rfl ((Y.len us_Iss rfl).yd) (Em rfl (Eu (E.block (l3 (A := []) (Own.nil (E := Enc.str) (e := tS) (a := (some ⟨b9, 0, none⟩))) rfl (i9 (congrArg (ow eSs [_]) (show [] = (l.take 0).map F4 from by rfl)) (E.loop (κ := Nat × Option Addr × Nat × Nat) (fun g => g.1 ≤ l.length ∧ True) (fun g => [(3, .slice g.2.1 g.2.2.1 g.2.2.2), (10, .slice a_l l.length c_l), (11, .int .i64 (↑l.length : Int)), (12, .int .i64 (↑g.1 : Int))]) (fun g => [ow eSs [.slice g.2.1 g.2.2.1 g.2.2.2] ((l.take g.1).map F4)]) (fun g => l.length - g.1) (0, (some ⟨b9, 0, none⟩), 0, 0) ⟨Nat.zero_le _, by simp⟩ ⟨rfl, rfl, rfl, rfl, trivial⟩ (.refl _) (fun g pg => ?_))))))))))))))))))))
  obtain ⟨g, aA0_0, mA0_0, cA0_0⟩ := g
  try dsimp only at pg
  try dsimp only
  obtain ⟨pk, pa⟩ := pg
  have jt := List.length_take_le g l
  refine f0 m0 fun eaA0_0 laA0_0 => ?_
  subst eaA0_0
  refine Ew Z1 (Ey rfl ((Y.lss rfl rfl).yd) (j4 (fun q13 => ?_) (fun q13 => ?_)))
  ·obtain ⟨eb14, eo14, ec14, ea14, er14, el14, eh14⟩ := hl.elem g om
   obtain ⟨xa14, xc14, rfl⟩ := er14.sl
   have := er14.slen.2
   refine Eu (Eq_ (j9 rfl (f5 (Et (Eq_ (E.block (Ew Z3 (Ey rfl ((o6 us_Iss ty_Is rfl ea14 rfl g rfl om).yd) (Ey rfl (f6 ty_Is rfl (eh14 _) rfl) (Ei rfl (Eu (Ez Z8 (Em rfl (Em rfl ?_))))))))))))))
   have j3 := N3 (f := z7) (K := 21) (l := l[g]) (n := 3) (sep := [44]) (fun x => O5) (hy _ (List.getElem_mem om))
   refine Est rfl (i8 (a4g (Nat.le_trans (hy _ (List.getElem_mem om)) dc) dc (hv _ (List.getElem_mem om))) rfl rfl rfl dc (fun w Lp hA => hA.ro er14)) (fun _ _ => (Ey rfl ((K9 rfl rfl (by first | omega | (simp only [List.length_append, List.length_cons, List.length_nil] at *; omega))).yd) (Ey rfl ((K9 rfl rfl (by first | omega | (simp only [List.length_append, List.length_cons, List.length_nil] at *; omega))).yd) (Est rfl (Nb [_] [_] us_Ss ty_S rfl rfl) (fun b21 _ => (d7 (Est rfl (u4 (E := Enc.str) (ex := (([40]) ++ (Lib.join (l[g].map z7) ([44]))) ++ ([41])) us_Ss ty_S rfl rfl rfl Own.str rfl bn bn dc) (fun p22 _ => (Ei rfl (En (n9 (Et (Ez Z2 (Ey rfl ((Y.add rfl rfl om om).yd) (Em rfl (Eu (i9 (congrArg (ow eSs [_]) (show ((l.take g).map F4) ++ [(([40]) ++ (Lib.join (l[g].map z7) ([44]))) ++ ([41])] = (l.take (g + 1)).map F4 from by rw [List.take_succ_eq_append_getElem om, List.map_append]; rfl)) ?_)))))))))))))))))
   exact Ea (g + 1, p22.1, (((l.take g).map F4).length + 1), p22.2) ⟨oz, trivial⟩
  ·have jg : (l.take g).map F4 = l.map F4 := by rw [List.take_of_length_le om]
   refine Eu (Eq_ (j8 rfl (E.exit (l2 (l2 (w8 (Et (Ew Z3 (Em rfl (Est rfl (i8 (a5E (by simp only [List.length_map, List.length_take]; omega) (by rw [jg]; exact Nat.le_trans (a9N hn hy) dc)) rfl rfl rfl dc (fun w Lp hA => hA.ow m0)) (fun _ _ => (Ei rfl ?_))))))))))))
   exact Eu (E.ret (Fg rfl rfl () (by rw [show (Q7 l) = (Lib.join ((l.take g).map F4) ([32])) from (by rw [jg, Q7, if_neg om])]; try rfl) rfl))
theorem a1g (hn : l.length ≤ 1048576) (hy : ∀ t ∈ l, t.length ≤ 3) : Tr Tryz.prog 11 [.slice a_l m_l c_l] (fun w L => Ro w L B2 [.slice a_l m_l c_l] l) [] (κ := Unit) (fun k => True) (fun k => E4 (Q7 l)) (fun k => []) := by
 refine Tr.intro Tryz.func11 rfl (n := 27) rfl (by decide +kernel) bl (fr := [(0, .slice a_l m_l c_l)]) rfl fun w L hR => ?_
 have hl := hR
 obtain ⟨rfl, ll⟩ := hl.slen
 refine Ew Z1 (Ei rfl (Ev Z1 (Ei rfl (Eu (Eq_ (Ew Z1 (Ei rfl (Eu (E.block (E.loop (κ := Nat) (fun g => g ≤ l.length ∧ True) (fun g => [(0, .slice a_l l.length c_l), (3, E4 (Lib.join ((l.take g).map F4) [32])), (4, .int .i64 (g : Int))]) (fun g => []) (fun g => l.length - g) (0) ⟨Nat.zero_le _, by simp⟩ ⟨rfl, frS (by simp [Lib.join_nil]), rfl, trivial⟩ (.refl _) (fun g pg => ?_)))))))))))
 try dsimp only
 obtain ⟨pk, pa⟩ := pg
 have jl := a1V (g := g) hn hy
 refine Eq_ (Ew Z4 (Em rfl (Em rfl (Ey rfl ((Y.len us_Iss rfl).yd) (Ey rfl ((Y.lss rfl rfl).yd) (j4 (fun q8 => ?_) (fun q8 => ?_)))))))
 ·refine Eu (j9 rfl (f5 (Et (Eq_ (E.block (Eq_ (Ew Z2 (Em rfl (Ey rfl ((Y.gtr rfl rfl).yd) (j4 (fun q12 => ?_) (fun q12 => ?_)))))))))))
  ·refine Eu (j9 rfl (Ez Z3 (Em rfl (Ey rfl ((K9 rfl rfl (by first | omega | (simp only [List.length_append, List.length_cons, List.length_nil] at *; omega))).yd) (Ei rfl (Eu (Ez Z10 (Em rfl (Ey rfl ((K9 rfl rfl (by first | omega | (simp only [List.length_append, List.length_cons, List.length_nil] at *; omega))).yd) (Em rfl (Em rfl ?_)))))))))))
   obtain ⟨eb19, eo19, ec19, ea19, er19, el19, eh19⟩ := hl.elem g om
   obtain ⟨xa19, xc19, rfl⟩ := er19.sl
   have := er19.slen.2
   refine Ey rfl ((o6 us_Iss ty_Is rfl ea19 rfl g rfl om).yd) (Ey rfl (f6 ty_Is rfl (eh19 _) rfl) ?_)
   have j3 := N3 (f := z7) (K := 21) (l := l[g]) (n := 3) (sep := [44]) (fun x => O5) (hy _ (List.getElem_mem om))
   refine Est rfl (i8 (a1d (Nat.le_trans (hy _ (List.getElem_mem om)) dc)) rfl rfl rfl dc (fun w Lp hA => hA.ro er19)) (fun _ _ => (Ey rfl ((K9 rfl rfl (by first | omega | (simp only [List.length_append, List.length_cons, List.length_nil] at *; omega))).yd) (Ey rfl ((K9 rfl rfl (by first | omega | (simp only [List.length_append, List.length_cons, List.length_nil] at *; omega))).yd) (Ei rfl (En (n9 (Et (Ez Z3 (Em rfl (Ey rfl ((Y.add rfl rfl om om).yd) (Ei rfl ?_)))))))))))
   exact Eu (t8 br (g + 1) ⟨rfl, frS (by first | exact a4U om om | exact a4J om om), rfl, trivial⟩ (.refl _) ⟨oz, trivial⟩ oz)
  ·refine Eu (j8 rfl (f5 (Et (Ez Z10 (Em rfl (Ey rfl ((K9 rfl rfl (by first | omega | (simp only [List.length_append, List.length_cons, List.length_nil] at *; omega))).yd) (Em rfl (Em rfl ?_))))))))
   obtain ⟨eb19, eo19, ec19, ea19, er19, el19, eh19⟩ := hl.elem g om
   obtain ⟨xa19, xc19, rfl⟩ := er19.sl
   have := er19.slen.2
   refine Ey rfl ((o6 us_Iss ty_Is rfl ea19 rfl g rfl om).yd) (Ey rfl (f6 ty_Is rfl (eh19 _) rfl) ?_)
   have j3 := N3 (f := z7) (K := 21) (l := l[g]) (n := 3) (sep := [44]) (fun x => O5) (hy _ (List.getElem_mem om))
   refine Est rfl (i8 (a1d (Nat.le_trans (hy _ (List.getElem_mem om)) dc)) rfl rfl rfl dc (fun w Lp hA => hA.ro er19)) (fun _ _ => (Ey rfl ((K9 rfl rfl (by first | omega | (simp only [List.length_append, List.length_cons, List.length_nil] at *; omega))).yd) (Ey rfl ((K9 rfl rfl (by first | omega | (simp only [List.length_append, List.length_cons, List.length_nil] at *; omega))).yd) (Ei rfl (En (n9 (Et (Ez Z3 (Em rfl (Ey rfl ((Y.add rfl rfl om om).yd) (Ei rfl ?_)))))))))))
   exact Eu (t8 br (g + 1) ⟨rfl, frS (by first | exact a4U om om | exact a4J om om), rfl, trivial⟩ (.refl _) ⟨oz, trivial⟩ oz)
 ·refine Eu (j8 rfl (E.exit (l2 (l2 (w8 (Et (Eq_ (Ew Z2 (Em rfl (Ey rfl ((a9S rfl rfl).yd) (j4 (fun q25 => ?_) (fun q25 => ?_))))))))))))
  ·refine Eu (j9 rfl (Ew Z1 (Ei rfl ?_)))
   exact Eu (E.ret (j5 (Fg rfl rfl () (by rw [show (Q7 l) = ([110, 111, 110, 101]) from (by rw [List.take_of_length_le om] at q25; exact a9R q25)]; try rfl) rfl)))
  ·refine Eu (j8 rfl (f5 (Et (Ew Z2 (Em rfl (Ei rfl ?_))))))
   exact Eu (E.ret (Fg rfl rfl () (by rw [show (Q7 l) = (Lib.join ((l.take g).map F4) [32]) from (by rw [List.take_of_length_le om] at q25 ⊢; exact b0F q25)]; try rfl) rfl))
end Go.Proofs.YtfnbilpemdgkkaaGreatDoor
