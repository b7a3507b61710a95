import Derived.Test.YtdopeopehgdccaaBs
import Derived.Test.YtdopeopehgdccaaBe
import Derived.Test.YtdopeopehgdccaaBb
import Derived.Test.YtdopeopehgdccaaT9
import Derived.Test.YtdopeopehgdccaaT4
import Derived.Test.YtdopeopehgdccaaT5
import Derived.Test.YtdopeopehgdccaaBc
import Derived.Test.YtdopeopehgdccaaBd
namespace Go.Proofs.Ytdopeopehgdccaa
open Go.RowKit
set_option linter.all false
set_option maxHeartbeats 2000000
attribute [local irreducible] Nop Yd Yp Ent Has Tr FnP FnP2 Src G4 P5 V3 a0h s9
variable {l : List (Int × List Int)} {s : List Int} {m_s c_s m_l c_l : Nat} {a_s a_l : Option Addr}
theorem Y5 {rel : Int} {a_values : Option Addr} {m_values c_values : Nat} {u6 : List Int} (hz : u6.length ≤ 1048576) : Tr Try.prog 35 [.int .i64 rel, .slice a_values m_values c_values] (fun w L => I64 rel ∧ Ro w L eIs [.slice a_values m_values c_values] u6) [] (κ := Option Addr × Nat × Nat) (fun k => True) (fun k => .agg #[.int .i64 rel, .slice k.1 k.2.1 k.2.2]) (fun k => [ow eIs [.slice k.1 k.2.1 k.2.2] u6]) := by
 refine Tr.intro Try.func35 rfl (n := 10) rfl (by decide +kernel) bl (fr := [(0, .int .i64 rel), (1, .slice a_values m_values c_values)]) rfl fun w L hR => ?_
 obtain ⟨i6rel, hvalues⟩ := hR
 obtain ⟨rfl, lvalues⟩ := hvalues.slen
 refine Ew Z1 (Est rfl (N.alloc ty_Fact dc) (fun b4 _ => (Ev Z6 (Emv rfl rfl (Est rfl (N.bsl (pvs := []) (cs := []) us_Is c6 rfl dc dc (l6 rfl rfl) rfl dc) (fun b6 _ => (Ent.drop (Emv rfl rfl (Est rfl (N.pushR0 (E := Enc.int) t4.int us_Is c6 rfl rfl rfl hvalues bn bn dc) (fun p8 _ => (Ey rfl ((Y.bld (pvs := [_, _]) (cs := [_, _]) ty_Fact O8 rfl rfl).yd) (Ent.p1 (Est rfl (N.sto (vs := [_, _]) (cs' := [_, _]) ty_Fact rfl rfl rfl rfl rfl bl rfl) (fun _ _ => (Eu (E.ret (Ent.p1 ?_)))))))))))))))))
 exact F.c1 br rfl rfl (mS m0) ty_Fact rfl (_, _, _) trivial rfl (J := _) (.refl _) (.inl rfl)
theorem Q9 : Tr Try.prog 39 [.slice a_s m_s c_s, .slice a_l m_l c_l] (fun w L => Ro w L eIs [.slice a_s m_s c_s] s ∧ Ro w L j4 [.slice a_l m_l c_l] l) [] (κ := Unit) (fun k => True) (fun k => .bool (j0 s l)) (fun k => []) := by
 refine Tr.intro Try.func39 rfl (n := 40) rfl (by decide +kernel) bl (fr := [(0, .slice a_s m_s c_s), (1, .slice a_l m_l c_l)]) rfl fun w L hR => ?_
 obtain ⟨hs, hl⟩ := hR
 obtain ⟨rfl, ls⟩ := hs.slen
 obtain ⟨rfl, ll⟩ := hl.slen
 refine Ew Z1 (Eas rfl rfl (Eu (Eq_ (Ew Z3 (Emv rfl rfl (Ey rfl ((Y.len us_Facts rfl).yd) (Emv rfl rfl (Eu (E.block (E.loop (κ := Nat) (fun g => g ≤ l.length ∧ x7 s l 0 = x7 s l g) (fun g => [(0, .slice a_s s.length c_s), (1, .slice a_l l.length c_l), (7, .slice a_l l.length c_l), (8, .int .i64 (↑l.length : Int)), (9, .int .i64 (g : Int))]) (fun g => []) (fun g => l.length - g) 0 ⟨Nat.zero_le _, by simp⟩ ⟨rfl, rfl, rfl, rfl, rfl, trivial⟩ (.refl _) (fun g pg => ?_)))))))))))
 obtain ⟨pk, pa⟩ := pg
 refine Ew Z1 (Ey rfl ((Y.lss rfl rfl).yd) (Ent.d (fun q10 => ?_) (fun q10 => ?_)))
 ·refine Eu (Eq_ (E.ct rfl (E.skipc (Et (Eq_ (E.block (Ew Z6 (Emv rfl rfl ?_))))))))
  obtain ⟨eb12, eo12, ec12, ea12, er12, el12, eh12⟩ := hl.elem g om
  obtain ⟨xa12_0, xc12_0, rfl, ei12_0, xh12_0⟩ := Ro.pFact er12
  have := xh12_0.slen.2
  refine Ey rfl ((Y.ix us_Facts ty_Fact rfl ea12 rfl g rfl om).yd) (Ey rfl (Y.ldS (cs := [_, _]) ty_Fact rfl (eh12 _) rfl) (Est rfl (N.alloc ty_Fact dc) (fun b6 _ => (Eas rfl rfl (Est rfl (N.sto (vs := [_, _]) (cs' := [_, _]) ty_Fact rfl rfl rfl rfl rfl bl rfl) (fun _ _ => (Eu (Eq_ (D.region (fun j => true) n0 (Dyp 0 rfl (Y.mv rfl) (Dy 1 rfl (Y.ldS (cs := [_, _]) ty_Fact rfl (Has.pt m0) rfl) (D.st 2 rfl rfl kr (fun _ => rfl) (N.call0 X8 rfl rfl rfl dc (fun w Lp hA => ⟨hA.ro hs, ei12_0, hA.ro xh12_0⟩)) (fun _ _ => (Ent.b (fun q16 => ?_) (fun q16 => ?_)))))))))))))))
  ·refine Dyp 3 rfl (Y.not (b := true) rfl) (Dyp 4 rfl (Y.mv rfl) (Dyp 5 rfl (Y.mv rfl) (Dyp 6 rfl (Y.gtr rfl rfl) (Ent.d (fun q20 => ?_) (fun q20 => ?_)))))
   ·refine Dyp 7 rfl (Y.mv rfl) (Dyp 8 rfl (Y.mv rfl) (Dyp 9 rfl (Y.mv rfl) (Dyp 10 rfl (Y.sub rfl rfl om om) ?_)))
    obtain ⟨eb25, eo25, ec25, ea25, er25, el25, eh25⟩ := hl.elem (g - 1) om
    obtain ⟨xa25_0, xc25_0, rfl, ei25_0, xh25_0⟩ := Ro.pFact er25
    have := xh25_0.slen.2
    refine Dyp 11 rfl (Y.ix us_Facts ty_Fact rfl ea25 rfl (g - 1) om om) (Dy 12 rfl (Y.ldS (cs := [_, _]) ty_Fact rfl (eh25 _) rfl) (Dy 13 rfl (Y.ldS (cs := [_, _]) ty_Fact rfl (Has.pt m0) rfl) (D.st 14 rfl rfl kr (fun _ => rfl) (N.call0 x5 rfl rfl rfl dc (fun w Lp hA => ⟨ei25_0, hA.ro xh25_0, ei12_0, hA.ro xh12_0⟩)) (fun _ _ => (Dyp 15 rfl (Y.geq rfl rfl) (Ent.d (fun q29 => ?_) (fun q29 => ?_)))))))
    ·refine Dyp 16 rfl (Y.pkt rfl rfl) (Dyp 17 rfl (Y.pkf rfl rfl) (D.done kr (Et (E.ct rfl (Ew Z1 (Eas rfl rfl ?_))))))
     exact Eu (E.ret (E.blr (E.thr (E.thr (E.blr (E.thr (Fb rfl rfl (by grind [j0, x7, m7, m6, o5, ltF, d1, d2, t1, t2]))))))))
    ·refine Dyp 16 rfl (Y.pkt rfl rfl) (Dyp 17 rfl (Y.pkf rfl rfl) (D.done kr (Et (E.cf rfl (E.skipc (E.bln (Et (Ez Z2 (Ey rfl ((Y.add rfl rfl om om).yd) (Emv rfl rfl (Eu (Ent.drop ?_))))))))))))
     exact E.again br (g + 1) rs (.refl _) ⟨by omega, by grind [x7, m7, m6, o5, ltF, Bool.and_assoc, d1, d2, t1, t2]⟩ om
   ·refine Dyp 7 rfl (Y.mv rfl) (Dsk 8 rfl (Dsk 9 rfl (Dsk 10 rfl (Dsk 11 rfl (Dsk 12 rfl (Dsk 13 rfl (Dsk 14 rfl (Dsk 15 rfl (Dyp 16 rfl (Y.pkf rfl rfl) (Dyp 17 rfl (Y.pkf rfl rfl) (D.done kr (Et (E.cf rfl (E.skipc (E.bln (Et (Ez Z2 (Ey rfl ((Y.add rfl rfl om om).yd) (Emv rfl rfl (Eu (Ent.drop ?_)))))))))))))))))))))
    exact E.again br (g + 1) rs (.refl _) ⟨by omega, by grind [x7, m7, m6, o5, ltF, Bool.and_assoc, d1, d2, t1, t2]⟩ om
  ·refine Dyp 3 rfl (Y.not (b := false) rfl) (Dyp 4 rfl (Y.mv rfl) (Dsk 5 rfl (Dsk 6 rfl (D.sku 7 rfl rfl dc kr (Dsk 8 rfl (Dsk 9 rfl (Dsk 10 rfl (Dsk 11 rfl (Dsk 12 rfl (Dsk 13 rfl (Dsk 14 rfl (Dsk 15 rfl (Dsk 16 rfl (Dyp 17 rfl (Y.pkt rfl rfl) (D.done kr (Et (E.ct rfl (Ew Z1 (Eas rfl rfl ?_)))))))))))))))))))
   exact Eu (E.ret (E.blr (E.thr (E.thr (E.blr (E.thr (Fb rfl rfl (by grind [j0, x7, m7, m6, o5, ltF, d1, d2, t1, t2]))))))))
 ·refine Eu (Eq_ (E.cf rfl (E.exit (E.the (E.the (E.blh (Et (Ew Z8 (Emv rfl rfl (Est rfl (N.call0 C7 rfl rfl rfl dc (fun w Lp hA => hA.ro hs)) (fun _ _ => (Ent.b (fun q34 => ?_) (fun q34 => ?_)))))))))))))
  ·refine Emv rfl rfl (Emv rfl rfl (Ey rfl ((Y.len us_Facts rfl).yd) (Ey rfl ((Y.leq rfl rfl).yd) (Ey rfl ((Y.pkt rfl rfl).yd) (Eas rfl rfl ?_)))))
   exact Eu (E.ret (Fb rfl rfl (by grind [j0, x7, m7, m6, o5, ltF, d1, d2, t1, t2])))
  ·refine Emv rfl rfl (Es rfl (Es rfl (Es rfl (Ey rfl ((Y.pkf rfl rfl).yd) (Eas rfl rfl ?_)))))
   exact Eu (E.ret (Fb rfl rfl (by grind [j0, x7, m7, m6, o5, ltF, d1, d2, t1, t2])))
theorem S6 : Tr Try.prog 25 [.slice a_s m_s c_s, .slice a_l m_l c_l] (fun w L => Ro w L eIs [.slice a_s m_s c_s] s ∧ Ro w L j4 [.slice a_l m_l c_l] l) [] (κ := Unit) (fun k => True) (fun k => .bool (j0 s l)) (fun k => []) := by
 refine Tr.intro Try.func25 rfl (n := 43) rfl (by decide +kernel) bl (fr := [(0, .slice a_s m_s c_s), (1, .slice a_l m_l c_l)]) rfl fun w L hR => ?_
 obtain ⟨hs, hl⟩ := hR
 obtain ⟨rfl, ls⟩ := hs.slen
 obtain ⟨rfl, ll⟩ := hl.slen
 refine Ew Z1 (Eas rfl rfl (Eu (Eq_ (Ew Z1 (Eas rfl rfl (Eu (E.block (E.loop (κ := Nat) (fun g => g ≤ l.length ∧ x7 s l 0 = x7 s l g) (fun g => [(0, .slice a_s s.length c_s), (1, .slice a_l l.length c_l), (5, .int .i64 (g : Int))]) (fun g => []) (fun g => l.length - g) 0 ⟨Nat.zero_le _, by simp⟩ ⟨rfl, rfl, rfl, trivial⟩ (.refl _) (fun g pg => ?_)))))))))
 obtain ⟨pk, pa⟩ := pg
 refine Eq_ (Ew Z4 (Emv rfl rfl (Emv rfl rfl (Ey rfl ((Y.len us_Facts rfl).yd) (Ey rfl ((Y.lss rfl rfl).yd) (Ent.d (fun q9 => ?_) (fun q9 => ?_)))))))
 ·refine Eu (E.ct rfl (E.skipc (Et (Eq_ (E.block (Eq_ (D.region (fun j => true) n0 (Dyp 0 rfl (Y.mv rfl) (Dyp 1 rfl (Y.mv rfl) (Dyp 2 rfl (Y.mv rfl) ?_))))))))))
  obtain ⟨eb15, eo15, ec15, ea15, er15, el15, eh15⟩ := hl.elem g om
  obtain ⟨xa15_0, xc15_0, rfl, ei15_0, xh15_0⟩ := Ro.pFact er15
  have := xh15_0.slen.2
  refine Dyp 3 rfl (Y.ix us_Facts ty_Fact rfl ea15 rfl g rfl om) (Dy 4 rfl (Y.ldS (cs := [_, _]) ty_Fact rfl (eh15 _) rfl) (D.st 5 rfl rfl kr (fun _ => rfl) (N.call0 X3 rfl rfl rfl dc (fun w Lp hA => ⟨hA.ro hs, ei15_0, hA.ro xh15_0⟩)) (fun _ _ => (Ent.b (fun q17 => ?_) (fun q17 => ?_)))))
  ·refine Dyp 6 rfl (Y.not (b := true) rfl) (Dyp 7 rfl (Y.mv rfl) (Dyp 8 rfl (Y.mv rfl) (Dyp 9 rfl (Y.gtr rfl rfl) (Ent.d (fun q21 => ?_) (fun q21 => ?_)))))
   ·refine Dyp 10 rfl (Y.mv rfl) (Dyp 11 rfl (Y.mv rfl) (Dyp 12 rfl (Y.mv rfl) (Dyp 13 rfl (Y.sub rfl rfl om om) ?_)))
    obtain ⟨eb26, eo26, ec26, ea26, er26, el26, eh26⟩ := hl.elem (g - 1) om
    obtain ⟨xa26_0, xc26_0, rfl, ei26_0, xh26_0⟩ := Ro.pFact er26
    have := xh26_0.slen.2
    refine Dyp 14 rfl (Y.ix us_Facts ty_Fact rfl ea26 rfl (g - 1) om om) (Dy 15 rfl (Y.ldS (cs := [_, _]) ty_Fact rfl (eh26 _) rfl) (Dyp 16 rfl (Y.mv rfl) (Dyp 17 rfl (Y.mv rfl) (Dyp 18 rfl (Y.ix us_Facts ty_Fact rfl ea15 rfl g rfl om) (Dy 19 rfl (Y.ldS (cs := [_, _]) ty_Fact rfl (eh15 _) rfl) (D.st 20 rfl rfl kr (fun _ => rfl) (N.call0 x8 rfl rfl rfl dc (fun w Lp hA => ⟨ei26_0, hA.ro xh26_0, ei15_0, hA.ro xh15_0⟩)) (fun _ _ => (Dyp 21 rfl (Y.geq rfl rfl) (Ent.d (fun q33 => ?_) (fun q33 => ?_))))))))))
    ·refine Dyp 22 rfl (Y.pkt rfl rfl) (Dyp 23 rfl (Y.pkf rfl rfl) (D.done kr (Et (E.ct rfl (Ew Z1 (Eas rfl rfl ?_))))))
     exact Eu (E.ret (E.blr (E.thr (E.thr (E.blr (E.thr (Fb rfl rfl (by grind [j0, x7, m7, m6, o5, ltF, d1, d2, t1, t2]))))))))
    ·refine Dyp 22 rfl (Y.pkt rfl rfl) (Dyp 23 rfl (Y.pkf rfl rfl) (D.done kr (Et (E.cf rfl (E.skipc (E.bln (Et (Ez Z3 (Emv rfl rfl (Ey rfl ((Y.add rfl rfl om om).yd) (Eas rfl rfl ?_)))))))))))
     exact Eu (E.again br (g + 1) rs (.refl _) ⟨by omega, by grind [x7, m7, m6, o5, ltF, Bool.and_assoc, d1, d2, t1, t2]⟩ om)
   ·refine Dyp 10 rfl (Y.mv rfl) (Dsk 11 rfl (Dsk 12 rfl (Dsk 13 rfl (Dsk 14 rfl (Dsk 15 rfl (Dsk 16 rfl (Dsk 17 rfl (Dsk 18 rfl (Dsk 19 rfl (Dsk 20 rfl (Dsk 21 rfl (Dyp 22 rfl (Y.pkf rfl rfl) (Dyp 23 rfl (Y.pkf rfl rfl) (D.done kr (Et (E.cf rfl (E.skipc (E.bln (Et (Ez Z3 (Emv rfl rfl (Ey rfl ((Y.add rfl rfl om om).yd) (Eas rfl rfl ?_)))))))))))))))))))))))
    exact Eu (E.again br (g + 1) rs (.refl _) ⟨by omega, by grind [x7, m7, m6, o5, ltF, Bool.and_assoc, d1, d2, t1, t2]⟩ om)
  ·refine Dyp 6 rfl (Y.not (b := false) rfl) (Dyp 7 rfl (Y.mv rfl) (Dsk 8 rfl (Dsk 9 rfl (D.sku 10 rfl rfl dc kr (Dsk 11 rfl (Dsk 12 rfl (Dsk 13 rfl (Dsk 14 rfl (Dsk 15 rfl (Dsk 16 rfl (Dsk 17 rfl (Dsk 18 rfl (Dsk 19 rfl (Dsk 20 rfl (Dsk 21 rfl (Dsk 22 rfl (Dyp 23 rfl (Y.pkt rfl rfl) (D.done kr (Et (E.ct rfl (Ew Z1 (Eas rfl rfl ?_))))))))))))))))))))))
   exact Eu (E.ret (E.blr (E.thr (E.thr (E.blr (E.thr (Fb rfl rfl (by grind [j0, x7, m7, m6, o5, ltF, d1, d2, t1, t2]))))))))
 ·refine Eu (E.cf rfl (E.exit (E.the (E.the (E.blh (Et (Ew Z8 (Emv rfl rfl (Est rfl (N.call0 y4 rfl rfl rfl dc (fun w Lp hA => hA.ro hs)) (fun _ _ => (Ent.b (fun q37 => ?_) (fun q37 => ?_))))))))))))
  ·refine Emv rfl rfl (Emv rfl rfl (Ey rfl ((Y.len us_Facts rfl).yd) (Ey rfl ((Y.leq rfl rfl).yd) (Ey rfl ((Y.pkt rfl rfl).yd) (Eas rfl rfl ?_)))))
   exact Eu (E.ret (Fb rfl rfl (by grind [j0, x7, m7, m6, o5, ltF, d1, d2, t1, t2])))
  ·refine Emv rfl rfl (Es rfl (Es rfl (Es rfl (Ey rfl ((Y.pkf rfl rfl).yd) (Eas rfl rfl ?_)))))
   exact Eu (E.ret (Fb rfl rfl (by grind [j0, x7, m7, m6, o5, ltF, d1, d2, t1, t2])))
theorem R5 {l : List (Int × Int × List Int)} {a_facts : Option Addr} {m_facts c_facts : Nat} {a8 : List (Int × List Int)} : Tr Try.prog 28 [.slice a_s m_s c_s, .slice a_l m_l c_l, .slice a_facts m_facts c_facts] (fun w L => Ro w L eIs [.slice a_s m_s c_s] s ∧ Ro w L l5 [.slice a_l m_l c_l] l ∧ Ro w L j4 [.slice a_facts m_facts c_facts] a8) [] (κ := Unit) (fun k => True) (fun k => .bool (g0 s l && j0 s a8)) (fun k => []) := by
 refine Tr.intro Try.func28 rfl (n := 15) rfl (by decide +kernel) bl (fr := [(0, .slice a_s m_s c_s), (1, .slice a_l m_l c_l), (2, .slice a_facts m_facts c_facts)]) rfl fun w L hR => ?_
 obtain ⟨hs, hl, hfacts⟩ := hR
 obtain ⟨rfl, ls⟩ := hs.slen
 obtain ⟨rfl, ll⟩ := hl.slen
 obtain ⟨rfl, lfacts⟩ := hfacts.slen
 refine Ew Z1 (Eas rfl rfl (Ev Z9 (Emv rfl rfl (Emv rfl rfl (Est rfl (N.call0 R6 rfl rfl rfl dc (fun w Lp hA => ⟨hA.ro hs, hA.ro hl⟩)) (fun _ _ => (Ent.b (fun q9 => ?_) (fun q9 => ?_))))))))
 ·refine Emv rfl rfl (Emv rfl rfl (Emv rfl rfl (Est rfl (N.call0 Q9 rfl rfl rfl dc (fun w Lp hA => ⟨hA.ro hs, hA.ro hfacts⟩)) (fun _ _ => (Ey rfl ((Y.pkt rfl rfl).yd) (Eas rfl rfl ?_))))))
  exact Eu (E.ret (Fb rfl rfl (by grind [d1, d2, t1, t2])))
 ·refine Emv rfl rfl (Es rfl (Es rfl (Es rfl (Ey rfl ((Y.pkf rfl rfl).yd) (Eas rfl rfl ?_)))))
  exact Eu (E.ret (Fb rfl rfl (by grind [d1, d2, t1, t2])))
end Go.Proofs.Ytdopeopehgdccaa
