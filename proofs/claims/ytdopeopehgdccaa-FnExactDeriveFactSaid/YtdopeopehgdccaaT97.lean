import Derived.Test.YtdopeopehgdccaaBs
import Derived.Test.YtdopeopehgdccaaT96
import Derived.Test.YtdopeopehgdccaaGf
namespace Go.Proofs.Ytdopeopehgdccaa
open Go.RowKit
set_option linter.all false
set_option maxHeartbeats 2000000
attribute [local irreducible] Nop Yd Yp Ent Has Tr FnP FnP2 Src G4 P5 V3 a0h s9 wyI wyK wyR wyB dvI dvF
theorem F6 {a_s : Option Addr} {m_s c_s : Nat} {s : List Int} {a_l : Option Addr} {m_l c_l : Nat} {l : List (Int × Int × List Int)} {a_facts : Option Addr} {m_facts c_facts : Nat} {a8 : List (Int × List Int)} {b9 : Int} {d4 : Option Addr} {d9 c8 : Nat} {b8 : List Int} : Tr Try.prog 12 [.slice a_s m_s c_s, .slice a_l m_l c_l, .slice a_facts m_facts c_facts, .agg #[.int .i64 b9, .slice d4 d9 c8]] (fun w L => Ro w L eIs [.slice a_s m_s c_s] s ∧ Ro w L l5 [.slice a_l m_l c_l] l ∧ Ro w L j4 [.slice a_facts m_facts c_facts] a8 ∧ I64 b9 ∧ Ro w L eIs [.slice d4 d9 c8] b8) [] (κ := Option Addr × Nat × Nat) (fun k => True) (fun k => .tuple #[.slice k.1 k.2.1 k.2.2, .bool (decide (0 < (dvF s l a8 (b9, b8)).length))]) (fun k => [ow eIs [.slice k.1 k.2.1 k.2.2] (dvF s l a8 (b9, b8))]) := by
 refine Tr.intro Try.func12 rfl (n := 58) rfl (by decide +kernel) bl (fr := [(0, .slice a_s m_s c_s), (1, .slice a_l m_l c_l), (2, .slice a_facts m_facts c_facts), (3, .agg #[.int .i64 b9, .slice d4 d9 c8])]) rfl fun w L hR => ?_
 obtain ⟨hs, hl, hfacts, p5, f6⟩ := hR
 obtain ⟨rfl, ls⟩ := hs.slen
 obtain ⟨rfl, ll⟩ := hl.slen
 obtain ⟨rfl, lfacts⟩ := hfacts.slen
 obtain ⟨rfl, u5⟩ := f6.slen
 refine Ew Z3 (Est rfl (N.box (cs := [_, _]) rfl dc rfl) (fun b7 _ => (Eas rfl rfl (Eas rfl rfl (Eu (Eq_ (Ew Z5 (Emv rfl rfl (Emv rfl rfl (Emv rfl rfl (Est rfl (N.call0 R5 rfl rfl rfl dc (fun w Lp hA => ⟨hA.ro hs, hA.ro hl, hA.ro hfacts⟩)) (fun _ _ => (Ent.b (fun q18 => ?_) (fun q18 => ?_))))))))))))))
 ·obtain ⟨jr0, jf0⟩ := Bool.and_eq_true_iff.1 q18
  refine Ey rfl ((Y.not (b := true) rfl).yd) (Eu (E.cf rfl (E.skipc (Et (Ew Z2 (Est rfl (N.bsl (pvs := []) (cs := []) us_Is c6 rfl dc dc (l6 rfl rfl) rfl dc) (fun b20 _ => (Ent.drop (Eas rfl rfl (Eu (Eq_ (Ew Z3 (Emv rfl rfl (Ey rfl ((Y.len us_Facts rfl).yd) (Emv rfl rfl (Eu (E.block (Ent.mkow (A := []) (Own.nil (E := Enc.int) (e := tI) (a := (some ⟨b20, 0, none⟩))) rfl (Ent.cv (congrArg (ow eIs [_]) (show [] = dvI l a8 (b9, b8) 0 from by exact a0R)) (E.loop (κ := Nat × Option Addr × Nat × Nat) (fun g => g.1 ≤ a8.length ∧ True) (fun g => [(1, .slice a_l l.length c_l), (7, .pointer (some ⟨b7, 0, none⟩)), (10, .slice g.2.1 g.2.2.1 g.2.2.2), (21, .slice a_facts a8.length c_facts), (22, .int .i64 (↑a8.length : Int)), (23, .int .i64 (↑g.1 : Int))]) (fun g => [ow eIs [.slice g.2.1 g.2.2.1 g.2.2.2] (dvI l a8 (b9, b8) g.1), pt b7 37 [.int .i64 b9, .slice d4 b8.length c8]]) (fun g => a8.length - g.1) (0, (some ⟨b20, 0, none⟩), 0, 0) ⟨Nat.zero_le _, by simp⟩ ⟨rfl, rfl, rfl, rfl, rfl, rfl, trivial⟩ (.refl _) (fun g pg => ?_)))))))))))))))))))))
  obtain ⟨g, aA0_0, mA0_0, cA0_0⟩ := g
  try dsimp only at pg
  try dsimp only
  obtain ⟨pk, pa⟩ := pg
  have jd : (dvI l a8 (b9, b8) g).length ≤ 5325 := a0s jr0 jf0 om
  refine Ent.lenow m0 fun eaA0_0 laA0_0 => ?_
  subst eaA0_0
  refine Ew Z1 (Ey rfl ((Y.lss rfl rfl).yd) (Ent.d (fun q24 => ?_) (fun q24 => ?_)))
  ·refine Eu (Eq_ (E.ct rfl (E.skipc (Et (Eq_ (E.block (Ew Z6 (Emv rfl rfl ?_))))))))
   obtain ⟨eb26, eo26, ec26, ea26, er26, el26, eh26⟩ := hfacts.elem g om
   obtain ⟨xa26_0, xc26_0, rfl, ei26_0, xh26_0⟩ := Ro.pFact er26
   have := xh26_0.slen.2
   refine Ey rfl ((Y.ix us_Facts ty_Fact rfl ea26 rfl g rfl om).yd) (Ey rfl (Y.ldS (cs := [_, _]) ty_Fact rfl (eh26 _) rfl) (Est rfl (N.alloc ty_Fact dc) (fun b12 _ => (Eas rfl rfl (Est rfl (N.sto (vs := [_, _]) (cs' := [_, _]) ty_Fact rfl rfl rfl rfl rfl bl rfl) (fun _ _ => (Ev Z9 (Emv rfl rfl (Ey rfl (Y.ldS (cs := [_, _]) ty_Fact rfl (Has.pt m0) rfl) (Ey rfl (Y.ldS (cs := [_, _]) ty_Fact rfl (Has.pt (mS (mS m0))) rfl) ?_))))))))))
   have jfo := (I6 jf0).2 _ (List.getElem_mem (show g < a8.length by omega))
   have jw := (a0n (to := (b9, b8)) jr0 jfo).1
   refine Est rfl (N.call (X9 jr0 jfo) rfl rfl rfl dc rfl (fun w Lp hA => ⟨hA.ro hl, ei26_0, hA.ro xh26_0, p5, hA.ro f6⟩)) (fun k32 _ => ?_)
   obtain ⟨a32, m32, c32⟩ := k32
   refine Ent.lenow m0 fun e32 l32 => ?_
   subst e32
   refine Emv rfl rfl (Ey rfl ((Y.ext rfl rfl).yd) (Ey rfl ((Y.ext rfl rfl).yd) (Eas rfl rfl (Eas rfl rfl (Ent.b (fun q14 => ?_) (fun q14 => ?_))))))
   ·have jw2 : (wyR l (a8[g].1, a8[g].2) (b9, b8)).length ≤ 5324 := jw
    have jeq : ((a32, (wyR l (a8[g].1, a8[g].2) (b9, b8)).length, c32) : Option Addr × Nat × Nat).2.1 = (wyR l (a8[g].1, a8[g].2) (b9, b8)).length := rfl
    have jeq2 : ((a32, (wyR l ((a8.get ⟨g, by omega⟩).1, (a8.get ⟨g, by omega⟩).2) (b9, b8)).length, c32) : Option Addr × Nat × Nat).2.1 = (wyR l (a8[g].1, a8[g].2) (b9, b8)).length := rfl
    refine Ev Z14 (Emv rfl rfl (Emv rfl rfl (Emv rfl rfl (Ey rfl ((Y.len us_Is rfl).yd) (Ey rfl ((Y.eql rfl rfl).yd) (Ent.d (fun q39 => ?_) (fun q39 => ?_)))))))
    ·refine Emv rfl rfl (Es rfl (Es rfl (Es rfl (Es rfl (Es rfl (Es rfl (Ey rfl ((Y.pkt rfl rfl).yd) (Ey rfl ((Y.pkt rfl rfl).yd) (Eu (E.ct rfl (Ez Z5 (Emv rfl rfl (Est rfl (N.bsl (pvs := [_]) (cs := [_]) us_Is c6 rfl dc dc (l6 rfl rfl) rfl dc) (fun b50 _ => (Ent.mkow (A := _ :: _) (Own.row1 (E := Enc.int) (e := tI) (Own.int i6)) rfl (Emv rfl rfl (Ent.p1 (Ent.p1 (Est rfl (N.pushO (E := Enc.int) us_Is c6 rfl rfl rfl rfl rfl bn bn dc) (fun p52 _ => (Eas rfl rfl (En (E.bln (Et (Ez Z2 (Ey rfl ((Y.add rfl rfl om om).yd) (Emv rfl rfl (Eu (Ent.p1 (Ent.drop (Ent.p1 (Ent.drop (Ent.cv (congrArg (ow eIs [_]) (show ([(g : Int)]) ++ (wyR l a8[g] (b9, b8)) = dvI l a8 (b9, b8) (g + 1) from by first | exact r9 om q14 om | exact r8 om q14 q46 | exact s0 om q14 | exact r7 om om q46)) (Ent.p1 (Ent.p1 ?_)))))))))))))))))))))))))))))))))))
     exact Ea (g + 1, p52.1, (1 + (wyR l a8[g] (b9, b8)).length), p52.2) ⟨oz, trivial⟩
    ·refine Emv rfl rfl (Emv rfl rfl (Ey rfl ((Y.len us_Is rfl).yd) (Ey rfl ((Y.add rfl rfl om om).yd) (Emv rfl rfl (Ey rfl ((Y.len us_Is rfl).yd) (Ey rfl ((Y.lss rfl rfl).yd) (Ent.d (fun q46 => ?_) (fun q46 => ?_))))))))
     ·refine Ey rfl ((Y.pkf rfl rfl).yd) (Ey rfl ((Y.pkt rfl rfl).yd) (Eu (E.ct rfl (Ez Z5 (Emv rfl rfl (Est rfl (N.bsl (pvs := [_]) (cs := [_]) us_Is c6 rfl dc dc (l6 rfl rfl) rfl dc) (fun b50 _ => (Ent.mkow (A := _ :: _) (Own.row1 (E := Enc.int) (e := tI) (Own.int i6)) rfl (Emv rfl rfl (Ent.p1 (Ent.p1 (Est rfl (N.pushO (E := Enc.int) us_Is c6 rfl rfl rfl rfl rfl bn bn dc) (fun p52 _ => (Eas rfl rfl (En (E.bln (Et (Ez Z2 (Ey rfl ((Y.add rfl rfl om om).yd) (Emv rfl rfl (Eu (Ent.p1 (Ent.drop (Ent.p1 (Ent.drop (Ent.cv (congrArg (ow eIs [_]) (show ([(g : Int)]) ++ (wyR l a8[g] (b9, b8)) = dvI l a8 (b9, b8) (g + 1) from by first | exact r9 om q14 om | exact r8 om q14 q46 | exact s0 om q14 | exact r7 om om q46)) (Ent.p1 (Ent.p1 ?_))))))))))))))))))))))))))))
      exact Ea (g + 1, p52.1, (1 + (wyR l a8[g] (b9, b8)).length), p52.2) ⟨oz, trivial⟩
     ·refine Ey rfl ((Y.pkf rfl rfl).yd) (Ey rfl ((Y.pkt rfl rfl).yd) (Eu (E.cf rfl (E.skipc (E.bln (Et (Ez Z2 (Ey rfl ((Y.add rfl rfl om om).yd) (Emv rfl rfl (Eu (Ent.drop (Ent.drop (Ent.cv (congrArg (ow eIs [_]) (show dvI l a8 (b9, b8) g = dvI l a8 (b9, b8) (g + 1) from by first | exact r9 om q14 om | exact r8 om q14 q46 | exact s0 om q14 | exact r7 om om q46)) (Ent.p1 (Ent.p1 ?_)))))))))))))))
      exact Ea (g + 1, aA0_0, (dvI l a8 (b9, b8) g).length, cA0_0) ⟨oz, trivial⟩
   ·refine Ev Z14 (Emv rfl rfl (Emv rfl rfl (Es rfl (Es rfl (Es rfl (E.sku rfl rfl dc (Es rfl (Es rfl (Es rfl (Es rfl (Es rfl (Es rfl (Es rfl (Ey rfl ((Y.pkf rfl rfl).yd) (Eu (E.cf rfl (E.skipc (E.bln (Et (Ez Z2 (Ey rfl ((Y.add rfl rfl om om).yd) (Emv rfl rfl (Eu (Ent.drop (Ent.drop (Ent.cv (congrArg (ow eIs [_]) (show dvI l a8 (b9, b8) g = dvI l a8 (b9, b8) (g + 1) from by first | exact r9 om q14 om | exact r8 om q14 q46 | exact s0 om q14 | exact r7 om om q46)) (Ent.p1 (Ent.p1 ?_))))))))))))))))))))))))))))
    exact Ea (g + 1, aA0_0, (dvI l a8 (b9, b8) g).length, cA0_0) ⟨oz, trivial⟩
  ·refine Eu (Eq_ (E.cf rfl (E.exit (E.the (E.the (E.blh (Et (Ew Z6 (Emv rfl rfl (Emv rfl rfl (Ey rfl ((Y.len us_Is rfl).yd) (Ey rfl ((Y.gtr rfl rfl).yd) (Eas rfl rfl (Eas rfl rfl (Eu (E.ret (Ent.cv (congrArg (ow eIs [_]) (show _ = dvF s l a8 (b9, b8) by first | exact N5 jr0 jf0 om om | (rw [← N5 (to := (b9, b8)) (i := g) jr0 jf0 om om]; apply decide_eq_decide.2; omega))) ?_)))))))))))))))))
   exact F.r2 br rfl rfl rfl (_, _, _) trivial (by rw [show (decide (0 < (dvF s l a8 (b9, b8)).length)) = (decide (0 < (↑((dvI l a8 (b9, b8) g).length) : Int))) from (by first | exact N5 jr0 jf0 om om | (rw [← N5 (to := (b9, b8)) (i := g) jr0 jf0 om om]; apply decide_eq_decide.2; omega))]; try rfl) (J := _) (.refl _) (.inl rfl)
 ·refine Ey rfl ((Y.not (b := false) rfl).yd) (Eu (E.ct rfl (Ew Z2 (Eas rfl rfl (Eas rfl rfl (Eu (E.ret (E.thr (Ent.mkow (A := []) (Own.nil (E := Enc.int) (e := tI) (a := none)) rfl (Ent.cv (congrArg (ow eIs [_]) (show _ = dvF s l a8 (b9, b8) by first | exact (F0 q18).1 | exact (F0 q18).2 | exact (F0 q18).1.symm | exact (F0 q18).2.symm)) ?_))))))))))
  exact F.r2 br rfl rfl rfl (none, 0, 0) trivial (by rw [show (decide (0 < (dvF s l a8 (b9, b8)).length)) = (false) from (by first | exact (F0 q18).1 | exact (F0 q18).2 | exact (F0 q18).1.symm | exact (F0 q18).2.symm)]; try rfl) (J := _) (.refl _) (.inl rfl)
end Go.Proofs.Ytdopeopehgdccaa
