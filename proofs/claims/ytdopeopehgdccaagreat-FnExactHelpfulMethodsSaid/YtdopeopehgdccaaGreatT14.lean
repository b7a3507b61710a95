import Derived.Test.YtdopeopehgdccaaGreatBs
import Derived.Test.YtdopeopehgdccaaGreatT13
namespace Go.Proofs.YtdopeopehgdccaaGreat
open Go.RowKit
set_option linter.all false
set_option maxHeartbeats 2000000
attribute [local irreducible] Nop Yd Yp Ent Has Tr FnP FnP2 Src j7 d7 J2 Y5 E0
variable {l : List (Int × Int × List Int)} {d6 : List (Int × List Int)} {m_l c_l m_facts c_facts : Nat} {a_l a_facts : Option Addr}
theorem a3S (hr : ∀ r ∈ l, ∀ f ∈ d6, f.1 = r.1 → ∀ x ∈ r.2.2, 0 ≤ x ∧ x < f.2.length) (hrl : ∀ r ∈ l, r.2.2.length ≤ 1048576) (hn1 : l.length ≤ 4) (hn2 : d6.length ≤ 1048576) : Tr Tryz.prog 271 [.slice a_l m_l c_l, .slice a_facts m_facts c_facts] (fun w L => Ro w L G1 [.slice a_l m_l c_l] l ∧ Ro w L j6 [.slice a_facts m_facts c_facts] d6) [] (κ := Option Addr × Nat × Nat) (fun k => True) (fun k => .slice k.1 k.2.1 k.2.2) (fun k => [ow j6 [.slice k.1 k.2.1 k.2.2] (i9 l d6)]) := by
 refine Tr.intro Tryz.func271 rfl (n := 44) rfl (by decide +kernel) bl (fr := [(0, .slice a_l m_l c_l), (1, .slice a_facts m_facts c_facts)]) rfl fun w L hR => ?_
 obtain ⟨hl, hfacts⟩ := hR
 obtain ⟨rfl, ll⟩ := hl.slen
 obtain ⟨rfl, lfacts⟩ := hfacts.slen
 refine Ew Z1 (Eas rfl rfl (Ev Z2 (Est rfl (N.bsl (pvs := []) (cs := []) us_Facts ty_Fact rfl dc dc (o9 rfl rfl) rfl dc) (fun b12 _ => (Ent.drop (Eas rfl rfl (Eu (Eq_ (Ew Z3 (Emv rfl rfl (Ey rfl ((Y.len us_Facts rfl).yd) (Emv rfl rfl (Eu (E.block (Ent.mkow (A := []) (Own.nil (E := z7) (e := tFact) (a := (some ⟨b12, 0, none⟩))) rfl (Ent.cv (congrArg (ow j6 [_]) (show [] = (d6.take 0).foldl (B2 l d6) [] from by first | rfl | (simp; done) | grind [i9, B2, C1, d1, d2, t1, t2])) (E.loop (κ := Nat × Option Addr × Nat × Nat) (fun g => g.1 ≤ d6.length ∧ True) (fun g => [(0, .slice a_l l.length c_l), (1, .slice a_facts d6.length c_facts), (5, .slice g.2.1 g.2.2.1 g.2.2.2), (13, .slice a_facts d6.length c_facts), (14, .int .i64 (↑d6.length : Int)), (15, .int .i64 (↑g.1 : Int))]) (fun g => [ow j6 [.slice g.2.1 g.2.2.1 g.2.2.2] ((d6.take g.1).foldl (B2 l d6) [])]) (fun g => d6.length - g.1) (0, (some ⟨b12, 0, none⟩), 0, 0) ⟨Nat.zero_le _, by simp⟩ ⟨rfl, rfl, rfl, rfl, rfl, rfl, trivial⟩ (.refl _) (fun g pg => ?_))))))))))))))))))
 obtain ⟨g, aA0_0, mA0_0, cA0_0⟩ := g
 try dsimp only at pg
 try dsimp only
 obtain ⟨pk, pa⟩ := pg
 have jn := a6a (l := l) (d6 := d6) (fs := d6.take g)
 have jp := List.length_take_le g d6
 have jmul := Nat.mul_le_mul_left (d6.take g).length hn1
 refine Ent.lenow m0 fun eaA0_0 laA0_0 => ?_
 subst eaA0_0
 refine Ew Z1 (Ey rfl ((Y.lss rfl rfl).yd) (Ent.d (fun q16 => ?_) (fun q16 => ?_)))
 ·obtain ⟨eb17, eo17, ec17, ea17, er17, el17, eh17⟩ := hfacts.elem g om
  obtain ⟨xa17_0, xc17_0, rfl, ei17_0, xh17_0⟩ := Ro.pFact er17
  have := xh17_0.slen.2
  refine Eu (Eq_ (E.ct rfl (E.skipc (Et (Eq_ (E.block (Ew Z4 (Ey rfl ((Y.ix us_Facts ty_Fact rfl ea17 rfl g rfl om).yd) (Ey rfl (Y.ldS (cs := [_, _]) ty_Fact rfl (eh17 _) rfl) (Est rfl (N.alloc ty_Fact dc) (fun b7 _ => (Est rfl (N.sto (vs := [_, _]) (cs' := [_, _]) ty_Fact rfl rfl rfl rfl rfl bl rfl) (fun _ _ => (Ev Z3 (Emv rfl rfl (Ey rfl ((Y.len us_Rules rfl).yd) (Emv rfl rfl (Eu (E.block (Ent.p1 (Ent.cv (congrArg (ow j6 [_]) (show (d6.take g).foldl (B2 l d6) [] = (l.take 0).foldl (C1 d6 d6[g]) ((d6.take g).foldl (B2 l d6) []) from by first | rfl | (simp; done) | grind [i9, B2, C1, d1, d2, t1, t2])) (E.loop (κ := Nat × Option Addr × Nat × Nat) (fun h => h.1 ≤ l.length ∧ True) (fun h => [(0, .slice a_l l.length c_l), (1, .slice a_facts d6.length c_facts), (5, .slice h.2.1 h.2.2.1 h.2.2.2), (7, .pointer (some ⟨b7, 0, none⟩)), (13, .slice a_facts d6.length c_facts), (14, .int .i64 (↑d6.length : Int)), (15, .int .i64 (g : Int)), (19, .slice a_l l.length c_l), (20, .int .i64 (↑l.length : Int)), (21, .int .i64 (↑h.1 : Int))]) (fun h => [ow j6 [.slice h.2.1 h.2.2.1 h.2.2.2] ((l.take h.1).foldl (C1 d6 d6[g]) ((d6.take g).foldl (B2 l d6) [])), pt b7 115 [.int .i64 d6[g].1, .slice xa17_0 d6[g].2.length xc17_0]]) (fun h => l.length - h.1) (0, aA0_0, ((d6.take g).foldl (B2 l d6) []).length, cA0_0) ⟨Nat.zero_le _, by simp⟩ ⟨rfl, rfl, rfl, rfl, rfl, rfl, rfl, rfl, rfl, rfl, trivial⟩ (.refl _) (fun h ph => ?_)))))))))))))))))))))))
  obtain ⟨h, aA1_0, mA1_0, cA1_0⟩ := h
  try dsimp only at ph
  try dsimp only
  obtain ⟨pk, pa⟩ := ph
  have jn := a5n (l := l) (d6 := d6) (f := d6[g]) (out := (d6.take g).foldl (B2 l d6) []) (h := h)
  have jp := List.length_take_le h l
  have jel := b0E (l := l) (d6 := d6) (g := g) (h := h) hrl om
  refine Ent.lenow m0 fun eaA1_0 laA1_0 => ?_
  subst eaA1_0
  refine Ew Z1 (Ey rfl ((Y.lss rfl rfl).yd) (Ent.d (fun q22 => ?_) (fun q22 => ?_)))
  ·obtain ⟨eb23, eo23, ec23, ea23, er23, el23, eh23⟩ := hl.elem h om
   obtain ⟨xa23_0, xc23_0, rfl, ei23_0, ei23_1, xh23_0⟩ := Ro.pRule er23
   have := xh23_0.slen.2
   refine Eu (Eq_ (E.ct rfl (E.skipc (Et (Eq_ (E.block (Ew Z4 (Ey rfl ((Y.ix us_Rules ty_Rule rfl ea23 rfl h rfl om).yd) (Ey rfl (Y.ldS (cs := [_, _, _]) ty_Rule rfl (eh23 _) rfl) (Est rfl (N.alloc ty_Rule dc) (fun b9 _ => (Est rfl (N.sto (vs := [_, _, _]) (cs' := [_, _, _]) ty_Rule rfl rfl rfl rfl rfl bl rfl) (fun _ _ => (Ev Z9 (Ey rfl (Y.ldS (cs := [_, _, _]) ty_Rule rfl (Has.pt m0) rfl) (Ey rfl (Y.ldS (cs := [_, _]) ty_Fact rfl (Has.pt (mS (mS m0))) rfl) (Est rfl (N.call (a1Y (hr _ (List.getElem_mem om) _ (List.getElem_mem om)) (hrl _ (List.getElem_mem om))) rfl rfl rfl dc rfl (fun w Lp hA => ⟨ei23_0, ei23_1, hA.ro xh23_0, ei17_0, hA.ro xh17_0⟩)) (fun k28 _ => ?_))))))))))))))))))
   obtain ⟨a28, m28, c28⟩ := k28
   refine Ent.lenow m0 fun e28 l28 => ?_
   subst e28
   refine Emv rfl rfl (Ey rfl ((Y.ext rfl rfl).yd) (Ey rfl ((Y.ext rfl rfl).yd) (Est rfl (N.alloc ty_Fact dc) (fun b10 _ => (Est rfl (N.sto (vs := [_, _]) (cs' := [_, _]) ty_Fact rfl rfl rfl rfl rfl bl rfl) (fun _ _ => (Eas rfl rfl (Ent.b (fun q11 => ?_) (fun q11 => ?_)))))))))
   ·refine Ev Z7 (Emv rfl rfl (Emv rfl rfl (Emv rfl rfl (Ey rfl (Y.ldS (cs := [_, _]) ty_Fact rfl (Has.pt m0) rfl) (Est rfl (N.call0 a2j rfl rfl rfl dc (fun w Lp hA => ⟨hA.ro hfacts, i6, hA.ow (mS m0)⟩)) (fun _ _ => (Ent.b (fun q35 => ?_) (fun q35 => ?_))))))))
    ·refine Ey rfl ((Y.not (b := true) rfl).yd) (Ey rfl ((Y.pkt rfl rfl).yd) (Eu (E.cf rfl (E.skipc (E.bln (Et (Ez Z2 (Ey rfl ((Y.add rfl rfl om om).yd) (Emv rfl rfl (Eu (Ent.drop (Ent.drop (Ent.drop (Ent.cv (congrArg (ow j6 [_]) (show (l.take h).foldl (C1 d6 d6[g]) ((d6.take g).foldl (B2 l d6) []) = (l.take (h + 1)).foldl (C1 d6 d6[g]) ((d6.take g).foldl (B2 l d6) []) from by grind [i9, B2, C1, d1, d2, t1, t2])) (Ent.p1 (Ent.p1 ?_))))))))))))))))
     exact Ea (h + 1, aA1_0, ((l.take h).foldl (C1 d6 d6[g]) ((d6.take g).foldl (B2 l d6) [])).length, cA1_0) ⟨oz, trivial⟩
    ·refine Ey rfl ((Y.not (b := false) rfl).yd) (Ey rfl ((Y.pkt rfl rfl).yd) (Eu (E.ct rfl (Ez Z4 (Emv rfl rfl (Ey rfl (Y.ldS (cs := [_, _]) ty_Fact rfl (Has.pt m0) rfl) (Ent.p3 (Est rfl (N.call (pre := [_]) (a1G fc (b3j (hrl _ (List.getElem_mem om)))) rfl rfl rfl dc rfl (fun w Lp hA => ⟨i6, hA.ow (mS m0)⟩)) (fun k40 _ => ?_)))))))))
     obtain ⟨a40, m40, c40⟩ := k40
     refine Ent.lenow m0 fun e40 l40 => ?_
     subst e40
     refine Eas rfl rfl (En (E.bln (Et (Ez Z2 (Ey rfl ((Y.add rfl rfl om om).yd) (Emv rfl rfl (Eu (Ent.p1 (Ent.drop (Ent.p1 (Ent.drop (Ent.p1 (Ent.drop (Ent.cv (congrArg (ow j6 [_]) (show o4 ((l.take h).foldl (C1 d6 d6[g]) ((d6.take g).foldl (B2 l d6) [])) ((cond (decide (d6[g].1 = l[h].1)) l[h].2.1 0), (cond (decide (d6[g].1 = l[h].1)) (vals l[h].2.2 d6[g].2) [])) = (l.take (h + 1)).foldl (C1 d6 d6[g]) ((d6.take g).foldl (B2 l d6) []) from by grind [i9, B2, C1, d1, d2, t1, t2])) (Ent.p1 (Ent.p1 ?_))))))))))))))))
     exact Ea (h + 1, a40, (o4 ((l.take h).foldl (C1 d6 d6[g]) ((d6.take g).foldl (B2 l d6) [])) ((cond (decide (d6[g].1 = l[h].1)) l[h].2.1 0), (cond (decide (d6[g].1 = l[h].1)) (vals l[h].2.2 d6[g].2) []))).length, c40) ⟨oz, trivial⟩
   ·refine Ev Z7 (Emv rfl rfl (Emv rfl rfl (Es rfl (Es rfl (Es rfl (Es rfl (Ey rfl ((Y.pkf rfl rfl).yd) (Eu (E.cf rfl (E.skipc (E.bln (Et (Ez Z2 (Ey rfl ((Y.add rfl rfl om om).yd) (Emv rfl rfl (Eu (Ent.drop (Ent.drop (Ent.drop (Ent.cv (congrArg (ow j6 [_]) (show (l.take h).foldl (C1 d6 d6[g]) ((d6.take g).foldl (B2 l d6) []) = (l.take (h + 1)).foldl (C1 d6 d6[g]) ((d6.take g).foldl (B2 l d6) []) from by grind [i9, B2, C1, d1, d2, t1, t2])) (Ent.p1 (Ent.p1 ?_))))))))))))))))))))))
    exact Ea (h + 1, aA1_0, ((l.take h).foldl (C1 d6 d6[g]) ((d6.take g).foldl (B2 l d6) [])).length, cA1_0) ⟨oz, trivial⟩
  ·refine Eu (Eq_ (E.cf rfl (E.exit (E.the (E.the (E.blh (E.bln (Et (Ez Z2 (Ey rfl ((Y.add rfl rfl om om).yd) (Emv rfl rfl (Eu (Ent.p1 (Ent.drop (Ent.cv (congrArg (ow j6 [_]) (show (l.take h).foldl (C1 d6 d6[g]) ((d6.take g).foldl (B2 l d6) []) = (d6.take (g + 1)).foldl (B2 l d6) [] from by grind [i9, B2, C1, d1, d2, t1, t2])) ?_)))))))))))))))
   exact Ea (g + 1, aA1_0, ((l.take h).foldl (C1 d6 d6[g]) ((d6.take g).foldl (B2 l d6) [])).length, cA1_0) ⟨oz, trivial⟩
 ·refine Eu (Eq_ (E.cf rfl (E.exit (E.the (E.the (E.blh (Et (Ew Z2 (Emv rfl rfl (Eas rfl rfl (Eu (E.ret (Ent.cv (congrArg (ow j6 [_]) (show _ = i9 l d6 by grind [i9, B2, C1, d1, d2, t1, t2])) ?_)))))))))))))
  exact Fg rfl rfl (_, _, _) rfl rfl
theorem a2E (hr : ∀ r ∈ l, ∀ f ∈ d6, f.1 = r.1 → ∀ x ∈ r.2.2, 0 ≤ x ∧ x < f.2.length) (hrl : ∀ r ∈ l, r.2.2.length ≤ 1048576) (hn1 : l.length ≤ 4) (hn2 : d6.length ≤ 1048576) : Tr Tryz.prog 261 [.slice a_l m_l c_l, .slice a_facts m_facts c_facts] (fun w L => Ro w L G1 [.slice a_l m_l c_l] l ∧ Ro w L j6 [.slice a_facts m_facts c_facts] d6) [] (κ := Option Addr × Nat × Nat) (fun k => True) (fun k => .slice k.1 k.2.1 k.2.2) (fun k => [ow j6 [.slice k.1 k.2.1 k.2.2] (i9 l d6)]) := by
 refine Tr.intro Tryz.func261 rfl (n := 50) rfl (by decide +kernel) bl (fr := [(0, .slice a_l m_l c_l), (1, .slice a_facts m_facts c_facts)]) rfl fun w L hR => ?_
 obtain ⟨hl, hfacts⟩ := hR
 obtain ⟨rfl, ll⟩ := hl.slen
 obtain ⟨rfl, lfacts⟩ := hfacts.slen
 refine Ew Z1 (Eas rfl rfl (Ev Z2 (Est rfl (N.bsl (pvs := []) (cs := []) us_Facts ty_Fact rfl dc dc (o9 rfl rfl) rfl dc) (fun b9 _ => (Ent.drop (Eas rfl rfl (Eu (Eq_ (Ew Z1 (Eas rfl rfl (Eu (E.block (Ent.mkow (A := []) (Own.nil (E := z7) (e := tFact) (a := (some ⟨b9, 0, none⟩))) rfl (Ent.cv (congrArg (ow j6 [_]) (show [] = (d6.take 0).foldl (B2 l d6) [] from by first | rfl | (simp; done) | grind [i9, B2, C1, d1, d2, t1, t2])) (E.loop (κ := Nat × Option Addr × Nat × Nat) (fun g => g.1 ≤ d6.length ∧ True) (fun g => [(0, .slice a_l l.length c_l), (1, .slice a_facts d6.length c_facts), (5, .slice g.2.1 g.2.2.1 g.2.2.2), (6, .int .i64 (↑g.1 : Int))]) (fun g => [ow j6 [.slice g.2.1 g.2.2.1 g.2.2.2] ((d6.take g.1).foldl (B2 l d6) [])]) (fun g => d6.length - g.1) (0, (some ⟨b9, 0, none⟩), 0, 0) ⟨Nat.zero_le _, by simp⟩ ⟨rfl, rfl, rfl, rfl, trivial⟩ (.refl _) (fun g pg => ?_))))))))))))))))
 obtain ⟨g, aA0_0, mA0_0, cA0_0⟩ := g
 try dsimp only at pg
 try dsimp only
 obtain ⟨pk, pa⟩ := pg
 have jn := a6a (l := l) (d6 := d6) (fs := d6.take g)
 have jp := List.length_take_le g d6
 have jmul := Nat.mul_le_mul_left (d6.take g).length hn1
 refine Ent.lenow m0 fun eaA0_0 laA0_0 => ?_
 subst eaA0_0
 refine Eq_ (Ew Z4 (Emv rfl rfl (Emv rfl rfl (Ey rfl ((Y.len us_Facts rfl).yd) (Ey rfl ((Y.lss rfl rfl).yd) (Ent.d (fun q13 => ?_) (fun q13 => ?_)))))))
 ·refine Eu (E.ct rfl (E.skipc (Et (Eq_ (E.block (Ew Z1 (Eas rfl rfl (Eu (E.block (Ent.cv (congrArg (ow j6 [_]) (show (d6.take g).foldl (B2 l d6) [] = (l.take 0).foldl (C1 d6 d6[g]) ((d6.take g).foldl (B2 l d6) []) from by first | rfl | (simp; done) | grind [i9, B2, C1, d1, d2, t1, t2])) (E.loop (κ := Nat × Option Addr × Nat × Nat) (fun h => h.1 ≤ l.length ∧ True) (fun h => [(0, .slice a_l l.length c_l), (1, .slice a_facts d6.length c_facts), (5, .slice h.2.1 h.2.2.1 h.2.2.2), (6, .int .i64 (g : Int)), (7, .int .i64 (↑h.1 : Int))]) (fun h => [ow j6 [.slice h.2.1 h.2.2.1 h.2.2.2] ((l.take h.1).foldl (C1 d6 d6[g]) ((d6.take g).foldl (B2 l d6) []))]) (fun h => l.length - h.1) (0, aA0_0, ((d6.take g).foldl (B2 l d6) []).length, cA0_0) ⟨Nat.zero_le _, by simp⟩ ⟨rfl, rfl, rfl, rfl, rfl, trivial⟩ (.refl _) (fun h ph => ?_))))))))))))
  obtain ⟨h, aA1_0, mA1_0, cA1_0⟩ := h
  try dsimp only at ph
  try dsimp only
  obtain ⟨pk, pa⟩ := ph
  have jn := a5n (l := l) (d6 := d6) (f := d6[g]) (out := (d6.take g).foldl (B2 l d6) []) (h := h)
  have jp := List.length_take_le h l
  have jel := b0E (l := l) (d6 := d6) (g := g) (h := h) hrl om
  refine Ent.lenow m0 fun eaA1_0 laA1_0 => ?_
  subst eaA1_0
  refine Eq_ (Ew Z4 (Emv rfl rfl (Emv rfl rfl (Ey rfl ((Y.len us_Rules rfl).yd) (Ey rfl ((Y.lss rfl rfl).yd) (Ent.d (fun q19 => ?_) (fun q19 => ?_)))))))
  ·refine Eu (E.ct rfl (E.skipc (Et (Eq_ (E.block (Eq_ (Eq_ (D.region (fun j => true) mixed (Dyp 0 rfl (Y.mv rfl) (Dyp 1 rfl (Y.mv rfl) ?_))))))))))
   obtain ⟨eb24, eo24, ec24, ea24, er24, el24, eh24⟩ := hl.elem h om
   obtain ⟨xa24_0, xc24_0, rfl, ei24_0, ei24_1, xh24_0⟩ := Ro.pRule er24
   have := xh24_0.slen.2
   refine Dyp 2 rfl (Y.ix us_Rules ty_Rule rfl ea24 rfl h rfl om) (Dyp 3 rfl (Y.fld fo_Rule_0 f6 dc rfl) (Dy 4 rfl (Y.ld1 f6 rfl ((eh24 _).sub (cs' := [_]) 0 rfl) rfl) (Dyp 5 rfl (Y.mv rfl) (Dyp 6 rfl (Y.mv rfl) ?_))))
   obtain ⟨eb29, eo29, ec29, ea29, er29, el29, eh29⟩ := hfacts.elem g om
   obtain ⟨xa29_0, xc29_0, rfl, ei29_0, xh29_0⟩ := Ro.pFact er29
   have := xh29_0.slen.2
   refine Dyp 7 rfl (Y.ix us_Facts ty_Fact rfl ea29 rfl g rfl om) (Dyp 8 rfl (Y.fld fo_Fact_0 f6 dc rfl) (Dy 9 rfl (Y.ld1 f6 rfl ((eh29 _).sub (cs' := [_]) 0 rfl) rfl) (Dyp 10 rfl (Y.neq rfl rfl) (Ent.d (fun q32 => ?_) (fun q32 => ?_)))))
   ·refine D.done kr (Et (E.ct rfl (E.exit (E.the (E.blh (Et (Ez Z3 (Emv rfl rfl (Ey rfl ((Y.add rfl rfl om om).yd) (Eas rfl rfl (Eu (Ent.cv (congrArg (ow j6 [_]) (show (l.take h).foldl (C1 d6 d6[g]) ((d6.take g).foldl (B2 l d6) []) = (l.take (h + 1)).foldl (C1 d6 d6[g]) ((d6.take g).foldl (B2 l d6) []) from by grind [i9, B2, C1, d1, d2, t1, t2])) ?_))))))))))))
    exact Ea (h + 1, aA1_0, ((l.take h).foldl (C1 d6 d6[g]) ((d6.take g).foldl (B2 l d6) [])).length, cA1_0) ⟨oz, trivial⟩
   ·refine D.done kr (Et (E.cf rfl (E.skipc (Et (Eq_ (E.mid (κ := Nat × Option Addr × Nat) (fun _ => True) (fun kM => [(0, .slice a_l l.length c_l), (1, .slice a_facts d6.length c_facts), (5, .slice aA1_0 ((l.take h).foldl (C1 d6 d6[g]) ((d6.take g).foldl (B2 l d6) [])).length cA1_0), (6, .int .i64 (g : Int)), (7, .int .i64 (h : Int)), (8, .pointer (some ⟨kM.1, 0, none⟩))]) (fun kM => [pt kM.1 115 [.int .i64 l[h].2.1, .slice kM.2.1 (vals l[h].2.2 d6[g].2).length kM.2.2], ow eIs [.slice kM.2.1 (vals l[h].2.2 d6[g].2).length kM.2.2] (vals l[h].2.2 d6[g].2), ow j6 [.slice aA1_0 ((l.take h).foldl (C1 d6 d6[g]) ((d6.take g).foldl (B2 l d6) [])).length cA1_0] ((l.take h).foldl (C1 d6 d6[g]) ((d6.take g).foldl (B2 l d6) []))]) ?_ (fun kM _ => ?_)))))))
    ·refine D.region (fun j => !(Nat.beq j 10)) mixed (Dyp 0 rfl (Y.mv rfl) (Dyp 1 rfl (Y.mv rfl) (Dyp 2 rfl (Y.ix us_Rules ty_Rule rfl ea24 rfl h rfl om) (Dy 3 rfl (Y.ldS (cs := [_, _, _]) ty_Rule rfl (eh24 _) rfl) (Dyp 4 rfl (Y.mv rfl) (Dyp 5 rfl (Y.mv rfl) (Dyp 6 rfl (Y.ix us_Facts ty_Fact rfl ea29 rfl g rfl om) (Dy 7 rfl (Y.ldS (cs := [_, _]) ty_Fact rfl (eh29 _) rfl) (D.ch2 (i := 8) (j := 9) kr ?_ ?_)))))))))
     ·refine D.pk 8 rfl rfl (fun _ => rfl) (N.call (a1P (hr _ (List.getElem_mem om) _ (List.getElem_mem om) om) (hrl _ (List.getElem_mem om))) rfl rfl rfl dc rfl (fun w Lp hA => ⟨ei24_0, ei24_1, hA.ro xh24_0, ei29_0, hA.ro xh29_0⟩)) (fun k41 _ => ?_)
      obtain ⟨a41, m41, c41⟩ := k41
      refine Ent.lenow m0 fun e41 l41 => ?_
      subst e41
      refine D.st 9 rfl rfl kr (fun _ => rfl) (N.alloc ty_Fact dc) (fun b8 _ => (D.st 10 rfl rfl kr (fun h => by cases h) (N.sto (vs := [_, _]) (cs' := [_, _]) ty_Fact rfl rfl rfl rfl rfl bl rfl) (fun _ _ => (D.done kr (Ent.p2 (Ent.p2 (Ent.p2 ?_)))))))
      exact E.mdn (b8, a41, c41) trivial ⟨rfl, rfl, rfl, rfl, rfl, rfl, trivial⟩ (.refl _)
     ·refine D.pk 9 rfl rfl (fun _ => rfl) (N.alloc ty_Fact dc) (fun b8 _ => (D.st 8 rfl rfl kr (fun _ => rfl) (N.call (a1P (hr _ (List.getElem_mem om) _ (List.getElem_mem om) om) (hrl _ (List.getElem_mem om))) rfl rfl rfl dc rfl (fun w Lp hA => ⟨ei24_0, ei24_1, hA.ro xh24_0, ei29_0, hA.ro xh29_0⟩)) (fun k41 _ => ?_)))
      obtain ⟨a41, m41, c41⟩ := k41
      refine Ent.lenow m0 fun e41 l41 => ?_
      subst e41
      refine Ent.p1 (D.st 10 rfl rfl kr (fun h => by cases h) (N.sto (vs := [_, _]) (cs' := [_, _]) ty_Fact rfl rfl rfl rfl rfl bl rfl) (fun _ _ => (D.done kr (Ent.p2 (Ent.p2 (Ent.p2 ?_))))))
      exact E.mdn (b8, a41, c41) trivial ⟨rfl, rfl, rfl, rfl, rfl, rfl, trivial⟩ (.refl _)
    ·obtain ⟨b8, a41, c41⟩ := kM
     try dsimp only
     refine Et (Ew Z4 (Emv rfl rfl (Ey rfl (Y.ldS (cs := [_, _]) ty_Fact rfl (Has.pt m0) rfl) (Est rfl (N.call0 a2c rfl rfl rfl dc (fun w Lp hA => ⟨hA.ro hfacts, ei24_1, hA.ow (mS m0)⟩)) (fun _ _ => (Ent.b (fun q44 => ?_) (fun q44 => ?_)))))))
     ·refine Ey rfl ((Y.not (b := true) rfl).yd) (Eu (E.cf rfl (E.skipc (E.bln (Et (Ez Z3 (Emv rfl rfl (Ey rfl ((Y.add rfl rfl om om).yd) (Eas rfl rfl (Eu (Ent.drop (Ent.drop (Ent.cv (congrArg (ow j6 [_]) (show (l.take h).foldl (C1 d6 d6[g]) ((d6.take g).foldl (B2 l d6) []) = (l.take (h + 1)).foldl (C1 d6 d6[g]) ((d6.take g).foldl (B2 l d6) []) from by grind [i9, B2, C1, d1, d2, t1, t2])) ?_)))))))))))))
      exact Ea (h + 1, aA1_0, ((l.take h).foldl (C1 d6 d6[g]) ((d6.take g).foldl (B2 l d6) [])).length, cA1_0) ⟨oz, trivial⟩
     ·refine Ey rfl ((Y.not (b := false) rfl).yd) (Eu (E.ct rfl (Ez Z4 (Emv rfl rfl (Ey rfl (Y.ldS (cs := [_, _]) ty_Fact rfl (Has.pt m0) rfl) (Est rfl (N.call (U7 fc jel (a7M (hrl _ (List.getElem_mem om)))) rfl rfl rfl dc rfl (fun w Lp hA => ⟨hA.ow (mS (mS m0)), ei24_1, hA.ow (mS m0)⟩)) (fun k48 _ => ?_)))))))
      obtain ⟨a48, m48, c48⟩ := k48
      refine Ent.lenow m0 fun e48 l48 => ?_
      subst e48
      refine Eas rfl rfl (En (E.bln (Et (Ez Z3 (Emv rfl rfl (Ey rfl ((Y.add rfl rfl om om).yd) (Eas rfl rfl (Eu (Ent.p1 (Ent.drop (Ent.p1 (Ent.drop (Ent.p1 (Ent.drop (Ent.cv (congrArg (ow j6 [_]) (show o4 ((l.take h).foldl (C1 d6 d6[g]) ((d6.take g).foldl (B2 l d6) [])) (l[h].2.1, (vals l[h].2.2 d6[g].2)) = (l.take (h + 1)).foldl (C1 d6 d6[g]) ((d6.take g).foldl (B2 l d6) []) from by grind [i9, B2, C1, d1, d2, t1, t2])) ?_)))))))))))))))
      exact Ea (h + 1, a48, (o4 ((l.take h).foldl (C1 d6 d6[g]) ((d6.take g).foldl (B2 l d6) [])) (l[h].2.1, (vals l[h].2.2 d6[g].2))).length, c48) ⟨oz, trivial⟩
  ·refine Eu (E.cf rfl (E.exit (E.the (E.the (E.blh (E.bln (Et (Ez Z3 (Emv rfl rfl (Ey rfl ((Y.add rfl rfl om om).yd) (Eas rfl rfl (Eu (Ent.cv (congrArg (ow j6 [_]) (show (l.take h).foldl (C1 d6 d6[g]) ((d6.take g).foldl (B2 l d6) []) = (d6.take (g + 1)).foldl (B2 l d6) [] from by grind [i9, B2, C1, d1, d2, t1, t2])) ?_)))))))))))))
   exact Ea (g + 1, aA1_0, ((l.take h).foldl (C1 d6 d6[g]) ((d6.take g).foldl (B2 l d6) [])).length, cA1_0) ⟨oz, trivial⟩
 ·refine Eu (E.cf rfl (E.exit (E.the (E.the (E.blh (Et (Ew Z2 (Emv rfl rfl (Eas rfl rfl (Eu (E.ret (Ent.cv (congrArg (ow j6 [_]) (show _ = i9 l d6 by grind [i9, B2, C1, d1, d2, t1, t2])) ?_))))))))))))
  exact Fg rfl rfl (_, _, _) rfl rfl
end Go.Proofs.YtdopeopehgdccaaGreat
