import Derived.Test.YthapcdhdfaibkaaGreatDoorT13
namespace Go.Proofs.YthapcdhdfaibkaaGreatDoor
open Go.RowKit
set_option linter.all false
set_option maxHeartbeats 2000000
attribute [local irreducible] Nop Yd Yp Ent Has Tr FnP FnP2 Src o2 c8 N0 a0b E6
variable {l : List (Int × Int × List Int)} {a8 : List (Int × List Int)} {m_l c_l m_facts c_facts : Nat} {a_l a_facts : Option Addr}
theorem a9C (hr : ∀ r ∈ l, ∀ f ∈ a8, f.1 = r.1 → ∀ x ∈ r.2.2, 0 ≤ x ∧ x < f.2.length) (hrl : ∀ r ∈ l, r.2.2.length ≤ 1048576) (hn1 : l.length ≤ 4) (hn2 : a8.length ≤ 1048576) : Tr Tryz.prog 334 [.slice a_l m_l c_l, .slice a_facts m_facts c_facts] (fun w L => Ro w L J9 [.slice a_l m_l c_l] l ∧ Ro w L m8 [.slice a_facts m_facts c_facts] a8) [] (κ := Option Addr × Nat × Nat) (fun k => True) (fun k => .slice k.1 k.2.1 k.2.2) (fun k => [ow m8 [.slice k.1 k.2.1 k.2.2] (n9 l a8)]) := by
 refine Tr.intro Tryz.func334 rfl (n := 44) rfl (by decide +kernel) bl (fr := [(0, .slice a_l m_l c_l), (1, .slice a_facts m_facts c_facts)]) rfl fun w L hR => ?_
 obtain ⟨hl, hfacts⟩ := hR
 obtain ⟨rfl, ll⟩ := hl.slen
 obtain ⟨rfl, lfacts⟩ := hfacts.slen
 refine Ew Z1 (Ei rfl (Ev Z2 (Est rfl (Nb [] [] us_Facts ty_Fact rfl rfl) (fun b12 _ => (Ent.drop (Ei rfl (Eu (Eq_ (Ew Z3 (Em rfl (Ey rfl ((Y.len us_Facts rfl).yd) (Em rfl (Eu (E.block (u9 (A := []) (Own.nil (E := C9) (e := tFact) (a := (some ⟨b12, 0, none⟩))) rfl (j4 (congrArg (ow m8 [_]) (show [] = (a8.take 0).foldl (D6 l a8) [] from by first | rfl | (simp; done) | grind [n9, D6, E0, d1, d2, t1, t2])) (E.loop (κ := Nat × Option Addr × Nat × Nat) (fun g => g.1 ≤ a8.length ∧ True) (fun g => [(0, .slice a_l l.length c_l), (1, .slice a_facts a8.length c_facts), (5, .slice g.2.1 g.2.2.1 g.2.2.2), (13, .slice a_facts a8.length c_facts), (14, .int .i64 (↑a8.length : Int)), (15, .int .i64 (↑g.1 : Int))]) (fun g => [ow m8 [.slice g.2.1 g.2.2.1 g.2.2.2] ((a8.take g.1).foldl (D6 l a8) [])]) (fun g => a8.length - g.1) (0, (some ⟨b12, 0, none⟩), 0, 0) ⟨Nat.zero_le _, by simp⟩ ⟨rfl, rfl, rfl, rfl, rfl, rfl, trivial⟩ (.refl _) (fun g pg => ?_))))))))))))))))))
 obtain ⟨g, aA0_0, mA0_0, cA0_0⟩ := g
 try dsimp only at pg
 try dsimp only
 obtain ⟨pk, pa⟩ := pg
 have jn := a8a (l := l) (a8 := a8) (fs := a8.take g)
 have jp := List.length_take_le g a8
 have jmul := Nat.mul_le_mul_left (a8.take g).length hn1
 refine d7 m0 fun eaA0_0 laA0_0 => ?_
 subst eaA0_0
 refine Ew Z1 (Ey rfl ((Y.lss rfl rfl).yd) (o3 (fun q16 => ?_) (fun q16 => ?_)))
 ·obtain ⟨eb17, eo17, ec17, ea17, er17, el17, eh17⟩ := hfacts.elem g om
  obtain ⟨xa17_0, xc17_0, rfl, ei17_0, xh17_0⟩ := K8 er17
  have := xh17_0.slen.2
  refine Eu (Eq_ (n8 rfl (i7 (Et (Eq_ (E.block (Ew Z4 (Ey rfl ((v8 us_Facts ty_Fact rfl ea17 rfl g rfl om).yd) (Ey rfl (o6 (cs := [_, _]) ty_Fact rfl (eh17 _) rfl) (Est rfl (N.alloc ty_Fact dc) (fun b7 _ => (Est rfl (Ns [_, _] ty_Fact rfl) (fun _ _ => (Ev Z3 (Em rfl (Ey rfl ((Y.len us_Rules rfl).yd) (Em rfl (Eu (E.block (d9 (j4 (congrArg (ow m8 [_]) (show (a8.take g).foldl (D6 l a8) [] = (l.take 0).foldl (E0 a8 a8[g]) ((a8.take g).foldl (D6 l a8) []) from by first | rfl | (simp; done) | grind [n9, D6, E0, d1, d2, t1, t2])) (E.loop (κ := Nat × Option Addr × Nat × Nat) (fun h => h.1 ≤ l.length ∧ True) (fun h => [(0, .slice a_l l.length c_l), (1, .slice a_facts a8.length c_facts), (5, .slice h.2.1 h.2.2.1 h.2.2.2), (7, .pointer (some ⟨b7, 0, none⟩)), (13, .slice a_facts a8.length c_facts), (14, .int .i64 (↑a8.length : Int)), (15, .int .i64 (g : Int)), (19, .slice a_l l.length c_l), (20, .int .i64 (↑l.length : Int)), (21, .int .i64 (↑h.1 : Int))]) (fun h => [ow m8 [.slice h.2.1 h.2.2.1 h.2.2.2] ((l.take h.1).foldl (E0 a8 a8[g]) ((a8.take g).foldl (D6 l a8) [])), pt b7 85 [.int .i64 a8[g].1, .slice xa17_0 a8[g].2.length xc17_0]]) (fun h => l.length - h.1) (0, aA0_0, ((a8.take g).foldl (D6 l a8) []).length, cA0_0) ⟨Nat.zero_le _, by simp⟩ ⟨rfl, rfl, rfl, rfl, rfl, rfl, rfl, rfl, rfl, rfl, trivial⟩ (.refl _) (fun h ph => ?_)))))))))))))))))))))))
  obtain ⟨h, aA1_0, mA1_0, cA1_0⟩ := h
  try dsimp only at ph
  try dsimp only
  obtain ⟨pk, pa⟩ := ph
  have jn := a6R (l := l) (a8 := a8) (f := a8[g]) (out := (a8.take g).foldl (D6 l a8) []) (h := h)
  have jp := List.length_take_le h l
  have jel := b2J (l := l) (a8 := a8) (g := g) (h := h) hrl om
  refine d7 m0 fun eaA1_0 laA1_0 => ?_
  subst eaA1_0
  refine Ew Z1 (Ey rfl ((Y.lss rfl rfl).yd) (o3 (fun q22 => ?_) (fun q22 => ?_)))
  ·obtain ⟨eb23, eo23, ec23, ea23, er23, el23, eh23⟩ := hl.elem h om
   obtain ⟨xa23_0, xc23_0, rfl, ei23_0, ei23_1, xh23_0⟩ := a2c er23
   have := xh23_0.slen.2
   refine Eu (Eq_ (n8 rfl (i7 (Et (Eq_ (E.block (Ew Z4 (Ey rfl ((v8 us_Rules ty_Rule rfl ea23 rfl h rfl om).yd) (Ey rfl (o6 (cs := [_, _, _]) ty_Rule rfl (eh23 _) rfl) (Est rfl (N.alloc ty_Rule dc) (fun b9 _ => (Est rfl (Ns [_, _, _] ty_Rule rfl) (fun _ _ => (Ev Z9 (Ey rfl (o6 (cs := [_, _, _]) ty_Rule rfl (Has.pt m0) rfl) (Ey rfl (o6 (cs := [_, _]) ty_Fact rfl (Has.pt (mS (mS m0))) rfl) (Est rfl (N.call (a1G (hr _ (List.getElem_mem om) _ (List.getElem_mem om)) (hrl _ (List.getElem_mem om))) rfl rfl rfl dc rfl (fun w Lp hA => ⟨ei23_0, ei23_1, hA.ro xh23_0, ei17_0, hA.ro xh17_0⟩)) (fun k28 _ => ?_))))))))))))))))))
   obtain ⟨a28, m28, c28⟩ := k28
   refine d7 m0 fun e28 l28 => ?_
   subst e28
   refine Em rfl (Ey rfl ((Y.ext rfl rfl).yd) (Ey rfl ((Y.ext rfl rfl).yd) (Est rfl (N.alloc ty_Fact dc) (fun b10 _ => (Est rfl (Ns [_, _] ty_Fact rfl) (fun _ _ => (Ei rfl (Ent.b (fun q11 => ?_) (fun q11 => ?_)))))))))
   ·refine Ev Z7 (Em rfl (Em rfl (Em rfl (Ey rfl (o6 (cs := [_, _]) ty_Fact rfl (Has.pt m0) rfl) (Est rfl (l0 a2f rfl rfl rfl dc (fun w Lp hA => ⟨hA.ro hfacts, i6, hA.ow (mS m0)⟩)) (fun _ _ => (Ent.b (fun q35 => ?_) (fun q35 => ?_))))))))
    ·refine Ey rfl ((Y.not (b := true) rfl).yd) (Ey rfl ((t8 rfl rfl).yd) (Eu (o0 rfl (i7 (s9 (Et (Ez Z2 (Ey rfl ((Y.add rfl rfl om om).yd) (Em rfl (Eu (Ent.drop (Ent.drop (Ent.drop (j4 (congrArg (ow m8 [_]) (show (l.take h).foldl (E0 a8 a8[g]) ((a8.take g).foldl (D6 l a8) []) = (l.take (h + 1)).foldl (E0 a8 a8[g]) ((a8.take g).foldl (D6 l a8) []) from by grind [n9, D6, E0, d1, d2, t1, t2])) (d9 (d9 ?_))))))))))))))))
     exact Ea (h + 1, aA1_0, ((l.take h).foldl (E0 a8 a8[g]) ((a8.take g).foldl (D6 l a8) [])).length, cA1_0) ⟨oz, trivial⟩
    ·refine Ey rfl ((Y.not (b := false) rfl).yd) (Ey rfl ((t8 rfl rfl).yd) (Eu (n8 rfl (Ez Z4 (Em rfl (Ey rfl (o6 (cs := [_, _]) ty_Fact rfl (Has.pt m0) rfl) (o4 (Est rfl (N.call (pre := [_]) (a6S fc (b6W (hrl _ (List.getElem_mem om)))) rfl rfl rfl dc rfl (fun w Lp hA => ⟨i6, hA.ow (mS m0)⟩)) (fun k40 _ => ?_)))))))))
     obtain ⟨a40, m40, c40⟩ := k40
     refine d7 m0 fun e40 l40 => ?_
     subst e40
     refine Ei rfl (En (s9 (Et (Ez Z2 (Ey rfl ((Y.add rfl rfl om om).yd) (Em rfl (Eu (d9 (Ent.drop (d9 (Ent.drop (d9 (Ent.drop (j4 (congrArg (ow m8 [_]) (show w4 ((l.take h).foldl (E0 a8 a8[g]) ((a8.take g).foldl (D6 l a8) [])) ((cond (decide (a8[g].1 = l[h].1)) l[h].2.1 0), (cond (decide (a8[g].1 = l[h].1)) (vals l[h].2.2 a8[g].2) [])) = (l.take (h + 1)).foldl (E0 a8 a8[g]) ((a8.take g).foldl (D6 l a8) []) from by grind [n9, D6, E0, d1, d2, t1, t2])) (d9 (d9 ?_))))))))))))))))
     exact Ea (h + 1, a40, (w4 ((l.take h).foldl (E0 a8 a8[g]) ((a8.take g).foldl (D6 l a8) [])) ((cond (decide (a8[g].1 = l[h].1)) l[h].2.1 0), (cond (decide (a8[g].1 = l[h].1)) (vals l[h].2.2 a8[g].2) []))).length, c40) ⟨oz, trivial⟩
   ·refine Ev Z7 (Em rfl (Em rfl (Es rfl (Es rfl (Es rfl (Es rfl (Ey rfl ((t7 rfl rfl).yd) (Eu (o0 rfl (i7 (s9 (Et (Ez Z2 (Ey rfl ((Y.add rfl rfl om om).yd) (Em rfl (Eu (Ent.drop (Ent.drop (Ent.drop (j4 (congrArg (ow m8 [_]) (show (l.take h).foldl (E0 a8 a8[g]) ((a8.take g).foldl (D6 l a8) []) = (l.take (h + 1)).foldl (E0 a8 a8[g]) ((a8.take g).foldl (D6 l a8) []) from by grind [n9, D6, E0, d1, d2, t1, t2])) (d9 (d9 ?_))))))))))))))))))))))
    exact Ea (h + 1, aA1_0, ((l.take h).foldl (E0 a8 a8[g]) ((a8.take g).foldl (D6 l a8) [])).length, cA1_0) ⟨oz, trivial⟩
  ·refine Eu (Eq_ (o0 rfl (E.exit (q1 (q1 (y4 (s9 (Et (Ez Z2 (Ey rfl ((Y.add rfl rfl om om).yd) (Em rfl (Eu (d9 (Ent.drop (j4 (congrArg (ow m8 [_]) (show (l.take h).foldl (E0 a8 a8[g]) ((a8.take g).foldl (D6 l a8) []) = (a8.take (g + 1)).foldl (D6 l a8) [] from by grind [n9, D6, E0, d1, d2, t1, t2])) ?_)))))))))))))))
   exact Ea (g + 1, aA1_0, ((l.take h).foldl (E0 a8 a8[g]) ((a8.take g).foldl (D6 l a8) [])).length, cA1_0) ⟨oz, trivial⟩
 ·refine Eu (Eq_ (o0 rfl (E.exit (q1 (q1 (y4 (Et (Ew Z2 (Em rfl (Ei rfl (Eu (E.ret (j4 (congrArg (ow m8 [_]) (show _ = n9 l a8 by grind [n9, D6, E0, d1, d2, t1, t2])) ?_)))))))))))))
  exact Fg rfl rfl (_, _, _) rfl rfl
theorem a2p (hr : ∀ r ∈ l, ∀ f ∈ a8, f.1 = r.1 → ∀ x ∈ r.2.2, 0 ≤ x ∧ x < f.2.length) (hrl : ∀ r ∈ l, r.2.2.length ≤ 1048576) (hn1 : l.length ≤ 4) (hn2 : a8.length ≤ 1048576) : Tr Tryz.prog 172 [.slice a_l m_l c_l, .slice a_facts m_facts c_facts] (fun w L => Ro w L J9 [.slice a_l m_l c_l] l ∧ Ro w L m8 [.slice a_facts m_facts c_facts] a8) [] (κ := Option Addr × Nat × Nat) (fun k => True) (fun k => .slice k.1 k.2.1 k.2.2) (fun k => [ow m8 [.slice k.1 k.2.1 k.2.2] (n9 l a8)]) := by
 refine Tr.intro Tryz.func172 rfl (n := 50) rfl (by decide +kernel) bl (fr := [(0, .slice a_l m_l c_l), (1, .slice a_facts m_facts c_facts)]) rfl fun w L hR => ?_
 obtain ⟨hl, hfacts⟩ := hR
 obtain ⟨rfl, ll⟩ := hl.slen
 obtain ⟨rfl, lfacts⟩ := hfacts.slen
 refine Ew Z1 (Ei rfl (Ev Z2 (Est rfl (Nb [] [] us_Facts ty_Fact rfl rfl) (fun b9 _ => (Ent.drop (Ei rfl (Eu (Eq_ (Ew Z1 (Ei rfl (Eu (E.block (u9 (A := []) (Own.nil (E := C9) (e := tFact) (a := (some ⟨b9, 0, none⟩))) rfl (j4 (congrArg (ow m8 [_]) (show [] = (a8.take 0).foldl (D6 l a8) [] from by first | rfl | (simp; done) | grind [n9, D6, E0, d1, d2, t1, t2])) (E.loop (κ := Nat × Option Addr × Nat × Nat) (fun g => g.1 ≤ a8.length ∧ True) (fun g => [(0, .slice a_l l.length c_l), (1, .slice a_facts a8.length c_facts), (5, .slice g.2.1 g.2.2.1 g.2.2.2), (6, .int .i64 (↑g.1 : Int))]) (fun g => [ow m8 [.slice g.2.1 g.2.2.1 g.2.2.2] ((a8.take g.1).foldl (D6 l a8) [])]) (fun g => a8.length - g.1) (0, (some ⟨b9, 0, none⟩), 0, 0) ⟨Nat.zero_le _, by simp⟩ ⟨rfl, rfl, rfl, rfl, trivial⟩ (.refl _) (fun g pg => ?_))))))))))))))))
 obtain ⟨g, aA0_0, mA0_0, cA0_0⟩ := g
 try dsimp only at pg
 try dsimp only
 obtain ⟨pk, pa⟩ := pg
 have jn := a8a (l := l) (a8 := a8) (fs := a8.take g)
 have jp := List.length_take_le g a8
 have jmul := Nat.mul_le_mul_left (a8.take g).length hn1
 refine d7 m0 fun eaA0_0 laA0_0 => ?_
 subst eaA0_0
 refine Eq_ (Ew Z4 (Em rfl (Em rfl (Ey rfl ((Y.len us_Facts rfl).yd) (Ey rfl ((Y.lss rfl rfl).yd) (o3 (fun q13 => ?_) (fun q13 => ?_)))))))
 ·refine Eu (n8 rfl (i7 (Et (Eq_ (E.block (Ew Z1 (Ei rfl (Eu (E.block (j4 (congrArg (ow m8 [_]) (show (a8.take g).foldl (D6 l a8) [] = (l.take 0).foldl (E0 a8 a8[g]) ((a8.take g).foldl (D6 l a8) []) from by first | rfl | (simp; done) | grind [n9, D6, E0, d1, d2, t1, t2])) (E.loop (κ := Nat × Option Addr × Nat × Nat) (fun h => h.1 ≤ l.length ∧ True) (fun h => [(0, .slice a_l l.length c_l), (1, .slice a_facts a8.length c_facts), (5, .slice h.2.1 h.2.2.1 h.2.2.2), (6, .int .i64 (g : Int)), (7, .int .i64 (↑h.1 : Int))]) (fun h => [ow m8 [.slice h.2.1 h.2.2.1 h.2.2.2] ((l.take h.1).foldl (E0 a8 a8[g]) ((a8.take g).foldl (D6 l a8) []))]) (fun h => l.length - h.1) (0, aA0_0, ((a8.take g).foldl (D6 l a8) []).length, cA0_0) ⟨Nat.zero_le _, by simp⟩ ⟨rfl, rfl, rfl, rfl, rfl, trivial⟩ (.refl _) (fun h ph => ?_))))))))))))
  obtain ⟨h, aA1_0, mA1_0, cA1_0⟩ := h
  try dsimp only at ph
  try dsimp only
  obtain ⟨pk, pa⟩ := ph
  have jn := a6R (l := l) (a8 := a8) (f := a8[g]) (out := (a8.take g).foldl (D6 l a8) []) (h := h)
  have jp := List.length_take_le h l
  have jel := b2J (l := l) (a8 := a8) (g := g) (h := h) hrl om
  refine d7 m0 fun eaA1_0 laA1_0 => ?_
  subst eaA1_0
  refine Eq_ (Ew Z4 (Em rfl (Em rfl (Ey rfl ((Y.len us_Rules rfl).yd) (Ey rfl ((Y.lss rfl rfl).yd) (o3 (fun q19 => ?_) (fun q19 => ?_)))))))
  ·refine Eu (n8 rfl (i7 (Et (Eq_ (E.block (Eq_ (Eq_ (D.region (fun j => true) mixed (Dyp 0 rfl (i8 rfl) (Dyp 1 rfl (i8 rfl) ?_))))))))))
   obtain ⟨eb24, eo24, ec24, ea24, er24, el24, eh24⟩ := hl.elem h om
   obtain ⟨xa24_0, xc24_0, rfl, ei24_0, ei24_1, xh24_0⟩ := a2c er24
   have := xh24_0.slen.2
   refine Dyp 2 rfl (v8 us_Rules ty_Rule rfl ea24 rfl h rfl om) (Dyp 3 rfl (f5 fo_Rule_0 f9 dc rfl) (Dy 4 rfl (g9 f9 rfl ((eh24 _).sub (cs' := [_]) 0 rfl) rfl) (Dyp 5 rfl (i8 rfl) (Dyp 6 rfl (i8 rfl) ?_))))
   obtain ⟨eb29, eo29, ec29, ea29, er29, el29, eh29⟩ := hfacts.elem g om
   obtain ⟨xa29_0, xc29_0, rfl, ei29_0, xh29_0⟩ := K8 er29
   have := xh29_0.slen.2
   refine Dyp 7 rfl (v8 us_Facts ty_Fact rfl ea29 rfl g rfl om) (Dyp 8 rfl (f5 fo_Fact_0 f9 dc rfl) (Dy 9 rfl (g9 f9 rfl ((eh29 _).sub (cs' := [_]) 0 rfl) rfl) (Dyp 10 rfl (Y.neq rfl rfl) (o3 (fun q32 => ?_) (fun q32 => ?_)))))
   ·refine r9 kr (Et (n8 rfl (E.exit (q1 (y4 (Et (Ez Z3 (Em rfl (Ey rfl ((Y.add rfl rfl om om).yd) (Ei rfl (Eu (j4 (congrArg (ow m8 [_]) (show (l.take h).foldl (E0 a8 a8[g]) ((a8.take g).foldl (D6 l a8) []) = (l.take (h + 1)).foldl (E0 a8 a8[g]) ((a8.take g).foldl (D6 l a8) []) from by grind [n9, D6, E0, d1, d2, t1, t2])) ?_))))))))))))
    exact Ea (h + 1, aA1_0, ((l.take h).foldl (E0 a8 a8[g]) ((a8.take g).foldl (D6 l a8) [])).length, cA1_0) ⟨oz, trivial⟩
   ·refine r9 kr (Et (o0 rfl (i7 (Et (Eq_ (a7q (κ := Nat × Option Addr × Nat) (fun _ => True) (fun kM => [(0, .slice a_l l.length c_l), (1, .slice a_facts a8.length c_facts), (5, .slice aA1_0 ((l.take h).foldl (E0 a8 a8[g]) ((a8.take g).foldl (D6 l a8) [])).length cA1_0), (6, .int .i64 (g : Int)), (7, .int .i64 (h : Int)), (8, .pointer (some ⟨kM.1, 0, none⟩))]) (fun kM => [pt kM.1 85 [.int .i64 l[h].2.1, .slice kM.2.1 (vals l[h].2.2 a8[g].2).length kM.2.2], ow eIs [.slice kM.2.1 (vals l[h].2.2 a8[g].2).length kM.2.2] (vals l[h].2.2 a8[g].2), ow m8 [.slice aA1_0 ((l.take h).foldl (E0 a8 a8[g]) ((a8.take g).foldl (D6 l a8) [])).length cA1_0] ((l.take h).foldl (E0 a8 a8[g]) ((a8.take g).foldl (D6 l a8) []))]) ?_ (fun kM _ => ?_)))))))
    ·refine D.region (fun j => !(Nat.beq j 10)) mixed (Dyp 0 rfl (i8 rfl) (Dyp 1 rfl (i8 rfl) (Dyp 2 rfl (v8 us_Rules ty_Rule rfl ea24 rfl h rfl om) (Dy 3 rfl (o6 (cs := [_, _, _]) ty_Rule rfl (eh24 _) rfl) (Dyp 4 rfl (i8 rfl) (Dyp 5 rfl (i8 rfl) (Dyp 6 rfl (v8 us_Facts ty_Fact rfl ea29 rfl g rfl om) (Dy 7 rfl (o6 (cs := [_, _]) ty_Fact rfl (eh29 _) rfl) (a3Y (i := 8) (j := 9) kr ?_ ?_)))))))))
     ·refine a1c 8 rfl rfl (fun _ => rfl) (N.call (a2X (hr _ (List.getElem_mem om) _ (List.getElem_mem om) om) (hrl _ (List.getElem_mem om))) rfl rfl rfl dc rfl (fun w Lp hA => ⟨ei24_0, ei24_1, hA.ro xh24_0, ei29_0, hA.ro xh29_0⟩)) (fun k41 _ => ?_)
      obtain ⟨a41, m41, c41⟩ := k41
      refine d7 m0 fun e41 l41 => ?_
      subst e41
      refine t6 9 rfl rfl kr (fun _ => rfl) (N.alloc ty_Fact dc) (fun b8 _ => (t6 10 rfl rfl kr (fun h => by cases h) (Ns [_, _] ty_Fact rfl) (fun _ _ => (r9 kr (j8 (j8 (j8 ?_)))))))
      exact a0v (b8, a41, c41) trivial ⟨rfl, rfl, rfl, rfl, rfl, rfl, trivial⟩ (.refl _)
     ·refine a1c 9 rfl rfl (fun _ => rfl) (N.alloc ty_Fact dc) (fun b8 _ => (t6 8 rfl rfl kr (fun _ => rfl) (N.call (a2X (hr _ (List.getElem_mem om) _ (List.getElem_mem om) om) (hrl _ (List.getElem_mem om))) rfl rfl rfl dc rfl (fun w Lp hA => ⟨ei24_0, ei24_1, hA.ro xh24_0, ei29_0, hA.ro xh29_0⟩)) (fun k41 _ => ?_)))
      obtain ⟨a41, m41, c41⟩ := k41
      refine d7 m0 fun e41 l41 => ?_
      subst e41
      refine d9 (t6 10 rfl rfl kr (fun h => by cases h) (Ns [_, _] ty_Fact rfl) (fun _ _ => (r9 kr (j8 (j8 (j8 ?_))))))
      exact a0v (b8, a41, c41) trivial ⟨rfl, rfl, rfl, rfl, rfl, rfl, trivial⟩ (.refl _)
    ·obtain ⟨b8, a41, c41⟩ := kM
     try dsimp only
     refine Et (Ew Z4 (Em rfl (Ey rfl (o6 (cs := [_, _]) ty_Fact rfl (Has.pt m0) rfl) (Est rfl (l0 a0B rfl rfl rfl dc (fun w Lp hA => ⟨hA.ro hfacts, ei24_1, hA.ow (mS m0)⟩)) (fun _ _ => (Ent.b (fun q44 => ?_) (fun q44 => ?_)))))))
     ·refine Ey rfl ((Y.not (b := true) rfl).yd) (Eu (o0 rfl (i7 (s9 (Et (Ez Z3 (Em rfl (Ey rfl ((Y.add rfl rfl om om).yd) (Ei rfl (Eu (Ent.drop (Ent.drop (j4 (congrArg (ow m8 [_]) (show (l.take h).foldl (E0 a8 a8[g]) ((a8.take g).foldl (D6 l a8) []) = (l.take (h + 1)).foldl (E0 a8 a8[g]) ((a8.take g).foldl (D6 l a8) []) from by grind [n9, D6, E0, d1, d2, t1, t2])) ?_)))))))))))))
      exact Ea (h + 1, aA1_0, ((l.take h).foldl (E0 a8 a8[g]) ((a8.take g).foldl (D6 l a8) [])).length, cA1_0) ⟨oz, trivial⟩
     ·refine Ey rfl ((Y.not (b := false) rfl).yd) (Eu (n8 rfl (Ez Z4 (Em rfl (Ey rfl (o6 (cs := [_, _]) ty_Fact rfl (Has.pt m0) rfl) (Est rfl (N.call (T9 fc jel (a9i (hrl _ (List.getElem_mem om)))) rfl rfl rfl dc rfl (fun w Lp hA => ⟨hA.ow (mS (mS m0)), ei24_1, hA.ow (mS m0)⟩)) (fun k48 _ => ?_)))))))
      obtain ⟨a48, m48, c48⟩ := k48
      refine d7 m0 fun e48 l48 => ?_
      subst e48
      refine Ei rfl (En (s9 (Et (Ez Z3 (Em rfl (Ey rfl ((Y.add rfl rfl om om).yd) (Ei rfl (Eu (d9 (Ent.drop (d9 (Ent.drop (d9 (Ent.drop (j4 (congrArg (ow m8 [_]) (show w4 ((l.take h).foldl (E0 a8 a8[g]) ((a8.take g).foldl (D6 l a8) [])) (l[h].2.1, (vals l[h].2.2 a8[g].2)) = (l.take (h + 1)).foldl (E0 a8 a8[g]) ((a8.take g).foldl (D6 l a8) []) from by grind [n9, D6, E0, d1, d2, t1, t2])) ?_)))))))))))))))
      exact Ea (h + 1, a48, (w4 ((l.take h).foldl (E0 a8 a8[g]) ((a8.take g).foldl (D6 l a8) [])) (l[h].2.1, (vals l[h].2.2 a8[g].2))).length, c48) ⟨oz, trivial⟩
  ·refine Eu (o0 rfl (E.exit (q1 (q1 (y4 (s9 (Et (Ez Z3 (Em rfl (Ey rfl ((Y.add rfl rfl om om).yd) (Ei rfl (Eu (j4 (congrArg (ow m8 [_]) (show (l.take h).foldl (E0 a8 a8[g]) ((a8.take g).foldl (D6 l a8) []) = (a8.take (g + 1)).foldl (D6 l a8) [] from by grind [n9, D6, E0, d1, d2, t1, t2])) ?_)))))))))))))
   exact Ea (g + 1, aA1_0, ((l.take h).foldl (E0 a8 a8[g]) ((a8.take g).foldl (D6 l a8) [])).length, cA1_0) ⟨oz, trivial⟩
 ·refine Eu (o0 rfl (E.exit (q1 (q1 (y4 (Et (Ew Z2 (Em rfl (Ei rfl (Eu (E.ret (j4 (congrArg (ow m8 [_]) (show _ = n9 l a8 by grind [n9, D6, E0, d1, d2, t1, t2])) ?_))))))))))))
  exact Fg rfl rfl (_, _, _) rfl rfl
end Go.Proofs.YthapcdhdfaibkaaGreatDoor
