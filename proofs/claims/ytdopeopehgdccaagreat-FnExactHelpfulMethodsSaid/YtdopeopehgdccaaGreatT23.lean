import Derived.Test.YtdopeopehgdccaaGreatBs
import Derived.Test.YtdopeopehgdccaaGreatT22
import Derived.Test.YtdopeopehgdccaaGreatDs
import Derived.Test.YtdopeopehgdccaaGreatBi
namespace Go.Proofs.YtdopeopehgdccaaGreat
open Go.RowKit
set_option linter.all false
set_option maxHeartbeats 2000000
attribute [local irreducible] Nop Yd Yp Ent Has Tr FnP FnP2 Src j7 d7 J2 Y5 E0
variable {d4 d6 : List (Int × List Int)} {i7 head : List Int} {s9 o0 s7 l0 m_facts c_facts m_head c_head : Nat} {o2 l3 a_facts a_head : Option Addr}
theorem N7 (hqa : d4.length ≤ 4) (hqt : ∀ a ∈ d4, a.2.length ≤ 3) (hf : ∀ a ∈ d4, Few a d6) (hqh : i7.length ≤ 1048576) : Tr Tryz.prog 193 [.agg #[.slice o2 s9 o0, .slice l3 s7 l0], .slice a_facts m_facts c_facts, .slice a_head m_head c_head] (fun w L => Ro w L eIs [.slice o2 s9 o0] i7 ∧ Ro w L C2 [.slice l3 s7 l0] d4 ∧ Ro w L j6 [.slice a_facts m_facts c_facts] d6 ∧ Ro w L eIs [.slice a_head m_head c_head] head) [] (κ := (Option Addr × Nat × Nat) × (Option Addr × Nat × Nat)) (fun k => True) (fun k => .tuple #[.agg #[.slice k.1.1 k.1.2.1 k.1.2.2, .slice k.2.1 k.2.2.1 k.2.2.2], .bool ((t7 d4 d6).any (K2 i7 head))]) (fun k => [ow eIs [.slice k.1.1 k.1.2.1 k.1.2.2] ((G5 (t7 d4 d6) i7 head).1), ow eIs [.slice k.2.1 k.2.2.1 k.2.2.2] ((G5 (t7 d4 d6) i7 head).2)]) := by
 refine Tr.intro Tryz.func193 rfl (n := 26) rfl (by decide +kernel) bl (fr := [(0, .agg #[.slice o2 s9 o0, .slice l3 s7 l0]), (1, .slice a_facts m_facts c_facts), (2, .slice a_head m_head c_head)]) rfl fun w L hR => ?_
 obtain ⟨o6, n8, hfacts, hhead⟩ := hR
 obtain ⟨rfl, L5⟩ := o6.slen
 obtain ⟨rfl, I7⟩ := n8.slen
 obtain ⟨rfl, lfacts⟩ := hfacts.slen
 obtain ⟨rfl, lhead⟩ := hhead.slen
 have jb := a6U (d6 := d6) hf hqa hqt
 refine Ew Z3 (Est rfl (N.box (cs := [_, _]) rfl dc rfl) (fun b3 _ => (Est rfl (N.alloc ty_Binding dc) (fun b6 _ => (Eas rfl rfl (Eu (Eq_ (Ew Z5 (Ey rfl (Y.ldS (cs := [_, _]) ty_Query rfl (Has.pt (mS m0)) rfl) (Emv rfl rfl (Est rfl (N.call (a5K fo fo fo) rfl rfl rfl dc rfl (fun w Lp hA => ⟨hA.ro o6, hA.ro n8, hA.ro hfacts⟩)) (fun k12 _ => ?_))))))))))))
 obtain ⟨a12, m12, c12⟩ := k12
 refine Ent.lenow m0 fun e12 l12 => ?_
 subst e12
 refine Ey rfl ((Y.len us_Bindings rfl).yd) (Emv rfl rfl (Eu (E.block (Ent.od0 (E.loop (κ := Nat) (fun g => g ≤ (t7 d4 d6).length ∧ (t7 d4 d6).any (K2 i7 head) = ((t7 d4 d6).drop g).any (K2 i7 head) ∧ G5 (t7 d4 d6) i7 head = G5 ((t7 d4 d6).drop g) i7 head) (fun g => [(2, .slice a_head head.length c_head), (3, .pointer (some ⟨b3, 0, none⟩)), (6, .pointer (some ⟨b6, 0, none⟩)), (12, .slice a12 (t7 d4 d6).length c12), (13, .int .i64 (↑((t7 d4 d6).length) : Int)), (14, .int .i64 (g : Int))]) (fun g => [owd tBinding S6 a12 ((t7 d4 d6).length) c12 (t7 d4 d6) g, pt b6 125 [.slice none 0 0, .slice none 0 0], pt b3 61 [.slice o2 i7.length o0, .slice l3 d4.length l0]]) (fun g => (t7 d4 d6).length - g) (0) ⟨Nat.zero_le _, by simp⟩ ⟨rfl, rfl, rfl, rfl, rfl, rfl, trivial⟩ (.refl _) (fun g pg => ?_))))))
 try dsimp only
 obtain ⟨pk, pa⟩ := pg
 refine Ew Z1 (Ey rfl ((Y.lss rfl rfl).yd) (Ent.d (fun q15 => ?_) (fun q15 => ?_)))
 ·refine Ent.adrd m0 om fun ab16 ae16 => (Ent.odt (j := g) om fun ce16 => (Ent.p1 (Ent.oBinding fun oa16_0 om16_0 oc16_0 oa16_1 om16_1 oc16_1 oe16 on16_0 on16_1 => ?_)))
  subst oe16
  subst on16_0
  subst on16_1
  refine Ent.lenow m0 fun _ ol16_0 => (Ent.lenow (mS m0) fun _ ol16_1 => (Eu (Eq_ (E.ct rfl (E.skipc (Et (Eq_ (E.block (Ew Z4 (Ey rfl ((Y.ix us_Bindings ty_Binding rfl ae16 rfl g rfl om).yd) (Ey rfl (Y.ldS (cs := [_, _]) ty_Binding rfl (Has.owt ae16 (mS (mS m0))) rfl) (Est rfl (N.alloc ty_Binding dc) (fun b9 _ => (Est rfl (N.sto (vs := [_, _]) (cs' := [_, _]) ty_Binding rfl rfl rfl rfl rfl bl rfl) (fun _ _ => (Ev Z5 (Ey rfl (Y.ldS (cs := [_, _]) ty_Query rfl (Has.pt (mS (mS (mS (mS (mS m0)))))) rfl) (Ey rfl (Y.ldS (cs := [_, _]) ty_Binding rfl (Has.pt m0) rfl) (Est rfl (N.call (U6 fo) rfl rfl rfl dc rfl (fun w Lp hA => ⟨hA.ro o6, hA.ro n8, hA.ow (mS m0), hA.ow (mS (mS m0))⟩)) (fun k20 _ => ?_))))))))))))))))))))
  obtain ⟨a20, m20, c20⟩ := k20
  refine Ent.lenow m0 fun e20 l20 => ?_
  subst e20
  refine Emv rfl rfl (Est rfl (N.call0 a1d rfl rfl rfl dc (fun w Lp hA => ⟨hA.ow m0, hA.ro hhead⟩)) (fun _ _ => (Ent.b (fun q22 => ?_) (fun q22 => ?_))))
  ·refine Eu (E.ct rfl (Ew Z3 (Ey rfl (Y.ldS (cs := [_, _]) ty_Binding rfl (Has.pt (mS m0)) rfl) (Ent.p5 (Est rfl (N.sto (vs := [_, _]) (cs' := [_, _]) ty_Binding rfl rfl rfl rfl rfl bl rfl) (fun _ _ => (Eas rfl rfl (Eu (E.ret (E.blr (E.thr (E.thr (E.blr (E.thr (Ent.p4 (Ent.cv (congrArg (ow eIs [_]) (show _ = (G5 (t7 d4 d6) i7 head).2 by grind [K6, N3, K2, d1, d2, t1, t2])) (Ent.p4 (Ent.cv (congrArg (ow eIs [_]) (show _ = (G5 (t7 d4 d6) i7 head).1 by grind [K6, N3, K2, d1, d2, t1, t2])) (Ent.p1 (Ent.p1 ?_))))))))))))))))))))
   exact F.c2 br rfl rfl rfl (mS (mS m0)) ty_Binding rfl ((_, _, _), (_, _, _)) trivial (by rw [show ((t7 d4 d6).any (K2 i7 head)) = (true) from (by grind [K6, N3, K2, d1, d2, t1, t2])]; try rfl) (J := _) (.refl _) (.inl rfl)
  ·refine Eu (E.cf rfl (E.skipc (E.bln (Et (Ez Z2 (Ey rfl ((Y.add rfl rfl om om).yd) (Emv rfl rfl (Eu (Ent.p4 (Ent.otd (Ent.p1 (Ent.drop (Ent.p1 (Ent.drop (Ent.p1 (Ent.drop (Ent.p1 (Ent.drop (Ent.p2 (Ent.p2 (Ent.p2 ?_)))))))))))))))))))))
   exact Ea (g + 1) ⟨oz, (show (t7 d4 d6).any (K2 i7 head) = ((t7 d4 d6).drop (g + 1)).any (K2 i7 head) ∧ G5 (t7 d4 d6) i7 head = G5 ((t7 d4 d6).drop (g + 1)) i7 head from by grind [K6, N3, K2, d1, d2, t1, t2])⟩
 ·refine Eu (Eq_ (E.cf rfl (E.exit (E.the (E.the (E.blh (Et (Ew Z3 (Ey rfl ((Y.bld (pvs := []) (cs := [_, _]) ty_Binding pl_Binding rfl rfl).yd) (Ent.p1 (Est rfl (N.sto (vs := [_, _]) (cs' := [_, _]) ty_Binding rfl rfl rfl rfl rfl bl rfl) (fun _ _ => (Eas rfl rfl (Eu (E.ret (Ent.mkow (A := []) (Own.nil (E := Enc.int) (e := tI) (a := none)) rfl (Ent.cv (congrArg (ow eIs [_]) (show _ = (G5 (t7 d4 d6) i7 head).2 by grind [K6, N3, K2, d1, d2, t1, t2])) (Ent.mkow (A := []) (Own.nil (E := Enc.int) (e := tI) (a := none)) rfl (Ent.cv (congrArg (ow eIs [_]) (show _ = (G5 (t7 d4 d6) i7 head).1 by grind [K6, N3, K2, d1, d2, t1, t2])) (Ent.p1 (Ent.p1 ?_)))))))))))))))))))))
  exact F.c2 br rfl rfl rfl (mS (mS m0)) ty_Binding rfl ((none, 0, 0), (none, 0, 0)) trivial (by rw [show ((t7 d4 d6).any (K2 i7 head)) = (false) from (by grind [K6, N3, K2, d1, d2, t1, t2])]; try rfl) (J := _) (.refl _) (.inl rfl)
theorem a0w (hqa : d4.length ≤ 4) (hqt : ∀ a ∈ d4, a.2.length ≤ 3) (hf : ∀ a ∈ d4, Few a d6) (hqh : i7.length ≤ 1048576) : Tr Tryz.prog 188 [.agg #[.slice o2 s9 o0, .slice l3 s7 l0], .slice a_facts m_facts c_facts, .slice a_head m_head c_head] (fun w L => Ro w L eIs [.slice o2 s9 o0] i7 ∧ Ro w L C2 [.slice l3 s7 l0] d4 ∧ Ro w L j6 [.slice a_facts m_facts c_facts] d6 ∧ Ro w L eIs [.slice a_head m_head c_head] head) [] (κ := (Option Addr × Nat × Nat) × (Option Addr × Nat × Nat)) (fun k => True) (fun k => .tuple #[.agg #[.slice k.1.1 k.1.2.1 k.1.2.2, .slice k.2.1 k.2.2.1 k.2.2.2], .bool ((t7 d4 d6).any (K2 i7 head))]) (fun k => [ow eIs [.slice k.1.1 k.1.2.1 k.1.2.2] ((G5 (t7 d4 d6) i7 head).1), ow eIs [.slice k.2.1 k.2.2.1 k.2.2.2] ((G5 (t7 d4 d6) i7 head).2)]) := by
 refine Tr.intro Tryz.func188 rfl (n := 33) rfl (by decide +kernel) bl (fr := [(0, .agg #[.slice o2 s9 o0, .slice l3 s7 l0]), (1, .slice a_facts m_facts c_facts), (2, .slice a_head m_head c_head)]) rfl fun w L hR => ?_
 obtain ⟨o6, n8, hfacts, hhead⟩ := hR
 obtain ⟨rfl, L5⟩ := o6.slen
 obtain ⟨rfl, I7⟩ := n8.slen
 obtain ⟨rfl, lfacts⟩ := hfacts.slen
 obtain ⟨rfl, lhead⟩ := hhead.slen
 have jb := a6U (d6 := d6) hf hqa hqt
 refine Ew Z3 (Est rfl (N.box (cs := [_, _]) rfl dc rfl) (fun b3 _ => (Est rfl (N.alloc ty_Binding dc) (fun b6 _ => (Eas rfl rfl (Ev Z4 (Ey rfl (Y.ldS (cs := [_, _]) ty_Query rfl (Has.pt (mS m0)) rfl) (Emv rfl rfl (Est rfl (N.call (a5T fo fo fo) rfl rfl rfl dc rfl (fun w Lp hA => ⟨hA.ro o6, hA.ro n8, hA.ro hfacts⟩)) (fun k12 _ => ?_))))))))))
 obtain ⟨a12, m12, c12⟩ := k12
 refine Ent.lenow m0 fun e12 l12 => ?_
 subst e12
 refine Ent.rebase (A := [_]) rfl fun wb1 Lb1 hB1 hA1 => ?_
 have o6 := hA1.ro o6
 have n8 := hA1.ro n8
 have hfacts := hA1.ro hfacts
 have hhead := hA1.ro hhead
 have rb1 : Ro wb1 Lb1 C0 [.slice a12 (t7 d4 d6).length c12] (t7 d4 d6) := hA1.ow m0
 refine Eas rfl rfl (Eu (Eq_ (Ew Z1 (Eas rfl rfl (Eu (E.block (E.loop (κ := Nat) (fun g => g ≤ (t7 d4 d6).length ∧ (t7 d4 d6).any (K2 i7 head) = ((t7 d4 d6).drop g).any (K2 i7 head) ∧ G5 (t7 d4 d6) i7 head = G5 ((t7 d4 d6).drop g) i7 head) (fun g => [(2, .slice a_head head.length c_head), (3, .pointer (some ⟨b3, 0, none⟩)), (6, .pointer (some ⟨b6, 0, none⟩)), (8, .slice a12 (t7 d4 d6).length c12), (9, .int .i64 (g : Int))]) (fun g => [pt b6 125 [.slice none 0 0, .slice none 0 0], pt b3 61 [.slice o2 i7.length o0, .slice l3 d4.length l0]]) (fun g => (t7 d4 d6).length - g) 0 ⟨Nat.zero_le _, by simp⟩ ⟨rfl, rfl, rfl, rfl, rfl, trivial⟩ (.refl _) (fun g pg => ?_))))))))
 obtain ⟨pk, pa⟩ := pg
 refine Eq_ (Ew Z4 (Emv rfl rfl (Emv rfl rfl (Ey rfl ((Y.len us_Bindings rfl).yd) (Ey rfl ((Y.lss rfl rfl).yd) (Ent.d (fun q16 => ?_) (fun q16 => ?_)))))))
 ·refine Eu (E.ct rfl (E.skipc (Et (Eq_ (E.block (Eq_ (D.region (fun j => true) mixed (Dy 0 rfl (Y.ldS (cs := [_, _]) ty_Query rfl (Has.pt (mS m0)) rfl) (Dyp 1 rfl (Y.mv rfl) (Dyp 2 rfl (Y.mv rfl) ?_))))))))))
  obtain ⟨eb22, eo22, ec22, ea22, er22, el22, eh22⟩ := rb1.elem g om
  obtain ⟨xa22_0, xc22_0, xa22_1, xc22_1, rfl, xh22_0, xh22_1⟩ := Ro.pBinding er22
  have := xh22_0.slen.2
  have := xh22_1.slen.2
  refine Dyp 3 rfl (Y.ix us_Bindings ty_Binding rfl ea22 rfl g rfl om) (Dy 4 rfl (Y.ldS (cs := [_, _]) ty_Binding rfl (eh22 _) rfl) (Dyp 6 rfl (Y.mv rfl) (D.st 5 rfl rfl kr (fun _ => rfl) (N.call (a2u fo) rfl rfl rfl dc rfl (fun w Lp hA => ⟨hA.ro o6, hA.ro n8, hA.ro xh22_0, hA.ro xh22_1⟩)) (fun k24 _ => ?_))))
  obtain ⟨a24, m24, c24⟩ := k24
  refine Ent.lenow m0 fun e24 l24 => ?_
  subst e24
  refine D.st 7 rfl rfl kr (fun _ => rfl) (N.call0 a4E rfl rfl rfl dc (fun w Lp hA => ⟨hA.ow m0, hA.ro hhead⟩)) (fun _ _ => (Ent.b (fun q26 => ?_) (fun q26 => ?_)))
  ·refine D.done kr (Et (E.ct rfl (Ew Z7 (Emv rfl rfl (Emv rfl rfl (Ey rfl ((Y.ix us_Bindings ty_Binding rfl ea22 rfl g rfl om).yd) (Ey rfl (Y.ldS (cs := [_, _]) ty_Binding rfl (eh22 _) rfl) (Est rfl (N.call (a4G (Nat.le_trans (jb.2 _ (List.getElem_mem om)).1 dc) (Nat.le_trans (jb.2 _ (List.getElem_mem om)).2 dc)) rfl rfl rfl dc rfl (fun w Lp hA => ⟨hA.ro xh22_0, hA.ro xh22_1⟩)) (fun k31 _ => ?_)))))))))
   obtain ⟨⟨a31_0, m31_0, c31_0⟩, ⟨a31_1, m31_1, c31_1⟩⟩ := k31
   refine Ent.lenow m0 fun e31_0 l31_0 => ?_
   subst e31_0
   refine Ent.lenow (mS m0) fun e31_1 l31_1 => ?_
   subst e31_1
   refine Ent.p3 (Est rfl (N.sto (vs := [_, _]) (cs' := [_, _]) ty_Binding rfl rfl rfl rfl rfl bl rfl) (fun _ _ => (Eas rfl rfl (Eu (E.ret (E.blr (E.thr (E.thr (E.blr (E.thr (Ent.p2 (Ent.cv (congrArg (ow eIs [_]) (show _ = (G5 (t7 d4 d6) i7 head).2 by grind [K6, N3, K2, d1, d2, t1, t2])) (Ent.p2 (Ent.cv (congrArg (ow eIs [_]) (show _ = (G5 (t7 d4 d6) i7 head).1 by grind [K6, N3, K2, d1, d2, t1, t2])) (Ent.p1 (Ent.p1 ?_))))))))))))))))
   exact F.c2 hB1 rfl rfl rfl (mS (mS m0)) ty_Binding rfl ((_, _, _), (_, _, _)) trivial (by rw [show ((t7 d4 d6).any (K2 i7 head)) = (true) from (by grind [K6, N3, K2, d1, d2, t1, t2])]; try rfl) (J := _) (.refl _) (.inl rfl)
  ·refine D.done kr (Et (E.cf rfl (E.skipc (E.bln (Et (Ez Z3 (Emv rfl rfl (Ey rfl ((Y.add rfl rfl om om).yd) (Eas rfl rfl (Eu (Ent.drop (Ent.p1 (Ent.p1 ?_)))))))))))))
   exact E.again br (g + 1) rs (.refl _) ⟨by omega, by grind [K6, N3, K2, d1, d2, t1, t2]⟩ om
 ·refine Eu (E.cf rfl (E.exit (E.the (E.the (E.blh (Et (Ew Z3 (Ey rfl ((Y.bld (pvs := []) (cs := [_, _]) ty_Binding pl_Binding rfl rfl).yd) (Est rfl (N.sto (vs := [_, _]) (cs' := [_, _]) ty_Binding rfl rfl rfl rfl rfl bl rfl) (fun _ _ => (Eas rfl rfl (Eu (E.ret (Ent.mkow (A := []) (Own.nil (E := Enc.int) (e := tI) (a := none)) rfl (Ent.cv (congrArg (ow eIs [_]) (show _ = (G5 (t7 d4 d6) i7 head).2 by grind [K6, N3, K2, d1, d2, t1, t2])) (Ent.mkow (A := []) (Own.nil (E := Enc.int) (e := tI) (a := none)) rfl (Ent.cv (congrArg (ow eIs [_]) (show _ = (G5 (t7 d4 d6) i7 head).1 by grind [K6, N3, K2, d1, d2, t1, t2])) (Ent.p1 (Ent.p1 ?_)))))))))))))))))))
  exact F.c2 hB1 rfl rfl rfl (mS (mS m0)) ty_Binding rfl ((none, 0, 0), (none, 0, 0)) trivial (by rw [show ((t7 d4 d6).any (K2 i7 head)) = (false) from (by grind [K6, N3, K2, d1, d2, t1, t2])]; try rfl) (J := _) (.refl _) (.inl rfl)
theorem a3W {a_s : Option Addr} {m_s c_s : Nat} {s : List Int} {n : Int} (hs : s = []) (hc : c_s = 0) (hn : 0 ≤ n ∧ n ≤ 1048576) : Tr Tryz.prog 313 [.slice a_s m_s c_s, .int .i64 n] (fun w L => True) [ow eIs [.slice a_s m_s c_s] s] (κ := Option Addr × Nat × Nat) (fun k => True) (fun k => .slice k.1 k.2.1 k.2.2) (fun k => [ow eIs [.slice k.1 k.2.1 k.2.2] s]) := by
 refine Tr.intro Tryz.func313 rfl (n := 27) rfl (by decide +kernel) bl (fr := [(0, .slice a_s m_s c_s), (1, .int .i64 n)]) rfl fun w L hR => (Ent.lenow m0 fun es ls => ?_)
 subst es
 refine Ent.spl fun cs hcs => ?_
 replace hcs : cs.length = s.length * 1 := hcs
 show Ent _ _ _ _ (row tI 1 a_s s.length c_s cs :: _) _
 refine Ent.elone (mS m0) fun h1s => (Ent.rmc m0 fun hms => ?_)
 have hs0 : s.length = 0 := by simp [hs]
 refine Ew Z1 (Eas rfl rfl (Eu (Eq_ (Ew Z2 (Emv rfl rfl (Ey rfl ((Y.lss rfl rfl).yd) (Ent.d (fun q6 => ?_) (fun q6 => ?_))))))))
 ·exact absurd q6 om
 ·refine Eu (E.cf rfl (E.skipc (Et (Eq_ (Ew Z8 (Emv rfl rfl (Emv rfl rfl (Ey rfl ((Y.cap us_Is rfl).yd) (Emv rfl rfl (Ey rfl ((Y.len us_Is rfl).yd) (Ey rfl ((Y.sub rfl rfl om om).yd) (Ey rfl ((Y.sub rfl rfl om om).yd) (Eas rfl rfl (Ev Z2 (Emv rfl rfl (Ey rfl ((Y.gtr rfl rfl).yd) (Ent.d (fun q16 => ?_) (fun q16 => ?_))))))))))))))))))
  ·refine Eu (E.ct rfl (Ez Z10 (Emv rfl rfl (Emv rfl rfl (Ey rfl ((Y.cap us_Is rfl).yd) (Ey rfl ((Y.slTo (h := c_s) us_Is f6 rfl rfl om).yd) (Emv rfl rfl (Est rfl (N.appz (zn := n.toNat) us_Is kr f6 dc rfl rfl om om om m0 om om om dc) (fun p22 hp22 => ?_)))))))))
   obtain ⟨pb22, pc22, pz22⟩ := p22
   obtain ⟨hp22, hq22⟩ := hp22
   dsimp only at hp22 hq22
   refine Emv rfl rfl (Ey rfl ((Y.len us_Is rfl).yd) (Ey rfl ((Y.slTo (h := s.length) us_Is f6 rfl rfl om).yd) (Eas rfl rfl (Ev Z2 (Emv rfl rfl (Eas rfl rfl (Eu (E.ret (Ent.shr (m' := s.length) om (Ent.cv (congrArg (row tI 1 (some ⟨pb22, 0, none⟩) s.length pc22) (show _ = cs from (List.eq_nil_of_length_eq_zero (by simp [hs0])).trans (List.eq_nil_of_length_eq_zero (by simp [hcs, hs0])).symm)) (Ent.p2 (Ent.p1 (Ent.joi (E := Enc.int) rfl mx ?_)))))))))))))
   exact Fg rfl rfl (_, _, _) rfl rfl
  ·refine Eu (E.cf rfl (E.skipc (Et (Ew Z2 (Emv rfl rfl (Eas rfl rfl (Eu (E.ret (Ent.p1 (Ent.p1 (Ent.joi (E := Enc.int) rfl mx ?_)))))))))))
   exact Fg rfl rfl (_, _, _) rfl rfl
theorem a3o {a_l : Option Addr} {m_l c_l : Nat} {l : List (List Int)} (hz : W2 l ≤ 1048576) : Tr Tryz.prog 279 [.slice a_l m_l c_l] (fun w L => Ro w L O5 [.slice a_l m_l c_l] l) [] (κ := Option Addr × Nat × Nat) (fun k => True) (fun k => .slice k.1 k.2.1 k.2.2) (fun k => [ow eIs [.slice k.1 k.2.1 k.2.2] l.flatten]) := by
 refine Tr.intro Tryz.func279 rfl (n := 36) rfl (by decide +kernel) bl (fr := [(0, .slice a_l m_l c_l)]) rfl fun w L hR => ?_
 have hl := hR
 obtain ⟨rfl, ll⟩ := hl.slen
 refine Ew Z1 (Eas rfl rfl (Ev Z1 (Eas rfl rfl (Eu (Eq_ (Ew Z3 (Emv rfl rfl (Ey rfl ((Y.len us_Iss rfl).yd) (Emv rfl rfl (Eu (E.block (E.loop (κ := Nat) (fun g => g ≤ l.length ∧ True) (fun g => [(0, .slice a_l l.length c_l), (3, .int .i64 (↑(W2 (l.take g)) : Int)), (9, .slice a_l l.length c_l), (10, .int .i64 (↑l.length : Int)), (11, .int .i64 (g : Int))]) (fun g => []) (fun g => l.length - g) (0) ⟨Nat.zero_le _, by simp⟩ ⟨rfl, frI (by first | rfl | (simp; done) | grind [a0q, a2V, d1, d2, t1, t2]), rfl, rfl, rfl, trivial⟩ (.refl _) (fun g pg => ?_)))))))))))))
 try dsimp only
 obtain ⟨pk, pa⟩ := pg
 have js := a3t (l := l) (g := g)
 have js1 := a3t (l := l) (g := g + 1)
 refine Ew Z1 (Ey rfl ((Y.lss rfl rfl).yd) (Ent.d (fun q12 => ?_) (fun q12 => ?_)))
 ·have jk0 : W2 (l.take (g + 1)) = W2 (l.take g) + l[g].length := by rw [List.take_succ_eq_append_getElem om, a0q]
  obtain ⟨eb13, eo13, ec13, ea13, er13, el13, eh13⟩ := hl.elem g om
  obtain ⟨xa13, xc13, rfl⟩ := er13.sl
  have := er13.slen.2
  refine Eu (Eq_ (E.ct rfl (E.skipc (Et (Eq_ (E.block (Ew Z3 (Ey rfl ((Y.ix us_Iss ty_Is rfl ea13 rfl g rfl om).yd) (Ey rfl (Y.ld1 ty_Is rfl (eh13 _) rfl) (Eas rfl rfl (Ev Z5 (Emv rfl rfl (Emv rfl rfl (Ey rfl ((Y.len us_Is rfl).yd) (Ey rfl ((Y.add rfl rfl om om).yd) (Eas rfl rfl (Ev Z2 (Emv rfl rfl (Ey rfl ((Y.lss rfl rfl).yd) (Ent.d (fun q20 => ?_) (fun q20 => ?_)))))))))))))))))))))
  ·exact absurd q20 om
  ·refine Eu (E.cf rfl (E.skipc (E.bln (Et (Ez Z2 (Ey rfl ((Y.add rfl rfl om om).yd) (Emv rfl rfl ?_)))))))
   exact Eu (E.again br (g + 1) ⟨rfl, frI (by grind [a0q, a2V, d1, d2, t1, t2]), rfl, rfl, rfl, trivial⟩ (.refl _) ⟨oz, trivial⟩ oz)
 ·refine Eu (Eq_ (E.cf rfl (E.exit (E.the (E.the (E.blh (Et (Ew Z3 (Emv rfl rfl (Ent.mkow (A := []) (Own.nil (E := Enc.int) (e := tI) (a := none)) rfl (Est rfl (N.call (pre := [_]) (a3W rfl rfl om) rfl rfl rfl dc rfl (fun w Lp hA => trivial)) (fun k24 _ => ?_))))))))))))
  obtain ⟨a24, m24, c24⟩ := k24
  refine Ent.lenow m0 fun e24 l24 => ?_
  subst e24
  refine Eas rfl rfl (Eu (Eq_ (Ew Z3 (Emv rfl rfl (Ey rfl ((Y.len us_Iss rfl).yd) (Emv rfl rfl (Eu (E.block (Ent.cv (congrArg (ow eIs [_]) (show ([]) = (l.take 0).flatten from by first | rfl | (simp; done) | grind [a0q, a2V, d1, d2, t1, t2])) (E.loop (κ := Nat × Option Addr × Nat × Nat) (fun r => r.1 ≤ l.length ∧ True) (fun r => [(6, .slice r.2.1 r.2.2.1 r.2.2.2), (25, .slice a_l l.length c_l), (26, .int .i64 (↑l.length : Int)), (27, .int .i64 (↑r.1 : Int))]) (fun r => [ow eIs [.slice r.2.1 r.2.2.1 r.2.2.2] ((l.take r.1).flatten)]) (fun r => l.length - r.1) (0, a24, (([])).length, c24) ⟨Nat.zero_le _, by simp⟩ ⟨rfl, rfl, rfl, rfl, trivial⟩ (.refl _) (fun r pr => ?_)))))))))))
  obtain ⟨r, aA1_0, mA1_0, cA1_0⟩ := r
  try dsimp only at pr
  try dsimp only
  obtain ⟨pk, pa⟩ := pr
  have jt := a3t (l := l) (g := r)
  have ju := b0A (l := l.take r)
  have jt1 := a3t (l := l) (g := r + 1)
  refine Ent.lenow m0 fun eaA1_0 laA1_0 => ?_
  subst eaA1_0
  refine Ew Z1 (Ey rfl ((Y.lss rfl rfl).yd) (Ent.d (fun q28 => ?_) (fun q28 => ?_)))
  ·have jk : W2 (l.take (r + 1)) = W2 (l.take r) + l[r].length := by rw [List.take_succ_eq_append_getElem om, a0q]
   obtain ⟨eb29, eo29, ec29, ea29, er29, el29, eh29⟩ := hl.elem r om
   obtain ⟨xa29, xc29, rfl⟩ := er29.sl
   have := er29.slen.2
   refine Eu (Eq_ (E.ct rfl (E.skipc (Et (Eq_ (E.block (Ew Z3 (Ey rfl ((Y.ix us_Iss ty_Is rfl ea29 rfl r rfl om).yd) (Ey rfl (Y.ld1 ty_Is rfl (eh29 _) rfl) (Eas rfl rfl (Eu (Ez Z4 (Emv rfl rfl (Emv rfl rfl (Est rfl (N.pushR (E := Enc.int) Plain.int us_Is f6 rfl rfl rfl er29 rfl bn bn dc) (fun p33 _ => (Eas rfl rfl (En (E.bln (Et (Ez Z2 (Ey rfl ((Y.add rfl rfl om om).yd) (Emv rfl rfl (Eu (Ent.cv (congrArg (ow eIs [_]) (show ((l.take r).flatten) ++ l[r] = (l.take (r + 1)).flatten from by grind [a0q, a2V, d1, d2, t1, t2])) ?_)))))))))))))))))))))))))
   exact Ea (r + 1, p33.1, (((l.take r).flatten).length + l[r].length), p33.2) ⟨oz, trivial⟩
  ·refine Eu (Eq_ (E.cf rfl (E.exit (E.the (E.the (E.blh (Et (Ew Z2 (Emv rfl rfl (Eas rfl rfl (Eu (E.ret (Ent.cv (congrArg (ow eIs [_]) (show _ = l.flatten by grind [a0q, a2V, d1, d2, t1, t2])) ?_)))))))))))))
   exact Fg rfl rfl (_, _, _) rfl rfl
end Go.Proofs.YtdopeopehgdccaaGreat
