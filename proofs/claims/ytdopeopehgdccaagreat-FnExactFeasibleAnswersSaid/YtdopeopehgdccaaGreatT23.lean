import Derived.Test.YtdopeopehgdccaaGreatBb
import Derived.Test.YtdopeopehgdccaaGreatBs
import Derived.Test.YtdopeopehgdccaaGreatT22
import Derived.Test.YtdopeopehgdccaaGreatDs
section
namespace Go.Proofs.YtdopeopehgdccaaGreat
open Go.RowKit
set_option linter.unusedVariables false
theorem Own.row2 {α : Type} {E : Enc α} {A B : List HP} {c1 c2 : List Value} {x y : α} {e : TypeId} {a : Option Addr} {c : Nat} (h : Own A E c1 x) (h' : Own B E c2 y) : Own (Go.Proofs.YtdopeopehgdccaaGreat.row e E.k a 2 c (c1 ++ c2) :: (A ++ B)) (Enc.sl e E) [.slice a 2 c] [x, y] := fun w L ⟨L1, L2, h1, h2, h3⟩ => by
  obtain ⟨M1, M2, rfl, h4, h5⟩ := Sep.append.1 h3
  exact ⟨a, 2, c, c1 ++ c2, L1, M1 ++ M2, rfl, rfl, by decide, h1, ⟨c1, c2, M1, M2, rfl, rfl, h _ _ h4, x5.single (h' _ _ h5)⟩, h2⟩
end Go.Proofs.YtdopeopehgdccaaGreat
end
section
namespace Go.Proofs.YtdopeopehgdccaaGreat
open Go.RowKit
set_option linter.all false
set_option maxHeartbeats 2000000
attribute [local irreducible] Nop Yd Yp Ent Has Tr FnP FnP2 Src K9 U8 W3 X6 E0
variable {d4 d8 : List (Int × List Int)} {d9 head : List Int} {o1 l0 n9 j7 m_facts c_facts m_head c_head : Nat} {l2 j8 a_facts a_head : Option Addr}
theorem a0o (hqa : d4.length ≤ 4) (hqt : ∀ a ∈ d4, a.2.length ≤ 3) (hf : ∀ a ∈ d4, Few a d8) (hqh : d9.length ≤ 1048576) : Tr Tryz.prog 193 [.agg #[.slice l2 o1 l0, .slice j8 n9 j7], .slice a_facts m_facts c_facts, .slice a_head m_head c_head] (fun w L => Ro w L eIs [.slice l2 o1 l0] d9 ∧ Ro w L s3 [.slice j8 n9 j7] d4 ∧ Ro w L o2 [.slice a_facts m_facts c_facts] d8 ∧ Ro w L eIs [.slice a_head m_head c_head] head) [] (κ := (Option Addr × Nat × Nat) × (Option Addr × Nat × Nat)) (fun k => True) (fun k => .tuple #[.agg #[.slice k.1.1 k.1.2.1 k.1.2.2, .slice k.2.1 k.2.2.1 k.2.2.2], .bool ((t7 d4 d8).any (N6 d9 head))]) (fun k => [ow eIs [.slice k.1.1 k.1.2.1 k.1.2.2] ((H6 (t7 d4 d8) d9 head).1), ow eIs [.slice k.2.1 k.2.2.1 k.2.2.2] ((H6 (t7 d4 d8) d9 head).2)]) := by
 refine Tr.intro Tryz.func193 rfl (n := 26) rfl (by decide +kernel) bl (fr := [(0, .agg #[.slice l2 o1 l0, .slice j8 n9 j7]), (1, .slice a_facts m_facts c_facts), (2, .slice a_head m_head c_head)]) rfl fun w L hR => ?_
 obtain ⟨o3, n8, hfacts, hhead⟩ := hR
 obtain ⟨rfl, E9⟩ := o3.slen
 obtain ⟨rfl, D1⟩ := n8.slen
 obtain ⟨rfl, lfacts⟩ := hfacts.slen
 obtain ⟨rfl, lhead⟩ := hhead.slen
 have jb := a7t (d8 := d8) hf hqa hqt
 refine Ew Z3 (Est rfl (N.box (cs := [_, _]) rfl dc rfl) (fun b3 _ => (Est rfl (N.alloc ty_Binding dc) (fun b6 _ => (Eas rfl rfl (Eu (Eq_ (Ew Z5 (Ey rfl (Y.ldS (cs := [_, _]) ty_Query rfl (Has.pt (mS m0)) rfl) (Emv rfl rfl (Est rfl (N.call (a5I fo fo fo) rfl rfl rfl dc rfl (fun w Lp hA => ⟨hA.ro o3, hA.ro n8, hA.ro hfacts⟩)) (fun k12 _ => ?_))))))))))))
 obtain ⟨a12, m12, c12⟩ := k12
 refine Ent.lenow m0 fun e12 l12 => ?_
 subst e12
 refine Ey rfl ((Y.len us_Bindings rfl).yd) (Emv rfl rfl (Eu (E.block (Ent.od0 (E.loop (κ := Nat) (fun g => g ≤ (t7 d4 d8).length ∧ (t7 d4 d8).any (N6 d9 head) = ((t7 d4 d8).drop g).any (N6 d9 head) ∧ H6 (t7 d4 d8) d9 head = H6 ((t7 d4 d8).drop g) d9 head) (fun g => [(2, .slice a_head head.length c_head), (3, .pointer (some ⟨b3, 0, none⟩)), (6, .pointer (some ⟨b6, 0, none⟩)), (12, .slice a12 (t7 d4 d8).length c12), (13, .int .i64 (↑((t7 d4 d8).length) : Int)), (14, .int .i64 (g : Int))]) (fun g => [owd tBinding E5 a12 ((t7 d4 d8).length) c12 (t7 d4 d8) g, pt b6 125 [.slice none 0 0, .slice none 0 0], pt b3 61 [.slice l2 d9.length l0, .slice j8 d4.length j7]]) (fun g => (t7 d4 d8).length - g) (0) ⟨Nat.zero_le _, by simp⟩ ⟨rfl, rfl, rfl, rfl, rfl, rfl, trivial⟩ (.refl _) (fun g pg => ?_))))))
 try dsimp only
 obtain ⟨pk, pa⟩ := pg
 refine Ew Z1 (Ey rfl ((Y.lss rfl rfl).yd) (Ent.d (fun q15 => ?_) (fun q15 => ?_)))
 ·refine Ent.adrd m0 om fun ab16 ae16 => (Ent.odt (j := g) om fun ce16 => (Ent.p1 (Ent.oBinding fun oa16_0 om16_0 oc16_0 oa16_1 om16_1 oc16_1 oe16 on16_0 on16_1 => ?_)))
  subst oe16
  subst on16_0
  subst on16_1
  refine Ent.lenow m0 fun _ ol16_0 => (Ent.lenow (mS m0) fun _ ol16_1 => (Eu (Eq_ (E.ct rfl (E.skipc (Et (Eq_ (E.block (Ew Z4 (Ey rfl ((Y.ix us_Bindings ty_Binding rfl ae16 rfl g rfl om).yd) (Ey rfl (Y.ldS (cs := [_, _]) ty_Binding rfl (Has.owt ae16 (mS (mS m0))) rfl) (Est rfl (N.alloc ty_Binding dc) (fun b9 _ => (Est rfl (N.sto (vs := [_, _]) (cs' := [_, _]) ty_Binding rfl rfl rfl rfl rfl bl rfl) (fun _ _ => (Ev Z5 (Ey rfl (Y.ldS (cs := [_, _]) ty_Query rfl (Has.pt (mS (mS (mS (mS (mS m0)))))) rfl) (Ey rfl (Y.ldS (cs := [_, _]) ty_Binding rfl (Has.pt m0) rfl) (Est rfl (N.call (a0H fo) rfl rfl rfl dc rfl (fun w Lp hA => ⟨hA.ro o3, hA.ro n8, hA.ow (mS m0), hA.ow (mS (mS m0))⟩)) (fun k20 _ => ?_))))))))))))))))))))
  obtain ⟨a20, m20, c20⟩ := k20
  refine Ent.lenow m0 fun e20 l20 => ?_
  subst e20
  refine Emv rfl rfl (Est rfl (N.call0 X4 rfl rfl rfl dc (fun w Lp hA => ⟨hA.ow m0, hA.ro hhead⟩)) (fun _ _ => (Ent.b (fun q22 => ?_) (fun q22 => ?_))))
  ·refine Eu (E.ct rfl (Ew Z3 (Ey rfl (Y.ldS (cs := [_, _]) ty_Binding rfl (Has.pt (mS m0)) rfl) (Ent.p5 (Est rfl (N.sto (vs := [_, _]) (cs' := [_, _]) ty_Binding rfl rfl rfl rfl rfl bl rfl) (fun _ _ => (Eas rfl rfl (Eu (E.ret (E.blr (E.thr (E.thr (E.blr (E.thr (Ent.p4 (Ent.cv (congrArg (ow eIs [_]) (show _ = (H6 (t7 d4 d8) d9 head).2 by grind [K0, N0, N6, d1, d2, t1, t2])) (Ent.p4 (Ent.cv (congrArg (ow eIs [_]) (show _ = (H6 (t7 d4 d8) d9 head).1 by grind [K0, N0, N6, d1, d2, t1, t2])) (Ent.p1 (Ent.p1 ?_))))))))))))))))))))
   exact F.c2 br rfl rfl rfl (mS (mS m0)) ty_Binding rfl ((_, _, _), (_, _, _)) trivial (by rw [show ((t7 d4 d8).any (N6 d9 head)) = (true) from (by grind [K0, N0, N6, d1, d2, t1, t2])]; try rfl) (J := _) (.refl _) (.inl rfl)
  ·refine Eu (E.cf rfl (E.skipc (E.bln (Et (Ez Z2 (Ey rfl ((Y.add rfl rfl om om).yd) (Emv rfl rfl (Eu (Ent.p4 (Ent.otd (Ent.p1 (Ent.drop (Ent.p1 (Ent.drop (Ent.p1 (Ent.drop (Ent.p1 (Ent.drop (Ent.p2 (Ent.p2 (Ent.p2 ?_)))))))))))))))))))))
   exact Ea (g + 1) ⟨oz, (show (t7 d4 d8).any (N6 d9 head) = ((t7 d4 d8).drop (g + 1)).any (N6 d9 head) ∧ H6 (t7 d4 d8) d9 head = H6 ((t7 d4 d8).drop (g + 1)) d9 head from by grind [K0, N0, N6, d1, d2, t1, t2])⟩
 ·refine Eu (Eq_ (E.cf rfl (E.exit (E.the (E.the (E.blh (Et (Ew Z3 (Ey rfl ((Y.bld (pvs := []) (cs := [_, _]) ty_Binding pl_Binding rfl rfl).yd) (Ent.p1 (Est rfl (N.sto (vs := [_, _]) (cs' := [_, _]) ty_Binding rfl rfl rfl rfl rfl bl rfl) (fun _ _ => (Eas rfl rfl (Eu (E.ret (Ent.mkow (A := []) (Own.nil (E := Enc.int) (e := tI) (a := none)) rfl (Ent.cv (congrArg (ow eIs [_]) (show _ = (H6 (t7 d4 d8) d9 head).2 by grind [K0, N0, N6, d1, d2, t1, t2])) (Ent.mkow (A := []) (Own.nil (E := Enc.int) (e := tI) (a := none)) rfl (Ent.cv (congrArg (ow eIs [_]) (show _ = (H6 (t7 d4 d8) d9 head).1 by grind [K0, N0, N6, d1, d2, t1, t2])) (Ent.p1 (Ent.p1 ?_)))))))))))))))))))))
  exact F.c2 br rfl rfl rfl (mS (mS m0)) ty_Binding rfl ((none, 0, 0), (none, 0, 0)) trivial (by rw [show ((t7 d4 d8).any (N6 d9 head)) = (false) from (by grind [K0, N0, N6, d1, d2, t1, t2])]; try rfl) (J := _) (.refl _) (.inl rfl)
theorem a0y (hqa : d4.length ≤ 4) (hqt : ∀ a ∈ d4, a.2.length ≤ 3) (hf : ∀ a ∈ d4, Few a d8) (hqh : d9.length ≤ 1048576) : Tr Tryz.prog 188 [.agg #[.slice l2 o1 l0, .slice j8 n9 j7], .slice a_facts m_facts c_facts, .slice a_head m_head c_head] (fun w L => Ro w L eIs [.slice l2 o1 l0] d9 ∧ Ro w L s3 [.slice j8 n9 j7] d4 ∧ Ro w L o2 [.slice a_facts m_facts c_facts] d8 ∧ Ro w L eIs [.slice a_head m_head c_head] head) [] (κ := (Option Addr × Nat × Nat) × (Option Addr × Nat × Nat)) (fun k => True) (fun k => .tuple #[.agg #[.slice k.1.1 k.1.2.1 k.1.2.2, .slice k.2.1 k.2.2.1 k.2.2.2], .bool ((t7 d4 d8).any (N6 d9 head))]) (fun k => [ow eIs [.slice k.1.1 k.1.2.1 k.1.2.2] ((H6 (t7 d4 d8) d9 head).1), ow eIs [.slice k.2.1 k.2.2.1 k.2.2.2] ((H6 (t7 d4 d8) d9 head).2)]) := by
 refine Tr.intro Tryz.func188 rfl (n := 33) rfl (by decide +kernel) bl (fr := [(0, .agg #[.slice l2 o1 l0, .slice j8 n9 j7]), (1, .slice a_facts m_facts c_facts), (2, .slice a_head m_head c_head)]) rfl fun w L hR => ?_
 obtain ⟨o3, n8, hfacts, hhead⟩ := hR
 obtain ⟨rfl, E9⟩ := o3.slen
 obtain ⟨rfl, D1⟩ := n8.slen
 obtain ⟨rfl, lfacts⟩ := hfacts.slen
 obtain ⟨rfl, lhead⟩ := hhead.slen
 have jb := a7t (d8 := d8) hf hqa hqt
 refine Ew Z3 (Est rfl (N.box (cs := [_, _]) rfl dc rfl) (fun b3 _ => (Est rfl (N.alloc ty_Binding dc) (fun b6 _ => (Eas rfl rfl (Ev Z4 (Ey rfl (Y.ldS (cs := [_, _]) ty_Query rfl (Has.pt (mS m0)) rfl) (Emv rfl rfl (Est rfl (N.call (a5D fo fo fo) rfl rfl rfl dc rfl (fun w Lp hA => ⟨hA.ro o3, hA.ro n8, hA.ro hfacts⟩)) (fun k12 _ => ?_))))))))))
 obtain ⟨a12, m12, c12⟩ := k12
 refine Ent.lenow m0 fun e12 l12 => ?_
 subst e12
 refine Ent.rebase (A := [_]) rfl fun wb1 Lb1 hB1 hA1 => ?_
 have o3 := hA1.ro o3
 have n8 := hA1.ro n8
 have hfacts := hA1.ro hfacts
 have hhead := hA1.ro hhead
 have rb1 : Ro wb1 Lb1 u0 [.slice a12 (t7 d4 d8).length c12] (t7 d4 d8) := hA1.ow m0
 refine Eas rfl rfl (Eu (Eq_ (Ew Z1 (Eas rfl rfl (Eu (E.block (E.loop (κ := Nat) (fun g => g ≤ (t7 d4 d8).length ∧ (t7 d4 d8).any (N6 d9 head) = ((t7 d4 d8).drop g).any (N6 d9 head) ∧ H6 (t7 d4 d8) d9 head = H6 ((t7 d4 d8).drop g) d9 head) (fun g => [(2, .slice a_head head.length c_head), (3, .pointer (some ⟨b3, 0, none⟩)), (6, .pointer (some ⟨b6, 0, none⟩)), (8, .slice a12 (t7 d4 d8).length c12), (9, .int .i64 (g : Int))]) (fun g => [pt b6 125 [.slice none 0 0, .slice none 0 0], pt b3 61 [.slice l2 d9.length l0, .slice j8 d4.length j7]]) (fun g => (t7 d4 d8).length - g) 0 ⟨Nat.zero_le _, by simp⟩ ⟨rfl, rfl, rfl, rfl, rfl, trivial⟩ (.refl _) (fun g pg => ?_))))))))
 obtain ⟨pk, pa⟩ := pg
 refine Eq_ (Ew Z4 (Emv rfl rfl (Emv rfl rfl (Ey rfl ((Y.len us_Bindings rfl).yd) (Ey rfl ((Y.lss rfl rfl).yd) (Ent.d (fun q16 => ?_) (fun q16 => ?_)))))))
 ·refine Eu (E.ct rfl (E.skipc (Et (Eq_ (E.block (Eq_ (D.region (fun j => true) mixed (Dy 0 rfl (Y.ldS (cs := [_, _]) ty_Query rfl (Has.pt (mS m0)) rfl) (Dyp 1 rfl (Y.mv rfl) (Dyp 2 rfl (Y.mv rfl) ?_))))))))))
  obtain ⟨eb22, eo22, ec22, ea22, er22, el22, eh22⟩ := rb1.elem g om
  obtain ⟨xa22_0, xc22_0, xa22_1, xc22_1, rfl, xh22_0, xh22_1⟩ := Ro.pBinding er22
  have := xh22_0.slen.2
  have := xh22_1.slen.2
  refine Dyp 3 rfl (Y.ix us_Bindings ty_Binding rfl ea22 rfl g rfl om) (Dy 4 rfl (Y.ldS (cs := [_, _]) ty_Binding rfl (eh22 _) rfl) (Dyp 6 rfl (Y.mv rfl) (D.st 5 rfl rfl kr (fun _ => rfl) (N.call (a1O fo) rfl rfl rfl dc rfl (fun w Lp hA => ⟨hA.ro o3, hA.ro n8, hA.ro xh22_0, hA.ro xh22_1⟩)) (fun k24 _ => ?_))))
  obtain ⟨a24, m24, c24⟩ := k24
  refine Ent.lenow m0 fun e24 l24 => ?_
  subst e24
  refine D.st 7 rfl rfl kr (fun _ => rfl) (N.call0 a2s rfl rfl rfl dc (fun w Lp hA => ⟨hA.ow m0, hA.ro hhead⟩)) (fun _ _ => (Ent.b (fun q26 => ?_) (fun q26 => ?_)))
  ·refine D.done kr (Et (E.ct rfl (Ew Z7 (Emv rfl rfl (Emv rfl rfl (Ey rfl ((Y.ix us_Bindings ty_Binding rfl ea22 rfl g rfl om).yd) (Ey rfl (Y.ldS (cs := [_, _]) ty_Binding rfl (eh22 _) rfl) (Est rfl (N.call (a4t (Nat.le_trans (jb.2 _ (List.getElem_mem om)).1 dc) (Nat.le_trans (jb.2 _ (List.getElem_mem om)).2 dc)) rfl rfl rfl dc rfl (fun w Lp hA => ⟨hA.ro xh22_0, hA.ro xh22_1⟩)) (fun k31 _ => ?_)))))))))
   obtain ⟨⟨a31_0, m31_0, c31_0⟩, ⟨a31_1, m31_1, c31_1⟩⟩ := k31
   refine Ent.lenow m0 fun e31_0 l31_0 => ?_
   subst e31_0
   refine Ent.lenow (mS m0) fun e31_1 l31_1 => ?_
   subst e31_1
   refine Ent.p3 (Est rfl (N.sto (vs := [_, _]) (cs' := [_, _]) ty_Binding rfl rfl rfl rfl rfl bl rfl) (fun _ _ => (Eas rfl rfl (Eu (E.ret (E.blr (E.thr (E.thr (E.blr (E.thr (Ent.p2 (Ent.cv (congrArg (ow eIs [_]) (show _ = (H6 (t7 d4 d8) d9 head).2 by grind [K0, N0, N6, d1, d2, t1, t2])) (Ent.p2 (Ent.cv (congrArg (ow eIs [_]) (show _ = (H6 (t7 d4 d8) d9 head).1 by grind [K0, N0, N6, d1, d2, t1, t2])) (Ent.p1 (Ent.p1 ?_))))))))))))))))
   exact F.c2 hB1 rfl rfl rfl (mS (mS m0)) ty_Binding rfl ((_, _, _), (_, _, _)) trivial (by rw [show ((t7 d4 d8).any (N6 d9 head)) = (true) from (by grind [K0, N0, N6, d1, d2, t1, t2])]; try rfl) (J := _) (.refl _) (.inl rfl)
  ·refine D.done kr (Et (E.cf rfl (E.skipc (E.bln (Et (Ez Z3 (Emv rfl rfl (Ey rfl ((Y.add rfl rfl om om).yd) (Eas rfl rfl (Eu (Ent.drop (Ent.p1 (Ent.p1 ?_)))))))))))))
   exact E.again br (g + 1) rs (.refl _) ⟨by omega, by grind [K0, N0, N6, d1, d2, t1, t2]⟩ om
 ·refine Eu (E.cf rfl (E.exit (E.the (E.the (E.blh (Et (Ew Z3 (Ey rfl ((Y.bld (pvs := []) (cs := [_, _]) ty_Binding pl_Binding rfl rfl).yd) (Est rfl (N.sto (vs := [_, _]) (cs' := [_, _]) ty_Binding rfl rfl rfl rfl rfl bl rfl) (fun _ _ => (Eas rfl rfl (Eu (E.ret (Ent.mkow (A := []) (Own.nil (E := Enc.int) (e := tI) (a := none)) rfl (Ent.cv (congrArg (ow eIs [_]) (show _ = (H6 (t7 d4 d8) d9 head).2 by grind [K0, N0, N6, d1, d2, t1, t2])) (Ent.mkow (A := []) (Own.nil (E := Enc.int) (e := tI) (a := none)) rfl (Ent.cv (congrArg (ow eIs [_]) (show _ = (H6 (t7 d4 d8) d9 head).1 by grind [K0, N0, N6, d1, d2, t1, t2])) (Ent.p1 (Ent.p1 ?_)))))))))))))))))))
  exact F.c2 hB1 rfl rfl rfl (mS (mS m0)) ty_Binding rfl ((none, 0, 0), (none, 0, 0)) trivial (by rw [show ((t7 d4 d8).any (N6 d9 head)) = (false) from (by grind [K0, N0, N6, d1, d2, t1, t2])]; try rfl) (J := _) (.refl _) (.inl rfl)
theorem a4s {rel : Int} {a_terms : Option Addr} {m_terms c_terms : Nat} {terms : List Int} (hz : terms.length ≤ 1048576) : Tr Tryz.prog 144 [.int .i64 rel, .slice a_terms m_terms c_terms] (fun w L => I64 rel ∧ Ro w L eIs [.slice a_terms m_terms c_terms] terms) [] (κ := Option Addr × Nat × Nat) (fun k => True) (fun k => .agg #[.int .i64 rel, .slice k.1 k.2.1 k.2.2]) (fun k => [ow eIs [.slice k.1 k.2.1 k.2.2] terms]) := by
 refine Tr.intro Tryz.func144 rfl (n := 10) rfl (by decide +kernel) bl (fr := [(0, .int .i64 rel), (1, .slice a_terms m_terms c_terms)]) rfl fun w L hR => ?_
 obtain ⟨i6rel, hterms⟩ := hR
 obtain ⟨rfl, lterms⟩ := hterms.slen
 refine Ew Z1 (Est rfl (N.alloc ty_Atom dc) (fun b4 _ => (Ev Z6 (Emv rfl rfl (Est rfl (N.bsl (pvs := []) (cs := []) us_Is f8 rfl dc dc (o6 rfl rfl) rfl dc) (fun b6 _ => (Ent.drop (Emv rfl rfl (Est rfl (N.pushR0 (E := Enc.int) Plain.int us_Is f8 rfl rfl rfl hterms bn bn dc) (fun p8 _ => (Ey rfl ((Y.bld (pvs := [_, _]) (cs := [_, _]) ty_Atom a8q rfl rfl).yd) (Ent.p1 (Est rfl (N.sto (vs := [_, _]) (cs' := [_, _]) ty_Atom rfl rfl rfl rfl rfl bl rfl) (fun _ _ => (Eu (E.ret (Ent.p1 ?_)))))))))))))))))
 exact F.c1 br rfl rfl (mS m0) ty_Atom rfl (_, _, _) trivial rfl (J := _) (.refl _) (.inl rfl)
theorem a9m (hqh : d9.length ≤ 1048576) (hqn : d4.length ≤ 1048576) (hqt : ∀ a ∈ d4, a.2.length ≤ 1048576) : Tr Tryz.prog 218 [.agg #[.slice l2 o1 l0, .slice j8 n9 j7]] (fun w L => Ro w L eIs [.slice l2 o1 l0] d9 ∧ Ro w L s3 [.slice j8 n9 j7] d4) [] (κ := (Option Addr × Nat × Nat) × (Option Addr × Nat × Nat)) (fun k => True) (fun k => .agg #[.slice k.1.1 k.1.2.1 k.1.2.2, .slice k.2.1 k.2.2.1 k.2.2.2]) (fun k => [ow eIs [.slice k.1.1 k.1.2.1 k.1.2.2] d9, ow s3 [.slice k.2.1 k.2.2.1 k.2.2.2] d4]) := by
 refine Tr.intro Tryz.func218 rfl (n := 36) rfl (by decide +kernel) bl (fr := [(0, .agg #[.slice l2 o1 l0, .slice j8 n9 j7])]) rfl fun w L hR => ?_
 obtain ⟨o3, n8⟩ := hR
 obtain ⟨rfl, E9⟩ := o3.slen
 obtain ⟨rfl, D1⟩ := n8.slen
 have jv := n8.i64A
 refine Ew Z2 (Est rfl (N.box (cs := [_, _]) rfl dc rfl) (fun b1 _ => (Est rfl (N.alloc ty_Query dc) (fun b2 _ => (Ev Z7 (Est rfl (N.bsl (pvs := []) (cs := []) us_Is f8 rfl dc dc (o6 rfl rfl) rfl dc) (fun b5 _ => (Ent.drop (Ey rfl ((Y.fld fo_Query_0 ty_Is dc rfl).yd) (Ey rfl (Y.ld1 ty_Is rfl ((Has.pt (mS m0)).sub (cs' := [_]) 0 rfl) rfl) (Est rfl (N.pushR0 (E := Enc.int) Plain.int us_Is f8 rfl rfl rfl o3 bn bn dc) (fun p8 _ => (Ey rfl ((Y.bld (pvs := [_]) (cs := [_, _]) ty_Query a1h rfl rfl).yd) (Est rfl (N.alloc ty_Query dc) (fun b3 _ => (Est rfl (N.sto (vs := [_, _]) (cs' := [_, _]) ty_Query rfl rfl rfl rfl rfl bl rfl) (fun _ _ => (Eu (Eq_ (Ew Z1 (Eas rfl rfl (Eu (E.block (Ent.mkow (A := []) (Own.nil (E := P1) (e := tAtom) (a := none)) rfl (Ent.cv (congrArg (ow s3 [_]) (show [] = d4.take 0 from by first | rfl | (simp; done) | grind [d1, d2, t1, t2])) (E.loop (κ := Nat × Option Addr × Nat × Nat) (fun g => g.1 ≤ d4.length ∧ True) (fun g => [(1, .pointer (some ⟨b1, 0, none⟩)), (2, .pointer (some ⟨b2, 0, none⟩)), (3, .pointer (some ⟨b3, 0, none⟩)), (4, .int .i64 (↑g.1 : Int))]) (fun g => [ow s3 [.slice g.2.1 g.2.2.1 g.2.2.2] (d4.take g.1), pt b3 61 [.slice p8.1 d9.length p8.2, .slice g.2.1 g.2.2.1 g.2.2.2], ow eIs [.slice p8.1 d9.length p8.2] d9, pt b2 61 [.slice none 0 0, .slice none 0 0], pt b1 61 [.slice l2 d9.length l0, .slice j8 d4.length j7]]) (fun g => d4.length - g.1) (0, none, 0, 0) ⟨Nat.zero_le _, by simp⟩ ⟨rfl, rfl, rfl, rfl, trivial⟩ (.refl _) (fun g pg => ?_)))))))))))))))))))))))))))
 obtain ⟨g, aA0_0, mA0_0, cA0_0⟩ := g
 try dsimp only at pg
 try dsimp only
 obtain ⟨pk, pa⟩ := pg
 refine Ent.lenow m0 fun eaA0_0 laA0_0 => ?_
 subst eaA0_0
 refine Eq_ (Ew Z5 (Emv rfl rfl (Ey rfl ((Y.fld fo_Query_1 ty_Atoms dc rfl).yd) (Ey rfl (Y.ld1 ty_Atoms rfl ((Has.pt (mS (mS (mS (mS m0))))).sub (cs' := [_]) 1 rfl) rfl) (Ey rfl ((Y.len us_Atoms rfl).yd) (Ey rfl ((Y.lss rfl rfl).yd) (Ent.d (fun q14 => ?_) (fun q14 => ?_))))))))
 ·refine Eu (E.ct rfl (E.skipc (Et (Eq_ (E.block (D.region (fun j => !(Nat.beq j 16) && !(Nat.beq j 18)) mixed (Dyp 0 rfl (Y.fld fo_Query_1 ty_Atoms dc rfl) (Dy 1 rfl (Y.ld1 ty_Atoms rfl ((Has.pt (mS m0)).sub (cs' := [_]) 1 rfl) rfl) (Dyp 2 rfl (Y.fld fo_Query_1 ty_Atoms dc rfl) (Dy 3 rfl (Y.ld1 ty_Atoms rfl ((Has.pt (mS (mS (mS (mS m0))))).sub (cs' := [_]) 1 rfl) rfl) (Dyp 4 rfl (Y.mv rfl) ?_)))))))))))
  obtain ⟨eb22, eo22, ec22, ea22, er22, el22, eh22⟩ := n8.elem g om
  obtain ⟨xa22_0, xc22_0, rfl, ei22_0, xh22_0⟩ := Ro.pAtom er22
  have := xh22_0.slen.2
  refine Dyp 5 rfl (Y.ix us_Atoms ty_Atom rfl ea22 rfl g rfl om) (Dyp 6 rfl (Y.fld fo_Atom_0 f8 dc rfl) (Dy 7 rfl (Y.ld1 f8 rfl ((eh22 _).sub (cs' := [_]) 0 rfl) rfl) (Dyp 8 rfl (Y.fld fo_Query_1 ty_Atoms dc rfl) (Dy 9 rfl (Y.ld1 ty_Atoms rfl ((Has.pt (mS (mS (mS (mS m0))))).sub (cs' := [_]) 1 rfl) rfl) (Dyp 10 rfl (Y.mv rfl) (Dyp 11 rfl (Y.ix us_Atoms ty_Atom rfl ea22 rfl g rfl om) (Dyp 12 rfl (Y.fld fo_Atom_1 ty_Is dc rfl) (Dy 13 rfl (Y.ld1 ty_Is rfl ((eh22 _).sub (cs' := [_]) 1 rfl) rfl) (D.st 14 rfl rfl kr (fun _ => rfl) (N.call (a4s (hqt _ (List.getElem_mem om))) rfl rfl rfl dc rfl (fun w Lp hA => ⟨ei22_0, hA.ro xh22_0⟩)) (fun k31 _ => ?_))))))))))
  obtain ⟨a31, m31, c31⟩ := k31
  refine Ent.lenow m0 fun e31 l31 => ?_
  subst e31
  refine D.st 15 rfl rfl kr (fun _ => rfl) (N.bsl (pvs := [_]) (cs := [_, _]) us_Atoms ty_Atom rfl dc dc (o6 rfl rfl) rfl dc) (fun b32 _ => (Ent.p1 (Ent.p1 (Ent.p2 (D.st 16 rfl rfl kr (fun h => by cases h) (N.push (E := P1) (ex := d4[g]) us_Atoms ty_Atom rfl rfl rfl (Own.mkAtom (x := d4[g]) ei22_0 Own.ow) rfl bn bn dc) (fun p33 _ => (Dyp 17 rfl (Y.fld fo_Query_1 ty_Atoms dc rfl) (Ent.p1 (D.st 18 rfl rfl kr (fun h => by cases h) (N.sto (vs := [_]) (cs' := [_, _]) ty_Atoms rfl rfl rfl rfl rfl bl rfl) (fun _ _ => (D.done kr (E.bln (Et (Ez Z3 (Emv rfl rfl (Ey rfl ((Y.add rfl rfl om om).yd) (Eas rfl rfl (Eu (Ent.p1 (Ent.cv (congrArg (ow s3 [_]) (show (d4.take g) ++ [d4[g]] = d4.take (g + 1) from by grind [d1, d2, t1, t2])) (Ent.p4 (Ent.p4 (Ent.p4 (Ent.p4 (Ent.p4 ?_)))))))))))))))))))))))))
  exact Ea (g + 1, p33.1, ((d4.take g).length + 1), p33.2) ⟨oz, trivial⟩
 ·refine Eu (E.cf rfl (E.exit (E.the (E.the (E.blh (Et (Ew Z2 (Ey rfl (Y.ldS (cs := [_, _]) ty_Query rfl (Has.pt (mS m0)) rfl) (Ent.p3 (Est rfl (N.sto (vs := [_, _]) (cs' := [_, _]) ty_Query rfl rfl rfl rfl rfl bl rfl) (fun _ _ => (Eu (E.ret (Ent.p1 (Ent.cv (congrArg (ow s3 [_]) (show _ = d4 by grind [d1, d2, t1, t2])) (Ent.p3 (Ent.p1 (Ent.p1 ?_))))))))))))))))))
  exact F.c1 br rfl rfl (mS (mS m0)) ty_Query rfl ((_, _, _), (_, _, _)) trivial rfl (J := _) (.refl _) (.inl rfl)
theorem a3q {a_s : Option Addr} {m_s c_s : Nat} {s : List Int} {n : Int} (hs : s = []) (hc : c_s = 0) (hn : 0 ≤ n ∧ n ≤ 1048576) : Tr Tryz.prog 313 [.slice a_s m_s c_s, .int .i64 n] (fun w L => True) [ow eIs [.slice a_s m_s c_s] s] (κ := Option Addr × Nat × Nat) (fun k => True) (fun k => .slice k.1 k.2.1 k.2.2) (fun k => [ow eIs [.slice k.1 k.2.1 k.2.2] s]) := by
 refine Tr.intro Tryz.func313 rfl (n := 27) rfl (by decide +kernel) bl (fr := [(0, .slice a_s m_s c_s), (1, .int .i64 n)]) rfl fun w L hR => (Ent.lenow m0 fun es ls => ?_)
 subst es
 refine Ent.spl fun cs hcs => ?_
 replace hcs : cs.length = s.length * 1 := hcs
 show Ent _ _ _ _ (row tI 1 a_s s.length c_s cs :: _) _
 refine Ent.elone (mS m0) fun h1s => (Ent.rmc m0 fun hms => ?_)
 have hs0 : s.length = 0 := by simp [hs]
 refine Ew Z1 (Eas rfl rfl (Eu (Eq_ (Ew Z2 (Emv rfl rfl (Ey rfl ((Y.lss rfl rfl).yd) (Ent.d (fun q6 => ?_) (fun q6 => ?_))))))))
 ·exact absurd q6 om
 ·refine Eu (E.cf rfl (E.skipc (Et (Eq_ (Ew Z8 (Emv rfl rfl (Emv rfl rfl (Ey rfl ((Y.cap us_Is rfl).yd) (Emv rfl rfl (Ey rfl ((Y.len us_Is rfl).yd) (Ey rfl ((Y.sub rfl rfl om om).yd) (Ey rfl ((Y.sub rfl rfl om om).yd) (Eas rfl rfl (Ev Z2 (Emv rfl rfl (Ey rfl ((Y.gtr rfl rfl).yd) (Ent.d (fun q16 => ?_) (fun q16 => ?_))))))))))))))))))
  ·refine Eu (E.ct rfl (Ez Z10 (Emv rfl rfl (Emv rfl rfl (Ey rfl ((Y.cap us_Is rfl).yd) (Ey rfl ((Y.slTo (h := c_s) us_Is f8 rfl rfl om).yd) (Emv rfl rfl (Est rfl (N.appz (zn := n.toNat) us_Is kr f8 dc rfl rfl om om om m0 om om om dc) (fun p22 hp22 => ?_)))))))))
   obtain ⟨pb22, pc22, pz22⟩ := p22
   obtain ⟨hp22, hq22⟩ := hp22
   dsimp only at hp22 hq22
   refine Emv rfl rfl (Ey rfl ((Y.len us_Is rfl).yd) (Ey rfl ((Y.slTo (h := s.length) us_Is f8 rfl rfl om).yd) (Eas rfl rfl (Ev Z2 (Emv rfl rfl (Eas rfl rfl (Eu (E.ret (Ent.shr (m' := s.length) om (Ent.cv (congrArg (row tI 1 (some ⟨pb22, 0, none⟩) s.length pc22) (show _ = cs from (List.eq_nil_of_length_eq_zero (by simp [hs0])).trans (List.eq_nil_of_length_eq_zero (by simp [hcs, hs0])).symm)) (Ent.p2 (Ent.p1 (Ent.joi (E := Enc.int) rfl mx ?_)))))))))))))
   exact Fg rfl rfl (_, _, _) rfl rfl
  ·refine Eu (E.cf rfl (E.skipc (Et (Ew Z2 (Emv rfl rfl (Eas rfl rfl (Eu (E.ret (Ent.p1 (Ent.p1 (Ent.joi (E := Enc.int) rfl mx ?_)))))))))))
   exact Fg rfl rfl (_, _, _) rfl rfl
theorem M7 {a_l : Option Addr} {m_l c_l : Nat} {l : List (List Int)} (hz : U1 l ≤ 1048576) : Tr Tryz.prog 279 [.slice a_l m_l c_l] (fun w L => Ro w L F1 [.slice a_l m_l c_l] l) [] (κ := Option Addr × Nat × Nat) (fun k => True) (fun k => .slice k.1 k.2.1 k.2.2) (fun k => [ow eIs [.slice k.1 k.2.1 k.2.2] l.flatten]) := by
 refine Tr.intro Tryz.func279 rfl (n := 36) rfl (by decide +kernel) bl (fr := [(0, .slice a_l m_l c_l)]) rfl fun w L hR => ?_
 have hl := hR
 obtain ⟨rfl, ll⟩ := hl.slen
 refine Ew Z1 (Eas rfl rfl (Ev Z1 (Eas rfl rfl (Eu (Eq_ (Ew Z3 (Emv rfl rfl (Ey rfl ((Y.len us_Iss rfl).yd) (Emv rfl rfl (Eu (E.block (E.loop (κ := Nat) (fun g => g ≤ l.length ∧ True) (fun g => [(0, .slice a_l l.length c_l), (3, .int .i64 (↑(U1 (l.take g)) : Int)), (9, .slice a_l l.length c_l), (10, .int .i64 (↑l.length : Int)), (11, .int .i64 (g : Int))]) (fun g => []) (fun g => l.length - g) (0) ⟨Nat.zero_le _, by simp⟩ ⟨rfl, frI (by first | rfl | (simp; done) | grind [a0r, a2F, d1, d2, t1, t2]), rfl, rfl, rfl, trivial⟩ (.refl _) (fun g pg => ?_)))))))))))))
 try dsimp only
 obtain ⟨pk, pa⟩ := pg
 have js := a2W (l := l) (g := g)
 have js1 := a2W (l := l) (g := g + 1)
 refine Ew Z1 (Ey rfl ((Y.lss rfl rfl).yd) (Ent.d (fun q12 => ?_) (fun q12 => ?_)))
 ·have jk0 : U1 (l.take (g + 1)) = U1 (l.take g) + l[g].length := by rw [List.take_succ_eq_append_getElem om, a0r]
  obtain ⟨eb13, eo13, ec13, ea13, er13, el13, eh13⟩ := hl.elem g om
  obtain ⟨xa13, xc13, rfl⟩ := er13.sl
  have := er13.slen.2
  refine Eu (Eq_ (E.ct rfl (E.skipc (Et (Eq_ (E.block (Ew Z3 (Ey rfl ((Y.ix us_Iss ty_Is rfl ea13 rfl g rfl om).yd) (Ey rfl (Y.ld1 ty_Is rfl (eh13 _) rfl) (Eas rfl rfl (Ev Z5 (Emv rfl rfl (Emv rfl rfl (Ey rfl ((Y.len us_Is rfl).yd) (Ey rfl ((Y.add rfl rfl om om).yd) (Eas rfl rfl (Ev Z2 (Emv rfl rfl (Ey rfl ((Y.lss rfl rfl).yd) (Ent.d (fun q20 => ?_) (fun q20 => ?_)))))))))))))))))))))
  ·exact absurd q20 om
  ·refine Eu (E.cf rfl (E.skipc (E.bln (Et (Ez Z2 (Ey rfl ((Y.add rfl rfl om om).yd) (Emv rfl rfl ?_)))))))
   exact Eu (E.again br (g + 1) ⟨rfl, frI (by grind [a0r, a2F, d1, d2, t1, t2]), rfl, rfl, rfl, trivial⟩ (.refl _) ⟨oz, trivial⟩ oz)
 ·refine Eu (Eq_ (E.cf rfl (E.exit (E.the (E.the (E.blh (Et (Ew Z3 (Emv rfl rfl (Ent.mkow (A := []) (Own.nil (E := Enc.int) (e := tI) (a := none)) rfl (Est rfl (N.call (pre := [_]) (a3q rfl rfl om) rfl rfl rfl dc rfl (fun w Lp hA => trivial)) (fun k24 _ => ?_))))))))))))
  obtain ⟨a24, m24, c24⟩ := k24
  refine Ent.lenow m0 fun e24 l24 => ?_
  subst e24
  refine Eas rfl rfl (Eu (Eq_ (Ew Z3 (Emv rfl rfl (Ey rfl ((Y.len us_Iss rfl).yd) (Emv rfl rfl (Eu (E.block (Ent.cv (congrArg (ow eIs [_]) (show ([]) = (l.take 0).flatten from by first | rfl | (simp; done) | grind [a0r, a2F, d1, d2, t1, t2])) (E.loop (κ := Nat × Option Addr × Nat × Nat) (fun r => r.1 ≤ l.length ∧ True) (fun r => [(6, .slice r.2.1 r.2.2.1 r.2.2.2), (25, .slice a_l l.length c_l), (26, .int .i64 (↑l.length : Int)), (27, .int .i64 (↑r.1 : Int))]) (fun r => [ow eIs [.slice r.2.1 r.2.2.1 r.2.2.2] ((l.take r.1).flatten)]) (fun r => l.length - r.1) (0, a24, (([])).length, c24) ⟨Nat.zero_le _, by simp⟩ ⟨rfl, rfl, rfl, rfl, trivial⟩ (.refl _) (fun r pr => ?_)))))))))))
  obtain ⟨r, aA1_0, mA1_0, cA1_0⟩ := r
  try dsimp only at pr
  try dsimp only
  obtain ⟨pk, pa⟩ := pr
  have jt := a2W (l := l) (g := r)
  have ju := b0V (l := l.take r)
  have jt1 := a2W (l := l) (g := r + 1)
  refine Ent.lenow m0 fun eaA1_0 laA1_0 => ?_
  subst eaA1_0
  refine Ew Z1 (Ey rfl ((Y.lss rfl rfl).yd) (Ent.d (fun q28 => ?_) (fun q28 => ?_)))
  ·have jk : U1 (l.take (r + 1)) = U1 (l.take r) + l[r].length := by rw [List.take_succ_eq_append_getElem om, a0r]
   obtain ⟨eb29, eo29, ec29, ea29, er29, el29, eh29⟩ := hl.elem r om
   obtain ⟨xa29, xc29, rfl⟩ := er29.sl
   have := er29.slen.2
   refine Eu (Eq_ (E.ct rfl (E.skipc (Et (Eq_ (E.block (Ew Z3 (Ey rfl ((Y.ix us_Iss ty_Is rfl ea29 rfl r rfl om).yd) (Ey rfl (Y.ld1 ty_Is rfl (eh29 _) rfl) (Eas rfl rfl (Eu (Ez Z4 (Emv rfl rfl (Emv rfl rfl (Est rfl (N.pushR (E := Enc.int) Plain.int us_Is f8 rfl rfl rfl er29 rfl bn bn dc) (fun p33 _ => (Eas rfl rfl (En (E.bln (Et (Ez Z2 (Ey rfl ((Y.add rfl rfl om om).yd) (Emv rfl rfl (Eu (Ent.cv (congrArg (ow eIs [_]) (show ((l.take r).flatten) ++ l[r] = (l.take (r + 1)).flatten from by grind [a0r, a2F, d1, d2, t1, t2])) ?_)))))))))))))))))))))))))
   exact Ea (r + 1, p33.1, (((l.take r).flatten).length + l[r].length), p33.2) ⟨oz, trivial⟩
  ·refine Eu (Eq_ (E.cf rfl (E.exit (E.the (E.the (E.blh (Et (Ew Z2 (Emv rfl rfl (Eas rfl rfl (Eu (E.ret (Ent.cv (congrArg (ow eIs [_]) (show _ = l.flatten by grind [a0r, a2F, d1, d2, t1, t2])) ?_)))))))))))))
   exact Fg rfl rfl (_, _, _) rfl rfl
end Go.Proofs.YtdopeopehgdccaaGreat
end
