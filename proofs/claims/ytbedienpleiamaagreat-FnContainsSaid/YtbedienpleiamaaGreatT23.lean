import Derived.Test.YtbedienpleiamaaGreatT22
import Derived.Test.YtbedienpleiamaaGreatDs
import Derived.Test.YtbedienpleiamaaGreatBi
namespace Go.Proofs.YtbedienpleiamaaGreat
open Go.RowKit
set_option linter.all false
set_option maxHeartbeats 2000000
attribute [local irreducible] Nop Yd Yp Ent Has Tr FnP FnP2 Src O1 S7 W5 X5 I0
variable {a6 f0 : List (Int × List Int)} {f5 head : List Int} {r5 k6 o1 j0 m_facts c_facts m_head c_head : Nat} {l0 j3 a_facts a_head : Option Addr}
theorem O8 (hqa : a6.length ≤ 4) (hqt : ∀ a ∈ a6, a.2.length ≤ 3) (hf : ∀ a ∈ a6, Few a f0) (hqh : f5.length ≤ 1048576) : Tr Tryz.prog 27 [.agg #[.slice l0 r5 k6, .slice j3 o1 j0], .slice a_facts m_facts c_facts, .slice a_head m_head c_head] (fun w L => Ro w L eIs [.slice l0 r5 k6] f5 ∧ Ro w L j8 [.slice j3 o1 j0] a6 ∧ Ro w L u5 [.slice a_facts m_facts c_facts] f0 ∧ Ro w L eIs [.slice a_head m_head c_head] head) [] (κ := (Option Addr × Nat × Nat) × (Option Addr × Nat × Nat)) (fun k => True) (fun k => .tuple #[.agg #[.slice k.1.1 k.1.2.1 k.1.2.2, .slice k.2.1 k.2.2.1 k.2.2.2], .bool ((j7 a6 f0).any (J2 f5 head))]) (fun k => [ow eIs [.slice k.1.1 k.1.2.1 k.1.2.2] ((s9 (j7 a6 f0) f5 head).1), ow eIs [.slice k.2.1 k.2.2.1 k.2.2.2] ((s9 (j7 a6 f0) f5 head).2)]) := by
 refine Tr.intro Tryz.func27 rfl (n := 26) rfl (by decide +kernel) bl (fr := [(0, .agg #[.slice l0 r5 k6, .slice j3 o1 j0]), (1, .slice a_facts m_facts c_facts), (2, .slice a_head m_head c_head)]) rfl fun w L hR => ?_
 obtain ⟨o6, l4, hfacts, hhead⟩ := hR
 obtain ⟨rfl, F2⟩ := o6.slen
 obtain ⟨rfl, E0⟩ := l4.slen
 obtain ⟨rfl, lfacts⟩ := hfacts.slen
 obtain ⟨rfl, lhead⟩ := hhead.slen
 have jb := a4s (f0 := f0) hf hqa hqt
 refine Ew Z3 (Est rfl (N.box (cs := [_, _]) rfl dc rfl) (fun b3 _ => (Est rfl (N.alloc ty_Binding dc) (fun b6 _ => (Ei rfl (Eu (Eq_ (Ew Z5 (Ey rfl (j6 (cs := [_, _]) ty_Query rfl (Has.pt (mS m0)) rfl) (Em rfl (Est rfl (N.call (a3M fo fo fo) rfl rfl rfl dc rfl (fun w Lp hA => ⟨hA.ro o6, hA.ro l4, hA.ro hfacts⟩)) (fun k12 _ => ?_))))))))))))
 obtain ⟨a12, m12, c12⟩ := k12
 refine d4 m0 fun e12 l12 => ?_
 subst e12
 refine Ey rfl ((Y.len us_Bindings rfl).yd) (Em rfl (Eu (E.block (a7M (E.loop (κ := Nat) (fun g => g ≤ (j7 a6 f0).length ∧ (j7 a6 f0).any (J2 f5 head) = ((j7 a6 f0).drop g).any (J2 f5 head) ∧ s9 (j7 a6 f0) f5 head = s9 ((j7 a6 f0).drop g) f5 head) (fun g => [(2, .slice a_head head.length c_head), (3, .pointer (some ⟨b3, 0, none⟩)), (6, .pointer (some ⟨b6, 0, none⟩)), (12, .slice a12 (j7 a6 f0).length c12), (13, .int .i64 (↑((j7 a6 f0).length) : Int)), (14, .int .i64 (g : Int))]) (fun g => [owd tBinding P9 a12 ((j7 a6 f0).length) c12 (j7 a6 f0) g, pt b6 39 [.slice none 0 0, .slice none 0 0], pt b3 27 [.slice l0 f5.length k6, .slice j3 a6.length j0]]) (fun g => (j7 a6 f0).length - g) (0) ⟨Nat.zero_le _, by simp⟩ ⟨rfl, rfl, rfl, rfl, rfl, rfl, trivial⟩ (.refl _) (fun g pg => ?_))))))
 try dsimp only
 obtain ⟨pk, pa⟩ := pg
 refine Ew Z1 (Ey rfl ((Y.lss rfl rfl).yd) (n9 (fun q15 => ?_) (fun q15 => ?_)))
 ·refine a7c m0 om fun ab16 ae16 => (a7K (j := g) om fun ce16 => (d7 (a7d fun oa16_0 om16_0 oc16_0 oa16_1 om16_1 oc16_1 oe16 on16_0 on16_1 => ?_)))
  subst oe16
  subst on16_0
  subst on16_1
  refine d4 m0 fun _ ol16_0 => (d4 (mS m0) fun _ ol16_1 => (Eu (Eq_ (o0 rfl (f8 (Et (Eq_ (E.block (Ew Z4 (Ey rfl ((t6 us_Bindings ty_Binding rfl ae16 rfl g rfl om).yd) (Ey rfl (j6 (cs := [_, _]) ty_Binding rfl (Has.owt ae16 (mS (mS m0))) rfl) (Est rfl (N.alloc ty_Binding dc) (fun b9 _ => (Est rfl (Ns [_, _] ty_Binding rfl) (fun _ _ => (Ev Z5 (Ey rfl (j6 (cs := [_, _]) ty_Query rfl (Has.pt (mS (mS (mS (mS (mS m0)))))) rfl) (Ey rfl (j6 (cs := [_, _]) ty_Binding rfl (Has.pt m0) rfl) (Est rfl (N.call (S6 fo) rfl rfl rfl dc rfl (fun w Lp hA => ⟨hA.ro o6, hA.ro l4, hA.ow (mS m0), hA.ow (mS (mS m0))⟩)) (fun k20 _ => ?_))))))))))))))))))))
  obtain ⟨a20, m20, c20⟩ := k20
  refine d4 m0 fun e20 l20 => ?_
  subst e20
  refine Em rfl (Est rfl (m6 X7 rfl rfl rfl dc (fun w Lp hA => ⟨hA.ow m0, hA.ro hhead⟩)) (fun _ _ => (t7 (fun q22 => ?_) (fun q22 => ?_))))
  ·refine Eu (o0 rfl (Ew Z3 (Ey rfl (j6 (cs := [_, _]) ty_Binding rfl (Has.pt (mS m0)) rfl) (n8 (Est rfl (Ns [_, _] ty_Binding rfl) (fun _ _ => (Ei rfl (Eu (E.ret (B0 (o4 (o4 (B0 (o4 (i7 (i9 (congrArg (ow eIs [_]) (show _ = (s9 (j7 a6 f0) f5 head).2 by grind [J1, K5, J2, d1, d2, t1, t2])) (i7 (i9 (congrArg (ow eIs [_]) (show _ = (s9 (j7 a6 f0) f5 head).1 by grind [J1, K5, J2, d1, d2, t1, t2])) (d7 (d7 ?_))))))))))))))))))))
   exact W8 br rfl rfl rfl (mS (mS m0)) ty_Binding rfl ((_, _, _), (_, _, _)) trivial (by rw [show ((j7 a6 f0).any (J2 f5 head)) = (true) from (by grind [J1, K5, J2, d1, d2, t1, t2])]; try rfl) (J := _) (.refl _) (.inl rfl)
  ·refine Eu (n0 rfl (f8 (s4 (Et (Ez Z2 (Ey rfl ((Y.add rfl rfl om om).yd) (Em rfl (Eu (i7 (a5l (d7 (Ent.drop (d7 (Ent.drop (d7 (Ent.drop (d7 (Ent.drop (g9 (g9 (g9 ?_)))))))))))))))))))))
   exact Ea (g + 1) ⟨oz, (show (j7 a6 f0).any (J2 f5 head) = ((j7 a6 f0).drop (g + 1)).any (J2 f5 head) ∧ s9 (j7 a6 f0) f5 head = s9 ((j7 a6 f0).drop (g + 1)) f5 head from by grind [J1, K5, J2, d1, d2, t1, t2])⟩
 ·refine Eu (Eq_ (n0 rfl (E.exit (o3 (o3 (x5 (Et (Ew Z3 (Ey rfl ((E9 (pvs := []) (cs := [_, _]) ty_Binding pl_Binding rfl rfl).yd) (d7 (Est rfl (Ns [_, _] ty_Binding rfl) (fun _ _ => (Ei rfl (Eu (E.ret (o2 (A := []) (Own.nil (E := Enc.int) (e := tI) (a := none)) rfl (i9 (congrArg (ow eIs [_]) (show _ = (s9 (j7 a6 f0) f5 head).2 by grind [J1, K5, J2, d1, d2, t1, t2])) (o2 (A := []) (Own.nil (E := Enc.int) (e := tI) (a := none)) rfl (i9 (congrArg (ow eIs [_]) (show _ = (s9 (j7 a6 f0) f5 head).1 by grind [J1, K5, J2, d1, d2, t1, t2])) (d7 (d7 ?_)))))))))))))))))))))
  exact W8 br rfl rfl rfl (mS (mS m0)) ty_Binding rfl ((none, 0, 0), (none, 0, 0)) trivial (by rw [show ((j7 a6 f0).any (J2 f5 head)) = (false) from (by grind [J1, K5, J2, d1, d2, t1, t2])]; try rfl) (J := _) (.refl _) (.inl rfl)
theorem M6 (hqa : a6.length ≤ 4) (hqt : ∀ a ∈ a6, a.2.length ≤ 3) (hf : ∀ a ∈ a6, Few a f0) (hqh : f5.length ≤ 1048576) : Tr Tryz.prog 28 [.agg #[.slice l0 r5 k6, .slice j3 o1 j0], .slice a_facts m_facts c_facts, .slice a_head m_head c_head] (fun w L => Ro w L eIs [.slice l0 r5 k6] f5 ∧ Ro w L j8 [.slice j3 o1 j0] a6 ∧ Ro w L u5 [.slice a_facts m_facts c_facts] f0 ∧ Ro w L eIs [.slice a_head m_head c_head] head) [] (κ := (Option Addr × Nat × Nat) × (Option Addr × Nat × Nat)) (fun k => True) (fun k => .tuple #[.agg #[.slice k.1.1 k.1.2.1 k.1.2.2, .slice k.2.1 k.2.2.1 k.2.2.2], .bool ((j7 a6 f0).any (J2 f5 head))]) (fun k => [ow eIs [.slice k.1.1 k.1.2.1 k.1.2.2] ((s9 (j7 a6 f0) f5 head).1), ow eIs [.slice k.2.1 k.2.2.1 k.2.2.2] ((s9 (j7 a6 f0) f5 head).2)]) := by
 refine Tr.intro Tryz.func28 rfl (n := 33) rfl (by decide +kernel) bl (fr := [(0, .agg #[.slice l0 r5 k6, .slice j3 o1 j0]), (1, .slice a_facts m_facts c_facts), (2, .slice a_head m_head c_head)]) rfl fun w L hR => ?_
 obtain ⟨o6, l4, hfacts, hhead⟩ := hR
 obtain ⟨rfl, F2⟩ := o6.slen
 obtain ⟨rfl, E0⟩ := l4.slen
 obtain ⟨rfl, lfacts⟩ := hfacts.slen
 obtain ⟨rfl, lhead⟩ := hhead.slen
 have jb := a4s (f0 := f0) hf hqa hqt
 refine Ew Z3 (Est rfl (N.box (cs := [_, _]) rfl dc rfl) (fun b3 _ => (Est rfl (N.alloc ty_Binding dc) (fun b6 _ => (Ei rfl (Ev Z4 (Ey rfl (j6 (cs := [_, _]) ty_Query rfl (Has.pt (mS m0)) rfl) (Em rfl (Est rfl (N.call (X6 fo fo fo) rfl rfl rfl dc rfl (fun w Lp hA => ⟨hA.ro o6, hA.ro l4, hA.ro hfacts⟩)) (fun k12 _ => ?_))))))))))
 obtain ⟨a12, m12, c12⟩ := k12
 refine d4 m0 fun e12 l12 => ?_
 subst e12
 refine w9 (A := [_]) rfl fun wb1 Lb1 hB1 hA1 => ?_
 have o6 := hA1.ro o6
 have l4 := hA1.ro l4
 have hfacts := hA1.ro hfacts
 have hhead := hA1.ro hhead
 have rb1 : Ro wb1 Lb1 C1 [.slice a12 (j7 a6 f0).length c12] (j7 a6 f0) := hA1.ow m0
 refine Ei rfl (Eu (Eq_ (Ew Z1 (Ei rfl (Eu (E.block (E.loop (κ := Nat) (fun g => g ≤ (j7 a6 f0).length ∧ (j7 a6 f0).any (J2 f5 head) = ((j7 a6 f0).drop g).any (J2 f5 head) ∧ s9 (j7 a6 f0) f5 head = s9 ((j7 a6 f0).drop g) f5 head) (fun g => [(2, .slice a_head head.length c_head), (3, .pointer (some ⟨b3, 0, none⟩)), (6, .pointer (some ⟨b6, 0, none⟩)), (8, .slice a12 (j7 a6 f0).length c12), (9, .int .i64 (g : Int))]) (fun g => [pt b6 39 [.slice none 0 0, .slice none 0 0], pt b3 27 [.slice l0 f5.length k6, .slice j3 a6.length j0]]) (fun g => (j7 a6 f0).length - g) 0 ⟨Nat.zero_le _, by simp⟩ ⟨rfl, rfl, rfl, rfl, rfl, trivial⟩ (.refl _) (fun g pg => ?_))))))))
 obtain ⟨pk, pa⟩ := pg
 refine Eq_ (Ew Z4 (Em rfl (Em rfl (Ey rfl ((Y.len us_Bindings rfl).yd) (Ey rfl ((Y.lss rfl rfl).yd) (n9 (fun q16 => ?_) (fun q16 => ?_)))))))
 ·refine Eu (o0 rfl (f8 (Et (Eq_ (E.block (Eq_ (D.region (fun j => true) mixed (Dy 0 rfl (j6 (cs := [_, _]) ty_Query rfl (Has.pt (mS m0)) rfl) (Dyp 1 rfl (i8 rfl) (Dyp 2 rfl (i8 rfl) ?_))))))))))
  obtain ⟨eb22, eo22, ec22, ea22, er22, el22, eh22⟩ := rb1.elem g om
  obtain ⟨xa22_0, xc22_0, xa22_1, xc22_1, rfl, xh22_0, xh22_1⟩ := a0G er22
  have := xh22_0.slen.2
  have := xh22_1.slen.2
  refine Dyp 3 rfl (t6 us_Bindings ty_Binding rfl ea22 rfl g rfl om) (Dy 4 rfl (j6 (cs := [_, _]) ty_Binding rfl (eh22 _) rfl) (Dyp 6 rfl (i8 rfl) (r8 5 rfl rfl kr (fun _ => rfl) (N.call (X0 fo) rfl rfl rfl dc rfl (fun w Lp hA => ⟨hA.ro o6, hA.ro l4, hA.ro xh22_0, hA.ro xh22_1⟩)) (fun k24 _ => ?_))))
  obtain ⟨a24, m24, c24⟩ := k24
  refine d4 m0 fun e24 l24 => ?_
  subst e24
  refine r8 7 rfl rfl kr (fun _ => rfl) (m6 V1 rfl rfl rfl dc (fun w Lp hA => ⟨hA.ow m0, hA.ro hhead⟩)) (fun _ _ => (t7 (fun q26 => ?_) (fun q26 => ?_)))
  ·refine r7 kr (Et (o0 rfl (Ew Z7 (Em rfl (Em rfl (Ey rfl ((t6 us_Bindings ty_Binding rfl ea22 rfl g rfl om).yd) (Ey rfl (j6 (cs := [_, _]) ty_Binding rfl (eh22 _) rfl) (Est rfl (N.call (a2U (Nat.le_trans (jb.2 _ (List.getElem_mem om)).1 dc) (Nat.le_trans (jb.2 _ (List.getElem_mem om)).2 dc)) rfl rfl rfl dc rfl (fun w Lp hA => ⟨hA.ro xh22_0, hA.ro xh22_1⟩)) (fun k31 _ => ?_)))))))))
   obtain ⟨⟨a31_0, m31_0, c31_0⟩, ⟨a31_1, m31_1, c31_1⟩⟩ := k31
   refine d4 m0 fun e31_0 l31_0 => ?_
   subst e31_0
   refine d4 (mS m0) fun e31_1 l31_1 => ?_
   subst e31_1
   refine l3 (Est rfl (Ns [_, _] ty_Binding rfl) (fun _ _ => (Ei rfl (Eu (E.ret (B0 (o4 (o4 (B0 (o4 (g9 (i9 (congrArg (ow eIs [_]) (show _ = (s9 (j7 a6 f0) f5 head).2 by grind [J1, K5, J2, d1, d2, t1, t2])) (g9 (i9 (congrArg (ow eIs [_]) (show _ = (s9 (j7 a6 f0) f5 head).1 by grind [J1, K5, J2, d1, d2, t1, t2])) (d7 (d7 ?_))))))))))))))))
   exact W8 hB1 rfl rfl rfl (mS (mS m0)) ty_Binding rfl ((_, _, _), (_, _, _)) trivial (by rw [show ((j7 a6 f0).any (J2 f5 head)) = (true) from (by grind [J1, K5, J2, d1, d2, t1, t2])]; try rfl) (J := _) (.refl _) (.inl rfl)
  ·refine r7 kr (Et (n0 rfl (f8 (s4 (Et (Ez Z3 (Em rfl (Ey rfl ((Y.add rfl rfl om om).yd) (Ei rfl (Eu (Ent.drop (d7 (d7 ?_)))))))))))))
   exact x3 br (g + 1) rs (.refl _) ⟨by omega, by grind [J1, K5, J2, d1, d2, t1, t2]⟩ om
 ·refine Eu (n0 rfl (E.exit (o3 (o3 (x5 (Et (Ew Z3 (Ey rfl ((E9 (pvs := []) (cs := [_, _]) ty_Binding pl_Binding rfl rfl).yd) (Est rfl (Ns [_, _] ty_Binding rfl) (fun _ _ => (Ei rfl (Eu (E.ret (o2 (A := []) (Own.nil (E := Enc.int) (e := tI) (a := none)) rfl (i9 (congrArg (ow eIs [_]) (show _ = (s9 (j7 a6 f0) f5 head).2 by grind [J1, K5, J2, d1, d2, t1, t2])) (o2 (A := []) (Own.nil (E := Enc.int) (e := tI) (a := none)) rfl (i9 (congrArg (ow eIs [_]) (show _ = (s9 (j7 a6 f0) f5 head).1 by grind [J1, K5, J2, d1, d2, t1, t2])) (d7 (d7 ?_)))))))))))))))))))
  exact W8 hB1 rfl rfl rfl (mS (mS m0)) ty_Binding rfl ((none, 0, 0), (none, 0, 0)) trivial (by rw [show ((j7 a6 f0).any (J2 f5 head)) = (false) from (by grind [J1, K5, J2, d1, d2, t1, t2])]; try rfl) (J := _) (.refl _) (.inl rfl)
theorem a0O {rel : Int} {a_terms : Option Addr} {m_terms c_terms : Nat} {terms : List Int} (hz : terms.length ≤ 1048576) : Tr Tryz.prog 140 [.int .i64 rel, .slice a_terms m_terms c_terms] (fun w L => I64 rel ∧ Ro w L eIs [.slice a_terms m_terms c_terms] terms) [] (κ := Option Addr × Nat × Nat) (fun k => True) (fun k => .agg #[.int .i64 rel, .slice k.1 k.2.1 k.2.2]) (fun k => [ow eIs [.slice k.1 k.2.1 k.2.2] terms]) := by
 refine Tr.intro Tryz.func140 rfl (n := 10) rfl (by decide +kernel) bl (fr := [(0, .int .i64 rel), (1, .slice a_terms m_terms c_terms)]) rfl fun w L hR => ?_
 obtain ⟨i6rel, hterms⟩ := hR
 obtain ⟨rfl, lterms⟩ := hterms.slen
 refine Ew Z1 (Est rfl (N.alloc ty_Atom dc) (fun b4 _ => (Ev Z6 (Em rfl (Est rfl (Nb [] [] us_Is f6 rfl rfl) (fun b6 _ => (Ent.drop (Em rfl (Est rfl (G9 (E := Enc.int) Plain.int us_Is f6 rfl rfl rfl hterms bn bn dc) (fun p8 _ => (Ey rfl ((E9 (pvs := [_, _]) (cs := [_, _]) ty_Atom a2m rfl rfl).yd) (d7 (Est rfl (Ns [_, _] ty_Atom rfl) (fun _ _ => (Eu (E.ret (d7 ?_)))))))))))))))))
 exact H8 br rfl rfl (mS m0) ty_Atom rfl (_, _, _) trivial rfl (J := _) (.refl _) (.inl rfl)
theorem a0P (hqh : f5.length ≤ 1048576) (hqn : a6.length ≤ 1048576) (hqt : ∀ a ∈ a6, a.2.length ≤ 1048576) : Tr Tryz.prog 80 [.agg #[.slice l0 r5 k6, .slice j3 o1 j0]] (fun w L => Ro w L eIs [.slice l0 r5 k6] f5 ∧ Ro w L j8 [.slice j3 o1 j0] a6) [] (κ := (Option Addr × Nat × Nat) × (Option Addr × Nat × Nat)) (fun k => True) (fun k => .agg #[.slice k.1.1 k.1.2.1 k.1.2.2, .slice k.2.1 k.2.2.1 k.2.2.2]) (fun k => [ow eIs [.slice k.1.1 k.1.2.1 k.1.2.2] f5, ow j8 [.slice k.2.1 k.2.2.1 k.2.2.2] a6]) := by
 refine Tr.intro Tryz.func80 rfl (n := 36) rfl (by decide +kernel) bl (fr := [(0, .agg #[.slice l0 r5 k6, .slice j3 o1 j0])]) rfl fun w L hR => ?_
 obtain ⟨o6, l4⟩ := hR
 obtain ⟨rfl, F2⟩ := o6.slen
 obtain ⟨rfl, E0⟩ := l4.slen
 have jv := l4.i64A
 refine Ew Z2 (Est rfl (N.box (cs := [_, _]) rfl dc rfl) (fun b1 _ => (Est rfl (N.alloc ty_Query dc) (fun b2 _ => (Ev Z7 (Est rfl (Nb [] [] us_Is f6 rfl rfl) (fun b5 _ => (Ent.drop (Ey rfl ((i0 fo_Query_0 ty_Is dc rfl).yd) (Ey rfl (f9 ty_Is rfl (Hz (mS m0) 0 rfl) rfl) (Est rfl (G9 (E := Enc.int) Plain.int us_Is f6 rfl rfl rfl o6 bn bn dc) (fun p8 _ => (Ey rfl ((E9 (pvs := [_]) (cs := [_, _]) ty_Query a1q rfl rfl).yd) (Est rfl (N.alloc ty_Query dc) (fun b3 _ => (Est rfl (Ns [_, _] ty_Query rfl) (fun _ _ => (Eu (Eq_ (Ew Z1 (Ei rfl (Eu (E.block (o2 (A := []) (Own.nil (E := N3) (e := tAtom) (a := none)) rfl (i9 (congrArg (ow j8 [_]) (show [] = a6.take 0 from by first | rfl | (simp; done) | grind [d1, d2, t1, t2])) (E.loop (κ := Nat × Option Addr × Nat × Nat) (fun g => g.1 ≤ a6.length ∧ True) (fun g => [(1, .pointer (some ⟨b1, 0, none⟩)), (2, .pointer (some ⟨b2, 0, none⟩)), (3, .pointer (some ⟨b3, 0, none⟩)), (4, .int .i64 (↑g.1 : Int))]) (fun g => [ow j8 [.slice g.2.1 g.2.2.1 g.2.2.2] (a6.take g.1), pt b3 27 [.slice p8.1 f5.length p8.2, .slice g.2.1 g.2.2.1 g.2.2.2], ow eIs [.slice p8.1 f5.length p8.2] f5, pt b2 27 [.slice none 0 0, .slice none 0 0], pt b1 27 [.slice l0 f5.length k6, .slice j3 a6.length j0]]) (fun g => a6.length - g.1) (0, none, 0, 0) ⟨Nat.zero_le _, by simp⟩ ⟨rfl, rfl, rfl, rfl, trivial⟩ (.refl _) (fun g pg => ?_)))))))))))))))))))))))))))
 obtain ⟨g, aA0_0, mA0_0, cA0_0⟩ := g
 try dsimp only at pg
 try dsimp only
 obtain ⟨pk, pa⟩ := pg
 refine d4 m0 fun eaA0_0 laA0_0 => ?_
 subst eaA0_0
 refine Eq_ (Ew Z5 (Em rfl (Ey rfl ((i0 fo_Query_1 ty_Atoms dc rfl).yd) (Ey rfl (f9 ty_Atoms rfl (Hz (mS (mS (mS (mS m0)))) 1 rfl) rfl) (Ey rfl ((Y.len us_Atoms rfl).yd) (Ey rfl ((Y.lss rfl rfl).yd) (n9 (fun q14 => ?_) (fun q14 => ?_))))))))
 ·refine Eu (o0 rfl (f8 (Et (Eq_ (E.block (D.region (fun j => !(Nat.beq j 16) && !(Nat.beq j 18)) mixed (Dyp 0 rfl (i0 fo_Query_1 ty_Atoms dc rfl) (Dy 1 rfl (f9 ty_Atoms rfl (Hz (mS m0) 1 rfl) rfl) (Dyp 2 rfl (i0 fo_Query_1 ty_Atoms dc rfl) (Dy 3 rfl (f9 ty_Atoms rfl (Hz (mS (mS (mS (mS m0)))) 1 rfl) rfl) (Dyp 4 rfl (i8 rfl) ?_)))))))))))
  obtain ⟨eb22, eo22, ec22, ea22, er22, el22, eh22⟩ := l4.elem g om
  obtain ⟨xa22_0, xc22_0, rfl, ei22_0, xh22_0⟩ := J0 er22
  have := xh22_0.slen.2
  refine Dyp 5 rfl (t6 us_Atoms ty_Atom rfl ea22 rfl g rfl om) (Dyp 6 rfl (i0 fo_Atom_0 f6 dc rfl) (Dy 7 rfl (f9 f6 rfl ((eh22 _).sub (cs' := [_]) 0 rfl) rfl) (Dyp 8 rfl (i0 fo_Query_1 ty_Atoms dc rfl) (Dy 9 rfl (f9 ty_Atoms rfl (Hz (mS (mS (mS (mS m0)))) 1 rfl) rfl) (Dyp 10 rfl (i8 rfl) (Dyp 11 rfl (t6 us_Atoms ty_Atom rfl ea22 rfl g rfl om) (Dyp 12 rfl (i0 fo_Atom_1 ty_Is dc rfl) (Dy 13 rfl (f9 ty_Is rfl ((eh22 _).sub (cs' := [_]) 1 rfl) rfl) (r8 14 rfl rfl kr (fun _ => rfl) (N.call (a0O (hqt _ (List.getElem_mem om))) rfl rfl rfl dc rfl (fun w Lp hA => ⟨ei22_0, hA.ro xh22_0⟩)) (fun k31 _ => ?_))))))))))
  obtain ⟨a31, m31, c31⟩ := k31
  refine d4 m0 fun e31 l31 => ?_
  subst e31
  refine r8 15 rfl rfl kr (fun _ => rfl) (Nb [_] [_, _] us_Atoms ty_Atom rfl rfl) (fun b32 _ => (d7 (d7 (g9 (r8 16 rfl rfl kr (fun h => by cases h) (v7 (E := N3) (ex := a6[g]) us_Atoms ty_Atom rfl rfl rfl (H2 (x := a6[g]) ei22_0 Own.ow) rfl bn bn dc) (fun p33 _ => (Dyp 17 rfl (i0 fo_Query_1 ty_Atoms dc rfl) (d7 (r8 18 rfl rfl kr (fun h => by cases h) (Ns [_, _] ty_Atoms rfl) (fun _ _ => (r7 kr (s4 (Et (Ez Z3 (Em rfl (Ey rfl ((Y.add rfl rfl om om).yd) (Ei rfl (Eu (d7 (i9 (congrArg (ow j8 [_]) (show (a6.take g) ++ [a6[g]] = a6.take (g + 1) from by grind [d1, d2, t1, t2])) (i7 (i7 (i7 (i7 (i7 ?_)))))))))))))))))))))))))
  exact Ea (g + 1, p33.1, ((a6.take g).length + 1), p33.2) ⟨oz, trivial⟩
 ·refine Eu (n0 rfl (E.exit (o3 (o3 (x5 (Et (Ew Z2 (Ey rfl (j6 (cs := [_, _]) ty_Query rfl (Has.pt (mS m0)) rfl) (l3 (Est rfl (Ns [_, _] ty_Query rfl) (fun _ _ => (Eu (E.ret (d7 (i9 (congrArg (ow j8 [_]) (show _ = a6 by grind [d1, d2, t1, t2])) (l3 (d7 (d7 ?_))))))))))))))))))
  exact H8 br rfl rfl (mS (mS m0)) ty_Query rfl ((_, _, _), (_, _, _)) trivial rfl (J := _) (.refl _) (.inl rfl)
theorem a2e {a_s : Option Addr} {m_s c_s : Nat} {s : List Int} {n : Int} (hs : s = []) (hc : c_s = 0) (hn : 0 ≤ n ∧ n ≤ 1048576) : Tr Tryz.prog 171 [.slice a_s m_s c_s, .int .i64 n] (fun w L => True) [ow eIs [.slice a_s m_s c_s] s] (κ := Option Addr × Nat × Nat) (fun k => True) (fun k => .slice k.1 k.2.1 k.2.2) (fun k => [ow eIs [.slice k.1 k.2.1 k.2.2] s]) := by
 refine Tr.intro Tryz.func171 rfl (n := 27) rfl (by decide +kernel) bl (fr := [(0, .slice a_s m_s c_s), (1, .int .i64 n)]) rfl fun w L hR => (d4 m0 fun es ls => ?_)
 subst es
 refine a3H fun cs hcs => ?_
 replace hcs : cs.length = s.length * 1 := hcs
 show Ent _ _ _ _ (row tI 1 a_s s.length c_s cs :: _) _
 refine a1O (mS m0) fun h1s => (a3I m0 fun hms => ?_)
 have hs0 : s.length = 0 := by simp [hs]
 refine Ew Z1 (Ei rfl (Eu (Eq_ (Ew Z2 (Em rfl (Ey rfl ((Y.lss rfl rfl).yd) (n9 (fun q6 => ?_) (fun q6 => ?_))))))))
 ·exact absurd q6 om
 ·refine Eu (n0 rfl (f8 (Et (Eq_ (Ew Z8 (Em rfl (Em rfl (Ey rfl ((Y.cap us_Is rfl).yd) (Em rfl (Ey rfl ((Y.len us_Is rfl).yd) (Ey rfl ((Y.sub rfl rfl om om).yd) (Ey rfl ((Y.sub rfl rfl om om).yd) (Ei rfl (Ev Z2 (Em rfl (Ey rfl ((Y.gtr rfl rfl).yd) (n9 (fun q16 => ?_) (fun q16 => ?_))))))))))))))))))
  ·refine Eu (o0 rfl (Ez Z10 (Em rfl (Em rfl (Ey rfl ((Y.cap us_Is rfl).yd) (Ey rfl ((a2p (h := c_s) us_Is f6 rfl rfl om).yd) (Em rfl (Est rfl (a9a (zn := n.toNat) us_Is kr f6 dc rfl rfl om om om m0 om om om dc) (fun p22 hp22 => ?_)))))))))
   obtain ⟨pb22, pc22, pz22⟩ := p22
   obtain ⟨hp22, hq22⟩ := hp22
   dsimp only at hp22 hq22
   refine Em rfl (Ey rfl ((Y.len us_Is rfl).yd) (Ey rfl ((a2p (h := s.length) us_Is f6 rfl rfl om).yd) (Ei rfl (Ev Z2 (Em rfl (Ei rfl (Eu (E.ret (Ent.shr (m' := s.length) om (i9 (congrArg (row tI 1 (some ⟨pb22, 0, none⟩) s.length pc22) (show _ = cs from (List.eq_nil_of_length_eq_zero (by simp [hs0])).trans (List.eq_nil_of_length_eq_zero (by simp [hcs, hs0])).symm)) (g9 (d7 (a0B (E := Enc.int) rfl mx ?_)))))))))))))
   exact Fg rfl rfl (_, _, _) rfl rfl
  ·refine Eu (n0 rfl (f8 (Et (Ew Z2 (Em rfl (Ei rfl (Eu (E.ret (d7 (d7 (a0B (E := Enc.int) rfl mx ?_)))))))))))
   exact Fg rfl rfl (_, _, _) rfl rfl
theorem K0 {a_l : Option Addr} {m_l c_l : Nat} {l : List (List Int)} (hz : P8 l ≤ 1048576) : Tr Tryz.prog 120 [.slice a_l m_l c_l] (fun w L => Ro w L P2 [.slice a_l m_l c_l] l) [] (κ := Option Addr × Nat × Nat) (fun k => True) (fun k => .slice k.1 k.2.1 k.2.2) (fun k => [ow eIs [.slice k.1 k.2.1 k.2.2] l.flatten]) := by
 refine Tr.intro Tryz.func120 rfl (n := 36) rfl (by decide +kernel) bl (fr := [(0, .slice a_l m_l c_l)]) rfl fun w L hR => ?_
 have hl := hR
 obtain ⟨rfl, ll⟩ := hl.slen
 refine Ew Z1 (Ei rfl (Ev Z1 (Ei rfl (Eu (Eq_ (Ew Z3 (Em rfl (Ey rfl ((Y.len us_Iss rfl).yd) (Em rfl (Eu (E.block (E.loop (κ := Nat) (fun g => g ≤ l.length ∧ True) (fun g => [(0, .slice a_l l.length c_l), (3, .int .i64 (↑(P8 (l.take g)) : Int)), (9, .slice a_l l.length c_l), (10, .int .i64 (↑l.length : Int)), (11, .int .i64 (g : Int))]) (fun g => []) (fun g => l.length - g) (0) ⟨Nat.zero_le _, by simp⟩ ⟨rfl, frI (by first | rfl | (simp; done) | grind [V9, a1b, d1, d2, t1, t2]), rfl, rfl, rfl, trivial⟩ (.refl _) (fun g pg => ?_)))))))))))))
 try dsimp only
 obtain ⟨pk, pa⟩ := pg
 have js := a1D (l := l) (g := g)
 have js1 := a1D (l := l) (g := g + 1)
 refine Ew Z1 (Ey rfl ((Y.lss rfl rfl).yd) (n9 (fun q12 => ?_) (fun q12 => ?_)))
 ·have jk0 : P8 (l.take (g + 1)) = P8 (l.take g) + l[g].length := by rw [List.take_succ_eq_append_getElem om, V9]
  obtain ⟨eb13, eo13, ec13, ea13, er13, el13, eh13⟩ := hl.elem g om
  obtain ⟨xa13, xc13, rfl⟩ := er13.sl
  have := er13.slen.2
  refine Eu (Eq_ (o0 rfl (f8 (Et (Eq_ (E.block (Ew Z3 (Ey rfl ((t6 us_Iss ty_Is rfl ea13 rfl g rfl om).yd) (Ey rfl (f9 ty_Is rfl (eh13 _) rfl) (Ei rfl (Ev Z5 (Em rfl (Em rfl (Ey rfl ((Y.len us_Is rfl).yd) (Ey rfl ((Y.add rfl rfl om om).yd) (Ei rfl (Ev Z2 (Em rfl (Ey rfl ((Y.lss rfl rfl).yd) (n9 (fun q20 => ?_) (fun q20 => ?_)))))))))))))))))))))
  ·exact absurd q20 om
  ·refine Eu (n0 rfl (f8 (s4 (Et (Ez Z2 (Ey rfl ((Y.add rfl rfl om om).yd) (Em rfl ?_)))))))
   exact Eu (x3 br (g + 1) ⟨rfl, frI (by grind [V9, a1b, d1, d2, t1, t2]), rfl, rfl, rfl, trivial⟩ (.refl _) ⟨oz, trivial⟩ oz)
 ·refine Eu (Eq_ (n0 rfl (E.exit (o3 (o3 (x5 (Et (Ew Z3 (Em rfl (o2 (A := []) (Own.nil (E := Enc.int) (e := tI) (a := none)) rfl (Est rfl (N.call (pre := [_]) (a2e rfl rfl om) rfl rfl rfl dc rfl tv) (fun k24 _ => ?_))))))))))))
  obtain ⟨a24, m24, c24⟩ := k24
  refine d4 m0 fun e24 l24 => ?_
  subst e24
  refine Ei rfl (Eu (Eq_ (Ew Z3 (Em rfl (Ey rfl ((Y.len us_Iss rfl).yd) (Em rfl (Eu (E.block (i9 (congrArg (ow eIs [_]) (show ([]) = (l.take 0).flatten from by first | rfl | (simp; done) | grind [V9, a1b, d1, d2, t1, t2])) (E.loop (κ := Nat × Option Addr × Nat × Nat) (fun r => r.1 ≤ l.length ∧ True) (fun r => [(6, .slice r.2.1 r.2.2.1 r.2.2.2), (25, .slice a_l l.length c_l), (26, .int .i64 (↑l.length : Int)), (27, .int .i64 (↑r.1 : Int))]) (fun r => [ow eIs [.slice r.2.1 r.2.2.1 r.2.2.2] ((l.take r.1).flatten)]) (fun r => l.length - r.1) (0, a24, (([])).length, c24) ⟨Nat.zero_le _, by simp⟩ ⟨rfl, rfl, rfl, rfl, trivial⟩ (.refl _) (fun r pr => ?_)))))))))))
  obtain ⟨r, aA1_0, mA1_0, cA1_0⟩ := r
  try dsimp only at pr
  try dsimp only
  obtain ⟨pk, pa⟩ := pr
  have jt := a1D (l := l) (g := r)
  have ju := a7j (l := l.take r)
  have jt1 := a1D (l := l) (g := r + 1)
  refine d4 m0 fun eaA1_0 laA1_0 => ?_
  subst eaA1_0
  refine Ew Z1 (Ey rfl ((Y.lss rfl rfl).yd) (n9 (fun q28 => ?_) (fun q28 => ?_)))
  ·have jk : P8 (l.take (r + 1)) = P8 (l.take r) + l[r].length := by rw [List.take_succ_eq_append_getElem om, V9]
   obtain ⟨eb29, eo29, ec29, ea29, er29, el29, eh29⟩ := hl.elem r om
   obtain ⟨xa29, xc29, rfl⟩ := er29.sl
   have := er29.slen.2
   refine Eu (Eq_ (o0 rfl (f8 (Et (Eq_ (E.block (Ew Z3 (Ey rfl ((t6 us_Iss ty_Is rfl ea29 rfl r rfl om).yd) (Ey rfl (f9 ty_Is rfl (eh29 _) rfl) (Ei rfl (Eu (Ez Z4 (Em rfl (Em rfl (Est rfl (b0G (E := Enc.int) Plain.int us_Is f6 rfl rfl rfl er29 rfl bn bn dc) (fun p33 _ => (Ei rfl (En (s4 (Et (Ez Z2 (Ey rfl ((Y.add rfl rfl om om).yd) (Em rfl (Eu (i9 (congrArg (ow eIs [_]) (show ((l.take r).flatten) ++ l[r] = (l.take (r + 1)).flatten from by grind [V9, a1b, d1, d2, t1, t2])) ?_)))))))))))))))))))))))))
   exact Ea (r + 1, p33.1, (((l.take r).flatten).length + l[r].length), p33.2) ⟨oz, trivial⟩
  ·refine Eu (Eq_ (n0 rfl (E.exit (o3 (o3 (x5 (Et (Ew Z2 (Em rfl (Ei rfl (Eu (E.ret (i9 (congrArg (ow eIs [_]) (show _ = l.flatten by grind [V9, a1b, d1, d2, t1, t2])) ?_)))))))))))))
   exact Fg rfl rfl (_, _, _) rfl rfl
end Go.Proofs.YtbedienpleiamaaGreat
