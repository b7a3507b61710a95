import Derived.Test.YtlfhopooaejpfaaGreatT22
section
namespace Go.Proofs.YtlfhopooaejpfaaGreat
open Go.RowKit
set_option linter.unusedVariables false
end Go.Proofs.YtlfhopooaejpfaaGreat
end
section
namespace Go.Proofs.YtlfhopooaejpfaaGreat
open Go.RowKit
set_option linter.all false
set_option maxHeartbeats 2000000
attribute [local irreducible] Nop Yd Yp Ent Has Tr FnP FnP2 Src o6 d7 O0 a0h H2
variable {a6 c6 : List (Int × List Int)} {i9 head : List Int} {y9 u9 w9 t7 m_facts c_facts m_head c_head : Nat} {v6 t8 a_facts a_head : Option Addr}
theorem V7 (hqa : a6.length ≤ 4) (hqt : ∀ a ∈ a6, a.2.length ≤ 3) (hf : ∀ a ∈ a6, Few a c6) (hqh : i9.length ≤ 1048576) : Tr Tryz.prog 90 [.agg #[.slice v6 y9 u9, .slice t8 w9 t7], .slice a_facts m_facts c_facts, .slice a_head m_head c_head] (fun w L => Ro w L eIs [.slice v6 y9 u9] i9 ∧ Ro w L H9 [.slice t8 w9 t7] a6 ∧ Ro w L s6 [.slice a_facts m_facts c_facts] c6 ∧ Ro w L eIs [.slice a_head m_head c_head] head) [] (κ := (Option Addr × Nat × Nat) × (Option Addr × Nat × Nat)) (fun k => True) (fun k => .tuple #[.agg #[.slice k.1.1 k.1.2.1 k.1.2.2, .slice k.2.1 k.2.2.1 k.2.2.2], .bool ((z8 a6 c6).any (Q5 i9 head))]) (fun k => [ow eIs [.slice k.1.1 k.1.2.1 k.1.2.2] ((L9 (z8 a6 c6) i9 head).1), ow eIs [.slice k.2.1 k.2.2.1 k.2.2.2] ((L9 (z8 a6 c6) i9 head).2)]) := by
 refine Tr.intro Tryz.func90 rfl (n := 26) rfl (by decide +kernel) bl (fr := [(0, .agg #[.slice v6 y9 u9, .slice t8 w9 t7]), (1, .slice a_facts m_facts c_facts), (2, .slice a_head m_head c_head)]) rfl fun w L hR => ?_
 obtain ⟨w7, u6, hfacts, hhead⟩ := hR
 obtain ⟨rfl, P6⟩ := w7.slen
 obtain ⟨rfl, M4⟩ := u6.slen
 obtain ⟨rfl, lfacts⟩ := hfacts.slen
 obtain ⟨rfl, lhead⟩ := hhead.slen
 have jb := a9S (c6 := c6) hf hqa hqt
 refine Ew Z3 (Est rfl (N.box (cs := [_, _]) rfl dc rfl) (fun b3 _ => (Est rfl (N.alloc ty_Binding dc) (fun b6 _ => (Ei rfl (Eu (Eq_ (Ew Z5 (Ey rfl (r9 (cs := [_, _]) ty_Query rfl (Has.pt (mS m0)) rfl) (Em rfl (Est rfl (N.call (a8m fo fo fo) rfl rfl rfl dc rfl (fun w Lp hA => ⟨hA.ro w7, hA.ro u6, hA.ro hfacts⟩)) (fun k12 _ => ?_))))))))))))
 obtain ⟨a12, m12, c12⟩ := k12
 refine d6 m0 fun e12 l12 => ?_
 subst e12
 refine Ey rfl ((Y.len us_Bindings rfl).yd) (Em rfl (Eu (E.block (a2Y (E.loop (κ := Nat) (fun g => g ≤ (z8 a6 c6).length ∧ (z8 a6 c6).any (Q5 i9 head) = ((z8 a6 c6).drop g).any (Q5 i9 head) ∧ L9 (z8 a6 c6) i9 head = L9 ((z8 a6 c6).drop g) i9 head) (fun g => [(2, .slice a_head head.length c_head), (3, .pointer (some ⟨b3, 0, none⟩)), (6, .pointer (some ⟨b6, 0, none⟩)), (12, .slice a12 (z8 a6 c6).length c12), (13, .int .i64 (↑((z8 a6 c6).length) : Int)), (14, .int .i64 (g : Int))]) (fun g => [owd tBinding a0j a12 ((z8 a6 c6).length) c12 (z8 a6 c6) g, pt b6 78 [.slice none 0 0, .slice none 0 0], pt b3 28 [.slice v6 i9.length u9, .slice t8 a6.length t7]]) (fun g => (z8 a6 c6).length - g) (0) ⟨Nat.zero_le _, by simp⟩ ⟨rfl, rfl, rfl, rfl, rfl, rfl, trivial⟩ (.refl _) (fun g pg => ?_))))))
 try dsimp only
 obtain ⟨pk, pa⟩ := pg
 refine Ew Z1 (Ey rfl ((Y.lss rfl rfl).yd) (n9 (fun q15 => ?_) (fun q15 => ?_)))
 ·refine a2k m0 om fun ab16 ae16 => (a2Z (j := g) om fun ce16 => (d8 (b3N fun oa16_0 om16_0 oc16_0 oa16_1 om16_1 oc16_1 oe16 on16_0 on16_1 => ?_)))
  subst oe16
  subst on16_0
  subst on16_1
  refine d6 m0 fun _ ol16_0 => (d6 (mS m0) fun _ ol16_1 => (Eu (Eq_ (o0 rfl (f9 (Et (Eq_ (E.block (Ew Z4 (Ey rfl ((w3 us_Bindings ty_Binding rfl ae16 rfl g rfl om).yd) (Ey rfl (r9 (cs := [_, _]) ty_Binding rfl (Has.owt ae16 (mS (mS m0))) rfl) (Est rfl (N.alloc ty_Binding dc) (fun b9 _ => (Est rfl (Ns [_, _] ty_Binding rfl) (fun _ _ => (Ev Z5 (Ey rfl (r9 (cs := [_, _]) ty_Query rfl (Has.pt (mS (mS (mS (mS (mS m0)))))) rfl) (Ey rfl (r9 (cs := [_, _]) ty_Binding rfl (Has.pt m0) rfl) (Est rfl (N.call (a0x fo) rfl rfl rfl dc rfl (fun w Lp hA => ⟨hA.ro w7, hA.ro u6, hA.ow (mS m0), hA.ow (mS (mS m0))⟩)) (fun k20 _ => ?_))))))))))))))))))))
  obtain ⟨a20, m20, c20⟩ := k20
  refine d6 m0 fun e20 l20 => ?_
  subst e20
  refine Em rfl (Est rfl (o4 a2E rfl rfl rfl dc (fun w Lp hA => ⟨hA.ow m0, hA.ro hhead⟩)) (fun _ _ => (Ent.b (fun q22 => ?_) (fun q22 => ?_))))
  ·refine Eu (o0 rfl (Ew Z3 (Ey rfl (r9 (cs := [_, _]) ty_Binding rfl (Has.pt (mS m0)) rfl) (B3 (Est rfl (Ns [_, _] ty_Binding rfl) (fun _ _ => (Ei rfl (Eu (E.ret (C9 (s9 (s9 (C9 (s9 (n0 (f6 (congrArg (ow eIs [_]) (show _ = (L9 (z8 a6 c6) i9 head).2 by grind [S1, U6, Q5, d1, d2, t1, t2])) (n0 (f6 (congrArg (ow eIs [_]) (show _ = (L9 (z8 a6 c6) i9 head).1 by grind [S1, U6, Q5, d1, d2, t1, t2])) (d8 (d8 ?_))))))))))))))))))))
   exact a1B br rfl rfl rfl (mS (mS m0)) ty_Binding rfl ((_, _, _), (_, _, _)) trivial (by rw [show ((z8 a6 c6).any (Q5 i9 head)) = (true) from (by grind [S1, U6, Q5, d1, d2, t1, t2])]; try rfl) (J := _) (.refl _) (.inl rfl)
  ·refine Eu (n8 rfl (f9 (s8 (Et (Ez Z2 (Ey rfl ((Y.add rfl rfl om om).yd) (Em rfl (Eu (n0 (a1M (d8 (Ent.drop (d8 (Ent.drop (d8 (Ent.drop (d8 (Ent.drop (j7 (j7 (j7 ?_)))))))))))))))))))))
   exact Ea (g + 1) ⟨oz, (show (z8 a6 c6).any (Q5 i9 head) = ((z8 a6 c6).drop (g + 1)).any (Q5 i9 head) ∧ L9 (z8 a6 c6) i9 head = L9 ((z8 a6 c6).drop (g + 1)) i9 head from by grind [S1, U6, Q5, d1, d2, t1, t2])⟩
 ·refine Eu (Eq_ (n8 rfl (E.exit (l3 (l3 (y4 (Et (Ew Z3 (Ey rfl ((I3 (pvs := []) (cs := [_, _]) ty_Binding pl_Binding rfl rfl).yd) (d8 (Est rfl (Ns [_, _] ty_Binding rfl) (fun _ _ => (Ei rfl (Eu (E.ret (s7 (A := []) (Own.nil (E := Enc.int) (e := tI) (a := none)) rfl (f6 (congrArg (ow eIs [_]) (show _ = (L9 (z8 a6 c6) i9 head).2 by grind [S1, U6, Q5, d1, d2, t1, t2])) (s7 (A := []) (Own.nil (E := Enc.int) (e := tI) (a := none)) rfl (f6 (congrArg (ow eIs [_]) (show _ = (L9 (z8 a6 c6) i9 head).1 by grind [S1, U6, Q5, d1, d2, t1, t2])) (d8 (d8 ?_)))))))))))))))))))))
  exact a1B br rfl rfl rfl (mS (mS m0)) ty_Binding rfl ((none, 0, 0), (none, 0, 0)) trivial (by rw [show ((z8 a6 c6).any (Q5 i9 head)) = (false) from (by grind [S1, U6, Q5, d1, d2, t1, t2])]; try rfl) (J := _) (.refl _) (.inl rfl)
theorem a1Z (hqa : a6.length ≤ 4) (hqt : ∀ a ∈ a6, a.2.length ≤ 3) (hf : ∀ a ∈ a6, Few a c6) (hqh : i9.length ≤ 1048576) : Tr Tryz.prog 99 [.agg #[.slice v6 y9 u9, .slice t8 w9 t7], .slice a_facts m_facts c_facts, .slice a_head m_head c_head] (fun w L => Ro w L eIs [.slice v6 y9 u9] i9 ∧ Ro w L H9 [.slice t8 w9 t7] a6 ∧ Ro w L s6 [.slice a_facts m_facts c_facts] c6 ∧ Ro w L eIs [.slice a_head m_head c_head] head) [] (κ := (Option Addr × Nat × Nat) × (Option Addr × Nat × Nat)) (fun k => True) (fun k => .tuple #[.agg #[.slice k.1.1 k.1.2.1 k.1.2.2, .slice k.2.1 k.2.2.1 k.2.2.2], .bool ((z8 a6 c6).any (Q5 i9 head))]) (fun k => [ow eIs [.slice k.1.1 k.1.2.1 k.1.2.2] ((L9 (z8 a6 c6) i9 head).1), ow eIs [.slice k.2.1 k.2.2.1 k.2.2.2] ((L9 (z8 a6 c6) i9 head).2)]) := by
 refine Tr.intro Tryz.func99 rfl (n := 33) rfl (by decide +kernel) bl (fr := [(0, .agg #[.slice v6 y9 u9, .slice t8 w9 t7]), (1, .slice a_facts m_facts c_facts), (2, .slice a_head m_head c_head)]) rfl fun w L hR => ?_
 obtain ⟨w7, u6, hfacts, hhead⟩ := hR
 obtain ⟨rfl, P6⟩ := w7.slen
 obtain ⟨rfl, M4⟩ := u6.slen
 obtain ⟨rfl, lfacts⟩ := hfacts.slen
 obtain ⟨rfl, lhead⟩ := hhead.slen
 have jb := a9S (c6 := c6) hf hqa hqt
 refine Ew Z3 (Est rfl (N.box (cs := [_, _]) rfl dc rfl) (fun b3 _ => (Est rfl (N.alloc ty_Binding dc) (fun b6 _ => (Ei rfl (Ev Z4 (Ey rfl (r9 (cs := [_, _]) ty_Query rfl (Has.pt (mS m0)) rfl) (Em rfl (Est rfl (N.call (a8l fo fo fo) rfl rfl rfl dc rfl (fun w Lp hA => ⟨hA.ro w7, hA.ro u6, hA.ro hfacts⟩)) (fun k12 _ => ?_))))))))))
 obtain ⟨a12, m12, c12⟩ := k12
 refine d6 m0 fun e12 l12 => ?_
 subst e12
 refine H7 (A := [_]) rfl fun wb1 Lb1 hB1 hA1 => ?_
 have w7 := hA1.ro w7
 have u6 := hA1.ro u6
 have hfacts := hA1.ro hfacts
 have hhead := hA1.ro hhead
 have rb1 : Ro wb1 Lb1 H1 [.slice a12 (z8 a6 c6).length c12] (z8 a6 c6) := hA1.ow m0
 refine Ei rfl (Eu (Eq_ (Ew Z1 (Ei rfl (Eu (E.block (E.loop (κ := Nat) (fun g => g ≤ (z8 a6 c6).length ∧ (z8 a6 c6).any (Q5 i9 head) = ((z8 a6 c6).drop g).any (Q5 i9 head) ∧ L9 (z8 a6 c6) i9 head = L9 ((z8 a6 c6).drop g) i9 head) (fun g => [(2, .slice a_head head.length c_head), (3, .pointer (some ⟨b3, 0, none⟩)), (6, .pointer (some ⟨b6, 0, none⟩)), (8, .slice a12 (z8 a6 c6).length c12), (9, .int .i64 (g : Int))]) (fun g => [pt b6 78 [.slice none 0 0, .slice none 0 0], pt b3 28 [.slice v6 i9.length u9, .slice t8 a6.length t7]]) (fun g => (z8 a6 c6).length - g) 0 ⟨Nat.zero_le _, by simp⟩ ⟨rfl, rfl, rfl, rfl, rfl, trivial⟩ (.refl _) (fun g pg => ?_))))))))
 obtain ⟨pk, pa⟩ := pg
 refine Eq_ (Ew Z4 (Em rfl (Em rfl (Ey rfl ((Y.len us_Bindings rfl).yd) (Ey rfl ((Y.lss rfl rfl).yd) (n9 (fun q16 => ?_) (fun q16 => ?_)))))))
 ·refine Eu (o0 rfl (f9 (Et (Eq_ (E.block (Eq_ (D.region (fun j => true) mixed (Dy 0 rfl (r9 (cs := [_, _]) ty_Query rfl (Has.pt (mS m0)) rfl) (Dyp 1 rfl (k6 rfl) (Dyp 2 rfl (k6 rfl) ?_))))))))))
  obtain ⟨eb22, eo22, ec22, ea22, er22, el22, eh22⟩ := rb1.elem g om
  obtain ⟨xa22_0, xc22_0, xa22_1, xc22_1, rfl, xh22_0, xh22_1⟩ := a5M er22
  have := xh22_0.slen.2
  have := xh22_1.slen.2
  refine Dyp 3 rfl (w3 us_Bindings ty_Binding rfl ea22 rfl g rfl om) (Dy 4 rfl (r9 (cs := [_, _]) ty_Binding rfl (eh22 _) rfl) (Dyp 6 rfl (k6 rfl) (u7 5 rfl rfl kr (fun _ => rfl) (N.call (a3N fo) rfl rfl rfl dc rfl (fun w Lp hA => ⟨hA.ro w7, hA.ro u6, hA.ro xh22_0, hA.ro xh22_1⟩)) (fun k24 _ => ?_))))
  obtain ⟨a24, m24, c24⟩ := k24
  refine d6 m0 fun e24 l24 => ?_
  subst e24
  refine u7 7 rfl rfl kr (fun _ => rfl) (o4 a6X rfl rfl rfl dc (fun w Lp hA => ⟨hA.ow m0, hA.ro hhead⟩)) (fun _ _ => (Ent.b (fun q26 => ?_) (fun q26 => ?_)))
  ·refine t6 kr (Et (o0 rfl (Ew Z7 (Em rfl (Em rfl (Ey rfl ((w3 us_Bindings ty_Binding rfl ea22 rfl g rfl om).yd) (Ey rfl (r9 (cs := [_, _]) ty_Binding rfl (eh22 _) rfl) (Est rfl (N.call (a6Q (Nat.le_trans (jb.2 _ (List.getElem_mem om)).1 dc) (Nat.le_trans (jb.2 _ (List.getElem_mem om)).2 dc)) rfl rfl rfl dc rfl (fun w Lp hA => ⟨hA.ro xh22_0, hA.ro xh22_1⟩)) (fun k31 _ => ?_)))))))))
   obtain ⟨⟨a31_0, m31_0, c31_0⟩, ⟨a31_1, m31_1, c31_1⟩⟩ := k31
   refine d6 m0 fun e31_0 l31_0 => ?_
   subst e31_0
   refine d6 (mS m0) fun e31_1 l31_1 => ?_
   subst e31_1
   refine o2 (Est rfl (Ns [_, _] ty_Binding rfl) (fun _ _ => (Ei rfl (Eu (E.ret (C9 (s9 (s9 (C9 (s9 (j7 (f6 (congrArg (ow eIs [_]) (show _ = (L9 (z8 a6 c6) i9 head).2 by grind [S1, U6, Q5, d1, d2, t1, t2])) (j7 (f6 (congrArg (ow eIs [_]) (show _ = (L9 (z8 a6 c6) i9 head).1 by grind [S1, U6, Q5, d1, d2, t1, t2])) (d8 (d8 ?_))))))))))))))))
   exact a1B hB1 rfl rfl rfl (mS (mS m0)) ty_Binding rfl ((_, _, _), (_, _, _)) trivial (by rw [show ((z8 a6 c6).any (Q5 i9 head)) = (true) from (by grind [S1, U6, Q5, d1, d2, t1, t2])]; try rfl) (J := _) (.refl _) (.inl rfl)
  ·refine t6 kr (Et (n8 rfl (f9 (s8 (Et (Ez Z3 (Em rfl (Ey rfl ((Y.add rfl rfl om om).yd) (Ei rfl (Eu (Ent.drop (d8 (d8 ?_)))))))))))))
   exact B0 br (g + 1) rs (.refl _) ⟨by omega, by grind [S1, U6, Q5, d1, d2, t1, t2]⟩ om
 ·refine Eu (n8 rfl (E.exit (l3 (l3 (y4 (Et (Ew Z3 (Ey rfl ((I3 (pvs := []) (cs := [_, _]) ty_Binding pl_Binding rfl rfl).yd) (Est rfl (Ns [_, _] ty_Binding rfl) (fun _ _ => (Ei rfl (Eu (E.ret (s7 (A := []) (Own.nil (E := Enc.int) (e := tI) (a := none)) rfl (f6 (congrArg (ow eIs [_]) (show _ = (L9 (z8 a6 c6) i9 head).2 by grind [S1, U6, Q5, d1, d2, t1, t2])) (s7 (A := []) (Own.nil (E := Enc.int) (e := tI) (a := none)) rfl (f6 (congrArg (ow eIs [_]) (show _ = (L9 (z8 a6 c6) i9 head).1 by grind [S1, U6, Q5, d1, d2, t1, t2])) (d8 (d8 ?_)))))))))))))))))))
  exact a1B hB1 rfl rfl rfl (mS (mS m0)) ty_Binding rfl ((none, 0, 0), (none, 0, 0)) trivial (by rw [show ((z8 a6 c6).any (Q5 i9 head)) = (false) from (by grind [S1, U6, Q5, d1, d2, t1, t2])]; try rfl) (J := _) (.refl _) (.inl rfl)
theorem b9K {rel : Int} {a_terms : Option Addr} {m_terms c_terms : Nat} {terms : List Int} (hz : terms.length ≤ 1048576) : Tr Tryz.prog 235 [.int .i64 rel, .slice a_terms m_terms c_terms] (fun w L => I64 rel ∧ Ro w L eIs [.slice a_terms m_terms c_terms] terms) [] (κ := Option Addr × Nat × Nat) (fun k => True) (fun k => .agg #[.int .i64 rel, .slice k.1 k.2.1 k.2.2]) (fun k => [ow eIs [.slice k.1 k.2.1 k.2.2] terms]) := by
 refine Tr.intro Tryz.func235 rfl (n := 10) rfl (by decide +kernel) bl (fr := [(0, .int .i64 rel), (1, .slice a_terms m_terms c_terms)]) rfl fun w L hR => ?_
 obtain ⟨i6rel, hterms⟩ := hR
 obtain ⟨rfl, lterms⟩ := hterms.slen
 refine Ew Z1 (Est rfl (N.alloc ty_Atom dc) (fun b4 _ => (Ev Z6 (Em rfl (Est rfl (Nb [] [] us_Is f5 rfl rfl) (fun b6 _ => (Ent.drop (Em rfl (Est rfl (P8 (E := Enc.int) Plain.int us_Is f5 rfl rfl rfl hterms bn bn dc) (fun p8 _ => (Ey rfl ((I3 (pvs := [_, _]) (cs := [_, _]) ty_Atom b0M rfl rfl).yd) (d8 (Est rfl (Ns [_, _] ty_Atom rfl) (fun _ _ => (Eu (E.ret (d8 ?_)))))))))))))))))
 exact O7 br rfl rfl (mS m0) ty_Atom rfl (_, _, _) trivial rfl (J := _) (.refl _) (.inl rfl)
theorem a6b {a_s : Option Addr} {m_s c_s : Nat} {s : List Int} {n : Int} (hs : s = []) (hc : c_s = 0) (hn : 0 ≤ n ∧ n ≤ 1048576) : Tr Tryz.prog 256 [.slice a_s m_s c_s, .int .i64 n] (fun w L => True) [ow eIs [.slice a_s m_s c_s] s] (κ := Option Addr × Nat × Nat) (fun k => True) (fun k => .slice k.1 k.2.1 k.2.2) (fun k => [ow eIs [.slice k.1 k.2.1 k.2.2] s]) := by
 refine Tr.intro Tryz.func256 rfl (n := 27) rfl (by decide +kernel) bl (fr := [(0, .slice a_s m_s c_s), (1, .int .i64 n)]) rfl fun w L hR => (d6 m0 fun es ls => ?_)
 subst es
 refine a4z fun cs hcs => ?_
 replace hcs : cs.length = s.length * 1 := hcs
 show Ent _ _ _ _ (row tI 1 a_s s.length c_s cs :: _) _
 refine a5z (mS m0) fun h1s => (a8h m0 fun hms => ?_)
 have hs0 : s.length = 0 := by simp [hs]
 refine Ew Z1 (Ei rfl (Eu (Eq_ (Ew Z2 (Em rfl (Ey rfl ((Y.lss rfl rfl).yd) (n9 (fun q6 => ?_) (fun q6 => ?_))))))))
 ·exact absurd q6 om
 ·refine Eu (n8 rfl (f9 (Et (Eq_ (Ew Z8 (Em rfl (Em rfl (Ey rfl ((Y.cap us_Is rfl).yd) (Em rfl (Ey rfl ((Y.len us_Is rfl).yd) (Ey rfl ((Y.sub rfl rfl om om).yd) (Ey rfl ((Y.sub rfl rfl om om).yd) (Ei rfl (Ev Z2 (Em rfl (Ey rfl ((Y.gtr rfl rfl).yd) (n9 (fun q16 => ?_) (fun q16 => ?_))))))))))))))))))
  ·refine Eu (o0 rfl (Ez Z10 (Em rfl (Em rfl (Ey rfl ((Y.cap us_Is rfl).yd) (Ey rfl ((a4W (h := c_s) us_Is f5 rfl rfl om).yd) (Em rfl (Est rfl (b7a (zn := n.toNat) us_Is kr f5 dc rfl rfl om om om m0 om om om dc) (fun p22 hp22 => ?_)))))))))
   obtain ⟨pb22, pc22, pz22⟩ := p22
   obtain ⟨hp22, hq22⟩ := hp22
   dsimp only at hp22 hq22
   refine Em rfl (Ey rfl ((Y.len us_Is rfl).yd) (Ey rfl ((a4W (h := s.length) us_Is f5 rfl rfl om).yd) (Ei rfl (Ev Z2 (Em rfl (Ei rfl (Eu (E.ret (Ent.shr (m' := s.length) om (f6 (congrArg (row tI 1 (some ⟨pb22, 0, none⟩) s.length pc22) (show _ = cs from (List.eq_nil_of_length_eq_zero (by simp [hs0])).trans (List.eq_nil_of_length_eq_zero (by simp [hcs, hs0])).symm)) (j7 (d8 (a4A (E := Enc.int) rfl mx ?_)))))))))))))
   exact Fg rfl rfl (_, _, _) rfl rfl
  ·refine Eu (n8 rfl (f9 (Et (Ew Z2 (Em rfl (Ei rfl (Eu (E.ret (d8 (d8 (a4A (E := Enc.int) rfl mx ?_)))))))))))
   exact Fg rfl rfl (_, _, _) rfl rfl
theorem a4Z {a_l : Option Addr} {m_l c_l : Nat} {l : List (List Int)} (hz : a0Z l ≤ 1048576) : Tr Tryz.prog 242 [.slice a_l m_l c_l] (fun w L => Ro w L W7 [.slice a_l m_l c_l] l) [] (κ := Option Addr × Nat × Nat) (fun k => True) (fun k => .slice k.1 k.2.1 k.2.2) (fun k => [ow eIs [.slice k.1 k.2.1 k.2.2] l.flatten]) := by
 refine Tr.intro Tryz.func242 rfl (n := 36) rfl (by decide +kernel) bl (fr := [(0, .slice a_l m_l c_l)]) rfl fun w L hR => ?_
 have hl := hR
 obtain ⟨rfl, ll⟩ := hl.slen
 refine Ew Z1 (Ei rfl (Ev Z1 (Ei rfl (Eu (Eq_ (Ew Z3 (Em rfl (Ey rfl ((Y.len us_Iss rfl).yd) (Em rfl (Eu (E.block (E.loop (κ := Nat) (fun g => g ≤ l.length ∧ True) (fun g => [(0, .slice a_l l.length c_l), (3, .int .i64 (↑(a0Z (l.take g)) : Int)), (9, .slice a_l l.length c_l), (10, .int .i64 (↑l.length : Int)), (11, .int .i64 (g : Int))]) (fun g => []) (fun g => l.length - g) (0) ⟨Nat.zero_le _, by simp⟩ ⟨rfl, frI (by first | rfl | (simp; done) | grind [a2a, a4D, d1, d2, t1, t2]), rfl, rfl, rfl, trivial⟩ (.refl _) (fun g pg => ?_)))))))))))))
 try dsimp only
 obtain ⟨pk, pa⟩ := pg
 have js := a5y (l := l) (g := g)
 have js1 := a5y (l := l) (g := g + 1)
 refine Ew Z1 (Ey rfl ((Y.lss rfl rfl).yd) (n9 (fun q12 => ?_) (fun q12 => ?_)))
 ·have jk0 : a0Z (l.take (g + 1)) = a0Z (l.take g) + l[g].length := by rw [List.take_succ_eq_append_getElem om, a2a]
  obtain ⟨eb13, eo13, ec13, ea13, er13, el13, eh13⟩ := hl.elem g om
  obtain ⟨xa13, xc13, rfl⟩ := er13.sl
  have := er13.slen.2
  refine Eu (Eq_ (o0 rfl (f9 (Et (Eq_ (E.block (Ew Z3 (Ey rfl ((w3 us_Iss ty_Is rfl ea13 rfl g rfl om).yd) (Ey rfl (g9 ty_Is rfl (eh13 _) rfl) (Ei rfl (Ev Z5 (Em rfl (Em rfl (Ey rfl ((Y.len us_Is rfl).yd) (Ey rfl ((Y.add rfl rfl om om).yd) (Ei rfl (Ev Z2 (Em rfl (Ey rfl ((Y.lss rfl rfl).yd) (n9 (fun q20 => ?_) (fun q20 => ?_)))))))))))))))))))))
  ·exact absurd q20 om
  ·refine Eu (n8 rfl (f9 (s8 (Et (Ez Z2 (Ey rfl ((Y.add rfl rfl om om).yd) (Em rfl ?_)))))))
   exact Eu (B0 br (g + 1) ⟨rfl, frI (by grind [a2a, a4D, d1, d2, t1, t2]), rfl, rfl, rfl, trivial⟩ (.refl _) ⟨oz, trivial⟩ oz)
 ·refine Eu (Eq_ (n8 rfl (E.exit (l3 (l3 (y4 (Et (Ew Z3 (Em rfl (s7 (A := []) (Own.nil (E := Enc.int) (e := tI) (a := none)) rfl (Est rfl (N.call (pre := [_]) (a6b rfl rfl om) rfl rfl rfl dc rfl tv) (fun k24 _ => ?_))))))))))))
  obtain ⟨a24, m24, c24⟩ := k24
  refine d6 m0 fun e24 l24 => ?_
  subst e24
  refine Ei rfl (Eu (Eq_ (Ew Z3 (Em rfl (Ey rfl ((Y.len us_Iss rfl).yd) (Em rfl (Eu (E.block (f6 (congrArg (ow eIs [_]) (show ([]) = (l.take 0).flatten from by first | rfl | (simp; done) | grind [a2a, a4D, d1, d2, t1, t2])) (E.loop (κ := Nat × Option Addr × Nat × Nat) (fun r => r.1 ≤ l.length ∧ True) (fun r => [(6, .slice r.2.1 r.2.2.1 r.2.2.2), (25, .slice a_l l.length c_l), (26, .int .i64 (↑l.length : Int)), (27, .int .i64 (↑r.1 : Int))]) (fun r => [ow eIs [.slice r.2.1 r.2.2.1 r.2.2.2] ((l.take r.1).flatten)]) (fun r => l.length - r.1) (0, a24, (([])).length, c24) ⟨Nat.zero_le _, by simp⟩ ⟨rfl, rfl, rfl, rfl, trivial⟩ (.refl _) (fun r pr => ?_)))))))))))
  obtain ⟨r, aA1_0, mA1_0, cA1_0⟩ := r
  try dsimp only at pr
  try dsimp only
  obtain ⟨pk, pa⟩ := pr
  have jt := a5y (l := l) (g := r)
  have ju := b3X (l := l.take r)
  have jt1 := a5y (l := l) (g := r + 1)
  refine d6 m0 fun eaA1_0 laA1_0 => ?_
  subst eaA1_0
  refine Ew Z1 (Ey rfl ((Y.lss rfl rfl).yd) (n9 (fun q28 => ?_) (fun q28 => ?_)))
  ·have jk : a0Z (l.take (r + 1)) = a0Z (l.take r) + l[r].length := by rw [List.take_succ_eq_append_getElem om, a2a]
   obtain ⟨eb29, eo29, ec29, ea29, er29, el29, eh29⟩ := hl.elem r om
   obtain ⟨xa29, xc29, rfl⟩ := er29.sl
   have := er29.slen.2
   refine Eu (Eq_ (o0 rfl (f9 (Et (Eq_ (E.block (Ew Z3 (Ey rfl ((w3 us_Iss ty_Is rfl ea29 rfl r rfl om).yd) (Ey rfl (g9 ty_Is rfl (eh29 _) rfl) (Ei rfl (Eu (Ez Z4 (Em rfl (Em rfl (Est rfl (b9I (E := Enc.int) Plain.int us_Is f5 rfl rfl rfl er29 rfl bn bn dc) (fun p33 _ => (Ei rfl (En (s8 (Et (Ez Z2 (Ey rfl ((Y.add rfl rfl om om).yd) (Em rfl (Eu (f6 (congrArg (ow eIs [_]) (show ((l.take r).flatten) ++ l[r] = (l.take (r + 1)).flatten from by grind [a2a, a4D, d1, d2, t1, t2])) ?_)))))))))))))))))))))))))
   exact Ea (r + 1, p33.1, (((l.take r).flatten).length + l[r].length), p33.2) ⟨oz, trivial⟩
  ·refine Eu (Eq_ (n8 rfl (E.exit (l3 (l3 (y4 (Et (Ew Z2 (Em rfl (Ei rfl (Eu (E.ret (f6 (congrArg (ow eIs [_]) (show _ = l.flatten by grind [a2a, a4D, d1, d2, t1, t2])) ?_)))))))))))))
   exact Fg rfl rfl (_, _, _) rfl rfl
end Go.Proofs.YtlfhopooaejpfaaGreat
end
