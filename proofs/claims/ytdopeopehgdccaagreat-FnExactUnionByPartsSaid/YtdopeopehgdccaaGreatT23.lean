import Derived.Test.YtdopeopehgdccaaGreatT22
import Derived.Test.YtdopeopehgdccaaGreatDs
section
namespace Go.Proofs.YtdopeopehgdccaaGreat
open Go.RowKit
set_option linter.unusedVariables false
theorem a6B {α : Type} {E : Enc α} {A B : List HP} {c1 c2 : List Value} {x y : α} {e : TypeId} {a : Option Addr} {c : Nat} (h : Own A E c1 x) (h' : Own B E c2 y) : Own (Go.Proofs.YtdopeopehgdccaaGreat.row e E.k a 2 c (c1 ++ c2) :: (A ++ B)) (Enc.sl e E) [.slice a 2 c] [x, y] := fun w L ⟨L1, L2, h1, h2, h3⟩ => by
  obtain ⟨M1, M2, rfl, h4, h5⟩ := Sep.append.1 h3
  exact ⟨a, 2, c, c1 ++ c2, L1, M1 ++ M2, rfl, rfl, by decide, h1, ⟨c1, c2, M1, M2, rfl, rfl, h _ _ h4, a3A (h' _ _ h5)⟩, h2⟩
end Go.Proofs.YtdopeopehgdccaaGreat
end
section
namespace Go.Proofs.YtdopeopehgdccaaGreat
open Go.RowKit
set_option linter.all false
set_option maxHeartbeats 2000000
attribute [local irreducible] Nop Yd Yp Ent Has Tr FnP FnP2 Src O8 Y2 a0b a0m G5
variable {d4 d7 : List (Int × List Int)} {f6 head : List Int} {s8 o9 s5 o1 m_facts c_facts m_head c_head : Nat} {r5 o2 a_facts a_head : Option Addr}
theorem a2e (hqa : d4.length ≤ 4) (hqt : ∀ a ∈ d4, a.2.length ≤ 3) (hf : ∀ a ∈ d4, Few a d7) (hqh : f6.length ≤ 1048576) : Tr Tryz.prog 193 [.agg #[.slice r5 s8 o9, .slice o2 s5 o1], .slice a_facts m_facts c_facts, .slice a_head m_head c_head] (fun w L => Ro w L eIs [.slice r5 s8 o9] f6 ∧ Ro w L w9 [.slice o2 s5 o1] d4 ∧ Ro w L s9 [.slice a_facts m_facts c_facts] d7 ∧ Ro w L eIs [.slice a_head m_head c_head] head) [] (κ := (Option Addr × Nat × Nat) × (Option Addr × Nat × Nat)) (fun k => True) (fun k => .tuple #[.agg #[.slice k.1.1 k.1.2.1 k.1.2.2, .slice k.2.1 k.2.2.1 k.2.2.2], .bool ((z7 d4 d7).any (V2 f6 head))]) (fun k => [ow eIs [.slice k.1.1 k.1.2.1 k.1.2.2] ((O3 (z7 d4 d7) f6 head).1), ow eIs [.slice k.2.1 k.2.2.1 k.2.2.2] ((O3 (z7 d4 d7) f6 head).2)]) := by
 refine l0 Tryz.func193 rfl (n := 26) rfl (by decide +kernel) bl (fr := [(0, .agg #[.slice r5 s8 o9, .slice o2 s5 o1]), (1, .slice a_facts m_facts c_facts), (2, .slice a_head m_head c_head)]) rfl fun w L hR => ?_
 obtain ⟨t7, s0, hfacts, hhead⟩ := hR
 obtain ⟨rfl, I9⟩ := t7.slen
 obtain ⟨rfl, H0⟩ := s0.slen
 obtain ⟨rfl, lfacts⟩ := hfacts.slen
 obtain ⟨rfl, lhead⟩ := hhead.slen
 have jb := a9R (d7 := d7) hf hqa hqt
 refine Ew Z3 (Est rfl (N.box (cs := [_, _]) rfl dc rfl) (fun b3 _ => (Est rfl (N.alloc ty_Binding dc) (fun b6 _ => (Ei rfl (Eu (Eq_ (Ew Z5 (Ey rfl (r9 (cs := [_, _]) ty_Query rfl (Has.pt (mS m0)) rfl) (Em rfl (Est rfl (N.call (a8r fo fo fo) rfl rfl rfl dc rfl (fun w Lp hA => ⟨hA.ro t7, hA.ro s0, hA.ro hfacts⟩)) (fun k12 _ => ?_))))))))))))
 obtain ⟨a12, m12, c12⟩ := k12
 refine f5 m0 fun e12 l12 => ?_
 subst e12
 refine Ey rfl ((Y.len us_Bindings rfl).yd) (Em rfl (Eu (E.block (a8n (E.loop (κ := Nat) (fun g => g ≤ (z7 d4 d7).length ∧ (z7 d4 d7).any (V2 f6 head) = ((z7 d4 d7).drop g).any (V2 f6 head) ∧ O3 (z7 d4 d7) f6 head = O3 ((z7 d4 d7).drop g) f6 head) (fun g => [(2, .slice a_head head.length c_head), (3, .pointer (some ⟨b3, 0, none⟩)), (6, .pointer (some ⟨b6, 0, none⟩)), (12, .slice a12 (z7 d4 d7).length c12), (13, .int .i64 (↑((z7 d4 d7).length) : Int)), (14, .int .i64 (g : Int))]) (fun g => [owd tBinding I7 a12 ((z7 d4 d7).length) c12 (z7 d4 d7) g, pt b6 125 [.slice none 0 0, .slice none 0 0], pt b3 61 [.slice r5 f6.length o9, .slice o2 d4.length o1]]) (fun g => (z7 d4 d7).length - g) (0) ⟨Nat.zero_le _, by simp⟩ ⟨rfl, rfl, rfl, rfl, rfl, rfl, trivial⟩ (.refl _) (fun g pg => ?_))))))
 try dsimp only
 obtain ⟨pk, pa⟩ := pg
 refine Ew Z1 (Ey rfl ((Y.lss rfl rfl).yd) (o7 (fun q15 => ?_) (fun q15 => ?_)))
 ·refine a6y m0 om fun ab16 ae16 => (a8o (j := g) om fun ce16 => (f8 (a4X fun oa16_0 om16_0 oc16_0 oa16_1 om16_1 oc16_1 oe16 on16_0 on16_1 => ?_)))
  subst oe16
  subst on16_0
  subst on16_1
  refine f5 m0 fun _ ol16_0 => (f5 (mS m0) fun _ ol16_1 => (Eu (Eq_ (o5 rfl (i7 (Et (Eq_ (E.block (Ew Z4 (Ey rfl ((s4 us_Bindings ty_Binding rfl ae16 rfl g rfl om).yd) (Ey rfl (r9 (cs := [_, _]) ty_Binding rfl (Has.owt ae16 (mS (mS m0))) rfl) (Est rfl (N.alloc ty_Binding dc) (fun b9 _ => (Est rfl (Ns [_, _] ty_Binding rfl) (fun _ _ => (Ev Z5 (Ey rfl (r9 (cs := [_, _]) ty_Query rfl (Has.pt (mS (mS (mS (mS (mS m0)))))) rfl) (Ey rfl (r9 (cs := [_, _]) ty_Binding rfl (Has.pt m0) rfl) (Est rfl (N.call (a2C fo) rfl rfl rfl dc rfl (fun w Lp hA => ⟨hA.ro t7, hA.ro s0, hA.ow (mS m0), hA.ow (mS (mS m0))⟩)) (fun k20 _ => ?_))))))))))))))))))))
  obtain ⟨a20, m20, c20⟩ := k20
  refine f5 m0 fun e20 l20 => ?_
  subst e20
  refine Em rfl (Est rfl (n0 a1f rfl rfl rfl dc (fun w Lp hA => ⟨hA.ow m0, hA.ro hhead⟩)) (fun _ _ => (Ent.b (fun q22 => ?_) (fun q22 => ?_))))
  ·refine Eu (o5 rfl (Ew Z3 (Ey rfl (r9 (cs := [_, _]) ty_Binding rfl (Has.pt (mS m0)) rfl) (y6 (Est rfl (Ns [_, _] ty_Binding rfl) (fun _ _ => (Ei rfl (Eu (E.ret (w8 (l4 (l4 (w8 (l4 (x5 (i9 (congrArg (ow eIs [_]) (show _ = (O3 (z7 d4 d7) f6 head).2 by grind [R0, U4, V2, d1, d2, t1, t2])) (x5 (i9 (congrArg (ow eIs [_]) (show _ = (O3 (z7 d4 d7) f6 head).1 by grind [R0, U4, V2, d1, d2, t1, t2])) (f8 (f8 ?_))))))))))))))))))))
   exact a0H br rfl rfl rfl (mS (mS m0)) ty_Binding rfl ((_, _, _), (_, _, _)) trivial (by rw [show ((z7 d4 d7).any (V2 f6 head)) = (true) from (by grind [R0, U4, V2, d1, d2, t1, t2])]; try rfl) (J := _) (.refl _) (.inl rfl)
  ·refine Eu (o4 rfl (i7 (t8 (Et (Ez Z2 (Ey rfl ((Y.add rfl rfl om om).yd) (Em rfl (Eu (x5 (a4c (f8 (Ent.drop (f8 (Ent.drop (f8 (Ent.drop (f8 (Ent.drop (o6 (o6 (o6 ?_)))))))))))))))))))))
   exact Ea (g + 1) ⟨oz, (show (z7 d4 d7).any (V2 f6 head) = ((z7 d4 d7).drop (g + 1)).any (V2 f6 head) ∧ O3 (z7 d4 d7) f6 head = O3 ((z7 d4 d7).drop (g + 1)) f6 head from by grind [R0, U4, V2, d1, d2, t1, t2])⟩
 ·refine Eu (Eq_ (o4 rfl (E.exit (o3 (o3 (w3 (Et (Ew Z3 (Ey rfl ((J2 (pvs := []) (cs := [_, _]) ty_Binding pl_Binding rfl rfl).yd) (f8 (Est rfl (Ns [_, _] ty_Binding rfl) (fun _ _ => (Ei rfl (Eu (E.ret (s7 (A := []) (Own.nil (E := Enc.int) (e := tI) (a := none)) rfl (i9 (congrArg (ow eIs [_]) (show _ = (O3 (z7 d4 d7) f6 head).2 by grind [R0, U4, V2, d1, d2, t1, t2])) (s7 (A := []) (Own.nil (E := Enc.int) (e := tI) (a := none)) rfl (i9 (congrArg (ow eIs [_]) (show _ = (O3 (z7 d4 d7) f6 head).1 by grind [R0, U4, V2, d1, d2, t1, t2])) (f8 (f8 ?_)))))))))))))))))))))
  exact a0H br rfl rfl rfl (mS (mS m0)) ty_Binding rfl ((none, 0, 0), (none, 0, 0)) trivial (by rw [show ((z7 d4 d7).any (V2 f6 head)) = (false) from (by grind [R0, U4, V2, d1, d2, t1, t2])]; try rfl) (J := _) (.refl _) (.inl rfl)
theorem a2j (hqa : d4.length ≤ 4) (hqt : ∀ a ∈ d4, a.2.length ≤ 3) (hf : ∀ a ∈ d4, Few a d7) (hqh : f6.length ≤ 1048576) : Tr Tryz.prog 188 [.agg #[.slice r5 s8 o9, .slice o2 s5 o1], .slice a_facts m_facts c_facts, .slice a_head m_head c_head] (fun w L => Ro w L eIs [.slice r5 s8 o9] f6 ∧ Ro w L w9 [.slice o2 s5 o1] d4 ∧ Ro w L s9 [.slice a_facts m_facts c_facts] d7 ∧ Ro w L eIs [.slice a_head m_head c_head] head) [] (κ := (Option Addr × Nat × Nat) × (Option Addr × Nat × Nat)) (fun k => True) (fun k => .tuple #[.agg #[.slice k.1.1 k.1.2.1 k.1.2.2, .slice k.2.1 k.2.2.1 k.2.2.2], .bool ((z7 d4 d7).any (V2 f6 head))]) (fun k => [ow eIs [.slice k.1.1 k.1.2.1 k.1.2.2] ((O3 (z7 d4 d7) f6 head).1), ow eIs [.slice k.2.1 k.2.2.1 k.2.2.2] ((O3 (z7 d4 d7) f6 head).2)]) := by
 refine l0 Tryz.func188 rfl (n := 33) rfl (by decide +kernel) bl (fr := [(0, .agg #[.slice r5 s8 o9, .slice o2 s5 o1]), (1, .slice a_facts m_facts c_facts), (2, .slice a_head m_head c_head)]) rfl fun w L hR => ?_
 obtain ⟨t7, s0, hfacts, hhead⟩ := hR
 obtain ⟨rfl, I9⟩ := t7.slen
 obtain ⟨rfl, H0⟩ := s0.slen
 obtain ⟨rfl, lfacts⟩ := hfacts.slen
 obtain ⟨rfl, lhead⟩ := hhead.slen
 have jb := a9R (d7 := d7) hf hqa hqt
 refine Ew Z3 (Est rfl (N.box (cs := [_, _]) rfl dc rfl) (fun b3 _ => (Est rfl (N.alloc ty_Binding dc) (fun b6 _ => (Ei rfl (Ev Z4 (Ey rfl (r9 (cs := [_, _]) ty_Query rfl (Has.pt (mS m0)) rfl) (Em rfl (Est rfl (N.call (a8A fo fo fo) rfl rfl rfl dc rfl (fun w Lp hA => ⟨hA.ro t7, hA.ro s0, hA.ro hfacts⟩)) (fun k12 _ => ?_))))))))))
 obtain ⟨a12, m12, c12⟩ := k12
 refine f5 m0 fun e12 l12 => ?_
 subst e12
 refine a1N (A := [_]) rfl fun wb1 Lb1 hB1 hA1 => ?_
 have t7 := hA1.ro t7
 have s0 := hA1.ro s0
 have hfacts := hA1.ro hfacts
 have hhead := hA1.ro hhead
 have rb1 : Ro wb1 Lb1 B2 [.slice a12 (z7 d4 d7).length c12] (z7 d4 d7) := hA1.ow m0
 refine Ei rfl (Eu (Eq_ (Ew Z1 (Ei rfl (Eu (E.block (E.loop (κ := Nat) (fun g => g ≤ (z7 d4 d7).length ∧ (z7 d4 d7).any (V2 f6 head) = ((z7 d4 d7).drop g).any (V2 f6 head) ∧ O3 (z7 d4 d7) f6 head = O3 ((z7 d4 d7).drop g) f6 head) (fun g => [(2, .slice a_head head.length c_head), (3, .pointer (some ⟨b3, 0, none⟩)), (6, .pointer (some ⟨b6, 0, none⟩)), (8, .slice a12 (z7 d4 d7).length c12), (9, .int .i64 (g : Int))]) (fun g => [pt b6 125 [.slice none 0 0, .slice none 0 0], pt b3 61 [.slice r5 f6.length o9, .slice o2 d4.length o1]]) (fun g => (z7 d4 d7).length - g) 0 ⟨Nat.zero_le _, by simp⟩ ⟨rfl, rfl, rfl, rfl, rfl, trivial⟩ (.refl _) (fun g pg => ?_))))))))
 obtain ⟨pk, pa⟩ := pg
 refine Eq_ (Ew Z4 (Em rfl (Em rfl (Ey rfl ((Y.len us_Bindings rfl).yd) (Ey rfl ((Y.lss rfl rfl).yd) (o7 (fun q16 => ?_) (fun q16 => ?_)))))))
 ·refine Eu (o5 rfl (i7 (Et (Eq_ (E.block (Eq_ (D.region (fun j => true) mixed (Dy 0 rfl (r9 (cs := [_, _]) ty_Query rfl (Has.pt (mS m0)) rfl) (Dyp 1 rfl (o0 rfl) (Dyp 2 rfl (o0 rfl) ?_))))))))))
  obtain ⟨eb22, eo22, ec22, ea22, er22, el22, eh22⟩ := rb1.elem g om
  obtain ⟨xa22_0, xc22_0, xa22_1, xc22_1, rfl, xh22_0, xh22_1⟩ := a2L er22
  have := xh22_0.slen.2
  have := xh22_1.slen.2
  refine Dyp 3 rfl (s4 us_Bindings ty_Binding rfl ea22 rfl g rfl om) (Dy 4 rfl (r9 (cs := [_, _]) ty_Binding rfl (eh22 _) rfl) (Dyp 6 rfl (o0 rfl) (t6 5 rfl rfl kr (fun _ => rfl) (N.call (a3P fo) rfl rfl rfl dc rfl (fun w Lp hA => ⟨hA.ro t7, hA.ro s0, hA.ro xh22_0, hA.ro xh22_1⟩)) (fun k24 _ => ?_))))
  obtain ⟨a24, m24, c24⟩ := k24
  refine f5 m0 fun e24 l24 => ?_
  subst e24
  refine t6 7 rfl rfl kr (fun _ => rfl) (n0 a4u rfl rfl rfl dc (fun w Lp hA => ⟨hA.ow m0, hA.ro hhead⟩)) (fun _ _ => (Ent.b (fun q26 => ?_) (fun q26 => ?_)))
  ·refine s3 kr (Et (o5 rfl (Ew Z7 (Em rfl (Em rfl (Ey rfl ((s4 us_Bindings ty_Binding rfl ea22 rfl g rfl om).yd) (Ey rfl (r9 (cs := [_, _]) ty_Binding rfl (eh22 _) rfl) (Est rfl (N.call (a6O (Nat.le_trans (jb.2 _ (List.getElem_mem om)).1 dc) (Nat.le_trans (jb.2 _ (List.getElem_mem om)).2 dc)) rfl rfl rfl dc rfl (fun w Lp hA => ⟨hA.ro xh22_0, hA.ro xh22_1⟩)) (fun k31 _ => ?_)))))))))
   obtain ⟨⟨a31_0, m31_0, c31_0⟩, ⟨a31_1, m31_1, c31_1⟩⟩ := k31
   refine f5 m0 fun e31_0 l31_0 => ?_
   subst e31_0
   refine f5 (mS m0) fun e31_1 l31_1 => ?_
   subst e31_1
   refine v7 (Est rfl (Ns [_, _] ty_Binding rfl) (fun _ _ => (Ei rfl (Eu (E.ret (w8 (l4 (l4 (w8 (l4 (o6 (i9 (congrArg (ow eIs [_]) (show _ = (O3 (z7 d4 d7) f6 head).2 by grind [R0, U4, V2, d1, d2, t1, t2])) (o6 (i9 (congrArg (ow eIs [_]) (show _ = (O3 (z7 d4 d7) f6 head).1 by grind [R0, U4, V2, d1, d2, t1, t2])) (f8 (f8 ?_))))))))))))))))
   exact a0H hB1 rfl rfl rfl (mS (mS m0)) ty_Binding rfl ((_, _, _), (_, _, _)) trivial (by rw [show ((z7 d4 d7).any (V2 f6 head)) = (true) from (by grind [R0, U4, V2, d1, d2, t1, t2])]; try rfl) (J := _) (.refl _) (.inl rfl)
  ·refine s3 kr (Et (o4 rfl (i7 (t8 (Et (Ez Z3 (Em rfl (Ey rfl ((Y.add rfl rfl om om).yd) (Ei rfl (Eu (Ent.drop (f8 (f8 ?_)))))))))))))
   exact w4 br (g + 1) rs (.refl _) ⟨by omega, by grind [R0, U4, V2, d1, d2, t1, t2]⟩ om
 ·refine Eu (o4 rfl (E.exit (o3 (o3 (w3 (Et (Ew Z3 (Ey rfl ((J2 (pvs := []) (cs := [_, _]) ty_Binding pl_Binding rfl rfl).yd) (Est rfl (Ns [_, _] ty_Binding rfl) (fun _ _ => (Ei rfl (Eu (E.ret (s7 (A := []) (Own.nil (E := Enc.int) (e := tI) (a := none)) rfl (i9 (congrArg (ow eIs [_]) (show _ = (O3 (z7 d4 d7) f6 head).2 by grind [R0, U4, V2, d1, d2, t1, t2])) (s7 (A := []) (Own.nil (E := Enc.int) (e := tI) (a := none)) rfl (i9 (congrArg (ow eIs [_]) (show _ = (O3 (z7 d4 d7) f6 head).1 by grind [R0, U4, V2, d1, d2, t1, t2])) (f8 (f8 ?_)))))))))))))))))))
  exact a0H hB1 rfl rfl rfl (mS (mS m0)) ty_Binding rfl ((none, 0, 0), (none, 0, 0)) trivial (by rw [show ((z7 d4 d7).any (V2 f6 head)) = (false) from (by grind [R0, U4, V2, d1, d2, t1, t2])]; try rfl) (J := _) (.refl _) (.inl rfl)
theorem a6M {rel : Int} {a_terms : Option Addr} {m_terms c_terms : Nat} {terms : List Int} (hz : terms.length ≤ 1048576) : Tr Tryz.prog 144 [.int .i64 rel, .slice a_terms m_terms c_terms] (fun w L => I64 rel ∧ Ro w L eIs [.slice a_terms m_terms c_terms] terms) [] (κ := Option Addr × Nat × Nat) (fun k => True) (fun k => .agg #[.int .i64 rel, .slice k.1 k.2.1 k.2.2]) (fun k => [ow eIs [.slice k.1 k.2.1 k.2.2] terms]) := by
 refine l0 Tryz.func144 rfl (n := 10) rfl (by decide +kernel) bl (fr := [(0, .int .i64 rel), (1, .slice a_terms m_terms c_terms)]) rfl fun w L hR => ?_
 obtain ⟨i6rel, hterms⟩ := hR
 obtain ⟨rfl, lterms⟩ := hterms.slen
 refine Ew Z1 (Est rfl (N.alloc ty_Atom dc) (fun b4 _ => (Ev Z6 (Em rfl (Est rfl (Nb [] [] us_Is i8 rfl rfl) (fun b6 _ => (Ent.drop (Em rfl (Est rfl (K7 (E := Enc.int) Plain.int us_Is i8 rfl rfl rfl hterms bn bn dc) (fun p8 _ => (Ey rfl ((J2 (pvs := [_, _]) (cs := [_, _]) ty_Atom b1B rfl rfl).yd) (f8 (Est rfl (Ns [_, _] ty_Atom rfl) (fun _ _ => (Eu (E.ret (f8 ?_)))))))))))))))))
 exact a1L br rfl rfl (mS m0) ty_Atom rfl (_, _, _) trivial rfl (J := _) (.refl _) (.inl rfl)
theorem a4s (hqh : f6.length ≤ 1048576) (hqn : d4.length ≤ 1048576) (hqt : ∀ a ∈ d4, a.2.length ≤ 1048576) : Tr Tryz.prog 218 [.agg #[.slice r5 s8 o9, .slice o2 s5 o1]] (fun w L => Ro w L eIs [.slice r5 s8 o9] f6 ∧ Ro w L w9 [.slice o2 s5 o1] d4) [] (κ := (Option Addr × Nat × Nat) × (Option Addr × Nat × Nat)) (fun k => True) (fun k => .agg #[.slice k.1.1 k.1.2.1 k.1.2.2, .slice k.2.1 k.2.2.1 k.2.2.2]) (fun k => [ow eIs [.slice k.1.1 k.1.2.1 k.1.2.2] f6, ow w9 [.slice k.2.1 k.2.2.1 k.2.2.2] d4]) := by
 refine l0 Tryz.func218 rfl (n := 36) rfl (by decide +kernel) bl (fr := [(0, .agg #[.slice r5 s8 o9, .slice o2 s5 o1])]) rfl fun w L hR => ?_
 obtain ⟨t7, s0⟩ := hR
 obtain ⟨rfl, I9⟩ := t7.slen
 obtain ⟨rfl, H0⟩ := s0.slen
 have jv := s0.i64A
 refine Ew Z2 (Est rfl (N.box (cs := [_, _]) rfl dc rfl) (fun b1 _ => (Est rfl (N.alloc ty_Query dc) (fun b2 _ => (Ev Z7 (Est rfl (Nb [] [] us_Is i8 rfl rfl) (fun b5 _ => (Ent.drop (Ey rfl ((j6 fo_Query_0 ty_Is dc rfl).yd) (Ey rfl (g9 ty_Is rfl (Hz (mS m0) 0 rfl) rfl) (Est rfl (K7 (E := Enc.int) Plain.int us_Is i8 rfl rfl rfl t7 bn bn dc) (fun p8 _ => (Ey rfl ((J2 (pvs := [_]) (cs := [_, _]) ty_Query a3Y rfl rfl).yd) (Est rfl (N.alloc ty_Query dc) (fun b3 _ => (Est rfl (Ns [_, _] ty_Query rfl) (fun _ _ => (Eu (Eq_ (Ew Z1 (Ei rfl (Eu (E.block (s7 (A := []) (Own.nil (E := W7) (e := tAtom) (a := none)) rfl (i9 (congrArg (ow w9 [_]) (show [] = d4.take 0 from by first | rfl | (simp; done) | grind [d1, d2, t1, t2])) (E.loop (κ := Nat × Option Addr × Nat × Nat) (fun g => g.1 ≤ d4.length ∧ True) (fun g => [(1, .pointer (some ⟨b1, 0, none⟩)), (2, .pointer (some ⟨b2, 0, none⟩)), (3, .pointer (some ⟨b3, 0, none⟩)), (4, .int .i64 (↑g.1 : Int))]) (fun g => [ow w9 [.slice g.2.1 g.2.2.1 g.2.2.2] (d4.take g.1), pt b3 61 [.slice p8.1 f6.length p8.2, .slice g.2.1 g.2.2.1 g.2.2.2], ow eIs [.slice p8.1 f6.length p8.2] f6, pt b2 61 [.slice none 0 0, .slice none 0 0], pt b1 61 [.slice r5 f6.length o9, .slice o2 d4.length o1]]) (fun g => d4.length - g.1) (0, none, 0, 0) ⟨Nat.zero_le _, by simp⟩ ⟨rfl, rfl, rfl, rfl, trivial⟩ (.refl _) (fun g pg => ?_)))))))))))))))))))))))))))
 obtain ⟨g, aA0_0, mA0_0, cA0_0⟩ := g
 try dsimp only at pg
 try dsimp only
 obtain ⟨pk, pa⟩ := pg
 refine f5 m0 fun eaA0_0 laA0_0 => ?_
 subst eaA0_0
 refine Eq_ (Ew Z5 (Em rfl (Ey rfl ((j6 fo_Query_1 ty_Atoms dc rfl).yd) (Ey rfl (g9 ty_Atoms rfl (Hz (mS (mS (mS (mS m0)))) 1 rfl) rfl) (Ey rfl ((Y.len us_Atoms rfl).yd) (Ey rfl ((Y.lss rfl rfl).yd) (o7 (fun q14 => ?_) (fun q14 => ?_))))))))
 ·refine Eu (o5 rfl (i7 (Et (Eq_ (E.block (D.region (fun j => !(Nat.beq j 16) && !(Nat.beq j 18)) mixed (Dyp 0 rfl (j6 fo_Query_1 ty_Atoms dc rfl) (Dy 1 rfl (g9 ty_Atoms rfl (Hz (mS m0) 1 rfl) rfl) (Dyp 2 rfl (j6 fo_Query_1 ty_Atoms dc rfl) (Dy 3 rfl (g9 ty_Atoms rfl (Hz (mS (mS (mS (mS m0)))) 1 rfl) rfl) (Dyp 4 rfl (o0 rfl) ?_)))))))))))
  obtain ⟨eb22, eo22, ec22, ea22, er22, el22, eh22⟩ := s0.elem g om
  obtain ⟨xa22_0, xc22_0, rfl, ei22_0, xh22_0⟩ := J6 er22
  have := xh22_0.slen.2
  refine Dyp 5 rfl (s4 us_Atoms ty_Atom rfl ea22 rfl g rfl om) (Dyp 6 rfl (j6 fo_Atom_0 i8 dc rfl) (Dy 7 rfl (g9 i8 rfl ((eh22 _).sub (cs' := [_]) 0 rfl) rfl) (Dyp 8 rfl (j6 fo_Query_1 ty_Atoms dc rfl) (Dy 9 rfl (g9 ty_Atoms rfl (Hz (mS (mS (mS (mS m0)))) 1 rfl) rfl) (Dyp 10 rfl (o0 rfl) (Dyp 11 rfl (s4 us_Atoms ty_Atom rfl ea22 rfl g rfl om) (Dyp 12 rfl (j6 fo_Atom_1 ty_Is dc rfl) (Dy 13 rfl (g9 ty_Is rfl ((eh22 _).sub (cs' := [_]) 1 rfl) rfl) (t6 14 rfl rfl kr (fun _ => rfl) (N.call (a6M (hqt _ (List.getElem_mem om))) rfl rfl rfl dc rfl (fun w Lp hA => ⟨ei22_0, hA.ro xh22_0⟩)) (fun k31 _ => ?_))))))))))
  obtain ⟨a31, m31, c31⟩ := k31
  refine f5 m0 fun e31 l31 => ?_
  subst e31
  refine t6 15 rfl rfl kr (fun _ => rfl) (Nb [_] [_, _] us_Atoms ty_Atom rfl rfl) (fun b32 _ => (f8 (f8 (o6 (t6 16 rfl rfl kr (fun h => by cases h) (B1 (E := W7) (ex := d4[g]) us_Atoms ty_Atom rfl rfl rfl (a1c (x := d4[g]) ei22_0 Own.ow) rfl bn bn dc) (fun p33 _ => (Dyp 17 rfl (j6 fo_Query_1 ty_Atoms dc rfl) (f8 (t6 18 rfl rfl kr (fun h => by cases h) (Ns [_, _] ty_Atoms rfl) (fun _ _ => (s3 kr (t8 (Et (Ez Z3 (Em rfl (Ey rfl ((Y.add rfl rfl om om).yd) (Ei rfl (Eu (f8 (i9 (congrArg (ow w9 [_]) (show (d4.take g) ++ [d4[g]] = d4.take (g + 1) from by grind [d1, d2, t1, t2])) (x5 (x5 (x5 (x5 (x5 ?_)))))))))))))))))))))))))
  exact Ea (g + 1, p33.1, ((d4.take g).length + 1), p33.2) ⟨oz, trivial⟩
 ·refine Eu (o4 rfl (E.exit (o3 (o3 (w3 (Et (Ew Z2 (Ey rfl (r9 (cs := [_, _]) ty_Query rfl (Has.pt (mS m0)) rfl) (v7 (Est rfl (Ns [_, _] ty_Query rfl) (fun _ _ => (Eu (E.ret (f8 (i9 (congrArg (ow w9 [_]) (show _ = d4 by grind [d1, d2, t1, t2])) (v7 (f8 (f8 ?_))))))))))))))))))
  exact a1L br rfl rfl (mS (mS m0)) ty_Query rfl ((_, _, _), (_, _, _)) trivial rfl (J := _) (.refl _) (.inl rfl)
theorem a5A {a_s : Option Addr} {m_s c_s : Nat} {s : List Int} {n : Int} (hs : s = []) (hc : c_s = 0) (hn : 0 ≤ n ∧ n ≤ 1048576) : Tr Tryz.prog 313 [.slice a_s m_s c_s, .int .i64 n] (fun w L => True) [ow eIs [.slice a_s m_s c_s] s] (κ := Option Addr × Nat × Nat) (fun k => True) (fun k => .slice k.1 k.2.1 k.2.2) (fun k => [ow eIs [.slice k.1 k.2.1 k.2.2] s]) := by
 refine l0 Tryz.func313 rfl (n := 27) rfl (by decide +kernel) bl (fr := [(0, .slice a_s m_s c_s), (1, .int .i64 n)]) rfl fun w L hR => (f5 m0 fun es ls => ?_)
 subst es
 refine a4g fun cs hcs => ?_
 replace hcs : cs.length = s.length * 1 := hcs
 show Ent _ _ _ _ (row tI 1 a_s s.length c_s cs :: _) _
 refine a2r (mS m0) fun h1s => (a4a m0 fun hms => ?_)
 have hs0 : s.length = 0 := by simp [hs]
 refine Ew Z1 (Ei rfl (Eu (Eq_ (Ew Z2 (Em rfl (Ey rfl ((Y.lss rfl rfl).yd) (o7 (fun q6 => ?_) (fun q6 => ?_))))))))
 ·exact absurd q6 om
 ·refine Eu (o4 rfl (i7 (Et (Eq_ (Ew Z8 (Em rfl (Em rfl (Ey rfl ((Y.cap us_Is rfl).yd) (Em rfl (Ey rfl ((Y.len us_Is rfl).yd) (Ey rfl ((Y.sub rfl rfl om om).yd) (Ey rfl ((Y.sub rfl rfl om om).yd) (Ei rfl (Ev Z2 (Em rfl (Ey rfl ((Y.gtr rfl rfl).yd) (o7 (fun q16 => ?_) (fun q16 => ?_))))))))))))))))))
  ·refine Eu (o5 rfl (Ez Z10 (Em rfl (Em rfl (Ey rfl ((Y.cap us_Is rfl).yd) (Ey rfl ((a3y (h := c_s) us_Is i8 rfl rfl om).yd) (Em rfl (Est rfl (b4n (zn := n.toNat) us_Is kr i8 dc rfl rfl om om om m0 om om om dc) (fun p22 hp22 => ?_)))))))))
   obtain ⟨pb22, pc22, pz22⟩ := p22
   obtain ⟨hp22, hq22⟩ := hp22
   dsimp only at hp22 hq22
   refine Em rfl (Ey rfl ((Y.len us_Is rfl).yd) (Ey rfl ((a3y (h := s.length) us_Is i8 rfl rfl om).yd) (Ei rfl (Ev Z2 (Em rfl (Ei rfl (Eu (E.ret (Ent.shr (m' := s.length) om (i9 (congrArg (row tI 1 (some ⟨pb22, 0, none⟩) s.length pc22) (show _ = cs from (List.eq_nil_of_length_eq_zero (by simp [hs0])).trans (List.eq_nil_of_length_eq_zero (by simp [hcs, hs0])).symm)) (o6 (f8 (a1u (E := Enc.int) rfl mx ?_)))))))))))))
   exact Fg rfl rfl (_, _, _) rfl rfl
  ·refine Eu (o4 rfl (i7 (Et (Ew Z2 (Em rfl (Ei rfl (Eu (E.ret (f8 (f8 (a1u (E := Enc.int) rfl mx ?_)))))))))))
   exact Fg rfl rfl (_, _, _) rfl rfl
theorem T4 {a_l : Option Addr} {m_l c_l : Nat} {l : List (List Int)} (hz : a0l l ≤ 1048576) : Tr Tryz.prog 279 [.slice a_l m_l c_l] (fun w L => Ro w L E7 [.slice a_l m_l c_l] l) [] (κ := Option Addr × Nat × Nat) (fun k => True) (fun k => .slice k.1 k.2.1 k.2.2) (fun k => [ow eIs [.slice k.1 k.2.1 k.2.2] l.flatten]) := by
 refine l0 Tryz.func279 rfl (n := 36) rfl (by decide +kernel) bl (fr := [(0, .slice a_l m_l c_l)]) rfl fun w L hR => ?_
 have hl := hR
 obtain ⟨rfl, ll⟩ := hl.slen
 refine Ew Z1 (Ei rfl (Ev Z1 (Ei rfl (Eu (Eq_ (Ew Z3 (Em rfl (Ey rfl ((Y.len us_Iss rfl).yd) (Em rfl (Eu (E.block (E.loop (κ := Nat) (fun g => g ≤ l.length ∧ True) (fun g => [(0, .slice a_l l.length c_l), (3, .int .i64 (↑(a0l (l.take g)) : Int)), (9, .slice a_l l.length c_l), (10, .int .i64 (↑l.length : Int)), (11, .int .i64 (g : Int))]) (fun g => []) (fun g => l.length - g) (0) ⟨Nat.zero_le _, by simp⟩ ⟨rfl, frI (by first | rfl | (simp; done) | grind [a2d, a4S, d1, d2, t1, t2]), rfl, rfl, rfl, trivial⟩ (.refl _) (fun g pg => ?_)))))))))))))
 try dsimp only
 obtain ⟨pk, pa⟩ := pg
 have js := a5m (l := l) (g := g)
 have js1 := a5m (l := l) (g := g + 1)
 refine Ew Z1 (Ey rfl ((Y.lss rfl rfl).yd) (o7 (fun q12 => ?_) (fun q12 => ?_)))
 ·have jk0 : a0l (l.take (g + 1)) = a0l (l.take g) + l[g].length := by rw [List.take_succ_eq_append_getElem om, a2d]
  obtain ⟨eb13, eo13, ec13, ea13, er13, el13, eh13⟩ := hl.elem g om
  obtain ⟨xa13, xc13, rfl⟩ := er13.sl
  have := er13.slen.2
  refine Eu (Eq_ (o5 rfl (i7 (Et (Eq_ (E.block (Ew Z3 (Ey rfl ((s4 us_Iss ty_Is rfl ea13 rfl g rfl om).yd) (Ey rfl (g9 ty_Is rfl (eh13 _) rfl) (Ei rfl (Ev Z5 (Em rfl (Em rfl (Ey rfl ((Y.len us_Is rfl).yd) (Ey rfl ((Y.add rfl rfl om om).yd) (Ei rfl (Ev Z2 (Em rfl (Ey rfl ((Y.lss rfl rfl).yd) (o7 (fun q20 => ?_) (fun q20 => ?_)))))))))))))))))))))
  ·exact absurd q20 om
  ·refine Eu (o4 rfl (i7 (t8 (Et (Ez Z2 (Ey rfl ((Y.add rfl rfl om om).yd) (Em rfl ?_)))))))
   exact Eu (w4 br (g + 1) ⟨rfl, frI (by grind [a2d, a4S, d1, d2, t1, t2]), rfl, rfl, rfl, trivial⟩ (.refl _) ⟨oz, trivial⟩ oz)
 ·refine Eu (Eq_ (o4 rfl (E.exit (o3 (o3 (w3 (Et (Ew Z3 (Em rfl (s7 (A := []) (Own.nil (E := Enc.int) (e := tI) (a := none)) rfl (Est rfl (N.call (pre := [_]) (a5A rfl rfl om) rfl rfl rfl dc rfl tv) (fun k24 _ => ?_))))))))))))
  obtain ⟨a24, m24, c24⟩ := k24
  refine f5 m0 fun e24 l24 => ?_
  subst e24
  refine Ei rfl (Eu (Eq_ (Ew Z3 (Em rfl (Ey rfl ((Y.len us_Iss rfl).yd) (Em rfl (Eu (E.block (i9 (congrArg (ow eIs [_]) (show ([]) = (l.take 0).flatten from by first | rfl | (simp; done) | grind [a2d, a4S, d1, d2, t1, t2])) (E.loop (κ := Nat × Option Addr × Nat × Nat) (fun r => r.1 ≤ l.length ∧ True) (fun r => [(6, .slice r.2.1 r.2.2.1 r.2.2.2), (25, .slice a_l l.length c_l), (26, .int .i64 (↑l.length : Int)), (27, .int .i64 (↑r.1 : Int))]) (fun r => [ow eIs [.slice r.2.1 r.2.2.1 r.2.2.2] ((l.take r.1).flatten)]) (fun r => l.length - r.1) (0, a24, (([])).length, c24) ⟨Nat.zero_le _, by simp⟩ ⟨rfl, rfl, rfl, rfl, trivial⟩ (.refl _) (fun r pr => ?_)))))))))))
  obtain ⟨r, aA1_0, mA1_0, cA1_0⟩ := r
  try dsimp only at pr
  try dsimp only
  obtain ⟨pk, pa⟩ := pr
  have jt := a5m (l := l) (g := r)
  have ju := b4E (l := l.take r)
  have jt1 := a5m (l := l) (g := r + 1)
  refine f5 m0 fun eaA1_0 laA1_0 => ?_
  subst eaA1_0
  refine Ew Z1 (Ey rfl ((Y.lss rfl rfl).yd) (o7 (fun q28 => ?_) (fun q28 => ?_)))
  ·have jk : a0l (l.take (r + 1)) = a0l (l.take r) + l[r].length := by rw [List.take_succ_eq_append_getElem om, a2d]
   obtain ⟨eb29, eo29, ec29, ea29, er29, el29, eh29⟩ := hl.elem r om
   obtain ⟨xa29, xc29, rfl⟩ := er29.sl
   have := er29.slen.2
   refine Eu (Eq_ (o5 rfl (i7 (Et (Eq_ (E.block (Ew Z3 (Ey rfl ((s4 us_Iss ty_Is rfl ea29 rfl r rfl om).yd) (Ey rfl (g9 ty_Is rfl (eh29 _) rfl) (Ei rfl (Eu (Ez Z4 (Em rfl (Em rfl (Est rfl (b5v (E := Enc.int) Plain.int us_Is i8 rfl rfl rfl er29 rfl bn bn dc) (fun p33 _ => (Ei rfl (En (t8 (Et (Ez Z2 (Ey rfl ((Y.add rfl rfl om om).yd) (Em rfl (Eu (i9 (congrArg (ow eIs [_]) (show ((l.take r).flatten) ++ l[r] = (l.take (r + 1)).flatten from by grind [a2d, a4S, d1, d2, t1, t2])) ?_)))))))))))))))))))))))))
   exact Ea (r + 1, p33.1, (((l.take r).flatten).length + l[r].length), p33.2) ⟨oz, trivial⟩
  ·refine Eu (Eq_ (o4 rfl (E.exit (o3 (o3 (w3 (Et (Ew Z2 (Em rfl (Ei rfl (Eu (E.ret (i9 (congrArg (ow eIs [_]) (show _ = l.flatten by grind [a2d, a4S, d1, d2, t1, t2])) ?_)))))))))))))
   exact Fg rfl rfl (_, _, _) rfl rfl
end Go.Proofs.YtdopeopehgdccaaGreat
end
