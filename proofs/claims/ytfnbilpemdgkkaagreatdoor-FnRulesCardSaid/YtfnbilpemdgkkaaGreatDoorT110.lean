import Derived.Test.YtfnbilpemdgkkaaGreatDoorGq
namespace Go.Proofs.YtfnbilpemdgkkaaGreatDoor
open Go.RowKit
set_option linter.all false
set_option maxHeartbeats 2000000
attribute [local irreducible] Nop Yd Yp Ent Has Tr FnP FnP2 Src J1 P8 U7 W9 E0
variable {ps pr : Value}
theorem U4 {s : List UInt8} {ts tr : TypeId} (hs : s.length ≤ 2000000) : Tr Tryz.prog 106 [y5 s] (fun w L => RoPt w L a0C a1V ∧ RoPt w L gES [.iface ts ps] ∧ RoPt w L gER [.iface tr pr]) [] (κ := Unit) (fun k => True) (fun k => .tuple #[.int .i64 (H1 s), .bool ((pI s).isSome)]) (fun k => []) := by
 refine f8 Tryz.func106 rfl (n := 25) rfl (by decide +kernel) bl (fr := [(0, y5 s)]) rfl fun w L hR => ?_
 obtain ⟨htab, hes, her⟩ := hR
 have jI := b2p (s := s)
 unfold I64 at jI
 refine Ew Z2 (Ei rfl (Ei rfl (Ev Z7 (Em rfl (Est rfl (N.call (b2T om) rfl rfl rfl dc rfl (fun w Lp hA => ⟨hA.rop hes, hA.rop her⟩)) (fun k8 _ => (Em rfl (Ey rfl ((Y.ext rfl rfl).yd) (Ey rfl ((Y.ext rfl rfl).yd) (Ei rfl (Ei rfl (Eu (Eq_ (Ew Z13 (Em rfl (Ey rfl ((b3P kr rfl).yd) (r5 (fun q12 => ?_) (fun q12 => ?_))))))))))))))))))
 ·refine Em rfl (Es rfl (Es rfl (Es rfl (Ey rfl ((o0 rfl rfl).yd) (Em rfl (Es rfl (Es rfl (Es rfl (Es rfl (Ey rfl ((o0 rfl rfl).yd) (Eu (l3 rfl (Ew Z2 (Ei rfl (Ei rfl ?_)))))))))))))))
  exact Eu (E.ret (j0 (S2 br rfl rfl rfl () trivial (by rw [show (H1 s) = (0) from (by simp [H1, a9i q12])]; rw [show ((pI s).isSome) = (false) from (by simp [H1, a9i q12])]; try rfl) (J := _) (.refl _) (.inl rfl))))
 ·refine Em rfl (Em rfl (Est rfl (f5 G0 rfl rfl rfl dc tv) (fun _ _ => (r5 (fun q15 => ?_) (fun q15 => ?_)))))
  ·refine Ey rfl ((Y.not (b := true) rfl).yd) (Ey rfl ((o6 rfl rfl).yd) (Em rfl (Em rfl (Est rfl (f5 a2i rfl rfl rfl dc (fun w Lp hA => ⟨i6, hA.rop htab⟩)) (fun _ _ => (Em rfl (Ey rfl ((b0p rfl rfl).yd) (j8 (fun q22 => ?_) (fun q22 => ?_)))))))))
   ·refine Ey rfl ((o6 rfl rfl).yd) (Eu (l3 rfl (Ew Z2 (Ei rfl (Ei rfl ?_)))))
    exact Eu (E.ret (j0 (S2 br rfl rfl rfl () trivial (by rw [show (H1 s) = (0) from (by simp [H1, a9P q12 q22])]; rw [show ((pI s).isSome) = (false) from (by simp [H1, a9P q12 q22])]; try rfl) (J := _) (.refl _) (.inl rfl))))
   ·refine Ey rfl ((o6 rfl rfl).yd) (Eu (l4 rfl (d9 (Et (Ew Z3 (Em rfl (Ei rfl (Ei rfl ?_))))))))
    exact Eu (E.ret (S2 br rfl rfl rfl () trivial (by rw [show (H1 s) = ((atV s)) from (by simp [H1, a9j q12 q15 q22])]; rw [show ((pI s).isSome) = (true) from (by simp [H1, a9j q12 q15 q22])]; try rfl) (J := _) (.refl _) (.inl rfl)))
  ·refine Ey rfl ((Y.not (b := false) rfl).yd) (Ey rfl ((o6 rfl rfl).yd) (Em rfl (Es rfl (Es rfl (Es rfl (Es rfl (Ey rfl ((o0 rfl rfl).yd) (Eu (l3 rfl (Ew Z2 (Ei rfl (Ei rfl ?_))))))))))))
   exact Eu (E.ret (j0 (S2 br rfl rfl rfl () trivial (by rw [show (H1 s) = (0) from (by simp [H1, a9m q12 q15])]; rw [show ((pI s).isSome) = (false) from (by simp [H1, a9m q12 q15])]; try rfl) (J := _) (.refl _) (.inl rfl))))
theorem a4j {a_words : Option Addr} {m_words c_words : Nat} {words : List (List UInt8)} {ts tr : TypeId} (hz : words.length ≤ 2000001) (hw : ∀ x ∈ words, x.length ≤ 2000000) : Tr Tryz.prog 108 [.slice a_words m_words c_words] (fun w L => Ro w L eSs [.slice a_words m_words c_words] words ∧ RoPt w L a0C a1V ∧ RoPt w L gES [.iface ts ps] ∧ RoPt w L gER [.iface tr pr]) [] (κ := Option Addr × Nat × Nat) (fun k => True) (fun k => .tuple #[.slice k.1 k.2.1 k.2.2, .bool ((words.mapM pI).isSome)]) (fun k => [ow eIs [.slice k.1 k.2.1 k.2.2] (I9 words)]) := by
 refine f8 Tryz.func108 rfl (n := 29) rfl (by decide +kernel) bl (fr := [(0, .slice a_words m_words c_words)]) rfl fun w L hR => ?_
 obtain ⟨hwords, htab, hes, her⟩ := hR
 obtain ⟨rfl, lwords⟩ := hwords.slen
 refine Ew Z2 (Ei rfl (Ei rfl (Ev Z2 (Est rfl (Nb [] [] us_Is f4 rfl rfl) (fun b9 _ => (Ent.drop (Ei rfl (Eu (Eq_ (Ew Z3 (Em rfl (Ey rfl ((Y.len us_Ss rfl).yd) (Em rfl (Eu (E.block (o1 (A := []) (Own.nil (E := Enc.int) (e := tI) (a := (some ⟨b9, 0, none⟩))) rfl (f9 (congrArg (ow eIs [_]) (show [] = I9 (words.take 0) from by rfl)) (E.loop (κ := Nat × Option Addr × Nat × Nat) (fun g => g.1 ≤ words.length ∧ ((words.take g.1).mapM pI).isSome = true) (fun g => [(4, .slice g.2.1 g.2.2.1 g.2.2.2), (10, .slice a_words words.length c_words), (11, .int .i64 (↑words.length : Int)), (12, .int .i64 (↑g.1 : Int))]) (fun g => [ow eIs [.slice g.2.1 g.2.2.1 g.2.2.2] (I9 (words.take g.1))]) (fun g => words.length - g.1) (0, (some ⟨b9, 0, none⟩), 0, 0) ⟨Nat.zero_le _, by simp⟩ ⟨rfl, rfl, rfl, rfl, trivial⟩ (.refl _) (fun g pg => ?_)))))))))))))))))))
 obtain ⟨g, aA0_0, mA0_0, cA0_0⟩ := g
 try dsimp only at pg
 try dsimp only
 obtain ⟨pk, pa⟩ := pg
 have jt := List.length_take_le g words
 have jl := a9V (l := words.take g)
 refine d8 m0 fun eaA0_0 laA0_0 => ?_
 subst eaA0_0
 refine Ew Z1 (Ey rfl ((Y.lss rfl rfl).yd) (j8 (fun q13 => ?_) (fun q13 => ?_)))
 ·obtain ⟨eb14, eo14, ea14, eh14⟩ := hwords.elemS g om
  refine Eu (Eq_ (l3 rfl (d9 (Et (Eq_ (E.block (Ew Z3 (Ey rfl ((r8 us_Ss ty_S rfl ea14 rfl g rfl om).yd) (Ey rfl (f7 ty_S rfl (eh14 _) rfl) (Ei rfl (Ev Z7 (Em rfl (Est rfl (f5 (U4 (hw _ (List.getElem_mem om))) rfl rfl rfl dc (fun w Lp hA => ⟨hA.rop htab, hA.rop hes, hA.rop her⟩)) (fun _ _ => (Em rfl (Ey rfl ((Y.ext rfl rfl).yd) (Ey rfl ((Y.ext rfl rfl).yd) (Ei rfl (Ei rfl (r5 (fun q8 => ?_) (fun q8 => ?_)))))))))))))))))))))
  ·have jn := a4v (s := words[g])
   refine Eu (Eq_ (Ew Z2 (Em rfl (Ey rfl ((Y.not (b := true) rfl).yd) (Eu (l4 rfl (d9 (Et (Ez Z5 (Em rfl (Em rfl (Est rfl (Nb [_] [_] us_Is f4 rfl rfl) (fun b25 _ => (d7 (Est rfl (N.push (E := Enc.int) (ex := H1 words[g]) us_Is f4 rfl rfl rfl (Own.int i6) rfl bn bn dc) (fun p26 _ => (Ei rfl (En (o2 (Et (Ez Z2 (Ey rfl ((Y.add rfl rfl om om).yd) (Em rfl (Eu (f9 (congrArg (ow eIs [_]) (show (I9 (words.take g)) ++ [H1 words[g]] = I9 (words.take (g + 1)) from by rw [(b2b om pa q8).2])) ?_)))))))))))))))))))))))))
   exact Ea (g + 1, p26.1, ((I9 (words.take g)).length + 1), p26.2) ⟨oz, (show ((words.take (g + 1)).mapM pI).isSome = true from by exact (b2b om pa q8).1)⟩
  ·refine Eu (Eq_ (Ew Z2 (Em rfl (Ey rfl ((Y.not (b := false) rfl).yd) (Eu (l3 rfl (Ew Z2 (Ei rfl (Ei rfl (Eu (E.ret (j0 (w8 (j0 (j0 (w8 (j0 (o1 (A := []) (Own.nil (E := Enc.int) (e := tI) (a := none)) rfl (f9 (congrArg (ow eIs [_]) (show _ = I9 words by simp [I9, a9x om q8])) ?_)))))))))))))))))))
   exact S2 br rfl rfl rfl (none, 0, 0) trivial (by rw [show ((words.mapM pI).isSome) = (false) from (by simp [I9, a9x om q8])]; try rfl) (J := _) (.refl _) (.inl rfl)
 ·refine Eu (Eq_ (l4 rfl (E.exit (n8 (n8 (w7 (Et (Ew Z3 (Em rfl (Ei rfl (Ei rfl (Eu (E.ret (f9 (congrArg (ow eIs [_]) (show _ = I9 words by first | exact a7Q om pa | (rw [a6q om]))) ?_))))))))))))))
  exact S2 br rfl rfl rfl (_, _, _) trivial (by rw [show ((words.mapM pI).isSome) = (true) from (by first | exact a7Q om pa | (rw [a6q om]))]; try rfl) (J := _) (.refl _) (.inl rfl)
theorem a3s {a_s : Option Addr} {m_s c_s : Nat} {s : List Int} {text : List UInt8} {ts tr : TypeId} {mx : Int} (htx : text.length ≤ 1048576) : Tr Tryz.prog 47 [.slice a_s m_s c_s, y5 text] (fun w L => Ro w L eIs [.slice a_s m_s c_s] s ∧ RoPt w L a0C a1V ∧ RoPt w L gES [.iface ts ps] ∧ RoPt w L gER [.iface tr pr] ∧ RoPt w L a4S [.int .i64 mx]) [] (κ := Option Addr × Nat × Nat) (fun k => True) (fun k => .tuple #[.agg #[.int .i64 (((y7 s text).1).1), .int .i64 (((y7 s text).1).2.1), .slice k.1 k.2.1 k.2.2], .bool ((y7 s text).2)]) (fun k => [ow eIs [.slice k.1 k.2.1 k.2.2] (((y7 s text).1).2.2)]) := by
 refine f8 Tryz.func47 rfl (n := 54) rfl (by decide +kernel) bl (fr := [(0, .slice a_s m_s c_s), (1, y5 text)]) rfl fun w L hR => ?_
 obtain ⟨hs, htab, hes, her, hmax⟩ := hR
 obtain ⟨rfl, ls⟩ := hs.slen
 refine Ew Z2 (Est rfl (N.alloc ty_Rule dc) (fun b4 _ => (Ei rfl (Ev Z3 (Em rfl (Est rfl (N.call (a6X (by first | omega | exact Nat.le_trans (C2 htx _) dc | exact Nat.le_trans (C2 (C2 htx _) _) dc | exact Nat.le_trans a1S (Nat.le_trans (C2 htx _) dc))) rfl rfl rfl dc rfl (fun w Lp hA => hA.rop hmax)) (fun k9 _ => ?_)))))))
 obtain ⟨a9, m9, c9⟩ := k9
 refine d8 m0 fun e9 l9 => ?_
 subst e9
 refine Ei rfl (Eu (Eq_ (Ew Z3 (Em rfl (Ey rfl ((Y.len us_Ss rfl).yd) (Ey rfl ((Y.neq rfl rfl).yd) (j8 (fun q12 => ?_) (fun q12 => ?_))))))))
 ·have j3 : (↑(cut 32 text).length : Int) ≠ 4 := q12
  refine Eu (l3 rfl (Ew Z3 (Ey rfl ((F5 (pvs := []) (cs := [_, _, _]) ty_Rule a0u rfl rfl).yd) (d7 (Est rfl (Ns [_, _, _] ty_Rule rfl) (fun _ _ => (Ei rfl (Eu (E.ret (j0 (o1 (A := []) (Own.nil (E := Enc.int) (e := tI) (a := none)) rfl (f9 (congrArg (ow eIs [_]) (show _ = ((y7 s text).1).2.2 by simp [a0U (sc := s) (t := text) om])) ?_))))))))))))
  exact X1 br rfl rfl rfl (mS m0) ty_Rule rfl (none, 0, 0) trivial (by rw [show (((y7 s text).1).1) = (0) from (by simp [a0U (sc := s) (t := text) om])]; rw [show (((y7 s text).1).2.1) = (0) from (by simp [a0U (sc := s) (t := text) om])]; rw [show ((y7 s text).2) = (false) from (by simp [a0U (sc := s) (t := text) om])]; try rfl) (J := _) (.refl _) (.inl rfl)
 ·have j4 : (↑(cut 32 text).length : Int) = 4 := Decidable.not_not.1 q12
  have j5 := a4v (s := Lib.trimPrefix (cut 32 text)[0] [114])
  have j6 := a4v (s := Lib.trimPrefix (cut 32 text)[2] [114])
  have pe := b4g (t := text) om
  refine Eu (l4 rfl (d9 (Et (Ew Z3 (Ey rfl ((F5 (pvs := []) (cs := [_, _, _]) ty_Rule a0u rfl rfl).yd) (Est rfl (N.alloc ty_Rule dc) (fun b7 _ => (Est rfl (Ns [_, _, _] ty_Rule rfl) (fun _ _ => (Ev Z10 (Em rfl (M5 (mS m0) om fun ab17 ae17 => (Ey rfl ((r8 us_Ss ty_S rfl ae17 rfl 0 rfl om).yd) (Ey rfl (f7 ty_S rfl (a3C ae17 (mS m0) om) rfl) (Est rfl (f5 a7M rfl rfl rfl dc tv) (fun _ _ => (Est rfl (f5 (U4 (by first | omega | exact Nat.le_trans (C2 htx _) dc | exact Nat.le_trans (C2 (C2 htx _) _) dc | exact Nat.le_trans a1S (Nat.le_trans (C2 htx _) dc))) rfl rfl rfl dc (fun w Lp hA => ⟨hA.rop htab, hA.rop hes, hA.rop her⟩)) (fun _ _ => (Em rfl (Ey rfl ((Y.ext rfl rfl).yd) (Ey rfl ((Y.ext rfl rfl).yd) (Ey rfl ((g9 fo_Rule_0 f4 dc rfl).yd) (Est rfl (Ns [_, _, _] f4 rfl) (fun _ _ => (Ev Z10 (Em rfl ?_))))))))))))))))))))))))))
  refine M5 (mS m0) om fun ab26 ae26 => (Ey rfl ((r8 us_Ss ty_S rfl ae26 rfl 2 rfl om).yd) (Ey rfl (f7 ty_S rfl (a3C ae26 (mS m0) om) rfl) (Est rfl (f5 a7M rfl rfl rfl dc tv) (fun _ _ => (Est rfl (f5 (U4 (by first | omega | exact Nat.le_trans (C2 htx _) dc | exact Nat.le_trans (C2 (C2 htx _) _) dc | exact Nat.le_trans a1S (Nat.le_trans (C2 htx _) dc))) rfl rfl rfl dc (fun w Lp hA => ⟨hA.rop htab, hA.rop hes, hA.rop her⟩)) (fun _ _ => (Em rfl (Ey rfl ((Y.ext rfl rfl).yd) (Ey rfl ((Y.ext rfl rfl).yd) (Ey rfl ((g9 fo_Rule_1 f4 dc rfl).yd) (Est rfl (Ns [_, _, _] f4 rfl) (fun _ _ => (Ev Z10 (Em rfl (M5 (mS m0) om fun ab35 ae35 => (Ey rfl ((r8 us_Ss ty_S rfl ae35 rfl 3 rfl om).yd) (Ey rfl (f7 ty_S rfl (a3C ae35 (mS m0) om) rfl) (Est rfl (N.call (a6X (by first | omega | exact Nat.le_trans (C2 htx _) dc | exact Nat.le_trans (C2 (C2 htx _) _) dc | exact Nat.le_trans a1S (Nat.le_trans (C2 htx _) dc))) rfl rfl rfl dc rfl (fun w Lp hA => hA.rop hmax)) (fun k37 _ => ?_)))))))))))))))))))
  obtain ⟨a37, m37, c37⟩ := k37
  refine d8 m0 fun e37 l37 => ?_
  subst e37
  refine Est rfl (N.call (a4j (by have := a7J (b := 44) (s := (cut 32 text)[3]); have := C2 htx (show 3 < (cut 32 text).length by omega); omega) (fun x hx => Nat.le_trans (a2Q x hx) (Nat.le_trans (C2 htx _) dc))) rfl rfl rfl dc rfl (fun w Lp hA => ⟨hA.ow m0, hA.rop htab, hA.rop hes, hA.rop her⟩)) (fun k38 _ => ?_)
  obtain ⟨a38, m38, c38⟩ := k38
  refine d8 m0 fun e38 l38 => ?_
  subst e38
  refine Em rfl (Ey rfl ((Y.ext rfl rfl).yd) (Ey rfl ((Y.ext rfl rfl).yd) (Ey rfl ((g9 fo_Rule_2 ty_Is dc rfl).yd) (l6 (Est rfl (Ns [_, _, _] ty_Is rfl) (fun _ _ => (Eu (Eq_ (Ew Z10 (Em rfl (Ey rfl (l8 (cs := [_, _, _]) ty_Rule rfl (Has.pt m0) rfl) (Est rfl (f5 a0a rfl rfl rfl dc (fun w Lp hA => ⟨hA.ro hs, i6, i6, hA.ow (mS m0)⟩)) (fun _ _ => (r5 (fun q44 => ?_) (fun q44 => ?_)))))))))))))))
  ·refine Ey rfl ((Y.not (b := true) rfl).yd) (Em rfl (Ey rfl (l8 (cs := [_, _, _]) ty_Rule rfl (Has.pt m0) rfl) (Est rfl (f5 R1 rfl rfl rfl dc (fun w Lp hA => ⟨i6, i6, hA.ow (mS m0)⟩)) (fun _ _ => (Em rfl (Ey rfl ((b0p rfl rfl).yd) (j8 (fun q50 => ?_) (fun q50 => ?_))))))))
   ·refine Ey rfl ((o6 rfl rfl).yd) (Eu (l3 rfl (Ew Z3 (Ey rfl ((F5 (pvs := []) (cs := [_, _, _]) ty_Rule a0u rfl rfl).yd) (B0 (Est rfl (Ns [_, _, _] ty_Rule rfl) (fun _ _ => (Ei rfl (Eu (E.ret (j0 (o1 (A := []) (Own.nil (E := Enc.int) (e := tI) (a := none)) rfl (f9 (congrArg (ow eIs [_]) (show _ = ((y7 s text).1).2.2 by simp [N0 (sc := s) (t := text) (.inr (by rw [← pe]; exact q50))])) ?_)))))))))))))
    exact X1 br rfl rfl rfl (mS m0) ty_Rule rfl (none, 0, 0) trivial (by rw [show (((y7 s text).1).1) = (0) from (by simp [N0 (sc := s) (t := text) (.inr (by rw [← pe]; exact q50))])]; rw [show (((y7 s text).1).2.1) = (0) from (by simp [N0 (sc := s) (t := text) (.inr (by rw [← pe]; exact q50))])]; rw [show ((y7 s text).2) = (false) from (by simp [N0 (sc := s) (t := text) (.inr (by rw [← pe]; exact q50))])]; try rfl) (J := _) (.refl _) (.inl rfl)
   ·refine Ey rfl ((o6 rfl rfl).yd) (Eu (l4 rfl (d9 (Et (Ew Z3 (Ey rfl (l8 (cs := [_, _, _]) ty_Rule rfl (Has.pt m0) rfl) (B0 (Est rfl (Ns [_, _, _] ty_Rule rfl) (fun _ _ => (Ei rfl (Eu (E.ret (l6 (f9 (congrArg (ow eIs [_]) (show _ = ((y7 s text).1).2.2 by simp only [a0i (sc := s) (t := text) j4 (by rw [← pe]; exact q44) (by rw [← pe]; exact Decidable.not_not.1 q50), ← pe])) ?_))))))))))))))
    exact X1 br rfl rfl rfl (mS m0) ty_Rule rfl (_, _, _) trivial (by rw [show (((y7 s text).1).1) = (H1 (Lib.trimPrefix ((cut 32 text)[0]) ([114]))) from (by simp only [a0i (sc := s) (t := text) j4 (by rw [← pe]; exact q44) (by rw [← pe]; exact Decidable.not_not.1 q50), ← pe])]; rw [show (((y7 s text).1).2.1) = (H1 (Lib.trimPrefix ((cut 32 text)[2]) ([114]))) from (by simp only [a0i (sc := s) (t := text) j4 (by rw [← pe]; exact q44) (by rw [← pe]; exact Decidable.not_not.1 q50), ← pe])]; rw [show ((y7 s text).2) = (true) from (by simp only [a0i (sc := s) (t := text) j4 (by rw [← pe]; exact q44) (by rw [← pe]; exact Decidable.not_not.1 q50), ← pe])]; try rfl) (J := _) (.refl _) (.inl rfl)
  ·refine Ey rfl ((Y.not (b := false) rfl).yd) (Em rfl (Es rfl (Es rfl (Es rfl (Es rfl (Ey rfl ((o0 rfl rfl).yd) (Eu (l3 rfl (Ew Z3 (Ey rfl ((F5 (pvs := []) (cs := [_, _, _]) ty_Rule a0u rfl rfl).yd) (B0 (Est rfl (Ns [_, _, _] ty_Rule rfl) (fun _ _ => (Ei rfl (Eu (E.ret (j0 (o1 (A := []) (Own.nil (E := Enc.int) (e := tI) (a := none)) rfl (f9 (congrArg (ow eIs [_]) (show _ = ((y7 s text).1).2.2 by simp [N0 (sc := s) (t := text) (.inl (by rw [← pe]; exact q44))])) ?_)))))))))))))))))))
   exact X1 br rfl rfl rfl (mS m0) ty_Rule rfl (none, 0, 0) trivial (by rw [show (((y7 s text).1).1) = (0) from (by simp [N0 (sc := s) (t := text) (.inl (by rw [← pe]; exact q44))])]; rw [show (((y7 s text).1).2.1) = (0) from (by simp [N0 (sc := s) (t := text) (.inl (by rw [← pe]; exact q44))])]; rw [show ((y7 s text).2) = (false) from (by simp [N0 (sc := s) (t := text) (.inl (by rw [← pe]; exact q44))])]; try rfl) (J := _) (.refl _) (.inl rfl)
end Go.Proofs.YtfnbilpemdgkkaaGreatDoor
