import Derived.Test.YtlfhopooaejpfaaGreatT86
namespace Go.Proofs.YtlfhopooaejpfaaGreat
open Go.RowKit
set_option linter.all false
set_option maxHeartbeats 8000000
attribute [local irreducible] Nop Yd Yp Ent Has Tr FnP FnP2 Src M0 S8 V1 W0 G4 j5 rbN f5 E5 O4 U0
theorem a5M {a_s : Option Addr} {m_s c_s : Nat} {s : List Int} {a_l : Option Addr} {m_l c_l : Nat} {l : List (Int × List Int × Int × Int × Int)} {r6 : Option Addr} {t6 r5 : Nat} {f9 : List Int} {o2 : Option Addr} {s7 o1 : Nat} {a6 : List (Int × List Int)} (hz : O5 (fun x => x.2.length) a6 ≤ 1048576) : Tr Tryz.prog 39 [.slice a_s m_s c_s, .slice a_l m_l c_l, .agg #[.slice r6 t6 r5, .slice o2 s7 o1]] (fun w L => Ro w L eIs [.slice a_s m_s c_s] s ∧ Ro w L C8 [.slice a_l m_l c_l] l ∧ Ro w L eIs [.slice r6 t6 r5] f9 ∧ Ro w L G8 [.slice o2 s7 o1] a6) [] (κ := Option Addr × Nat × Nat) (fun k => True) (fun k => .tuple #[.slice k.1 k.2.1 k.2.2, .bool (a3d s l (f9, a6))]) (fun k => [ow H5 [.slice k.1 k.2.1 k.2.2] (a1u s l (f9, a6))]) := by
 refine Tr.intro Tryz.func39 rfl (n := 26) rfl (by decide +kernel) bl (fr := [(0, .slice a_s m_s c_s), (1, .slice a_l m_l c_l), (2, .agg #[.slice r6 t6 r5, .slice o2 s7 o1])]) rfl fun w L hR => ?_
 obtain ⟨hs, hl, y8, v6⟩ := hR
 obtain ⟨rfl, ls⟩ := hs.slen
 obtain ⟨rfl, ll⟩ := hl.slen
 obtain ⟨rfl, N5⟩ := y8.slen
 obtain ⟨rfl, K9⟩ := v6.slen
 refine Ew Z3 (Est rfl (N.box (cs := [_, _]) rfl dc rfl) (fun b5 _ => (Ei rfl (Ei rfl (Eu (Eq_ (Ew Z5 (Em rfl (Em rfl (Ey rfl (o0 (cs := [_, _]) ty_Query rfl (Has.pt m0) rfl) (Est rfl (k6 (a2d fo) rfl rfl rfl dc (fun w Lp hA => ⟨hA.ro hs, hA.ro hl, hA.ro y8, hA.ro v6⟩)) (fun _ _ => (Ent.b (fun q12 => ?_) (fun q12 => ?_))))))))))))))
 ·have jq := R6 (s := s) (q := (f9, a6)) (Bool.and_eq_true_iff.1 q12).2
  have jl := (a0t (Bool.and_eq_true_iff.1 q12).1).2
  refine Ey rfl ((Y.not (b := true) rfl).yd) (Eu (l6 rfl (i8 (Et (Ew Z4 (Em rfl (Ey rfl (o0 (cs := [_, _]) ty_Query rfl (Has.pt m0) rfl) (Est rfl (N.call (a6B (Nat.le_trans jl dc) (Nat.le_trans jq.1 dc) jq.2.2) rfl rfl rfl dc rfl (fun w Lp hA => ⟨hA.ro hl, hA.ro y8, hA.ro v6⟩)) (fun k17 _ => ?_)))))))))
  obtain ⟨a17, m17, c17⟩ := k17
  refine i9 m0 fun e17 l17 => ?_
  subst e17
  refine Ei rfl ?_
  have jeq : ((a17, (grF l (f9, a6).2).1.length, c17) : Option Addr × Nat × Nat).2.1 = (grF l a6).1.length := rfl
  refine Eu (Eq_ (Ew Z6 (Em rfl (Ey rfl ((Y.len us_Steps rfl).yd) (Ey rfl ((i7 fo_Query_1 ty_Atoms dc rfl).yd) (Ey rfl (f8 ty_Atoms rfl (Hz (mS m0) 1 rfl) rfl) (Ey rfl ((Y.len us_Atoms rfl).yd) (Ey rfl ((Y.lss rfl rfl).yd) (n0 (fun q23 => ?_) (fun q23 => ?_))))))))))
  ·refine Eu (l4 rfl (Ew Z3 (Est rfl (Nb [] [] us_Steps ty_Step rfl rfl) (fun b24 _ => (Ent.drop (Ei rfl (Ei rfl (Eu (E.ret (l0 (n9 (A := []) (Own.nil (E := X6) (e := tStep) (a := (some ⟨b24, 0, none⟩))) rfl (j8 (congrArg (ow H5 [_]) (show _ = a1u s l (f9, a6) by first | exact (a1i (s := s) (l := l) (q := (f9, a6)) (by show (grF l a6).1.length < a6.length; omega)).1 | exact (a1i (s := s) (l := l) (q := (f9, a6)) (by show (grF l a6).1.length < a6.length; omega)).2 | exact (a1i (s := s) (l := l) (q := (f9, a6)) (by show (grF l a6).1.length < a6.length; omega)).1.symm | exact (a1i (s := s) (l := l) (q := (f9, a6)) (by show (grF l a6).1.length < a6.length; omega)).2.symm)) ?_))))))))))))
   exact b0H br rfl rfl rfl ((some ⟨b24, 0, none⟩), 0, 0) trivial (by rw [show (a3d s l (f9, a6)) = (false) from (by first | exact (a1i (s := s) (l := l) (q := (f9, a6)) (by show (grF l a6).1.length < a6.length; omega)).1 | exact (a1i (s := s) (l := l) (q := (f9, a6)) (by show (grF l a6).1.length < a6.length; omega)).2 | exact (a1i (s := s) (l := l) (q := (f9, a6)) (by show (grF l a6).1.length < a6.length; omega)).1.symm | exact (a1i (s := s) (l := l) (q := (f9, a6)) (by show (grF l a6).1.length < a6.length; omega)).2.symm)]; try rfl) (J := _) (.refl _) (.inl rfl)
  ·refine Eu (l6 rfl (i8 (Et (Ew Z3 (Em rfl (Ei rfl (Ei rfl (Eu (E.ret (j8 (congrArg (ow H5 [_]) (show _ = a1u s l (f9, a6) by first | exact (a1h (q := (f9, a6)) q12 (by show ¬ (grF l a6).1.length < a6.length; omega)).1 | exact (a1h (q := (f9, a6)) q12 (by show ¬ (grF l a6).1.length < a6.length; omega)).2 | exact (a1h (q := (f9, a6)) q12 (by show ¬ (grF l a6).1.length < a6.length; omega)).1.symm | exact (a1h (q := (f9, a6)) q12 (by show ¬ (grF l a6).1.length < a6.length; omega)).2.symm)) ?_))))))))))
   exact b0H br rfl rfl rfl (_, _, _) trivial (by rw [show (a3d s l (f9, a6)) = (true) from (by first | exact (a1h (q := (f9, a6)) q12 (by show ¬ (grF l a6).1.length < a6.length; omega)).1 | exact (a1h (q := (f9, a6)) q12 (by show ¬ (grF l a6).1.length < a6.length; omega)).2 | exact (a1h (q := (f9, a6)) q12 (by show ¬ (grF l a6).1.length < a6.length; omega)).1.symm | exact (a1h (q := (f9, a6)) q12 (by show ¬ (grF l a6).1.length < a6.length; omega)).2.symm)]; try rfl) (J := _) (.refl _) (.inl rfl)
 ·refine Ey rfl ((Y.not (b := false) rfl).yd) (Eu (l4 rfl (Ew Z3 (Est rfl (Nb [] [] us_Steps ty_Step rfl rfl) (fun b14 _ => (Ent.drop (Ei rfl (Ei rfl (Eu (E.ret (l0 (n9 (A := []) (Own.nil (E := X6) (e := tStep) (a := (some ⟨b14, 0, none⟩))) rfl (j8 (congrArg (ow H5 [_]) (show _ = a1u s l (f9, a6) by first | exact (a1m (q := (f9, a6)) q12).1 | exact (a1m (q := (f9, a6)) q12).2 | exact (a1m (q := (f9, a6)) q12).1.symm | exact (a1m (q := (f9, a6)) q12).2.symm)) ?_)))))))))))))
  exact b0H br rfl rfl rfl ((some ⟨b14, 0, none⟩), 0, 0) trivial (by rw [show (a3d s l (f9, a6)) = (false) from (by first | exact (a1m (q := (f9, a6)) q12).1 | exact (a1m (q := (f9, a6)) q12).2 | exact (a1m (q := (f9, a6)) q12).1.symm | exact (a1m (q := (f9, a6)) q12).2.symm)]; try rfl) (J := _) (.refl _) (.inl rfl)
end Go.Proofs.YtlfhopooaejpfaaGreat
