import Derived.Test.YtdopeopehgdccaaGreatT16
namespace Go.Proofs.YtdopeopehgdccaaGreat
open Go.RowKit
set_option linter.all false
set_option maxHeartbeats 2000000
attribute [local irreducible] Nop Yd Yp Ent Has Tr FnP FnP2 Src
variable {l0 left v t term : Int} {a W7 : List (Int × List Int)} {s f7 a0a j9 f8 : List Int} {m_s c_s u8 s6 m_a c_a a0g a0h W8 W9 D5 y7 u5 s5 : Nat} {a_s s7 a_a a0i X0 y6 s4 : Option Addr}
theorem a3y (hz : s.length ≤ 1048576) : Tr Tryz.prog 163 [.slice a_s m_s c_s] (fun w L => Ro w L eIs [.slice a_s m_s c_s] s) [] (κ := Option Addr × Nat × Nat) (fun k => True) (fun k => .slice k.1 k.2.1 k.2.2) (fun k => [ow eIs [.slice k.1 k.2.1 k.2.2] s]) := by
 refine n9 Tryz.func163 rfl (n := 8) rfl (by decide +kernel) bl (fr := [(0, .slice a_s m_s c_s)]) rfl fun w L hR => ?_
 have hs := hR
 obtain ⟨rfl, ls⟩ := hs.slen
 refine Ew Z1 (Ei rfl (Eu (Eq_ (Ew Z2 (Em rfl (Ey rfl ((b5P us_Is rfl rfl).yd) (Ent.b (fun q4 => ?_) (fun q4 => ?_))))))))
 ·refine Eu (o2 rfl (Ew Z1 (Ei rfl (Eu (E.ret (l4 (s3 (A := []) (Own.nil (E := Enc.int) (e := tI) (a := none)) rfl (j6 (congrArg (ow eIs [_]) (show _ = s by (cases a_s with | none => exact hs.none_nil.symm | some x => cases q4))) ?_))))))))
  exact Fg rfl rfl (none, 0, 0) rfl rfl
 ·refine Eu (o3 rfl (j5 (Et (Ew Z4 (Est rfl (Nb [] [] us_Is i8 rfl rfl) (fun b5 _ => (Ent.drop (Em rfl (Est rfl (O6 (E := Enc.int) Plain.int us_Is i8 rfl rfl rfl hs bn bn dc) (fun p7 _ => (Ei rfl ?_)))))))))))
  exact Eu (E.ret (Fg rfl rfl (_, _, _) rfl rfl))
theorem b1Q : Tr Tryz.prog 167 [.agg #[.int .i64 l0, .slice s7 u8 s6], .int .i64 left] (fun w L => I64 l0 ∧ Ro w L eIs [.slice s7 u8 s6] f7 ∧ 0 ≤ left ∧ left ≤ 1048576) [] (κ := Unit) (fun k => True) (fun k => .int .i64 (szR (f7.length) left)) (fun k => []) := by
 refine n9 Tryz.func167 rfl (n := 12) rfl (by decide +kernel) bl (fr := [(0, .agg #[.int .i64 l0, .slice s7 u8 s6]), (1, .int .i64 left)]) rfl fun w L hR => ?_
 obtain ⟨G5, x6, as0, as1⟩ := hR
 obtain ⟨rfl, N8⟩ := x6.slen
 refine Ew Z2 (Est rfl (N.box (cs := [_, _]) rfl dc rfl) (fun b2 _ => (Ei rfl (Ev Z5 (Ey rfl ((j7 fo_lAtom_1 ty_Is dc rfl).yd) (Ey rfl (g9 ty_Is rfl (Hz m0 1 rfl) rfl) (Em rfl (Est rfl (n0 a2R rfl rfl rfl dc (fun w Lp hA => ⟨hA.ro x6, (by first | assumption | omega), (by first | assumption | omega)⟩)) (fun _ _ => (Ei rfl (Eu (Eq_ (Ew Z2 (Em rfl (Ey rfl ((Y.lss rfl rfl).yd) (o6 (fun q10 => ?_) (fun q10 => ?_)))))))))))))))))
 ·have z10 := a0X q10 om
  refine Eu (o2 rfl (Ew Z1 (Ei rfl ?_)))
  exact Eu (E.ret (l4 (Fg rfl rfl () (congrArg (Value.int .i64) (by unfold szR; split <;> omega)) rfl)))
 ·obtain ⟨z10, y10⟩ := a1I q10 om
  refine Eu (o3 rfl (j5 (Et (Ew Z2 (Em rfl (Ei rfl ?_))))))
  exact Eu (E.ret (Fg rfl rfl () (congrArg (Value.int .i64) (by have e : szR (f7.length) left = left - ((f7.length : Nat) : Int) := by { unfold szR; split <;> omega }; omega)) rfl))
theorem b1K (h1 : f7.length ≤ 1048576) : Tr Tryz.prog 176 [.agg #[.int .i64 l0, .slice s7 u8 s6]] (fun w L => I64 l0 ∧ Ro w L eIs [.slice s7 u8 s6] f7) [] (κ := Option Addr × Nat × Nat) (fun k => True) (fun k => .agg #[.int .i64 l0, .slice k.1 k.2.1 k.2.2]) (fun k => [ow eIs [.slice k.1 k.2.1 k.2.2] f7]) := by
 refine n9 Tryz.func176 rfl (n := 12) rfl (by decide +kernel) bl (fr := [(0, .agg #[.int .i64 l0, .slice s7 u8 s6])]) rfl fun w L hR => ?_
 obtain ⟨G5, x6⟩ := hR
 obtain ⟨rfl, N8⟩ := x6.slen
 refine Ew Z2 (Est rfl (N.box (cs := [_, _]) rfl dc rfl) (fun b1 _ => (Est rfl (N.alloc ty_Atom dc) (fun b2 _ => (Ev Z1 (Est rfl (N.alloc ty_Atom dc) (fun b3 _ => (Ev Z4 (Ey rfl ((j7 fo_lAtom_0 i8 dc rfl).yd) (Ey rfl (g9 i8 rfl (Hz (mS (mS m0)) 0 rfl) rfl) (Ey rfl ((j7 fo_Atom_0 i8 dc rfl).yd) (Est rfl (Ns [_, _] i8 rfl) (fun _ _ => (Ev Z5 (Ey rfl ((j7 fo_lAtom_1 ty_Is dc rfl).yd) (Ey rfl (g9 ty_Is rfl (Hz (mS (mS m0)) 1 rfl) rfl) (Est rfl (N.call (Y3 fc) rfl rfl rfl dc rfl (fun w Lp hA => hA.ro x6)) (fun k9 _ => ?_))))))))))))))))))
 obtain ⟨a9, m9, c9⟩ := k9
 refine i9 m0 fun e9 l9 => ?_
 subst e9
 refine Ey rfl ((j7 fo_Atom_1 ty_Is dc rfl).yd) (i7 (Est rfl (Ns [_, _] ty_Is rfl) (fun _ _ => (Ev Z2 (Ey rfl (o9 (cs := [_, _]) ty_Atom rfl (Has.pt m0) rfl) (r5 (Est rfl (Ns [_, _] ty_Atom rfl) (fun _ _ => (Eu (E.ret (r5 ?_)))))))))))
 exact a2k br rfl rfl (mS m0) ty_Atom rfl (_, _, _) trivial rfl (J := _) (.refl _) (.inl rfl)
theorem b1T {U9 : Int} {a7B : Option Addr} {a7C a7D : Nat} {b4p : List Int} : Tr Tryz.prog 182 [.agg #[.int .i64 l0, .slice s7 u8 s6], .agg #[.int .i64 U9, .slice a7B a7C a7D]] (fun w L => I64 l0 ∧ Ro w L eIs [.slice s7 u8 s6] f7 ∧ I64 U9 ∧ Ro w L eIs [.slice a7B a7C a7D] b4p) [] (κ := Unit) (fun k => True) (fun k => .bool (decide ((l0, f7) = (U9, b4p)))) (fun k => []) := by
 refine n9 Tryz.func182 rfl (n := 16) rfl (by decide +kernel) bl (fr := [(0, .agg #[.int .i64 l0, .slice s7 u8 s6]), (1, .agg #[.int .i64 U9, .slice a7B a7C a7D])]) rfl fun w L hR => ?_
 obtain ⟨G5, x6, a7X, b3r⟩ := hR
 obtain ⟨rfl, N8⟩ := x6.slen
 obtain ⟨rfl, c0E⟩ := b3r.slen
 refine Ew Z3 (Est rfl (N.box (cs := [_, _]) rfl dc rfl) (fun b2 _ => (Est rfl (N.box (cs := [_, _]) rfl dc rfl) (fun b3 _ => (Ei rfl (Eu (Eq_ (Ew Z5 (Ey rfl ((j7 fo_Atom_0 i8 dc rfl).yd) (Ey rfl (g9 i8 rfl (Hz (mS m0) 0 rfl) rfl) (Ey rfl ((j7 fo_Atom_0 i8 dc rfl).yd) (Ey rfl (g9 i8 rfl (Hz m0 0 rfl) rfl) (Ey rfl ((Y.neq rfl rfl).yd) (o6 (fun q9 => ?_) (fun q9 => ?_)))))))))))))))
 ·refine Eu (o2 rfl (Ew Z1 (Ei rfl ?_)))
  exact Eu (E.ret (l4 (Fb rfl rfl (by simp_all))))
 ·refine Eu (o3 rfl (j5 (Et (Eq_ (Ew Z6 (Ey rfl ((j7 fo_Atom_1 ty_Is dc rfl).yd) (Ey rfl (g9 ty_Is rfl (Hz (mS m0) 1 rfl) rfl) (Ey rfl ((j7 fo_Atom_1 ty_Is dc rfl).yd) (Ey rfl (g9 ty_Is rfl (Hz m0 1 rfl) rfl) (Est rfl (n0 a0z rfl rfl rfl dc (fun w Lp hA => ⟨hA.ro x6, hA.ro b3r⟩)) (fun _ _ => (Ent.b (fun q14 => ?_) (fun q14 => ?_)))))))))))))
  ·refine Ey rfl ((Y.not (b := true) rfl).yd) (Eu (o3 rfl (j5 (Et (Ew Z1 (Ei rfl ?_))))))
   exact Eu (E.ret (Fb rfl rfl (by simp_all)))
  ·refine Ey rfl ((Y.not (b := false) rfl).yd) (Eu (o2 rfl (Ew Z1 (Ei rfl ?_))))
   exact Eu (E.ret (l4 (Fb rfl rfl (by simp_all))))
theorem a5E : Tr Tryz.prog 82 [.slice a_a m_a c_a, .int .i64 left] (fun w L => Ro w L B7 [.slice a_a m_a c_a] a ∧ 0 ≤ left ∧ left ≤ 1048576) [] (κ := Unit) (fun k => True) (fun k => .int .i64 (szR (I9 (fun x => x.2.length) a) left)) (fun k => []) := by
 refine n9 Tryz.func82 rfl (n := 27) rfl (by decide +kernel) bl (fr := [(0, .slice a_a m_a c_a), (1, .int .i64 left)]) rfl fun w L hR => ?_
 obtain ⟨ha, as0, as1⟩ := hR
 obtain ⟨rfl, la⟩ := ha.slen
 refine Ew Z1 (Ei rfl (Ev Z5 (Em rfl (Em rfl (Ey rfl ((Y.len us_lAtoms rfl).yd) (Ey rfl ((Y.sub rfl rfl om om).yd) (Ei rfl (Eu (Eq_ (Ew Z2 (Em rfl (Ey rfl ((Y.lss rfl rfl).yd) (o6 (fun q11 => ?_) (fun q11 => ?_))))))))))))))
 ·refine Eu (o2 rfl (Ew Z1 (Ei rfl ?_)))
  exact Eu (E.ret (l4 (Fg rfl rfl () (congrArg (Value.int .i64) (by exact b0h q11)) rfl)))
 ·refine Eu (o3 rfl (j5 (Et (Eq_ (Ew Z1 (Ei rfl (Eu (E.block (E.loop (κ := Nat) (fun g => g ≤ a.length ∧ (a.length : Int) + (r9 (fun x => x.2.length) (a.take g) : Nat) ≤ left) (fun g => [(0, .slice a_a a.length c_a), (1, .int .i64 (left - ((a.length : Int) + (r9 (fun x => x.2.length) (a.take g) : Nat)))), (5, .int .i64 (g : Int))]) (fun g => []) (fun g => a.length - g) 0 ⟨by omega, by simp [r9]; omega⟩ ⟨rfl, frI (by simp [r9]), rfl, trivial⟩ (.refl _) (fun g pg => ?_))))))))))
  obtain ⟨pk, pa⟩ := pg
  refine Eq_ (Ew Z4 (Em rfl (Em rfl (Ey rfl ((Y.len us_lAtoms rfl).yd) (Ey rfl ((Y.lss rfl rfl).yd) (o6 (fun q15 => ?_) (fun q15 => ?_)))))))
  ·refine Eu (o2 rfl (j5 (Et (Eq_ (E.block (Ew Z7 (Em rfl (Em rfl ?_))))))))
   obtain ⟨eb20, eo20, ec20, ea20, er20, el20, eh20⟩ := ha.elem g om
   obtain ⟨xa20_0, xc20_0, rfl, ei20_0, xh20_0⟩ := K0 er20
   have := xh20_0.slen.2
   refine Ey rfl ((r7 us_lAtoms ty_lAtom rfl ea20 rfl g rfl om).yd) (Ey rfl (o9 (cs := [_, _]) ty_lAtom rfl (eh20 _) rfl) (Em rfl (Est rfl (n0 b1Q rfl rfl rfl dc (fun w Lp hA => ⟨ei20_0, hA.ro xh20_0, (by first | assumption | omega), (by first | assumption | omega)⟩)) (fun _ _ => (Ei rfl (Ev Z2 (Em rfl (Ey rfl ((Y.lss rfl rfl).yd) (o6 (fun q25 => ?_) (fun q25 => ?_))))))))))
   ·have z25 := a0X q25 om
    refine Eu (o2 rfl (Ew Z1 (Ei rfl ?_)))
    exact Eu (E.ret (w5 (l4 (l4 (w5 (l4 (Fg rfl rfl () (congrArg (Value.int .i64) (by exact b0B (t := (fun x => x.2.length)) (n := a[g].2.length) (show g < a.length by omega) rfl om)) rfl)))))))
   ·obtain ⟨z25, y25⟩ := a1I q25 om
    refine Eu (o3 rfl (j5 (t7 (Et (Ez Z3 (Em rfl (Ey rfl ((Y.add rfl rfl om om).yd) (Ei rfl ?_))))))))
    exact Eu (v8 br (g + 1) ⟨rfl, frI (by rw [z25]; have y := P7 (t := (fun x => x.2.length)) (show g < a.length by omega); omega), rfl, trivial⟩ (.refl _) ⟨by omega, by have y := P7 (t := (fun x => x.2.length)) (show g < a.length by omega); omega⟩ om)
  ·refine Eu (o3 rfl (E.exit (o8 (o8 (x9 (Et (Ew Z2 (Em rfl (Ei rfl ?_)))))))))
   exact Eu (E.ret (Fg rfl rfl () (congrArg (Value.int .i64) (by exact b0s (t := (fun x => x.2.length)) (show a.length ≤ g by omega) pa)) rfl))
theorem a5w (hz : I9 (fun x => x.2.length) a ≤ 1048576) : Tr Tryz.prog 91 [.slice a_a m_a c_a] (fun w L => Ro w L B7 [.slice a_a m_a c_a] a) [] (κ := Option Addr × Nat × Nat) (fun k => True) (fun k => .slice k.1 k.2.1 k.2.2) (fun k => [ow B7 [.slice k.1 k.2.1 k.2.2] a]) := by
 refine n9 Tryz.func91 rfl (n := 23) rfl (by decide +kernel) bl (fr := [(0, .slice a_a m_a c_a)]) rfl fun w L hR => ?_
 have ha := hR
 obtain ⟨rfl, la⟩ := ha.slen
 have hlen : a.length ≤ I9 (fun x => x.2.length) a := by unfold I9; omega
 refine Ew Z1 (Ei rfl (Ev Z4 (Em rfl (Ey rfl ((Y.len us_lAtoms rfl).yd) (Est rfl (a7K (m := a.length) us_Atoms ty_Atom rfl rfl rfl mx om dc) (fun b7 _ => (s3 (A := [_]) (a4O (E := a2P) (e := tAtom) (zx := (0, [])) (a6E (x := (0, [])) ⟨by decide, by decide⟩ Own.nil) mx) rfl (Ei rfl (Eu (Eq_ (Ew Z1 (Ei rfl (Eu (E.block (E.loop (κ := Nat) (fun g => g ≤ a.length) (fun g => [(0, .slice a_a a.length c_a), (3, .slice (some ⟨b7, 0, none⟩) a.length a.length), (4, .int .i64 (g : Int))]) (fun g => [ow B7 [.slice (some ⟨b7, 0, none⟩) a.length a.length] (a.take g ++ List.replicate (a.length - g) (0, []))]) (fun g => a.length - g) 0 (Nat.zero_le _) ⟨rfl, rfl, rfl, trivial⟩ (by simp) (fun g pg => (Eq_ (Ew Z4 (Em rfl (Em rfl (Ey rfl ((Y.len us_lAtoms rfl).yd) (Ey rfl ((Y.lss rfl rfl).yd) (o6 (fun q11 => ?_) (fun q11 => ?_))))))))))))))))))))))))
 ·refine Eu (o2 rfl (j5 (Et (Eq_ (E.block (Ez Z9 (Em rfl (Em rfl (Em rfl (Em rfl ?_))))))))))
  obtain ⟨eb18, eo18, ec18, ea18, er18, el18, eh18⟩ := ha.elem g om
  obtain ⟨xa18_0, xc18_0, rfl, ei18_0, xh18_0⟩ := K0 er18
  have := xh18_0.slen.2
  refine Ey rfl ((r7 us_lAtoms ty_lAtom rfl ea18 rfl g rfl om).yd) (Ey rfl (o9 (cs := [_, _]) ty_lAtom rfl (eh18 _) rfl) (Est rfl (N.call (b1K (by have y := a8Q (t := (fun x => x.2.length)) (l := a) (g := g) om; omega)) rfl rfl rfl dc rfl (fun w Lp hA => ⟨ei18_0, hA.ro xh18_0⟩)) (fun k20 _ => ?_)))
  obtain ⟨a20, m20, c20⟩ := k20
  refine i9 m0 fun e20 l20 => ?_
  subst e20
  refine Ey rfl ((r7 us_Atoms ty_Atom rfl rfl rfl g rfl om).yd) (i7 (Est rfl (N.set (E := a2P) (j := g) (ex := a[g]) (ce := [_, _]) ty_Atom rfl rfl rfl rfl (a6E (x := a[g]) ei18_0 Own.ow) rfl (Nat.zero_add _) rfl (by simp; omega)) (fun _ _ => (En (t7 (Et (Ez Z3 (Em rfl (Ey rfl ((Y.add rfl rfl om om).yd) (Ei rfl ?_))))))))))
  exact Eu (v8 br (g + 1) rs (by rw [a6g om rfl]) om om)
 ·refine Eu (o3 rfl (E.exit (o8 (o8 (x9 (Et (Ew Z2 (Em rfl (Ei rfl (Eu (E.ret (j6 (congrArg (ow B7 [_]) (show _ = a by exact a4L om)) ?_))))))))))))
  exact Fg rfl rfl (_, _, _) rfl rfl
theorem a5D {a_b : Option Addr} {m_b c_b : Nat} {b : List (Int × List Int)} : Tr Tryz.prog 97 [.slice a_a m_a c_a, .slice a_b m_b c_b] (fun w L => Ro w L B7 [.slice a_a m_a c_a] a ∧ Ro w L B7 [.slice a_b m_b c_b] b) [] (κ := Unit) (fun k => True) (fun k => .bool (decide (a = b))) (fun k => []) := by
 refine n9 Tryz.func97 rfl (n := 27) rfl (by decide +kernel) bl (fr := [(0, .slice a_a m_a c_a), (1, .slice a_b m_b c_b)]) rfl fun w L hR => ?_
 obtain ⟨ha, hb⟩ := hR
 obtain ⟨rfl, la⟩ := ha.slen
 obtain ⟨rfl, lb⟩ := hb.slen
 refine Ew Z1 (Ei rfl (Eu (Eq_ (Ew Z5 (Em rfl (Ey rfl ((Y.len us_Atoms rfl).yd) (Em rfl (Ey rfl ((Y.len us_Atoms rfl).yd) (Ey rfl ((Y.neq rfl rfl).yd) (o6 (fun q10 => ?_) (fun q10 => ?_)))))))))))
 ·refine Eu (o2 rfl (Ew Z1 (Ei rfl ?_)))
  exact Eu (E.ret (l4 (Fb rfl rfl (by exact a3l q10))))
 ·refine Eu (o3 rfl (j5 (Et (Eq_ (Ew Z1 (Ei rfl (Eu (E.block (E.loop (κ := Nat) (fun g => g ≤ a.length ∧ a.take g = b.take g) (fun g => [(0, .slice a_a a.length c_a), (1, .slice a_b b.length c_b), (5, .int .i64 (g : Int))]) (fun g => []) (fun g => a.length - g) 0 ⟨by omega, by simp⟩ ⟨rfl, rfl, rfl, trivial⟩ (.refl _) (fun g pg => ?_))))))))))
  obtain ⟨pk, pa⟩ := pg
  refine Eq_ (Ew Z4 (Em rfl (Em rfl (Ey rfl ((Y.len us_Atoms rfl).yd) (Ey rfl ((Y.lss rfl rfl).yd) (o6 (fun q14 => ?_) (fun q14 => ?_)))))))
  ·refine Eu (o2 rfl (j5 (Et (Eq_ (E.block (Eq_ (D.region (fun j => true) mixed (Dyp 0 rfl (l3 rfl) (Dyp 1 rfl (l3 rfl) ?_)))))))))
   obtain ⟨eb19, eo19, ec19, ea19, er19, el19, eh19⟩ := ha.elem g om
   obtain ⟨xa19_0, xc19_0, rfl, ei19_0, xh19_0⟩ := K0 er19
   have := xh19_0.slen.2
   refine Dyp 2 rfl (r7 us_Atoms ty_Atom rfl ea19 rfl g rfl om) (Dy 3 rfl (o9 (cs := [_, _]) ty_Atom rfl (eh19 _) rfl) (Dyp 4 rfl (l3 rfl) (Dyp 5 rfl (l3 rfl) ?_)))
   obtain ⟨eb23, eo23, ec23, ea23, er23, el23, eh23⟩ := hb.elem g om
   obtain ⟨xa23_0, xc23_0, rfl, ei23_0, xh23_0⟩ := K0 er23
   have := xh23_0.slen.2
   refine Dyp 6 rfl (r7 us_Atoms ty_Atom rfl ea23 rfl g rfl om) (Dy 7 rfl (o9 (cs := [_, _]) ty_Atom rfl (eh23 _) rfl) (t8 8 rfl rfl kr (fun _ => rfl) (n0 b1T rfl rfl rfl dc (fun w Lp hA => ⟨ei19_0, hA.ro xh19_0, ei23_0, hA.ro xh23_0⟩)) (fun _ _ => (Ent.b (fun q25 => ?_) (fun q25 => ?_)))))
   ·refine Dyp 9 rfl (Y.not (b := true) rfl) (r8 kr (Et (o3 rfl (j5 (t7 (Et (Ez Z3 (Em rfl (Ey rfl ((Y.add rfl rfl om om).yd) (Ei rfl ?_))))))))))
    exact Eu (v8 br (g + 1) rs (.refl _) ⟨by omega, a1E om om pa (of_decide_eq_true q25)⟩ om)
   ·refine Dyp 9 rfl (Y.not (b := false) rfl) (r8 kr (Et (o2 rfl (Ew Z1 (Ei rfl ?_)))))
    exact Eu (E.ret (w5 (l4 (l4 (w5 (l4 (Fb rfl rfl (by exact a3j (show g < a.length by omega) (show g < b.length by omega) (of_decide_eq_false q25)))))))))
  ·refine Eu (o3 rfl (E.exit (o8 (o8 (x9 (Et (Ew Z1 (Ei rfl ?_))))))))
   exact Eu (E.ret (Fb rfl rfl (by exact a2C (show a.length ≤ g by omega) (show b.length ≤ g by omega) pa)))
theorem b0q : Tr Tryz.prog 28 [.agg #[.slice a0i a0g a0h, .slice X0 W8 W9], .int .i64 left] (fun w L => Ro w L eIs [.slice a0i a0g a0h] a0a ∧ Ro w L B7 [.slice X0 W8 W9] W7 ∧ 0 ≤ left ∧ left ≤ 1048576) [] (κ := Unit) (fun k => True) (fun k => .int .i64 (szR (a0a.length + I9 (fun x => x.2.length) W7) left)) (fun k => []) := by
 refine n9 Tryz.func28 rfl (n := 18) rfl (by decide +kernel) bl (fr := [(0, .agg #[.slice a0i a0g a0h, .slice X0 W8 W9]), (1, .int .i64 left)]) rfl fun w L hR => ?_
 obtain ⟨a3m, a2y, as0, as1⟩ := hR
 obtain ⟨rfl, b0O⟩ := a3m.slen
 obtain ⟨rfl, a9l⟩ := a2y.slen
 refine Ew Z2 (Est rfl (N.box (cs := [_, _]) rfl dc rfl) (fun b2 _ => (Ei rfl (Ev Z5 (Ey rfl ((j7 fo_lQuery_0 ty_Is dc rfl).yd) (Ey rfl (g9 ty_Is rfl (Hz m0 0 rfl) rfl) (Em rfl (Est rfl (n0 a2R rfl rfl rfl dc (fun w Lp hA => ⟨hA.ro a3m, (by first | assumption | omega), (by first | assumption | omega)⟩)) (fun _ _ => (Ei rfl (Eu (Eq_ (Ew Z2 (Em rfl (Ey rfl ((Y.lss rfl rfl).yd) (o6 (fun q10 => ?_) (fun q10 => ?_)))))))))))))))))
 ·have z10 := a0X q10 om
  refine Eu (o2 rfl (Ew Z1 (Ei rfl ?_)))
  exact Eu (E.ret (l4 (Fg rfl rfl () (congrArg (Value.int .i64) (by unfold szR; split <;> omega)) rfl)))
 ·obtain ⟨z10, y10⟩ := a1I q10 om
  refine Eu (o3 rfl (j5 (Et (Ew Z5 (Ey rfl ((j7 fo_lQuery_1 ty_lAtoms dc rfl).yd) (Ey rfl (g9 ty_lAtoms rfl (Hz m0 1 rfl) rfl) (Em rfl (Est rfl (n0 a5E rfl rfl rfl dc (fun w Lp hA => ⟨hA.ro a2y, (by first | assumption | omega), (by first | assumption | omega)⟩)) (fun _ _ => (Ei rfl (Eu (Eq_ (Ew Z2 (Em rfl (Ey rfl ((Y.lss rfl rfl).yd) (o6 (fun q16 => ?_) (fun q16 => ?_)))))))))))))))))
  ·have z16 := a0X q16 om
   refine Eu (o2 rfl (Ew Z1 (Ei rfl ?_)))
   exact Eu (E.ret (l4 (Fg rfl rfl () (congrArg (Value.int .i64) (by unfold szR; split <;> omega)) rfl)))
  ·obtain ⟨z16, y16⟩ := a1I q16 om
   refine Eu (o3 rfl (j5 (Et (Ew Z2 (Em rfl (Ei rfl ?_))))))
   exact Eu (E.ret (Fg rfl rfl () (congrArg (Value.int .i64) (by have e : szR (a0a.length + I9 (fun x => x.2.length) W7) left = left - ((a0a.length + I9 (fun x => x.2.length) W7 : Nat) : Int) := by { unfold szR; split <;> omega }; omega)) rfl))
theorem b0u (h0 : a0a.length ≤ 1048576) (h1 : I9 (fun x => x.2.length) W7 ≤ 1048576) : Tr Tryz.prog 31 [.agg #[.slice a0i a0g a0h, .slice X0 W8 W9]] (fun w L => Ro w L eIs [.slice a0i a0g a0h] a0a ∧ Ro w L B7 [.slice X0 W8 W9] W7) [] (κ := (Option Addr × Nat × Nat) × (Option Addr × Nat × Nat)) (fun k => True) (fun k => .agg #[.slice k.1.1 k.1.2.1 k.1.2.2, .slice k.2.1 k.2.2.1 k.2.2.2]) (fun k => [ow eIs [.slice k.1.1 k.1.2.1 k.1.2.2] a0a, ow B7 [.slice k.2.1 k.2.2.1 k.2.2.2] W7]) := by
 refine n9 Tryz.func31 rfl (n := 13) rfl (by decide +kernel) bl (fr := [(0, .agg #[.slice a0i a0g a0h, .slice X0 W8 W9])]) rfl fun w L hR => ?_
 obtain ⟨a3m, a2y⟩ := hR
 obtain ⟨rfl, b0O⟩ := a3m.slen
 obtain ⟨rfl, a9l⟩ := a2y.slen
 refine Ew Z2 (Est rfl (N.box (cs := [_, _]) rfl dc rfl) (fun b1 _ => (Est rfl (N.alloc ty_Query dc) (fun b2 _ => (Ev Z1 (Est rfl (N.alloc ty_Query dc) (fun b3 _ => (Ev Z5 (Ey rfl ((j7 fo_lQuery_0 ty_Is dc rfl).yd) (Ey rfl (g9 ty_Is rfl (Hz (mS (mS m0)) 0 rfl) rfl) (Est rfl (N.call (Y3 fc) rfl rfl rfl dc rfl (fun w Lp hA => hA.ro a3m)) (fun k6 _ => ?_))))))))))))
 obtain ⟨a6, m6, c6⟩ := k6
 refine i9 m0 fun e6 l6 => ?_
 subst e6
 refine Ey rfl ((j7 fo_Query_0 ty_Is dc rfl).yd) (i7 (Est rfl (Ns [_, _] ty_Is rfl) (fun _ _ => (Ev Z5 (Ey rfl ((j7 fo_lQuery_1 ty_lAtoms dc rfl).yd) (Ey rfl (g9 ty_lAtoms rfl (Hz (mS (mS (mS m0))) 1 rfl) rfl) (Est rfl (N.call (a5w fc) rfl rfl rfl dc rfl (fun w Lp hA => hA.ro a2y)) (fun k10 _ => ?_))))))))
 obtain ⟨a10, m10, c10⟩ := k10
 refine i9 m0 fun e10 l10 => ?_
 subst e10
 refine Ey rfl ((j7 fo_Query_1 ty_Atoms dc rfl).yd) (i7 (Est rfl (Ns [_, _] ty_Atoms rfl) (fun _ _ => (Ev Z2 (Ey rfl (o9 (cs := [_, _]) ty_Query rfl (Has.pt m0) rfl) (w7 (Est rfl (Ns [_, _] ty_Query rfl) (fun _ _ => (Eu (E.ret (r5 (w7 (i7 (i7 ?_))))))))))))))
 exact a2k br rfl rfl (mS (mS m0)) ty_Query rfl ((_, _, _), (_, _, _)) trivial rfl (J := _) (.refl _) (.inl rfl)
theorem b0j {a9m : Option Addr} {a9n a9o : Nat} {b5N : List Int} {a7E : Option Addr} {a7F a7G : Nat} {b4q : List (Int × List Int)} : Tr Tryz.prog 35 [.agg #[.slice a0i a0g a0h, .slice X0 W8 W9], .agg #[.slice a9m a9n a9o, .slice a7E a7F a7G]] (fun w L => Ro w L eIs [.slice a0i a0g a0h] a0a ∧ Ro w L B7 [.slice X0 W8 W9] W7 ∧ Ro w L eIs [.slice a9m a9n a9o] b5N ∧ Ro w L B7 [.slice a7E a7F a7G] b4q) [] (κ := Unit) (fun k => True) (fun k => .bool (decide ((a0a, W7) = (b5N, b4q)))) (fun k => []) := by
 refine n9 Tryz.func35 rfl (n := 17) rfl (by decide +kernel) bl (fr := [(0, .agg #[.slice a0i a0g a0h, .slice X0 W8 W9]), (1, .agg #[.slice a9m a9n a9o, .slice a7E a7F a7G])]) rfl fun w L hR => ?_
 obtain ⟨a3m, a2y, b4r, b3s⟩ := hR
 obtain ⟨rfl, b0O⟩ := a3m.slen
 obtain ⟨rfl, a9l⟩ := a2y.slen
 obtain ⟨rfl, c0P⟩ := b4r.slen
 obtain ⟨rfl, c0F⟩ := b3s.slen
 refine Ew Z3 (Est rfl (N.box (cs := [_, _]) rfl dc rfl) (fun b2 _ => (Est rfl (N.box (cs := [_, _]) rfl dc rfl) (fun b3 _ => (Ei rfl (Eu (Eq_ (Ew Z6 (Ey rfl ((j7 fo_Query_0 ty_Is dc rfl).yd) (Ey rfl (g9 ty_Is rfl (Hz (mS m0) 0 rfl) rfl) (Ey rfl ((j7 fo_Query_0 ty_Is dc rfl).yd) (Ey rfl (g9 ty_Is rfl (Hz m0 0 rfl) rfl) (Est rfl (n0 a0z rfl rfl rfl dc (fun w Lp hA => ⟨hA.ro a3m, hA.ro b4r⟩)) (fun _ _ => (Ent.b (fun q9 => ?_) (fun q9 => ?_))))))))))))))))
 ·refine Ey rfl ((Y.not (b := true) rfl).yd) (Eu (o3 rfl (j5 (Et (Eq_ (Ew Z6 (Ey rfl ((j7 fo_Query_1 ty_Atoms dc rfl).yd) (Ey rfl (g9 ty_Atoms rfl (Hz (mS m0) 1 rfl) rfl) (Ey rfl ((j7 fo_Query_1 ty_Atoms dc rfl).yd) (Ey rfl (g9 ty_Atoms rfl (Hz m0 1 rfl) rfl) (Est rfl (n0 a5D rfl rfl rfl dc (fun w Lp hA => ⟨hA.ro a2y, hA.ro b3s⟩)) (fun _ _ => (Ent.b (fun q15 => ?_) (fun q15 => ?_))))))))))))))
  ·refine Ey rfl ((Y.not (b := true) rfl).yd) (Eu (o3 rfl (j5 (Et (Ew Z1 (Ei rfl ?_))))))
   exact Eu (E.ret (Fb rfl rfl (by simp_all)))
  ·refine Ey rfl ((Y.not (b := false) rfl).yd) (Eu (o2 rfl (Ew Z1 (Ei rfl ?_))))
   exact Eu (E.ret (l4 (Fb rfl rfl (by simp_all))))
 ·refine Ey rfl ((Y.not (b := false) rfl).yd) (Eu (o2 rfl (Ew Z1 (Ei rfl ?_))))
  exact Eu (E.ret (l4 (Fb rfl rfl (by simp_all))))
theorem a4v : Tr Tryz.prog 80 [.slice a_a m_a c_a, .int .i64 v] (fun w L => 0 ≤ v ∧ v + ((r9 E2 a : Nat) : Int) ≤ 4611686018427387904) [ow B7 [.slice a_a m_a c_a] a] (κ := Unit) (fun k => True) (fun k => .int .i64 (v + (r9 E2 a : Nat))) (fun k => [ow B7 [.slice a_a m_a c_a] (mkL E2 U0 a v)]) := by
 refine n9 Tryz.func80 rfl (n := 27) rfl (by decide +kernel) bl (fr := [(0, .slice a_a m_a c_a), (1, .int .i64 v)]) rfl fun w L hR => ?_
 obtain ⟨as0, as1⟩ := hR
 refine i9 m0 fun ea la => ?_
 subst ea
 refine Ew Z1 (Ei rfl (Eu (Eq_ (Ew Z1 (Ei rfl (Eu (E.block (E.loop (κ := Nat) (fun g => g ≤ a.length) (fun g => [(0, .slice a_a a.length c_a), (1, .int .i64 (v + (r9 E2 (a.take g) : Nat))), (5, .int .i64 (g : Int))]) (fun g => [ow B7 [.slice a_a a.length c_a] (mkL E2 U0 (a.take g) v ++ a.drop g)]) (fun g => a.length - g) 0 (Nat.zero_le _) ⟨rfl, frI (by simp [r9]), rfl, trivial⟩ (.refl _) (fun g pg => ?_)))))))))
 have u1 := R3 (t := E2) (l := a) (g := g)
 have u2 := R3 (t := E2) (l := a) (g := g + 1)
 have hlen : (mkL E2 U0 (a.take g) v ++ a.drop g).length = a.length := by rw [List.length_append, a1H, ← List.length_append, List.take_append_drop]
 refine Eq_ (Ew Z4 (Em rfl (Em rfl (Ey rfl ((Y.len us_Atoms rfl).yd) (Ey rfl ((Y.lss rfl rfl).yd) (o6 (fun q9 => ?_) (fun q9 => ?_)))))))
 ·have u3 := P7 (t := E2) (show g < a.length by omega)
  have u4 : E2 a[g] = 1 + r9 E1 a[g].2 := rfl
  refine Eu (o2 rfl (j5 (Et (Eq_ (E.block (Ew Z6 (Em rfl (Em rfl (Em rfl (a0j m0 om fun ab15 ae15 => (a2e (x := a[g]) g (a7a (show g < a.length by omega)) fun ce15 => (i7 (b5O fun oa15_1 om15_1 oc15_1 oe15 oi15_0 on15_1 => ?_)))))))))))))
  subst oe15
  subst on15_1
  refine Ey rfl ((r7 us_Atoms ty_Atom rfl ae15 rfl g rfl om).yd) (Ey rfl ((j7 fo_Atom_0 i8 dc rfl).yd) (i7 (Est rfl (a5n (f := 0) (kk := 2) (vs := [_]) (ce' := [_, _]) i8 rfl rfl rfl rfl rfl ae15 rfl rfl bl rfl rfl) (fun _ _ => (Ev Z3 (Em rfl (Ey rfl ((Y.add rfl rfl om om).yd) (Ei rfl (Eu (Ez Z8 (Em rfl (Em rfl (Ey rfl ((r7 us_Atoms ty_Atom rfl ae15 rfl g rfl om).yd) (Ey rfl ((j7 fo_Atom_1 ty_Is dc rfl).yd) (Ey rfl (g9 ty_Is rfl ((Has.hole ae15 m0).sub (cs' := [_]) 1 rfl) rfl) (Em rfl (i7 (Est rfl (N.call (pre := [_]) X3 rfl rfl rfl dc rfl (fun w Lp hA => ⟨(by first | assumption | omega), (by first | assumption | omega)⟩)) (fun _ _ => (Ei rfl (En (t7 (Et (Ez Z3 (Em rfl (Ey rfl ((Y.add rfl rfl om om).yd) (Ei rfl (Eu (i7 (a1h (a6E (x := (v + (r9 E2 (a.take g) : Nat), mkL E1 V7 a[g].2 (v + (r9 E2 (a.take g) : Nat) + 1))) i6 Own.ow) rfl ?_))))))))))))))))))))))))))))))
  exact v8 br (g + 1) ⟨rfl, frI om, rfl, trivial⟩ (a4d (a5P (c := E2) (m := U0) (show g < a.length by omega) rfl)) om om
 ·refine Eu (o3 rfl (E.exit (o8 (o8 (x9 (Et (Ew Z2 (Em rfl (Ei rfl (Eu (E.ret (j6 (congrArg (ow B7 [_]) (show mkL E2 U0 (a.take g) v ++ a.drop g = mkL E2 U0 a v from by first | exact a2f om | (rw [U8 om]))) ?_))))))))))))
  exact Fg rfl rfl () (by rw [show (v + (r9 E2 a : Nat)) = (v + (r9 E2 (a.take g) : Nat)) from (by first | exact a2f om | (rw [U8 om]))]; try rfl) rfl
theorem a8z : Tr Tryz.prog 37 [.agg #[.slice a0i a0g a0h, .slice X0 W8 W9], .int .i64 v] (fun w L => 0 ≤ v ∧ v + ((r9 E1 a0a + r9 E2 W7 : Nat) : Int) ≤ 4611686018427387904) [ow eIs [.slice a0i a0g a0h] a0a, ow B7 [.slice X0 W8 W9] W7] (κ := Unit) (fun k => True) (fun k => .int .i64 (v + ((r9 E1 a0a + r9 E2 W7 : Nat) : Int))) (fun k => [ow eIs [.slice a0i a0g a0h] (mkL E1 V7 a0a v), ow B7 [.slice X0 W8 W9] (mkL E2 U0 W7 (v + ((r9 E1 a0a : Nat) : Int)))]) := by
 refine n9 Tryz.func37 rfl (n := 14) rfl (by decide +kernel) bl (fr := [(0, .agg #[.slice a0i a0g a0h, .slice X0 W8 W9]), (1, .int .i64 v)]) rfl fun w L hR => ?_
 obtain ⟨as0, as1⟩ := hR
 refine i9 m0 fun b8c b0O => ?_
 subst b8c
 refine i9 (mS m0) fun b6Q a9l => ?_
 subst b6Q
 refine Ew Z2 (Est rfl (N.box (cs := [_, _]) rfl dc rfl) (fun b2 _ => (Ei rfl (Ev Z5 (Ey rfl ((j7 fo_Query_0 ty_Is dc rfl).yd) (Ey rfl (g9 ty_Is rfl (Hz m0 0 rfl) rfl) (Em rfl (i7 (Est rfl (N.call (pre := [_]) X3 rfl rfl rfl dc rfl (fun w Lp hA => ⟨(by first | assumption | omega), (by first | assumption | omega)⟩)) (fun _ _ => (Ei rfl (Ev Z5 (Ey rfl ((j7 fo_Query_1 ty_Atoms dc rfl).yd) (Ey rfl (g9 ty_Atoms rfl (Hz (mS m0) 1 rfl) rfl) (Em rfl (r5 (Est rfl (N.call (pre := [_]) a4v rfl rfl rfl dc rfl (fun w Lp hA => ⟨(by first | assumption | omega), (by first | assumption | omega)⟩)) (fun _ _ => (Ei rfl (Ev Z2 (Em rfl (Ei rfl (Eu (E.ret (j6 (congrArg (ow B7 [_]) (show mkL E2 U0 W7 (v + (r9 E1 a0a : Nat)) = mkL E2 U0 W7 (v + ((r9 E1 a0a : Nat) : Int)) from by first | rfl | omega | (congr 1; omega))) (i7 ?_))))))))))))))))))))))))))
 exact Fg rfl rfl () (by rw [show (v + ((r9 E1 a0a + r9 E2 W7 : Nat) : Int)) = ((v + (r9 E1 a0a : Nat)) + (r9 E2 W7 : Nat)) from (by first | rfl | omega | (congr 1; omega))]; try rfl) rfl
theorem b0V : Tr Tryz.prog 297 [.slice a_s m_s c_s, .int .i64 v] (fun w L => Ro w L eIs [.slice a_s m_s c_s] s) [] (κ := Unit) (fun k => True) (fun k => .int .i64 (H0 (fun x => decide (x = v)) s)) (fun k => []) := by
 refine n9 Tryz.func297 rfl (n := 19) rfl (by decide +kernel) bl (fr := [(0, .slice a_s m_s c_s), (1, .int .i64 v)]) rfl fun w L hR => ?_
 have hs := hR
 obtain ⟨rfl, ls⟩ := hs.slen
 refine Ew Z1 (Ei rfl (Eu (Eq_ (Ew Z3 (Em rfl (Ey rfl ((Y.len us_Is rfl).yd) (Em rfl (Eu (E.block (E.loop (κ := Nat) (fun g => g ≤ s.length ∧ ∀ x ∈ s.take g, decide (x = v) = false) (fun g => [(0, .slice a_s s.length c_s), (1, .int .i64 v), (7, .int .i64 (↑s.length : Int)), (8, .int .i64 (g : Int))]) (fun g => []) (fun g => s.length - g) 0 ⟨by omega, by simp⟩ ⟨rfl, rfl, rfl, rfl, trivial⟩ (.refl _) (fun g pg => ?_)))))))))))
 obtain ⟨pk, pa⟩ := pg
 refine Ew Z1 (Ey rfl ((Y.lss rfl rfl).yd) (o6 (fun q9 => ?_) (fun q9 => ?_)))
 ·refine Eu (Eq_ (o2 rfl (j5 (Et (Eq_ (E.block (Ew Z2 (Em rfl (Ei rfl (Ev Z6 (Em rfl (Em rfl (Em rfl ?_)))))))))))))
  obtain ⟨eb14, eo14, ea14, ei14, eh14⟩ := hs.elemI g om
  refine Ey rfl ((r7 us_Is i8 rfl ea14 rfl g rfl om).yd) (Ey rfl (g9 i8 rfl (eh14 _) rfl) (Ey rfl ((Y.eql rfl rfl).yd) (o6 (fun q16 => ?_) (fun q16 => ?_))))
  ·refine Eu (o2 rfl (Ew Z2 (Em rfl (Ei rfl ?_))))
   exact Eu (E.ret (w5 (l4 (l4 (w5 (l4 (Fg rfl rfl () (congrArg (Value.int .i64) (by exact P0 (p := fun x => decide (x = v)) om pa (decide_eq_true om))) rfl)))))))
  ·refine Eu (o3 rfl (j5 (t7 (Et (Ez Z2 (Ey rfl ((Y.add rfl rfl om om).yd) (Em rfl ?_)))))))
   exact Eu (v8 br (g + 1) rs (.refl _) ⟨by omega, T2 (p := fun x => decide (x = v)) om pa (decide_eq_false om)⟩ om)
 ·refine Eu (Eq_ (o3 rfl (E.exit (o8 (o8 (x9 (Et (Ew Z1 (Ei rfl ?_)))))))))
  exact Eu (E.ret (Fg rfl rfl () (congrArg (Value.int .i64) (by exact O2 om pa)) rfl))
theorem a1f : Tr Tryz.prog 243 [.int .i64 t] (fun w L => True) [] (κ := Unit) (fun k => True) (fun k => .bool (inR t 10 17)) (fun k => []) := by
 refine n9 Tryz.func243 rfl (n := 5) rfl (by decide +kernel) bl (fr := [(0, .int .i64 t)]) rfl fun w L hR => (Ew Z1 (Ei rfl (Ev Z3 (Em rfl (Est rfl (n0 K2 rfl rfl rfl dc tv) (fun _ _ => (Ei rfl ?_)))))))
 exact Eu (E.ret (Fg rfl rfl () rfl rfl))
theorem a1C : Tr Tryz.prog 250 [.int .i64 t] (fun w L => True) [] (κ := Unit) (fun k => True) (fun k => .bool (inR t 10 17)) (fun k => []) := by
 refine n9 Tryz.func250 rfl (n := 5) rfl (by decide +kernel) bl (fr := [(0, .int .i64 t)]) rfl fun w L hR => (Ew Z1 (Ei rfl (Ev Z3 (Em rfl (Est rfl (n0 Q4 rfl rfl rfl dc tv) (fun _ _ => (Ei rfl ?_)))))))
 exact Eu (E.ret (Fg rfl rfl () rfl rfl))
theorem a3A : Tr Tryz.prog 277 [.agg #[.slice y6 D5 y7, .slice s4 u5 s5], .int .i64 t] (fun w L => Ro w L eIs [.slice y6 D5 y7] j9 ∧ Ro w L eIs [.slice s4 u5 s5] f8) [] (κ := Unit) (fun k => True) (fun k => .int .i64 (H0 (fun x => decide (x = t)) (j9.take (min j9.length f8.length)))) (fun k => []) := by
 refine n9 Tryz.func277 rfl (n := 17) rfl (by decide +kernel) bl (fr := [(0, .agg #[.slice y6 D5 y7, .slice s4 u5 s5]), (1, .int .i64 t)]) rfl fun w L hR => ?_
 obtain ⟨E0, w4⟩ := hR
 obtain ⟨rfl, a0u⟩ := E0.slen
 obtain ⟨rfl, O3⟩ := w4.slen
 refine Ew Z2 (Est rfl (N.box (cs := [_, _]) rfl dc rfl) (fun b2 _ => (Ei rfl (Ev Z13 (Ey rfl ((j7 fo_Binding_0 ty_Is dc rfl).yd) (Ey rfl (g9 ty_Is rfl (Hz m0 0 rfl) rfl) (Ey rfl ((j7 fo_Binding_0 ty_Is dc rfl).yd) (Ey rfl (g9 ty_Is rfl (Hz m0 0 rfl) rfl) (Ey rfl ((Y.len us_Is rfl).yd) (Ey rfl ((j7 fo_Binding_1 ty_Is dc rfl).yd) (Ey rfl (g9 ty_Is rfl (Hz m0 1 rfl) rfl) (Ey rfl ((Y.len us_Is rfl).yd) (Ey rfl ((b9O (a := j9.length) (b := f8.length) rfl rfl).yd) ?_)))))))))))))
 have rs14 := E0.upto (min j9.length f8.length) om
 have rl14 := rs14.slen.1
 have rc14 := E0.cap
 refine Ey rfl ((a4j (h := min j9.length f8.length) us_Is i8 rfl rfl om).yd) (Em rfl (Est rfl (n0 b0V rfl rfl rfl dc (fun w Lp hA => hA.ro rs14)) (fun _ _ => (Ei rfl ?_))))
 exact Eu (E.ret (Fg rfl rfl () rfl rfl))
theorem a0U : Tr Tryz.prog 209 [.agg #[.slice y6 D5 y7, .slice s4 u5 s5], .int .i64 term] (fun w L => Ro w L eIs [.slice y6 D5 y7] j9 ∧ Ro w L eIs [.slice s4 u5 s5] f8) [] (κ := Unit) (fun k => True) (fun k => .int .i64 (F3 (j9, f8) term)) (fun k => []) := by
 refine n9 Tryz.func209 rfl (n := 20) rfl (by decide +kernel) bl (fr := [(0, .agg #[.slice y6 D5 y7, .slice s4 u5 s5]), (1, .int .i64 term)]) rfl fun w L hR => ?_
 obtain ⟨E0, w4⟩ := hR
 obtain ⟨rfl, a0u⟩ := E0.slen
 obtain ⟨rfl, O3⟩ := w4.slen
 refine Ew Z2 (Est rfl (N.box (cs := [_, _]) rfl dc rfl) (fun b2 _ => (Ei rfl (Eu (Eq_ (Ew Z3 (Em rfl (Est rfl (n0 a1C rfl rfl rfl dc tv) (fun _ _ => (Ent.b (fun q7 => ?_) (fun q7 => ?_)))))))))))
 ·refine Ey rfl ((Y.not (b := true) rfl).yd) (Eu (o3 rfl (j5 (Et (Ew Z4 (Ey rfl (o9 (cs := [_, _]) ty_Binding rfl (Has.pt m0) rfl) (Em rfl (Est rfl (n0 a3A rfl rfl rfl dc (fun w Lp hA => ⟨hA.ro E0, hA.ro w4⟩)) (fun _ _ => (Ei rfl (Eu (Eq_ (Ew Z2 (Em rfl (Ey rfl ((Y.lss rfl rfl).yd) (o6 (fun q14 => ?_) (fun q14 => ?_)))))))))))))))))
  ·refine Eu (o2 rfl (Ew Z1 (Ei rfl ?_)))
   exact Eu (E.ret (l4 (Fg rfl rfl () (congrArg (Value.int .i64) (by exact b2Q q7 q14)) rfl)))
  ·obtain ⟨z1, z2⟩ := a7p q14
   rw [List.length_take] at z2
   refine Eu (o3 rfl (j5 (Et (Ew Z6 (Ey rfl ((j7 fo_Binding_1 ty_Is dc rfl).yd) (Ey rfl (g9 ty_Is rfl (Hz m0 1 rfl) rfl) (Em rfl ?_)))))))
   obtain ⟨eb18, eo18, ea18, ei18, eh18⟩ := w4.elemI ((H0 (fun x => decide (x = term)) (j9.take (min j9.length f8.length))).toNat) om
   refine Ey rfl ((r7 us_Is i8 rfl ea18 rfl ((H0 (fun x => decide (x = term)) (j9.take (min j9.length f8.length))).toNat) om om).yd) (Ey rfl (g9 i8 rfl (eh18 _) rfl) (Ei rfl ?_))
   exact Eu (E.ret (Fg rfl rfl () (congrArg (Value.int .i64) (by exact b6C (b := (j9, f8)) q7 q14 (show (H0 (fun x => decide (x = term)) (j9.take (min j9.length f8.length))).toNat < f8.length by omega))) rfl))
 ·refine Ey rfl ((Y.not (b := false) rfl).yd) (Eu (o2 rfl (Ew Z2 (Em rfl (Ei rfl ?_)))))
  exact Eu (E.ret (l4 (Fg rfl rfl () (congrArg (Value.int .i64) (by exact b0t q7)) rfl)))
theorem a2F : Tr Tryz.prog 171 [.agg #[.slice y6 D5 y7, .slice s4 u5 s5], .int .i64 term] (fun w L => Ro w L eIs [.slice y6 D5 y7] j9 ∧ Ro w L eIs [.slice s4 u5 s5] f8) [] (κ := Unit) (fun k => True) (fun k => .int .i64 (F3 (j9, f8) term)) (fun k => []) := by
 refine n9 Tryz.func171 rfl (n := 36) rfl (by decide +kernel) bl (fr := [(0, .agg #[.slice y6 D5 y7, .slice s4 u5 s5]), (1, .int .i64 term)]) rfl fun w L hR => ?_
 obtain ⟨E0, w4⟩ := hR
 obtain ⟨rfl, a0u⟩ := E0.slen
 obtain ⟨rfl, O3⟩ := w4.slen
 refine Ew Z2 (Est rfl (N.box (cs := [_, _]) rfl dc rfl) (fun b2 _ => (Ei rfl (Eu (Eq_ (Ew Z3 (Em rfl (Est rfl (n0 a1f rfl rfl rfl dc tv) (fun _ _ => (Ent.b (fun q7 => ?_) (fun q7 => ?_)))))))))))
 ·refine Ey rfl ((Y.not (b := true) rfl).yd) (Eu (o3 rfl (j5 (Et (Eq_ (Ew Z1 (Ei rfl (Eu (E.block (E.loop (κ := Nat) (fun g => (g ≤ j9.length ∧ g ≤ f8.length) ∧ ∀ x ∈ j9.take g, decide (x = term) = false) (fun g => [(1, .int .i64 term), (2, .pointer (some ⟨b2, 0, none⟩)), (5, .int .i64 (g : Int))]) (fun g => [pt b2 125 [.slice y6 j9.length y7, .slice s4 f8.length s5]]) (fun g => j9.length - g) 0 ⟨by omega, by simp⟩ ⟨rfl, rfl, rfl, trivial⟩ (.refl _) (fun g pg => ?_)))))))))))
  obtain ⟨pk, pa⟩ := pg
  refine Eq_ (Ew Z12 (Em rfl (Ey rfl ((j7 fo_Binding_0 ty_Is dc rfl).yd) (Ey rfl (g9 ty_Is rfl (Hz m0 0 rfl) rfl) (Ey rfl ((Y.len us_Is rfl).yd) (Ey rfl ((Y.lss rfl rfl).yd) (o6 (fun q14 => ?_) (fun q14 => ?_))))))))
  ·refine Em rfl (Em rfl (Ey rfl ((j7 fo_Binding_1 ty_Is dc rfl).yd) (Ey rfl (g9 ty_Is rfl (Hz m0 1 rfl) rfl) (Ey rfl ((Y.len us_Is rfl).yd) (Ey rfl ((Y.lss rfl rfl).yd) (o6 (fun q20 => ?_) (fun q20 => ?_)))))))
   ·refine Ey rfl ((u7 rfl rfl).yd) (Eu (o2 rfl (j5 (Et (Eq_ (E.block (Ew Z7 (Ey rfl ((j7 fo_Binding_0 ty_Is dc rfl).yd) (Ey rfl (g9 ty_Is rfl (Hz m0 0 rfl) rfl) (Em rfl ?_))))))))))
    obtain ⟨eb27, eo27, ea27, ei27, eh27⟩ := E0.elemI g om
    refine Ey rfl ((r7 us_Is i8 rfl ea27 rfl g rfl om).yd) (Ey rfl (g9 i8 rfl (eh27 _) rfl) (Em rfl (Ey rfl ((Y.eql rfl rfl).yd) (o6 (fun q30 => ?_) (fun q30 => ?_)))))
    ·refine Eu (o2 rfl (Ew Z6 (Ey rfl ((j7 fo_Binding_1 ty_Is dc rfl).yd) (Ey rfl (g9 ty_Is rfl (Hz m0 1 rfl) rfl) (Em rfl ?_)))))
     obtain ⟨eb34, eo34, ea34, ei34, eh34⟩ := w4.elemI g om
     refine Ey rfl ((r7 us_Is i8 rfl ea34 rfl g rfl om).yd) (Ey rfl (g9 i8 rfl (eh34 _) rfl) (Ei rfl ?_))
     exact Eu (E.ret (w5 (l4 (l4 (w5 (l4 (Fg rfl rfl () (congrArg (Value.int .i64) (by exact b3j (b := (j9, f8)) q7 (show g < j9.length by omega) (show g < f8.length by omega) om pa)) rfl)))))))
    ·refine Eu (o3 rfl (j5 (t7 (Et (Ez Z3 (Em rfl (Ey rfl ((Y.add rfl rfl om om).yd) (Ei rfl ?_))))))))
     exact Eu (v8 br (g + 1) rs (.refl _) ⟨by omega, T2 (p := fun x => decide (x = term)) (show g < j9.length by omega) pa (decide_eq_false q30)⟩ om)
   ·refine Ey rfl ((u7 rfl rfl).yd) (Eu (o3 rfl (E.exit (o8 (o8 (x9 (Et (Ew Z1 (Ei rfl ?_)))))))))
    exact Eu (E.ret (Fg rfl rfl () (congrArg (Value.int .i64) (by exact b1m (b := (j9, f8)) q7 (g := g) (show ¬ (g < j9.length ∧ g < f8.length) by omega) pa)) rfl))
  ·refine Em rfl (Es rfl (Es rfl (Es rfl (Es rfl (Es rfl (Ey rfl ((u0 rfl rfl).yd) (Eu (o3 rfl (E.exit (o8 (o8 (x9 (Et (Ew Z1 (Ei rfl ?_)))))))))))))))
   exact Eu (E.ret (Fg rfl rfl () (congrArg (Value.int .i64) (by exact b1m (b := (j9, f8)) q7 (g := g) (show ¬ (g < j9.length ∧ g < f8.length) by omega) pa)) rfl))
 ·refine Ey rfl ((Y.not (b := false) rfl).yd) (Eu (o2 rfl (Ew Z2 (Em rfl (Ei rfl ?_)))))
  exact Eu (E.ret (l4 (Fg rfl rfl () (congrArg (Value.int .i64) (by exact b0t q7)) rfl)))
theorem b0G {x7 : Option Addr} {C6 x8 : Nat} {o0 : List Int} {v6 : Option Addr} {B3 v7 : Nat} {d7 : List (Int × List Int)} (hz : o0.length ≤ 1048576) : Tr Tryz.prog 197 [.agg #[.slice x7 C6 x8, .slice v6 B3 v7], .agg #[.slice y6 D5 y7, .slice s4 u5 s5]] (fun w L => Ro w L eIs [.slice x7 C6 x8] o0 ∧ Ro w L B7 [.slice v6 B3 v7] d7 ∧ Ro w L eIs [.slice y6 D5 y7] j9 ∧ Ro w L eIs [.slice s4 u5 s5] f8) [] (κ := Option Addr × Nat × Nat) (fun k => True) (fun k => .slice k.1 k.2.1 k.2.2) (fun k => [ow eIs [.slice k.1 k.2.1 k.2.2] (o0.map (F3 (j9, f8)))]) := by
 refine n9 Tryz.func197 rfl (n := 24) rfl (by decide +kernel) bl (fr := [(0, .agg #[.slice x7 C6 x8, .slice v6 B3 v7]), (1, .agg #[.slice y6 D5 y7, .slice s4 u5 s5])]) rfl fun w L hR => ?_
 obtain ⟨F6, D4, E0, w4⟩ := hR
 obtain ⟨rfl, a0t⟩ := F6.slen
 obtain ⟨rfl, X6⟩ := D4.slen
 obtain ⟨rfl, a0u⟩ := E0.slen
 obtain ⟨rfl, O3⟩ := w4.slen
 have jv := a7x (b := (j9, f8)) (l := o0) F6.i64 E0.i64 w4.i64
 refine Ew Z3 (Est rfl (N.box (cs := [_, _]) rfl dc rfl) (fun b2 _ => (Est rfl (N.box (cs := [_, _]) rfl dc rfl) (fun b3 _ => (Ei rfl (Ev Z2 (Est rfl (Nb [] [] us_Is i8 rfl rfl) (fun b8 _ => (Ent.drop (Ei rfl (Eu (Eq_ (Ew Z4 (Ey rfl ((j7 fo_Query_0 ty_Is dc rfl).yd) (Ey rfl (g9 ty_Is rfl (Hz (mS m0) 0 rfl) rfl) (Ey rfl ((Y.len us_Is rfl).yd) (Em rfl (Eu (E.block (s3 (A := []) (Own.nil (E := Enc.int) (e := tI) (a := (some ⟨b8, 0, none⟩))) rfl (j6 (congrArg (ow eIs [_]) (show [] = (o0.take 0).map (F3 (j9, f8)) from by first | rfl | (simp; done) | grind [d1, d2, t1, t2])) (E.loop (κ := Nat × Option Addr × Nat × Nat) (fun g => g.1 ≤ o0.length ∧ True) (fun g => [(3, .pointer (some ⟨b3, 0, none⟩)), (5, .slice g.2.1 g.2.2.1 g.2.2.2), (10, .slice x7 o0.length x8), (11, .int .i64 (↑o0.length : Int)), (12, .int .i64 (↑g.1 : Int))]) (fun g => [ow eIs [.slice g.2.1 g.2.2.1 g.2.2.2] ((o0.take g.1).map (F3 (j9, f8))), pt b3 125 [.slice y6 j9.length y7, .slice s4 f8.length s5], pt b2 61 [.slice x7 o0.length x8, .slice v6 d7.length v7]]) (fun g => o0.length - g.1) (0, (some ⟨b8, 0, none⟩), 0, 0) ⟨Nat.zero_le _, by simp⟩ ⟨rfl, rfl, rfl, rfl, rfl, trivial⟩ (.refl _) (fun g pg => ?_)))))))))))))))))))))))
 obtain ⟨g, aA0_0, mA0_0, cA0_0⟩ := g
 try dsimp only at pg
 try dsimp only
 obtain ⟨pk, pa⟩ := pg
 refine i9 m0 fun eaA0_0 laA0_0 => ?_
 subst eaA0_0
 refine Ew Z1 (Ey rfl ((Y.lss rfl rfl).yd) (o6 (fun q13 => ?_) (fun q13 => ?_)))
 ·obtain ⟨eb14, eo14, ea14, ei14, eh14⟩ := F6.elemI g om
  refine Eu (Eq_ (o2 rfl (j5 (Et (Eq_ (E.block (Ew Z3 (Ey rfl ((r7 us_Is i8 rfl ea14 rfl g rfl om).yd) (Ey rfl (g9 i8 rfl (eh14 _) rfl) (Ei rfl (Eu (Ez Z7 (Em rfl (Ey rfl (o9 (cs := [_, _]) ty_Binding rfl (Has.pt (mS m0)) rfl) (Em rfl (Est rfl (n0 a0U rfl rfl rfl dc (fun w Lp hA => ⟨hA.ro E0, hA.ro w4⟩)) (fun _ _ => (Est rfl (Nb [_] [_] us_Is i8 rfl rfl) (fun b20 _ => (i7 (Est rfl (D6 (E := Enc.int) (ex := F3 (j9, f8) o0[g]) us_Is i8 rfl rfl rfl (Own.int i6) rfl bn bn dc) (fun p21 _ => (Ei rfl (En (t7 (Et (Ez Z2 (Ey rfl ((Y.add rfl rfl om om).yd) (Em rfl (Eu (j6 (congrArg (ow eIs [_]) (show ((o0.take g).map (F3 (j9, f8))) ++ [F3 (j9, f8) o0[g]] = (o0.take (g + 1)).map (F3 (j9, f8)) from by grind [d1, d2, t1, t2])) (r5 (r5 (r5 ?_))))))))))))))))))))))))))))))))))
  exact Ea (g + 1, p21.1, (((o0.take g).map (F3 (j9, f8))).length + 1), p21.2) ⟨oz, trivial⟩
 ·refine Eu (Eq_ (o3 rfl (E.exit (o8 (o8 (x9 (Et (Ew Z2 (Em rfl (Ei rfl (Eu (E.ret (j6 (congrArg (ow eIs [_]) (show _ = o0.map (F3 (j9, f8)) by grind [d1, d2, t1, t2])) ?_)))))))))))))
  exact Fg rfl rfl (_, _, _) rfl rfl
end Go.Proofs.YtdopeopehgdccaaGreat
