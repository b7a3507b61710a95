import Derived.Test.YtdopeopehgdccaaGreatT16
namespace Go.Proofs.YtdopeopehgdccaaGreat
open Go.RowKit
set_option linter.all false
set_option maxHeartbeats 2000000
attribute [local irreducible] Nop Yd Yp Ent Has Tr FnP FnP2 Src
variable {l3 left v t term : Int} {a a2D d4 : List (Int × List Int)} {s f7 a3x l2 j5 f6 : List Int} {m_s c_s x8 u6 m_a c_a a1I a1J a0Z a1a D9 B4 x6 u8 s8 o9 s5 o1 : Nat} {a_s u7 a_a a1K a1b B5 u9 r5 o2 : Option Addr}
theorem a0X (hz : s.length ≤ 1048576) : Tr Tryz.prog 163 [.slice a_s m_s c_s] (fun w L => Ro w L eIs [.slice a_s m_s c_s] s) [] (κ := Option Addr × Nat × Nat) (fun k => True) (fun k => .slice k.1 k.2.1 k.2.2) (fun k => [ow eIs [.slice k.1 k.2.1 k.2.2] s]) := by
 refine l0 Tryz.func163 rfl (n := 8) rfl (by decide +kernel) bl (fr := [(0, .slice a_s m_s c_s)]) rfl fun w L hR => ?_
 have hs := hR
 obtain ⟨rfl, ls⟩ := hs.slen
 refine Ew Z1 (Ei rfl (Eu (Eq_ (Ew Z2 (Em rfl (Ey rfl ((b4p us_Is rfl rfl).yd) (Ent.b (fun q4 => ?_) (fun q4 => ?_))))))))
 ·refine Eu (o5 rfl (Ew Z1 (Ei rfl (Eu (E.ret (l4 (s7 (A := []) (Own.nil (E := Enc.int) (e := tI) (a := none)) rfl (i9 (congrArg (ow eIs [_]) (show _ = s by (cases a_s with | none => exact hs.none_nil.symm | some x => cases q4))) ?_))))))))
  exact Fg rfl rfl (none, 0, 0) rfl rfl
 ·refine Eu (o4 rfl (i7 (Et (Ew Z4 (Est rfl (Nb [] [] us_Is i8 rfl rfl) (fun b5 _ => (Ent.drop (Em rfl (Est rfl (K7 (E := Enc.int) Plain.int us_Is i8 rfl rfl rfl hs bn bn dc) (fun p7 _ => (Ei rfl ?_)))))))))))
  exact Eu (E.ret (Fg rfl rfl (_, _, _) rfl rfl))
theorem b2r : Tr Tryz.prog 167 [.agg #[.int .i64 l3, .slice u7 x8 u6], .int .i64 left] (fun w L => I64 l3 ∧ Ro w L eIs [.slice u7 x8 u6] f7 ∧ 0 ≤ left ∧ left ≤ 1048576) [] (κ := Unit) (fun k => True) (fun k => .int .i64 (szR (f7.length) left)) (fun k => []) := by
 refine l0 Tryz.func167 rfl (n := 12) rfl (by decide +kernel) bl (fr := [(0, .agg #[.int .i64 l3, .slice u7 x8 u6]), (1, .int .i64 left)]) rfl fun w L hR => ?_
 obtain ⟨I0, y7, as0, as1⟩ := hR
 obtain ⟨rfl, P3⟩ := y7.slen
 refine Ew Z2 (Est rfl (N.box (cs := [_, _]) rfl dc rfl) (fun b2 _ => (Ei rfl (Ev Z5 (Ey rfl ((j6 fo_lAtom_1 ty_Is dc rfl).yd) (Ey rfl (g9 ty_Is rfl (Hz m0 1 rfl) rfl) (Em rfl (Est rfl (n0 a2M rfl rfl rfl dc (fun w Lp hA => ⟨hA.ro y7, (by first | assumption | omega), (by first | assumption | omega)⟩)) (fun _ _ => (Ei rfl (Eu (Eq_ (Ew Z2 (Em rfl (Ey rfl ((Y.lss rfl rfl).yd) (o7 (fun q10 => ?_) (fun q10 => ?_)))))))))))))))))
 ·have z10 := a0Q q10 om
  refine Eu (o5 rfl (Ew Z1 (Ei rfl ?_)))
  exact Eu (E.ret (l4 (Fg rfl rfl () (congrArg (Value.int .i64) (by unfold szR; split <;> omega)) rfl)))
 ·obtain ⟨z10, y10⟩ := a1Q q10 om
  refine Eu (o4 rfl (i7 (Et (Ew Z2 (Em rfl (Ei rfl ?_))))))
  exact Eu (E.ret (Fg rfl rfl () (congrArg (Value.int .i64) (by have e : szR (f7.length) left = left - ((f7.length : Nat) : Int) := by { unfold szR; split <;> omega }; omega)) rfl))
theorem b2x (h1 : f7.length ≤ 1048576) : Tr Tryz.prog 176 [.agg #[.int .i64 l3, .slice u7 x8 u6]] (fun w L => I64 l3 ∧ Ro w L eIs [.slice u7 x8 u6] f7) [] (κ := Option Addr × Nat × Nat) (fun k => True) (fun k => .agg #[.int .i64 l3, .slice k.1 k.2.1 k.2.2]) (fun k => [ow eIs [.slice k.1 k.2.1 k.2.2] f7]) := by
 refine l0 Tryz.func176 rfl (n := 12) rfl (by decide +kernel) bl (fr := [(0, .agg #[.int .i64 l3, .slice u7 x8 u6])]) rfl fun w L hR => ?_
 obtain ⟨I0, y7⟩ := hR
 obtain ⟨rfl, P3⟩ := y7.slen
 refine Ew Z2 (Est rfl (N.box (cs := [_, _]) rfl dc rfl) (fun b1 _ => (Est rfl (N.alloc ty_Atom dc) (fun b2 _ => (Ev Z1 (Est rfl (N.alloc ty_Atom dc) (fun b3 _ => (Ev Z4 (Ey rfl ((j6 fo_lAtom_0 i8 dc rfl).yd) (Ey rfl (g9 i8 rfl (Hz (mS (mS m0)) 0 rfl) rfl) (Ey rfl ((j6 fo_Atom_0 i8 dc rfl).yd) (Est rfl (Ns [_, _] i8 rfl) (fun _ _ => (Ev Z5 (Ey rfl ((j6 fo_lAtom_1 ty_Is dc rfl).yd) (Ey rfl (g9 ty_Is rfl (Hz (mS (mS m0)) 1 rfl) rfl) (Est rfl (N.call (X9 fc) rfl rfl rfl dc rfl (fun w Lp hA => hA.ro y7)) (fun k9 _ => ?_))))))))))))))))))
 obtain ⟨a9, m9, c9⟩ := k9
 refine f5 m0 fun e9 l9 => ?_
 subst e9
 refine Ey rfl ((j6 fo_Atom_1 ty_Is dc rfl).yd) (f8 (Est rfl (Ns [_, _] ty_Is rfl) (fun _ _ => (Ev Z2 (Ey rfl (r9 (cs := [_, _]) ty_Atom rfl (Has.pt m0) rfl) (o6 (Est rfl (Ns [_, _] ty_Atom rfl) (fun _ _ => (Eu (E.ret (o6 ?_)))))))))))
 exact a1L br rfl rfl (mS m0) ty_Atom rfl (_, _, _) trivial rfl (J := _) (.refl _) (.inl rfl)
theorem b2G {U5 : Int} {a7H : Option Addr} {a7I a7J : Nat} {b5q : List Int} : Tr Tryz.prog 182 [.agg #[.int .i64 l3, .slice u7 x8 u6], .agg #[.int .i64 U5, .slice a7H a7I a7J]] (fun w L => I64 l3 ∧ Ro w L eIs [.slice u7 x8 u6] f7 ∧ I64 U5 ∧ Ro w L eIs [.slice a7H a7I a7J] b5q) [] (κ := Unit) (fun k => True) (fun k => .bool (decide ((l3, f7) = (U5, b5q)))) (fun k => []) := by
 refine l0 Tryz.func182 rfl (n := 16) rfl (by decide +kernel) bl (fr := [(0, .agg #[.int .i64 l3, .slice u7 x8 u6]), (1, .agg #[.int .i64 U5, .slice a7H a7I a7J])]) rfl fun w L hR => ?_
 obtain ⟨I0, y7, a8m, b4j⟩ := hR
 obtain ⟨rfl, P3⟩ := y7.slen
 obtain ⟨rfl, c1Q⟩ := b4j.slen
 refine Ew Z3 (Est rfl (N.box (cs := [_, _]) rfl dc rfl) (fun b2 _ => (Est rfl (N.box (cs := [_, _]) rfl dc rfl) (fun b3 _ => (Ei rfl (Eu (Eq_ (Ew Z5 (Ey rfl ((j6 fo_Atom_0 i8 dc rfl).yd) (Ey rfl (g9 i8 rfl (Hz (mS m0) 0 rfl) rfl) (Ey rfl ((j6 fo_Atom_0 i8 dc rfl).yd) (Ey rfl (g9 i8 rfl (Hz m0 0 rfl) rfl) (Ey rfl ((Y.neq rfl rfl).yd) (o7 (fun q9 => ?_) (fun q9 => ?_)))))))))))))))
 ·refine Eu (o5 rfl (Ew Z1 (Ei rfl ?_)))
  exact Eu (E.ret (l4 (Fb rfl rfl (by simp_all))))
 ·refine Eu (o4 rfl (i7 (Et (Eq_ (Ew Z6 (Ey rfl ((j6 fo_Atom_1 ty_Is dc rfl).yd) (Ey rfl (g9 ty_Is rfl (Hz (mS m0) 1 rfl) rfl) (Ey rfl ((j6 fo_Atom_1 ty_Is dc rfl).yd) (Ey rfl (g9 ty_Is rfl (Hz m0 1 rfl) rfl) (Est rfl (n0 a0R rfl rfl rfl dc (fun w Lp hA => ⟨hA.ro y7, hA.ro b4j⟩)) (fun _ _ => (Ent.b (fun q14 => ?_) (fun q14 => ?_)))))))))))))
  ·refine Ey rfl ((Y.not (b := true) rfl).yd) (Eu (o4 rfl (i7 (Et (Ew Z1 (Ei rfl ?_))))))
   exact Eu (E.ret (Fb rfl rfl (by simp_all)))
  ·refine Ey rfl ((Y.not (b := false) rfl).yd) (Eu (o5 rfl (Ew Z1 (Ei rfl ?_))))
   exact Eu (E.ret (l4 (Fb rfl rfl (by simp_all))))
theorem b0W : Tr Tryz.prog 82 [.slice a_a m_a c_a, .int .i64 left] (fun w L => Ro w L w9 [.slice a_a m_a c_a] a ∧ 0 ≤ left ∧ left ≤ 1048576) [] (κ := Unit) (fun k => True) (fun k => .int .i64 (szR (B9 (fun x => x.2.length) a) left)) (fun k => []) := by
 refine l0 Tryz.func82 rfl (n := 27) rfl (by decide +kernel) bl (fr := [(0, .slice a_a m_a c_a), (1, .int .i64 left)]) rfl fun w L hR => ?_
 obtain ⟨ha, as0, as1⟩ := hR
 obtain ⟨rfl, la⟩ := ha.slen
 refine Ew Z1 (Ei rfl (Ev Z5 (Em rfl (Em rfl (Ey rfl ((Y.len us_lAtoms rfl).yd) (Ey rfl ((Y.sub rfl rfl om om).yd) (Ei rfl (Eu (Eq_ (Ew Z2 (Em rfl (Ey rfl ((Y.lss rfl rfl).yd) (o7 (fun q11 => ?_) (fun q11 => ?_))))))))))))))
 ·refine Eu (o5 rfl (Ew Z1 (Ei rfl ?_)))
  exact Eu (E.ret (l4 (Fg rfl rfl () (congrArg (Value.int .i64) (by exact a7Z q11)) rfl)))
 ·refine Eu (o4 rfl (i7 (Et (Eq_ (Ew Z1 (Ei rfl (Eu (E.block (E.loop (κ := Nat) (fun g => g ≤ a.length ∧ (a.length : Int) + (u5 (fun x => x.2.length) (a.take g) : Nat) ≤ left) (fun g => [(0, .slice a_a a.length c_a), (1, .int .i64 (left - ((a.length : Int) + (u5 (fun x => x.2.length) (a.take g) : Nat)))), (5, .int .i64 (g : Int))]) (fun g => []) (fun g => a.length - g) 0 ⟨by omega, by simp [u5]; omega⟩ ⟨rfl, frI (by simp [u5]), rfl, trivial⟩ (.refl _) (fun g pg => ?_))))))))))
  obtain ⟨pk, pa⟩ := pg
  refine Eq_ (Ew Z4 (Em rfl (Em rfl (Ey rfl ((Y.len us_lAtoms rfl).yd) (Ey rfl ((Y.lss rfl rfl).yd) (o7 (fun q15 => ?_) (fun q15 => ?_)))))))
  ·refine Eu (o5 rfl (i7 (Et (Eq_ (E.block (Ew Z7 (Em rfl (Em rfl ?_))))))))
   obtain ⟨eb20, eo20, ec20, ea20, er20, el20, eh20⟩ := ha.elem g om
   obtain ⟨xa20_0, xc20_0, rfl, ei20_0, xh20_0⟩ := J6 er20
   have := xh20_0.slen.2
   refine Ey rfl ((s4 us_lAtoms ty_lAtom rfl ea20 rfl g rfl om).yd) (Ey rfl (r9 (cs := [_, _]) ty_lAtom rfl (eh20 _) rfl) (Em rfl (Est rfl (n0 b2r rfl rfl rfl dc (fun w Lp hA => ⟨ei20_0, hA.ro xh20_0, (by first | assumption | omega), (by first | assumption | omega)⟩)) (fun _ _ => (Ei rfl (Ev Z2 (Em rfl (Ey rfl ((Y.lss rfl rfl).yd) (o7 (fun q25 => ?_) (fun q25 => ?_))))))))))
   ·have z25 := a0Q q25 om
    refine Eu (o5 rfl (Ew Z1 (Ei rfl ?_)))
    exact Eu (E.ret (w8 (l4 (l4 (w8 (l4 (Fg rfl rfl () (congrArg (Value.int .i64) (by exact a8f (t := (fun x => x.2.length)) (n := a[g].2.length) (show g < a.length by omega) rfl om)) rfl)))))))
   ·obtain ⟨z25, y25⟩ := a1Q q25 om
    refine Eu (o4 rfl (i7 (t8 (Et (Ez Z3 (Em rfl (Ey rfl ((Y.add rfl rfl om om).yd) (Ei rfl ?_))))))))
    exact Eu (w4 br (g + 1) ⟨rfl, frI (by rw [z25]; have y := N5 (t := (fun x => x.2.length)) (show g < a.length by omega); omega), rfl, trivial⟩ (.refl _) ⟨by omega, by have y := N5 (t := (fun x => x.2.length)) (show g < a.length by omega); omega⟩ om)
  ·refine Eu (o4 rfl (E.exit (o3 (o3 (w3 (Et (Ew Z2 (Em rfl (Ei rfl ?_)))))))))
   exact Eu (E.ret (Fg rfl rfl () (congrArg (Value.int .i64) (by exact a7W (t := (fun x => x.2.length)) (show a.length ≤ g by omega) pa)) rfl))
theorem b1f (hz : B9 (fun x => x.2.length) a ≤ 1048576) : Tr Tryz.prog 91 [.slice a_a m_a c_a] (fun w L => Ro w L w9 [.slice a_a m_a c_a] a) [] (κ := Option Addr × Nat × Nat) (fun k => True) (fun k => .slice k.1 k.2.1 k.2.2) (fun k => [ow w9 [.slice k.1 k.2.1 k.2.2] a]) := by
 refine l0 Tryz.func91 rfl (n := 23) rfl (by decide +kernel) bl (fr := [(0, .slice a_a m_a c_a)]) rfl fun w L hR => ?_
 have ha := hR
 obtain ⟨rfl, la⟩ := ha.slen
 have hlen : a.length ≤ B9 (fun x => x.2.length) a := by unfold B9; omega
 refine Ew Z1 (Ei rfl (Ev Z4 (Em rfl (Ey rfl ((Y.len us_lAtoms rfl).yd) (Est rfl (a5U (m := a.length) us_Atoms ty_Atom rfl rfl rfl mx om dc) (fun b7 _ => (s7 (A := [_]) (a3Z (E := W7) (e := tAtom) (zx := (0, [])) (a1c (x := (0, [])) ⟨by decide, by decide⟩ Own.nil) mx) rfl (Ei rfl (Eu (Eq_ (Ew Z1 (Ei rfl (Eu (E.block (E.loop (κ := Nat) (fun g => g ≤ a.length) (fun g => [(0, .slice a_a a.length c_a), (3, .slice (some ⟨b7, 0, none⟩) a.length a.length), (4, .int .i64 (g : Int))]) (fun g => [ow w9 [.slice (some ⟨b7, 0, none⟩) a.length a.length] (a.take g ++ List.replicate (a.length - g) (0, []))]) (fun g => a.length - g) 0 (Nat.zero_le _) ⟨rfl, rfl, rfl, trivial⟩ (by simp) (fun g pg => (Eq_ (Ew Z4 (Em rfl (Em rfl (Ey rfl ((Y.len us_lAtoms rfl).yd) (Ey rfl ((Y.lss rfl rfl).yd) (o7 (fun q11 => ?_) (fun q11 => ?_))))))))))))))))))))))))
 ·refine Eu (o5 rfl (i7 (Et (Eq_ (E.block (Ez Z9 (Em rfl (Em rfl (Em rfl (Em rfl ?_))))))))))
  obtain ⟨eb18, eo18, ec18, ea18, er18, el18, eh18⟩ := ha.elem g om
  obtain ⟨xa18_0, xc18_0, rfl, ei18_0, xh18_0⟩ := J6 er18
  have := xh18_0.slen.2
  refine Ey rfl ((s4 us_lAtoms ty_lAtom rfl ea18 rfl g rfl om).yd) (Ey rfl (r9 (cs := [_, _]) ty_lAtom rfl (eh18 _) rfl) (Est rfl (N.call (b2x (by have y := a3G (t := (fun x => x.2.length)) (l := a) (g := g) om; omega)) rfl rfl rfl dc rfl (fun w Lp hA => ⟨ei18_0, hA.ro xh18_0⟩)) (fun k20 _ => ?_)))
  obtain ⟨a20, m20, c20⟩ := k20
  refine f5 m0 fun e20 l20 => ?_
  subst e20
  refine Ey rfl ((s4 us_Atoms ty_Atom rfl rfl rfl g rfl om).yd) (f8 (Est rfl (N.set (E := W7) (j := g) (ex := a[g]) (ce := [_, _]) ty_Atom rfl rfl rfl rfl (a1c (x := a[g]) ei18_0 Own.ow) rfl (Nat.zero_add _) rfl (by simp; omega)) (fun _ _ => (En (t8 (Et (Ez Z3 (Em rfl (Ey rfl ((Y.add rfl rfl om om).yd) (Ei rfl ?_))))))))))
  exact Eu (w4 br (g + 1) rs (by rw [a4M om rfl]) om om)
 ·refine Eu (o4 rfl (E.exit (o3 (o3 (w3 (Et (Ew Z2 (Em rfl (Ei rfl (Eu (E.ret (i9 (congrArg (ow w9 [_]) (show _ = a by exact a3j om)) ?_))))))))))))
  exact Fg rfl rfl (_, _, _) rfl rfl
theorem b1o {a_b : Option Addr} {m_b c_b : Nat} {b : List (Int × List Int)} : Tr Tryz.prog 97 [.slice a_a m_a c_a, .slice a_b m_b c_b] (fun w L => Ro w L w9 [.slice a_a m_a c_a] a ∧ Ro w L w9 [.slice a_b m_b c_b] b) [] (κ := Unit) (fun k => True) (fun k => .bool (decide (a = b))) (fun k => []) := by
 refine l0 Tryz.func97 rfl (n := 27) rfl (by decide +kernel) bl (fr := [(0, .slice a_a m_a c_a), (1, .slice a_b m_b c_b)]) rfl fun w L hR => ?_
 obtain ⟨ha, hb⟩ := hR
 obtain ⟨rfl, la⟩ := ha.slen
 obtain ⟨rfl, lb⟩ := hb.slen
 refine Ew Z1 (Ei rfl (Eu (Eq_ (Ew Z5 (Em rfl (Ey rfl ((Y.len us_Atoms rfl).yd) (Em rfl (Ey rfl ((Y.len us_Atoms rfl).yd) (Ey rfl ((Y.neq rfl rfl).yd) (o7 (fun q10 => ?_) (fun q10 => ?_)))))))))))
 ·refine Eu (o5 rfl (Ew Z1 (Ei rfl ?_)))
  exact Eu (E.ret (l4 (Fb rfl rfl (by exact a3d q10))))
 ·refine Eu (o4 rfl (i7 (Et (Eq_ (Ew Z1 (Ei rfl (Eu (E.block (E.loop (κ := Nat) (fun g => g ≤ a.length ∧ a.take g = b.take g) (fun g => [(0, .slice a_a a.length c_a), (1, .slice a_b b.length c_b), (5, .int .i64 (g : Int))]) (fun g => []) (fun g => a.length - g) 0 ⟨by omega, by simp⟩ ⟨rfl, rfl, rfl, trivial⟩ (.refl _) (fun g pg => ?_))))))))))
  obtain ⟨pk, pa⟩ := pg
  refine Eq_ (Ew Z4 (Em rfl (Em rfl (Ey rfl ((Y.len us_Atoms rfl).yd) (Ey rfl ((Y.lss rfl rfl).yd) (o7 (fun q14 => ?_) (fun q14 => ?_)))))))
  ·refine Eu (o5 rfl (i7 (Et (Eq_ (E.block (Eq_ (D.region (fun j => true) mixed (Dyp 0 rfl (o0 rfl) (Dyp 1 rfl (o0 rfl) ?_)))))))))
   obtain ⟨eb19, eo19, ec19, ea19, er19, el19, eh19⟩ := ha.elem g om
   obtain ⟨xa19_0, xc19_0, rfl, ei19_0, xh19_0⟩ := J6 er19
   have := xh19_0.slen.2
   refine Dyp 2 rfl (s4 us_Atoms ty_Atom rfl ea19 rfl g rfl om) (Dy 3 rfl (r9 (cs := [_, _]) ty_Atom rfl (eh19 _) rfl) (Dyp 4 rfl (o0 rfl) (Dyp 5 rfl (o0 rfl) ?_)))
   obtain ⟨eb23, eo23, ec23, ea23, er23, el23, eh23⟩ := hb.elem g om
   obtain ⟨xa23_0, xc23_0, rfl, ei23_0, xh23_0⟩ := J6 er23
   have := xh23_0.slen.2
   refine Dyp 6 rfl (s4 us_Atoms ty_Atom rfl ea23 rfl g rfl om) (Dy 7 rfl (r9 (cs := [_, _]) ty_Atom rfl (eh23 _) rfl) (t6 8 rfl rfl kr (fun _ => rfl) (n0 b2G rfl rfl rfl dc (fun w Lp hA => ⟨ei19_0, hA.ro xh19_0, ei23_0, hA.ro xh23_0⟩)) (fun _ _ => (Ent.b (fun q25 => ?_) (fun q25 => ?_)))))
   ·refine Dyp 9 rfl (Y.not (b := true) rfl) (s3 kr (Et (o4 rfl (i7 (t8 (Et (Ez Z3 (Em rfl (Ey rfl ((Y.add rfl rfl om om).yd) (Ei rfl ?_))))))))))
    exact Eu (w4 br (g + 1) rs (.refl _) ⟨by omega, a1q om om pa (of_decide_eq_true q25)⟩ om)
   ·refine Dyp 9 rfl (Y.not (b := false) rfl) (s3 kr (Et (o5 rfl (Ew Z1 (Ei rfl ?_)))))
    exact Eu (E.ret (w8 (l4 (l4 (w8 (l4 (Fb rfl rfl (by exact a2U (show g < a.length by omega) (show g < b.length by omega) (of_decide_eq_false q25)))))))))
  ·refine Eu (o4 rfl (E.exit (o3 (o3 (w3 (Et (Ew Z1 (Ei rfl ?_))))))))
   exact Eu (E.ret (Fb rfl rfl (by exact a2v (show a.length ≤ g by omega) (show b.length ≤ g by omega) pa)))
theorem b0V : Tr Tryz.prog 28 [.agg #[.slice a1K a1I a1J, .slice a1b a0Z a1a], .int .i64 left] (fun w L => Ro w L eIs [.slice a1K a1I a1J] a3x ∧ Ro w L w9 [.slice a1b a0Z a1a] a2D ∧ 0 ≤ left ∧ left ≤ 1048576) [] (κ := Unit) (fun k => True) (fun k => .int .i64 (szR (a3x.length + B9 (fun x => x.2.length) a2D) left)) (fun k => []) := by
 refine l0 Tryz.func28 rfl (n := 18) rfl (by decide +kernel) bl (fr := [(0, .agg #[.slice a1K a1I a1J, .slice a1b a0Z a1a]), (1, .int .i64 left)]) rfl fun w L hR => ?_
 obtain ⟨a3e, a2p, as0, as1⟩ := hR
 obtain ⟨rfl, b5r⟩ := a3e.slen
 obtain ⟨rfl, b4k⟩ := a2p.slen
 refine Ew Z2 (Est rfl (N.box (cs := [_, _]) rfl dc rfl) (fun b2 _ => (Ei rfl (Ev Z5 (Ey rfl ((j6 fo_lQuery_0 ty_Is dc rfl).yd) (Ey rfl (g9 ty_Is rfl (Hz m0 0 rfl) rfl) (Em rfl (Est rfl (n0 a2M rfl rfl rfl dc (fun w Lp hA => ⟨hA.ro a3e, (by first | assumption | omega), (by first | assumption | omega)⟩)) (fun _ _ => (Ei rfl (Eu (Eq_ (Ew Z2 (Em rfl (Ey rfl ((Y.lss rfl rfl).yd) (o7 (fun q10 => ?_) (fun q10 => ?_)))))))))))))))))
 ·have z10 := a0Q q10 om
  refine Eu (o5 rfl (Ew Z1 (Ei rfl ?_)))
  exact Eu (E.ret (l4 (Fg rfl rfl () (congrArg (Value.int .i64) (by unfold szR; split <;> omega)) rfl)))
 ·obtain ⟨z10, y10⟩ := a1Q q10 om
  refine Eu (o4 rfl (i7 (Et (Ew Z5 (Ey rfl ((j6 fo_lQuery_1 ty_lAtoms dc rfl).yd) (Ey rfl (g9 ty_lAtoms rfl (Hz m0 1 rfl) rfl) (Em rfl (Est rfl (n0 b0W rfl rfl rfl dc (fun w Lp hA => ⟨hA.ro a2p, (by first | assumption | omega), (by first | assumption | omega)⟩)) (fun _ _ => (Ei rfl (Eu (Eq_ (Ew Z2 (Em rfl (Ey rfl ((Y.lss rfl rfl).yd) (o7 (fun q16 => ?_) (fun q16 => ?_)))))))))))))))))
  ·have z16 := a0Q q16 om
   refine Eu (o5 rfl (Ew Z1 (Ei rfl ?_)))
   exact Eu (E.ret (l4 (Fg rfl rfl () (congrArg (Value.int .i64) (by unfold szR; split <;> omega)) rfl)))
  ·obtain ⟨z16, y16⟩ := a1Q q16 om
   refine Eu (o4 rfl (i7 (Et (Ew Z2 (Em rfl (Ei rfl ?_))))))
   exact Eu (E.ret (Fg rfl rfl () (congrArg (Value.int .i64) (by have e : szR (a3x.length + B9 (fun x => x.2.length) a2D) left = left - ((a3x.length + B9 (fun x => x.2.length) a2D : Nat) : Int) := by { unfold szR; split <;> omega }; omega)) rfl))
theorem b0I (h0 : a3x.length ≤ 1048576) (h1 : B9 (fun x => x.2.length) a2D ≤ 1048576) : Tr Tryz.prog 31 [.agg #[.slice a1K a1I a1J, .slice a1b a0Z a1a]] (fun w L => Ro w L eIs [.slice a1K a1I a1J] a3x ∧ Ro w L w9 [.slice a1b a0Z a1a] a2D) [] (κ := (Option Addr × Nat × Nat) × (Option Addr × Nat × Nat)) (fun k => True) (fun k => .agg #[.slice k.1.1 k.1.2.1 k.1.2.2, .slice k.2.1 k.2.2.1 k.2.2.2]) (fun k => [ow eIs [.slice k.1.1 k.1.2.1 k.1.2.2] a3x, ow w9 [.slice k.2.1 k.2.2.1 k.2.2.2] a2D]) := by
 refine l0 Tryz.func31 rfl (n := 13) rfl (by decide +kernel) bl (fr := [(0, .agg #[.slice a1K a1I a1J, .slice a1b a0Z a1a])]) rfl fun w L hR => ?_
 obtain ⟨a3e, a2p⟩ := hR
 obtain ⟨rfl, b5r⟩ := a3e.slen
 obtain ⟨rfl, b4k⟩ := a2p.slen
 refine Ew Z2 (Est rfl (N.box (cs := [_, _]) rfl dc rfl) (fun b1 _ => (Est rfl (N.alloc ty_Query dc) (fun b2 _ => (Ev Z1 (Est rfl (N.alloc ty_Query dc) (fun b3 _ => (Ev Z5 (Ey rfl ((j6 fo_lQuery_0 ty_Is dc rfl).yd) (Ey rfl (g9 ty_Is rfl (Hz (mS (mS m0)) 0 rfl) rfl) (Est rfl (N.call (X9 fc) rfl rfl rfl dc rfl (fun w Lp hA => hA.ro a3e)) (fun k6 _ => ?_))))))))))))
 obtain ⟨a6, m6, c6⟩ := k6
 refine f5 m0 fun e6 l6 => ?_
 subst e6
 refine Ey rfl ((j6 fo_Query_0 ty_Is dc rfl).yd) (f8 (Est rfl (Ns [_, _] ty_Is rfl) (fun _ _ => (Ev Z5 (Ey rfl ((j6 fo_lQuery_1 ty_lAtoms dc rfl).yd) (Ey rfl (g9 ty_lAtoms rfl (Hz (mS (mS (mS m0))) 1 rfl) rfl) (Est rfl (N.call (b1f fc) rfl rfl rfl dc rfl (fun w Lp hA => hA.ro a2p)) (fun k10 _ => ?_))))))))
 obtain ⟨a10, m10, c10⟩ := k10
 refine f5 m0 fun e10 l10 => ?_
 subst e10
 refine Ey rfl ((j6 fo_Query_1 ty_Atoms dc rfl).yd) (f8 (Est rfl (Ns [_, _] ty_Atoms rfl) (fun _ _ => (Ev Z2 (Ey rfl (r9 (cs := [_, _]) ty_Query rfl (Has.pt m0) rfl) (v7 (Est rfl (Ns [_, _] ty_Query rfl) (fun _ _ => (Eu (E.ret (o6 (v7 (f8 (f8 ?_))))))))))))))
 exact a1L br rfl rfl (mS (mS m0)) ty_Query rfl ((_, _, _), (_, _, _)) trivial rfl (J := _) (.refl _) (.inl rfl)
theorem b0K {a9G : Option Addr} {a9H a9I : Nat} {b7e : List Int} {a7K : Option Addr} {a7L a7M : Nat} {b5s : List (Int × List Int)} : Tr Tryz.prog 35 [.agg #[.slice a1K a1I a1J, .slice a1b a0Z a1a], .agg #[.slice a9G a9H a9I, .slice a7K a7L a7M]] (fun w L => Ro w L eIs [.slice a1K a1I a1J] a3x ∧ Ro w L w9 [.slice a1b a0Z a1a] a2D ∧ Ro w L eIs [.slice a9G a9H a9I] b7e ∧ Ro w L w9 [.slice a7K a7L a7M] b5s) [] (κ := Unit) (fun k => True) (fun k => .bool (decide ((a3x, a2D) = (b7e, b5s)))) (fun k => []) := by
 refine l0 Tryz.func35 rfl (n := 17) rfl (by decide +kernel) bl (fr := [(0, .agg #[.slice a1K a1I a1J, .slice a1b a0Z a1a]), (1, .agg #[.slice a9G a9H a9I, .slice a7K a7L a7M])]) rfl fun w L hR => ?_
 obtain ⟨a3e, a2p, b5t, b4l⟩ := hR
 obtain ⟨rfl, b5r⟩ := a3e.slen
 obtain ⟨rfl, b4k⟩ := a2p.slen
 obtain ⟨rfl, c2a⟩ := b5t.slen
 obtain ⟨rfl, c1R⟩ := b4l.slen
 refine Ew Z3 (Est rfl (N.box (cs := [_, _]) rfl dc rfl) (fun b2 _ => (Est rfl (N.box (cs := [_, _]) rfl dc rfl) (fun b3 _ => (Ei rfl (Eu (Eq_ (Ew Z6 (Ey rfl ((j6 fo_Query_0 ty_Is dc rfl).yd) (Ey rfl (g9 ty_Is rfl (Hz (mS m0) 0 rfl) rfl) (Ey rfl ((j6 fo_Query_0 ty_Is dc rfl).yd) (Ey rfl (g9 ty_Is rfl (Hz m0 0 rfl) rfl) (Est rfl (n0 a0R rfl rfl rfl dc (fun w Lp hA => ⟨hA.ro a3e, hA.ro b5t⟩)) (fun _ _ => (Ent.b (fun q9 => ?_) (fun q9 => ?_))))))))))))))))
 ·refine Ey rfl ((Y.not (b := true) rfl).yd) (Eu (o4 rfl (i7 (Et (Eq_ (Ew Z6 (Ey rfl ((j6 fo_Query_1 ty_Atoms dc rfl).yd) (Ey rfl (g9 ty_Atoms rfl (Hz (mS m0) 1 rfl) rfl) (Ey rfl ((j6 fo_Query_1 ty_Atoms dc rfl).yd) (Ey rfl (g9 ty_Atoms rfl (Hz m0 1 rfl) rfl) (Est rfl (n0 b1o rfl rfl rfl dc (fun w Lp hA => ⟨hA.ro a2p, hA.ro b4l⟩)) (fun _ _ => (Ent.b (fun q15 => ?_) (fun q15 => ?_))))))))))))))
  ·refine Ey rfl ((Y.not (b := true) rfl).yd) (Eu (o4 rfl (i7 (Et (Ew Z1 (Ei rfl ?_))))))
   exact Eu (E.ret (Fb rfl rfl (by simp_all)))
  ·refine Ey rfl ((Y.not (b := false) rfl).yd) (Eu (o5 rfl (Ew Z1 (Ei rfl ?_))))
   exact Eu (E.ret (l4 (Fb rfl rfl (by simp_all))))
 ·refine Ey rfl ((Y.not (b := false) rfl).yd) (Eu (o5 rfl (Ew Z1 (Ei rfl ?_))))
  exact Eu (E.ret (l4 (Fb rfl rfl (by simp_all))))
theorem a8R : Tr Tryz.prog 80 [.slice a_a m_a c_a, .int .i64 v] (fun w L => 0 ≤ v ∧ v + ((u5 J3 a : Nat) : Int) ≤ 4611686018427387904) [ow w9 [.slice a_a m_a c_a] a] (κ := Unit) (fun k => True) (fun k => .int .i64 (v + (u5 J3 a : Nat))) (fun k => [ow w9 [.slice a_a m_a c_a] (mkL J3 a0z a v)]) := by
 refine l0 Tryz.func80 rfl (n := 27) rfl (by decide +kernel) bl (fr := [(0, .slice a_a m_a c_a), (1, .int .i64 v)]) rfl fun w L hR => ?_
 obtain ⟨as0, as1⟩ := hR
 refine f5 m0 fun ea la => ?_
 subst ea
 refine Ew Z1 (Ei rfl (Eu (Eq_ (Ew Z1 (Ei rfl (Eu (E.block (E.loop (κ := Nat) (fun g => g ≤ a.length) (fun g => [(0, .slice a_a a.length c_a), (1, .int .i64 (v + (u5 J3 (a.take g) : Nat))), (5, .int .i64 (g : Int))]) (fun g => [ow w9 [.slice a_a a.length c_a] (mkL J3 a0z (a.take g) v ++ a.drop g)]) (fun g => a.length - g) 0 (Nat.zero_le _) ⟨rfl, frI (by simp [u5]), rfl, trivial⟩ (.refl _) (fun g pg => ?_)))))))))
 have u1 := R6 (t := J3) (l := a) (g := g)
 have u2 := R6 (t := J3) (l := a) (g := g + 1)
 have hlen : (mkL J3 a0z (a.take g) v ++ a.drop g).length = a.length := by rw [List.length_append, a1j, ← List.length_append, List.take_append_drop]
 refine Eq_ (Ew Z4 (Em rfl (Em rfl (Ey rfl ((Y.len us_Atoms rfl).yd) (Ey rfl ((Y.lss rfl rfl).yd) (o7 (fun q9 => ?_) (fun q9 => ?_)))))))
 ·have u3 := N5 (t := J3) (show g < a.length by omega)
  have u4 : J3 a[g] = 1 + u5 E8 a[g].2 := rfl
  refine Eu (o5 rfl (i7 (Et (Eq_ (E.block (Ew Z6 (Em rfl (Em rfl (Em rfl (U9 m0 om fun ab15 ae15 => (V7 (x := a[g]) g (a7r (show g < a.length by omega)) fun ce15 => (f8 (b7m fun oa15_1 om15_1 oc15_1 oe15 oi15_0 on15_1 => ?_)))))))))))))
  subst oe15
  subst on15_1
  refine Ey rfl ((s4 us_Atoms ty_Atom rfl ae15 rfl g rfl om).yd) (Ey rfl ((j6 fo_Atom_0 i8 dc rfl).yd) (f8 (Est rfl (a6D (f := 0) (kk := 2) (vs := [_]) (ce' := [_, _]) i8 rfl rfl rfl rfl rfl ae15 rfl rfl bl rfl rfl) (fun _ _ => (Ev Z3 (Em rfl (Ey rfl ((Y.add rfl rfl om om).yd) (Ei rfl (Eu (Ez Z8 (Em rfl (Em rfl (Ey rfl ((s4 us_Atoms ty_Atom rfl ae15 rfl g rfl om).yd) (Ey rfl ((j6 fo_Atom_1 ty_Is dc rfl).yd) (Ey rfl (g9 ty_Is rfl ((Has.hole ae15 m0).sub (cs' := [_]) 1 rfl) rfl) (Em rfl (f8 (Est rfl (N.call (pre := [_]) a0j rfl rfl rfl dc rfl (fun w Lp hA => ⟨(by first | assumption | omega), (by first | assumption | omega)⟩)) (fun _ _ => (Ei rfl (En (t8 (Et (Ez Z3 (Em rfl (Ey rfl ((Y.add rfl rfl om om).yd) (Ei rfl (Eu (f8 (O1 (a1c (x := (v + (u5 J3 (a.take g) : Nat), mkL E8 W8 a[g].2 (v + (u5 J3 (a.take g) : Nat) + 1))) i6 Own.ow) rfl ?_))))))))))))))))))))))))))))))
  exact w4 br (g + 1) ⟨rfl, frI om, rfl, trivial⟩ (a4i (a5P (c := J3) (m := a0z) (show g < a.length by omega) rfl)) om om
 ·refine Eu (o4 rfl (E.exit (o3 (o3 (w3 (Et (Ew Z2 (Em rfl (Ei rfl (Eu (E.ret (i9 (congrArg (ow w9 [_]) (show mkL J3 a0z (a.take g) v ++ a.drop g = mkL J3 a0z a v from by first | exact a1P om | (rw [V6 om]))) ?_))))))))))))
  exact Fg rfl rfl () (by rw [show (v + (u5 J3 a : Nat)) = (v + (u5 J3 (a.take g) : Nat)) from (by first | exact a1P om | (rw [V6 om]))]; try rfl) rfl
theorem b2f : Tr Tryz.prog 297 [.slice a_s m_s c_s, .int .i64 v] (fun w L => Ro w L eIs [.slice a_s m_s c_s] s) [] (κ := Unit) (fun k => True) (fun k => .int .i64 (J0 (fun x => decide (x = v)) s)) (fun k => []) := by
 refine l0 Tryz.func297 rfl (n := 19) rfl (by decide +kernel) bl (fr := [(0, .slice a_s m_s c_s), (1, .int .i64 v)]) rfl fun w L hR => ?_
 have hs := hR
 obtain ⟨rfl, ls⟩ := hs.slen
 refine Ew Z1 (Ei rfl (Eu (Eq_ (Ew Z3 (Em rfl (Ey rfl ((Y.len us_Is rfl).yd) (Em rfl (Eu (E.block (E.loop (κ := Nat) (fun g => g ≤ s.length ∧ ∀ x ∈ s.take g, decide (x = v) = false) (fun g => [(0, .slice a_s s.length c_s), (1, .int .i64 v), (7, .int .i64 (↑s.length : Int)), (8, .int .i64 (g : Int))]) (fun g => []) (fun g => s.length - g) 0 ⟨by omega, by simp⟩ ⟨rfl, rfl, rfl, rfl, trivial⟩ (.refl _) (fun g pg => ?_)))))))))))
 obtain ⟨pk, pa⟩ := pg
 refine Ew Z1 (Ey rfl ((Y.lss rfl rfl).yd) (o7 (fun q9 => ?_) (fun q9 => ?_)))
 ·refine Eu (Eq_ (o5 rfl (i7 (Et (Eq_ (E.block (Ew Z2 (Em rfl (Ei rfl (Ev Z6 (Em rfl (Em rfl (Em rfl ?_)))))))))))))
  obtain ⟨eb14, eo14, ea14, ei14, eh14⟩ := hs.elemI g om
  refine Ey rfl ((s4 us_Is i8 rfl ea14 rfl g rfl om).yd) (Ey rfl (g9 i8 rfl (eh14 _) rfl) (Ey rfl ((Y.eql rfl rfl).yd) (o7 (fun q16 => ?_) (fun q16 => ?_))))
  ·refine Eu (o5 rfl (Ew Z2 (Em rfl (Ei rfl ?_))))
   exact Eu (E.ret (w8 (l4 (l4 (w8 (l4 (Fg rfl rfl () (congrArg (Value.int .i64) (by exact P8 (p := fun x => decide (x = v)) om pa (decide_eq_true om))) rfl)))))))
  ·refine Eu (o4 rfl (i7 (t8 (Et (Ez Z2 (Ey rfl ((Y.add rfl rfl om om).yd) (Em rfl ?_)))))))
   exact Eu (w4 br (g + 1) rs (.refl _) ⟨by omega, X8 (p := fun x => decide (x = v)) om pa (decide_eq_false om)⟩ om)
 ·refine Eu (Eq_ (o4 rfl (E.exit (o3 (o3 (w3 (Et (Ew Z1 (Ei rfl ?_)))))))))
  exact Eu (E.ret (Fg rfl rfl () (congrArg (Value.int .i64) (by exact O4 om pa)) rfl))
theorem a1l : Tr Tryz.prog 243 [.int .i64 t] (fun w L => True) [] (κ := Unit) (fun k => True) (fun k => .bool (inR t 10 17)) (fun k => []) := by
 refine l0 Tryz.func243 rfl (n := 5) rfl (by decide +kernel) bl (fr := [(0, .int .i64 t)]) rfl fun w L hR => (Ew Z1 (Ei rfl (Ev Z3 (Em rfl (Est rfl (n0 I2 rfl rfl rfl dc tv) (fun _ _ => (Ei rfl ?_)))))))
 exact Eu (E.ret (Fg rfl rfl () rfl rfl))
theorem a2g : Tr Tryz.prog 250 [.int .i64 t] (fun w L => True) [] (κ := Unit) (fun k => True) (fun k => .bool (inR t 10 17)) (fun k => []) := by
 refine l0 Tryz.func250 rfl (n := 5) rfl (by decide +kernel) bl (fr := [(0, .int .i64 t)]) rfl fun w L hR => (Ew Z1 (Ei rfl (Ev Z3 (Em rfl (Est rfl (n0 N4 rfl rfl rfl dc tv) (fun _ _ => (Ei rfl ?_)))))))
 exact Eu (E.ret (Fg rfl rfl () rfl rfl))
theorem a3r : Tr Tryz.prog 277 [.agg #[.slice B5 D9 B4, .slice u9 x6 u8], .int .i64 t] (fun w L => Ro w L eIs [.slice B5 D9 B4] l2 ∧ Ro w L eIs [.slice u9 x6 u8] j5) [] (κ := Unit) (fun k => True) (fun k => .int .i64 (J0 (fun x => decide (x = t)) (l2.take (min l2.length j5.length)))) (fun k => []) := by
 refine l0 Tryz.func277 rfl (n := 17) rfl (by decide +kernel) bl (fr := [(0, .agg #[.slice B5 D9 B4, .slice u9 x6 u8]), (1, .int .i64 t)]) rfl fun w L hR => ?_
 obtain ⟨E3, y5⟩ := hR
 obtain ⟨rfl, a0B⟩ := E3.slen
 obtain ⟨rfl, O5⟩ := y5.slen
 refine Ew Z2 (Est rfl (N.box (cs := [_, _]) rfl dc rfl) (fun b2 _ => (Ei rfl (Ev Z13 (Ey rfl ((j6 fo_Binding_0 ty_Is dc rfl).yd) (Ey rfl (g9 ty_Is rfl (Hz m0 0 rfl) rfl) (Ey rfl ((j6 fo_Binding_0 ty_Is dc rfl).yd) (Ey rfl (g9 ty_Is rfl (Hz m0 0 rfl) rfl) (Ey rfl ((Y.len us_Is rfl).yd) (Ey rfl ((j6 fo_Binding_1 ty_Is dc rfl).yd) (Ey rfl (g9 ty_Is rfl (Hz m0 1 rfl) rfl) (Ey rfl ((Y.len us_Is rfl).yd) (Ey rfl ((c1i (a := l2.length) (b := j5.length) rfl rfl).yd) ?_)))))))))))))
 have rs14 := E3.upto (min l2.length j5.length) om
 have rl14 := rs14.slen.1
 have rc14 := E3.cap
 refine Ey rfl ((a3y (h := min l2.length j5.length) us_Is i8 rfl rfl om).yd) (Em rfl (Est rfl (n0 b2f rfl rfl rfl dc (fun w Lp hA => hA.ro rs14)) (fun _ _ => (Ei rfl ?_))))
 exact Eu (E.ret (Fg rfl rfl () rfl rfl))
theorem a0y : Tr Tryz.prog 209 [.agg #[.slice B5 D9 B4, .slice u9 x6 u8], .int .i64 term] (fun w L => Ro w L eIs [.slice B5 D9 B4] l2 ∧ Ro w L eIs [.slice u9 x6 u8] j5) [] (κ := Unit) (fun k => True) (fun k => .int .i64 (C7 (l2, j5) term)) (fun k => []) := by
 refine l0 Tryz.func209 rfl (n := 20) rfl (by decide +kernel) bl (fr := [(0, .agg #[.slice B5 D9 B4, .slice u9 x6 u8]), (1, .int .i64 term)]) rfl fun w L hR => ?_
 obtain ⟨E3, y5⟩ := hR
 obtain ⟨rfl, a0B⟩ := E3.slen
 obtain ⟨rfl, O5⟩ := y5.slen
 refine Ew Z2 (Est rfl (N.box (cs := [_, _]) rfl dc rfl) (fun b2 _ => (Ei rfl (Eu (Eq_ (Ew Z3 (Em rfl (Est rfl (n0 a2g rfl rfl rfl dc tv) (fun _ _ => (Ent.b (fun q7 => ?_) (fun q7 => ?_)))))))))))
 ·refine Ey rfl ((Y.not (b := true) rfl).yd) (Eu (o4 rfl (i7 (Et (Ew Z4 (Ey rfl (r9 (cs := [_, _]) ty_Binding rfl (Has.pt m0) rfl) (Em rfl (Est rfl (n0 a3r rfl rfl rfl dc (fun w Lp hA => ⟨hA.ro E3, hA.ro y5⟩)) (fun _ _ => (Ei rfl (Eu (Eq_ (Ew Z2 (Em rfl (Ey rfl ((Y.lss rfl rfl).yd) (o7 (fun q14 => ?_) (fun q14 => ?_)))))))))))))))))
  ·refine Eu (o5 rfl (Ew Z1 (Ei rfl ?_)))
   exact Eu (E.ret (l4 (Fg rfl rfl () (congrArg (Value.int .i64) (by exact b3P q7 q14)) rfl)))
  ·obtain ⟨z1, z2⟩ := a7d q14
   rw [List.length_take] at z2
   refine Eu (o4 rfl (i7 (Et (Ew Z6 (Ey rfl ((j6 fo_Binding_1 ty_Is dc rfl).yd) (Ey rfl (g9 ty_Is rfl (Hz m0 1 rfl) rfl) (Em rfl ?_)))))))
   obtain ⟨eb18, eo18, ea18, ei18, eh18⟩ := y5.elemI ((J0 (fun x => decide (x = term)) (l2.take (min l2.length j5.length))).toNat) om
   refine Ey rfl ((s4 us_Is i8 rfl ea18 rfl ((J0 (fun x => decide (x = term)) (l2.take (min l2.length j5.length))).toNat) om om).yd) (Ey rfl (g9 i8 rfl (eh18 _) rfl) (Ei rfl ?_))
   exact Eu (E.ret (Fg rfl rfl () (congrArg (Value.int .i64) (by exact b7H (b := (l2, j5)) q7 q14 (show (J0 (fun x => decide (x = term)) (l2.take (min l2.length j5.length))).toNat < j5.length by omega))) rfl))
 ·refine Ey rfl ((Y.not (b := false) rfl).yd) (Eu (o5 rfl (Ew Z2 (Em rfl (Ei rfl ?_)))))
  exact Eu (E.ret (l4 (Fg rfl rfl () (congrArg (Value.int .i64) (by exact b0N q7)) rfl)))
theorem a1k : Tr Tryz.prog 171 [.agg #[.slice B5 D9 B4, .slice u9 x6 u8], .int .i64 term] (fun w L => Ro w L eIs [.slice B5 D9 B4] l2 ∧ Ro w L eIs [.slice u9 x6 u8] j5) [] (κ := Unit) (fun k => True) (fun k => .int .i64 (C7 (l2, j5) term)) (fun k => []) := by
 refine l0 Tryz.func171 rfl (n := 36) rfl (by decide +kernel) bl (fr := [(0, .agg #[.slice B5 D9 B4, .slice u9 x6 u8]), (1, .int .i64 term)]) rfl fun w L hR => ?_
 obtain ⟨E3, y5⟩ := hR
 obtain ⟨rfl, a0B⟩ := E3.slen
 obtain ⟨rfl, O5⟩ := y5.slen
 refine Ew Z2 (Est rfl (N.box (cs := [_, _]) rfl dc rfl) (fun b2 _ => (Ei rfl (Eu (Eq_ (Ew Z3 (Em rfl (Est rfl (n0 a1l rfl rfl rfl dc tv) (fun _ _ => (Ent.b (fun q7 => ?_) (fun q7 => ?_)))))))))))
 ·refine Ey rfl ((Y.not (b := true) rfl).yd) (Eu (o4 rfl (i7 (Et (Eq_ (Ew Z1 (Ei rfl (Eu (E.block (E.loop (κ := Nat) (fun g => (g ≤ l2.length ∧ g ≤ j5.length) ∧ ∀ x ∈ l2.take g, decide (x = term) = false) (fun g => [(1, .int .i64 term), (2, .pointer (some ⟨b2, 0, none⟩)), (5, .int .i64 (g : Int))]) (fun g => [pt b2 125 [.slice B5 l2.length B4, .slice u9 j5.length u8]]) (fun g => l2.length - g) 0 ⟨by omega, by simp⟩ ⟨rfl, rfl, rfl, trivial⟩ (.refl _) (fun g pg => ?_)))))))))))
  obtain ⟨pk, pa⟩ := pg
  refine Eq_ (Ew Z12 (Em rfl (Ey rfl ((j6 fo_Binding_0 ty_Is dc rfl).yd) (Ey rfl (g9 ty_Is rfl (Hz m0 0 rfl) rfl) (Ey rfl ((Y.len us_Is rfl).yd) (Ey rfl ((Y.lss rfl rfl).yd) (o7 (fun q14 => ?_) (fun q14 => ?_))))))))
  ·refine Em rfl (Em rfl (Ey rfl ((j6 fo_Binding_1 ty_Is dc rfl).yd) (Ey rfl (g9 ty_Is rfl (Hz m0 1 rfl) rfl) (Ey rfl ((Y.len us_Is rfl).yd) (Ey rfl ((Y.lss rfl rfl).yd) (o7 (fun q20 => ?_) (fun q20 => ?_)))))))
   ·refine Ey rfl ((w5 rfl rfl).yd) (Eu (o5 rfl (i7 (Et (Eq_ (E.block (Ew Z7 (Ey rfl ((j6 fo_Binding_0 ty_Is dc rfl).yd) (Ey rfl (g9 ty_Is rfl (Hz m0 0 rfl) rfl) (Em rfl ?_))))))))))
    obtain ⟨eb27, eo27, ea27, ei27, eh27⟩ := E3.elemI g om
    refine Ey rfl ((s4 us_Is i8 rfl ea27 rfl g rfl om).yd) (Ey rfl (g9 i8 rfl (eh27 _) rfl) (Em rfl (Ey rfl ((Y.eql rfl rfl).yd) (o7 (fun q30 => ?_) (fun q30 => ?_)))))
    ·refine Eu (o5 rfl (Ew Z6 (Ey rfl ((j6 fo_Binding_1 ty_Is dc rfl).yd) (Ey rfl (g9 ty_Is rfl (Hz m0 1 rfl) rfl) (Em rfl ?_)))))
     obtain ⟨eb34, eo34, ea34, ei34, eh34⟩ := y5.elemI g om
     refine Ey rfl ((s4 us_Is i8 rfl ea34 rfl g rfl om).yd) (Ey rfl (g9 i8 rfl (eh34 _) rfl) (Ei rfl ?_))
     exact Eu (E.ret (w8 (l4 (l4 (w8 (l4 (Fg rfl rfl () (congrArg (Value.int .i64) (by exact b3i (b := (l2, j5)) q7 (show g < l2.length by omega) (show g < j5.length by omega) om pa)) rfl)))))))
    ·refine Eu (o4 rfl (i7 (t8 (Et (Ez Z3 (Em rfl (Ey rfl ((Y.add rfl rfl om om).yd) (Ei rfl ?_))))))))
     exact Eu (w4 br (g + 1) rs (.refl _) ⟨by omega, X8 (p := fun x => decide (x = term)) (show g < l2.length by omega) pa (decide_eq_false q30)⟩ om)
   ·refine Ey rfl ((w5 rfl rfl).yd) (Eu (o4 rfl (E.exit (o3 (o3 (w3 (Et (Ew Z1 (Ei rfl ?_)))))))))
    exact Eu (E.ret (Fg rfl rfl () (congrArg (Value.int .i64) (by exact b2b (b := (l2, j5)) q7 (g := g) (show ¬ (g < l2.length ∧ g < j5.length) by omega) pa)) rfl))
  ·refine Em rfl (Es rfl (Es rfl (Es rfl (Es rfl (Es rfl (Ey rfl ((v8 rfl rfl).yd) (Eu (o4 rfl (E.exit (o3 (o3 (w3 (Et (Ew Z1 (Ei rfl ?_)))))))))))))))
   exact Eu (E.ret (Fg rfl rfl () (congrArg (Value.int .i64) (by exact b2b (b := (l2, j5)) q7 (g := g) (show ¬ (g < l2.length ∧ g < j5.length) by omega) pa)) rfl))
 ·refine Ey rfl ((Y.not (b := false) rfl).yd) (Eu (o5 rfl (Ew Z2 (Em rfl (Ei rfl ?_)))))
  exact Eu (E.ret (l4 (Fg rfl rfl () (congrArg (Value.int .i64) (by exact b0N q7)) rfl)))
theorem a3P (hz : f6.length ≤ 1048576) : Tr Tryz.prog 189 [.agg #[.slice r5 s8 o9, .slice o2 s5 o1], .agg #[.slice B5 D9 B4, .slice u9 x6 u8]] (fun w L => Ro w L eIs [.slice r5 s8 o9] f6 ∧ Ro w L w9 [.slice o2 s5 o1] d4 ∧ Ro w L eIs [.slice B5 D9 B4] l2 ∧ Ro w L eIs [.slice u9 x6 u8] j5) [] (κ := Option Addr × Nat × Nat) (fun k => True) (fun k => .slice k.1 k.2.1 k.2.2) (fun k => [ow eIs [.slice k.1 k.2.1 k.2.2] (f6.map (C7 (l2, j5)))]) := by
 refine l0 Tryz.func189 rfl (n := 26) rfl (by decide +kernel) bl (fr := [(0, .agg #[.slice r5 s8 o9, .slice o2 s5 o1]), (1, .agg #[.slice B5 D9 B4, .slice u9 x6 u8])]) rfl fun w L hR => ?_
 obtain ⟨t7, s0, E3, y5⟩ := hR
 obtain ⟨rfl, I9⟩ := t7.slen
 obtain ⟨rfl, H0⟩ := s0.slen
 obtain ⟨rfl, a0B⟩ := E3.slen
 obtain ⟨rfl, O5⟩ := y5.slen
 have jv := a7s (b := (l2, j5)) (l := f6) t7.i64 E3.i64 y5.i64
 refine Ew Z3 (Est rfl (N.box (cs := [_, _]) rfl dc rfl) (fun b2 _ => (Est rfl (N.box (cs := [_, _]) rfl dc rfl) (fun b3 _ => (Ei rfl (Ev Z2 (Est rfl (Nb [] [] us_Is i8 rfl rfl) (fun b7 _ => (Ent.drop (Ei rfl (Eu (Eq_ (Ew Z1 (Ei rfl (Eu (E.block (s7 (A := []) (Own.nil (E := Enc.int) (e := tI) (a := (some ⟨b7, 0, none⟩))) rfl (i9 (congrArg (ow eIs [_]) (show [] = (f6.take 0).map (C7 (l2, j5)) from by first | rfl | (simp; done) | grind [d1, d2, t1, t2])) (E.loop (κ := Nat × Option Addr × Nat × Nat) (fun g => g.1 ≤ f6.length ∧ True) (fun g => [(2, .pointer (some ⟨b2, 0, none⟩)), (3, .pointer (some ⟨b3, 0, none⟩)), (5, .slice g.2.1 g.2.2.1 g.2.2.2), (6, .int .i64 (↑g.1 : Int))]) (fun g => [ow eIs [.slice g.2.1 g.2.2.1 g.2.2.2] ((f6.take g.1).map (C7 (l2, j5))), pt b3 125 [.slice B5 l2.length B4, .slice u9 j5.length u8], pt b2 61 [.slice r5 f6.length o9, .slice o2 d4.length o1]]) (fun g => f6.length - g.1) (0, (some ⟨b7, 0, none⟩), 0, 0) ⟨Nat.zero_le _, by simp⟩ ⟨rfl, rfl, rfl, rfl, trivial⟩ (.refl _) (fun g pg => ?_))))))))))))))))))))
 obtain ⟨g, aA0_0, mA0_0, cA0_0⟩ := g
 try dsimp only at pg
 try dsimp only
 obtain ⟨pk, pa⟩ := pg
 refine f5 m0 fun eaA0_0 laA0_0 => ?_
 subst eaA0_0
 refine Eq_ (Ew Z5 (Em rfl (Ey rfl ((j6 fo_Query_0 ty_Is dc rfl).yd) (Ey rfl (g9 ty_Is rfl (Hz (mS (mS m0)) 0 rfl) rfl) (Ey rfl ((Y.len us_Is rfl).yd) (Ey rfl ((Y.lss rfl rfl).yd) (o7 (fun q12 => ?_) (fun q12 => ?_))))))))
 ·refine Eu (o5 rfl (i7 (Et (Eq_ (E.block (D.region (fun j => !(Nat.beq j 9)) mixed (Dyp 0 rfl (o0 rfl) (Dy 1 rfl (r9 (cs := [_, _]) ty_Binding rfl (Has.pt (mS m0)) rfl) (Dyp 2 rfl (j6 fo_Query_0 ty_Is dc rfl) (Dy 3 rfl (g9 ty_Is rfl (Hz (mS (mS m0)) 0 rfl) rfl) (Dyp 4 rfl (o0 rfl) ?_)))))))))))
  obtain ⟨eb20, eo20, ea20, ei20, eh20⟩ := t7.elemI g om
  refine Dyp 5 rfl (s4 us_Is i8 rfl ea20 rfl g rfl om) (Dy 6 rfl (g9 i8 rfl (eh20 _) rfl) (t6 7 rfl rfl kr (fun _ => rfl) (n0 a1k rfl rfl rfl dc (fun w Lp hA => ⟨hA.ro E3, hA.ro y5⟩)) (fun _ _ => (t6 8 rfl rfl kr (fun _ => rfl) (Nb [_] [_] us_Is i8 rfl rfl) (fun b23 _ => (f8 (t6 9 rfl rfl kr (fun h => by cases h) (B1 (E := Enc.int) (ex := C7 (l2, j5) f6[g]) us_Is i8 rfl rfl rfl (Own.int i6) rfl bn bn dc) (fun p24 _ => (Dyp 10 rfl (F0 rfl) (s3 kr (t8 (Et (Ez Z3 (Em rfl (Ey rfl ((Y.add rfl rfl om om).yd) (Ei rfl (Eu (i9 (congrArg (ow eIs [_]) (show ((f6.take g).map (C7 (l2, j5))) ++ [C7 (l2, j5) f6[g]] = (f6.take (g + 1)).map (C7 (l2, j5)) from by grind [d1, d2, t1, t2])) (o6 (o6 (o6 ?_)))))))))))))))))))))
  exact Ea (g + 1, p24.1, (((f6.take g).map (C7 (l2, j5))).length + 1), p24.2) ⟨oz, trivial⟩
 ·refine Eu (o4 rfl (E.exit (o3 (o3 (w3 (Et (Ew Z2 (Em rfl (Ei rfl (Eu (E.ret (i9 (congrArg (ow eIs [_]) (show _ = f6.map (C7 (l2, j5)) by grind [d1, d2, t1, t2])) ?_))))))))))))
  exact Fg rfl rfl (_, _, _) rfl rfl
theorem a2C (hz : f6.length ≤ 1048576) : Tr Tryz.prog 197 [.agg #[.slice r5 s8 o9, .slice o2 s5 o1], .agg #[.slice B5 D9 B4, .slice u9 x6 u8]] (fun w L => Ro w L eIs [.slice r5 s8 o9] f6 ∧ Ro w L w9 [.slice o2 s5 o1] d4 ∧ Ro w L eIs [.slice B5 D9 B4] l2 ∧ Ro w L eIs [.slice u9 x6 u8] j5) [] (κ := Option Addr × Nat × Nat) (fun k => True) (fun k => .slice k.1 k.2.1 k.2.2) (fun k => [ow eIs [.slice k.1 k.2.1 k.2.2] (f6.map (C7 (l2, j5)))]) := by
 refine l0 Tryz.func197 rfl (n := 24) rfl (by decide +kernel) bl (fr := [(0, .agg #[.slice r5 s8 o9, .slice o2 s5 o1]), (1, .agg #[.slice B5 D9 B4, .slice u9 x6 u8])]) rfl fun w L hR => ?_
 obtain ⟨t7, s0, E3, y5⟩ := hR
 obtain ⟨rfl, I9⟩ := t7.slen
 obtain ⟨rfl, H0⟩ := s0.slen
 obtain ⟨rfl, a0B⟩ := E3.slen
 obtain ⟨rfl, O5⟩ := y5.slen
 have jv := a7s (b := (l2, j5)) (l := f6) t7.i64 E3.i64 y5.i64
 refine Ew Z3 (Est rfl (N.box (cs := [_, _]) rfl dc rfl) (fun b2 _ => (Est rfl (N.box (cs := [_, _]) rfl dc rfl) (fun b3 _ => (Ei rfl (Ev Z2 (Est rfl (Nb [] [] us_Is i8 rfl rfl) (fun b8 _ => (Ent.drop (Ei rfl (Eu (Eq_ (Ew Z4 (Ey rfl ((j6 fo_Query_0 ty_Is dc rfl).yd) (Ey rfl (g9 ty_Is rfl (Hz (mS m0) 0 rfl) rfl) (Ey rfl ((Y.len us_Is rfl).yd) (Em rfl (Eu (E.block (s7 (A := []) (Own.nil (E := Enc.int) (e := tI) (a := (some ⟨b8, 0, none⟩))) rfl (i9 (congrArg (ow eIs [_]) (show [] = (f6.take 0).map (C7 (l2, j5)) from by first | rfl | (simp; done) | grind [d1, d2, t1, t2])) (E.loop (κ := Nat × Option Addr × Nat × Nat) (fun g => g.1 ≤ f6.length ∧ True) (fun g => [(3, .pointer (some ⟨b3, 0, none⟩)), (5, .slice g.2.1 g.2.2.1 g.2.2.2), (10, .slice r5 f6.length o9), (11, .int .i64 (↑f6.length : Int)), (12, .int .i64 (↑g.1 : Int))]) (fun g => [ow eIs [.slice g.2.1 g.2.2.1 g.2.2.2] ((f6.take g.1).map (C7 (l2, j5))), pt b3 125 [.slice B5 l2.length B4, .slice u9 j5.length u8], pt b2 61 [.slice r5 f6.length o9, .slice o2 d4.length o1]]) (fun g => f6.length - g.1) (0, (some ⟨b8, 0, none⟩), 0, 0) ⟨Nat.zero_le _, by simp⟩ ⟨rfl, rfl, rfl, rfl, rfl, trivial⟩ (.refl _) (fun g pg => ?_)))))))))))))))))))))))
 obtain ⟨g, aA0_0, mA0_0, cA0_0⟩ := g
 try dsimp only at pg
 try dsimp only
 obtain ⟨pk, pa⟩ := pg
 refine f5 m0 fun eaA0_0 laA0_0 => ?_
 subst eaA0_0
 refine Ew Z1 (Ey rfl ((Y.lss rfl rfl).yd) (o7 (fun q13 => ?_) (fun q13 => ?_)))
 ·obtain ⟨eb14, eo14, ea14, ei14, eh14⟩ := t7.elemI g om
  refine Eu (Eq_ (o5 rfl (i7 (Et (Eq_ (E.block (Ew Z3 (Ey rfl ((s4 us_Is i8 rfl ea14 rfl g rfl om).yd) (Ey rfl (g9 i8 rfl (eh14 _) rfl) (Ei rfl (Eu (Ez Z7 (Em rfl (Ey rfl (r9 (cs := [_, _]) ty_Binding rfl (Has.pt (mS m0)) rfl) (Em rfl (Est rfl (n0 a0y rfl rfl rfl dc (fun w Lp hA => ⟨hA.ro E3, hA.ro y5⟩)) (fun _ _ => (Est rfl (Nb [_] [_] us_Is i8 rfl rfl) (fun b20 _ => (f8 (Est rfl (B1 (E := Enc.int) (ex := C7 (l2, j5) f6[g]) us_Is i8 rfl rfl rfl (Own.int i6) rfl bn bn dc) (fun p21 _ => (Ei rfl (En (t8 (Et (Ez Z2 (Ey rfl ((Y.add rfl rfl om om).yd) (Em rfl (Eu (i9 (congrArg (ow eIs [_]) (show ((f6.take g).map (C7 (l2, j5))) ++ [C7 (l2, j5) f6[g]] = (f6.take (g + 1)).map (C7 (l2, j5)) from by grind [d1, d2, t1, t2])) (o6 (o6 (o6 ?_))))))))))))))))))))))))))))))))))
  exact Ea (g + 1, p21.1, (((f6.take g).map (C7 (l2, j5))).length + 1), p21.2) ⟨oz, trivial⟩
 ·refine Eu (Eq_ (o4 rfl (E.exit (o3 (o3 (w3 (Et (Ew Z2 (Em rfl (Ei rfl (Eu (E.ret (i9 (congrArg (ow eIs [_]) (show _ = f6.map (C7 (l2, j5)) by grind [d1, d2, t1, t2])) ?_)))))))))))))
  exact Fg rfl rfl (_, _, _) rfl rfl
end Go.Proofs.YtdopeopehgdccaaGreat
