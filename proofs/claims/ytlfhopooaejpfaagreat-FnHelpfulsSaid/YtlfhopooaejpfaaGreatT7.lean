import Derived.Test.YtlfhopooaejpfaaGreatT6
namespace Go.Proofs.YtlfhopooaejpfaaGreat
open Go.RowKit
set_option linter.all false
set_option maxHeartbeats 2000000
attribute [local irreducible] Nop Yd Yp Ent Has Tr FnP FnP2 Src
variable {mask : Int} {d4 : List (Int × Int × List Int)} {m_rules c_rules : Nat} {a_rules : Option Addr}
theorem a3Z (hz : K2 (fun x => x.2.2.length) d4 ≤ 1048576) : Tr Tryz.prog 85 [.slice a_rules m_rules c_rules, .int .i64 mask] (fun w L => Ro w L G9 [.slice a_rules m_rules c_rules] d4) [] (κ := Option Addr × Nat × Nat) (fun k => True) (fun k => .slice k.1 k.2.1 k.2.2) (fun k => [ow G9 [.slice k.1 k.2.1 k.2.2] (a0q d4 mask)]) := by
 refine Tr.intro Tryz.func85 rfl (n := 49) rfl (by decide +kernel) bl (fr := [(0, .slice a_rules m_rules c_rules), (1, .int .i64 mask)]) rfl fun w L hR => ?_
 have hrules := hR
 obtain ⟨rfl, lrules⟩ := hrules.slen
 refine Ew Z1 (Ei rfl (Ev Z2 (Est rfl (Nb [] [] us_Rules ty_Rule rfl rfl) (fun b7 _ => (Ent.drop (Ei rfl (Eu (Eq_ (Ew Z1 (Ei rfl (Eu (E.block (s7 (A := []) (Own.nil (E := Y6) (e := tRule) (a := (some ⟨b7, 0, none⟩))) rfl (E.loop (κ := Nat × Option Addr × Nat × Nat) (fun g => g.1 ≤ d4.length ∧ g.1 ≤ 20) (fun g => [(0, .slice a_rules d4.length c_rules), (1, .int .i64 mask), (5, .slice g.2.1 g.2.2.1 g.2.2.2), (6, .int .i64 (↑g.1 : Int))]) (fun g => [ow G9 [.slice g.2.1 g.2.2.1 g.2.2.2] (pick (W1 mask) (d4.take g.1) 0)]) (fun g => d4.length - g.1) (0, (some ⟨b7, 0, none⟩), 0, 0) ⟨Nat.zero_le _, Nat.zero_le _⟩ ⟨rfl, rfl, rfl, rfl, trivial⟩ (.refl _) (fun g pg => (d6 m0 fun em lm => ?_))))))))))))))))
 obtain ⟨pk, pk2⟩ := pg
 have pl := b0t (p := W1 mask) (l := d4.take g.1) (i := 0)
 rw [List.length_take] at pl
 refine Eq_ (Ew Z12 (Em rfl (Em rfl (Ey rfl ((Y.len us_Rules rfl).yd) (Ey rfl ((Y.lss rfl rfl).yd) (n9 (fun q11 => ?_) (fun q11 => ?_)))))))
 ·refine Em rfl (Em rfl (Ey rfl ((Y.lss rfl rfl).yd) (n9 (fun q14 => ?_) (fun q14 => ?_))))
  ·refine Ey rfl ((x6 rfl rfl).yd) (Em rfl (Em rfl (Ey rfl ((Y.gtr rfl rfl).yd) (n9 (fun q18 => ?_) (fun q18 => ?_)))))
   ·refine Ey rfl ((x6 rfl rfl).yd) (Eu (o0 rfl (f9 (Et (Eq_ (E.block (Ew Z5 (Em rfl (Em rfl (Ey rfl ((a9X (b := g.1) rfl rfl om).yd) (Ey rfl ((Y.and rfl rfl).yd) (Ey rfl ((Y.eql rfl rfl).yd) (n9 (fun q26 => ?_) (fun q26 => ?_))))))))))))))
    ·have y := a8G (t := (fun x => x.2.2.length)) (l := d4) (g := g.1) om
     refine Eu (o0 rfl (D.region (fun j => !(Nat.beq j 20)) mixed (Dyp 0 rfl (k6 rfl) (Dyp 1 rfl (k6 rfl) (Dyp 2 rfl (k6 rfl) ?_)))))
     obtain ⟨eb30, eo30, ec30, ea30, er30, el30, eh30⟩ := hrules.elem g.1 om
     obtain ⟨xa30_0, xc30_0, rfl, ei30_0, ei30_1, xh30_0⟩ := a1z er30
     have := xh30_0.slen.2
     refine Dyp 3 rfl (w3 us_Rules ty_Rule rfl ea30 rfl g.1 rfl om) (Dyp 4 rfl (i8 fo_Rule_0 f5 dc rfl) (Dy 5 rfl (g9 f5 rfl ((eh30 _).sub (cs' := [_]) 0 rfl) rfl) (Dyp 6 rfl (k6 rfl) (Dyp 7 rfl (k6 rfl) (Dyp 8 rfl (w3 us_Rules ty_Rule rfl ea30 rfl g.1 rfl om) (Dyp 9 rfl (i8 fo_Rule_1 f5 dc rfl) (Dy 10 rfl (g9 f5 rfl ((eh30 _).sub (cs' := [_]) 1 rfl) rfl) (Dyp 12 rfl (k6 rfl) (Dyp 13 rfl (k6 rfl) (Dyp 14 rfl (w3 us_Rules ty_Rule rfl ea30 rfl g.1 rfl om) (Dyp 15 rfl (i8 fo_Rule_2 ty_Is dc rfl) (Dy 16 rfl (g9 ty_Is rfl ((eh30 _).sub (cs' := [_]) 2 rfl) rfl) (u7 11 rfl rfl kr (fun _ => rfl) (Nb [] [] us_Is f5 rfl rfl) (fun b38 _ => (Ent.drop ?_)))))))))))))))
     refine u7 17 rfl rfl kr (fun _ => rfl) (P8 (E := Enc.int) Plain.int us_Is f5 rfl rfl rfl xh30_0 bn bn dc) (fun p44 _ => (Dyp 18 rfl (I3 (pvs := [_, _, _]) (cs := [_, _, _]) ty_Rule a8g rfl rfl) (u7 19 rfl rfl kr (fun _ => rfl) (Nb [_] [_, _, _] us_Rules ty_Rule rfl rfl) (fun b46 _ => (d8 (d8 (j7 (u7 20 rfl rfl kr (fun h => by cases h) (B2 (E := Y6) (ex := d4[g.1]) us_Rules ty_Rule rfl rfl rfl (a3D (x := d4[g.1]) ei30_0 ei30_1 Own.ow) rfl bn bn dc) (fun p47 _ => (Dyp 21 rfl (F1 rfl) (t6 kr (s8 (Et (Ez Z3 (Em rfl (Ey rfl ((Y.add rfl rfl om om).yd) (Ei rfl (Eu (f6 (congrArg (ow G9 [_]) (show (pick (W1 mask) (d4.take g.1) 0) ++ [d4[g.1]] = pick (W1 mask) (d4.take (g.1 + 1)) 0 from a7t om ((a2d om).trans (decide_eq_true q26)))) ?_)))))))))))))))))))
     exact B0 br (g.1 + 1, p47.1, (g.2.2.1 + 1), p47.2) rs (.refl _) ⟨(show g.1 + 1 ≤ _ by omega), (show g.1 + 1 ≤ _ by omega)⟩ (show _ - (g.1 + 1) < _ by omega)
    ·refine Eu (n8 rfl (f9 (s8 (Et (Ez Z3 (Em rfl (Ey rfl ((Y.add rfl rfl om om).yd) (Ei rfl (Eu (f6 (congrArg (ow G9 [_]) (show pick (W1 mask) (d4.take g.1) 0 = pick (W1 mask) (d4.take (g.1 + 1)) 0 from a5o om ((a2d om).trans (decide_eq_false q26)))) ?_))))))))))
     exact B0 br (g.1 + 1, g.2.1, g.2.2.1, g.2.2.2) rs (.refl _) ⟨(show g.1 + 1 ≤ _ by omega), (show g.1 + 1 ≤ _ by omega)⟩ (show _ - (g.1 + 1) < _ by omega)
   ·refine Ey rfl ((x6 rfl rfl).yd) (Eu (n8 rfl (E.exit (l3 (l3 (y4 (Et (Ew Z2 (Em rfl (Ei rfl (Eu (E.ret (f6 (congrArg (ow G9 [_]) (show _ = a0q d4 mask by exact b3U q18)) ?_)))))))))))))
    exact Fg rfl rfl (_, _, _) rfl rfl
  ·refine Ey rfl ((x6 rfl rfl).yd) (Em rfl (Es rfl (Es rfl (Ey rfl ((z7 rfl rfl).yd) (Eu (n8 rfl (E.exit (l3 (l3 (y4 (Et (Ew Z2 (Em rfl (Ei rfl (Eu (E.ret (f6 (congrArg (ow G9 [_]) (show _ = a0q d4 mask by exact a8w om pk2 pk)) ?_)))))))))))))))))
   exact Fg rfl rfl (_, _, _) rfl rfl
 ·refine Em rfl (Es rfl (Es rfl (Ey rfl ((z7 rfl rfl).yd) (Em rfl (Es rfl (Es rfl (Ey rfl ((z7 rfl rfl).yd) (Eu (n8 rfl (E.exit (l3 (l3 (y4 (Et (Ew Z2 (Em rfl (Ei rfl (Eu (E.ret (f6 (congrArg (ow G9 [_]) (show _ = a0q d4 mask by exact a8w om pk2 pk)) ?_))))))))))))))))))))
  exact Fg rfl rfl (_, _, _) rfl rfl
theorem a7A (hz : K2 (fun x => x.2.2.length) d4 ≤ 1048576) : Tr Tryz.prog 33 [.slice a_rules m_rules c_rules, .int .i64 mask] (fun w L => Ro w L G9 [.slice a_rules m_rules c_rules] d4) [] (κ := Option Addr × Nat × Nat) (fun k => True) (fun k => .slice k.1 k.2.1 k.2.2) (fun k => [ow G9 [.slice k.1 k.2.1 k.2.2] (a0q d4 mask)]) := by
 refine Tr.intro Tryz.func33 rfl (n := 42) rfl (by decide +kernel) bl (fr := [(0, .slice a_rules m_rules c_rules), (1, .int .i64 mask)]) rfl fun w L hR => ?_
 have hrules := hR
 obtain ⟨rfl, lrules⟩ := hrules.slen
 refine Ew Z1 (Ei rfl (Ev Z2 (Est rfl (Nb [] [] us_Rules ty_Rule rfl rfl) (fun b8 _ => (Ent.drop (Ei rfl (Eu (Eq_ (Ew Z7 (Em rfl (Em rfl (Ey rfl ((Y.len us_Rules rfl).yd) (Ey rfl ((b8C (a := 20) (b := d4.length) rfl rfl).yd) ?_)))))))))))))
 have rs13 := hrules.upto (min 20 d4.length) om
 have rl13 := rs13.slen.1
 have rc13 := hrules.cap
 refine Ey rfl ((a4W (h := min 20 d4.length) us_Rules ty_Rule rfl rfl om).yd) (Ey rfl ((Y.len us_Rules rfl).yd) (Em rfl (Eu (E.block (s7 (A := []) (Own.nil (E := Y6) (e := tRule) (a := (some ⟨b8, 0, none⟩))) rfl (E.loop (κ := Nat × Option Addr × Nat × Nat) (fun g => g.1 ≤ min 20 d4.length) (fun g => [(1, .int .i64 mask), (5, .slice g.2.1 g.2.2.1 g.2.2.2), (13, .slice a_rules (min 20 d4.length) c_rules), (14, .int .i64 (↑(min 20 d4.length) : Int)), (15, .int .i64 (↑g.1 : Int))]) (fun g => [ow G9 [.slice g.2.1 g.2.2.1 g.2.2.2] (pick (W1 mask) ((d4.take (min 20 d4.length)).take g.1) 0)]) (fun g => (d4.take (min 20 d4.length)).length - g.1) (0, (some ⟨b8, 0, none⟩), 0, 0) (Nat.zero_le _) ⟨rfl, rfl, rfl, rfl, rfl, trivial⟩ (.refl _) (fun g pg => (d6 m0 fun em lm => ?_))))))))
 have pl := b0t (p := W1 mask) (l := (d4.take (min 20 d4.length)).take g.1) (i := 0)
 rw [List.length_take] at pl
 refine Ew Z1 (Ey rfl ((Y.lss rfl rfl).yd) (n9 (fun q16 => ?_) (fun q16 => ?_)))
 ·refine Eu (Eq_ (o0 rfl (f9 (Et (Eq_ (E.block (Ew Z6 (Em rfl ?_))))))))
  obtain ⟨eb18, eo18, ec18, ea18, er18, el18, eh18⟩ := rs13.elem g.1 om
  obtain ⟨xa18_0, xc18_0, rfl, ei18_0, ei18_1, xh18_0⟩ := a1z er18
  have := xh18_0.slen.2
  refine Ey rfl ((w3 us_Rules ty_Rule rfl ea18 rfl g.1 rfl om).yd) (Ey rfl (r9 (cs := [_, _, _]) ty_Rule rfl (eh18 _) rfl) (Est rfl (N.alloc ty_Rule dc) (fun b7 _ => (Ei rfl (Est rfl (Ns [_, _, _] ty_Rule rfl) (fun _ _ => (Ev Z9 (Em rfl (Ey rfl ((Y.geq rfl rfl).yd) (n9 (fun q21 => ?_) (fun q21 => ?_)))))))))))
  ·refine Em rfl (Em rfl (Em rfl (Ey rfl ((a9X (b := g.1) rfl rfl om).yd) (Ey rfl ((Y.and rfl rfl).yd) (Ey rfl ((Y.eql rfl rfl).yd) (n9 (fun q27 => ?_) (fun q27 => ?_)))))))
   ·have y : ((d4.take (min 20 d4.length))[g.1]).2.2.length ≤ 1048576 := by { rw [List.getElem_take]; have y := a8G (t := (fun x => x.2.2.length)) (l := d4) (g := g.1) om; omega }
    refine Ey rfl ((x6 rfl rfl).yd) (Eu (o0 rfl (D.region (fun j => !(Nat.beq j 10)) mixed (Dyp 0 rfl (k6 rfl) (Dyp 1 rfl (i8 fo_Rule_0 f5 dc rfl) (Dy 2 rfl (g9 f5 rfl (Hz m0 0 rfl) rfl) (Dyp 3 rfl (i8 fo_Rule_1 f5 dc rfl) (Dy 4 rfl (g9 f5 rfl (Hz m0 1 rfl) rfl) (Dyp 5 rfl (i8 fo_Rule_2 ty_Is dc rfl) (Dy 6 rfl (g9 ty_Is rfl (Hz m0 2 rfl) rfl) (u7 7 rfl rfl kr (fun _ => rfl) (N.call (a2l fc) rfl rfl rfl dc rfl (fun w Lp hA => hA.ro xh18_0)) (fun k36 _ => ?_))))))))))))
    obtain ⟨a36, m36, c36⟩ := k36
    refine d6 m0 fun e36 l36 => ?_
    subst e36
    refine Dyp 8 rfl (I3 (pvs := [_, _, _]) (cs := [_, _, _]) ty_Rule a8g rfl rfl) (u7 9 rfl rfl kr (fun _ => rfl) (Nb [_] [_, _, _] us_Rules ty_Rule rfl rfl) (fun b38 _ => (d8 (d8 (o2 (u7 10 rfl rfl kr (fun h => by cases h) (B2 (E := Y6) (ex := ((d4.take (min 20 d4.length))[g.1].1, (d4.take (min 20 d4.length))[g.1].2.1, ((d4.take (min 20 d4.length))[g.1].2.2))) us_Rules ty_Rule rfl rfl rfl (a3D (x := ((d4.take (min 20 d4.length))[g.1].1, (d4.take (min 20 d4.length))[g.1].2.1, ((d4.take (min 20 d4.length))[g.1].2.2))) ei18_0 ei18_1 Own.ow) rfl bn bn dc) (fun p39 _ => (Dyp 11 rfl (F1 rfl) (t6 kr (s8 (Et (Ez Z2 (Ey rfl ((Y.add rfl rfl om om).yd) (Em rfl (Eu (d8 (Ent.drop (f6 (congrArg (ow G9 [_]) (show (pick (W1 mask) ((d4.take (min 20 d4.length)).take g.1) 0) ++ [((d4.take (min 20 d4.length))[g.1].1, (d4.take (min 20 d4.length))[g.1].2.1, ((d4.take (min 20 d4.length))[g.1].2.2))] = pick (W1 mask) ((d4.take (min 20 d4.length)).take (g.1 + 1)) 0 from a7t om ((a2d q21).trans (decide_eq_true q27)))) ?_))))))))))))))))))
    exact B0 br (g.1 + 1, p39.1, (g.2.2.1 + 1), p39.2) rs (.refl _) (show g.1 + 1 ≤ _ by omega) (show _ - (g.1 + 1) < _ by omega)
   ·refine Ey rfl ((x6 rfl rfl).yd) (Eu (n8 rfl (f9 (s8 (Et (Ez Z2 (Ey rfl ((Y.add rfl rfl om om).yd) (Em rfl (Eu (Ent.drop (f6 (congrArg (ow G9 [_]) (show pick (W1 mask) ((d4.take (min 20 d4.length)).take g.1) 0 = pick (W1 mask) ((d4.take (min 20 d4.length)).take (g.1 + 1)) 0 from a5o om ((a2d q21).trans (decide_eq_false q27)))) ?_)))))))))))
    exact B0 br (g.1 + 1, g.2.1, g.2.2.1, g.2.2.2) rs (.refl _) (show g.1 + 1 ≤ _ by omega) (show _ - (g.1 + 1) < _ by omega)
  ·refine Em rfl (Es rfl (Es rfl (Es rfl (Es rfl (Es rfl (Ey rfl ((z7 rfl rfl).yd) (Eu (n8 rfl (f9 (s8 (Et (Ez Z2 (Ey rfl ((Y.add rfl rfl om om).yd) (Em rfl (Eu (Ent.drop (f6 (congrArg (ow G9 [_]) (show pick (W1 mask) ((d4.take (min 20 d4.length)).take g.1) 0 = pick (W1 mask) ((d4.take (min 20 d4.length)).take (g.1 + 1)) 0 from a5o om (a7J om))) ?_)))))))))))))))))
   exact B0 br (g.1 + 1, g.2.1, g.2.2.1, g.2.2.2) rs (.refl _) (show g.1 + 1 ≤ _ by omega) (show _ - (g.1 + 1) < _ by omega)
 ·refine Eu (Eq_ (n8 rfl (E.exit (l3 (l3 (y4 (Et (Ew Z2 (Em rfl (Ei rfl (Eu (E.ret (f6 (congrArg (ow G9 [_]) (show _ = a0q d4 mask by exact b5A om)) ?_)))))))))))))
  exact Fg rfl rfl (_, _, _) rfl rfl
end Go.Proofs.YtlfhopooaejpfaaGreat
