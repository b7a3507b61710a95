import Derived.Test.YthapcdhdfaibkaaGreatDoorT37
import Derived.Test.YthapcdhdfaibkaaGreatDoorT30
namespace Go.Proofs.YthapcdhdfaibkaaGreatDoor
open Go.RowKit
set_option linter.all false
set_option maxHeartbeats 2000000
attribute [local irreducible] Nop Yd Yp Ent Has Tr FnP FnP2 Src o2 c8 N0 a0b E6
variable {l8 : Int} {k8 : List (Int × (Int × List Int) × Int × List Int)} {d4 : List (Int × Int × List Int)} {l : List (Int × List Int × Int × Int × Int)} {a8 : List (Int × List Int)} {s d6 f0 : List Int} {m_s c_s m_l c_l m_rules c_rules m_facts c_facts m_seeds c_seeds w3 s7 W9 L5 : Nat} {a_s a_l a_rules a_facts a_seeds s8 L6 : Option Addr}
theorem a3K : Tr Tryz.prog 57 [.slice a_s m_s c_s, .slice a_l m_l c_l, .slice a_rules m_rules c_rules, .slice a_facts m_facts c_facts, .slice a_seeds m_seeds c_seeds, .agg #[.int .i64 l8, .slice s8 w3 s7], .agg #[.slice L6 W9 L5]] (fun w L => Ro w L eIs [.slice a_s m_s c_s] s ∧ Ro w L F5 [.slice a_l m_l c_l] l ∧ Ro w L J9 [.slice a_rules m_rules c_rules] d4 ∧ Ro w L m8 [.slice a_facts m_facts c_facts] a8 ∧ Ro w L eIs [.slice a_seeds m_seeds c_seeds] d6 ∧ I64 l8 ∧ Ro w L eIs [.slice s8 w3 s7] f0 ∧ Ro w L B6 [.slice L6 W9 L5] k8) [] (κ := Unit) (fun k => True) (fun k => .bool (a0r s l d4 a8 d6 (l8, f0) k8)) (fun k => []) := by
 refine Tr.intro Tryz.func57 rfl (n := 69) rfl (by decide +kernel) bl (fr := [(0, .slice a_s m_s c_s), (1, .slice a_l m_l c_l), (2, .slice a_rules m_rules c_rules), (3, .slice a_facts m_facts c_facts), (4, .slice a_seeds m_seeds c_seeds), (5, .agg #[.int .i64 l8, .slice s8 w3 s7]), (6, .agg #[.slice L6 W9 L5])]) rfl fun w L hR => ?_
 obtain ⟨hs, hl, hrules, hfacts, hseeds, C3, v6, W0⟩ := hR
 obtain ⟨rfl, ls⟩ := hs.slen
 obtain ⟨rfl, ll⟩ := hl.slen
 obtain ⟨rfl, lrules⟩ := hrules.slen
 obtain ⟨rfl, lfacts⟩ := hfacts.slen
 obtain ⟨rfl, lseeds⟩ := hseeds.slen
 obtain ⟨rfl, J1⟩ := v6.slen
 obtain ⟨rfl, a8j⟩ := W0.slen
 refine Ew Z3 (Est rfl (N.box (cs := [_, _]) rfl dc rfl) (fun b12 _ => (Est rfl (N.box (cs := [_]) rfl dc rfl) (fun b13 _ => (Ei rfl (Ev Z4 (Ey rfl ((f5 fo_Proof_0 ty_Lines dc rfl).yd) (Ey rfl (g9 ty_Lines rfl (Hz m0 0 rfl) rfl) (Ey rfl ((Y.len us_Lines rfl).yd) (Ei rfl (Eu (Eq_ (Eq_ (D.region (fun j => true) mixed (Dyp 0 rfl (i8 rfl) (Dyp 1 rfl (i8 rfl) (Dyp 2 rfl (i8 rfl) (t6 3 rfl rfl kr (fun _ => rfl) (l0 a2Z rfl rfl rfl dc (fun w Lp hA => ⟨hA.ro hs, hA.ro hl, hA.ro hrules⟩)) (fun _ _ => (Ent.b (fun q24 => ?_) (fun q24 => ?_)))))))))))))))))))))
 ·refine Dyp 4 rfl (Y.not (b := true) rfl) (Dyp 5 rfl (i8 rfl) (Dyp 6 rfl (i8 rfl) (Dyp 7 rfl (i8 rfl) (t6 8 rfl rfl kr (fun _ => rfl) (l0 a2U rfl rfl rfl dc (fun w Lp hA => ⟨hA.ro hs, hA.ro hfacts⟩)) (fun _ _ => (Ent.b (fun q29 => ?_) (fun q29 => ?_)))))))
  ·refine Dyp 9 rfl (Y.not (b := true) rfl) (Dyp 10 rfl (t7 rfl rfl) (Dyp 11 rfl (i8 rfl) (Dyp 12 rfl (i8 rfl) (Dyp 13 rfl (Y.eql rfl rfl) (o3 (fun q34 => ?_) (fun q34 => ?_))))))
   ·refine Dyp 14 rfl (t7 rfl rfl) (Dyp 15 rfl (i8 rfl) (Dsk 16 rfl (Dsk 17 rfl (Dsk 18 rfl (Dsk 19 rfl (Dsk 20 rfl (Dsk 21 rfl (Dsk 22 rfl (Dsk 23 rfl (Dsk 24 rfl (Dsk 25 rfl (Dyp 26 rfl (t8 rfl rfl) (r9 kr (Et (n8 rfl (Ew Z1 (Ei rfl ?_)))))))))))))))))
    exact Eu (E.ret (n0 (Fb rfl rfl (by grind [a0r, F8, a0x, a0R, d1, d2, t1, t2]))))
   ·refine Dyp 14 rfl (t7 rfl rfl) (Dyp 15 rfl (i8 rfl) (Dyp 16 rfl (f5 fo_Proof_0 ty_Lines dc rfl) (Dy 17 rfl (g9 ty_Lines rfl (Hz m0 0 rfl) rfl) (Dyp 18 rfl (i8 rfl) (Dyp 19 rfl (Y.sub rfl rfl om om) ?_)))))
    obtain ⟨eb41, eo41, ec41, ea41, er41, el41, eh41⟩ := W0.elem (k8.length - 1) om
    obtain ⟨xa41_0, xc41_0, xa41_1, xc41_1, rfl, ei41_0, ei41_1, xh41_0, ei41_3, xh41_1⟩ := a1b er41
    have := xh41_0.slen.2
    have := xh41_1.slen.2
    refine Dyp 20 rfl (v8 us_Lines ty_Line rfl ea41 rfl (k8.length - 1) om om) (Dyp 21 rfl (f5 fo_Line_2 ty_Fact dc rfl) (Dy 22 rfl (o6 (cs := [_, _]) ty_Fact rfl ((eh41 _).sub (cs' := [_, _]) 3 rfl) rfl) (Dy 23 rfl (o6 (cs := [_, _]) ty_Fact rfl (Has.pt (mS m0)) rfl) (t6 24 rfl rfl kr (fun _ => rfl) (l0 R8 rfl rfl rfl dc (fun w Lp hA => ⟨ei41_3, hA.ro xh41_1, C3, hA.ro v6⟩)) (fun _ _ => (Dyp 25 rfl (Y.neq rfl rfl) (o3 (fun q46 => ?_) (fun q46 => ?_))))))))
    ·refine Dyp 26 rfl (t7 rfl rfl) (r9 kr (Et (n8 rfl (Ew Z1 (Ei rfl ?_)))))
     exact Eu (E.ret (n0 (Fb rfl rfl (by grind [a0r, F8, a0x, a0R, d1, d2, t1, t2]))))
    ·refine Dyp 26 rfl (t7 rfl rfl) (r9 kr (Et (o0 rfl (i7 (Et (Eq_ (Ew Z4 (Ey rfl ((f5 fo_Proof_0 ty_Lines dc rfl).yd) (Ey rfl (g9 ty_Lines rfl (Hz m0 0 rfl) rfl) (Ey rfl ((Y.len us_Lines rfl).yd) (Em rfl (Eu (E.block (E.loop (κ := Nat) (fun g => g ≤ k8.length ∧ a1i s l d4 a8 d6 k8 0 = a1i s l d4 a8 d6 k8 g) (fun g => [(0, .slice a_s s.length c_s), (1, .slice a_l l.length c_l), (2, .slice a_rules d4.length c_rules), (3, .slice a_facts a8.length c_facts), (4, .slice a_seeds d6.length c_seeds), (13, .pointer (some ⟨b13, 0, none⟩)), (49, .slice L6 k8.length L5), (50, .int .i64 (↑k8.length : Int)), (51, .int .i64 (g : Int))]) (fun g => [pt b13 81 [.slice L6 k8.length L5], pt b12 85 [.int .i64 l8, .slice s8 f0.length s7]]) (fun g => k8.length - g) 0 ⟨Nat.zero_le _, by simp⟩ ⟨rfl, rfl, rfl, rfl, rfl, rfl, rfl, rfl, rfl, trivial⟩ (.refl _) (fun g pg => ?_)))))))))))))))
     obtain ⟨pk, pa⟩ := pg
     refine Ew Z1 (Ey rfl ((Y.lss rfl rfl).yd) (o3 (fun q52 => ?_) (fun q52 => ?_)))
     ·refine Eu (Eq_ (n8 rfl (i7 (Et (Eq_ (E.block (Ew Z6 (Em rfl ?_))))))))
      obtain ⟨eb54, eo54, ec54, ea54, er54, el54, eh54⟩ := W0.elem g om
      obtain ⟨xa54_0, xc54_0, xa54_1, xc54_1, rfl, ei54_0, ei54_1, xh54_0, ei54_3, xh54_1⟩ := a1b er54
      have := xh54_0.slen.2
      have := xh54_1.slen.2
      refine Ey rfl ((v8 us_Lines ty_Line rfl ea54 rfl g rfl om).yd) (Ey rfl (o6 (cs := [_, _, _, _, _]) ty_Line rfl (eh54 _) rfl) (Est rfl (N.alloc ty_Line dc) (fun b17 _ => (Ei rfl (Est rfl (Ns [_, _, _, _, _] ty_Line rfl) (fun _ _ => (Eu (Eq_ (D.region (fun j => true) mixed (Dy 0 rfl (o6 (cs := [_, _, _, _, _]) ty_Line rfl (Has.pt m0) rfl) (Dyp 1 rfl (i8 rfl) (Dyp 2 rfl (i8 rfl) (Dyp 3 rfl (i8 rfl) (Dyp 4 rfl (i8 rfl) (Dyp 5 rfl (i8 rfl) (Dyp 6 rfl (f5 fo_Proof_0 ty_Lines dc rfl) (Dy 7 rfl (g9 ty_Lines rfl (Hz (mS m0) 0 rfl) rfl) (Dyp 8 rfl (i8 rfl) ?_))))))))))))))))))
      have rs65 := W0.upto g om
      have rl65 := rs65.slen.1
      have rc65 := W0.cap
      refine Dyp 9 rfl (a3F (h := g) us_Lines ty_Line rfl rfl om) (t6 10 rfl rfl kr (fun _ => rfl) (l0 (a7z fc) rfl rfl rfl dc (fun w Lp hA => ⟨ei54_0, ei54_1, hA.ro xh54_0, ei54_3, hA.ro xh54_1, hA.ro hs, hA.ro hl, hA.ro hrules, hA.ro hfacts, hA.ro hseeds, hA.ro rs65⟩)) (fun _ _ => (Ent.b (fun q66 => ?_) (fun q66 => ?_))))
      ·refine Dyp 11 rfl (Y.not (b := true) rfl) (r9 kr (Et (o0 rfl (i7 (s9 (Et (Ez Z2 (Ey rfl ((Y.add rfl rfl om om).yd) (Em rfl (Eu (Ent.drop (d9 (d9 ?_)))))))))))))
       exact x6 br (g + 1) rs (.refl _) ⟨by omega, by grind [a0x, a0R, d1, d2, t1, t2]⟩ om
      ·refine Dyp 11 rfl (Y.not (b := false) rfl) (r9 kr (Et (n8 rfl (Ew Z1 (Ei rfl ?_)))))
       exact Eu (E.ret (y8 (n0 (n0 (y8 (n0 (Fb rfl rfl (by grind [a0r, F8, a0x, a0R, d1, d2, t1, t2]))))))))
     ·refine Eu (Eq_ (o0 rfl (E.exit (q1 (q1 (y4 (Et (Ew Z1 (Ei rfl ?_)))))))))
      exact Eu (E.ret (Fb rfl rfl (by grind [a0r, F8, a0x, a0R, d1, d2, t1, t2])))
  ·refine Dyp 9 rfl (Y.not (b := false) rfl) (Dyp 10 rfl (t7 rfl rfl) (Dyp 11 rfl (i8 rfl) (Dsk 12 rfl (Dsk 13 rfl (Dyp 14 rfl (t8 rfl rfl) (Dyp 15 rfl (i8 rfl) (Dsk 16 rfl (Dsk 17 rfl (Dsk 18 rfl (Dsk 19 rfl (Dsk 20 rfl (Dsk 21 rfl (Dsk 22 rfl (Dsk 23 rfl (Dsk 24 rfl (Dsk 25 rfl (Dyp 26 rfl (t8 rfl rfl) (r9 kr (Et (n8 rfl (Ew Z1 (Ei rfl ?_))))))))))))))))))))))
   exact Eu (E.ret (n0 (Fb rfl rfl (by grind [a0r, F8, a0x, a0R, d1, d2, t1, t2]))))
 ·refine Dyp 4 rfl (Y.not (b := false) rfl) (Dyp 5 rfl (i8 rfl) (Dsk 6 rfl (Dsk 7 rfl (Dsk 8 rfl (Dsk 9 rfl (Dyp 10 rfl (t8 rfl rfl) (Dyp 11 rfl (i8 rfl) (Dsk 12 rfl (Dsk 13 rfl (Dyp 14 rfl (t8 rfl rfl) (Dyp 15 rfl (i8 rfl) (Dsk 16 rfl (Dsk 17 rfl (Dsk 18 rfl (Dsk 19 rfl (Dsk 20 rfl (Dsk 21 rfl (Dsk 22 rfl (Dsk 23 rfl (Dsk 24 rfl (Dsk 25 rfl (Dyp 26 rfl (t8 rfl rfl) (r9 kr (Et (n8 rfl (Ew Z1 (Ei rfl ?_)))))))))))))))))))))))))))
  exact Eu (E.ret (n0 (Fb rfl rfl (by grind [a0r, F8, a0x, a0R, d1, d2, t1, t2]))))
theorem a3R (hz1 : d6.length ≤ 1048576) (hz2 : a0m (fun x => x.2.1.2.length + x.2.2.2.length) k8 ≤ 1048576) : Tr Tryz.prog 56 [.slice a_s m_s c_s, .slice a_l m_l c_l, .slice a_rules m_rules c_rules, .slice a_facts m_facts c_facts, .slice a_seeds m_seeds c_seeds, .agg #[.int .i64 l8, .slice s8 w3 s7], .agg #[.slice L6 W9 L5]] (fun w L => Ro w L eIs [.slice a_s m_s c_s] s ∧ Ro w L F5 [.slice a_l m_l c_l] l ∧ Ro w L J9 [.slice a_rules m_rules c_rules] d4 ∧ Ro w L m8 [.slice a_facts m_facts c_facts] a8 ∧ Ro w L eIs [.slice a_seeds m_seeds c_seeds] d6 ∧ I64 l8 ∧ Ro w L eIs [.slice s8 w3 s7] f0 ∧ Ro w L B6 [.slice L6 W9 L5] k8) [] (κ := Unit) (fun k => True) (fun k => .bool (a0r s l d4 a8 d6 (l8, f0) k8)) (fun k => []) := by
 refine Tr.intro Tryz.func56 rfl (n := 170) rfl (by decide +kernel) bl (fr := [(0, .slice a_s m_s c_s), (1, .slice a_l m_l c_l), (2, .slice a_rules m_rules c_rules), (3, .slice a_facts m_facts c_facts), (4, .slice a_seeds m_seeds c_seeds), (5, .agg #[.int .i64 l8, .slice s8 w3 s7]), (6, .agg #[.slice L6 W9 L5])]) rfl fun w L hR => ?_
 obtain ⟨hs, hl, hrules, hfacts, hseeds, C3, v6, W0⟩ := hR
 obtain ⟨rfl, ls⟩ := hs.slen
 obtain ⟨rfl, ll⟩ := hl.slen
 obtain ⟨rfl, lrules⟩ := hrules.slen
 obtain ⟨rfl, lfacts⟩ := hfacts.slen
 obtain ⟨rfl, lseeds⟩ := hseeds.slen
 obtain ⟨rfl, J1⟩ := v6.slen
 obtain ⟨rfl, a8j⟩ := W0.slen
 refine Ew Z3 (Est rfl (N.box (cs := [_, _]) rfl dc rfl) (fun b12 _ => (Est rfl (N.box (cs := [_]) rfl dc rfl) (fun b13 _ => (Ei rfl (Eu (Eq_ (Ew Z17 (Em rfl (Em rfl (Em rfl (Est rfl (l0 a3h rfl rfl rfl dc (fun w Lp hA => ⟨hA.ro hs, hA.ro hl, hA.ro hrules⟩)) (fun _ _ => (Ent.b (fun q23 => ?_) (fun q23 => ?_)))))))))))))))
 ·refine Ey rfl ((Y.not (b := true) rfl).yd) (Em rfl (Em rfl (Em rfl (Est rfl (l0 S2 rfl rfl rfl dc (fun w Lp hA => ⟨hA.ro hs, hA.ro hfacts⟩)) (fun _ _ => (Ent.b (fun q28 => ?_) (fun q28 => ?_)))))))
  ·refine Ey rfl ((Y.not (b := true) rfl).yd) (Ey rfl ((t7 rfl rfl).yd) (Em rfl (Ey rfl ((f5 fo_Proof_0 ty_Lines dc rfl).yd) (Ey rfl (g9 ty_Lines rfl (Hz m0 0 rfl) rfl) (Ey rfl ((Y.len us_Lines rfl).yd) (Ey rfl ((Y.eql rfl rfl).yd) (o3 (fun q35 => ?_) (fun q35 => ?_))))))))
   ·refine Ey rfl ((t7 rfl rfl).yd) (Eu (n8 rfl (Ew Z1 (Ei rfl ?_))))
    exact Eu (E.ret (n0 (Fb rfl rfl (by grind [G2, I8, Q0, R9, R7, D0, L8, H9, F8, L9, I0, H8, P6, J7, d1, d2, t1, t2]))))
   ·refine Ey rfl ((t7 rfl rfl).yd) (Eu (o0 rfl (i7 (Et (Ew Z4 (Em rfl (Est rfl (N.call (a2o (fo)) rfl rfl rfl dc rfl (fun w Lp hA => hA.ro hseeds)) (fun k38 _ => ?_))))))))
    obtain ⟨⟨a38_0, m38_0, c38_0⟩, ⟨a38_1, m38_1, c38_1⟩, ⟨a38_2, m38_2, c38_2⟩⟩ := k38
    refine d7 m0 fun e38_0 l38_0 => ?_
    subst e38_0
    refine d7 (mS m0) fun e38_1 l38_1 => ?_
    subst e38_1
    refine d7 (mS (mS m0)) fun e38_2 l38_2 => ?_
    subst e38_2
    refine Est rfl (N.alloc ty_Reached dc) (fun b15 _ => (Est rfl (Ns [_, _, _, _] ty_Reached rfl) (fun _ _ => (Eu (Eq_ (Ew Z1 (Ei rfl (Eu (E.block (d9 (j4 (congrArg (ow m8 [_]) (show ([] : List (Int × List Int)) = N5 k8 0 from by first | rfl | (simp; done) | grind [G2, I8, Q0, R9, R7, D0, L8, H9, F8, L9, I0, H8, P6, J7, d1, d2, t1, t2])) (j8 (j4 (congrArg (ow eIs [_]) (show H6 (d6.filter (fun t => inR t 0 9)) = J8 d6 k8 0 from by first | rfl | (simp; done) | grind [G2, I8, Q0, R9, R7, D0, L8, H9, F8, L9, I0, H8, P6, J7, d1, d2, t1, t2])) (E.loop (κ := Nat × Option Addr × Nat × Nat × Option Addr × Nat × Nat) (fun g => g.1 ≤ k8.length ∧ (a2e s l d4 a8 d6 k8 0 = a2e s l d4 a8 d6 k8 g.1 ∧ ∀ y ∈ k8.take g.1, B9 s y.2.2 = true)) (fun g => [(0, .slice a_s s.length c_s), (1, .slice a_l l.length c_l), (2, .slice a_rules d4.length c_rules), (3, .slice a_facts a8.length c_facts), (12, .pointer (some ⟨b12, 0, none⟩)), (13, .pointer (some ⟨b13, 0, none⟩)), (15, .pointer (some ⟨b15, 0, none⟩)), (16, .int .i64 (↑g.1 : Int))]) (fun g => [ow eIs [.slice g.2.2.2.2.1 g.2.2.2.2.2.1 g.2.2.2.2.2.2] (J8 d6 k8 g.1), ow m8 [.slice g.2.1 g.2.2.1 g.2.2.2.1] (N5 k8 g.1), pt b15 90 [.slice g.2.1 g.2.2.1 g.2.2.2.1, .slice g.2.2.2.2.1 g.2.2.2.2.2.1 g.2.2.2.2.2.2, .slice a38_2 (([] : List (Int × List Int))).length c38_2, .int .i64 0], ow w5 [.slice a38_2 (([] : List (Int × List Int))).length c38_2] ([] : List (Int × List Int)), pt b13 81 [.slice L6 k8.length L5], pt b12 85 [.int .i64 l8, .slice s8 f0.length s7]]) (fun g => k8.length - g.1) (0, a38_0, (([] : List (Int × List Int))).length, c38_0, a38_1, (H6 (d6.filter (fun t => inR t 0 9))).length, c38_1) ⟨Nat.zero_le _, by simp⟩ ⟨rfl, rfl, rfl, rfl, rfl, rfl, rfl, rfl, trivial⟩ (.refl _) (fun g pg => ?_)))))))))))))))
    obtain ⟨g, aA0_0, mA0_0, cA0_0, aA0_1, mA0_1, cA0_1⟩ := g
    try dsimp only at pg
    try dsimp only
    obtain ⟨pk, pa⟩ := pg
    have pg0 := pa
    refine d7 (mS m0) fun eaA0_0 laA0_0 => ?_
    subst eaA0_0
    refine d7 m0 fun eaA0_1 laA0_1 => ?_
    subst eaA0_1
    refine Eq_ (Ew Z5 (Em rfl (Ey rfl ((f5 fo_Proof_0 ty_Lines dc rfl).yd) (Ey rfl (g9 ty_Lines rfl (Hz (mS (mS (mS (mS m0)))) 0 rfl) rfl) (Ey rfl ((Y.len us_Lines rfl).yd) (Ey rfl ((Y.lss rfl rfl).yd) (o3 (fun q43 => ?_) (fun q43 => ?_))))))))
    ·refine Eu (n8 rfl (i7 (Et (Eq_ (E.block (Ew Z7 (Ey rfl ((f5 fo_Proof_0 ty_Lines dc rfl).yd) (Ey rfl (g9 ty_Lines rfl (Hz (mS (mS (mS (mS m0)))) 0 rfl) rfl) (Em rfl ?_)))))))))
     obtain ⟨eb49, eo49, ec49, ea49, er49, el49, eh49⟩ := W0.elem g om
     obtain ⟨xa49_0, xc49_0, xa49_1, xc49_1, rfl, ei49_0, ei49_1, xh49_0, ei49_3, xh49_1⟩ := a1b er49
     have := xh49_0.slen.2
     have := xh49_1.slen.2
     refine Ey rfl ((v8 us_Lines ty_Line rfl ea49 rfl g rfl om).yd) (Ey rfl (o6 (cs := [_, _, _, _, _]) ty_Line rfl (eh49 _) rfl) (Est rfl (N.alloc ty_Line dc) (fun b17 _ => (Est rfl (Ns [_, _, _, _, _] ty_Line rfl) (fun _ _ => (Eu (Eq_ (Ew Z3 (Ey rfl ((f5 fo_Line_0 f9 dc rfl).yd) (Ey rfl (g9 f9 rfl (Hz m0 0 rfl) rfl) (Ey rfl ((Y.eql rfl rfl).yd) (o3 (fun q53 => ?_) (fun q53 => ?_)))))))))))))
     ·refine Eu (n8 rfl (Eq_ (Eq_ (D.region (fun j => true) mixed (Dyp 0 rfl (i8 rfl) (Dyp 1 rfl (i8 rfl) (Dyp 2 rfl (f5 fo_Line_1 ty_Access dc rfl) (Dy 3 rfl (o6 (cs := [_, _]) ty_Access rfl ((Has.pt m0).sub (cs' := [_, _]) 1 rfl) rfl) (t6 4 rfl rfl kr (fun _ => rfl) (l0 a8I rfl rfl rfl dc (fun w Lp hA => ⟨hA.ro hs, hA.ro hl, ei49_1, hA.ro xh49_0⟩)) (fun _ _ => (Ent.b (fun q58 => ?_) (fun q58 => ?_))))))))))))
      ·have zx : Y9 s l k8[g].2.1 = true := q58
       have zz := (a0w zx).2.1
       refine Dyp 5 rfl (Y.not (b := true) rfl) (Dyp 6 rfl (i8 rfl) (Dyp 7 rfl (i8 rfl) (Dyp 8 rfl (f5 fo_Line_1 ty_Access dc rfl) (Dyp 9 rfl (f5 fo_Access_0 f9 dc rfl) (Dy 10 rfl (g9 f9 rfl (((Has.pt m0).sub (cs' := [_, _]) 1 rfl).sub (cs' := [_]) 0 rfl) rfl) ?_)))))
       obtain ⟨eb65, eo65, ec65, ea65, er65, el65, eh65⟩ := hl.elem k8[g].2.1.1.toNat om
       obtain ⟨xa65_0, xc65_0, rfl, ei65_0, xh65_0, ei65_2, ei65_3, ei65_4⟩ := V6 er65
       have := xh65_0.slen.2
       refine Dyp 11 rfl (v8 us_Methods ty_Method rfl ea65 rfl k8[g].2.1.1.toNat om om) (Dyp 12 rfl (f5 fo_Method_2 f9 dc rfl) (Dy 13 rfl (g9 f9 rfl ((eh65 _).sub (cs' := [_]) 2 rfl) rfl) (Dyp 14 rfl (Y.neq rfl rfl) (o3 (fun q68 => ?_) (fun q68 => ?_)))))
       ·refine Dyp 15 rfl (t7 rfl rfl) (Dyp 16 rfl (i8 rfl) (Dsk 17 rfl (Dsk 18 rfl (Dsk 19 rfl (Dsk 20 rfl (Dsk 21 rfl (Dsk 22 rfl (Dsk 23 rfl (Dsk 24 rfl (Dsk 25 rfl (Dsk 26 rfl (Dsk 27 rfl (Dsk 28 rfl (Dsk 29 rfl (Dsk 30 rfl (Dsk 31 rfl (Dyp 32 rfl (t8 rfl rfl) (r9 kr (Et (n8 rfl (Ew Z1 (Ei rfl ?_))))))))))))))))))))))
        exact Eu (E.ret (n0 (n0 (y8 (n0 (n0 (y8 (n0 (Fb rfl rfl (by grind [G2, I8, Q0, R9, R7, D0, L8, H9, F8, L9, I0, H8, P6, J7, d1, d2, t1, t2]))))))))))
       ·refine Dyp 15 rfl (t7 rfl rfl) (Dyp 16 rfl (i8 rfl) (Dyp 17 rfl (i8 rfl) (Dyp 18 rfl (f5 fo_Line_1 ty_Access dc rfl) (Dyp 19 rfl (f5 fo_Access_0 f9 dc rfl) (Dy 20 rfl (g9 f9 rfl (((Has.pt m0).sub (cs' := [_, _]) 1 rfl).sub (cs' := [_]) 0 rfl) rfl) (Dyp 21 rfl (v8 us_Methods ty_Method rfl ea65 rfl k8[g].2.1.1.toNat om om) (Dy 22 rfl (o6 (cs := [_, _, _, _, _]) ty_Method rfl (eh65 _) rfl) (Dyp 23 rfl (f5 fo_Line_1 ty_Access dc rfl) (Dyp 24 rfl (f5 fo_Access_1 ty_Is dc rfl) (Dy 25 rfl (g9 ty_Is rfl (((Has.pt m0).sub (cs' := [_, _]) 1 rfl).sub (cs' := [_]) 1 rfl) rfl) (Dyp 26 rfl (i8 rfl) (Dyp 28 rfl (f5 fo_Line_2 ty_Fact dc rfl) (Dy 29 rfl (o6 (cs := [_, _]) ty_Fact rfl ((Has.pt m0).sub (cs' := [_, _]) 3 rfl) rfl) (t6 27 rfl rfl kr (fun _ => rfl) (N.call (a2x ((by have zc := (a0w zx).2.2.1; rw [D0 (a0w zx).2.1.2] at zc; exact Nat.le_of_eq zc.symm)) ((by have zc := b3J zx q28; rw [D0 (a0w zx).2.1.2] at zc; exact zc)) ((Nat.le_trans (J5 q28).1 dc)) ((fun f hf => Nat.le_trans (H3 ((J5 q28).2 f hf)) dc))) rfl rfl rfl dc rfl (fun w Lp hA => ⟨ei65_0, hA.ro xh65_0, ei65_2, ei65_3, ei65_4, hA.ro xh49_0, hA.ro hfacts⟩)) (fun k81 _ => ?_)))))))))))))))
        obtain ⟨a81, m81, c81⟩ := k81
        refine d7 m0 fun e81 l81 => ?_
        subst e81
        refine t6 30 rfl rfl kr (fun _ => rfl) (l0 a0B rfl rfl rfl dc (fun w Lp hA => ⟨hA.ow m0, ei49_3, hA.ro xh49_1⟩)) (fun _ _ => (Ent.b (fun q84 => ?_) (fun q84 => ?_)))
        ·refine Dyp 31 rfl (Y.not (b := true) rfl) (Dyp 32 rfl (t7 rfl rfl) (r9 kr (Et (o0 rfl (i7 (Et (Ew Z1 (Ei rfl (Eu (E.block (E.loop (κ := Nat) (fun k => k ≤ k8[g].2.1.2.length ∧ (k8[g].2.1.2.any fun v => !L9 (J8 d6 k8 g) v) = ((k8[g].2.1.2.drop k).any fun v => !L9 (J8 d6 k8 g) v)) (fun k => [(0, .slice a_s s.length c_s), (1, .slice a_l l.length c_l), (2, .slice a_rules d4.length c_rules), (3, .slice a_facts a8.length c_facts), (12, .pointer (some ⟨b12, 0, none⟩)), (13, .pointer (some ⟨b13, 0, none⟩)), (15, .pointer (some ⟨b15, 0, none⟩)), (16, .int .i64 (g : Int)), (17, .pointer (some ⟨b17, 0, none⟩)), (18, .int .i64 (k : Int))]) (fun k => [ow m8 [.slice a81 (a8.filter (v7 ((l[k8[g].2.1.1.toNat].1), (l[k8[g].2.1.1.toNat].2.1), (l[k8[g].2.1.1.toNat].2.2.1), (l[k8[g].2.1.1.toNat].2.2.2.1), (l[k8[g].2.1.1.toNat].2.2.2.2)) k8[g].2.1.2)).length c81] (a8.filter (v7 ((l[k8[g].2.1.1.toNat].1), (l[k8[g].2.1.1.toNat].2.1), (l[k8[g].2.1.1.toNat].2.2.1), (l[k8[g].2.1.1.toNat].2.2.2.1), (l[k8[g].2.1.1.toNat].2.2.2.2)) k8[g].2.1.2)), pt b17 183 [.int .i64 k8[g].1, .int .i64 k8[g].2.1.1, .slice xa49_0 k8[g].2.1.2.length xc49_0, .int .i64 k8[g].2.2.1, .slice xa49_1 k8[g].2.2.2.length xc49_1], ow eIs [.slice aA0_1 (J8 d6 k8 g).length cA0_1] (J8 d6 k8 g), ow m8 [.slice aA0_0 (N5 k8 g).length cA0_0] (N5 k8 g), pt b15 90 [.slice aA0_0 (N5 k8 g).length cA0_0, .slice aA0_1 (J8 d6 k8 g).length cA0_1, .slice a38_2 (([] : List (Int × List Int))).length c38_2, .int .i64 0], ow w5 [.slice a38_2 (([] : List (Int × List Int))).length c38_2] ([] : List (Int × List Int)), pt b13 81 [.slice L6 k8.length L5], pt b12 85 [.int .i64 l8, .slice s8 f0.length s7]]) (fun k => k8[g].2.1.2.length - k) 0 ⟨Nat.zero_le _, by simp⟩ ⟨rfl, rfl, rfl, rfl, rfl, rfl, rfl, rfl, rfl, rfl, trivial⟩ (.refl _) (fun k pk => ?_))))))))))))
         obtain ⟨pk, pa⟩ := pk
         refine Eq_ (Ew Z6 (Em rfl (Ey rfl ((f5 fo_Line_1 ty_Access dc rfl).yd) (Ey rfl ((f5 fo_Access_1 ty_Is dc rfl).yd) (Ey rfl (g9 ty_Is rfl (((Has.pt (mS m0)).sub (cs' := [_, _]) 1 rfl).sub (cs' := [_]) 1 rfl) rfl) (Ey rfl ((Y.len us_Is rfl).yd) (Ey rfl ((Y.lss rfl rfl).yd) (o3 (fun q92 => ?_) (fun q92 => ?_)))))))))
         ·refine Eu (n8 rfl (i7 (Et (Eq_ (E.block (Eq_ (D.region (fun j => true) mixed (Dyp 0 rfl (f5 fo_Reached_1 ty_Is dc rfl) (Dy 1 rfl (g9 ty_Is rfl (Hz (mS (mS (mS (mS m0)))) 1 rfl) rfl) (Dyp 2 rfl (f5 fo_Line_1 ty_Access dc rfl) (Dyp 3 rfl (f5 fo_Access_1 ty_Is dc rfl) (Dy 4 rfl (g9 ty_Is rfl (((Has.pt (mS m0)).sub (cs' := [_, _]) 1 rfl).sub (cs' := [_]) 1 rfl) rfl) (Dyp 5 rfl (i8 rfl) ?_)))))))))))))
          obtain ⟨eb101, eo101, ea101, ei101, eh101⟩ := xh49_0.elemI k om
          refine Dyp 6 rfl (v8 us_Is f9 rfl ea101 rfl k rfl om) (Dy 7 rfl (g9 f9 rfl (eh101 _) rfl) (t6 8 rfl rfl kr (fun _ => rfl) (l0 a6V rfl rfl rfl dc (fun w Lp hA => hA.ow (mS (mS m0)))) (fun _ _ => (Ent.b (fun q103 => ?_) (fun q103 => ?_)))))
          ·refine Dyp 9 rfl (Y.not (b := true) rfl) (r9 kr (Et (o0 rfl (i7 (s9 (Et (Ez Z3 (Em rfl (Ey rfl ((Y.add rfl rfl om om).yd) (Ei rfl (Eu (w8 (w8 (w8 (w8 (w8 (w8 (w8 (w8 ?_)))))))))))))))))))
           exact x6 br (k + 1) rs (.refl _) ⟨by omega, by grind [d1, d2, t1, t2]⟩ om
          ·refine Dyp 9 rfl (Y.not (b := false) rfl) (r9 kr (Et (n8 rfl (Ew Z1 (Ei rfl ?_)))))
           exact Eu (E.ret (y8 (n0 (n0 (y8 (n0 (y8 (n0 (n0 (y8 (n0 (Fb rfl rfl (by grind [G2, I8, Q0, R9, R7, D0, L8, H9, F8, L9, I0, H8, P6, J7, d1, d2, t1, t2])))))))))))))
         ·refine Eu (o0 rfl (E.exit (q1 (q1 (y4 (Et (Ew Z7 (Ey rfl ((f5 fo_Reached_0 ty_Facts dc rfl).yd) (Ey rfl (g9 ty_Facts rfl (Hz (mS (mS (mS (mS m0)))) 0 rfl) rfl) (Ey rfl ((f5 fo_Line_2 ty_Fact dc rfl).yd) (Ey rfl (o6 (cs := [_, _]) ty_Fact rfl ((Has.pt (mS m0)).sub (cs' := [_, _]) 3 rfl) rfl) (Est rfl (N.call (T9 ((Nat.le_trans (a9U hz2) dc)) ((b1a hz2)) ((a7O hz2 _ (List.getElem_mem om)).1)) rfl rfl rfl dc rfl (fun w Lp hA => ⟨hA.ow (mS (mS (mS m0))), ei49_3, hA.ro xh49_1⟩)) (fun k138 _ => ?_)))))))))))))
          obtain ⟨a138, m138, c138⟩ := k138
          refine d7 m0 fun e138 l138 => ?_
          subst e138
          refine Ey rfl ((f5 fo_Reached_0 ty_Facts dc rfl).yd) (w6 (Est rfl (Ns [_, _, _, _] ty_Facts rfl) (fun _ _ => (Ev Z1 (Ei rfl (Eu (E.block (j9 (j4 (congrArg (ow eIs [_]) (show J8 d6 k8 g = (k8[g].2.2.2.take 0).foldl E4 (J8 d6 k8 g) from by first | rfl | (simp; done) | grind [G2, I8, Q0, R9, R7, D0, L8, H9, F8, L9, I0, H8, P6, J7, d1, d2, t1, t2])) (E.loop (κ := Nat × Option Addr × Nat × Nat) (fun j => j.1 ≤ k8[g].2.2.2.length ∧ True) (fun j => [(0, .slice a_s s.length c_s), (1, .slice a_l l.length c_l), (2, .slice a_rules d4.length c_rules), (3, .slice a_facts a8.length c_facts), (12, .pointer (some ⟨b12, 0, none⟩)), (13, .pointer (some ⟨b13, 0, none⟩)), (15, .pointer (some ⟨b15, 0, none⟩)), (16, .int .i64 (g : Int)), (17, .pointer (some ⟨b17, 0, none⟩)), (19, .int .i64 (↑j.1 : Int))]) (fun j => [ow eIs [.slice j.2.1 j.2.2.1 j.2.2.2] ((k8[g].2.2.2.take j.1).foldl E4 (J8 d6 k8 g)), pt b15 90 [.slice a138 (w4 (N5 k8 g) k8[g].2.2).length c138, .slice j.2.1 j.2.2.1 j.2.2.2, .slice a38_2 (([] : List (Int × List Int))).length c38_2, .int .i64 0], ow m8 [.slice a138 (w4 (N5 k8 g) k8[g].2.2).length c138] (w4 (N5 k8 g) k8[g].2.2), ow m8 [.slice a81 (a8.filter (v7 ((l[k8[g].2.1.1.toNat].1), (l[k8[g].2.1.1.toNat].2.1), (l[k8[g].2.1.1.toNat].2.2.1), (l[k8[g].2.1.1.toNat].2.2.2.1), (l[k8[g].2.1.1.toNat].2.2.2.2)) k8[g].2.1.2)).length c81] (a8.filter (v7 ((l[k8[g].2.1.1.toNat].1), (l[k8[g].2.1.1.toNat].2.1), (l[k8[g].2.1.1.toNat].2.2.1), (l[k8[g].2.1.1.toNat].2.2.2.1), (l[k8[g].2.1.1.toNat].2.2.2.2)) k8[g].2.1.2)), pt b17 183 [.int .i64 k8[g].1, .int .i64 k8[g].2.1.1, .slice xa49_0 k8[g].2.1.2.length xc49_0, .int .i64 k8[g].2.2.1, .slice xa49_1 k8[g].2.2.2.length xc49_1], ow m8 [.slice aA0_0 (N5 k8 g).length cA0_0] (N5 k8 g), ow w5 [.slice a38_2 (([] : List (Int × List Int))).length c38_2] ([] : List (Int × List Int)), pt b13 81 [.slice L6 k8.length L5], pt b12 85 [.int .i64 l8, .slice s8 f0.length s7]]) (fun j => k8[g].2.2.2.length - j.1) (0, aA0_1, (J8 d6 k8 g).length, cA0_1) ⟨Nat.zero_le _, by simp⟩ ⟨rfl, rfl, rfl, rfl, rfl, rfl, rfl, rfl, rfl, rfl, trivial⟩ (.refl _) (fun j pj => ?_)))))))))))
          obtain ⟨j, aA2_0, mA2_0, cA2_0⟩ := j
          try dsimp only at pj
          try dsimp only
          obtain ⟨pk, pa⟩ := pj
          refine d7 m0 fun eaA2_0 laA2_0 => ?_
          subst eaA2_0
          refine Eq_ (Ew Z6 (Em rfl (Ey rfl ((f5 fo_Line_2 ty_Fact dc rfl).yd) (Ey rfl ((f5 fo_Fact_1 ty_Is dc rfl).yd) (Ey rfl (g9 ty_Is rfl (((Has.pt (mS (mS (mS (mS m0))))).sub (cs' := [_, _]) 3 rfl).sub (cs' := [_]) 1 rfl) rfl) (Ey rfl ((Y.len us_Is rfl).yd) (Ey rfl ((Y.lss rfl rfl).yd) (o3 (fun q145 => ?_) (fun q145 => ?_)))))))))
          ·refine Eu (n8 rfl (i7 (Et (Eq_ (E.block (D.region (fun j => !(Nat.beq j 8) && !(Nat.beq j 10)) mixed (Dyp 0 rfl (f5 fo_Reached_1 ty_Is dc rfl) (Dy 1 rfl (g9 ty_Is rfl (Hz (mS m0) 1 rfl) rfl) (Dyp 2 rfl (f5 fo_Line_2 ty_Fact dc rfl) (Dyp 3 rfl (f5 fo_Fact_1 ty_Is dc rfl) (Dy 4 rfl (g9 ty_Is rfl (((Has.pt (mS (mS (mS (mS m0))))).sub (cs' := [_, _]) 3 rfl).sub (cs' := [_]) 1 rfl) rfl) (Dyp 5 rfl (i8 rfl) ?_))))))))))))
           obtain ⟨eb154, eo154, ea154, ei154, eh154⟩ := xh49_1.elemI j om
           refine Dyp 6 rfl (v8 us_Is f9 rfl ea154 rfl j rfl om) (Dy 7 rfl (g9 f9 rfl (eh154 _) rfl) (t6 8 rfl rfl kr (fun h => by cases h) (N.call (pre := [_]) (a1h ((Nat.le_trans (a8s hz1 hz2 om) dc))) rfl rfl rfl dc rfl (fun w Lp hA => ei154)) (fun k156 _ => ?_)))
           obtain ⟨a156, m156, c156⟩ := k156
           refine d7 m0 fun e156 l156 => ?_
           subst e156
           refine Dyp 9 rfl (f5 fo_Reached_1 ty_Is dc rfl) (d9 (t6 10 rfl rfl kr (fun h => by cases h) (Ns [_, _, _, _] ty_Is rfl) (fun _ _ => (r9 kr (s9 (Et (Ez Z3 (Em rfl (Ey rfl ((Y.add rfl rfl om om).yd) (Ei rfl (Eu (d9 (j4 (congrArg (ow eIs [_]) (show E4 ((k8[g].2.2.2.take j).foldl E4 (J8 d6 k8 g)) k8[g].2.2.2[j] = (k8[g].2.2.2.take (j + 1)).foldl E4 (J8 d6 k8 g) from by grind [G2, I8, Q0, R9, R7, D0, L8, H9, F8, L9, I0, H8, P6, J7, d1, d2, t1, t2])) (D8 (D8 (D8 (D8 (D8 (D8 (D8 (D8 (D8 ?_))))))))))))))))))))))
           exact Ea (j + 1, a156, (E4 ((k8[g].2.2.2.take j).foldl E4 (J8 d6 k8 g)) k8[g].2.2.2[j]).length, c156) ⟨oz, trivial⟩
          ·refine Eu (o0 rfl (E.exit (q1 (q1 (y4 (s9 (Et (Ez Z3 (Em rfl (Ey rfl ((Y.add rfl rfl om om).yd) (Ei rfl ?_)))))))))))
           have zs : Q0 s l d4 a8 (N5 k8 g) (J8 d6 k8 g) k8[g] = true := by grind [G2, I8, Q0, R9, R7, D0, L8, H9, F8, L9, I0, H8, P6, J7, d1, d2, t1, t2]
           refine Eu (o4 (Ent.drop (o4 (Ent.drop (o4 (Ent.drop (j8 (j4 (congrArg (ow m8 [_]) (show w4 (N5 k8 g) k8[g].2.2 = N5 k8 (g + 1) from by grind [G2, I8, Q0, R9, R7, D0, L8, H9, F8, L9, I0, H8, P6, J7, d1, d2, t1, t2])) (d9 (j4 (congrArg (ow eIs [_]) (show (k8[g].2.2.2.take j).foldl E4 (J8 d6 k8 g) = J8 d6 k8 (g + 1) from by grind [G2, I8, Q0, R9, R7, D0, L8, H9, F8, L9, I0, H8, P6, J7, d1, d2, t1, t2])) (w6 (w6 (w6 (w6 (w6 (w6 ?_))))))))))))))))
           exact Ea (g + 1, a138, (w4 (N5 k8 g) k8[g].2.2).length, c138, aA2_0, ((k8[g].2.2.2.take j).foldl E4 (J8 d6 k8 g)).length, cA2_0) ⟨oz, (show (a2e s l d4 a8 d6 k8 0 = a2e s l d4 a8 d6 k8 (g + 1) ∧ ∀ y ∈ k8.take (g + 1), B9 s y.2.2 = true) from by exact ⟨by rw [pg0.1, G2 om, zs, Bool.true_and], b2q pg0.2 om (a9s q28 zs)⟩)⟩
        ·refine Dyp 31 rfl (Y.not (b := false) rfl) (Dyp 32 rfl (t7 rfl rfl) (r9 kr (Et (n8 rfl (Ew Z1 (Ei rfl ?_))))))
         exact Eu (E.ret (n0 (n0 (y8 (n0 (n0 (y8 (n0 (Fb rfl rfl (by grind [G2, I8, Q0, R9, R7, D0, L8, H9, F8, L9, I0, H8, P6, J7, d1, d2, t1, t2]))))))))))
      ·refine Dyp 5 rfl (Y.not (b := false) rfl) (Dyp 6 rfl (i8 rfl) (Dsk 7 rfl (Dsk 8 rfl (Dsk 9 rfl (Dsk 10 rfl (Dsk 11 rfl (Dsk 12 rfl (Dsk 13 rfl (Dsk 14 rfl (Dyp 15 rfl (t8 rfl rfl) (Dyp 16 rfl (i8 rfl) (Dsk 17 rfl (Dsk 18 rfl (Dsk 19 rfl (Dsk 20 rfl (Dsk 21 rfl (Dsk 22 rfl (Dsk 23 rfl (Dsk 24 rfl (Dsk 25 rfl (Dsk 26 rfl (Dsk 27 rfl (Dsk 28 rfl (Dsk 29 rfl (Dsk 30 rfl (Dsk 31 rfl (Dyp 32 rfl (t8 rfl rfl) (r9 kr (Et (n8 rfl (Ew Z1 (Ei rfl ?_))))))))))))))))))))))))))))))))
       exact Eu (E.ret (n0 (n0 (y8 (n0 (n0 (y8 (n0 (Fb rfl rfl (by grind [G2, I8, Q0, R9, R7, D0, L8, H9, F8, L9, I0, H8, P6, J7, d1, d2, t1, t2]))))))))))
     ·refine Eu (o0 rfl (Eq_ (D.region (fun j => true) mixed (Dyp 0 rfl (f5 fo_Line_0 f9 dc rfl) (Dy 1 rfl (g9 f9 rfl (Hz m0 0 rfl) rfl) (Dyp 2 rfl (i8 rfl) (Dyp 3 rfl (Y.len us_Rules rfl) (Dyp 4 rfl (Y.sub rfl rfl om om) (t6 5 rfl rfl kr (fun _ => rfl) (l0 G0 rfl rfl rfl dc tv) (fun _ _ => (Ent.b (fun q110 => ?_) (fun q110 => ?_))))))))))))
      ·have zz := a3A q110
       refine Dyp 6 rfl (Y.not (b := true) rfl) (Dyp 7 rfl (i8 rfl) (Dyp 8 rfl (i8 rfl) (Dyp 9 rfl (f5 fo_Line_2 ty_Fact dc rfl) (Dy 10 rfl (o6 (cs := [_, _]) ty_Fact rfl ((Has.pt m0).sub (cs' := [_, _]) 3 rfl) rfl) (t6 11 rfl rfl kr (fun _ => rfl) (l0 a6m rfl rfl rfl dc (fun w Lp hA => ⟨hA.ro hs, ei49_3, hA.ro xh49_1⟩)) (fun _ _ => (Ent.b (fun q116 => ?_) (fun q116 => ?_))))))))
       ·refine Dyp 12 rfl (Y.not (b := true) rfl) (Dyp 13 rfl (t7 rfl rfl) (Dyp 14 rfl (i8 rfl) (Dyp 15 rfl (i8 rfl) (Dyp 16 rfl (f5 fo_Line_0 f9 dc rfl) (Dy 17 rfl (g9 f9 rfl (Hz m0 0 rfl) rfl) (Dyp 18 rfl (f5 fo_Line_0 f9 dc rfl) (Dy 19 rfl (g9 f9 rfl (Hz m0 0 rfl) rfl) (Dyp 20 rfl (Y.add rfl rfl om om) ?_))))))))
        have rc126 := hrules.cap
        have rs126 : Ro _ _ J9 [.slice (if c_rules = (k8[g].1).toNat then a_rules else a_rules.map (·.add ((k8[g].1).toNat * 3))) (((k8[g].1 + 1)).toNat - (k8[g].1).toNat) (c_rules - (k8[g].1).toNat)] ((d4.take (((k8[g].1 + 1)).toNat)).drop ((k8[g].1).toNat)) := (hrules.upto (((k8[g].1 + 1)).toNat) om).frm ((k8[g].1).toNat) om
        refine Dyp 21 rfl (b7h us_Rules ty_Rule rfl rfl rfl om om om) (Dyp 22 rfl (f5 fo_Reached_0 ty_Facts dc rfl) (Dy 23 rfl (g9 ty_Facts rfl (Hz (mS (mS (mS m0))) 0 rfl) rfl) (Dyp 24 rfl (f5 fo_Line_2 ty_Fact dc rfl) (Dy 25 rfl (o6 (cs := [_, _]) ty_Fact rfl ((Has.pt m0).sub (cs' := [_, _]) 3 rfl) rfl) (t6 26 rfl rfl kr (fun _ => rfl) (l0 (a5e ((b5p q23 (b5v pa.2))) ((b5m q23))) rfl rfl rfl dc (fun w Lp hA => ⟨hA.ro rs126, hA.ow (mS (mS m0)), ei49_3, hA.ro xh49_1⟩)) (fun _ _ => (Dyp 27 rfl (Y.neq rfl rfl) (o3 (fun q132 => ?_) (fun q132 => ?_)))))))))
        ·refine Dyp 28 rfl (t7 rfl rfl) (r9 kr (Et (n8 rfl (Ew Z1 (Ei rfl ?_)))))
         exact Eu (E.ret (n0 (y8 (n0 (n0 (y8 (n0 (Fb rfl rfl (by grind [G2, I8, Q0, R9, R7, D0, L8, H9, F8, L9, I0, H8, P6, J7, d1, d2, t1, t2])))))))))
        ·refine Dyp 28 rfl (t7 rfl rfl) (r9 kr (Et (o0 rfl (i7 (Et (Ew Z7 (Ey rfl ((f5 fo_Reached_0 ty_Facts dc rfl).yd) (Ey rfl (g9 ty_Facts rfl (Hz (mS (mS (mS m0))) 0 rfl) rfl) (Ey rfl ((f5 fo_Line_2 ty_Fact dc rfl).yd) (Ey rfl (o6 (cs := [_, _]) ty_Fact rfl ((Has.pt m0).sub (cs' := [_, _]) 3 rfl) rfl) (Est rfl (N.call (T9 ((Nat.le_trans (a9U hz2) dc)) ((b1a hz2)) ((a7O hz2 _ (List.getElem_mem om)).1)) rfl rfl rfl dc rfl (fun w Lp hA => ⟨hA.ow (mS (mS m0)), ei49_3, hA.ro xh49_1⟩)) (fun k138 _ => ?_))))))))))))
         obtain ⟨a138, m138, c138⟩ := k138
         refine d7 m0 fun e138 l138 => ?_
         subst e138
         refine Ey rfl ((f5 fo_Reached_0 ty_Facts dc rfl).yd) (j9 (Est rfl (Ns [_, _, _, _] ty_Facts rfl) (fun _ _ => (Ev Z1 (Ei rfl (Eu (E.block (o4 (j4 (congrArg (ow eIs [_]) (show J8 d6 k8 g = (k8[g].2.2.2.take 0).foldl E4 (J8 d6 k8 g) from by first | rfl | (simp; done) | grind [G2, I8, Q0, R9, R7, D0, L8, H9, F8, L9, I0, H8, P6, J7, d1, d2, t1, t2])) (E.loop (κ := Nat × Option Addr × Nat × Nat) (fun j => j.1 ≤ k8[g].2.2.2.length ∧ True) (fun j => [(0, .slice a_s s.length c_s), (1, .slice a_l l.length c_l), (2, .slice a_rules d4.length c_rules), (3, .slice a_facts a8.length c_facts), (12, .pointer (some ⟨b12, 0, none⟩)), (13, .pointer (some ⟨b13, 0, none⟩)), (15, .pointer (some ⟨b15, 0, none⟩)), (16, .int .i64 (g : Int)), (17, .pointer (some ⟨b17, 0, none⟩)), (19, .int .i64 (↑j.1 : Int))]) (fun j => [ow eIs [.slice j.2.1 j.2.2.1 j.2.2.2] ((k8[g].2.2.2.take j.1).foldl E4 (J8 d6 k8 g)), pt b15 90 [.slice a138 (w4 (N5 k8 g) k8[g].2.2).length c138, .slice j.2.1 j.2.2.1 j.2.2.2, .slice a38_2 (([] : List (Int × List Int))).length c38_2, .int .i64 0], ow m8 [.slice a138 (w4 (N5 k8 g) k8[g].2.2).length c138] (w4 (N5 k8 g) k8[g].2.2), pt b17 183 [.int .i64 k8[g].1, .int .i64 k8[g].2.1.1, .slice xa49_0 k8[g].2.1.2.length xc49_0, .int .i64 k8[g].2.2.1, .slice xa49_1 k8[g].2.2.2.length xc49_1], ow m8 [.slice aA0_0 (N5 k8 g).length cA0_0] (N5 k8 g), ow w5 [.slice a38_2 (([] : List (Int × List Int))).length c38_2] ([] : List (Int × List Int)), pt b13 81 [.slice L6 k8.length L5], pt b12 85 [.int .i64 l8, .slice s8 f0.length s7]]) (fun j => k8[g].2.2.2.length - j.1) (0, aA0_1, (J8 d6 k8 g).length, cA0_1) ⟨Nat.zero_le _, by simp⟩ ⟨rfl, rfl, rfl, rfl, rfl, rfl, rfl, rfl, rfl, rfl, trivial⟩ (.refl _) (fun j pj => ?_)))))))))))
         obtain ⟨j, aA2_0, mA2_0, cA2_0⟩ := j
         try dsimp only at pj
         try dsimp only
         obtain ⟨pk, pa⟩ := pj
         refine d7 m0 fun eaA2_0 laA2_0 => ?_
         subst eaA2_0
         refine Eq_ (Ew Z6 (Em rfl (Ey rfl ((f5 fo_Line_2 ty_Fact dc rfl).yd) (Ey rfl ((f5 fo_Fact_1 ty_Is dc rfl).yd) (Ey rfl (g9 ty_Is rfl (((Has.pt (mS (mS (mS m0)))).sub (cs' := [_, _]) 3 rfl).sub (cs' := [_]) 1 rfl) rfl) (Ey rfl ((Y.len us_Is rfl).yd) (Ey rfl ((Y.lss rfl rfl).yd) (o3 (fun q145 => ?_) (fun q145 => ?_)))))))))
         ·refine Eu (n8 rfl (i7 (Et (Eq_ (E.block (D.region (fun j => !(Nat.beq j 8) && !(Nat.beq j 10)) mixed (Dyp 0 rfl (f5 fo_Reached_1 ty_Is dc rfl) (Dy 1 rfl (g9 ty_Is rfl (Hz (mS m0) 1 rfl) rfl) (Dyp 2 rfl (f5 fo_Line_2 ty_Fact dc rfl) (Dyp 3 rfl (f5 fo_Fact_1 ty_Is dc rfl) (Dy 4 rfl (g9 ty_Is rfl (((Has.pt (mS (mS (mS m0)))).sub (cs' := [_, _]) 3 rfl).sub (cs' := [_]) 1 rfl) rfl) (Dyp 5 rfl (i8 rfl) ?_))))))))))))
          obtain ⟨eb154, eo154, ea154, ei154, eh154⟩ := xh49_1.elemI j om
          refine Dyp 6 rfl (v8 us_Is f9 rfl ea154 rfl j rfl om) (Dy 7 rfl (g9 f9 rfl (eh154 _) rfl) (t6 8 rfl rfl kr (fun h => by cases h) (N.call (pre := [_]) (a1h ((Nat.le_trans (a8s hz1 hz2 om) dc))) rfl rfl rfl dc rfl (fun w Lp hA => ei154)) (fun k156 _ => ?_)))
          obtain ⟨a156, m156, c156⟩ := k156
          refine d7 m0 fun e156 l156 => ?_
          subst e156
          refine Dyp 9 rfl (f5 fo_Reached_1 ty_Is dc rfl) (d9 (t6 10 rfl rfl kr (fun h => by cases h) (Ns [_, _, _, _] ty_Is rfl) (fun _ _ => (r9 kr (s9 (Et (Ez Z3 (Em rfl (Ey rfl ((Y.add rfl rfl om om).yd) (Ei rfl (Eu (d9 (j4 (congrArg (ow eIs [_]) (show E4 ((k8[g].2.2.2.take j).foldl E4 (J8 d6 k8 g)) k8[g].2.2.2[j] = (k8[g].2.2.2.take (j + 1)).foldl E4 (J8 d6 k8 g) from by grind [G2, I8, Q0, R9, R7, D0, L8, H9, F8, L9, I0, H8, P6, J7, d1, d2, t1, t2])) (w8 (w8 (w8 (w8 (w8 (w8 (w8 (w8 ?_)))))))))))))))))))))
          exact Ea (j + 1, a156, (E4 ((k8[g].2.2.2.take j).foldl E4 (J8 d6 k8 g)) k8[g].2.2.2[j]).length, c156) ⟨oz, trivial⟩
         ·refine Eu (o0 rfl (E.exit (q1 (q1 (y4 (s9 (Et (Ez Z3 (Em rfl (Ey rfl ((Y.add rfl rfl om om).yd) (Ei rfl ?_)))))))))))
          have zs : Q0 s l d4 a8 (N5 k8 g) (J8 d6 k8 g) k8[g] = true := by grind [G2, I8, Q0, R9, R7, D0, L8, H9, F8, L9, I0, H8, P6, J7, d1, d2, t1, t2]
          refine Eu (o4 (Ent.drop (o4 (Ent.drop (j8 (j4 (congrArg (ow m8 [_]) (show w4 (N5 k8 g) k8[g].2.2 = N5 k8 (g + 1) from by grind [G2, I8, Q0, R9, R7, D0, L8, H9, F8, L9, I0, H8, P6, J7, d1, d2, t1, t2])) (d9 (j4 (congrArg (ow eIs [_]) (show (k8[g].2.2.2.take j).foldl E4 (J8 d6 k8 g) = J8 d6 k8 (g + 1) from by grind [G2, I8, Q0, R9, R7, D0, L8, H9, F8, L9, I0, H8, P6, J7, d1, d2, t1, t2])) (w6 (w6 (w6 (w6 (w6 (w6 ?_))))))))))))))
          exact Ea (g + 1, a138, (w4 (N5 k8 g) k8[g].2.2).length, c138, aA2_0, ((k8[g].2.2.2.take j).foldl E4 (J8 d6 k8 g)).length, cA2_0) ⟨oz, (show (a2e s l d4 a8 d6 k8 0 = a2e s l d4 a8 d6 k8 (g + 1) ∧ ∀ y ∈ k8.take (g + 1), B9 s y.2.2 = true) from by exact ⟨by rw [pg0.1, G2 om, zs, Bool.true_and], b2q pg0.2 om (a9s q28 zs)⟩)⟩
       ·refine Dyp 12 rfl (Y.not (b := false) rfl) (Dyp 13 rfl (t7 rfl rfl) (Dyp 14 rfl (i8 rfl) (Dsk 15 rfl (Dsk 16 rfl (Dsk 17 rfl (Dsk 18 rfl (Dsk 19 rfl (Dsk 20 rfl (Dsk 21 rfl (Dsk 22 rfl (Dsk 23 rfl (Dsk 24 rfl (Dsk 25 rfl (Dsk 26 rfl (Dsk 27 rfl (Dyp 28 rfl (t8 rfl rfl) (r9 kr (Et (n8 rfl (Ew Z1 (Ei rfl ?_)))))))))))))))))))))
        exact Eu (E.ret (n0 (y8 (n0 (n0 (y8 (n0 (Fb rfl rfl (by grind [G2, I8, Q0, R9, R7, D0, L8, H9, F8, L9, I0, H8, P6, J7, d1, d2, t1, t2])))))))))
      ·refine Dyp 6 rfl (Y.not (b := false) rfl) (Dyp 7 rfl (i8 rfl) (Dsk 8 rfl (Dsk 9 rfl (Dsk 10 rfl (Dsk 11 rfl (Dsk 12 rfl (Dyp 13 rfl (t8 rfl rfl) (Dyp 14 rfl (i8 rfl) (Dsk 15 rfl (Dsk 16 rfl (Dsk 17 rfl (Dsk 18 rfl (Dsk 19 rfl (Dsk 20 rfl (Dsk 21 rfl (Dsk 22 rfl (Dsk 23 rfl (Dsk 24 rfl (Dsk 25 rfl (Dsk 26 rfl (Dsk 27 rfl (Dyp 28 rfl (t8 rfl rfl) (r9 kr (Et (n8 rfl (Ew Z1 (Ei rfl ?_)))))))))))))))))))))))))))
       exact Eu (E.ret (n0 (y8 (n0 (n0 (y8 (n0 (Fb rfl rfl (by grind [G2, I8, Q0, R9, R7, D0, L8, H9, F8, L9, I0, H8, P6, J7, d1, d2, t1, t2])))))))))
    ·refine Eu (o0 rfl (E.exit (q1 (q1 (y4 (Et (Eq_ (D.region (fun j => true) mixed (Dyp 0 rfl (f5 fo_Proof_0 ty_Lines dc rfl) (Dy 1 rfl (g9 ty_Lines rfl (Hz (mS (mS (mS (mS m0)))) 0 rfl) rfl) (Dyp 2 rfl (f5 fo_Proof_0 ty_Lines dc rfl) (Dy 3 rfl (g9 ty_Lines rfl (Hz (mS (mS (mS (mS m0)))) 0 rfl) rfl) (Dyp 4 rfl (Y.len us_Lines rfl) (Dyp 5 rfl (Y.sub rfl rfl om om) ?_))))))))))))))
     obtain ⟨eb164, eo164, ec164, ea164, er164, el164, eh164⟩ := W0.elem (k8.length - 1) om
     obtain ⟨xa164_0, xc164_0, xa164_1, xc164_1, rfl, ei164_0, ei164_1, xh164_0, ei164_3, xh164_1⟩ := a1b er164
     have := xh164_0.slen.2
     have := xh164_1.slen.2
     refine Dyp 6 rfl (v8 us_Lines ty_Line rfl ea164 rfl (k8.length - 1) om om) (Dyp 7 rfl (f5 fo_Line_2 ty_Fact dc rfl) (Dy 8 rfl (o6 (cs := [_, _]) ty_Fact rfl ((eh164 _).sub (cs' := [_, _]) 3 rfl) rfl) (Dy 9 rfl (o6 (cs := [_, _]) ty_Fact rfl (Has.pt (mS (mS (mS (mS (mS m0)))))) rfl) (t6 10 rfl rfl kr (fun _ => rfl) (l0 P0 rfl rfl rfl dc (fun w Lp hA => ⟨ei164_3, hA.ro xh164_1, C3, hA.ro v6⟩)) (fun _ _ => (Dyp 11 rfl (Y.eql rfl rfl) (Dyp 12 rfl (C2 rfl) ?_)))))))
     exact r9 kr (Et (E.ret (Fb rfl rfl (by grind [G2, I8, Q0, R9, R7, D0, L8, H9, F8, L9, I0, H8, P6, J7, d1, d2, t1, t2]))))
  ·refine Ey rfl ((Y.not (b := false) rfl).yd) (Ey rfl ((t7 rfl rfl).yd) (Em rfl (Es rfl (Es rfl (Es rfl (Es rfl (Ey rfl ((t8 rfl rfl).yd) (Eu (n8 rfl (Ew Z1 (Ei rfl ?_)))))))))))
   exact Eu (E.ret (n0 (Fb rfl rfl (by grind [G2, I8, Q0, R9, R7, D0, L8, H9, F8, L9, I0, H8, P6, J7, d1, d2, t1, t2]))))
 ·refine Ey rfl ((Y.not (b := false) rfl).yd) (Em rfl (Es rfl (Es rfl (Es rfl (Es rfl (Ey rfl ((t8 rfl rfl).yd) (Em rfl (Es rfl (Es rfl (Es rfl (Es rfl (Ey rfl ((t8 rfl rfl).yd) (Eu (n8 rfl (Ew Z1 (Ei rfl ?_))))))))))))))))
  exact Eu (E.ret (n0 (Fb rfl rfl (by grind [G2, I8, Q0, R9, R7, D0, L8, H9, F8, L9, I0, H8, P6, J7, d1, d2, t1, t2]))))
end Go.Proofs.YthapcdhdfaibkaaGreatDoor
