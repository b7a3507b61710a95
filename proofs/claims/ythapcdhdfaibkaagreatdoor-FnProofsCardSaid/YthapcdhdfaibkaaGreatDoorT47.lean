import Derived.Test.YthapcdhdfaibkaaGreatDoorT45
namespace Go.Proofs.YthapcdhdfaibkaaGreatDoor
open Go.RowKit
set_option linter.all false
set_option maxHeartbeats 2000000
attribute [local irreducible] Nop Yd Yp Ent Has Tr FnP FnP2 Src o2 c8 N0 a0b E6 B2
variable {l8 : Int} {d4 : List (Int × Int × List Int)} {l : List (Int × List Int × Int × Int × Int)} {a8 : List (Int × List Int)} {f0 s d6 : List Int} {w3 s7 m_s c_s m_l c_l m_rules c_rules m_facts c_facts m_seeds c_seeds : Nat} {s8 a_s a_l a_rules a_facts a_seeds : Option Addr}
theorem a6p {I1 : Int} {B8 : Int} {I5 : Option Addr} {I3 I4 : Nat} {F4 : List Int} {G9 : Int} {K7 : Option Addr} {K5 K6 : Nat} {H0 : List Int} {b_f : Nat} : Tr Tryz.prog 162 [.agg #[.int .i64 I1, .int .i64 B8, .slice I5 I3 I4, .int .i64 G9, .slice K7 K5 K6], .pointer (some ⟨b_f, 0, none⟩)] (fun w L => (I64 I1 ∧ I64 B8 ∧ Ro w L eIs [.slice I5 I3 I4] F4 ∧ I64 G9 ∧ Ro w L eIs [.slice K7 K5 K6] H0) ∧ RoPt w L b_f [.int .i64 l8, .slice s8 w3 s7] ∧ I64 l8 ∧ Ro w L eIs [.slice s8 w3 s7] f0) [] (κ := Unit) (fun k => True) (fun k => .bool (decide (J2 (G9, H0) (l8, f0) = 0))) (fun k => []) := by
 refine Tr.intro Tryz.func162 rfl (n := 9) rfl (by decide +kernel) bl (fr := [(0, .agg #[.int .i64 I1, .int .i64 B8, .slice I5 I3 I4, .int .i64 G9, .slice K7 K5 K6]), (1, .pointer (some ⟨b_f, 0, none⟩))]) rfl fun w L hR => ?_
 obtain ⟨⟨a4w, U8, R0, T4, R4⟩, hb_f, C3, v6⟩ := hR
 obtain ⟨rfl, a2G⟩ := R0.slen
 obtain ⟨rfl, a3q⟩ := R4.slen
 obtain ⟨rfl, J1⟩ := v6.slen
 refine Ew Z2 (Est rfl (N.box (cs := [_, _, _, _, _]) rfl dc rfl) (fun b2 _ => (Ei rfl (Ev Z6 (Ey rfl ((f5 fo_Line_2 ty_Fact dc rfl).yd) (Ey rfl (o6 (cs := [_, _]) ty_Fact rfl ((Has.pt m0).sub (cs' := [_, _]) 3 rfl) rfl) (Ey rfl (o6 (cs := [_, _]) ty_Fact rfl (hb_f.has) rfl) (Est rfl (l0 R8 rfl rfl rfl dc (fun w Lp hA => ⟨T4, hA.ro R4, C3, hA.ro v6⟩)) (fun _ _ => (Ey rfl ((Y.eql rfl rfl).yd) (Ei rfl ?_)))))))))))
 exact Eu (E.ret (Fg rfl rfl () rfl rfl))
theorem a7r (hz : d6.length ≤ 1048576) : Tr Tryz.prog 55 [.slice a_s m_s c_s, .slice a_l m_l c_l, .slice a_rules m_rules c_rules, .slice a_facts m_facts c_facts, .slice a_seeds m_seeds c_seeds, .agg #[.int .i64 l8, .slice s8 w3 s7]] (fun w L => Ro w L eIs [.slice a_s m_s c_s] s ∧ Ro w L F5 [.slice a_l m_l c_l] l ∧ Ro w L J9 [.slice a_rules m_rules c_rules] d4 ∧ Ro w L m8 [.slice a_facts m_facts c_facts] a8 ∧ Ro w L eIs [.slice a_seeds m_seeds c_seeds] d6 ∧ I64 l8 ∧ Ro w L eIs [.slice s8 w3 s7] f0) [] (κ := Option Addr × Nat × Nat) (fun k => True) (fun k => .tuple #[.agg #[.slice k.1 k.2.1 k.2.2], .bool (a0u s l d4 a8 d6 (l8, f0))]) (fun k => [ow B6 [.slice k.1 k.2.1 k.2.2] (N9 s l d4 a8 d6 (l8, f0))]) := by
 refine Tr.intro Tryz.func55 rfl (n := 71) rfl (by decide +kernel) bl (fr := [(0, .slice a_s m_s c_s), (1, .slice a_l m_l c_l), (2, .slice a_rules m_rules c_rules), (3, .slice a_facts m_facts c_facts), (4, .slice a_seeds m_seeds c_seeds), (5, .agg #[.int .i64 l8, .slice s8 w3 s7])]) rfl fun w L hR => ?_
 obtain ⟨hs, hl, hrules, hfacts, hseeds, C3, v6⟩ := hR
 obtain ⟨rfl, ls⟩ := hs.slen
 obtain ⟨rfl, ll⟩ := hl.slen
 obtain ⟨rfl, lrules⟩ := hrules.slen
 obtain ⟨rfl, lfacts⟩ := hfacts.slen
 obtain ⟨rfl, lseeds⟩ := hseeds.slen
 obtain ⟨rfl, J1⟩ := v6.slen
 refine Ew Z3 (Est rfl (N.box (cs := [_, _]) rfl dc rfl) (fun b11 _ => (Est rfl (N.alloc ty_Proof dc) (fun b12 _ => (Ei rfl (Eu (Eq_ (Ew Z11 (Em rfl (Em rfl (Em rfl (Est rfl (l0 a2Z rfl rfl rfl dc (fun w Lp hA => ⟨hA.ro hs, hA.ro hl, hA.ro hrules⟩)) (fun _ _ => (Ent.b (fun q22 => ?_) (fun q22 => ?_)))))))))))))))
 ·refine Ey rfl ((Y.not (b := true) rfl).yd) (Em rfl (Em rfl (Em rfl (Est rfl (l0 a2U rfl rfl rfl dc (fun w Lp hA => ⟨hA.ro hs, hA.ro hfacts⟩)) (fun _ _ => (Ent.b (fun q27 => ?_) (fun q27 => ?_)))))))
  ·have hO : E7 s l d4 a8 = true := by rw [E7, q22, q27]; rfl
   obtain ⟨hm0, hr0, hf0⟩ := a0f hO
   have hu := a1S (d6 := d6) hO
   have hul := hu.n.len
   have hul2 : (B2 l d4 a8 d6).2.2.2.length ≤ 5324 := hul.1
   have hul1 : (B2 l d4 a8 d6).1.length ≤ 5324 := hul.2
   refine Ey rfl ((Y.not (b := true) rfl).yd) (Ey rfl ((t7 rfl rfl).yd) (Eu (o0 rfl (i7 (Et (Ew Z9 (Em rfl (Em rfl (Em rfl (Em rfl (Est rfl (N.call (a3O ⟨s, hm0, hr0, hf0⟩ om) rfl rfl rfl dc rfl (fun w Lp hA => ⟨hA.ro hl, hA.ro hrules, hA.ro hfacts, hA.ro hseeds⟩)) (fun k35 _ => ?_))))))))))))
   obtain ⟨nb35, ⟨a35_0, m35_0, c35_0⟩, ⟨a35_1, m35_1, c35_1⟩, ⟨a35_2, m35_2, c35_2⟩, ⟨a35_3, m35_3, c35_3⟩⟩ := k35
   try dsimp only
   refine d7 (mS m0) fun e35_0 l35_0 => ?_
   subst e35_0
   refine d7 (mS (mS m0)) fun e35_1 l35_1 => ?_
   subst e35_1
   refine d7 (mS (mS (mS m0))) fun e35_2 l35_2 => ?_
   subst e35_2
   refine d7 (mS (mS (mS (mS m0)))) fun e35_3 l35_3 => ?_
   subst e35_3
   refine Ey rfl ((Y.nil rfl).yd) (Ey rfl ((f5 fo_under_4 ty_Lines dc rfl).yd) (Ey rfl (g9 ty_Lines rfl (Hz m0 7 rfl) rfl) (Ei rfl (Ev Z4 (j9 (P3 (A := [_]) rfl fun wb1 Lb1 hB1 hA1 => ?_))))))
   have hs := hA1.ro hs
   have hl := hA1.ro hl
   have hrules := hA1.ro hrules
   have hfacts := hA1.ro hfacts
   have hseeds := hA1.ro hseeds
   have v6 := hA1.ro v6
   have rb1 : Ro wb1 Lb1 B6 [.slice a35_3 (((B2 l d4 a8 d6).2.2.2).length) c35_3] ((B2 l d4 a8 d6).2.2.2) := hA1.ow m0
   refine Em rfl (Ey rfl ((Y.fn (vs := [_]) rfl).yd) (Est rfl (l0 (a4e (f := (fun z => decide (J2 z.2.2 (l8, f0) = 0))) (D_f := (fun _ => True)) (by intros; exact trivial)) rfl rfl rfl dc (fun w Lp hA => ⟨hA.ro rb1, a6e (D := (fun _ => True)) (fun hd => a6p) (fun w' hk => ⟨(hA.pt (mS (mS (mS (mS (mS m0)))))).keep hk, C3, (hA.ro v6).keep hk⟩)⟩)) (fun _ _ => (Ei rfl (Eu (Eq_ (Ew Z2 (Em rfl (Ey rfl ((Y.lss rfl rfl).yd) (o3 (fun q43 => ?_) (fun q43 => ?_)))))))))))
   ·refine Eu (n8 rfl (Ew Z3 (Ey rfl ((I2 (pvs := []) (cs := [_]) ty_Proof pl_Proof rfl rfl).yd) (j9 (Est rfl (Ns [_] ty_Proof rfl) (fun _ _ => (Ei rfl (Eu (E.ret (n0 (u9 (A := []) (Own.nil (E := S8) (e := tLine) (a := none)) rfl (j4 (congrArg (ow B6 [_]) (show _ = N9 s l d4 a8 d6 (l8, f0) by first | exact (a0P hO q43).1 | exact (a0P hO q43).2 | exact (a0P hO q43).1.symm | exact (a0P hO q43).2.symm)) ?_))))))))))))
    exact a1d hB1 rfl rfl rfl (mS m0) ty_Proof rfl (none, 0, 0) trivial (by rw [show (a0u s l d4 a8 d6 (l8, f0)) = (false) from (by first | exact (a0P hO q43).1 | exact (a0P hO q43).2 | exact (a0P hO q43).1.symm | exact (a0P hO q43).2.symm)]; try rfl) (J := _) (.refl _) (.inl rfl)
   ·obtain ⟨kk, hkk⟩ := Int.eq_ofNat_of_zero_le (Int.not_lt.1 q43)
    rw [hkk]
    have hkl := b6q hkk
    refine Eu (o0 rfl (i7 (Et (Ew Z3 (Ey rfl ((I2 (pvs := []) (cs := [_]) ty_Proof pl_Proof rfl rfl).yd) (Est rfl (N.alloc ty_Proof dc) (fun b16 _ => (Est rfl (Ns [_] ty_Proof rfl) (fun _ _ => (Eu (Eq_ (Ew Z6 (Em rfl (Em rfl (Ey rfl ((Y.add rfl rfl om om).yd) ?_)))))))))))))))
    have rs49 := rb1.upto (kk + 1) om
    have rl49 := rs49.slen.1
    have rc49 := rb1.cap
    refine Ey rfl ((a3F (h := kk + 1) us_Lines ty_Line rfl rfl om).yd) (Ey rfl ((Y.len us_Lines rfl).yd) (Em rfl (Eu (E.block (u9 (A := []) (Own.nil (E := S8) (e := tLine) (a := none)) rfl (j4 (congrArg (ow B6 [_]) (show [] = (((B2 l d4 a8 d6).2.2.2).take (kk + 1)).take 0 from by first | rfl | (simp; done) | grind [d1, d2, t1, t2])) (E.loop (κ := Nat × Option Addr × Nat × Nat) (fun g => g.1 ≤ (((B2 l d4 a8 d6).2.2.2).take (kk + 1)).length ∧ True) (fun g => [(12, .pointer (some ⟨b12, 0, none⟩)), (16, .pointer (some ⟨b16, 0, none⟩)), (49, .slice a35_3 (kk + 1) c35_3), (50, .int .i64 (↑(kk + 1) : Int)), (51, .int .i64 (↑g.1 : Int))]) (fun g => [ow B6 [.slice g.2.1 g.2.2.1 g.2.2.2] ((((B2 l d4 a8 d6).2.2.2).take (kk + 1)).take g.1), pt b16 81 [.slice g.2.1 g.2.2.1 g.2.2.2], pt nb35 177 [.slice a_l l.length c_l, .slice a_rules d4.length c_rules, .slice a_facts a8.length c_facts, .slice a35_0 (((B2 l d4 a8 d6).1).length) c35_0, .slice a35_1 (((B2 l d4 a8 d6).2.1).length) c35_1, .slice a35_2 (((B2 l d4 a8 d6).2.2.1).length) c35_2, .int .i64 0, .slice a35_3 (((B2 l d4 a8 d6).2.2.2).length) c35_3], ow m8 [.slice a35_0 (((B2 l d4 a8 d6).1).length) c35_0] ((B2 l d4 a8 d6).1), ow eIs [.slice a35_1 (((B2 l d4 a8 d6).2.1).length) c35_1] ((B2 l d4 a8 d6).2.1), ow w5 [.slice a35_2 (((B2 l d4 a8 d6).2.2.1).length) c35_2] ((B2 l d4 a8 d6).2.2.1), pt b12 81 [.slice none 0 0], pt b11 85 [.int .i64 l8, .slice s8 f0.length s7]]) (fun g => (((B2 l d4 a8 d6).2.2.2).take (kk + 1)).length - g.1) (0, none, 0, 0) ⟨Nat.zero_le _, by simp⟩ ⟨rfl, rfl, rfl, rfl, rfl, trivial⟩ (.refl _) (fun g pg => ?_))))))))
    obtain ⟨g, aA0_0, mA0_0, cA0_0⟩ := g
    try dsimp only at pg
    try dsimp only
    obtain ⟨pk, pa⟩ := pg
    have jlen : (((B2 l d4 a8 d6).2.2.2).take (kk + 1)).length = kk + 1 := by rw [List.length_take]; omega
    have jt := List.length_take_le g (((B2 l d4 a8 d6).2.2.2).take (kk + 1))
    have jy := fun (h : g < (((B2 l d4 a8 d6).2.2.2).take (kk + 1)).length) => b5k hu (List.mem_of_mem_take (List.getElem_mem (l := (((B2 l d4 a8 d6).2.2.2).take (kk + 1))) h))
    refine d7 m0 fun eaA0_0 laA0_0 => ?_
    subst eaA0_0
    refine Ew Z1 (Ey rfl ((Y.lss rfl rfl).yd) (o3 (fun q52 => ?_) (fun q52 => ?_)))
    ·have jz := jy om
     obtain ⟨eb53, eo53, ec53, ea53, er53, el53, eh53⟩ := rs49.elem g om
     obtain ⟨xx, jxx⟩ : ∃ z, z = (((B2 l d4 a8 d6).2.2.2).take (kk + 1))[g] := ⟨_, rfl⟩
     rw [← jxx] at er53
     obtain ⟨xa53_0, xc53_0, xa53_1, xc53_1, rfl, ei53_0, ei53_1, xh53_0, ei53_3, xh53_1⟩ := a1b er53
     have := xh53_0.slen.2
     have := xh53_1.slen.2
     refine Eu (Eq_ (n8 rfl (i7 (Et (Eq_ (E.block (Ew Z4 (Ey rfl ((v8 us_Lines ty_Line rfl ea53 rfl g rfl om).yd) ?_))))))))
     rw [← jxx] at jz
     refine Ey rfl (o6 (cs := [_, _, _, _, _]) ty_Line rfl (eh53 _) rfl) (Est rfl (N.alloc ty_Line dc) (fun b18 _ => (Est rfl (Ns [_, _, _, _, _] ty_Line rfl) (fun _ _ => (Eu (D.region (fun j => !(Nat.beq j 12) && !(Nat.beq j 14)) mixed (Dyp 0 rfl (f5 fo_Proof_0 ty_Lines dc rfl) (Dy 1 rfl (g9 ty_Lines rfl (Hz (mS (mS m0)) 0 rfl) rfl) (Dyp 2 rfl (f5 fo_Line_0 f9 dc rfl) (Dy 3 rfl (g9 f9 rfl (Hz m0 0 rfl) rfl) (Dyp 4 rfl (f5 fo_Line_1 ty_Access dc rfl) (Dy 5 rfl (o6 (cs := [_, _]) ty_Access rfl ((Has.pt m0).sub (cs' := [_, _]) 1 rfl) rfl) (Dyp 7 rfl (f5 fo_Line_2 ty_Fact dc rfl) (Dy 8 rfl (o6 (cs := [_, _]) ty_Fact rfl ((Has.pt m0).sub (cs' := [_, _]) 3 rfl) rfl) (t6 6 rfl rfl kr (fun _ => rfl) (N.call (a3N fo) rfl rfl rfl dc rfl (fun w Lp hA => ⟨ei53_1, hA.ro xh53_0⟩)) (fun k61 _ => ?_))))))))))))))))
     obtain ⟨a61, m61, c61⟩ := k61
     refine d7 m0 fun e61 l61 => ?_
     subst e61
     refine t6 9 rfl rfl kr (fun _ => rfl) (N.call (a1K fo) rfl rfl rfl dc rfl (fun w Lp hA => ⟨ei53_3, hA.ro xh53_1⟩)) (fun k64 _ => ?_)
     obtain ⟨a64, m64, c64⟩ := k64
     refine d7 m0 fun e64 l64 => ?_
     subst e64
     refine Dyp 10 rfl (I2 (pvs := [_, _, _]) (cs := [_, _, _, _, _]) ty_Line pl_Line rfl rfl) (t6 11 rfl rfl kr (fun _ => rfl) (Nb [_] [_, _, _, _, _] us_Lines ty_Line rfl rfl) (fun b66 _ => (d9 (j8 (j8 (j9 (t6 12 rfl rfl kr (fun h => by cases h) (C7 (E := S8) (ex := xx) us_Lines ty_Line rfl rfl rfl (a2m (x := xx) ei53_0 ei53_1 Own.ow ei53_3 Own.ow) rfl bn bn dc) (fun p67 _ => (Dyp 13 rfl (f5 fo_Proof_0 ty_Lines dc rfl) (j8 (t6 14 rfl rfl kr (fun h => by cases h) (Ns [_] ty_Lines rfl) (fun _ _ => (r9 kr (s9 (Et (Ez Z2 (Ey rfl ((Y.add rfl rfl om om).yd) (Em rfl (Eu (j8 (Ent.drop (d9 (j4 (congrArg (ow B6 [_]) (show ((((B2 l d4 a8 d6).2.2.2).take (kk + 1)).take g) ++ [xx] = (((B2 l d4 a8 d6).2.2.2).take (kk + 1)).take (g + 1) from by grind [d1, d2, t1, t2])) (w8 (w8 (w8 (w8 (w8 (w8 (w8 (w8 ?_)))))))))))))))))))))))))))))))
     exact Ea (g + 1, p67.1, (((((B2 l d4 a8 d6).2.2.2).take (kk + 1)).take g).length + 1), p67.2) ⟨oz, trivial⟩
    ·refine Eu (Eq_ (o0 rfl (E.exit (q1 (q1 (y4 (Et (Ew Z3 (Ey rfl (o6 (cs := [_]) ty_Proof rfl (Has.pt (mS m0)) rfl) (B1 (Est rfl (Ns [_] ty_Proof rfl) (fun _ _ => (Ei rfl (Eu (E.ret (d9 (j4 (congrArg (ow B6 [_]) (show _ = N9 s l d4 a8 d6 (l8, f0) by first | exact (List.take_of_length_le om).trans (a1U hO hkk).1 | exact (a1U hO hkk).2 | exact (a1U hO hkk).2.symm)) ?_)))))))))))))))))
     exact a1d hB1 rfl rfl rfl (mS m0) ty_Proof rfl (_, _, _) trivial (by rw [show (a0u s l d4 a8 d6 (l8, f0)) = (true) from (by first | exact (List.take_of_length_le om).trans (a1U hO hkk).1 | exact (a1U hO hkk).2 | exact (a1U hO hkk).2.symm)]; try rfl) (J := _) (.refl _) (.inl rfl)
  ·refine Ey rfl ((Y.not (b := false) rfl).yd) (Ey rfl ((t7 rfl rfl).yd) (Eu (n8 rfl (Ew Z3 (Ey rfl ((I2 (pvs := []) (cs := [_]) ty_Proof pl_Proof rfl rfl).yd) (Est rfl (Ns [_] ty_Proof rfl) (fun _ _ => (Ei rfl (Eu (E.ret (n0 (u9 (A := []) (Own.nil (E := S8) (e := tLine) (a := none)) rfl (j4 (congrArg (ow B6 [_]) (show _ = N9 s l d4 a8 d6 (l8, f0) by first | exact (I7 (by simp [E7, q22, q27])).1 | exact (I7 (by simp [E7, q22, q27])).2 | exact (I7 (by simp [E7, q22, q27])).1.symm | exact (I7 (by simp [E7, q22, q27])).2.symm)) ?_)))))))))))))
   exact a1d br rfl rfl rfl (mS m0) ty_Proof rfl (none, 0, 0) trivial (by rw [show (a0u s l d4 a8 d6 (l8, f0)) = (false) from (by first | exact (I7 (by simp [E7, q22, q27])).1 | exact (I7 (by simp [E7, q22, q27])).2 | exact (I7 (by simp [E7, q22, q27])).1.symm | exact (I7 (by simp [E7, q22, q27])).2.symm)]; try rfl) (J := _) (.refl _) (.inl rfl)
 ·refine Ey rfl ((Y.not (b := false) rfl).yd) (Em rfl (Es rfl (Es rfl (Es rfl (Es rfl (Ey rfl ((t8 rfl rfl).yd) (Eu (n8 rfl (Ew Z3 (Ey rfl ((I2 (pvs := []) (cs := [_]) ty_Proof pl_Proof rfl rfl).yd) (Est rfl (Ns [_] ty_Proof rfl) (fun _ _ => (Ei rfl (Eu (E.ret (n0 (u9 (A := []) (Own.nil (E := S8) (e := tLine) (a := none)) rfl (j4 (congrArg (ow B6 [_]) (show _ = N9 s l d4 a8 d6 (l8, f0) by first | exact (I7 (by simp [E7, q22])).1 | exact (I7 (by simp [E7, q22])).2 | exact (I7 (by simp [E7, q22])).1.symm | exact (I7 (by simp [E7, q22])).2.symm)) ?_))))))))))))))))))
  exact a1d br rfl rfl rfl (mS m0) ty_Proof rfl (none, 0, 0) trivial (by rw [show (a0u s l d4 a8 d6 (l8, f0)) = (false) from (by first | exact (I7 (by simp [E7, q22])).1 | exact (I7 (by simp [E7, q22])).2 | exact (I7 (by simp [E7, q22])).1.symm | exact (I7 (by simp [E7, q22])).2.symm)]; try rfl) (J := _) (.refl _) (.inl rfl)
theorem a7v (hz : d6.length ≤ 1048576) : Tr Tryz.prog 176 [.slice a_s m_s c_s, .slice a_l m_l c_l, .slice a_rules m_rules c_rules, .slice a_facts m_facts c_facts, .slice a_seeds m_seeds c_seeds, .agg #[.int .i64 l8, .slice s8 w3 s7]] (fun w L => Ro w L eIs [.slice a_s m_s c_s] s ∧ Ro w L F5 [.slice a_l m_l c_l] l ∧ Ro w L J9 [.slice a_rules m_rules c_rules] d4 ∧ Ro w L m8 [.slice a_facts m_facts c_facts] a8 ∧ Ro w L eIs [.slice a_seeds m_seeds c_seeds] d6 ∧ I64 l8 ∧ Ro w L eIs [.slice s8 w3 s7] f0) [] (κ := Option Addr × Nat × Nat) (fun k => True) (fun k => .tuple #[.agg #[.slice k.1 k.2.1 k.2.2], .bool (a0u s l d4 a8 d6 (l8, f0))]) (fun k => [ow B6 [.slice k.1 k.2.1 k.2.2] (N9 s l d4 a8 d6 (l8, f0))]) := by
 refine Tr.intro Tryz.func176 rfl (n := 53) rfl (by decide +kernel) bl (fr := [(0, .slice a_s m_s c_s), (1, .slice a_l m_l c_l), (2, .slice a_rules m_rules c_rules), (3, .slice a_facts m_facts c_facts), (4, .slice a_seeds m_seeds c_seeds), (5, .agg #[.int .i64 l8, .slice s8 w3 s7])]) rfl fun w L hR => ?_
 obtain ⟨hs, hl, hrules, hfacts, hseeds, C3, v6⟩ := hR
 obtain ⟨rfl, ls⟩ := hs.slen
 obtain ⟨rfl, ll⟩ := hl.slen
 obtain ⟨rfl, lrules⟩ := hrules.slen
 obtain ⟨rfl, lfacts⟩ := hfacts.slen
 obtain ⟨rfl, lseeds⟩ := hseeds.slen
 obtain ⟨rfl, J1⟩ := v6.slen
 refine Ew Z3 (Est rfl (N.box (cs := [_, _]) rfl dc rfl) (fun b11 _ => (Est rfl (N.alloc ty_Proof dc) (fun b12 _ => (Ei rfl (Eu (Eq_ (Ew Z11 (Em rfl (Em rfl (Em rfl (Est rfl (l0 a3h rfl rfl rfl dc (fun w Lp hA => ⟨hA.ro hs, hA.ro hl, hA.ro hrules⟩)) (fun _ _ => (Ent.b (fun q19 => ?_) (fun q19 => ?_)))))))))))))))
 ·refine Ey rfl ((Y.not (b := true) rfl).yd) (Em rfl (Em rfl (Em rfl (Est rfl (l0 S2 rfl rfl rfl dc (fun w Lp hA => ⟨hA.ro hs, hA.ro hfacts⟩)) (fun _ _ => (Ent.b (fun q24 => ?_) (fun q24 => ?_)))))))
  ·have hO : E7 s l d4 a8 = true := by rw [E7, q19, q24]; rfl
   obtain ⟨hm0, hr0, hf0⟩ := a0f hO
   have hu := a1S (d6 := d6) hO
   have hul := hu.n.len
   have hul2 : (B2 l d4 a8 d6).2.2.2.length ≤ 5324 := hul.1
   have hul1 : (B2 l d4 a8 d6).1.length ≤ 5324 := hul.2
   refine Ey rfl ((Y.not (b := true) rfl).yd) (Ey rfl ((t7 rfl rfl).yd) (Eu (o0 rfl (i7 (Et (Ew Z6 (Em rfl (Em rfl (Em rfl (Em rfl (Est rfl (N.call (a4P ⟨s, hm0, hr0, hf0⟩ om) rfl rfl rfl dc rfl (fun w Lp hA => ⟨hA.ro hl, hA.ro hrules, hA.ro hfacts, hA.ro hseeds⟩)) (fun k32 _ => ?_))))))))))))
   obtain ⟨a32, m32, c32⟩ := k32
   refine d7 m0 fun e32 l32 => ?_
   subst e32
   refine Ei rfl (Eu (Eq_ (Ew Z1 (Ei rfl (Eu (E.block (E.loop (κ := Nat) (fun g => g ≤ ((B2 l d4 a8 d6).2.2.2).length ∧ ∀ x ∈ ((B2 l d4 a8 d6).2.2.2).take g, decide (J2 x.2.2 (l8, f0) = 0) = false) (fun g => [(11, .pointer (some ⟨b11, 0, none⟩)), (12, .pointer (some ⟨b12, 0, none⟩)), (14, .slice a32 ((B2 l d4 a8 d6).2.2.2).length c32), (15, .int .i64 (g : Int))]) (fun g => [ow B6 [.slice a32 ((B2 l d4 a8 d6).2.2.2).length c32] ((B2 l d4 a8 d6).2.2.2), pt b12 81 [.slice none 0 0], pt b11 85 [.int .i64 l8, .slice s8 f0.length s7]]) (fun g => ((B2 l d4 a8 d6).2.2.2).length - g) 0 ⟨Nat.zero_le _, by simp⟩ ⟨rfl, rfl, rfl, rfl, trivial⟩ (.refl _) (fun g pg => ?_))))))))
   obtain ⟨pk, pa⟩ := pg
   refine Eq_ (Ew Z4 (Em rfl (Em rfl (Ey rfl ((Y.len us_Lines rfl).yd) (Ey rfl ((Y.lss rfl rfl).yd) (o3 (fun q36 => ?_) (fun q36 => ?_)))))))
   ·refine Eu (n8 rfl (i7 (Et (Eq_ (E.block (Eq_ (D.region (fun j => true) mixed (Dyp 0 rfl (i8 rfl) (Dyp 1 rfl (i8 rfl) (a1m m0 om fun ab41 ae41 => (a3t (x := ((B2 l d4 a8 d6).2.2.2)[g]) g (List.getElem?_eq_getElem om) fun ce41 => ?_)))))))))))
    refine d9 (b0r fun oa41_2 om41_2 oc41_2 oa41_4 om41_4 oc41_4 oe41 oi41_0 oi41_1 on41_2 oi41_3 on41_4 => ?_)
    subst oe41
    subst on41_2
    subst on41_4
    refine Dyp 2 rfl (v8 us_Lines ty_Line rfl ae41 rfl g rfl om) (Dyp 3 rfl (f5 fo_Line_2 ty_Fact dc rfl) (Dy 4 rfl (o6 (cs := [_, _]) ty_Fact rfl ((Has.hole ae41 (mS (mS m0))).sub (cs' := [_, _]) 3 rfl) rfl) (Dy 5 rfl (o6 (cs := [_, _]) ty_Fact rfl (Has.pt (mS (mS (mS (mS m0))))) rfl) (t6 6 rfl rfl kr (fun _ => rfl) (l0 P0 rfl rfl rfl dc (fun w Lp hA => ⟨oi41_3, hA.ow (mS m0), C3, hA.ro v6⟩)) (fun _ _ => (Dyp 7 rfl (Y.eql rfl rfl) (o3 (fun q46 => ?_) (fun q46 => ?_))))))))
    ·refine r9 kr (Et (n8 rfl (Ew Z7 (Em rfl (Em rfl (Ey rfl ((Y.add rfl rfl om om).yd) (d9 (d9 (j8 (a2H (a2m (x := ((B2 l d4 a8 d6).2.2.2)[g]) oi41_0 oi41_1 Own.ow oi41_3 Own.ow) rfl (j4 (congrArg (ow B6 [_]) (List.set_getElem_self om)) (b4V m0 fun cw50 => (Ey rfl ((a3F (h := g + 1) us_Lines ty_Line rfl rfl om).yd) (b4R (g + 1) om om om (Ey rfl ((I2 (pvs := [_]) (cs := [_]) ty_Proof pl_Proof rfl rfl).yd) (d9 (Est rfl (Ns [_] ty_Proof rfl) (fun _ _ => (Ei rfl (Eu (E.ret (y8 (n0 (n0 (y8 (n0 (d9 (j4 (congrArg (ow B6 [_]) (show _ = N9 s l d4 a8 d6 (l8, f0) by first | exact (a1Q hO pa om q46).1 | exact (a1Q hO pa om q46).2 | exact (a1Q hO pa om q46).1.symm | exact (a1Q hO pa om q46).2.symm)) ?_))))))))))))))))))))))))))))
     exact a1d br rfl rfl rfl (mS m0) ty_Proof rfl (_, _, _) trivial (by rw [show (a0u s l d4 a8 d6 (l8, f0)) = (true) from (by first | exact (a1Q hO pa om q46).1 | exact (a1Q hO pa om q46).2 | exact (a1Q hO pa om q46).1.symm | exact (a1Q hO pa om q46).2.symm)]; try rfl) (J := _) (.refl _) (.inl rfl)
    ·refine r9 kr (Et (o0 rfl (i7 (s9 (Et (Ez Z3 (Em rfl (Ey rfl ((Y.add rfl rfl om om).yd) (Ei rfl (Eu (d9 (d9 (j8 (a2H (a2m (x := ((B2 l d4 a8 d6).2.2.2)[g]) oi41_0 oi41_1 Own.ow oi41_3 Own.ow) rfl (j4 (congrArg (ow B6 [_]) (List.set_getElem_self om)) (j8 (j8 (j8 ?_))))))))))))))))))
     exact x6 br (g + 1) rs (.refl _) ⟨by omega, by exact W2 om pa (decide_eq_false q46)⟩ om
   ·refine Eu (o0 rfl (E.exit (q1 (q1 (y4 (Et (Ew Z3 (Ey rfl ((I2 (pvs := []) (cs := [_]) ty_Proof pl_Proof rfl rfl).yd) (d9 (Est rfl (Ns [_] ty_Proof rfl) (fun _ _ => (Ei rfl (Eu (E.ret (u9 (A := []) (Own.nil (E := S8) (e := tLine) (a := none)) rfl (j4 (congrArg (ow B6 [_]) (show _ = N9 s l d4 a8 d6 (l8, f0) by first | exact (a1n hO pa om).1 | exact (a1n hO pa om).2 | exact (a1n hO pa om).1.symm | exact (a1n hO pa om).2.symm)) ?_))))))))))))))))
    exact a1d br rfl rfl rfl (mS m0) ty_Proof rfl (none, 0, 0) trivial (by rw [show (a0u s l d4 a8 d6 (l8, f0)) = (false) from (by first | exact (a1n hO pa om).1 | exact (a1n hO pa om).2 | exact (a1n hO pa om).1.symm | exact (a1n hO pa om).2.symm)]; try rfl) (J := _) (.refl _) (.inl rfl)
  ·refine Ey rfl ((Y.not (b := false) rfl).yd) (Ey rfl ((t7 rfl rfl).yd) (Eu (n8 rfl (Ew Z3 (Ey rfl ((I2 (pvs := []) (cs := [_]) ty_Proof pl_Proof rfl rfl).yd) (Est rfl (Ns [_] ty_Proof rfl) (fun _ _ => (Ei rfl (Eu (E.ret (n0 (u9 (A := []) (Own.nil (E := S8) (e := tLine) (a := none)) rfl (j4 (congrArg (ow B6 [_]) (show _ = N9 s l d4 a8 d6 (l8, f0) by first | exact (I7 (by simp [E7, q19, q24])).1 | exact (I7 (by simp [E7, q19, q24])).2 | exact (I7 (by simp [E7, q19, q24])).1.symm | exact (I7 (by simp [E7, q19, q24])).2.symm)) ?_)))))))))))))
   exact a1d br rfl rfl rfl (mS m0) ty_Proof rfl (none, 0, 0) trivial (by rw [show (a0u s l d4 a8 d6 (l8, f0)) = (false) from (by first | exact (I7 (by simp [E7, q19, q24])).1 | exact (I7 (by simp [E7, q19, q24])).2 | exact (I7 (by simp [E7, q19, q24])).1.symm | exact (I7 (by simp [E7, q19, q24])).2.symm)]; try rfl) (J := _) (.refl _) (.inl rfl)
 ·refine Ey rfl ((Y.not (b := false) rfl).yd) (Em rfl (Es rfl (Es rfl (Es rfl (Es rfl (Ey rfl ((t8 rfl rfl).yd) (Eu (n8 rfl (Ew Z3 (Ey rfl ((I2 (pvs := []) (cs := [_]) ty_Proof pl_Proof rfl rfl).yd) (Est rfl (Ns [_] ty_Proof rfl) (fun _ _ => (Ei rfl (Eu (E.ret (n0 (u9 (A := []) (Own.nil (E := S8) (e := tLine) (a := none)) rfl (j4 (congrArg (ow B6 [_]) (show _ = N9 s l d4 a8 d6 (l8, f0) by first | exact (I7 (by simp [E7, q19])).1 | exact (I7 (by simp [E7, q19])).2 | exact (I7 (by simp [E7, q19])).1.symm | exact (I7 (by simp [E7, q19])).2.symm)) ?_))))))))))))))))))
  exact a1d br rfl rfl rfl (mS m0) ty_Proof rfl (none, 0, 0) trivial (by rw [show (a0u s l d4 a8 d6 (l8, f0)) = (false) from (by first | exact (I7 (by simp [E7, q19])).1 | exact (I7 (by simp [E7, q19])).2 | exact (I7 (by simp [E7, q19])).1.symm | exact (I7 (by simp [E7, q19])).2.symm)]; try rfl) (J := _) (.refl _) (.inl rfl)
end Go.Proofs.YthapcdhdfaibkaaGreatDoor
