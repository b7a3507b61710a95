import Derived.Test.YtlfhopooaejpfaaGreatT123
namespace Go.Proofs.YtlfhopooaejpfaaGreat
open Go.RowKit
set_option linter.all false
set_option maxHeartbeats 2000000
attribute [local irreducible] Nop Yd Yp Ent Has Tr FnP FnP2 Src M0 S8 V1 W0 G4
variable {c6 : List (Int × Int)} {l : List (Int × List Int × Int × Int × Int)} {a6 : List (Int × List Int)} {s f9 : List Int} {m_s c_s m_l c_l t6 r5 s7 o1 m_steps c_steps : Nat} {a_s a_l r6 o2 a_steps : Option Addr}
theorem a7K (hz : O5 (fun x => x.2.length) a6 ≤ 1048576) : Tr Tryz.prog 44 [.slice a_s m_s c_s, .slice a_l m_l c_l, .agg #[.slice r6 t6 r5, .slice o2 s7 o1], .slice a_steps m_steps c_steps] (fun w L => Ro w L eIs [.slice a_s m_s c_s] s ∧ Ro w L C8 [.slice a_l m_l c_l] l ∧ Ro w L eIs [.slice r6 t6 r5] f9 ∧ Ro w L G8 [.slice o2 s7 o1] a6 ∧ Ro w L H5 [.slice a_steps m_steps c_steps] c6) [] (κ := Unit) (fun k => True) (fun k => .bool (H6 s l (f9, a6) c6)) (fun k => []) := by
 refine Tr.intro Tryz.func44 rfl (n := 91) rfl (by decide +kernel) bl (fr := [(0, .slice a_s m_s c_s), (1, .slice a_l m_l c_l), (2, .agg #[.slice r6 t6 r5, .slice o2 s7 o1]), (3, .slice a_steps m_steps c_steps)]) rfl fun w L hR => ?_
 obtain ⟨hs, hl, y8, v6, hsteps⟩ := hR
 obtain ⟨rfl, ls⟩ := hs.slen
 obtain ⟨rfl, ll⟩ := hl.slen
 obtain ⟨rfl, N5⟩ := y8.slen
 obtain ⟨rfl, K9⟩ := v6.slen
 obtain ⟨rfl, lsteps⟩ := hsteps.slen
 refine Ew Z2 (Est rfl (N.box (cs := [_, _]) rfl dc rfl) (fun b6 _ => (Ei rfl (Eu (Eq_ (Ew Z13 (Em rfl (Em rfl (Ey rfl (o0 (cs := [_, _]) ty_Query rfl (Has.pt m0) rfl) (Est rfl (k6 (a6G fc) rfl rfl rfl dc (fun w Lp hA => ⟨hA.ro hs, hA.ro hl, hA.ro y8, hA.ro v6⟩)) (fun _ _ => (Ent.b (fun q16 => ?_) (fun q16 => ?_)))))))))))))
 ·have jq := R6 (s := s) (q := (f9, a6)) (Bool.and_eq_true_iff.1 q16).2
  have jq1 : a6.length ≤ 4 := jq.1
  have jl5 := (a0t (Bool.and_eq_true_iff.1 q16).1).2
  refine Ey rfl ((Y.not (b := true) rfl).yd) (Em rfl (Em rfl (Ey rfl ((Y.len us_Steps rfl).yd) (Ey rfl ((i7 fo_Query_1 ty_Atoms dc rfl).yd) (Ey rfl (f8 ty_Atoms rfl (Hz m0 1 rfl) rfl) (Ey rfl ((Y.len us_Atoms rfl).yd) (Ey rfl ((Y.neq rfl rfl).yd) (n0 (fun q24 => ?_) (fun q24 => ?_)))))))))
  ·refine Ey rfl ((r9 rfl rfl).yd) (Eu (l4 rfl (Ew Z1 (Ei rfl ?_))))
   exact Eu (E.ret (l0 (Fb rfl rfl (by exact b1A (q := (f9, a6)) (by show ¬ (c6.length : Int) = a6.length; omega)))))
  ·refine Ey rfl ((r9 rfl rfl).yd) (Eu (l6 rfl (i8 (Et (Ew Z5 (Ey rfl ((i7 fo_Query_1 ty_Atoms dc rfl).yd) (Ey rfl (f8 ty_Atoms rfl (Hz m0 1 rfl) rfl) (Ey rfl ((Y.len us_Atoms rfl).yd) (Est rfl (b6J (m := a6.length) us_Bs ty_B rfl rfl rfl mx om dc) (fun b29 _ => (n9 (A := [_]) (b4E (E := Enc.bool) (e := tB) (zx := false) Own.bool mx) rfl (Ei rfl (Ev Z2 (Est rfl (Nb [] [] us_Is f0 rfl rfl) (fun b30 _ => (Ent.drop (Ei rfl (Eu (Eq_ (Ew Z3 (Em rfl (Ey rfl ((Y.len us_Steps rfl).yd) (Em rfl (Eu (E.block (j8 (congrArg (ow eBs [_]) (show List.replicate a6.length false = stD a6.length (c6.take 0) from by first | rfl | simp)) (n9 (A := []) (Own.nil (E := Enc.int) (e := tI) (a := (some ⟨b30, 0, none⟩))) rfl ?_)))))))))))))))))))))))))))
   refine j8 (congrArg (ow eIs [_]) (show [] = stB a6 (c6.take 0) from by first | rfl | simp)) (E.loop (κ := Nat × Option Addr × Nat × Nat × Option Addr × Nat × Nat) (fun g => g.1 ≤ c6.length ∧ Q8 l a6 c6 g.1 = true) (fun g => [(1, .slice a_l l.length c_l), (6, .pointer (some ⟨b6, 0, none⟩)), (9, .slice g.2.1 g.2.2.1 g.2.2.2.1), (10, .slice g.2.2.2.2.1 g.2.2.2.2.2.1 g.2.2.2.2.2.2), (31, .slice a_steps c6.length c_steps), (32, .int .i64 (↑c6.length : Int)), (33, .int .i64 (↑g.1 : Int))]) (fun g => [ow eIs [.slice g.2.2.2.2.1 g.2.2.2.2.2.1 g.2.2.2.2.2.2] (stB a6 (c6.take g.1)), ow eBs [.slice g.2.1 g.2.2.1 g.2.2.2.1] (stD a6.length (c6.take g.1)), pt b6 28 [.slice r6 f9.length r5, .slice o2 a6.length o1]]) (fun g => c6.length - g.1) (0, (some ⟨b29, 0, none⟩), a6.length, a6.length, (some ⟨b30, 0, none⟩), 0, 0) ⟨Nat.zero_le _, rfl⟩ ⟨rfl, rfl, rfl, rfl, rfl, rfl, rfl, trivial⟩ (.refl _) (fun g pg => ?_))
   obtain ⟨g, aA0_0, mA0_0, cA0_0, aA0_1, mA0_1, cA0_1⟩ := g
   try dsimp only at pg
   try dsimp only
   obtain ⟨pk, pa⟩ := pg
   have jb := b1k (d8 := a6) (T := (c6.take g)) jq.2.2
   have jv := b1J (d8 := a6) (T := (c6.take g)) jq.2.2
   have jd := a5l (n := a6.length) (T := (c6.take g))
   have jt := List.length_take_le g c6
   have jo := a3l pa om
   have ju : ((c6.take g).map fun x => x.1).length = (c6.take g).length := List.length_map ..
   refine i9 (mS m0) fun eaA0_0 laA0_0 => ?_
   subst eaA0_0
   refine i9 m0 fun eaA0_1 laA0_1 => ?_
   subst eaA0_1
   refine Ew Z1 (Ey rfl ((Y.lss rfl rfl).yd) (n0 (fun q34 => ?_) (fun q34 => ?_)))
   ·obtain ⟨eb35, eo35, ec35, ea35, er35, el35, eh35⟩ := hsteps.elem g om
    obtain ⟨rfl, ei35_0, ei35_1⟩ := a0p er35
    refine Eu (Eq_ (l4 rfl (i8 (Et (Eq_ (E.block (Ew Z4 (Ey rfl ((o6 us_Steps ty_Step rfl ea35 rfl g rfl om).yd) (Ey rfl (o0 (cs := [_, _]) ty_Step rfl (eh35 _) rfl) (Est rfl (N.alloc ty_Step dc) (fun b12 _ => (Est rfl (Ns [_, _] ty_Step rfl) (fun _ _ => (Eu (Eq_ (Eq_ (D.region (fun j => true) mixed (Dyp 0 rfl (i7 fo_Step_0 f0 dc rfl) (Dy 1 rfl (f8 f0 rfl (Hz m0 0 rfl) rfl) (Dyp 2 rfl (i7 fo_Query_1 ty_Atoms dc rfl) (Dy 3 rfl (f8 ty_Atoms rfl (Hz (mS (mS (mS m0))) 1 rfl) rfl) (Dyp 4 rfl (Y.len us_Atoms rfl) (Dyp 5 rfl (Y.sub rfl rfl om om) (u7 6 rfl rfl kr (fun _ => rfl) (k6 I1 rfl rfl rfl dc tv) (fun _ _ => (Ent.b (fun q43 => ?_) (fun q43 => ?_)))))))))))))))))))))))))))
    ·have j43 := Q5 q43
     refine Dyp 7 rfl (Y.not (b := true) rfl) (Dyp 8 rfl (j4 rfl) (Dyp 9 rfl (j4 rfl) (Dyp 10 rfl (i7 fo_Step_0 f0 dc rfl) (Dy 11 rfl (f8 f0 rfl (Hz m0 0 rfl) rfl) (a0R (mS (mS m0)) om fun ab49 ae49 => (Dyp 12 rfl (o6 us_Bs ty_B rfl ae49 rfl c6[g].1.toNat om om) (Dy 13 rfl (f8 ty_B rfl (b4A ae49 (mS (mS m0)) om) rfl) (Ent.b (fun q50 => ?_) (fun q50 => ?_)))))))))
     ·have q50b : stU (c6.take g) c6[g].1 = true := by rw [← b0V (n := a6.length) (T := (c6.take g)) (fun x hx => (jo x hx).1) j43.1 om]; exact q50
      refine Dyp 14 rfl (r9 rfl rfl) (Dyp 15 rfl (j4 rfl) (Dsk 16 rfl (Dsk 17 rfl (Dsk 18 rfl (Dsk 19 rfl (Dsk 20 rfl (Dsk 21 rfl (Dsk 22 rfl (Dyp 23 rfl (s6 rfl rfl) (Dyp 24 rfl (j4 rfl) (Dsk 25 rfl (Dsk 26 rfl (Dsk 27 rfl (Dsk 28 rfl ?_))))))))))))))
      refine Dsk 29 rfl (Dsk 30 rfl (Dsk 31 rfl (Dsk 32 rfl (Dsk 33 rfl (Dsk 34 rfl (Dsk 35 rfl (Dsk 36 rfl (Dsk 37 rfl (Dsk 38 rfl (Dyp 39 rfl (s6 rfl rfl) (o3 kr (Et (l4 rfl (Ew Z1 (Ei rfl ?_)))))))))))))))
      exact Eu (E.ret (l0 (t7 (l0 (l0 (t7 (l0 (Fb rfl rfl (by exact a1W (q := (f9, a6)) om (b2T q50b))))))))))
     ·have q50b : stU (c6.take g) c6[g].1 = false := by rw [← b0V (n := a6.length) (T := (c6.take g)) (fun x hx => (jo x hx).1) j43.1 om]; exact q50
      refine Dyp 14 rfl (r9 rfl rfl) (Dyp 15 rfl (j4 rfl) (Dyp 16 rfl (i7 fo_Step_1 f0 dc rfl) (Dy 17 rfl (f8 f0 rfl (Hz m0 1 rfl) rfl) (Dyp 18 rfl (j4 rfl) (Dyp 19 rfl (Y.len us_Methods rfl) (Dyp 20 rfl (Y.sub rfl rfl om om) (u7 21 rfl rfl kr (fun _ => rfl) (k6 I1 rfl rfl rfl dc tv) (fun _ _ => (Ent.b (fun q58 => ?_) (fun q58 => ?_))))))))))
      ·have j58 := Q5 q58
       refine Dyp 22 rfl (Y.not (b := true) rfl) (Dyp 23 rfl (r9 rfl rfl) (Dyp 24 rfl (j4 rfl) (Dyp 25 rfl (j4 rfl) (Dyp 26 rfl (i7 fo_Step_1 f0 dc rfl) (Dy 27 rfl (f8 f0 rfl (Hz m0 1 rfl) rfl) ?_)))))
       obtain ⟨eb65, eo65, ec65, ea65, er65, el65, eh65⟩ := hl.elem c6[g].2.toNat om
       obtain ⟨xa65_0, xc65_0, rfl, ei65_0, xh65_0, ei65_2, ei65_3, ei65_4⟩ := H9 er65
       have := xh65_0.slen.2
       refine Dyp 28 rfl (o6 us_Methods ty_Method rfl ea65 rfl c6[g].2.toNat om om) (Dy 29 rfl (o0 (cs := [_, _, _, _, _]) ty_Method rfl (eh65 _) rfl) (Dyp 30 rfl (i7 fo_Query_1 ty_Atoms dc rfl) (Dy 31 rfl (f8 ty_Atoms rfl (Hz (mS (mS (mS m0))) 1 rfl) rfl) (Dyp 32 rfl (i7 fo_Step_0 f0 dc rfl) (Dy 33 rfl (f8 f0 rfl (Hz m0 0 rfl) rfl) ?_)))))
       obtain ⟨eb71, eo71, ec71, ea71, er71, el71, eh71⟩ := v6.elem c6[g].1.toNat om
       obtain ⟨xa71_0, xc71_0, rfl, ei71_0, xh71_0⟩ := P1 er71
       have := xh71_0.slen.2
       refine Dyp 34 rfl (o6 us_Atoms ty_Atom rfl ea71 rfl c6[g].1.toNat om om) (Dy 35 rfl (o0 (cs := [_, _]) ty_Atom rfl (eh71 _) rfl) (Dyp 36 rfl (j4 rfl) (u7 37 rfl rfl kr (fun _ => rfl) (k6 a7q rfl rfl rfl dc (fun w Lp hA => ⟨ei65_0, hA.ro xh65_0, ei65_2, ei65_3, ei65_4, ei71_0, hA.ro xh71_0, hA.ow (mS m0)⟩)) (fun _ _ => (Ent.b (fun q74 => ?_) (fun q74 => ?_))))))
       ·have q74b : P6 (l.getD c6[g].2.toNat (0, [], 0, 0, 0)) (atA a6 c6[g].1) (stB a6 (c6.take g)) = true := by rw [J0 (show c6[g].2.toNat < l.length by omega), V6 (show c6[g].1.toNat < a6.length by omega)]; exact q74
        have jt3 := jq.2.2 _ (List.getElem_mem (show c6[g].1.toNat < a6.length by omega))
        refine Dyp 38 rfl (Y.not (b := true) rfl) (Dyp 39 rfl (r9 rfl rfl) (o3 kr (Et (l6 rfl (i8 (Et (Ew Z5 (Em rfl (Ey rfl ((i7 fo_Step_0 f0 dc rfl).yd) (Ey rfl (f8 f0 rfl (Hz m0 0 rfl) rfl) (a0R (mS (mS m0)) om fun ab80 ae80 => (Ey rfl ((o6 us_Bs ty_B rfl ae80 rfl c6[g].1.toNat om om).yd) (j6 (Est rfl (N.set (E := Enc.bool) (j := c6[g].1.toNat) (ex := true) (ce := [_]) ty_B rfl rfl rfl rfl Own.bool ae80 (Nat.zero_add _) rfl om) (fun _ _ => (Eu (Ez Z10 (Em rfl (Ey rfl ((i7 fo_Query_1 ty_Atoms dc rfl).yd) (Ey rfl (f8 ty_Atoms rfl (Hz (mS (mS (mS m0))) 1 rfl) rfl) (Ey rfl ((i7 fo_Step_0 f0 dc rfl).yd) (Ey rfl (f8 f0 rfl (Hz (mS m0) 0 rfl) rfl) (Ey rfl ((o6 us_Atoms ty_Atom rfl ea71 rfl c6[g].1.toNat om om).yd) ?_)))))))))))))))))))))))
        refine Ey rfl ((i7 fo_Atom_1 ty_Is dc rfl).yd) (Ey rfl (f8 ty_Is rfl ((eh71 _).sub (cs' := [_]) 1 rfl) rfl) (j6 (Est rfl (b5X (E := Enc.int) Plain.int us_Is f0 rfl rfl rfl xh71_0 rfl bn bn dc) (fun p89 _ => (Ei rfl (En (o4 (Et (Ez Z2 (Ey rfl ((Y.add rfl rfl om om).yd) (Em rfl (Eu (j6 (Ent.drop (f7 (j8 (congrArg (ow eBs [_]) (show (stD a6.length (c6.take g)).set c6[g].1.toNat true = stD a6.length (c6.take (g + 1)) from by first | exact b0B om | (have e := a3X (d8 := a6) (c6 := c6) (g := g) om; rw [V6 (show c6[g].1.toNat < a6.length by omega)] at e; exact e))) (f7 (j8 (congrArg (ow eIs [_]) (show (stB a6 (c6.take g)) ++ (a6[c6[g].1.toNat].2) = stB a6 (c6.take (g + 1)) from by first | exact b0B om | (have e := a3X (d8 := a6) (c6 := c6) (g := g) om; rw [V6 (show c6[g].1.toNat < a6.length by omega)] at e; exact e))) (j6 (j6 ?_))))))))))))))))))))
        refine j6 ?_
        exact Ea (g + 1, aA0_0, (stD a6.length (c6.take g)).length, cA0_0, p89.1, ((stB a6 (c6.take g)).length + a6[c6[g].1.toNat].2.length), p89.2) ⟨oz, (show Q8 l a6 c6 (g + 1) = true from by exact b0m om pa (b2I q43 q50b q58 q74b))⟩
       ·have q74b : P6 (l.getD c6[g].2.toNat (0, [], 0, 0, 0)) (atA a6 c6[g].1) (stB a6 (c6.take g)) = false := by rw [J0 (show c6[g].2.toNat < l.length by omega), V6 (show c6[g].1.toNat < a6.length by omega)]; exact q74
        refine Dyp 38 rfl (Y.not (b := false) rfl) (Dyp 39 rfl (r9 rfl rfl) (o3 kr (Et (l4 rfl (Ew Z1 (Ei rfl ?_))))))
        exact Eu (E.ret (l0 (t7 (l0 (l0 (t7 (l0 (Fb rfl rfl (by exact a1W (q := (f9, a6)) om (b2H q74b))))))))))
      ·refine Dyp 22 rfl (Y.not (b := false) rfl) (Dyp 23 rfl (r9 rfl rfl) (Dyp 24 rfl (j4 rfl) (Dsk 25 rfl (Dsk 26 rfl (Dsk 27 rfl (Dsk 28 rfl (Dsk 29 rfl (Dsk 30 rfl (Dsk 31 rfl (Dsk 32 rfl (Dsk 33 rfl (Dsk 34 rfl (Dsk 35 rfl (Dsk 36 rfl ?_))))))))))))))
       refine Dsk 37 rfl (Dsk 38 rfl (Dyp 39 rfl (s6 rfl rfl) (o3 kr (Et (l4 rfl (Ew Z1 (Ei rfl ?_)))))))
       exact Eu (E.ret (l0 (t7 (l0 (l0 (t7 (l0 (Fb rfl rfl (by exact a1W (q := (f9, a6)) om (b3a q58))))))))))
    ·refine Dyp 7 rfl (Y.not (b := false) rfl) (Dyp 8 rfl (j4 rfl) (Dsk 9 rfl (Dsk 10 rfl (Dsk 11 rfl (Dsk 12 rfl (Dsk 13 rfl (Dyp 14 rfl (s6 rfl rfl) (Dyp 15 rfl (j4 rfl) (Dsk 16 rfl (Dsk 17 rfl (Dsk 18 rfl (Dsk 19 rfl (Dsk 20 rfl (Dsk 21 rfl ?_))))))))))))))
     refine Dsk 22 rfl (Dyp 23 rfl (s6 rfl rfl) (Dyp 24 rfl (j4 rfl) (Dsk 25 rfl (Dsk 26 rfl (Dsk 27 rfl (Dsk 28 rfl (Dsk 29 rfl (Dsk 30 rfl (Dsk 31 rfl (Dsk 32 rfl (Dsk 33 rfl (Dsk 34 rfl (Dsk 35 rfl (Dsk 36 rfl ?_))))))))))))))
     refine Dsk 37 rfl (Dsk 38 rfl (Dyp 39 rfl (s6 rfl rfl) (o3 kr (Et (l4 rfl (Ew Z1 (Ei rfl ?_)))))))
     exact Eu (E.ret (l0 (t7 (l0 (l0 (t7 (l0 (Fb rfl rfl (by exact a1W (q := (f9, a6)) om (b3g q43))))))))))
   ·refine Eu (Eq_ (l6 rfl (E.exit (n8 (n8 (w5 (Et (Ew Z1 (Ei rfl ?_)))))))))
    exact Eu (E.ret (Fb rfl rfl (by exact b0W (q := (f9, a6)) q16 (by show (c6.length : Int) = a6.length; omega) (show ¬ g < c6.length by omega) om pa)))
 ·refine Ey rfl ((Y.not (b := false) rfl).yd) (Em rfl (Es rfl (Es rfl (Es rfl (Es rfl (Es rfl (Es rfl (Ey rfl ((s6 rfl rfl).yd) (Eu (l4 rfl (Ew Z1 (Ei rfl ?_))))))))))))
  exact Eu (E.ret (l0 (Fb rfl rfl (by exact b0S (q := (f9, a6)) q16))))
theorem a3o (hz : O5 (fun x => x.2.length) a6 ≤ 1048576) : Tr Tryz.prog 12 [.slice a_s m_s c_s, .slice a_l m_l c_l, .agg #[.slice r6 t6 r5, .slice o2 s7 o1], .slice a_steps m_steps c_steps] (fun w L => Ro w L eIs [.slice a_s m_s c_s] s ∧ Ro w L C8 [.slice a_l m_l c_l] l ∧ Ro w L eIs [.slice r6 t6 r5] f9 ∧ Ro w L G8 [.slice o2 s7 o1] a6 ∧ Ro w L H5 [.slice a_steps m_steps c_steps] c6) [] (κ := Unit) (fun k => True) (fun k => .bool (H6 s l (f9, a6) c6)) (fun k => []) := by
 refine Tr.intro Tryz.func12 rfl (n := 106) rfl (by decide +kernel) bl (fr := [(0, .slice a_s m_s c_s), (1, .slice a_l m_l c_l), (2, .agg #[.slice r6 t6 r5, .slice o2 s7 o1]), (3, .slice a_steps m_steps c_steps)]) rfl fun w L hR => ?_
 obtain ⟨hs, hl, y8, v6, hsteps⟩ := hR
 obtain ⟨rfl, ls⟩ := hs.slen
 obtain ⟨rfl, ll⟩ := hl.slen
 obtain ⟨rfl, N5⟩ := y8.slen
 obtain ⟨rfl, K9⟩ := v6.slen
 obtain ⟨rfl, lsteps⟩ := hsteps.slen
 refine Ew Z2 (Est rfl (N.box (cs := [_, _]) rfl dc rfl) (fun b6 _ => (Ei rfl (Eu (Eq_ (Ew Z13 (Em rfl (Em rfl (Ey rfl (o0 (cs := [_, _]) ty_Query rfl (Has.pt m0) rfl) (Est rfl (k6 (a2d fc) rfl rfl rfl dc (fun w Lp hA => ⟨hA.ro hs, hA.ro hl, hA.ro y8, hA.ro v6⟩)) (fun _ _ => (Ent.b (fun q15 => ?_) (fun q15 => ?_)))))))))))))
 ·have jq := R6 (s := s) (q := (f9, a6)) (Bool.and_eq_true_iff.1 q15).2
  have jq1 : a6.length ≤ 4 := jq.1
  have jl5 := (a0t (Bool.and_eq_true_iff.1 q15).1).2
  refine Ey rfl ((Y.not (b := true) rfl).yd) (Em rfl (Em rfl (Ey rfl ((Y.len us_Steps rfl).yd) (Ey rfl ((i7 fo_Query_1 ty_Atoms dc rfl).yd) (Ey rfl (f8 ty_Atoms rfl (Hz m0 1 rfl) rfl) (Ey rfl ((Y.len us_Atoms rfl).yd) (Ey rfl ((Y.neq rfl rfl).yd) (n0 (fun q23 => ?_) (fun q23 => ?_)))))))))
  ·refine Ey rfl ((r9 rfl rfl).yd) (Eu (l4 rfl (Ew Z1 (Ei rfl ?_))))
   exact Eu (E.ret (l0 (Fb rfl rfl (by exact b1A (q := (f9, a6)) (by show ¬ (c6.length : Int) = a6.length; omega)))))
  ·refine Ey rfl ((r9 rfl rfl).yd) (Eu (l6 rfl (i8 (Et (Ew Z2 (Est rfl (Nb [] [] us_Is f0 rfl rfl) (fun b25 _ => (Ent.drop (Ei rfl (Ev Z2 (Est rfl (Nb [] [] us_Is f0 rfl rfl) (fun b26 _ => (Ent.drop (Ei rfl (Eu (Eq_ (Ew Z1 (Ei rfl (Eu (E.block (n9 (A := []) (Own.nil (E := Enc.int) (e := tI) (a := (some ⟨b25, 0, none⟩))) rfl (j8 (congrArg (ow eIs [_]) (show [] = stV a6 (c6.take 0) from by first | rfl | simp)) (n9 (A := []) (Own.nil (E := Enc.int) (e := tI) (a := (some ⟨b26, 0, none⟩))) rfl (j8 (congrArg (ow eIs [_]) (show [] = (c6.take 0).map fun x => x.1 from by first | rfl | simp)) (E.loop (κ := Nat × Option Addr × Nat × Nat × Option Addr × Nat × Nat) (fun g => g.1 ≤ c6.length ∧ Q8 l a6 c6 g.1 = true) (fun g => [(1, .slice a_l l.length c_l), (3, .slice a_steps c6.length c_steps), (6, .pointer (some ⟨b6, 0, none⟩)), (9, .slice g.2.1 g.2.2.1 g.2.2.2.1), (10, .slice g.2.2.2.2.1 g.2.2.2.2.2.1 g.2.2.2.2.2.2), (11, .int .i64 (↑g.1 : Int))]) (fun g => [ow eIs [.slice g.2.2.2.2.1 g.2.2.2.2.2.1 g.2.2.2.2.2.2] ((c6.take g.1).map fun x => x.1), ow eIs [.slice g.2.1 g.2.2.1 g.2.2.2.1] (stV a6 (c6.take g.1)), pt b6 28 [.slice r6 f9.length r5, .slice o2 a6.length o1]]) (fun g => c6.length - g.1) (0, (some ⟨b25, 0, none⟩), 0, 0, (some ⟨b26, 0, none⟩), 0, 0) ⟨Nat.zero_le _, rfl⟩ ⟨rfl, rfl, rfl, rfl, rfl, rfl, trivial⟩ (.refl _) (fun g pg => ?_))))))))))))))))))))))))))
   obtain ⟨g, aA0_0, mA0_0, cA0_0, aA0_1, mA0_1, cA0_1⟩ := g
   try dsimp only at pg
   try dsimp only
   obtain ⟨pk, pa⟩ := pg
   have jb := b1k (d8 := a6) (T := (c6.take g)) jq.2.2
   have jv := b1J (d8 := a6) (T := (c6.take g)) jq.2.2
   have jd := a5l (n := a6.length) (T := (c6.take g))
   have jt := List.length_take_le g c6
   have jo := a3l pa om
   have ju : ((c6.take g).map fun x => x.1).length = (c6.take g).length := List.length_map ..
   refine i9 (mS m0) fun eaA0_0 laA0_0 => ?_
   subst eaA0_0
   refine i9 m0 fun eaA0_1 laA0_1 => ?_
   subst eaA0_1
   refine Eq_ (Ew Z4 (Em rfl (Em rfl (Ey rfl ((Y.len us_Steps rfl).yd) (Ey rfl ((Y.lss rfl rfl).yd) (n0 (fun q30 => ?_) (fun q30 => ?_)))))))
   ·refine Eu (l4 rfl (i8 (Et (Eq_ (E.block (Eq_ (Eq_ (D.region (fun j => true) mixed (Dyp 0 rfl (j4 rfl) (Dyp 1 rfl (j4 rfl) ?_))))))))))
    obtain ⟨eb35, eo35, ec35, ea35, er35, el35, eh35⟩ := hsteps.elem g om
    obtain ⟨rfl, ei35_0, ei35_1⟩ := a0p er35
    refine Dyp 2 rfl (o6 us_Steps ty_Step rfl ea35 rfl g rfl om) (Dyp 3 rfl (i7 fo_Step_0 f0 dc rfl) (Dy 4 rfl (f8 f0 rfl ((eh35 _).sub (cs' := [_]) 0 rfl) rfl) (Dyp 5 rfl (i7 fo_Query_1 ty_Atoms dc rfl) (Dy 6 rfl (f8 ty_Atoms rfl (Hz (mS (mS m0)) 1 rfl) rfl) (Dyp 7 rfl (Y.len us_Atoms rfl) (Dyp 8 rfl (Y.sub rfl rfl om om) (u7 9 rfl rfl kr (fun _ => rfl) (k6 F9 rfl rfl rfl dc tv) (fun _ _ => (Ent.b (fun q42 => ?_) (fun q42 => ?_))))))))))
    ·have j43 := Q5 q42
     refine Dyp 10 rfl (Y.not (b := true) rfl) (Dyp 11 rfl (j4 rfl) (Dyp 12 rfl (j4 rfl) (Dyp 13 rfl (j4 rfl) (Dyp 14 rfl (j4 rfl) (Dyp 15 rfl (o6 us_Steps ty_Step rfl ea35 rfl g rfl om) (Dyp 16 rfl (i7 fo_Step_0 f0 dc rfl) (Dy 17 rfl (f8 f0 rfl ((eh35 _).sub (cs' := [_]) 0 rfl) rfl) (u7 18 rfl rfl kr (fun _ => rfl) (k6 a0K rfl rfl rfl dc (fun w Lp hA => hA.ow m0)) (fun _ _ => (Ent.b (fun q51 => ?_) (fun q51 => ?_)))))))))))
     ·have q51b : stU (c6.take g) c6[g].1 = true := by rw [← b1d]; exact q51
      refine Dyp 19 rfl (r9 rfl rfl) (Dyp 20 rfl (j4 rfl) (Dsk 21 rfl (Dsk 22 rfl (Dsk 23 rfl (Dsk 24 rfl (Dsk 25 rfl (Dsk 26 rfl (Dsk 27 rfl (Dsk 28 rfl (Dsk 29 rfl (Dsk 30 rfl (Dyp 31 rfl (s6 rfl rfl) (Dyp 32 rfl (j4 rfl) (Dsk 33 rfl ?_))))))))))))))
      refine Dsk 34 rfl (Dsk 35 rfl (Dsk 36 rfl (Dsk 37 rfl (Dsk 38 rfl (Dsk 39 rfl (Dsk 40 rfl (Dsk 41 rfl (Dsk 42 rfl (Dsk 43 rfl (Dsk 44 rfl (Dsk 45 rfl (Dsk 46 rfl (Dsk 47 rfl (Dsk 48 rfl ?_))))))))))))))
      refine Dsk 49 rfl (Dsk 50 rfl (Dsk 51 rfl (Dsk 52 rfl (Dyp 53 rfl (s6 rfl rfl) (o3 kr (Et (l4 rfl (Ew Z1 (Ei rfl ?_)))))))))
      exact Eu (E.ret (l0 (t7 (l0 (l0 (t7 (l0 (Fb rfl rfl (by exact a1W (q := (f9, a6)) om (b2T q51b))))))))))
     ·have q51b : stU (c6.take g) c6[g].1 = false := by rw [← b1d]; exact q51
      refine Dyp 19 rfl (r9 rfl rfl) (Dyp 20 rfl (j4 rfl) (Dyp 21 rfl (j4 rfl) (Dyp 22 rfl (j4 rfl) (Dyp 23 rfl (o6 us_Steps ty_Step rfl ea35 rfl g rfl om) (Dyp 24 rfl (i7 fo_Step_1 f0 dc rfl) (Dy 25 rfl (f8 f0 rfl ((eh35 _).sub (cs' := [_]) 1 rfl) rfl) (Dyp 26 rfl (j4 rfl) (Dyp 27 rfl (Y.len us_Methods rfl) (Dyp 28 rfl (Y.sub rfl rfl om om) (u7 29 rfl rfl kr (fun _ => rfl) (k6 F9 rfl rfl rfl dc tv) (fun _ _ => (Ent.b (fun q62 => ?_) (fun q62 => ?_)))))))))))))
      ·have j58 := Q5 q62
       refine Dyp 30 rfl (Y.not (b := true) rfl) (Dyp 31 rfl (r9 rfl rfl) (Dyp 32 rfl (j4 rfl) (Dyp 33 rfl (j4 rfl) (Dyp 34 rfl (j4 rfl) (Dyp 35 rfl (j4 rfl) (Dyp 36 rfl (o6 us_Steps ty_Step rfl ea35 rfl g rfl om) (Dyp 37 rfl (i7 fo_Step_1 f0 dc rfl) (Dy 38 rfl (f8 f0 rfl ((eh35 _).sub (cs' := [_]) 1 rfl) rfl) ?_))))))))
       obtain ⟨eb72, eo72, ec72, ea72, er72, el72, eh72⟩ := hl.elem c6[g].2.toNat om
       obtain ⟨xa72_0, xc72_0, rfl, ei72_0, xh72_0, ei72_2, ei72_3, ei72_4⟩ := H9 er72
       have := xh72_0.slen.2
       refine Dyp 39 rfl (o6 us_Methods ty_Method rfl ea72 rfl c6[g].2.toNat om om) (Dy 40 rfl (o0 (cs := [_, _, _, _, _]) ty_Method rfl (eh72 _) rfl) (Dyp 41 rfl (i7 fo_Query_1 ty_Atoms dc rfl) (Dy 42 rfl (f8 ty_Atoms rfl (Hz (mS (mS m0)) 1 rfl) rfl) (Dyp 43 rfl (j4 rfl) (Dyp 44 rfl (j4 rfl) (Dyp 45 rfl (o6 us_Steps ty_Step rfl ea35 rfl g rfl om) (Dyp 46 rfl (i7 fo_Step_0 f0 dc rfl) (Dy 47 rfl (f8 f0 rfl ((eh35 _).sub (cs' := [_]) 0 rfl) rfl) ?_))))))))
       obtain ⟨eb81, eo81, ec81, ea81, er81, el81, eh81⟩ := v6.elem c6[g].1.toNat om
       obtain ⟨xa81_0, xc81_0, rfl, ei81_0, xh81_0⟩ := P1 er81
       have := xh81_0.slen.2
       refine Dyp 48 rfl (o6 us_Atoms ty_Atom rfl ea81 rfl c6[g].1.toNat om om) (Dy 49 rfl (o0 (cs := [_, _]) ty_Atom rfl (eh81 _) rfl) (Dyp 50 rfl (j4 rfl) (u7 51 rfl rfl kr (fun _ => rfl) (k6 a1F rfl rfl rfl dc (fun w Lp hA => ⟨ei72_0, hA.ro xh72_0, ei72_2, ei72_3, ei72_4, ei81_0, hA.ro xh81_0, hA.ow (mS m0)⟩)) (fun _ _ => (Ent.b (fun q84 => ?_) (fun q84 => ?_))))))
       ·have q84b : P6 (l.getD c6[g].2.toNat (0, [], 0, 0, 0)) (atA a6 c6[g].1) (stB a6 (c6.take g)) = true := by rw [J0 (show c6[g].2.toNat < l.length by omega), V6 (show c6[g].1.toNat < a6.length by omega), ← b4L]; exact q84
        have jt3 := jq.2.2 _ (List.getElem_mem (show c6[g].1.toNat < a6.length by omega))
        refine Dyp 52 rfl (Y.not (b := true) rfl) (Dyp 53 rfl (r9 rfl rfl) (o3 kr (Et (l6 rfl (i8 (Et (Ew Z9 (Em rfl (Em rfl (Em rfl (Ey rfl ((o6 us_Steps ty_Step rfl ea35 rfl g rfl om).yd) (Ey rfl ((i7 fo_Step_0 f0 dc rfl).yd) (Ey rfl (f8 f0 rfl ((eh35 _).sub (cs' := [_]) 0 rfl) rfl) (Est rfl (Nb [_] [_] us_Is f0 rfl rfl) (fun b93 _ => (f7 (Est rfl (y6 (E := Enc.int) (ex := c6[g].1) us_Is f0 rfl rfl rfl (Own.int ei35_0) rfl bn bn dc) (fun p94 _ => (Ei rfl (Eu (D.region (fun j => true) mixed (Dyp 0 rfl (j4 rfl) (Dyp 1 rfl (i7 fo_Query_1 ty_Atoms dc rfl) (Dy 2 rfl (f8 ty_Atoms rfl (Hz (mS (mS m0)) 1 rfl) rfl) ?_))))))))))))))))))))))))
        refine Dyp 3 rfl (j4 rfl) (Dyp 4 rfl (j4 rfl) (Dyp 5 rfl (o6 us_Steps ty_Step rfl ea35 rfl g rfl om) (Dyp 6 rfl (i7 fo_Step_0 f0 dc rfl) (Dy 7 rfl (f8 f0 rfl ((eh35 _).sub (cs' := [_]) 0 rfl) rfl) (Dyp 8 rfl (o6 us_Atoms ty_Atom rfl ea81 rfl c6[g].1.toNat om om) (Dy 9 rfl (o0 (cs := [_, _]) ty_Atom rfl (eh81 _) rfl) (u7 10 rfl rfl kr (fun _ => rfl) (N.call (a2c fc fc) rfl rfl rfl dc rfl (fun w Lp hA => ⟨hA.ow (mS m0), ei81_0, hA.ro xh81_0⟩)) (fun k105 _ => ?_))))))))
        obtain ⟨a105, m105, c105⟩ := k105
        refine i9 m0 fun e105 l105 => ?_
        subst e105
        refine Dyp 11 rfl (G1 rfl) (o3 kr (o4 (Et (Ez Z3 (Em rfl (Ey rfl ((Y.add rfl rfl om om).yd) (Ei rfl (Eu (j6 (Ent.drop (j8 (congrArg (ow eIs [_]) (show a0l (stV a6 (c6.take g)) ((a6[c6[g].1.toNat].1), (a6[c6[g].1.toNat].2)) = stV a6 (c6.take (g + 1)) from by first | exact a9L om | (have e := a9P (d8 := a6) (c6 := c6) (g := g) om; rw [V6 (show c6[g].1.toNat < a6.length by omega)] at e; exact e))) (f7 (j8 (congrArg (ow eIs [_]) (show ((c6.take g).map fun x => x.1) ++ [c6[g].1] = (c6.take (g + 1)).map fun x => x.1 from by first | exact a9L om | (have e := a9P (d8 := a6) (c6 := c6) (g := g) om; rw [V6 (show c6[g].1.toNat < a6.length by omega)] at e; exact e))) (j6 (j6 (j6 ?_))))))))))))))))
        exact Ea (g + 1, a105, (a0l (stV a6 (c6.take g)) ((a6[c6[g].1.toNat].1), (a6[c6[g].1.toNat].2))).length, c105, p94.1, (((c6.take g).map fun x => x.1).length + 1), p94.2) ⟨oz, (show Q8 l a6 c6 (g + 1) = true from by exact b0m om pa (b2I q42 q51b q62 q84b))⟩
       ·have q84b : P6 (l.getD c6[g].2.toNat (0, [], 0, 0, 0)) (atA a6 c6[g].1) (stB a6 (c6.take g)) = false := by rw [J0 (show c6[g].2.toNat < l.length by omega), V6 (show c6[g].1.toNat < a6.length by omega), ← b4L]; exact q84
        refine Dyp 52 rfl (Y.not (b := false) rfl) (Dyp 53 rfl (r9 rfl rfl) (o3 kr (Et (l4 rfl (Ew Z1 (Ei rfl ?_))))))
        exact Eu (E.ret (l0 (t7 (l0 (l0 (t7 (l0 (Fb rfl rfl (by exact a1W (q := (f9, a6)) om (b2H q84b))))))))))
      ·refine Dyp 30 rfl (Y.not (b := false) rfl) (Dyp 31 rfl (r9 rfl rfl) (Dyp 32 rfl (j4 rfl) (Dsk 33 rfl (Dsk 34 rfl (Dsk 35 rfl (Dsk 36 rfl (Dsk 37 rfl (Dsk 38 rfl (Dsk 39 rfl (Dsk 40 rfl (Dsk 41 rfl (Dsk 42 rfl (Dsk 43 rfl (Dsk 44 rfl ?_))))))))))))))
       refine Dsk 45 rfl (Dsk 46 rfl (Dsk 47 rfl (Dsk 48 rfl (Dsk 49 rfl (Dsk 50 rfl (Dsk 51 rfl (Dsk 52 rfl (Dyp 53 rfl (s6 rfl rfl) (o3 kr (Et (l4 rfl (Ew Z1 (Ei rfl ?_)))))))))))))
       exact Eu (E.ret (l0 (t7 (l0 (l0 (t7 (l0 (Fb rfl rfl (by exact a1W (q := (f9, a6)) om (b3a q62))))))))))
    ·refine Dyp 10 rfl (Y.not (b := false) rfl) (Dyp 11 rfl (j4 rfl) (Dsk 12 rfl (Dsk 13 rfl (Dsk 14 rfl (Dsk 15 rfl (Dsk 16 rfl (Dsk 17 rfl (Dsk 18 rfl (Dyp 19 rfl (s6 rfl rfl) (Dyp 20 rfl (j4 rfl) (Dsk 21 rfl (Dsk 22 rfl (Dsk 23 rfl (Dsk 24 rfl ?_))))))))))))))
     refine Dsk 25 rfl (Dsk 26 rfl (Dsk 27 rfl (Dsk 28 rfl (Dsk 29 rfl (Dsk 30 rfl (Dyp 31 rfl (s6 rfl rfl) (Dyp 32 rfl (j4 rfl) (Dsk 33 rfl (Dsk 34 rfl (Dsk 35 rfl (Dsk 36 rfl (Dsk 37 rfl (Dsk 38 rfl (Dsk 39 rfl ?_))))))))))))))
     refine Dsk 40 rfl (Dsk 41 rfl (Dsk 42 rfl (Dsk 43 rfl (Dsk 44 rfl (Dsk 45 rfl (Dsk 46 rfl (Dsk 47 rfl (Dsk 48 rfl (Dsk 49 rfl (Dsk 50 rfl (Dsk 51 rfl (Dsk 52 rfl (Dyp 53 rfl (s6 rfl rfl) (o3 kr (Et (l4 rfl (Ew Z1 (Ei rfl ?_))))))))))))))))))
     exact Eu (E.ret (l0 (t7 (l0 (l0 (t7 (l0 (Fb rfl rfl (by exact a1W (q := (f9, a6)) om (b3g q42))))))))))
   ·refine Eu (l6 rfl (E.exit (n8 (n8 (w5 (Et (Ew Z1 (Ei rfl ?_))))))))
    exact Eu (E.ret (Fb rfl rfl (by exact b0W (q := (f9, a6)) q15 (by show (c6.length : Int) = a6.length; omega) (show ¬ g < c6.length by omega) om pa)))
 ·refine Ey rfl ((Y.not (b := false) rfl).yd) (Em rfl (Es rfl (Es rfl (Es rfl (Es rfl (Es rfl (Es rfl (Ey rfl ((s6 rfl rfl).yd) (Eu (l4 rfl (Ew Z1 (Ei rfl ?_))))))))))))
  exact Eu (E.ret (l0 (Fb rfl rfl (by exact b0S (q := (f9, a6)) q15))))
end Go.Proofs.YtlfhopooaejpfaaGreat
