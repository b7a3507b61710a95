import Derived.Test.YtdopeopehgdccaaGreatBs
import Derived.Test.YtdopeopehgdccaaGreatT71
import Derived.Test.YtdopeopehgdccaaGreatEx
namespace Go.Proofs.YtdopeopehgdccaaGreat
open Go.RowKit
set_option linter.all false
set_option maxHeartbeats 2000000
attribute [local irreducible] Nop Yd Yp Ent Has Tr FnP FnP2 Src M5 V6 Y1 a0b D2
variable {d7 : List (Int × Int)} {l : List (Int × List Int × Int × Int × Int)} {d6 : List (Int × List Int)} {s i8 : List Int} {m_s c_s m_l c_l u7 o6 s5 o0 m_steps c_steps : Nat} {a_s a_l o7 o1 a_steps : Option Addr}
theorem a5y (hz : E0 (fun x => x.2.length) d6 ≤ 1048576) : Tr Tryz.prog 93 [.slice a_s m_s c_s, .slice a_l m_l c_l, .agg #[.slice o7 u7 o6, .slice o1 s5 o0], .slice a_steps m_steps c_steps] (fun w L => Ro w L eIs [.slice a_s m_s c_s] s ∧ Ro w L z8 [.slice a_l m_l c_l] l ∧ Ro w L eIs [.slice o7 u7 o6] i8 ∧ Ro w L C3 [.slice o1 s5 o0] d6 ∧ Ro w L K4 [.slice a_steps m_steps c_steps] d7) [] (κ := Unit) (fun k => True) (fun k => .bool (G1 s l (i8, d6) d7)) (fun k => []) := by
 refine Tr.intro Tryz.func93 rfl (n := 91) rfl (by decide +kernel) bl (fr := [(0, .slice a_s m_s c_s), (1, .slice a_l m_l c_l), (2, .agg #[.slice o7 u7 o6, .slice o1 s5 o0]), (3, .slice a_steps m_steps c_steps)]) rfl fun w L hR => ?_
 obtain ⟨hs, hl, x8, t8, hsteps⟩ := hR
 obtain ⟨rfl, ls⟩ := hs.slen
 obtain ⟨rfl, ll⟩ := hl.slen
 obtain ⟨rfl, P9⟩ := x8.slen
 obtain ⟨rfl, M9⟩ := t8.slen
 obtain ⟨rfl, lsteps⟩ := hsteps.slen
 refine Ew Z2 (Est rfl (N.box (cs := [_, _]) rfl dc rfl) (fun b6 _ => (Eas rfl rfl (Eu (Eq_ (Ew Z13 (Emv rfl rfl (Emv rfl rfl (Ey rfl (Y.ldS (cs := [_, _]) ty_Query rfl (Has.pt m0) rfl) (Est rfl (N.call0 (a4A fc) rfl rfl rfl dc (fun w Lp hA => ⟨hA.ro hs, hA.ro hl, hA.ro x8, hA.ro t8⟩)) (fun _ _ => (Ent.b (fun q16 => ?_) (fun q16 => ?_)))))))))))))
 ·have jq := a0u (s := s) (q := (i8, d6)) (Bool.and_eq_true_iff.1 q16).2
  have jq1 : d6.length ≤ 4 := jq.1
  have jl5 := (a0m (Bool.and_eq_true_iff.1 q16).1).2
  refine Ey rfl ((Y.not (b := true) rfl).yd) (Emv rfl rfl (Emv rfl rfl (Ey rfl ((Y.len us_Steps rfl).yd) (Ey rfl ((Y.fld fo_Query_1 ty_Atoms dc rfl).yd) (Ey rfl (Y.ld1 ty_Atoms rfl ((Has.pt m0).sub (cs' := [_]) 1 rfl) rfl) (Ey rfl ((Y.len us_Atoms rfl).yd) (Ey rfl ((Y.neq rfl rfl).yd) (Ent.d (fun q24 => ?_) (fun q24 => ?_)))))))))
  ·refine Ey rfl ((Y.pkf rfl rfl).yd) (Eu (E.ct rfl (Ew Z1 (Eas rfl rfl ?_))))
   exact Eu (E.ret (E.thr (Fb rfl rfl (by exact a8A (q := (i8, d6)) (by show ¬ (d7.length : Int) = d6.length; omega)))))
  ·refine Ey rfl ((Y.pkf rfl rfl).yd) (Eu (E.cf rfl (E.skipc (Et (Ew Z5 (Ey rfl ((Y.fld fo_Query_1 ty_Atoms dc rfl).yd) (Ey rfl (Y.ld1 ty_Atoms rfl ((Has.pt m0).sub (cs' := [_]) 1 rfl) rfl) (Ey rfl ((Y.len us_Atoms rfl).yd) (Est rfl (N.make (m := d6.length) us_Bs ty_B rfl rfl rfl mx om dc) (fun b29 _ => (Ent.mkow (A := [_]) (Own.made (E := Enc.bool) (e := tB) (zx := false) Own.bool mx) rfl (Eas rfl rfl (Ev Z2 (Est rfl (N.bsl (pvs := []) (cs := []) us_Is f8 rfl dc dc (o8 rfl rfl) rfl dc) (fun b30 _ => (Ent.drop (Eas rfl rfl (Eu (Eq_ (Ew Z3 (Emv rfl rfl (Ey rfl ((Y.len us_Steps rfl).yd) (Emv rfl rfl (Eu (E.block (Ent.cv (congrArg (ow eBs [_]) (show List.replicate d6.length false = stD d6.length (d7.take 0) from by first | rfl | simp)) (Ent.mkow (A := []) (Own.nil (E := Enc.int) (e := tI) (a := (some ⟨b30, 0, none⟩))) rfl (Ent.cv (congrArg (ow eIs [_]) (show [] = stB d6 (d7.take 0) from by first | rfl | simp)) (E.loop (κ := Nat × Option Addr × Nat × Nat × Option Addr × Nat × Nat) (fun g => g.1 ≤ d7.length ∧ P4 l d6 d7 g.1 = true) (fun g => [(1, .slice a_l l.length c_l), (6, .pointer (some ⟨b6, 0, none⟩)), (9, .slice g.2.1 g.2.2.1 g.2.2.2.1), (10, .slice g.2.2.2.2.1 g.2.2.2.2.2.1 g.2.2.2.2.2.2), (31, .slice a_steps d7.length c_steps), (32, .int .i64 (↑d7.length : Int)), (33, .int .i64 (↑g.1 : Int))]) (fun g => [ow eIs [.slice g.2.2.2.2.1 g.2.2.2.2.2.1 g.2.2.2.2.2.2] (stB d6 (d7.take g.1)), ow eBs [.slice g.2.1 g.2.2.1 g.2.2.2.1] (stD d6.length (d7.take g.1)), pt b6 61 [.slice o7 i8.length o6, .slice o1 d6.length o0]]) (fun g => d7.length - g.1) (0, (some ⟨b29, 0, none⟩), d6.length, d6.length, (some ⟨b30, 0, none⟩), 0, 0) ⟨Nat.zero_le _, rfl⟩ ⟨rfl, rfl, rfl, rfl, rfl, rfl, rfl, trivial⟩ (.refl _) (fun g pg => ?_))))))))))))))))))))))))))))))
   obtain ⟨g, aA0_0, mA0_0, cA0_0, aA0_1, mA0_1, cA0_1⟩ := g
   try dsimp only at pg
   try dsimp only
   obtain ⟨pk, pa⟩ := pg
   have jb := a8y (i9 := d6) (T := (d7.take g)) jq.2.2
   have jv := a8n (i9 := d6) (T := (d7.take g)) jq.2.2
   have jd := a3o (n := d6.length) (T := (d7.take g))
   have jt := List.length_take_le g d7
   have jo := a2Y pa om
   have ju : ((d7.take g).map fun x => x.1).length = (d7.take g).length := List.length_map ..
   refine Ent.lenow (mS m0) fun eaA0_0 laA0_0 => ?_
   subst eaA0_0
   refine Ent.lenow m0 fun eaA0_1 laA0_1 => ?_
   subst eaA0_1
   refine Ew Z1 (Ey rfl ((Y.lss rfl rfl).yd) (Ent.d (fun q34 => ?_) (fun q34 => ?_)))
   ·obtain ⟨eb35, eo35, ec35, ea35, er35, el35, eh35⟩ := hsteps.elem g om
    obtain ⟨rfl, ei35_0, ei35_1⟩ := Ro.pStep er35
    refine Eu (Eq_ (E.ct rfl (E.skipc (Et (Eq_ (E.block (Ew Z4 (Ey rfl ((Y.ix us_Steps ty_Step rfl ea35 rfl g rfl om).yd) (Ey rfl (Y.ldS (cs := [_, _]) ty_Step rfl (eh35 _) rfl) (Est rfl (N.alloc ty_Step dc) (fun b12 _ => (Est rfl (N.sto (vs := [_, _]) (cs' := [_, _]) ty_Step rfl rfl rfl rfl rfl bl rfl) (fun _ _ => (Eu (Eq_ (Eq_ (D.region (fun j => true) mixed (Dyp 0 rfl (Y.fld fo_Step_0 f8 dc rfl) (Dy 1 rfl (Y.ld1 f8 rfl ((Has.pt m0).sub (cs' := [_]) 0 rfl) rfl) (Dyp 2 rfl (Y.fld fo_Query_1 ty_Atoms dc rfl) (Dy 3 rfl (Y.ld1 ty_Atoms rfl ((Has.pt (mS (mS (mS m0)))).sub (cs' := [_]) 1 rfl) rfl) (Dyp 4 rfl (Y.len us_Atoms rfl) (Dyp 5 rfl (Y.sub rfl rfl om om) (D.st 6 rfl rfl kr (fun _ => rfl) (N.call0 E6 rfl rfl rfl dc (fun w Lp hA => trivial)) (fun _ _ => (Ent.b (fun q43 => ?_) (fun q43 => ?_)))))))))))))))))))))))))))
    ·have j43 := O1 q43
     refine Dyp 7 rfl (Y.not (b := true) rfl) (Dyp 8 rfl (Y.mv rfl) (Dyp 9 rfl (Y.mv rfl) (Dyp 10 rfl (Y.fld fo_Step_0 f8 dc rfl) (Dy 11 rfl (Y.ld1 f8 rfl ((Has.pt m0).sub (cs' := [_]) 0 rfl) rfl) (Ent.adr (mS (mS m0)) om fun ab49 ae49 => (Dyp 12 rfl (Y.ix us_Bs ty_B rfl ae49 rfl d7[g].1.toNat om om) (Dy 13 rfl (Y.ld1 ty_B rfl (Has.owBl ae49 (mS (mS m0)) om) rfl) (Ent.b (fun q50 => ?_) (fun q50 => ?_)))))))))
     ·have q50b : stU (d7.take g) d7[g].1 = true := by rw [← a8s (n := d6.length) (T := (d7.take g)) (fun x hx => (jo x hx).1) j43.1 om]; exact q50
      refine Dyp 14 rfl (Y.pkf rfl rfl) (Dyp 15 rfl (Y.mv rfl) (Dsk 16 rfl (Dsk 17 rfl (Dsk 18 rfl (Dsk 19 rfl (Dsk 20 rfl (Dsk 21 rfl (Dsk 22 rfl (Dyp 23 rfl (Y.pkt rfl rfl) (Dyp 24 rfl (Y.mv rfl) (Dsk 25 rfl (Dsk 26 rfl (Dsk 27 rfl (Dsk 28 rfl (Dsk 29 rfl (Dsk 30 rfl (Dsk 31 rfl (Dsk 32 rfl (Dsk 33 rfl (Dsk 34 rfl (Dsk 35 rfl (Dsk 36 rfl (Dsk 37 rfl (Dsk 38 rfl (Dyp 39 rfl (Y.pkt rfl rfl) (D.done kr (Et (E.ct rfl (Ew Z1 (Eas rfl rfl ?_))))))))))))))))))))))))))))))
      exact Eu (E.ret (E.thr (E.blr (E.thr (E.thr (E.blr (E.thr (Fb rfl rfl (by exact a0Y (q := (i8, d6)) om (a9c q50b))))))))))
     ·have q50b : stU (d7.take g) d7[g].1 = false := by rw [← a8s (n := d6.length) (T := (d7.take g)) (fun x hx => (jo x hx).1) j43.1 om]; exact q50
      refine Dyp 14 rfl (Y.pkf rfl rfl) (Dyp 15 rfl (Y.mv rfl) (Dyp 16 rfl (Y.fld fo_Step_1 f8 dc rfl) (Dy 17 rfl (Y.ld1 f8 rfl ((Has.pt m0).sub (cs' := [_]) 1 rfl) rfl) (Dyp 18 rfl (Y.mv rfl) (Dyp 19 rfl (Y.len us_Methods rfl) (Dyp 20 rfl (Y.sub rfl rfl om om) (D.st 21 rfl rfl kr (fun _ => rfl) (N.call0 E6 rfl rfl rfl dc (fun w Lp hA => trivial)) (fun _ _ => (Ent.b (fun q58 => ?_) (fun q58 => ?_))))))))))
      ·have j58 := O1 q58
       refine Dyp 22 rfl (Y.not (b := true) rfl) (Dyp 23 rfl (Y.pkf rfl rfl) (Dyp 24 rfl (Y.mv rfl) (Dyp 25 rfl (Y.mv rfl) (Dyp 26 rfl (Y.fld fo_Step_1 f8 dc rfl) (Dy 27 rfl (Y.ld1 f8 rfl ((Has.pt m0).sub (cs' := [_]) 1 rfl) rfl) ?_)))))
       obtain ⟨eb65, eo65, ec65, ea65, er65, el65, eh65⟩ := hl.elem d7[g].2.toNat om
       obtain ⟨xa65_0, xc65_0, rfl, ei65_0, xh65_0, ei65_2, ei65_3, ei65_4⟩ := Ro.pMethod er65
       have := xh65_0.slen.2
       refine Dyp 28 rfl (Y.ix us_Methods ty_Method rfl ea65 rfl d7[g].2.toNat om om) (Dy 29 rfl (Y.ldS (cs := [_, _, _, _, _]) ty_Method rfl (eh65 _) rfl) (Dyp 30 rfl (Y.fld fo_Query_1 ty_Atoms dc rfl) (Dy 31 rfl (Y.ld1 ty_Atoms rfl ((Has.pt (mS (mS (mS m0)))).sub (cs' := [_]) 1 rfl) rfl) (Dyp 32 rfl (Y.fld fo_Step_0 f8 dc rfl) (Dy 33 rfl (Y.ld1 f8 rfl ((Has.pt m0).sub (cs' := [_]) 0 rfl) rfl) ?_)))))
       obtain ⟨eb71, eo71, ec71, ea71, er71, el71, eh71⟩ := t8.elem d7[g].1.toNat om
       obtain ⟨xa71_0, xc71_0, rfl, ei71_0, xh71_0⟩ := Ro.pAtom er71
       have := xh71_0.slen.2
       refine Dyp 34 rfl (Y.ix us_Atoms ty_Atom rfl ea71 rfl d7[g].1.toNat om om) (Dy 35 rfl (Y.ldS (cs := [_, _]) ty_Atom rfl (eh71 _) rfl) (Dyp 36 rfl (Y.mv rfl) (D.st 37 rfl rfl kr (fun _ => rfl) (N.call0 a5p rfl rfl rfl dc (fun w Lp hA => ⟨ei65_0, hA.ro xh65_0, ei65_2, ei65_3, ei65_4, ei71_0, hA.ro xh71_0, hA.ow (mS m0)⟩)) (fun _ _ => (Ent.b (fun q74 => ?_) (fun q74 => ?_))))))
       ·have q74b : S9 (l.getD d7[g].2.toNat (0, [], 0, 0, 0)) (atA d6 d7[g].1) (stB d6 (d7.take g)) = true := by rw [F5 (show d7[g].2.toNat < l.length by omega), V8 (show d7[g].1.toNat < d6.length by omega)]; exact q74
        have jt3 := jq.2.2 _ (List.getElem_mem (show d7[g].1.toNat < d6.length by omega))
        refine Dyp 38 rfl (Y.not (b := true) rfl) (Dyp 39 rfl (Y.pkf rfl rfl) (D.done kr (Et (E.cf rfl (E.skipc (Et (Ew Z5 (Emv rfl rfl (Ey rfl ((Y.fld fo_Step_0 f8 dc rfl).yd) (Ey rfl (Y.ld1 f8 rfl ((Has.pt m0).sub (cs' := [_]) 0 rfl) rfl) (Ent.adr (mS (mS m0)) om fun ab80 ae80 => (Ey rfl ((Y.ix us_Bs ty_B rfl ae80 rfl d7[g].1.toNat om om).yd) (Ent.p2 (Est rfl (N.set (E := Enc.bool) (j := d7[g].1.toNat) (ex := true) (ce := [_]) ty_B rfl rfl rfl rfl Own.bool ae80 (Nat.zero_add _) rfl om) (fun _ _ => (Eu (Ez Z10 (Emv rfl rfl (Ey rfl ((Y.fld fo_Query_1 ty_Atoms dc rfl).yd) (Ey rfl (Y.ld1 ty_Atoms rfl ((Has.pt (mS (mS (mS m0)))).sub (cs' := [_]) 1 rfl) rfl) (Ey rfl ((Y.fld fo_Step_0 f8 dc rfl).yd) (Ey rfl (Y.ld1 f8 rfl ((Has.pt (mS m0)).sub (cs' := [_]) 0 rfl) rfl) (Ey rfl ((Y.ix us_Atoms ty_Atom rfl ea71 rfl d7[g].1.toNat om om).yd) (Ey rfl ((Y.fld fo_Atom_1 ty_Is dc rfl).yd) (Ey rfl (Y.ld1 ty_Is rfl ((eh71 _).sub (cs' := [_]) 1 rfl) rfl) (Ent.p2 (Est rfl (N.pushR (E := Enc.int) Plain.int us_Is f8 rfl rfl rfl xh71_0 rfl bn bn dc) (fun p89 _ => (Eas rfl rfl (En (E.bln (Et (Ez Z2 (Ey rfl ((Y.add rfl rfl om om).yd) (Emv rfl rfl (Eu (Ent.p2 (Ent.drop (Ent.p1 (Ent.cv (congrArg (ow eBs [_]) (show (stD d6.length (d7.take g)).set d7[g].1.toNat true = stD d6.length (d7.take (g + 1)) from by first | exact a7Q om | (have e := a4j (i9 := d6) (d7 := d7) (g := g) om; rw [V8 (show d7[g].1.toNat < d6.length by omega)] at e; exact e))) (Ent.p1 (Ent.cv (congrArg (ow eIs [_]) (show (stB d6 (d7.take g)) ++ (d6[d7[g].1.toNat].2) = stB d6 (d7.take (g + 1)) from by first | exact a7Q om | (have e := a4j (i9 := d6) (d7 := d7) (g := g) om; rw [V8 (show d7[g].1.toNat < d6.length by omega)] at e; exact e))) (Ent.p2 (Ent.p2 (Ent.p2 ?_)))))))))))))))))))))))))))))))))))))))))))))
        exact Ea (g + 1, aA0_0, (stD d6.length (d7.take g)).length, cA0_0, p89.1, ((stB d6 (d7.take g)).length + d6[d7[g].1.toNat].2.length), p89.2) ⟨oz, (show P4 l d6 d7 (g + 1) = true from by exact a7Y om pa (a9j q43 q50b q58 q74b))⟩
       ·have q74b : S9 (l.getD d7[g].2.toNat (0, [], 0, 0, 0)) (atA d6 d7[g].1) (stB d6 (d7.take g)) = false := by rw [F5 (show d7[g].2.toNat < l.length by omega), V8 (show d7[g].1.toNat < d6.length by omega)]; exact q74
        refine Dyp 38 rfl (Y.not (b := false) rfl) (Dyp 39 rfl (Y.pkf rfl rfl) (D.done kr (Et (E.ct rfl (Ew Z1 (Eas rfl rfl ?_))))))
        exact Eu (E.ret (E.thr (E.blr (E.thr (E.thr (E.blr (E.thr (Fb rfl rfl (by exact a0Y (q := (i8, d6)) om (a9G q74b))))))))))
      ·refine Dyp 22 rfl (Y.not (b := false) rfl) (Dyp 23 rfl (Y.pkf rfl rfl) (Dyp 24 rfl (Y.mv rfl) (Dsk 25 rfl (Dsk 26 rfl (Dsk 27 rfl (Dsk 28 rfl (Dsk 29 rfl (Dsk 30 rfl (Dsk 31 rfl (Dsk 32 rfl (Dsk 33 rfl (Dsk 34 rfl (Dsk 35 rfl (Dsk 36 rfl (Dsk 37 rfl (Dsk 38 rfl (Dyp 39 rfl (Y.pkt rfl rfl) (D.done kr (Et (E.ct rfl (Ew Z1 (Eas rfl rfl ?_))))))))))))))))))))))
       exact Eu (E.ret (E.thr (E.blr (E.thr (E.thr (E.blr (E.thr (Fb rfl rfl (by exact a0Y (q := (i8, d6)) om (a9r q58))))))))))
    ·refine Dyp 7 rfl (Y.not (b := false) rfl) (Dyp 8 rfl (Y.mv rfl) (Dsk 9 rfl (Dsk 10 rfl (Dsk 11 rfl (Dsk 12 rfl (Dsk 13 rfl (Dyp 14 rfl (Y.pkt rfl rfl) (Dyp 15 rfl (Y.mv rfl) (Dsk 16 rfl (Dsk 17 rfl (Dsk 18 rfl (Dsk 19 rfl (Dsk 20 rfl (Dsk 21 rfl (Dsk 22 rfl (Dyp 23 rfl (Y.pkt rfl rfl) (Dyp 24 rfl (Y.mv rfl) (Dsk 25 rfl (Dsk 26 rfl (Dsk 27 rfl (Dsk 28 rfl (Dsk 29 rfl (Dsk 30 rfl (Dsk 31 rfl (Dsk 32 rfl (Dsk 33 rfl (Dsk 34 rfl (Dsk 35 rfl (Dsk 36 rfl (Dsk 37 rfl (Dsk 38 rfl (Dyp 39 rfl (Y.pkt rfl rfl) (D.done kr (Et (E.ct rfl (Ew Z1 (Eas rfl rfl ?_)))))))))))))))))))))))))))))))))))))
     exact Eu (E.ret (E.thr (E.blr (E.thr (E.thr (E.blr (E.thr (Fb rfl rfl (by exact a0Y (q := (i8, d6)) om (a9F q43))))))))))
   ·refine Eu (Eq_ (E.cf rfl (E.exit (E.the (E.the (E.blh (Et (Ew Z1 (Eas rfl rfl ?_)))))))))
    exact Eu (E.ret (Fb rfl rfl (by exact a8z (q := (i8, d6)) q16 (by show (d7.length : Int) = d6.length; omega) (show ¬ g < d7.length by omega) om pa)))
 ·refine Ey rfl ((Y.not (b := false) rfl).yd) (Emv rfl rfl (Es rfl (Es rfl (Es rfl (Es rfl (Es rfl (Es rfl (Ey rfl ((Y.pkt rfl rfl).yd) (Eu (E.ct rfl (Ew Z1 (Eas rfl rfl ?_))))))))))))
  exact Eu (E.ret (E.thr (Fb rfl rfl (by exact a8l (q := (i8, d6)) q16))))
theorem a5q (hz : E0 (fun x => x.2.length) d6 ≤ 1048576) : Tr Tryz.prog 83 [.slice a_s m_s c_s, .slice a_l m_l c_l, .agg #[.slice o7 u7 o6, .slice o1 s5 o0], .slice a_steps m_steps c_steps] (fun w L => Ro w L eIs [.slice a_s m_s c_s] s ∧ Ro w L z8 [.slice a_l m_l c_l] l ∧ Ro w L eIs [.slice o7 u7 o6] i8 ∧ Ro w L C3 [.slice o1 s5 o0] d6 ∧ Ro w L K4 [.slice a_steps m_steps c_steps] d7) [] (κ := Unit) (fun k => True) (fun k => .bool (G1 s l (i8, d6) d7)) (fun k => []) := by
 refine Tr.intro Tryz.func83 rfl (n := 106) rfl (by decide +kernel) bl (fr := [(0, .slice a_s m_s c_s), (1, .slice a_l m_l c_l), (2, .agg #[.slice o7 u7 o6, .slice o1 s5 o0]), (3, .slice a_steps m_steps c_steps)]) rfl fun w L hR => ?_
 obtain ⟨hs, hl, x8, t8, hsteps⟩ := hR
 obtain ⟨rfl, ls⟩ := hs.slen
 obtain ⟨rfl, ll⟩ := hl.slen
 obtain ⟨rfl, P9⟩ := x8.slen
 obtain ⟨rfl, M9⟩ := t8.slen
 obtain ⟨rfl, lsteps⟩ := hsteps.slen
 refine Ew Z2 (Est rfl (N.box (cs := [_, _]) rfl dc rfl) (fun b6 _ => (Eas rfl rfl (Eu (Eq_ (Ew Z13 (Emv rfl rfl (Emv rfl rfl (Ey rfl (Y.ldS (cs := [_, _]) ty_Query rfl (Has.pt m0) rfl) (Est rfl (N.call0 (a6A fc) rfl rfl rfl dc (fun w Lp hA => ⟨hA.ro hs, hA.ro hl, hA.ro x8, hA.ro t8⟩)) (fun _ _ => (Ent.b (fun q15 => ?_) (fun q15 => ?_)))))))))))))
 ·have jq := a0u (s := s) (q := (i8, d6)) (Bool.and_eq_true_iff.1 q15).2
  have jq1 : d6.length ≤ 4 := jq.1
  have jl5 := (a0m (Bool.and_eq_true_iff.1 q15).1).2
  refine Ey rfl ((Y.not (b := true) rfl).yd) (Emv rfl rfl (Emv rfl rfl (Ey rfl ((Y.len us_Steps rfl).yd) (Ey rfl ((Y.fld fo_Query_1 ty_Atoms dc rfl).yd) (Ey rfl (Y.ld1 ty_Atoms rfl ((Has.pt m0).sub (cs' := [_]) 1 rfl) rfl) (Ey rfl ((Y.len us_Atoms rfl).yd) (Ey rfl ((Y.neq rfl rfl).yd) (Ent.d (fun q23 => ?_) (fun q23 => ?_)))))))))
  ·refine Ey rfl ((Y.pkf rfl rfl).yd) (Eu (E.ct rfl (Ew Z1 (Eas rfl rfl ?_))))
   exact Eu (E.ret (E.thr (Fb rfl rfl (by exact a8A (q := (i8, d6)) (by show ¬ (d7.length : Int) = d6.length; omega)))))
  ·refine Ey rfl ((Y.pkf rfl rfl).yd) (Eu (E.cf rfl (E.skipc (Et (Ew Z2 (Est rfl (N.bsl (pvs := []) (cs := []) us_Is f8 rfl dc dc (o8 rfl rfl) rfl dc) (fun b25 _ => (Ent.drop (Eas rfl rfl (Ev Z2 (Est rfl (N.bsl (pvs := []) (cs := []) us_Is f8 rfl dc dc (o8 rfl rfl) rfl dc) (fun b26 _ => (Ent.drop (Eas rfl rfl (Eu (Eq_ (Ew Z1 (Eas rfl rfl (Eu (E.block (Ent.mkow (A := []) (Own.nil (E := Enc.int) (e := tI) (a := (some ⟨b25, 0, none⟩))) rfl (Ent.cv (congrArg (ow eIs [_]) (show [] = stV d6 (d7.take 0) from by first | rfl | simp)) (Ent.mkow (A := []) (Own.nil (E := Enc.int) (e := tI) (a := (some ⟨b26, 0, none⟩))) rfl (Ent.cv (congrArg (ow eIs [_]) (show [] = (d7.take 0).map fun x => x.1 from by first | rfl | simp)) (E.loop (κ := Nat × Option Addr × Nat × Nat × Option Addr × Nat × Nat) (fun g => g.1 ≤ d7.length ∧ P4 l d6 d7 g.1 = true) (fun g => [(1, .slice a_l l.length c_l), (3, .slice a_steps d7.length c_steps), (6, .pointer (some ⟨b6, 0, none⟩)), (9, .slice g.2.1 g.2.2.1 g.2.2.2.1), (10, .slice g.2.2.2.2.1 g.2.2.2.2.2.1 g.2.2.2.2.2.2), (11, .int .i64 (↑g.1 : Int))]) (fun g => [ow eIs [.slice g.2.2.2.2.1 g.2.2.2.2.2.1 g.2.2.2.2.2.2] ((d7.take g.1).map fun x => x.1), ow eIs [.slice g.2.1 g.2.2.1 g.2.2.2.1] (stV d6 (d7.take g.1)), pt b6 61 [.slice o7 i8.length o6, .slice o1 d6.length o0]]) (fun g => d7.length - g.1) (0, (some ⟨b25, 0, none⟩), 0, 0, (some ⟨b26, 0, none⟩), 0, 0) ⟨Nat.zero_le _, rfl⟩ ⟨rfl, rfl, rfl, rfl, rfl, rfl, trivial⟩ (.refl _) (fun g pg => ?_))))))))))))))))))))))))))
   obtain ⟨g, aA0_0, mA0_0, cA0_0, aA0_1, mA0_1, cA0_1⟩ := g
   try dsimp only at pg
   try dsimp only
   obtain ⟨pk, pa⟩ := pg
   have jb := a8y (i9 := d6) (T := (d7.take g)) jq.2.2
   have jv := a8n (i9 := d6) (T := (d7.take g)) jq.2.2
   have jd := a3o (n := d6.length) (T := (d7.take g))
   have jt := List.length_take_le g d7
   have jo := a2Y pa om
   have ju : ((d7.take g).map fun x => x.1).length = (d7.take g).length := List.length_map ..
   refine Ent.lenow (mS m0) fun eaA0_0 laA0_0 => ?_
   subst eaA0_0
   refine Ent.lenow m0 fun eaA0_1 laA0_1 => ?_
   subst eaA0_1
   refine Eq_ (Ew Z4 (Emv rfl rfl (Emv rfl rfl (Ey rfl ((Y.len us_Steps rfl).yd) (Ey rfl ((Y.lss rfl rfl).yd) (Ent.d (fun q30 => ?_) (fun q30 => ?_)))))))
   ·refine Eu (E.ct rfl (E.skipc (Et (Eq_ (E.block (Eq_ (Eq_ (D.region (fun j => true) mixed (Dyp 0 rfl (Y.mv rfl) (Dyp 1 rfl (Y.mv rfl) ?_))))))))))
    obtain ⟨eb35, eo35, ec35, ea35, er35, el35, eh35⟩ := hsteps.elem g om
    obtain ⟨rfl, ei35_0, ei35_1⟩ := Ro.pStep er35
    refine Dyp 2 rfl (Y.ix us_Steps ty_Step rfl ea35 rfl g rfl om) (Dyp 3 rfl (Y.fld fo_Step_0 f8 dc rfl) (Dy 4 rfl (Y.ld1 f8 rfl ((eh35 _).sub (cs' := [_]) 0 rfl) rfl) (Dyp 5 rfl (Y.fld fo_Query_1 ty_Atoms dc rfl) (Dy 6 rfl (Y.ld1 ty_Atoms rfl ((Has.pt (mS (mS m0))).sub (cs' := [_]) 1 rfl) rfl) (Dyp 7 rfl (Y.len us_Atoms rfl) (Dyp 8 rfl (Y.sub rfl rfl om om) (D.st 9 rfl rfl kr (fun _ => rfl) (N.call0 D4 rfl rfl rfl dc (fun w Lp hA => trivial)) (fun _ _ => (Ent.b (fun q42 => ?_) (fun q42 => ?_))))))))))
    ·have j43 := O1 q42
     refine Dyp 10 rfl (Y.not (b := true) rfl) (Dyp 11 rfl (Y.mv rfl) (Dyp 12 rfl (Y.mv rfl) (Dyp 13 rfl (Y.mv rfl) (Dyp 14 rfl (Y.mv rfl) (Dyp 15 rfl (Y.ix us_Steps ty_Step rfl ea35 rfl g rfl om) (Dyp 16 rfl (Y.fld fo_Step_0 f8 dc rfl) (Dy 17 rfl (Y.ld1 f8 rfl ((eh35 _).sub (cs' := [_]) 0 rfl) rfl) (D.st 18 rfl rfl kr (fun _ => rfl) (N.call0 a0D rfl rfl rfl dc (fun w Lp hA => hA.ow m0)) (fun _ _ => (Ent.b (fun q51 => ?_) (fun q51 => ?_)))))))))))
     ·have q51b : stU (d7.take g) d7[g].1 = true := by rw [← a8t]; exact q51
      refine Dyp 19 rfl (Y.pkf rfl rfl) (Dyp 20 rfl (Y.mv rfl) (Dsk 21 rfl (Dsk 22 rfl (Dsk 23 rfl (Dsk 24 rfl (Dsk 25 rfl (Dsk 26 rfl (Dsk 27 rfl (Dsk 28 rfl (Dsk 29 rfl (Dsk 30 rfl (Dyp 31 rfl (Y.pkt rfl rfl) (Dyp 32 rfl (Y.mv rfl) (Dsk 33 rfl (Dsk 34 rfl (Dsk 35 rfl (Dsk 36 rfl (Dsk 37 rfl (Dsk 38 rfl (Dsk 39 rfl (Dsk 40 rfl (Dsk 41 rfl (Dsk 42 rfl (Dsk 43 rfl (Dsk 44 rfl (Dsk 45 rfl (Dsk 46 rfl (Dsk 47 rfl (Dsk 48 rfl (Dsk 49 rfl (Dsk 50 rfl (Dsk 51 rfl (Dsk 52 rfl (Dyp 53 rfl (Y.pkt rfl rfl) (D.done kr (Et (E.ct rfl (Ew Z1 (Eas rfl rfl ?_)))))))))))))))))))))))))))))))))))))))
      exact Eu (E.ret (E.thr (E.blr (E.thr (E.thr (E.blr (E.thr (Fb rfl rfl (by exact a0Y (q := (i8, d6)) om (a9c q51b))))))))))
     ·have q51b : stU (d7.take g) d7[g].1 = false := by rw [← a8t]; exact q51
      refine Dyp 19 rfl (Y.pkf rfl rfl) (Dyp 20 rfl (Y.mv rfl) (Dyp 21 rfl (Y.mv rfl) (Dyp 22 rfl (Y.mv rfl) (Dyp 23 rfl (Y.ix us_Steps ty_Step rfl ea35 rfl g rfl om) (Dyp 24 rfl (Y.fld fo_Step_1 f8 dc rfl) (Dy 25 rfl (Y.ld1 f8 rfl ((eh35 _).sub (cs' := [_]) 1 rfl) rfl) (Dyp 26 rfl (Y.mv rfl) (Dyp 27 rfl (Y.len us_Methods rfl) (Dyp 28 rfl (Y.sub rfl rfl om om) (D.st 29 rfl rfl kr (fun _ => rfl) (N.call0 D4 rfl rfl rfl dc (fun w Lp hA => trivial)) (fun _ _ => (Ent.b (fun q62 => ?_) (fun q62 => ?_)))))))))))))
      ·have j58 := O1 q62
       refine Dyp 30 rfl (Y.not (b := true) rfl) (Dyp 31 rfl (Y.pkf rfl rfl) (Dyp 32 rfl (Y.mv rfl) (Dyp 33 rfl (Y.mv rfl) (Dyp 34 rfl (Y.mv rfl) (Dyp 35 rfl (Y.mv rfl) (Dyp 36 rfl (Y.ix us_Steps ty_Step rfl ea35 rfl g rfl om) (Dyp 37 rfl (Y.fld fo_Step_1 f8 dc rfl) (Dy 38 rfl (Y.ld1 f8 rfl ((eh35 _).sub (cs' := [_]) 1 rfl) rfl) ?_))))))))
       obtain ⟨eb72, eo72, ec72, ea72, er72, el72, eh72⟩ := hl.elem d7[g].2.toNat om
       obtain ⟨xa72_0, xc72_0, rfl, ei72_0, xh72_0, ei72_2, ei72_3, ei72_4⟩ := Ro.pMethod er72
       have := xh72_0.slen.2
       refine Dyp 39 rfl (Y.ix us_Methods ty_Method rfl ea72 rfl d7[g].2.toNat om om) (Dy 40 rfl (Y.ldS (cs := [_, _, _, _, _]) ty_Method rfl (eh72 _) rfl) (Dyp 41 rfl (Y.fld fo_Query_1 ty_Atoms dc rfl) (Dy 42 rfl (Y.ld1 ty_Atoms rfl ((Has.pt (mS (mS m0))).sub (cs' := [_]) 1 rfl) rfl) (Dyp 43 rfl (Y.mv rfl) (Dyp 44 rfl (Y.mv rfl) (Dyp 45 rfl (Y.ix us_Steps ty_Step rfl ea35 rfl g rfl om) (Dyp 46 rfl (Y.fld fo_Step_0 f8 dc rfl) (Dy 47 rfl (Y.ld1 f8 rfl ((eh35 _).sub (cs' := [_]) 0 rfl) rfl) ?_))))))))
       obtain ⟨eb81, eo81, ec81, ea81, er81, el81, eh81⟩ := t8.elem d7[g].1.toNat om
       obtain ⟨xa81_0, xc81_0, rfl, ei81_0, xh81_0⟩ := Ro.pAtom er81
       have := xh81_0.slen.2
       refine Dyp 48 rfl (Y.ix us_Atoms ty_Atom rfl ea81 rfl d7[g].1.toNat om om) (Dy 49 rfl (Y.ldS (cs := [_, _]) ty_Atom rfl (eh81 _) rfl) (Dyp 50 rfl (Y.mv rfl) (D.st 51 rfl rfl kr (fun _ => rfl) (N.call0 a5E rfl rfl rfl dc (fun w Lp hA => ⟨ei72_0, hA.ro xh72_0, ei72_2, ei72_3, ei72_4, ei81_0, hA.ro xh81_0, hA.ow (mS m0)⟩)) (fun _ _ => (Ent.b (fun q84 => ?_) (fun q84 => ?_))))))
       ·have q84b : S9 (l.getD d7[g].2.toNat (0, [], 0, 0, 0)) (atA d6 d7[g].1) (stB d6 (d7.take g)) = true := by rw [F5 (show d7[g].2.toNat < l.length by omega), V8 (show d7[g].1.toNat < d6.length by omega), ← b0E]; exact q84
        have jt3 := jq.2.2 _ (List.getElem_mem (show d7[g].1.toNat < d6.length by omega))
        refine Dyp 52 rfl (Y.not (b := true) rfl) (Dyp 53 rfl (Y.pkf rfl rfl) (D.done kr (Et (E.cf rfl (E.skipc (Et (Ew Z9 (Emv rfl rfl (Emv rfl rfl (Emv rfl rfl (Ey rfl ((Y.ix us_Steps ty_Step rfl ea35 rfl g rfl om).yd) (Ey rfl ((Y.fld fo_Step_0 f8 dc rfl).yd) (Ey rfl (Y.ld1 f8 rfl ((eh35 _).sub (cs' := [_]) 0 rfl) rfl) (Est rfl (N.bsl (pvs := [_]) (cs := [_]) us_Is f8 rfl dc dc (o8 rfl rfl) rfl dc) (fun b93 _ => (Ent.p1 (Est rfl (N.push (E := Enc.int) (ex := d7[g].1) us_Is f8 rfl rfl rfl (Own.int ei35_0) rfl bn bn dc) (fun p94 _ => (Eas rfl rfl (Eu (D.region (fun j => true) mixed (Dyp 0 rfl (Y.mv rfl) (Dyp 1 rfl (Y.fld fo_Query_1 ty_Atoms dc rfl) (Dy 2 rfl (Y.ld1 ty_Atoms rfl ((Has.pt (mS (mS m0))).sub (cs' := [_]) 1 rfl) rfl) (Dyp 3 rfl (Y.mv rfl) (Dyp 4 rfl (Y.mv rfl) (Dyp 5 rfl (Y.ix us_Steps ty_Step rfl ea35 rfl g rfl om) (Dyp 6 rfl (Y.fld fo_Step_0 f8 dc rfl) (Dy 7 rfl (Y.ld1 f8 rfl ((eh35 _).sub (cs' := [_]) 0 rfl) rfl) (Dyp 8 rfl (Y.ix us_Atoms ty_Atom rfl ea81 rfl d7[g].1.toNat om om) (Dy 9 rfl (Y.ldS (cs := [_, _]) ty_Atom rfl (eh81 _) rfl) (D.st 10 rfl rfl kr (fun _ => rfl) (N.call (a6K fc fc) rfl rfl rfl dc rfl (fun w Lp hA => ⟨hA.ow (mS m0), ei81_0, hA.ro xh81_0⟩)) (fun k105 _ => ?_)))))))))))))))))))))))))))))))))
        obtain ⟨a105, m105, c105⟩ := k105
        refine Ent.lenow m0 fun e105 l105 => ?_
        subst e105
        refine Dyp 11 rfl (Y.as rfl) (D.done kr (E.bln (Et (Ez Z3 (Emv rfl rfl (Ey rfl ((Y.add rfl rfl om om).yd) (Eas rfl rfl (Eu (Ent.p2 (Ent.drop (Ent.cv (congrArg (ow eIs [_]) (show a0K (stV d6 (d7.take g)) ((d6[d7[g].1.toNat].1), (d6[d7[g].1.toNat].2)) = stV d6 (d7.take (g + 1)) from by first | exact a7M om | (have e := a7N (i9 := d6) (d7 := d7) (g := g) om; rw [V8 (show d7[g].1.toNat < d6.length by omega)] at e; exact e))) (Ent.p1 (Ent.cv (congrArg (ow eIs [_]) (show ((d7.take g).map fun x => x.1) ++ [d7[g].1] = (d7.take (g + 1)).map fun x => x.1 from by first | exact a7M om | (have e := a7N (i9 := d6) (d7 := d7) (g := g) om; rw [V8 (show d7[g].1.toNat < d6.length by omega)] at e; exact e))) (Ent.p2 (Ent.p2 (Ent.p2 ?_))))))))))))))))
        exact Ea (g + 1, a105, (a0K (stV d6 (d7.take g)) ((d6[d7[g].1.toNat].1), (d6[d7[g].1.toNat].2))).length, c105, p94.1, (((d7.take g).map fun x => x.1).length + 1), p94.2) ⟨oz, (show P4 l d6 d7 (g + 1) = true from by exact a7Y om pa (a9j q42 q51b q62 q84b))⟩
       ·have q84b : S9 (l.getD d7[g].2.toNat (0, [], 0, 0, 0)) (atA d6 d7[g].1) (stB d6 (d7.take g)) = false := by rw [F5 (show d7[g].2.toNat < l.length by omega), V8 (show d7[g].1.toNat < d6.length by omega), ← b0E]; exact q84
        refine Dyp 52 rfl (Y.not (b := false) rfl) (Dyp 53 rfl (Y.pkf rfl rfl) (D.done kr (Et (E.ct rfl (Ew Z1 (Eas rfl rfl ?_))))))
        exact Eu (E.ret (E.thr (E.blr (E.thr (E.thr (E.blr (E.thr (Fb rfl rfl (by exact a0Y (q := (i8, d6)) om (a9G q84b))))))))))
      ·refine Dyp 30 rfl (Y.not (b := false) rfl) (Dyp 31 rfl (Y.pkf rfl rfl) (Dyp 32 rfl (Y.mv rfl) (Dsk 33 rfl (Dsk 34 rfl (Dsk 35 rfl (Dsk 36 rfl (Dsk 37 rfl (Dsk 38 rfl (Dsk 39 rfl (Dsk 40 rfl (Dsk 41 rfl (Dsk 42 rfl (Dsk 43 rfl (Dsk 44 rfl (Dsk 45 rfl (Dsk 46 rfl (Dsk 47 rfl (Dsk 48 rfl (Dsk 49 rfl (Dsk 50 rfl (Dsk 51 rfl (Dsk 52 rfl (Dyp 53 rfl (Y.pkt rfl rfl) (D.done kr (Et (E.ct rfl (Ew Z1 (Eas rfl rfl ?_))))))))))))))))))))))))))))
       exact Eu (E.ret (E.thr (E.blr (E.thr (E.thr (E.blr (E.thr (Fb rfl rfl (by exact a0Y (q := (i8, d6)) om (a9r q62))))))))))
    ·refine Dyp 10 rfl (Y.not (b := false) rfl) (Dyp 11 rfl (Y.mv rfl) (Dsk 12 rfl (Dsk 13 rfl (Dsk 14 rfl (Dsk 15 rfl (Dsk 16 rfl (Dsk 17 rfl (Dsk 18 rfl (Dyp 19 rfl (Y.pkt rfl rfl) (Dyp 20 rfl (Y.mv rfl) (Dsk 21 rfl (Dsk 22 rfl (Dsk 23 rfl (Dsk 24 rfl (Dsk 25 rfl (Dsk 26 rfl (Dsk 27 rfl (Dsk 28 rfl (Dsk 29 rfl (Dsk 30 rfl (Dyp 31 rfl (Y.pkt rfl rfl) (Dyp 32 rfl (Y.mv rfl) (Dsk 33 rfl (Dsk 34 rfl (Dsk 35 rfl (Dsk 36 rfl (Dsk 37 rfl (Dsk 38 rfl (Dsk 39 rfl (Dsk 40 rfl (Dsk 41 rfl (Dsk 42 rfl (Dsk 43 rfl (Dsk 44 rfl (Dsk 45 rfl (Dsk 46 rfl (Dsk 47 rfl (Dsk 48 rfl (Dsk 49 rfl (Dsk 50 rfl ?_))))))))))))))))))))))))))))))))))))))))
     refine Dsk 51 rfl (Dsk 52 rfl (Dyp 53 rfl (Y.pkt rfl rfl) (D.done kr (Et (E.ct rfl (Ew Z1 (Eas rfl rfl ?_)))))))
     exact Eu (E.ret (E.thr (E.blr (E.thr (E.thr (E.blr (E.thr (Fb rfl rfl (by exact a0Y (q := (i8, d6)) om (a9F q42))))))))))
   ·refine Eu (E.cf rfl (E.exit (E.the (E.the (E.blh (Et (Ew Z1 (Eas rfl rfl ?_))))))))
    exact Eu (E.ret (Fb rfl rfl (by exact a8z (q := (i8, d6)) q15 (by show (d7.length : Int) = d6.length; omega) (show ¬ g < d7.length by omega) om pa)))
 ·refine Ey rfl ((Y.not (b := false) rfl).yd) (Emv rfl rfl (Es rfl (Es rfl (Es rfl (Es rfl (Es rfl (Es rfl (Ey rfl ((Y.pkt rfl rfl).yd) (Eu (E.ct rfl (Ew Z1 (Eas rfl rfl ?_))))))))))))
  exact Eu (E.ret (E.thr (Fb rfl rfl (by exact a8l (q := (i8, d6)) q15))))
end Go.Proofs.YtdopeopehgdccaaGreat
