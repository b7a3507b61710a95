import Derived.Test.YtdopeopehgdccaaGreatBs
import Derived.Test.YtdopeopehgdccaaGreatT71
import Derived.Test.YtdopeopehgdccaaGreatEx
namespace Go.Proofs.YtdopeopehgdccaaGreat
open Go.RowKit
set_option linter.all false
set_option maxHeartbeats 2000000
attribute [local irreducible] Nop Yd Yp Ent Has Tr FnP FnP2 Src K9 U8 W3 X6 E0
theorem a7Y {a_s : Option Addr} {m_s c_s : Nat} {s : List Int} {a_l : Option Addr} {m_l c_l : Nat} {l : List (Int × List Int × Int × Int × Int)} {l2 : Option Addr} {o1 l0 : Nat} {d9 : List Int} {j8 : Option Addr} {n9 j7 : Nat} {d4 : List (Int × List Int)} {a_steps : Option Addr} {m_steps c_steps : Nat} {d6 : List (Int × Int)} (hz : C8 (fun x => x.2.length) d4 ≤ 1048576) : Tr Tryz.prog 83 [.slice a_s m_s c_s, .slice a_l m_l c_l, .agg #[.slice l2 o1 l0, .slice j8 n9 j7], .slice a_steps m_steps c_steps] (fun w L => Ro w L eIs [.slice a_s m_s c_s] s ∧ Ro w L x9 [.slice a_l m_l c_l] l ∧ Ro w L eIs [.slice l2 o1 l0] d9 ∧ Ro w L s3 [.slice j8 n9 j7] d4 ∧ Ro w L I8 [.slice a_steps m_steps c_steps] d6) [] (κ := Unit) (fun k => True) (fun k => .bool (G7 s l (d9, d4) d6)) (fun k => []) := by
 refine Tr.intro Tryz.func83 rfl (n := 106) rfl (by decide +kernel) bl (fr := [(0, .slice a_s m_s c_s), (1, .slice a_l m_l c_l), (2, .agg #[.slice l2 o1 l0, .slice j8 n9 j7]), (3, .slice a_steps m_steps c_steps)]) rfl fun w L hR => ?_
 obtain ⟨hs, hl, o3, n8, hsteps⟩ := hR
 obtain ⟨rfl, ls⟩ := hs.slen
 obtain ⟨rfl, ll⟩ := hl.slen
 obtain ⟨rfl, E9⟩ := o3.slen
 obtain ⟨rfl, D1⟩ := n8.slen
 obtain ⟨rfl, lsteps⟩ := hsteps.slen
 refine Ew Z2 (Est rfl (N.box (cs := [_, _]) rfl dc rfl) (fun b6 _ => (Eas rfl rfl (Eu (Eq_ (Ew Z13 (Emv rfl rfl (Emv rfl rfl (Ey rfl (Y.ldS (cs := [_, _]) ty_Query rfl (Has.pt m0) rfl) (Est rfl (N.call0 (a2t fc) rfl rfl rfl dc (fun w Lp hA => ⟨hA.ro hs, hA.ro hl, hA.ro o3, hA.ro n8⟩)) (fun _ _ => (Ent.b (fun q15 => ?_) (fun q15 => ?_)))))))))))))
 ·have jq := C1 (s := s) (q := (d9, d4)) (Bool.and_eq_true_iff.1 q15).2
  have jq1 : d4.length ≤ 4 := jq.1
  have jl5 := (R8 (Bool.and_eq_true_iff.1 q15).1).2
  refine Ey rfl ((Y.not (b := true) rfl).yd) (Emv rfl rfl (Emv rfl rfl (Ey rfl ((Y.len us_Steps rfl).yd) (Ey rfl ((Y.fld fo_Query_1 ty_Atoms dc rfl).yd) (Ey rfl (Y.ld1 ty_Atoms rfl ((Has.pt m0).sub (cs' := [_]) 1 rfl) rfl) (Ey rfl ((Y.len us_Atoms rfl).yd) (Ey rfl ((Y.neq rfl rfl).yd) (Ent.d (fun q23 => ?_) (fun q23 => ?_)))))))))
  ·refine Ey rfl ((Y.pkf rfl rfl).yd) (Eu (E.ct rfl (Ew Z1 (Eas rfl rfl ?_))))
   exact Eu (E.ret (E.thr (Fb rfl rfl (by exact b4u (q := (d9, d4)) (by show ¬ (d6.length : Int) = d4.length; omega)))))
  ·refine Ey rfl ((Y.pkf rfl rfl).yd) (Eu (E.cf rfl (E.skipc (Et (Ew Z2 (Est rfl (N.bsl (pvs := []) (cs := []) us_Is f8 rfl dc dc (o6 rfl rfl) rfl dc) (fun b25 _ => (Ent.drop (Eas rfl rfl (Ev Z2 (Est rfl (N.bsl (pvs := []) (cs := []) us_Is f8 rfl dc dc (o6 rfl rfl) rfl dc) (fun b26 _ => (Ent.drop (Eas rfl rfl (Eu (Eq_ (Ew Z1 (Eas rfl rfl (Eu (E.block (Ent.mkow (A := []) (Own.nil (E := Enc.int) (e := tI) (a := (some ⟨b25, 0, none⟩))) rfl (Ent.cv (congrArg (ow eIs [_]) (show [] = stV d4 (d6.take 0) from by first | rfl | simp)) (Ent.mkow (A := []) (Own.nil (E := Enc.int) (e := tI) (a := (some ⟨b26, 0, none⟩))) rfl (Ent.cv (congrArg (ow eIs [_]) (show [] = (d6.take 0).map fun x => x.1 from by first | rfl | simp)) (E.loop (κ := Nat × Option Addr × Nat × Nat × Option Addr × Nat × Nat) (fun g => g.1 ≤ d6.length ∧ N7 l d4 d6 g.1 = true) (fun g => [(1, .slice a_l l.length c_l), (3, .slice a_steps d6.length c_steps), (6, .pointer (some ⟨b6, 0, none⟩)), (9, .slice g.2.1 g.2.2.1 g.2.2.2.1), (10, .slice g.2.2.2.2.1 g.2.2.2.2.2.1 g.2.2.2.2.2.2), (11, .int .i64 (↑g.1 : Int))]) (fun g => [ow eIs [.slice g.2.2.2.2.1 g.2.2.2.2.2.1 g.2.2.2.2.2.2] ((d6.take g.1).map fun x => x.1), ow eIs [.slice g.2.1 g.2.2.1 g.2.2.2.1] (stV d4 (d6.take g.1)), pt b6 61 [.slice l2 d9.length l0, .slice j8 d4.length j7]]) (fun g => d6.length - g.1) (0, (some ⟨b25, 0, none⟩), 0, 0, (some ⟨b26, 0, none⟩), 0, 0) ⟨Nat.zero_le _, rfl⟩ ⟨rfl, rfl, rfl, rfl, rfl, rfl, trivial⟩ (.refl _) (fun g pg => ?_))))))))))))))))))))))))))
   obtain ⟨g, aA0_0, mA0_0, cA0_0, aA0_1, mA0_1, cA0_1⟩ := g
   try dsimp only at pg
   try dsimp only
   obtain ⟨pk, pa⟩ := pg
   have jb := b4D (d7 := d4) (T := (d6.take g)) jq.2.2
   have jv := b4I (d7 := d4) (T := (d6.take g)) jq.2.2
   have jd := b4k (n := d4.length) (T := (d6.take g))
   have jt := List.length_take_le g d6
   have jo := a6O pa om
   have ju : ((d6.take g).map fun x => x.1).length = (d6.take g).length := List.length_map ..
   refine Ent.lenow (mS m0) fun eaA0_0 laA0_0 => ?_
   subst eaA0_0
   refine Ent.lenow m0 fun eaA0_1 laA0_1 => ?_
   subst eaA0_1
   refine Eq_ (Ew Z4 (Emv rfl rfl (Emv rfl rfl (Ey rfl ((Y.len us_Steps rfl).yd) (Ey rfl ((Y.lss rfl rfl).yd) (Ent.d (fun q30 => ?_) (fun q30 => ?_)))))))
   ·refine Eu (E.ct rfl (E.skipc (Et (Eq_ (E.block (Eq_ (Eq_ (D.region (fun j => true) mixed (Dyp 0 rfl (Y.mv rfl) (Dyp 1 rfl (Y.mv rfl) ?_))))))))))
    obtain ⟨eb35, eo35, ec35, ea35, er35, el35, eh35⟩ := hsteps.elem g om
    obtain ⟨rfl, ei35_0, ei35_1⟩ := Ro.pStep er35
    refine Dyp 2 rfl (Y.ix us_Steps ty_Step rfl ea35 rfl g rfl om) (Dyp 3 rfl (Y.fld fo_Step_0 f8 dc rfl) (Dy 4 rfl (Y.ld1 f8 rfl ((eh35 _).sub (cs' := [_]) 0 rfl) rfl) (Dyp 5 rfl (Y.fld fo_Query_1 ty_Atoms dc rfl) (Dy 6 rfl (Y.ld1 ty_Atoms rfl ((Has.pt (mS (mS m0))).sub (cs' := [_]) 1 rfl) rfl) (Dyp 7 rfl (Y.len us_Atoms rfl) (Dyp 8 rfl (Y.sub rfl rfl om om) (D.st 9 rfl rfl kr (fun _ => rfl) (N.call0 E7 rfl rfl rfl dc (fun w Lp hA => trivial)) (fun _ _ => (Ent.b (fun q42 => ?_) (fun q42 => ?_))))))))))
    ·have j43 := S5 q42
     refine Dyp 10 rfl (Y.not (b := true) rfl) (Dyp 11 rfl (Y.mv rfl) (Dyp 12 rfl (Y.mv rfl) (Dyp 13 rfl (Y.mv rfl) (Dyp 14 rfl (Y.mv rfl) (Dyp 15 rfl (Y.ix us_Steps ty_Step rfl ea35 rfl g rfl om) (Dyp 16 rfl (Y.fld fo_Step_0 f8 dc rfl) (Dy 17 rfl (Y.ld1 f8 rfl ((eh35 _).sub (cs' := [_]) 0 rfl) rfl) (D.st 18 rfl rfl kr (fun _ => rfl) (N.call0 Y1 rfl rfl rfl dc (fun w Lp hA => hA.ow m0)) (fun _ _ => (Ent.b (fun q51 => ?_) (fun q51 => ?_)))))))))))
     ·have q51b : stU (d6.take g) d6[g].1 = true := by rw [← b1x]; exact q51
      refine Dyp 19 rfl (Y.pkf rfl rfl) (Dyp 20 rfl (Y.mv rfl) (Dsk 21 rfl (Dsk 22 rfl (Dsk 23 rfl (Dsk 24 rfl (Dsk 25 rfl (Dsk 26 rfl (Dsk 27 rfl (Dsk 28 rfl (Dsk 29 rfl (Dsk 30 rfl (Dyp 31 rfl (Y.pkt rfl rfl) (Dyp 32 rfl (Y.mv rfl) (Dsk 33 rfl (Dsk 34 rfl (Dsk 35 rfl (Dsk 36 rfl (Dsk 37 rfl (Dsk 38 rfl (Dsk 39 rfl (Dsk 40 rfl (Dsk 41 rfl (Dsk 42 rfl (Dsk 43 rfl (Dsk 44 rfl (Dsk 45 rfl (Dsk 46 rfl (Dsk 47 rfl (Dsk 48 rfl (Dsk 49 rfl (Dsk 50 rfl (Dsk 51 rfl (Dsk 52 rfl (Dyp 53 rfl (Y.pkt rfl rfl) (D.done kr (Et (E.ct rfl (Ew Z1 (Eas rfl rfl ?_)))))))))))))))))))))))))))))))))))))))
      exact Eu (E.ret (E.thr (E.blr (E.thr (E.thr (E.blr (E.thr (Fb rfl rfl (by exact a7g (q := (d9, d4)) om (b5p q51b))))))))))
     ·have q51b : stU (d6.take g) d6[g].1 = false := by rw [← b1x]; exact q51
      refine Dyp 19 rfl (Y.pkf rfl rfl) (Dyp 20 rfl (Y.mv rfl) (Dyp 21 rfl (Y.mv rfl) (Dyp 22 rfl (Y.mv rfl) (Dyp 23 rfl (Y.ix us_Steps ty_Step rfl ea35 rfl g rfl om) (Dyp 24 rfl (Y.fld fo_Step_1 f8 dc rfl) (Dy 25 rfl (Y.ld1 f8 rfl ((eh35 _).sub (cs' := [_]) 1 rfl) rfl) (Dyp 26 rfl (Y.mv rfl) (Dyp 27 rfl (Y.len us_Methods rfl) (Dyp 28 rfl (Y.sub rfl rfl om om) (D.st 29 rfl rfl kr (fun _ => rfl) (N.call0 E7 rfl rfl rfl dc (fun w Lp hA => trivial)) (fun _ _ => (Ent.b (fun q62 => ?_) (fun q62 => ?_)))))))))))))
      ·have j58 := S5 q62
       refine Dyp 30 rfl (Y.not (b := true) rfl) (Dyp 31 rfl (Y.pkf rfl rfl) (Dyp 32 rfl (Y.mv rfl) (Dyp 33 rfl (Y.mv rfl) (Dyp 34 rfl (Y.mv rfl) (Dyp 35 rfl (Y.mv rfl) (Dyp 36 rfl (Y.ix us_Steps ty_Step rfl ea35 rfl g rfl om) (Dyp 37 rfl (Y.fld fo_Step_1 f8 dc rfl) (Dy 38 rfl (Y.ld1 f8 rfl ((eh35 _).sub (cs' := [_]) 1 rfl) rfl) ?_))))))))
       obtain ⟨eb72, eo72, ec72, ea72, er72, el72, eh72⟩ := hl.elem d6[g].2.toNat om
       obtain ⟨xa72_0, xc72_0, rfl, ei72_0, xh72_0, ei72_2, ei72_3, ei72_4⟩ := Ro.pMethod er72
       have := xh72_0.slen.2
       refine Dyp 39 rfl (Y.ix us_Methods ty_Method rfl ea72 rfl d6[g].2.toNat om om) (Dy 40 rfl (Y.ldS (cs := [_, _, _, _, _]) ty_Method rfl (eh72 _) rfl) (Dyp 41 rfl (Y.fld fo_Query_1 ty_Atoms dc rfl) (Dy 42 rfl (Y.ld1 ty_Atoms rfl ((Has.pt (mS (mS m0))).sub (cs' := [_]) 1 rfl) rfl) (Dyp 43 rfl (Y.mv rfl) (Dyp 44 rfl (Y.mv rfl) (Dyp 45 rfl (Y.ix us_Steps ty_Step rfl ea35 rfl g rfl om) (Dyp 46 rfl (Y.fld fo_Step_0 f8 dc rfl) (Dy 47 rfl (Y.ld1 f8 rfl ((eh35 _).sub (cs' := [_]) 0 rfl) rfl) ?_))))))))
       obtain ⟨eb81, eo81, ec81, ea81, er81, el81, eh81⟩ := n8.elem d6[g].1.toNat om
       obtain ⟨xa81_0, xc81_0, rfl, ei81_0, xh81_0⟩ := Ro.pAtom er81
       have := xh81_0.slen.2
       refine Dyp 48 rfl (Y.ix us_Atoms ty_Atom rfl ea81 rfl d6[g].1.toNat om om) (Dy 49 rfl (Y.ldS (cs := [_, _]) ty_Atom rfl (eh81 _) rfl) (Dyp 50 rfl (Y.mv rfl) (D.st 51 rfl rfl kr (fun _ => rfl) (N.call0 a3w rfl rfl rfl dc (fun w Lp hA => ⟨ei72_0, hA.ro xh72_0, ei72_2, ei72_3, ei72_4, ei81_0, hA.ro xh81_0, hA.ow (mS m0)⟩)) (fun _ _ => (Ent.b (fun q84 => ?_) (fun q84 => ?_))))))
       ·have q84b : F7 (l.getD d6[g].2.toNat (0, [], 0, 0, 0)) (atA d4 d6[g].1) (stB d4 (d6.take g)) = true := by rw [F6 (show d6[g].2.toNat < l.length by omega), a1U (show d6[g].1.toNat < d4.length by omega), ← b3Q]; exact q84
        have jt3 := jq.2.2 _ (List.getElem_mem (show d6[g].1.toNat < d4.length by omega))
        refine Dyp 52 rfl (Y.not (b := true) rfl) (Dyp 53 rfl (Y.pkf rfl rfl) (D.done kr (Et (E.cf rfl (E.skipc (Et (Ew Z9 (Emv rfl rfl (Emv rfl rfl (Emv rfl rfl (Ey rfl ((Y.ix us_Steps ty_Step rfl ea35 rfl g rfl om).yd) (Ey rfl ((Y.fld fo_Step_0 f8 dc rfl).yd) (Ey rfl (Y.ld1 f8 rfl ((eh35 _).sub (cs' := [_]) 0 rfl) rfl) (Est rfl (N.bsl (pvs := [_]) (cs := [_]) us_Is f8 rfl dc dc (o6 rfl rfl) rfl dc) (fun b93 _ => (Ent.p1 (Est rfl (N.push (E := Enc.int) (ex := d6[g].1) us_Is f8 rfl rfl rfl (Own.int ei35_0) rfl bn bn dc) (fun p94 _ => (Eas rfl rfl (Eu (D.region (fun j => true) mixed (Dyp 0 rfl (Y.mv rfl) (Dyp 1 rfl (Y.fld fo_Query_1 ty_Atoms dc rfl) (Dy 2 rfl (Y.ld1 ty_Atoms rfl ((Has.pt (mS (mS m0))).sub (cs' := [_]) 1 rfl) rfl) (Dyp 3 rfl (Y.mv rfl) (Dyp 4 rfl (Y.mv rfl) (Dyp 5 rfl (Y.ix us_Steps ty_Step rfl ea35 rfl g rfl om) (Dyp 6 rfl (Y.fld fo_Step_0 f8 dc rfl) (Dy 7 rfl (Y.ld1 f8 rfl ((eh35 _).sub (cs' := [_]) 0 rfl) rfl) (Dyp 8 rfl (Y.ix us_Atoms ty_Atom rfl ea81 rfl d6[g].1.toNat om om) (Dy 9 rfl (Y.ldS (cs := [_, _]) ty_Atom rfl (eh81 _) rfl) (D.st 10 rfl rfl kr (fun _ => rfl) (N.call (a4y fc fc) rfl rfl rfl dc rfl (fun w Lp hA => ⟨hA.ow (mS m0), ei81_0, hA.ro xh81_0⟩)) (fun k105 _ => ?_)))))))))))))))))))))))))))))))))
        obtain ⟨a105, m105, c105⟩ := k105
        refine Ent.lenow m0 fun e105 l105 => ?_
        subst e105
        refine Dyp 11 rfl (Y.as rfl) (D.done kr (E.bln (Et (Ez Z3 (Emv rfl rfl (Ey rfl ((Y.add rfl rfl om om).yd) (Eas rfl rfl (Eu (Ent.p2 (Ent.drop (Ent.cv (congrArg (ow eIs [_]) (show a0e (stV d4 (d6.take g)) ((d4[d6[g].1.toNat].1), (d4[d6[g].1.toNat].2)) = stV d4 (d6.take (g + 1)) from by first | exact a9z om | (have e := b0F (d7 := d4) (d6 := d6) (g := g) om; rw [a1U (show d6[g].1.toNat < d4.length by omega)] at e; exact e))) (Ent.p1 (Ent.cv (congrArg (ow eIs [_]) (show ((d6.take g).map fun x => x.1) ++ [d6[g].1] = (d6.take (g + 1)).map fun x => x.1 from by first | exact a9z om | (have e := b0F (d7 := d4) (d6 := d6) (g := g) om; rw [a1U (show d6[g].1.toNat < d4.length by omega)] at e; exact e))) (Ent.p2 (Ent.p2 (Ent.p2 ?_))))))))))))))))
        exact Ea (g + 1, a105, (a0e (stV d4 (d6.take g)) ((d4[d6[g].1.toNat].1), (d4[d6[g].1.toNat].2))).length, c105, p94.1, (((d6.take g).map fun x => x.1).length + 1), p94.2) ⟨oz, (show N7 l d4 d6 (g + 1) = true from by exact b3r om pa (b5d q42 q51b q62 q84b))⟩
       ·have q84b : F7 (l.getD d6[g].2.toNat (0, [], 0, 0, 0)) (atA d4 d6[g].1) (stB d4 (d6.take g)) = false := by rw [F6 (show d6[g].2.toNat < l.length by omega), a1U (show d6[g].1.toNat < d4.length by omega), ← b3Q]; exact q84
        refine Dyp 52 rfl (Y.not (b := false) rfl) (Dyp 53 rfl (Y.pkf rfl rfl) (D.done kr (Et (E.ct rfl (Ew Z1 (Eas rfl rfl ?_))))))
        exact Eu (E.ret (E.thr (E.blr (E.thr (E.thr (E.blr (E.thr (Fb rfl rfl (by exact a7g (q := (d9, d4)) om (b5o q84b))))))))))
      ·refine Dyp 30 rfl (Y.not (b := false) rfl) (Dyp 31 rfl (Y.pkf rfl rfl) (Dyp 32 rfl (Y.mv rfl) (Dsk 33 rfl (Dsk 34 rfl (Dsk 35 rfl (Dsk 36 rfl (Dsk 37 rfl (Dsk 38 rfl (Dsk 39 rfl (Dsk 40 rfl (Dsk 41 rfl (Dsk 42 rfl (Dsk 43 rfl (Dsk 44 rfl (Dsk 45 rfl (Dsk 46 rfl (Dsk 47 rfl (Dsk 48 rfl (Dsk 49 rfl (Dsk 50 rfl (Dsk 51 rfl (Dsk 52 rfl (Dyp 53 rfl (Y.pkt rfl rfl) (D.done kr (Et (E.ct rfl (Ew Z1 (Eas rfl rfl ?_))))))))))))))))))))))))))))
       exact Eu (E.ret (E.thr (E.blr (E.thr (E.thr (E.blr (E.thr (Fb rfl rfl (by exact a7g (q := (d9, d4)) om (b5h q62))))))))))
    ·refine Dyp 10 rfl (Y.not (b := false) rfl) (Dyp 11 rfl (Y.mv rfl) (Dsk 12 rfl (Dsk 13 rfl (Dsk 14 rfl (Dsk 15 rfl (Dsk 16 rfl (Dsk 17 rfl (Dsk 18 rfl (Dyp 19 rfl (Y.pkt rfl rfl) (Dyp 20 rfl (Y.mv rfl) (Dsk 21 rfl (Dsk 22 rfl (Dsk 23 rfl (Dsk 24 rfl (Dsk 25 rfl (Dsk 26 rfl (Dsk 27 rfl (Dsk 28 rfl (Dsk 29 rfl (Dsk 30 rfl (Dyp 31 rfl (Y.pkt rfl rfl) (Dyp 32 rfl (Y.mv rfl) (Dsk 33 rfl (Dsk 34 rfl (Dsk 35 rfl (Dsk 36 rfl (Dsk 37 rfl (Dsk 38 rfl (Dsk 39 rfl (Dsk 40 rfl (Dsk 41 rfl (Dsk 42 rfl (Dsk 43 rfl (Dsk 44 rfl (Dsk 45 rfl (Dsk 46 rfl (Dsk 47 rfl (Dsk 48 rfl (Dsk 49 rfl (Dsk 50 rfl ?_))))))))))))))))))))))))))))))))))))))))
     refine Dsk 51 rfl (Dsk 52 rfl (Dyp 53 rfl (Y.pkt rfl rfl) (D.done kr (Et (E.ct rfl (Ew Z1 (Eas rfl rfl ?_)))))))
     exact Eu (E.ret (E.thr (E.blr (E.thr (E.thr (E.blr (E.thr (Fb rfl rfl (by exact a7g (q := (d9, d4)) om (b5D q42))))))))))
   ·refine Eu (E.cf rfl (E.exit (E.the (E.the (E.blh (Et (Ew Z1 (Eas rfl rfl ?_))))))))
    exact Eu (E.ret (Fb rfl rfl (by exact b4T (q := (d9, d4)) q15 (by show (d6.length : Int) = d4.length; omega) (show ¬ g < d6.length by omega) om pa)))
 ·refine Ey rfl ((Y.not (b := false) rfl).yd) (Emv rfl rfl (Es rfl (Es rfl (Es rfl (Es rfl (Es rfl (Es rfl (Ey rfl ((Y.pkt rfl rfl).yd) (Eu (E.ct rfl (Ew Z1 (Eas rfl rfl ?_))))))))))))
  exact Eu (E.ret (E.thr (Fb rfl rfl (by exact b4B (q := (d9, d4)) q15))))
end Go.Proofs.YtdopeopehgdccaaGreat
