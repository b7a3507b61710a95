import Derived.Test.YtdopeopehgdccaaGreatBl
namespace Go.Proofs.YtdopeopehgdccaaGreat
open Go.RowKit
set_option linter.all false
set_option maxHeartbeats 2000000
attribute [local irreducible] Nop Yd Yp Ent Has Tr FnP FnP2 Src R6 a0d a0I a1c H6
theorem b0x {a_s : Option Addr} {m_s c_s : Nat} {s : List Int} {a_l : Option Addr} {m_l c_l : Nat} {l : List (Int × List Int × Int × Int × Int)} {x7 : Option Addr} {C6 x8 : Nat} {o0 : List Int} {v6 : Option Addr} {B3 v7 : Nat} {d7 : List (Int × List Int)} {a_steps : Option Addr} {m_steps c_steps : Nat} {d9 : List (Int × Int)} (hz : I9 (fun x => x.2.length) d7 ≤ 1048576) : Tr Tryz.prog 83 [.slice a_s m_s c_s, .slice a_l m_l c_l, .agg #[.slice x7 C6 x8, .slice v6 B3 v7], .slice a_steps m_steps c_steps] (fun w L => Ro w L eIs [.slice a_s m_s c_s] s ∧ Ro w L E6 [.slice a_l m_l c_l] l ∧ Ro w L eIs [.slice x7 C6 x8] o0 ∧ Ro w L B7 [.slice v6 B3 v7] d7 ∧ Ro w L M5 [.slice a_steps m_steps c_steps] d9) [] (κ := Unit) (fun k => True) (fun k => .bool (O1 s l (o0, d7) d9)) (fun k => []) := by
 refine n9 Tryz.func83 rfl (n := 106) rfl (by decide +kernel) bl (fr := [(0, .slice a_s m_s c_s), (1, .slice a_l m_l c_l), (2, .agg #[.slice x7 C6 x8, .slice v6 B3 v7]), (3, .slice a_steps m_steps c_steps)]) rfl fun w L hR => ?_
 obtain ⟨hs, hl, F6, D4, hsteps⟩ := hR
 obtain ⟨rfl, ls⟩ := hs.slen
 obtain ⟨rfl, ll⟩ := hl.slen
 obtain ⟨rfl, a0t⟩ := F6.slen
 obtain ⟨rfl, X6⟩ := D4.slen
 obtain ⟨rfl, lsteps⟩ := hsteps.slen
 refine Ew Z2 (Est rfl (N.box (cs := [_, _]) rfl dc rfl) (fun b6 _ => (Ei rfl (Eu (Eq_ (Ew Z13 (Em rfl (Em rfl (Ey rfl (o9 (cs := [_, _]) ty_Query rfl (Has.pt m0) rfl) (Est rfl (n0 (b1R fc) rfl rfl rfl dc (fun w Lp hA => ⟨hA.ro hs, hA.ro hl, hA.ro F6, hA.ro D4⟩)) (fun _ _ => (Ent.b (fun q15 => ?_) (fun q15 => ?_)))))))))))))
 ·have jq := a0P (s := s) (q := (o0, d7)) (Bool.and_eq_true_iff.1 q15).2
  have jq1 : d7.length ≤ 4 := jq.1
  have jl5 := (a0k (Bool.and_eq_true_iff.1 q15).1).2
  refine Ey rfl ((Y.not (b := true) rfl).yd) (Em rfl (Em rfl (Ey rfl ((Y.len us_Steps rfl).yd) (Ey rfl ((j7 fo_Query_1 ty_Atoms dc rfl).yd) (Ey rfl (g9 ty_Atoms rfl (Hz m0 1 rfl) rfl) (Ey rfl ((Y.len us_Atoms rfl).yd) (Ey rfl ((Y.neq rfl rfl).yd) (o6 (fun q23 => ?_) (fun q23 => ?_)))))))))
  ·refine Ey rfl ((u0 rfl rfl).yd) (Eu (o2 rfl (Ew Z1 (Ei rfl ?_))))
   exact Eu (E.ret (l4 (Fb rfl rfl (by exact b7H (q := (o0, d7)) (by show ¬ (d9.length : Int) = d7.length; omega)))))
  ·refine Ey rfl ((u0 rfl rfl).yd) (Eu (o3 rfl (j5 (Et (Ew Z2 (Est rfl (Nb [] [] us_Is i8 rfl rfl) (fun b25 _ => (Ent.drop (Ei rfl (Ev Z2 (Est rfl (Nb [] [] us_Is i8 rfl rfl) (fun b26 _ => (Ent.drop (Ei rfl (Eu (Eq_ (Ew Z1 (Ei rfl (Eu (E.block (s3 (A := []) (Own.nil (E := Enc.int) (e := tI) (a := (some ⟨b25, 0, none⟩))) rfl (j6 (congrArg (ow eIs [_]) (show [] = stV d7 (d9.take 0) from by first | rfl | simp)) (s3 (A := []) (Own.nil (E := Enc.int) (e := tI) (a := (some ⟨b26, 0, none⟩))) rfl (j6 (congrArg (ow eIs [_]) (show [] = (d9.take 0).map fun x => x.1 from by first | rfl | simp)) (E.loop (κ := Nat × Option Addr × Nat × Nat × Option Addr × Nat × Nat) (fun g => g.1 ≤ d9.length ∧ V1 l d7 d9 g.1 = true) (fun g => [(1, .slice a_l l.length c_l), (3, .slice a_steps d9.length c_steps), (6, .pointer (some ⟨b6, 0, none⟩)), (9, .slice g.2.1 g.2.2.1 g.2.2.2.1), (10, .slice g.2.2.2.2.1 g.2.2.2.2.2.1 g.2.2.2.2.2.2), (11, .int .i64 (↑g.1 : Int))]) (fun g => [ow eIs [.slice g.2.2.2.2.1 g.2.2.2.2.2.1 g.2.2.2.2.2.2] ((d9.take g.1).map fun x => x.1), ow eIs [.slice g.2.1 g.2.2.1 g.2.2.2.1] (stV d7 (d9.take g.1)), pt b6 61 [.slice x7 o0.length x8, .slice v6 d7.length v7]]) (fun g => d9.length - g.1) (0, (some ⟨b25, 0, none⟩), 0, 0, (some ⟨b26, 0, none⟩), 0, 0) ⟨Nat.zero_le _, rfl⟩ ⟨rfl, rfl, rfl, rfl, rfl, rfl, trivial⟩ (.refl _) (fun g pg => ?_))))))))))))))))))))))))))
   obtain ⟨g, aA0_0, mA0_0, cA0_0, aA0_1, mA0_1, cA0_1⟩ := g
   try dsimp only at pg
   try dsimp only
   obtain ⟨pk, pa⟩ := pg
   have jb := b7y (f5 := d7) (T := (d9.take g)) jq.2.2
   have jv := b7Q (f5 := d7) (T := (d9.take g)) jq.2.2
   have jd := b7m (n := d7.length) (T := (d9.take g))
   have jt := List.length_take_le g d9
   have jo := a9x pa om
   have ju : ((d9.take g).map fun x => x.1).length = (d9.take g).length := List.length_map ..
   refine i9 (mS m0) fun eaA0_0 laA0_0 => ?_
   subst eaA0_0
   refine i9 m0 fun eaA0_1 laA0_1 => ?_
   subst eaA0_1
   refine Eq_ (Ew Z4 (Em rfl (Em rfl (Ey rfl ((Y.len us_Steps rfl).yd) (Ey rfl ((Y.lss rfl rfl).yd) (o6 (fun q30 => ?_) (fun q30 => ?_)))))))
   ·refine Eu (o2 rfl (j5 (Et (Eq_ (E.block (Eq_ (Eq_ (D.region (fun j => true) mixed (Dyp 0 rfl (l3 rfl) (Dyp 1 rfl (l3 rfl) ?_))))))))))
    obtain ⟨eb35, eo35, ec35, ea35, er35, el35, eh35⟩ := hsteps.elem g om
    obtain ⟨rfl, ei35_0, ei35_1⟩ := a9s er35
    refine Dyp 2 rfl (r7 us_Steps ty_Step rfl ea35 rfl g rfl om) (Dyp 3 rfl (j7 fo_Step_0 i8 dc rfl) (Dy 4 rfl (g9 i8 rfl ((eh35 _).sub (cs' := [_]) 0 rfl) rfl) (Dyp 5 rfl (j7 fo_Query_1 ty_Atoms dc rfl) (Dy 6 rfl (g9 ty_Atoms rfl (Hz (mS (mS m0)) 1 rfl) rfl) (Dyp 7 rfl (Y.len us_Atoms rfl) (Dyp 8 rfl (Y.sub rfl rfl om om) (t8 9 rfl rfl kr (fun _ => rfl) (n0 K2 rfl rfl rfl dc tv) (fun _ _ => (Ent.b (fun q42 => ?_) (fun q42 => ?_))))))))))
    ·have j43 := W2 q42
     refine Dyp 10 rfl (Y.not (b := true) rfl) (Dyp 11 rfl (l3 rfl) (Dyp 12 rfl (l3 rfl) (Dyp 13 rfl (l3 rfl) (Dyp 14 rfl (l3 rfl) (Dyp 15 rfl (r7 us_Steps ty_Step rfl ea35 rfl g rfl om) (Dyp 16 rfl (j7 fo_Step_0 i8 dc rfl) (Dy 17 rfl (g9 i8 rfl ((eh35 _).sub (cs' := [_]) 0 rfl) rfl) (t8 18 rfl rfl kr (fun _ => rfl) (n0 a1F rfl rfl rfl dc (fun w Lp hA => hA.ow m0)) (fun _ _ => (Ent.b (fun q51 => ?_) (fun q51 => ?_)))))))))))
     ·have q51b : stU (d9.take g) d9[g].1 = true := by rw [← b3Q]; exact q51
      refine Dyp 19 rfl (u0 rfl rfl) (Dyp 20 rfl (l3 rfl) (Dsk 21 rfl (Dsk 22 rfl (Dsk 23 rfl (Dsk 24 rfl (Dsk 25 rfl (Dsk 26 rfl (Dsk 27 rfl (Dsk 28 rfl (Dsk 29 rfl (Dsk 30 rfl (Dyp 31 rfl (u7 rfl rfl) (Dyp 32 rfl (l3 rfl) (Dsk 33 rfl (Dsk 34 rfl (Dsk 35 rfl (Dsk 36 rfl (Dsk 37 rfl (Dsk 38 rfl (Dsk 39 rfl (Dsk 40 rfl (Dsk 41 rfl (Dsk 42 rfl (Dsk 43 rfl (Dsk 44 rfl (Dsk 45 rfl (Dsk 46 rfl (Dsk 47 rfl (Dsk 48 rfl (Dsk 49 rfl (Dsk 50 rfl (Dsk 51 rfl (Dsk 52 rfl (Dyp 53 rfl (u7 rfl rfl) (r8 kr (Et (o2 rfl (Ew Z1 (Ei rfl ?_)))))))))))))))))))))))))))))))))))))))
      exact Eu (E.ret (l4 (w5 (l4 (l4 (w5 (l4 (Fb rfl rfl (by exact a9X (q := (o0, d7)) om (b8r q51b))))))))))
     ·have q51b : stU (d9.take g) d9[g].1 = false := by rw [← b3Q]; exact q51
      refine Dyp 19 rfl (u0 rfl rfl) (Dyp 20 rfl (l3 rfl) (Dyp 21 rfl (l3 rfl) (Dyp 22 rfl (l3 rfl) (Dyp 23 rfl (r7 us_Steps ty_Step rfl ea35 rfl g rfl om) (Dyp 24 rfl (j7 fo_Step_1 i8 dc rfl) (Dy 25 rfl (g9 i8 rfl ((eh35 _).sub (cs' := [_]) 1 rfl) rfl) (Dyp 26 rfl (l3 rfl) (Dyp 27 rfl (Y.len us_Methods rfl) (Dyp 28 rfl (Y.sub rfl rfl om om) (t8 29 rfl rfl kr (fun _ => rfl) (n0 K2 rfl rfl rfl dc tv) (fun _ _ => (Ent.b (fun q62 => ?_) (fun q62 => ?_)))))))))))))
      ·have j58 := W2 q62
       refine Dyp 30 rfl (Y.not (b := true) rfl) (Dyp 31 rfl (u0 rfl rfl) (Dyp 32 rfl (l3 rfl) (Dyp 33 rfl (l3 rfl) (Dyp 34 rfl (l3 rfl) (Dyp 35 rfl (l3 rfl) (Dyp 36 rfl (r7 us_Steps ty_Step rfl ea35 rfl g rfl om) (Dyp 37 rfl (j7 fo_Step_1 i8 dc rfl) (Dy 38 rfl (g9 i8 rfl ((eh35 _).sub (cs' := [_]) 1 rfl) rfl) ?_))))))))
       obtain ⟨eb72, eo72, ec72, ea72, er72, el72, eh72⟩ := hl.elem d9[g].2.toNat om
       obtain ⟨xa72_0, xc72_0, rfl, ei72_0, xh72_0, ei72_2, ei72_3, ei72_4⟩ := J5 er72
       have := xh72_0.slen.2
       refine Dyp 39 rfl (r7 us_Methods ty_Method rfl ea72 rfl d9[g].2.toNat om om) (Dy 40 rfl (o9 (cs := [_, _, _, _, _]) ty_Method rfl (eh72 _) rfl) (Dyp 41 rfl (j7 fo_Query_1 ty_Atoms dc rfl) (Dy 42 rfl (g9 ty_Atoms rfl (Hz (mS (mS m0)) 1 rfl) rfl) (Dyp 43 rfl (l3 rfl) (Dyp 44 rfl (l3 rfl) (Dyp 45 rfl (r7 us_Steps ty_Step rfl ea35 rfl g rfl om) (Dyp 46 rfl (j7 fo_Step_0 i8 dc rfl) (Dy 47 rfl (g9 i8 rfl ((eh35 _).sub (cs' := [_]) 0 rfl) rfl) ?_))))))))
       obtain ⟨eb81, eo81, ec81, ea81, er81, el81, eh81⟩ := D4.elem d9[g].1.toNat om
       obtain ⟨xa81_0, xc81_0, rfl, ei81_0, xh81_0⟩ := K0 er81
       have := xh81_0.slen.2
       refine Dyp 48 rfl (r7 us_Atoms ty_Atom rfl ea81 rfl d9[g].1.toNat om om) (Dy 49 rfl (o9 (cs := [_, _]) ty_Atom rfl (eh81 _) rfl) (Dyp 50 rfl (l3 rfl) (t8 51 rfl rfl kr (fun _ => rfl) (n0 a5M rfl rfl rfl dc (fun w Lp hA => ⟨ei72_0, hA.ro xh72_0, ei72_2, ei72_3, ei72_4, ei81_0, hA.ro xh81_0, hA.ow (mS m0)⟩)) (fun _ _ => (Ent.b (fun q84 => ?_) (fun q84 => ?_))))))
       ·have q84b : N5 (l.getD d9[g].2.toNat (0, [], 0, 0, 0)) (atA d7 d9[g].1) (stB d7 (d9.take g)) = true := by rw [J3 (show d9[g].2.toNat < l.length by omega), a3M (show d9[g].1.toNat < d7.length by omega), ← b7d]; exact q84
        have jt3 := jq.2.2 _ (List.getElem_mem (show d9[g].1.toNat < d7.length by omega))
        refine Dyp 52 rfl (Y.not (b := true) rfl) (Dyp 53 rfl (u0 rfl rfl) (r8 kr (Et (o3 rfl (j5 (Et (Ew Z9 (Em rfl (Em rfl (Em rfl (Ey rfl ((r7 us_Steps ty_Step rfl ea35 rfl g rfl om).yd) (Ey rfl ((j7 fo_Step_0 i8 dc rfl).yd) (Ey rfl (g9 i8 rfl ((eh35 _).sub (cs' := [_]) 0 rfl) rfl) (Est rfl (Nb [_] [_] us_Is i8 rfl rfl) (fun b93 _ => (i7 (Est rfl (D6 (E := Enc.int) (ex := d9[g].1) us_Is i8 rfl rfl rfl (Own.int ei35_0) rfl bn bn dc) (fun p94 _ => (Ei rfl (Eu (D.region (fun j => true) mixed (Dyp 0 rfl (l3 rfl) (Dyp 1 rfl (j7 fo_Query_1 ty_Atoms dc rfl) (Dy 2 rfl (g9 ty_Atoms rfl (Hz (mS (mS m0)) 1 rfl) rfl) (Dyp 3 rfl (l3 rfl) (Dyp 4 rfl (l3 rfl) (Dyp 5 rfl (r7 us_Steps ty_Step rfl ea35 rfl g rfl om) (Dyp 6 rfl (j7 fo_Step_0 i8 dc rfl) (Dy 7 rfl (g9 i8 rfl ((eh35 _).sub (cs' := [_]) 0 rfl) rfl) (Dyp 8 rfl (r7 us_Atoms ty_Atom rfl ea81 rfl d9[g].1.toNat om om) (Dy 9 rfl (o9 (cs := [_, _]) ty_Atom rfl (eh81 _) rfl) (t8 10 rfl rfl kr (fun _ => rfl) (N.call (a6Q fc fc) rfl rfl rfl dc rfl (fun w Lp hA => ⟨hA.ow (mS m0), ei81_0, hA.ro xh81_0⟩)) (fun k105 _ => ?_)))))))))))))))))))))))))))))))))
        obtain ⟨a105, m105, c105⟩ := k105
        refine i9 m0 fun e105 l105 => ?_
        subst e105
        refine Dyp 11 rfl (F7 rfl) (r8 kr (t7 (Et (Ez Z3 (Em rfl (Ey rfl ((Y.add rfl rfl om om).yd) (Ei rfl (Eu (r5 (Ent.drop (j6 (congrArg (ow eIs [_]) (show a1Y (stV d7 (d9.take g)) ((d7[d9[g].1.toNat].1), (d7[d9[g].1.toNat].2)) = stV d7 (d9.take (g + 1)) from by first | exact b2r om | (have e := b2w (f5 := d7) (d9 := d9) (g := g) om; rw [a3M (show d9[g].1.toNat < d7.length by omega)] at e; exact e))) (i7 (j6 (congrArg (ow eIs [_]) (show ((d9.take g).map fun x => x.1) ++ [d9[g].1] = (d9.take (g + 1)).map fun x => x.1 from by first | exact b2r om | (have e := b2w (f5 := d7) (d9 := d9) (g := g) om; rw [a3M (show d9[g].1.toNat < d7.length by omega)] at e; exact e))) (r5 (r5 (r5 ?_))))))))))))))))
        exact Ea (g + 1, a105, (a1Y (stV d7 (d9.take g)) ((d7[d9[g].1.toNat].1), (d7[d9[g].1.toNat].2))).length, c105, p94.1, (((d9.take g).map fun x => x.1).length + 1), p94.2) ⟨oz, (show V1 l d7 d9 (g + 1) = true from by exact b6h om pa (b8U q42 q51b q62 q84b))⟩
       ·have q84b : N5 (l.getD d9[g].2.toNat (0, [], 0, 0, 0)) (atA d7 d9[g].1) (stB d7 (d9.take g)) = false := by rw [J3 (show d9[g].2.toNat < l.length by omega), a3M (show d9[g].1.toNat < d7.length by omega), ← b7d]; exact q84
        refine Dyp 52 rfl (Y.not (b := false) rfl) (Dyp 53 rfl (u0 rfl rfl) (r8 kr (Et (o2 rfl (Ew Z1 (Ei rfl ?_))))))
        exact Eu (E.ret (l4 (w5 (l4 (l4 (w5 (l4 (Fb rfl rfl (by exact a9X (q := (o0, d7)) om (b8X q84b))))))))))
      ·refine Dyp 30 rfl (Y.not (b := false) rfl) (Dyp 31 rfl (u0 rfl rfl) (Dyp 32 rfl (l3 rfl) (Dsk 33 rfl (Dsk 34 rfl (Dsk 35 rfl (Dsk 36 rfl (Dsk 37 rfl (Dsk 38 rfl (Dsk 39 rfl (Dsk 40 rfl (Dsk 41 rfl (Dsk 42 rfl (Dsk 43 rfl (Dsk 44 rfl (Dsk 45 rfl (Dsk 46 rfl (Dsk 47 rfl (Dsk 48 rfl (Dsk 49 rfl (Dsk 50 rfl (Dsk 51 rfl (Dsk 52 rfl (Dyp 53 rfl (u7 rfl rfl) (r8 kr (Et (o2 rfl (Ew Z1 (Ei rfl ?_))))))))))))))))))))))))))))
       exact Eu (E.ret (l4 (w5 (l4 (l4 (w5 (l4 (Fb rfl rfl (by exact a9X (q := (o0, d7)) om (b8x q62))))))))))
    ·refine Dyp 10 rfl (Y.not (b := false) rfl) (Dyp 11 rfl (l3 rfl) (Dsk 12 rfl (Dsk 13 rfl (Dsk 14 rfl (Dsk 15 rfl (Dsk 16 rfl (Dsk 17 rfl (Dsk 18 rfl (Dyp 19 rfl (u7 rfl rfl) (Dyp 20 rfl (l3 rfl) (Dsk 21 rfl (Dsk 22 rfl (Dsk 23 rfl (Dsk 24 rfl (Dsk 25 rfl (Dsk 26 rfl (Dsk 27 rfl (Dsk 28 rfl (Dsk 29 rfl (Dsk 30 rfl (Dyp 31 rfl (u7 rfl rfl) (Dyp 32 rfl (l3 rfl) (Dsk 33 rfl (Dsk 34 rfl (Dsk 35 rfl (Dsk 36 rfl (Dsk 37 rfl (Dsk 38 rfl (Dsk 39 rfl (Dsk 40 rfl (Dsk 41 rfl (Dsk 42 rfl (Dsk 43 rfl (Dsk 44 rfl (Dsk 45 rfl (Dsk 46 rfl (Dsk 47 rfl (Dsk 48 rfl (Dsk 49 rfl (Dsk 50 rfl ?_))))))))))))))))))))))))))))))))))))))))
     refine Dsk 51 rfl (Dsk 52 rfl (Dyp 53 rfl (u7 rfl rfl) (r8 kr (Et (o2 rfl (Ew Z1 (Ei rfl ?_)))))))
     exact Eu (E.ret (l4 (w5 (l4 (l4 (w5 (l4 (Fb rfl rfl (by exact a9X (q := (o0, d7)) om (b8u q42))))))))))
   ·refine Eu (o3 rfl (E.exit (o8 (o8 (x9 (Et (Ew Z1 (Ei rfl ?_))))))))
    exact Eu (E.ret (Fb rfl rfl (by exact b7A (q := (o0, d7)) q15 (by show (d9.length : Int) = d7.length; omega) (show ¬ g < d9.length by omega) om pa)))
 ·refine Ey rfl ((Y.not (b := false) rfl).yd) (Em rfl (Es rfl (Es rfl (Es rfl (Es rfl (Es rfl (Es rfl (Ey rfl ((u7 rfl rfl).yd) (Eu (o2 rfl (Ew Z1 (Ei rfl ?_))))))))))))
  exact Eu (E.ret (l4 (Fb rfl rfl (by exact b7u (q := (o0, d7)) q15))))
end Go.Proofs.YtdopeopehgdccaaGreat
