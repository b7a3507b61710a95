import Derived.Test.YthapcdhdfaibkaaGreatDoorT70
import Derived.Test.YthapcdhdfaibkaaGreatDoorT123
section
namespace Go.Proofs.YthapcdhdfaibkaaGreatDoor
open Go.RowKit
set_option linter.all false
set_option maxHeartbeats 2000000
attribute [local irreducible] Nop Yd Yp Ent Has Tr FnP FnP2 Src M5 U1 V6 W3 G3
theorem b1A {a_s : Option Addr} {m_s c_s : Nat} {s : List Int} {a_l : Option Addr} {m_l c_l : Nat} {l : List (Int × List Int × Int × Int × Int)} {y9 : Option Addr} {D9 y8 : Nat} {j8 : List Int} {v7 : Option Addr} {C6 v6 : Nat} {d4 : List IL} (hz : O1 (fun x => x.2.length) d4 ≤ 1048576) : TB Tryz.prog 246 [.slice a_s m_s c_s, .slice a_l m_l c_l, .agg #[.slice y9 D9 y8, .slice v7 C6 v6]] (fun w L => Ro w L eIs [.slice a_s m_s c_s] s ∧ Ro w L G0 [.slice a_l m_l c_l] l ∧ Ro w L eIs [.slice y9 D9 y8] j8 ∧ Ro w L B1 [.slice v7 C6 v6] d4) (J3 s l && I3 s (j8, d4)) := by
 refine Ti3 Tryz.func246 15 rfl fun w L hR => ?_
 obtain ⟨hs, hl, C0, z7⟩ := hR
 obtain ⟨rfl, ls⟩ := hs.slen
 obtain ⟨rfl, ll⟩ := hl.slen
 obtain ⟨rfl, W8⟩ := C0.slen
 obtain ⟨rfl, U3⟩ := z7.slen
 refine Ew Z2<|Est rfl (N.box (cs := [_, _]) rfl dc rfl)<|fun b5 _ => Ei rfl<|Ev Z9<|Em rfl<|Em rfl<|E0 rfl a2t rfl (fun hA => ⟨hA.ro hs, hA.ro hl⟩)<|Ent.b (fun q9 => ?_)<|fun q9 => ?_
 ·refine Em rfl<|Em rfl<|Ey rfl (k7 (cs := [_, _]) ty_Query rfl (Has.pt m0) rfl)<|E0 rfl (a3v fc) rfl (fun hA => ⟨hA.ro hs, hA.ro C0, hA.ro z7⟩)<|Ypt rfl<|Ei rfl<|Eu<|E.ret<|Fb rfl rfl (by grind [d1, d2, t1, t2])
 ·refine Em rfl<|Es rfl<|Es rfl<|Es rfl<|Ypf rfl<|Ei rfl<|Eu<|E.ret<|Fb rfl rfl (by grind [d1, d2, t1, t2])
end Go.Proofs.YthapcdhdfaibkaaGreatDoor
end
section
namespace Go.Proofs.YthapcdhdfaibkaaGreatDoor
open Go.RowKit
set_option linter.all false
set_option maxHeartbeats 2000000
attribute [local irreducible] Nop Yd Yp Ent Has Tr FnP FnP2 Src M5 U1 V6 W3 G3
theorem a9W {a_s : Option Addr} {m_s c_s : Nat} {s : List Int} {a_l : Option Addr} {m_l c_l : Nat} {l : List (Int × List Int × Int × Int × Int)} {y9 : Option Addr} {D9 y8 : Nat} {j8 : List Int} {v7 : Option Addr} {C6 v6 : Nat} {d4 : List IL} {a_steps : Option Addr} {m_steps c_steps : Nat} {d7 : List (Int × Int)} (hz : O1 (fun x => x.2.length) d4 ≤ 1048576) : TB Tryz.prog 203 [.slice a_s m_s c_s, .slice a_l m_l c_l, .agg #[.slice y9 D9 y8, .slice v7 C6 v6], .slice a_steps m_steps c_steps] (fun w L => Ro w L eIs [.slice a_s m_s c_s] s ∧ Ro w L G0 [.slice a_l m_l c_l] l ∧ Ro w L eIs [.slice y9 D9 y8] j8 ∧ Ro w L B1 [.slice v7 C6 v6] d4 ∧ Ro w L M7 [.slice a_steps m_steps c_steps] d7) (P3 s l (j8, d4) d7) := by
 refine Ti4 Tryz.func203 106 rfl fun w L hR => ?_
 obtain ⟨hs, hl, C0, z7, hsteps⟩ := hR
 obtain ⟨rfl, ls⟩ := hs.slen
 obtain ⟨rfl, ll⟩ := hl.slen
 obtain ⟨rfl, W8⟩ := C0.slen
 obtain ⟨rfl, U3⟩ := z7.slen
 obtain ⟨rfl, lsteps⟩ := hsteps.slen
 refine Ew Z2<|Est rfl (N.box (cs := [_, _]) rfl dc rfl)<|fun b6 _ => Ei rfl<|Eu<|Eq_<|Ew Z13<|Em rfl<|Em rfl<|Ey rfl (k7 (cs := [_, _]) ty_Query rfl (Has.pt m0) rfl)<|E0 rfl (b1A fc) rfl (fun hA => ⟨hA.ro hs, hA.ro hl, hA.ro C0, hA.ro z7⟩)<|Ent.b (fun q15 => ?_)<|fun q15 => ?_
 ·have jq := J7 (s := s) (q := (j8, d4)) (Bool.and_eq_true_iff.1 q15).2
  have jq1 : d4.length ≤ 4 := jq.1
  have jl5 := (a0H (Bool.and_eq_true_iff.1 q15).1).2
  refine Yno true rfl<|Em rfl<|Em rfl<|Yln us_Steps rfl<|Lz fo_Query_1 ty_Atoms rfl m0 rfl<|Yln us_Atoms rfl<|Ey rfl ((Y.neq rfl rfl).yd)<|l3 (fun q23 => ?_)<|fun q23 => ?_
  ·refine Ypf rfl<|Eu<|r6 rfl<|Ew Z1<|Ei rfl ?_
   exact Eu<|E.ret<|i9<|Fb rfl rfl (by exact b8u (q := (j8, d4)) (by show ¬ (d7.length : Int) = d4.length; omega))
  ·refine Ypf rfl<|Eu<|Cf<|Ew Z2<|Est rfl (Nb [] [] us_Is i7 rfl rfl)<|fun b25 _ => Ent.drop<|Ei rfl<|Ev Z2<|Est rfl (Nb [] [] us_Is i7 rfl rfl)<|fun b26 _ => Ent.drop<|Ei rfl<|Eu<|Eq_<|Ew Z1<|Ei rfl<|Eu<|E.block<|l6 (A := []) (Own.nil (E := Enc.int) (e := tI) (a := (some ⟨b25, 0, none⟩))) rfl<|g9 (congrArg (ow eIs [_]) (show _ = stV d4 (d7.take 0) from by first | rfl | simp))<|l6 (A := []) (Own.nil (E := Enc.int) (e := tI) (a := (some ⟨b26, 0, none⟩))) rfl<|g9 (congrArg (ow eIs [_]) (show _ = (d7.take 0).map fun x => x.1 from by first | rfl | simp))<|Lo (κ := Nat × Option Addr × Nat × Nat × SL) (fun g => g.1 ≤ d7.length ∧ U8 l d4 d7 g.1 = true) (fun g => [(1, .slice a_l l.length c_l), (3, .slice a_steps d7.length c_steps), (6, .pointer<|some ⟨b6, 0, none⟩), (9, .slice g.2.1 g.2.2.1 g.2.2.2.1), (10, .slice g.2.2.2.2.1 g.2.2.2.2.2.1 g.2.2.2.2.2.2), (11, .int .i64 (↑g.1 : Int))]) (fun g => [ow eIs [.slice g.2.2.2.2.1 g.2.2.2.2.2.1 g.2.2.2.2.2.2]<|(d7.take g.1).map fun x => x.1, ow eIs [.slice g.2.1 g.2.2.1 g.2.2.2.1]<|stV d4<|d7.take g.1, pt b6 28 [.slice y9 j8.length y8, .slice v7 d4.length v6]]) (fun g => d7.length - g.1) (0, (some ⟨b25, 0, none⟩), 0, 0, (some ⟨b26, 0, none⟩), 0, 0) ⟨Nat.zero_le _, rfl⟩<|fun g pg => ?_
   obtain ⟨g, aA0_0, mA0_0, cA0_0, aA0_1, mA0_1, cA0_1⟩ := g
   try dsimp only at pg
   try dsimp only
   obtain ⟨pk, pa⟩ := pg
   have jb := b8a (d9 := d4) (T := (d7.take g)) jq.2.2
   have jv := b8N (d9 := d4) (T := (d7.take g)) jq.2.2
   have jd := b8X (n := d4.length) (T := (d7.take g))
   have jt := List.length_take_le g d7
   have jo := a5E pa om
   have ju : ((d7.take g).map fun x => x.1).length = (d7.take g).length := List.length_map ..
   refine r8 (mS m0) ?_
   rintro rfl laA0_0
   refine r8 m0 ?_
   rintro rfl laA0_1
   refine Eq_<|Ew Z4<|Em rfl<|Em rfl<|Yln us_Steps rfl<|Ylt rfl<|l3 (fun q30 => ?_)<|fun q30 => ?_
   ·refine Eu<|Ct<|Eq_<|E.block<|Eq_<|Eq_<|D.region (fun j => true) mixed<|Dm 0 rfl<|Dm 1 rfl ?_
    obtain ⟨eb35, eo35, ec35, ea35, er35, el35, eh35⟩ := hsteps.elem g om
    obtain ⟨rfl, ei35_0, ei35_1⟩ := a4I er35
    refine Dyp 2 rfl (z8 us_Steps ty_Step rfl ea35 rfl g rfl om)<|Df 3 4 fo_Step_0 i7 rfl (Hs (eh35 _) 0 rfl)<|Df 5 6 fo_Query_1 ty_Atoms rfl (Hz (mS<|mS m0) 1 rfl)<|Dyp 7 rfl (Y.len us_Atoms rfl)<|Dyp 8 rfl (Y.sub rfl rfl om om)<|D0 9 rfl K4 rfl (fun _ => trivial)<|Ent.b (fun q42 => ?_)<|fun q42 => ?_
    ·have j43 := V2 q42
     refine Dyp 10 rfl (Y.not (b := true) rfl)<|Dm 11 rfl<|Dm 12 rfl<|Dm 13 rfl<|Dm 14 rfl<|Dyp 15 rfl (z8 us_Steps ty_Step rfl ea35 rfl g rfl om)<|Df 16 17 fo_Step_0 i7 rfl (Hs (eh35 _) 0 rfl)<|D0 18 rfl a0s rfl (fun hA => hA.ow m0)<|Ent.b (fun q51 => ?_)<|fun q51 => ?_
     ·have q51b : stU (d7.take g) d7[g].1 = true := by rw [← b3I]; exact q51
      refine Dyp 19 rfl (L8 rfl rfl)<|Dm 20 rfl<|Dsk 21 rfl<|Dsk 22 rfl<|Dsk 23 rfl<|Dsk 24 rfl<|Dsk 25 rfl<|Dsk 26 rfl<|Dsk 27 rfl<|Dsk 28 rfl<|Dsk 29 rfl<|Dsk 30 rfl<|Dyp 31 rfl (K7 rfl rfl)<|Dm 32 rfl<|Dsk 33 rfl<|Dsk 34 rfl<|Dsk 35 rfl<|Dsk 36 rfl<|Dsk 37 rfl<|Dsk 38 rfl<|Dsk 39 rfl<|Dsk 40 rfl<|Dsk 41 rfl<|Dsk 42 rfl<|Dsk 43 rfl<|Dsk 44 rfl<|Dsk 45 rfl<|Dsk 46 rfl<|Dsk 47 rfl<|Dsk 48 rfl<|Dsk 49 rfl<|Dsk 50 rfl<|Dsk 51 rfl<|Dsk 52 rfl<|Dyp 53 rfl (K7 rfl rfl)<|n9 kr<|Et<|r6 rfl<|Ew Z1<|Ei rfl ?_
      exact Eu<|E.ret<|i9<|u6<|i9<|i9<|u6<|i9<|Fb rfl rfl (by exact a9r (q := (j8, d4)) om (b9r q51b))
     ·have q51b : stU (d7.take g) d7[g].1 = false := by rw [← b3I]; exact q51
      refine Dyp 19 rfl (L8 rfl rfl)<|Dm 20 rfl<|Dm 21 rfl<|Dm 22 rfl<|Dyp 23 rfl (z8 us_Steps ty_Step rfl ea35 rfl g rfl om)<|Df 24 25 fo_Step_1 i7 rfl (Hs (eh35 _) 1 rfl)<|Dm 26 rfl<|Dyp 27 rfl (Y.len us_Methods rfl)<|Dyp 28 rfl (Y.sub rfl rfl om om)<|D0 29 rfl K4 rfl (fun _ => trivial)<|Ent.b (fun q62 => ?_)<|fun q62 => ?_
      ·have j58 := V2 q62
       refine Dyp 30 rfl (Y.not (b := true) rfl)<|Dyp 31 rfl (L8 rfl rfl)<|Dm 32 rfl<|Dm 33 rfl<|Dm 34 rfl<|Dm 35 rfl<|Dyp 36 rfl (z8 us_Steps ty_Step rfl ea35 rfl g rfl om)<|Df 37 38 fo_Step_1 i7 rfl (Hs (eh35 _) 1 rfl) ?_
       obtain ⟨eb72, eo72, ec72, ea72, er72, el72, eh72⟩ := hl.elem d7[g].2.toNat om
       obtain ⟨xa72_0, xc72_0, rfl, ei72_0, xh72_0, ei72_2, ei72_3, ei72_4⟩ := P5 er72
       have := xh72_0.slen.2
       refine Dyp 39 rfl (z8 us_Methods ty_Method rfl ea72 rfl d7[g].2.toNat om om)<|Dy 40 rfl (k7 (cs := [_, _, _, _, _]) ty_Method rfl (eh72 _) rfl)<|Df 41 42 fo_Query_1 ty_Atoms rfl (Hz (mS<|mS m0) 1 rfl)<|Dm 43 rfl<|Dm 44 rfl<|Dyp 45 rfl (z8 us_Steps ty_Step rfl ea35 rfl g rfl om)<|Df 46 47 fo_Step_0 i7 rfl (Hs (eh35 _) 0 rfl) ?_
       obtain ⟨eb81, eo81, ec81, ea81, er81, el81, eh81⟩ := z7.elem d7[g].1.toNat om
       obtain ⟨xa81_0, xc81_0, rfl, ei81_0, xh81_0⟩ := L5 er81
       have := xh81_0.slen.2
       refine Dyp 48 rfl (z8 us_Atoms ty_Atom rfl ea81 rfl d7[g].1.toNat om om)<|Dy 49 rfl (k7 (cs := [_, _]) ty_Atom rfl (eh81 _) rfl)<|Dm 50 rfl<|D0 51 rfl a5A rfl (fun hA => ⟨ei72_0, hA.ro xh72_0, ei72_2, ei72_3, ei72_4, ei81_0, hA.ro xh81_0, hA.ow<|mS m0⟩)<|Ent.b (fun q84 => ?_)<|fun q84 => ?_
       ·have q84b : O4 (l.getD d7[g].2.toNat (0, [], 0, 0, 0)) (atA d4 d7[g].1) (stB d4 (d7.take g)) = true := by rw [J5 (show d7[g].2.toNat < l.length by omega), a1K (show d7[g].1.toNat < d4.length by omega), ← b7P]; exact q84
        have jt3 := jq.2.2 _ (List.getElem_mem (show d7[g].1.toNat < d4.length by omega))
        refine Dyp 52 rfl (Y.not (b := true) rfl)<|Dyp 53 rfl (L8 rfl rfl)<|n9 kr<|Et<|Cf<|Ew Z9<|Em rfl<|Em rfl<|Em rfl<|Ix us_Steps ty_Step rfl ea35 g rfl om<|Lf fo_Step_0 i7 rfl (Hs (eh35 _) 0 rfl)<|Est rfl (Nb [_] [_] us_Is i7 rfl rfl)<|fun b93 _ => f5<|Est rfl (B0 (E := Enc.int) (ex := d7[g].1) us_Is i7 rfl rfl rfl (Own.int ei35_0) rfl bn bn dc)<|fun p94 _ => Ei rfl<|Eu<|D.region (fun j => true) mixed<|Dm 0 rfl<|Df 1 2 fo_Query_1 ty_Atoms rfl (Hz (mS<|mS m0) 1 rfl)<|Dm 3 rfl<|Dm 4 rfl<|Dyp 5 rfl (z8 us_Steps ty_Step rfl ea35 rfl g rfl om)<|Df 6 7 fo_Step_0 i7 rfl (Hs (eh35 _) 0 rfl)<|Dyp 8 rfl (z8 us_Atoms ty_Atom rfl ea81 rfl d7[g].1.toNat om om)<|Dy 9 rfl (k7 (cs := [_, _]) ty_Atom rfl (eh81 _) rfl)<|Dl 10 rfl (a6D fc fc) rfl (fun hA => ⟨hA.ow<|mS m0, ei81_0, hA.ro xh81_0⟩)<|fun a105 c105 l105 => ?_
        refine Dyp 11 rfl (G7 rfl)<|n9 kr<|o6<|Et<|Ez Z3<|Em rfl<|Yad rfl om om<|Ei rfl<|Eu<|i8<|Ent.drop<|g9 (congrArg (ow eIs [_]) (show _ = stV d4 (d7.take<|g + 1) from by first | exact b2q om | (have e := b2Q (d9 := d4) (d7 := d7) (g := g) om; rw [a1K (show d7[g].1.toNat < d4.length by omega)] at e; exact e)))<|f5<|g9 (congrArg (ow eIs [_]) (show _ = (d7.take<|g + 1).map fun x => x.1 from by first | exact b2q om | (have e := b2Q (d9 := d4) (d7 := d7) (g := g) om; rw [a1K (show d7[g].1.toNat < d4.length by omega)] at e; exact e)))<|i8<|i8<|i8 ?_
        exact Ea (g + 1, a105, _, c105, p94.1, (((d7.take g).map fun x => x.1).length + 1), p94.2) ⟨oz, (show U8 l d4 d7 (g + 1) = true from by exact b6P om pa (b9M q42 q51b q62 q84b))⟩
       ·have q84b : O4 (l.getD d7[g].2.toNat (0, [], 0, 0, 0)) (atA d4 d7[g].1) (stB d4 (d7.take g)) = false := by rw [J5 (show d7[g].2.toNat < l.length by omega), a1K (show d7[g].1.toNat < d4.length by omega), ← b7P]; exact q84
        refine Dyp 52 rfl (Y.not (b := false) rfl)<|Dyp 53 rfl (L8 rfl rfl)<|n9 kr<|Et<|r6 rfl<|Ew Z1<|Ei rfl<|Eu<|E.ret<|i9<|u6<|i9<|i9<|u6<|i9<|Fb rfl rfl (by exact a9r (q := (j8, d4)) om (b9R q84b))
      ·refine Dyp 30 rfl (Y.not (b := false) rfl)<|Dyp 31 rfl (L8 rfl rfl)<|Dm 32 rfl<|Dsk 33 rfl<|Dsk 34 rfl<|Dsk 35 rfl<|Dsk 36 rfl<|Dsk 37 rfl<|Dsk 38 rfl<|Dsk 39 rfl<|Dsk 40 rfl<|Dsk 41 rfl<|Dsk 42 rfl<|Dsk 43 rfl<|Dsk 44 rfl<|Dsk 45 rfl<|Dsk 46 rfl<|Dsk 47 rfl<|Dsk 48 rfl<|Dsk 49 rfl<|Dsk 50 rfl<|Dsk 51 rfl<|Dsk 52 rfl<|Dyp 53 rfl (K7 rfl rfl)<|n9 kr<|Et<|r6 rfl<|Ew Z1<|Ei rfl<|Eu<|E.ret<|i9<|u6<|i9<|i9<|u6<|i9<|Fb rfl rfl (by exact a9r (q := (j8, d4)) om (b9G q62))
    ·refine Dyp 10 rfl (Y.not (b := false) rfl)<|Dm 11 rfl<|Dsk 12 rfl<|Dsk 13 rfl<|Dsk 14 rfl<|Dsk 15 rfl<|Dsk 16 rfl<|Dsk 17 rfl<|Dsk 18 rfl<|Dyp 19 rfl (K7 rfl rfl)<|Dm 20 rfl<|Dsk 21 rfl<|Dsk 22 rfl<|Dsk 23 rfl<|Dsk 24 rfl<|Dsk 25 rfl<|Dsk 26 rfl<|Dsk 27 rfl<|Dsk 28 rfl<|Dsk 29 rfl<|Dsk 30 rfl<|Dyp 31 rfl (K7 rfl rfl)<|Dm 32 rfl<|Dsk 33 rfl<|Dsk 34 rfl<|Dsk 35 rfl<|Dsk 36 rfl<|Dsk 37 rfl<|Dsk 38 rfl<|Dsk 39 rfl<|Dsk 40 rfl<|Dsk 41 rfl<|Dsk 42 rfl<|Dsk 43 rfl<|Dsk 44 rfl<|Dsk 45 rfl<|Dsk 46 rfl<|Dsk 47 rfl<|Dsk 48 rfl<|Dsk 49 rfl<|Dsk 50 rfl ?_
     refine Dsk 51 rfl<|Dsk 52 rfl<|Dyp 53 rfl (K7 rfl rfl)<|n9 kr<|Et<|r6 rfl<|Ew Z1<|Ei rfl<|Eu<|E.ret<|i9<|u6<|i9<|i9<|u6<|i9<|Fb rfl rfl (by exact a9r (q := (j8, d4)) om (b9I q42))
   ·refine Eu<|r7 rfl<|E.exit<|l4<|l4<|w8<|Et<|Ew Z1<|Ei rfl ?_
    exact Eu<|E.ret<|Fb rfl rfl (by exact b8v (q := (j8, d4)) q15 (by show (d7.length : Int) = d4.length; omega) (show ¬ g < d7.length by omega) om pa)
 ·refine Yno false rfl<|Em rfl<|Es rfl<|Es rfl<|Es rfl<|Es rfl<|Es rfl<|Es rfl<|Ypt rfl<|Eu<|r6 rfl<|Ew Z1<|Ei rfl<|Eu<|E.ret<|i9<|Fb rfl rfl (by exact b8i (q := (j8, d4)) q15)
end Go.Proofs.YthapcdhdfaibkaaGreatDoor
end
