import Derived.Test.YthapcdhdfaibkaaGreatDoorT6
import Derived.Test.YthapcdhdfaibkaaGreatDoorBf
namespace Go.Proofs.YthapcdhdfaibkaaGreatDoor
open Go.RowKit
set_option linter.all false
set_option maxHeartbeats 2000000
attribute [local irreducible] Nop Yd Yp Ent Has Tr FnP FnP2 Src M5 U1 V6 W3 G3
variable {x t l0 : Int} {d4 a6 d8 : List IL} {j8 l s f6 vars c6 : List Int} {D9 y8 C6 v6 m_l c_l m_s c_s B5 w5 b_vars m_vars c_vars b_s B9 w4 B3 u4 L7 F9 : Nat} {y9 v7 a_l a_s w6 a_vars w3 t8 F8 : Option Addr}
theorem a5D {a_atoms : Option Addr} {m_atoms c_atoms : Nat} {d9 : List IL} {is_g : FuncId} {is_c : List Value} {D_is : Int → Prop} {is : Int → Bool} (hz : O1 (fun x => x.2.length) d9 ≤ 1048576) (hD_is : ∀ a ∈ d9, ∀ x ∈ a.2, D_is x) : TL Tryz.prog 121 [.slice a_atoms m_atoms c_atoms, .func (.func is_g) #[] is_c.toArray] (fun w L => Ro w L B1 [.slice a_atoms m_atoms c_atoms] d9 ∧ FnP Tryz.prog w L is_g is_c Enc.int a7s D_is is) eIs (u7 is d9) := by
 refine Ti2 Tryz.func121 37 rfl fun w L hR => ?_
 obtain ⟨hatoms, his⟩ := hR
 obtain ⟨rfl, latoms⟩ := hatoms.slen
 refine Ew Z1<|Ei rfl<|Ev Z2<|Est rfl (Nb [] [] us_Is i7 rfl rfl)<|fun b10 _ => Ent.drop<|Ei rfl<|Eu<|Eq_<|Ew Z3<|Em rfl<|Yln us_Atoms rfl<|Em rfl<|Eu<|E.block<|l6 (A := []) (Own.nil (E := Enc.int) (e := tI) (a := (some ⟨b10, 0, none⟩))) rfl<|g9 (congrArg (ow eIs [_]) (show _ = ((d9.take 0).flatMap (fun a : IL => a.2)).filter is from by first | rfl | (simp; done) | grind [u7, a1p, d1, d2, t1, t2]))<|Lo (κ := Nat × SL) (fun g => g.1 ≤ d9.length ∧ True) (fun g => [(1, .func (.func is_g) #[] is_c.toArray), (5, .slice g.2.1 g.2.2.1 g.2.2.2), (11, .slice a_atoms d9.length c_atoms), (12, .int .i64 (↑d9.length : Int)), (13, .int .i64 (↑g.1 : Int))]) (fun g => [ow eIs [.slice g.2.1 g.2.2.1 g.2.2.2]<|((d9.take g.1).flatMap (fun a : IL => a.2)).filter is]) (fun g => d9.length - g.1) (0, (some ⟨b10, 0, none⟩), 0, 0) ⟨Nat.zero_le _, by simp⟩<|fun g pg => ?_
 obtain ⟨g, aA0_0, mA0_0, cA0_0⟩ := g
 try dsimp only at pg
 try dsimp only
 obtain ⟨pk, pa⟩ := pg
 have jt := b5Z (is := is) (g := g) hz
 refine r8 m0 ?_
 rintro rfl laA0_0
 refine Ew Z1<|Ylt rfl<|l3 (fun q14 => ?_)<|fun q14 => ?_
 ·obtain ⟨eb15, eo15, ec15, ea15, er15, el15, eh15⟩ := hatoms.elem g om
  obtain ⟨xa15_0, xc15_0, rfl, ei15_0, xh15_0⟩ := L5 er15
  have := xh15_0.slen.2
  refine Eu<|Eq_<|Ct<|Eq_<|E.block<|Ew Z4<|Ix us_Atoms ty_Atom rfl ea15 g rfl om<|Ey rfl (k7 (cs := [_, _]) ty_Atom rfl (eh15 _) rfl)<|Est rfl (N.alloc ty_Atom dc)<|fun b7 _ => Est rfl (Ns [_, _] ty_Atom rfl)<|fun _ _ => Ev Z4<|Lz fo_Atom_1 ty_Is rfl m0 rfl<|Yln us_Is rfl<|Em rfl<|Eu<|E.block<|f5<|g9 (congrArg (ow eIs [_]) (show _ = ((d9.take g).flatMap (fun a : IL => a.2)).filter is ++ (d9[g].2.take 0).filter is from by first | rfl | (simp; done) | grind [u7, a1p, d1, d2, t1, t2]))<|Lo (κ := Nat × SL) (fun h => h.1 ≤ d9[g].2.length ∧ True) (fun h => [(1, .func (.func is_g) #[] is_c.toArray), (5, .slice h.2.1 h.2.2.1 h.2.2.2), (11, .slice a_atoms d9.length c_atoms), (12, .int .i64 (↑d9.length : Int)), (13, .int .i64 (g : Int)), (18, .slice xa15_0 d9[g].2.length xc15_0), (19, .int .i64 (↑d9[g].2.length : Int)), (20, .int .i64 (↑h.1 : Int))]) (fun h => [ow eIs [.slice h.2.1 h.2.2.1 h.2.2.2]<|((d9.take g).flatMap (fun a : IL => a.2)).filter is ++ (d9[g].2.take h.1).filter is, pt b7 111 [.int .i64 d9[g].1, .slice xa15_0 d9[g].2.length xc15_0]]) (fun h => d9[g].2.length - h.1) (0, aA0_0, (((d9.take g).flatMap (fun a : IL => a.2)).filter is).length, cA0_0) ⟨Nat.zero_le _, by simp⟩<|fun h ph => ?_
  obtain ⟨h, aA1_0, mA1_0, cA1_0⟩ := h
  try dsimp only at ph
  try dsimp only
  obtain ⟨pk, pa⟩ := ph
  have ju := a9A (is := is) (g := g) (h := h) hz om
  refine r8 m0 ?_
  rintro rfl laA1_0
  refine Ew Z1<|Ylt rfl<|l3 (fun q21 => ?_)<|fun q21 => ?_
  ·obtain ⟨eb22, eo22, ea22, ei22, eh22⟩ := xh15_0.elemI h om
   refine Eu<|Eq_<|Ct<|Eq_<|E.block<|Ew Z3<|Il us_Is i7 rfl ea22 h rfl om rfl (eh22 _)<|Ei rfl<|Ev Z3<|Em rfl<|Em rfl<|Est rfl (N.fn (cs := [_]) his rfl rfl rfl dc (fun w Lp hA => Y1 ei22)<|hD_is d9[g] (List.getElem_mem om) _<|List.getElem_mem om)<|fun _ _ => Ent.b (fun q26 => ?_)<|fun q26 => ?_
   ·refine Eu<|r6 rfl<|Ez Z5<|Em rfl<|Em rfl<|Est rfl (Nb [_] [_] us_Is i7 rfl rfl)<|fun b29 _ => f5<|Est rfl (B0 (E := Enc.int) (ex := d9[g].2[h]) us_Is i7 rfl rfl rfl (Own.int ei22) rfl bn bn dc)<|fun p30 _ => Ei rfl<|En<|o6<|Et<|Ez Z2<|Yad rfl om om<|Em rfl<|Eu<|g9 (congrArg (ow eIs [_]) (show _ = ((d9.take g).flatMap (fun a : IL => a.2)).filter is ++ (d9[g].2.take<|h + 1).filter is from by grind [u7, a1p, d1, d2, t1, t2]))<|f5<|f5 ?_
    exact Ea (h + 1, p30.1, ((((d9.take g).flatMap (fun a : IL => a.2)).filter is ++ (d9[g].2.take h).filter is).length + 1), p30.2) ⟨oz, trivial⟩
   ·refine Eu<|r7 rfl<|v8<|o6<|Et<|Ez Z2<|Yad rfl om om<|Em rfl<|Eu<|g9 (congrArg (ow eIs [_]) (show _ = ((d9.take g).flatMap (fun a : IL => a.2)).filter is ++ (d9[g].2.take<|h + 1).filter is from by grind [u7, a1p, d1, d2, t1, t2]))<|f5<|f5 ?_
    exact Ea (h + 1, aA1_0, _, cA1_0) ⟨oz, trivial⟩
  ·refine Eu<|Eq_<|r7 rfl<|E.exit<|l4<|l4<|w8<|o6<|Et<|Ez Z2<|Yad rfl om om<|Em rfl<|Eu<|f5<|Ent.drop<|g9 (congrArg (ow eIs [_]) (show _ = ((d9.take<|g + 1).flatMap (fun a : IL => a.2)).filter is from by grind [u7, a1p, d1, d2, t1, t2])) ?_
   exact Ea (g + 1, aA1_0, _, cA1_0) ⟨oz, trivial⟩
 ·refine Eu<|Eq_<|r7 rfl<|E.exit<|l4<|l4<|w8<|Et<|Ew Z2<|Em rfl<|Est rfl (N.call (pre := [_]) (b8L fc) rfl rfl rfl dc rfl tv)<|fun _ _ => Ev Z3<|Em rfl<|Est rfl (N.call (pre := [_]) b4M rfl rfl rfl dc rfl tv)<|fun k36 _ => ?_
  obtain ⟨a36, m36, c36⟩ := k36
  refine r8 m0 ?_
  rintro rfl l36
  refine Ei rfl<|Eu<|E.ret<|g9 (congrArg (ow eIs [_]) (show _ = u7 is d9 by rw [a1p]; grind [u7, d1, d2, t1, t2]))<|Fg rfl rfl (_, _, _) rfl rfl
theorem a3U (hz : O1 (fun x => x.2.length) d4 ≤ 1048576) : TL Tryz.prog 108 [.agg #[.slice y9 D9 y8, .slice v7 C6 v6]] (fun w L => Ro w L eIs [.slice y9 D9 y8] j8 ∧ Ro w L B1 [.slice v7 C6 v6] d4) eIs (u7 (fun t => inR t 10 17) d4) := by
 refine Ti1 Tryz.func108 6 rfl fun w L hR => ?_
 obtain ⟨C0, z7⟩ := hR
 obtain ⟨rfl, W8⟩ := C0.slen
 obtain ⟨rfl, U3⟩ := z7.slen
 refine Ew Z2<|Est rfl (N.box (cs := [_, _]) rfl dc rfl)<|fun b1 _ => Ei rfl<|Ev Z4<|Lz fo_Query_1 ty_Atoms rfl m0 rfl<|El rfl (a5D (is := (fun t => inR t 10 17)) (D_is := (fun _ => True)) fc (by intros; exact trivial)) rfl (fun hA => ⟨hA.ro z7, a2q (D := (fun _ => True)) (RR := fun _ _ => True) (fun hd => b7U a0Q<|fun _ _ _ => trivial)<|fun w' hk => trivial⟩)<|fun a5 c5 l5 => Ei rfl<|Eu<|E.ret<|Fg rfl rfl (_, _, _) rfl rfl
theorem a0s : TB Tryz.prog 99 [.slice a_l m_l c_l, .int .i64 x] (fun w L => Ro w L eIs [.slice a_l m_l c_l] l) (I8 l x) := by
 refine Ti2 Tryz.func99 18 rfl fun w L hR => ?_
 have hl := hR
 obtain ⟨rfl, ll⟩ := hl.slen
 refine Ew Z1<|Ei rfl<|Eu<|Eq_<|Ew Z1<|Ei rfl<|Eu<|E.block<|Lo (κ := Nat) (fun g => g ≤ l.length ∧ I8 l x = I8 (l.drop g) x) (fun g => [(0, .slice a_l l.length c_l), (1, .int .i64 x), (5, .int .i64 (g : Int))]) (fun g => []) (fun g => l.length - g) 0 ⟨Nat.zero_le _, by simp⟩<|fun g pg => ?_
 obtain ⟨pk, pa⟩ := pg
 refine Eq_<|Ew Z4<|Em rfl<|Em rfl<|Yln us_Is rfl<|Ylt rfl<|l3 (fun q9 => ?_)<|fun q9 => ?_
 ·refine Eu<|Ct<|Eq_<|E.block<|Ew Z6<|Em rfl<|Em rfl ?_
  obtain ⟨eb14, eo14, ea14, ei14, eh14⟩ := hl.elemI g om
  refine Il us_Is i7 rfl ea14 g rfl om rfl (eh14 _)<|Em rfl<|Yeq rfl<|l3 (fun q17 => ?_)<|fun q17 => ?_
  ·refine Eu<|r6 rfl<|Ew Z1<|Ei rfl<|Eu<|E.ret<|u6<|i9<|i9<|u6<|i9<|Fb rfl rfl (by grind [I8, d1, d2, t1, t2])
  ·refine Eu<|r7 rfl<|v8<|o6<|Et<|Ez Z3<|Em rfl<|Yad rfl om om<|Ei rfl ?_
   exact Eu<|t7 br (g + 1) rs (.refl _) ⟨by omega, by grind [I8, d1, d2, t1, t2]⟩ om
 ·refine Eu<|r7 rfl<|E.exit<|l4<|l4<|w8<|Et<|Ew Z1<|Ei rfl<|Eu<|E.ret<|Fb rfl rfl (by grind [I8, d1, d2, t1, t2])
theorem a7t (hz : l.length ≤ 1073741824) : Tr Tryz.prog 169 [.slice a_l m_l c_l, .int .i64 x] (fun w L => I64 x) [ow eIs [.slice a_l m_l c_l] l] (κ := SL) (fun k => True) (fun k => .slice k.1 k.2.1 k.2.2) (fun k => [ow eIs [.slice k.1 k.2.1 k.2.2] (R5 l x)]) := by
 refine Ti2 Tryz.func169 47 rfl fun w L hR => ?_
 have i6x := hR
 refine r8 m0 ?_
 rintro rfl ll
 refine Ew Z1<|Ei rfl<|Eu<|Eq_<|Ew Z3<|Em rfl<|Em rfl<|E0 rfl a0s rfl (fun hA => hA.ow m0)<|Ent.b (fun q10 => ?_)<|fun q10 => ?_
 ·refine Eu<|r6 rfl<|Ew Z2<|Em rfl<|Ei rfl<|Eu<|E.ret<|i9<|g9 (congrArg (ow eIs [_]) (show _ = R5 l x by grind [R5, X4, Y3, a0u, d1, d2, t1, t2]))<|Fg rfl rfl (_, _, _) rfl rfl
 ·refine O0 (A := [_]) rfl fun wb1 Lb1 hB1 hA1 => ?_
  have rb1 : Ro wb1 Lb1 eIs [.slice a_l l.length c_l] l := hA1.ow m0
  refine Eu<|Cf<|Ew Z2<|Est rfl (Nb [] [] us_Is i7 rfl rfl)<|fun b12 _ => Ent.drop<|Ei rfl<|Ev Z1<|Ei rfl<|Eu<|Eq_<|Ew Z1<|Ei rfl<|Eu<|E.block<|l6 (A := []) (Own.nil (E := Enc.int) (e := tI) (a := (some ⟨b12, 0, none⟩))) rfl<|g9 (congrArg (ow eIs [_]) (show _ = R9 (fun y => decide (x < y)) x (l.take 0) from by first | rfl | (simp; done) | grind [R5, X4, Y3, a0u, d1, d2, t1, t2]))<|E.loop (κ := Nat × SL) (fun g => g.1 ≤ l.length ∧ True) (fun g => [(0, .slice a_l l.length c_l), (1, .int .i64 x), (5, .slice g.2.1 g.2.2.1 g.2.2.2), (6, .bool<|(l.take g.1).any (fun y => decide (x < y))), (7, .int .i64 (↑g.1 : Int))]) (fun g => [ow eIs [.slice g.2.1 g.2.2.1 g.2.2.2]<|R9 (fun y => decide (x < y)) x<|l.take g.1]) (fun g => l.length - g.1) (0, (some ⟨b12, 0, none⟩), 0, 0) ⟨Nat.zero_le _, by simp⟩ ⟨rfl, rfl, rfl, frB (by first | rfl | (simp; done) | grind [R5, X4, Y3, a0u, d1, d2, t1, t2]), rfl, trivial⟩ (.refl _)<|fun g pg => ?_
  obtain ⟨g, aA0_0, mA0_0, cA0_0⟩ := g
  try dsimp only at pg
  try dsimp only
  obtain ⟨pk, pa⟩ := pg
  have jp := List.length_take_le g l
  have ji := a6d (p := (fun y => decide (x < y))) (f := x) (l := l.take g)
  refine r8 m0 ?_
  rintro rfl laA0_0
  refine Eq_<|Ew Z4<|Em rfl<|Em rfl<|Yln us_Is rfl<|Ylt rfl<|l3 (fun q16 => ?_)<|fun q16 => ?_
  ·refine Eu<|Ct<|Eq_<|E.block<|Eq_<|Ew Z10<|Em rfl<|Ent.b (fun q19 => ?_)<|fun q19 => ?_
   ·refine Yno true rfl<|Em rfl<|Es rfl<|Es rfl<|Es rfl<|Es rfl<|Es rfl<|Es rfl<|Ypf rfl<|Eu<|Cf<|Ez Z8<|Em rfl<|Em rfl<|Em rfl ?_
    obtain ⟨eb36, eo36, ea36, ei36, eh36⟩ := rb1.elemI g om
    refine Il us_Is i7 rfl ea36 g rfl om rfl (eh36 _)<|Est rfl (Nb [_] [_] us_Is i7 rfl rfl)<|fun b38 _ => f5<|Est rfl (B0 (E := Enc.int) (ex := l[g]) us_Is i7 rfl rfl rfl (Own.int ei36) rfl bn bn dc)<|fun p39 _ => Ei rfl<|En<|o6<|Et<|Ez Z3<|Em rfl<|Yad rfl om om<|Ei rfl<|Eu<|g9 (congrArg (ow eIs [_]) (show _ = R9 (fun y => decide (x < y)) x (l.take<|g + 1) from by grind [R5, X4, Y3, a0u, d1, d2, t1, t2])) ?_
    exact t7 br (g + 1, p39.1, ((R9 (fun y => decide (x < y)) x<|l.take g).length + 1), p39.2) ⟨rfl, rfl, rfl, frB (by grind [R5, X4, Y3, a0u, d1, d2, t1, t2]), rfl, trivial⟩ (.refl _) ⟨oz, trivial⟩ oz
   ·refine Yno false rfl<|Em rfl<|Em rfl<|Em rfl ?_
    obtain ⟨eb24, eo24, ea24, ei24, eh24⟩ := rb1.elemI g om
    refine Il us_Is i7 rfl ea24 g rfl om rfl (eh24 _)<|Em rfl<|Ey rfl ((Y.gtr rfl rfl).yd)<|l3 (fun q27 => ?_)<|fun q27 => ?_
    ·refine Ypt rfl<|Eu<|r6 rfl<|Ew Z5<|Em rfl<|Em rfl<|Est rfl (Nb [_] [_] us_Is i7 rfl rfl)<|fun b31 _ => f5<|Est rfl (B0 (E := Enc.int) (ex := x) us_Is i7 rfl rfl rfl (Own.int i6x) rfl bn bn dc)<|fun p32 _ => Ei rfl<|Eu<|Ez Z1<|Ei rfl<|Eu<|Ez Z8<|Em rfl<|Em rfl<|Em rfl<|Il us_Is i7 rfl ea24 g rfl om rfl (eh24 _)<|Est rfl (Nb [_] [_] us_Is i7 rfl rfl)<|fun b38 _ => f5<|Est rfl (B0 (E := Enc.int) (ex := l[g]) us_Is i7 rfl rfl rfl (Own.int ei24) rfl bn bn dc)<|fun p39 _ => Ei rfl<|En<|o6<|Et<|Ez Z3<|Em rfl<|Yad rfl om om<|Ei rfl<|Eu<|g9 (congrArg (ow eIs [_]) (show _ = R9 (fun y => decide (x < y)) x (l.take<|g + 1) from by grind [R5, X4, Y3, a0u, d1, d2, t1, t2])) ?_
     exact t7 br (g + 1, p39.1, (((R9 (fun y => decide (x < y)) x<|l.take g).length + 1) + 1), p39.2) ⟨rfl, rfl, rfl, frB (by grind [R5, X4, Y3, a0u, d1, d2, t1, t2]), rfl, trivial⟩ (.refl _) ⟨oz, trivial⟩ oz
    ·refine Ypt rfl<|Eu<|Cf<|Ez Z8<|Em rfl<|Em rfl<|Em rfl<|Il us_Is i7 rfl ea24 g rfl om rfl (eh24 _)<|Est rfl (Nb [_] [_] us_Is i7 rfl rfl)<|fun b38 _ => f5<|Est rfl (B0 (E := Enc.int) (ex := l[g]) us_Is i7 rfl rfl rfl (Own.int ei24) rfl bn bn dc)<|fun p39 _ => Ei rfl<|En<|o6<|Et<|Ez Z3<|Em rfl<|Yad rfl om om<|Ei rfl<|Eu<|g9 (congrArg (ow eIs [_]) (show _ = R9 (fun y => decide (x < y)) x (l.take<|g + 1) from by grind [R5, X4, Y3, a0u, d1, d2, t1, t2])) ?_
     exact t7 br (g + 1, p39.1, ((R9 (fun y => decide (x < y)) x<|l.take g).length + 1), p39.2) ⟨rfl, rfl, rfl, frB (by grind [R5, X4, Y3, a0u, d1, d2, t1, t2]), rfl, trivial⟩ (.refl _) ⟨oz, trivial⟩ oz
  ·refine Eu<|r7 rfl<|E.exit<|l4<|l4<|w8<|Et<|Eq_<|Ew Z2<|Em rfl<|Ent.b (fun q40 => ?_)<|fun q40 => ?_
   ·refine Yno true rfl<|Eu<|Cf<|Ew Z2<|Em rfl<|Ei rfl<|Eu<|E.ret<|g9 (congrArg (ow eIs [_]) (show _ = R5 l x by grind [R5, X4, Y3, a0u, d1, d2, t1, t2]))<|F.r1 hB1 rfl rfl (_, _, _) trivial rfl (J := _) (.refl _)<|.inl rfl
   ·refine Yno false rfl<|Eu<|r6 rfl<|Ez Z5<|Em rfl<|Em rfl<|Est rfl (Nb [_] [_] us_Is i7 rfl rfl)<|fun b44 _ => f5<|Est rfl (B0 (E := Enc.int) (ex := x) us_Is i7 rfl rfl rfl (Own.int i6x) rfl bn bn dc)<|fun p45 _ => Ei rfl<|Ev Z2<|Em rfl<|Ei rfl<|Eu<|E.ret<|g9 (congrArg (ow eIs [_]) (show _ = R5 l x by grind [R5, X4, Y3, a0u, d1, d2, t1, t2]))<|F.r1 hB1 rfl rfl (_, _, _) trivial rfl (J := _) (.refl _)<|.inl rfl
theorem a0A (hz : O1 (fun x => x.2.length) d4 ≤ 1048576) : TL Tryz.prog 96 [.agg #[.slice y9 D9 y8, .slice v7 C6 v6]] (fun w L => Ro w L eIs [.slice y9 D9 y8] j8 ∧ Ro w L B1 [.slice v7 C6 v6] d4) eIs (u7 (fun t => inR t 10 17) d4) := by
 refine Ti1 Tryz.func96 47 rfl fun w L hR => ?_
 obtain ⟨C0, z7⟩ := hR
 obtain ⟨rfl, W8⟩ := C0.slen
 obtain ⟨rfl, U3⟩ := z7.slen
 have jv := z7.i64A
 refine Ew Z2<|Est rfl (N.box (cs := [_, _]) rfl dc rfl)<|fun b1 _ => Ei rfl<|Ev Z2<|Est rfl (Nb [] [] us_Is i7 rfl rfl)<|fun b6 _ => Ent.drop<|Ei rfl<|Eu<|Eq_<|Ew Z1<|Ei rfl<|Eu<|E.block<|l6 (A := []) (Own.nil (E := Enc.int) (e := tI) (a := (some ⟨b6, 0, none⟩))) rfl<|g9 (congrArg (ow eIs [_]) (show _ = a0w (((d4.take 0).flatMap (fun a : IL => a.2)).filter (fun t => inR t 10 17)) from by first | rfl | (simp; done) | grind [u7, a2I, a2U, d1, d2, t1, t2]))<|Lo (κ := Nat × SL) (fun g => g.1 ≤ d4.length ∧ True) (fun g => [(1, .pointer<|some ⟨b1, 0, none⟩), (3, .slice g.2.1 g.2.2.1 g.2.2.2), (4, .int .i64 (↑g.1 : Int))]) (fun g => [ow eIs [.slice g.2.1 g.2.2.1 g.2.2.2]<|a0w<|((d4.take g.1).flatMap (fun a : IL => a.2)).filter (fun t => inR t 10 17), pt b1 28 [.slice y9 j8.length y8, .slice v7 d4.length v6]]) (fun g => d4.length - g.1) (0, (some ⟨b6, 0, none⟩), 0, 0) ⟨Nat.zero_le _, by simp⟩<|fun g pg => ?_
 obtain ⟨g, aA0_0, mA0_0, cA0_0⟩ := g
 try dsimp only at pg
 try dsimp only
 obtain ⟨pk, pa⟩ := pg
 refine r8 m0 ?_
 rintro rfl laA0_0
 refine Eq_<|Ew Z5<|Em rfl<|Lz fo_Query_1 ty_Atoms rfl (mS m0) rfl<|Yln us_Atoms rfl<|Ylt rfl<|l3 (fun q11 => ?_)<|fun q11 => ?_
 ·refine Eu<|Ct<|Eq_<|E.block<|Ew Z1<|Ei rfl<|Eu<|E.block<|g9 (congrArg (ow eIs [_]) (show _ = a0w (((d4.take g).flatMap (fun a : IL => a.2)).filter (fun t => inR t 10 17) ++ (d4[g].2.take 0).filter (fun t => inR t 10 17)) from by first | rfl | (simp; done) | grind [u7, a2I, a2U, d1, d2, t1, t2]))<|Lo (κ := Nat × SL) (fun h => h.1 ≤ d4[g].2.length ∧ True) (fun h => [(1, .pointer<|some ⟨b1, 0, none⟩), (3, .slice h.2.1 h.2.2.1 h.2.2.2), (4, .int .i64 (g : Int)), (5, .int .i64 (↑h.1 : Int))]) (fun h => [ow eIs [.slice h.2.1 h.2.2.1 h.2.2.2]<|a0w<|((d4.take g).flatMap (fun a : IL => a.2)).filter (fun t => inR t 10 17) ++ (d4[g].2.take h.1).filter (fun t => inR t 10 17), pt b1 28 [.slice y9 j8.length y8, .slice v7 d4.length v6]]) (fun h => d4[g].2.length - h.1) (0, aA0_0, (a0w<|((d4.take g).flatMap (fun a : IL => a.2)).filter (fun t => inR t 10 17)).length, cA0_0) ⟨Nat.zero_le _, by simp⟩<|fun h ph => ?_
  obtain ⟨h, aA1_0, mA1_0, cA1_0⟩ := h
  try dsimp only at ph
  try dsimp only
  obtain ⟨pk, pa⟩ := ph
  have ju := a9A (is := (fun t => inR t 10 17)) (g := g) (h := h) hz om
  have jw := b2b (l := ((d4.take g).flatMap (fun a : IL => a.2)).filter (fun t => inR t 10 17) ++ (d4[g].2.take h).filter (fun t => inR t 10 17))
  refine r8 m0 ?_
  rintro rfl laA1_0
  refine Eq_<|Ew Z9<|Em rfl<|Lz fo_Query_1 ty_Atoms rfl (mS m0) rfl<|Em rfl ?_
  obtain ⟨eb18, eo18, ec18, ea18, er18, el18, eh18⟩ := z7.elem g om
  obtain ⟨xa18_0, xc18_0, rfl, ei18_0, xh18_0⟩ := L5 er18
  have := xh18_0.slen.2
  refine Ix us_Atoms ty_Atom rfl ea18 g rfl om<|Lf fo_Atom_1 ty_Is rfl (Hs (eh18 _) 1 rfl)<|Yln us_Is rfl<|Ylt rfl<|l3 (fun q22 => ?_)<|fun q22 => ?_
  ·refine Eu<|Ct<|Eq_<|E.block<|Ew Z10<|Lz fo_Query_1 ty_Atoms rfl (mS m0) rfl<|Em rfl<|Ix us_Atoms ty_Atom rfl ea18 g rfl om<|Lf fo_Atom_1 ty_Is rfl (Hs (eh18 _) 1 rfl)<|Em rfl ?_
   obtain ⟨eb32, eo32, ea32, ei32, eh32⟩ := xh18_0.elemI h om
   refine Il us_Is i7 rfl ea32 h rfl om rfl (eh32 _)<|E0 rfl Z0 rfl (fun _ => trivial)<|Ent.b (fun q34 => ?_)<|fun q34 => ?_
   ·refine Eu<|r6 rfl<|Ez Z12<|Em rfl<|Lz fo_Query_1 ty_Atoms rfl (mS m0) rfl<|Em rfl<|Ix us_Atoms ty_Atom rfl ea18 g rfl om<|Lf fo_Atom_1 ty_Is rfl (Hs (eh18 _) 1 rfl)<|Em rfl<|Il us_Is i7 rfl ea32 h rfl om rfl (eh32 _)<|Est rfl (N.call (pre := [_]) (a7t fc) rfl rfl rfl dc rfl<|fun w Lp hA => ei32)<|fun k45 _ => ?_
    obtain ⟨a45, m45, c45⟩ := k45
    refine r8 m0 ?_
    rintro rfl l45
    refine Ei rfl<|En<|o6<|Et<|Ez Z3<|Em rfl<|Yad rfl om om<|Ei rfl<|Eu<|g9 (congrArg (ow eIs [_]) (show _ = a0w (((d4.take g).flatMap (fun a : IL => a.2)).filter (fun t => inR t 10 17) ++ (d4[g].2.take<|h + 1).filter (fun t => inR t 10 17)) from by grind [u7, a2I, a2U, d1, d2, t1, t2]))<|f5<|f5 ?_
    exact Ea (h + 1, a45, _, c45) ⟨oz, trivial⟩
   ·refine Eu<|r7 rfl<|v8<|o6<|Et<|Ez Z3<|Em rfl<|Yad rfl om om<|Ei rfl<|Eu<|g9 (congrArg (ow eIs [_]) (show _ = a0w (((d4.take g).flatMap (fun a : IL => a.2)).filter (fun t => inR t 10 17) ++ (d4[g].2.take<|h + 1).filter (fun t => inR t 10 17)) from by grind [u7, a2I, a2U, d1, d2, t1, t2]))<|f5<|f5 ?_
    exact Ea (h + 1, aA1_0, _, cA1_0) ⟨oz, trivial⟩
  ·refine Eu<|r7 rfl<|E.exit<|l4<|l4<|w8<|o6<|Et<|Ez Z3<|Em rfl<|Yad rfl om om<|Ei rfl<|Eu<|g9 (congrArg (ow eIs [_]) (show _ = a0w (((d4.take<|g + 1).flatMap (fun a : IL => a.2)).filter (fun t => inR t 10 17)) from by grind [u7, a2I, a2U, d1, d2, t1, t2]))<|f5<|f5 ?_
   exact Ea (g + 1, aA1_0, _, cA1_0) ⟨oz, trivial⟩
 ·refine Eu<|r7 rfl<|E.exit<|l4<|l4<|w8<|Et<|Ew Z2<|Em rfl<|Ei rfl<|Eu<|E.ret<|g9 (congrArg (ow eIs [_]) (show _ = u7 (fun t => inR t 10 17) d4 by grind [u7, a2I, a2U, d1, d2, t1, t2]))<|Fg rfl rfl (_, _, _) rfl rfl
theorem b1y : TB Tryz.prog 310 [.int .i64 t] (fun w L => True) (L6 t) := by
 refine Ti1 Tryz.func310 9 rfl fun w L hR => Ew Z1<|Ei rfl<|Ev Z7<|Em rfl<|E0 rfl a5y rfl (fun _ => trivial)<|Ent.b (fun q4 => ?_)<|fun q4 => ?_
 ·refine Em rfl<|Es rfl<|Es rfl<|Ypt rfl<|Ei rfl<|Eu<|E.ret<|Fb rfl rfl (by grind [L6, d1, d2, t1, t2])
 ·refine Em rfl<|Em rfl<|E0 rfl a0Q rfl (fun _ => trivial)<|Ypf rfl<|Ei rfl<|Eu<|E.ret<|Fb rfl rfl (by grind [L6, d1, d2, t1, t2])
theorem a6C : TB Tryz.prog 211 [.int .i64 t] (fun w L => True) (L6 t) := by
 refine Ti1 Tryz.func211 9 rfl fun w L hR => Ew Z1<|Ei rfl<|Ev Z7<|Em rfl<|E0 rfl K4 rfl (fun _ => trivial)<|Ent.b (fun q4 => ?_)<|fun q4 => ?_
 ·refine Em rfl<|Es rfl<|Es rfl<|Ypt rfl<|Ei rfl<|Eu<|E.ret<|Fb rfl rfl (by grind [L6, d1, d2, t1, t2])
 ·refine Em rfl<|Em rfl<|E0 rfl Z0 rfl (fun _ => trivial)<|Ypf rfl<|Ei rfl<|Eu<|E.ret<|Fb rfl rfl (by grind [L6, d1, d2, t1, t2])
theorem a8o : TB Tryz.prog 309 [.int .i64 t] (fun w L => (I64 t) ∧ True) (!L6 t) := by
 refine Ti1 Tryz.func309 6 rfl fun w L hR => ?_
 obtain ⟨i6t, _⟩ := hR
 refine Ew Z1<|Ei rfl<|Ev Z4<|Em rfl<|E0 rfl b1y rfl (fun _ => trivial)<|Ey rfl ((Y.not rfl).yd)<|Ei rfl<|Eu<|E.ret<|Fb rfl rfl (by grind [d1, d2, t1, t2])
theorem a5f : TB Tryz.prog 230 [.slice a_l m_l c_l] (fun w L => Ro w L eIs [.slice a_l m_l c_l] l) (!l.any fun t => !L6 t) := by
 refine Ti1 Tryz.func230 6 rfl fun w L hR => ?_
 have hl := hR
 obtain ⟨rfl, ll⟩ := hl.slen
 refine Ew Z1<|Ei rfl<|Ev Z4<|Em rfl<|E0 rfl (X8 (f := (fun t => !L6 t)) (D_f := (fun _ => True)) (by intros; exact trivial)) rfl (fun hA => ⟨hA.ro hl, a2q (D := (fun _ => True)) (fun hd => a8o)<|fun w' hk => trivial⟩)<|Ey rfl ((Y.not rfl).yd)<|Ei rfl<|Eu<|E.ret<|Fb rfl rfl (by grind [d1, d2, t1, t2])
theorem a6L : TB Tryz.prog 119 [.slice a_s m_s c_s, .agg #[.int .i64 l0, .slice w6 B5 w5]] (fun w L => Ro w L eIs [.slice a_s m_s c_s] s ∧ I64 l0 ∧ Ro w L eIs [.slice w6 B5 w5] f6) (K3 s (l0, f6)) := by
 refine Ti2 Tryz.func119 25 rfl fun w L hR => ?_
 obtain ⟨hs, J4, y6⟩ := hR
 obtain ⟨rfl, ls⟩ := hs.slen
 obtain ⟨rfl, Q5⟩ := y6.slen
 refine Ew Z2<|Est rfl (N.box (cs := [_, _]) rfl dc rfl)<|fun b3 _ => Ei rfl<|Eu<|Eq_<|D.region (fun j => true) mixed<|Dm 0 rfl<|Df 1 2 fo_Atom_0 i7 rfl (Hz m0 0 rfl)<|D0 3 rfl a3T rfl (fun hA => hA.ro hs)<|Ent.b (fun q8 => ?_)<|fun q8 => ?_
 ·obtain ⟨z1, z2, _, _⟩ := a0N q8
  refine Dm 4 rfl<|Df 5 6 fo_Atom_1 ty_Is rfl (Hz m0 1 rfl)<|Dyp 7 rfl (Y.len us_Is rfl)<|Dm 8 rfl<|Df 9 10 fo_Atom_0 i7 rfl (Hz m0 0 rfl) ?_
  obtain ⟨eb16, eo16, ea16, ei16, eh16⟩ := hs.elemI l0.toNat om
  refine Dyp 11 rfl (z8 us_Is i7 rfl ea16 rfl l0.toNat om om)<|Dy 12 rfl (B4 i7 rfl (eh16 _) rfl)<|Dyp 13 rfl (Y.eql rfl rfl)<|l3 (fun q18 => ?_)<|fun q18 => ?_
  ·refine Dyp 14 rfl (K7 rfl rfl)<|Dm 15 rfl<|Df 16 17 fo_Atom_1 ty_Is rfl (Hz m0 1 rfl)<|D0 18 rfl a5f rfl (fun hA => hA.ro y6)<|Dyp 19 rfl (K7 rfl rfl)<|Dyp 20 rfl (G7 rfl)<|n9 kr<|Et<|E.ret<|Fb rfl rfl (by grind [K3, H0, d1, d2, t1, t2])
  ·refine Dyp 14 rfl (K7 rfl rfl)<|Dm 15 rfl<|Dsk 16 rfl<|Dsk 17 rfl<|Dsk 18 rfl<|Dyp 19 rfl (L8 rfl rfl)<|Dyp 20 rfl (G7 rfl)<|n9 kr<|Et<|E.ret<|Fb rfl rfl (by grind [K3, H0, d1, d2, t1, t2])
 ·refine Dm 4 rfl<|Dsk 5 rfl<|Dsk 6 rfl<|Dsk 7 rfl<|Dsk 8 rfl<|Dsk 9 rfl<|Dsk 10 rfl<|Dsk 11 rfl<|Dsk 12 rfl<|Dsk 13 rfl<|Dyp 14 rfl (L8 rfl rfl)<|Dm 15 rfl<|Dsk 16 rfl<|Dsk 17 rfl<|Dsk 18 rfl<|Dyp 19 rfl (L8 rfl rfl)<|Dyp 20 rfl (G7 rfl)<|n9 kr<|Et<|E.ret<|Fb rfl rfl (by grind [K3, H0, d1, d2, t1, t2])
theorem a6E : TB Tryz.prog 97 [.slice a_s m_s c_s, .agg #[.int .i64 l0, .slice w6 B5 w5]] (fun w L => Ro w L eIs [.slice a_s m_s c_s] s ∧ I64 l0 ∧ Ro w L eIs [.slice w6 B5 w5] f6) (K3 s (l0, f6)) := by
 refine Ti2 Tryz.func97 43 rfl fun w L hR => ?_
 obtain ⟨hs, J4, y6⟩ := hR
 obtain ⟨rfl, ls⟩ := hs.slen
 obtain ⟨rfl, Q5⟩ := y6.slen
 refine Ew Z2<|Est rfl (N.box (cs := [_, _]) rfl dc rfl)<|fun b3 _ => Ei rfl<|Eu<|Eq_<|Eq_<|D.region (fun j => true) mixed<|Dm 0 rfl<|D0 1 rfl R6 rfl (fun hA => hA.ro hs)<|Ent.b (fun q7 => ?_)<|fun q7 => ?_
 ·refine Dyp 2 rfl (Y.not (b := true) rfl)<|Dm 3 rfl<|Df 4 5 fo_Atom_0 i7 rfl (Hz m0 0 rfl)<|Dm 6 rfl<|Dyp 7 rfl (Y.len us_Is rfl)<|Dyp 8 rfl (Y.sub rfl rfl om om)<|D0 9 rfl K4 rfl (fun _ => trivial)<|Ent.b (fun q15 => ?_)<|fun q15 => ?_
  ·have y1 : P2 s l0 = true := by rw [P2, q7, q15]; rfl
   obtain ⟨z1, z2, _, _⟩ := a0N y1
   refine Dyp 10 rfl (Y.not (b := true) rfl)<|Dyp 11 rfl (L8 rfl rfl)<|Dm 12 rfl<|Df 13 14 fo_Atom_1 ty_Is rfl (Hz m0 1 rfl)<|Dyp 15 rfl (Y.len us_Is rfl)<|Dm 16 rfl<|Df 17 18 fo_Atom_0 i7 rfl (Hz m0 0 rfl) ?_
   obtain ⟨eb25, eo25, ea25, ei25, eh25⟩ := hs.elemI l0.toNat om
   refine Dyp 19 rfl (z8 us_Is i7 rfl ea25 rfl l0.toNat om om)<|Dy 20 rfl (B4 i7 rfl (eh25 _) rfl)<|Dyp 21 rfl (Y.neq rfl rfl)<|l3 (fun q27 => ?_)<|fun q27 => ?_
   ·refine Dyp 22 rfl (L8 rfl rfl)<|n9 kr<|Et<|r6 rfl<|Ew Z1<|Ei rfl<|Eu<|E.ret<|i9<|Fb rfl rfl (by grind [K3, P2, H0, d1, d2, t1, t2])
   ·refine Dyp 22 rfl (L8 rfl rfl)<|n9 kr<|Et<|Cf<|Eq_<|Ew Z1<|Ei rfl<|Eu<|E.block<|Lo (κ := Nat) (fun g => g ≤ f6.length ∧ (f6.any fun t => !L6 t) = ((f6.drop g).any fun t => !L6 t)) (fun g => [(3, .pointer<|some ⟨b3, 0, none⟩), (5, .int .i64 (g : Int))]) (fun g => [pt b3 111 [.int .i64 l0, .slice w6 f6.length w5]]) (fun g => f6.length - g) 0 ⟨Nat.zero_le _, by simp⟩<|fun g pg => ?_
    obtain ⟨pk, pa⟩ := pg
    refine Eq_<|Ew Z5<|Em rfl<|Lz fo_Atom_1 ty_Is rfl m0 rfl<|Yln us_Is rfl<|Ylt rfl<|l3 (fun q33 => ?_)<|fun q33 => ?_
    ·refine Eu<|Ct<|Eq_<|E.block<|Ew Z7<|Lz fo_Atom_1 ty_Is rfl m0 rfl<|Em rfl ?_
     obtain ⟨eb39, eo39, ea39, ei39, eh39⟩ := y6.elemI g om
     refine Il us_Is i7 rfl ea39 g rfl om rfl (eh39 _)<|E0 rfl a6C rfl (fun _ => trivial)<|Ent.b (fun q41 => ?_)<|fun q41 => ?_
     ·refine Yno true rfl<|Eu<|r7 rfl<|v8<|o6<|Et<|Ez Z3<|Em rfl<|Yad rfl om om<|Ei rfl ?_
      exact Eu<|t7 br (g + 1) ⟨rfl, rfl, trivial⟩ (.refl _) ⟨by omega, by grind [d1, d2, t1, t2]⟩ om
     ·refine Yno false rfl<|Eu<|r6 rfl<|Ew Z1<|Ei rfl<|Eu<|E.ret<|u6<|i9<|i9<|u6<|i9<|Fb rfl rfl (by grind [K3, P2, H0, d1, d2, t1, t2])
    ·refine Eu<|r7 rfl<|E.exit<|l4<|l4<|w8<|Et<|Ew Z1<|Ei rfl<|Eu<|E.ret<|Fb rfl rfl (by grind [K3, P2, H0, d1, d2, t1, t2])
  ·refine Dyp 10 rfl (Y.not (b := false) rfl)<|Dyp 11 rfl (L8 rfl rfl)<|Dm 12 rfl<|Dsk 13 rfl<|Dsk 14 rfl<|Dsk 15 rfl<|Dsk 16 rfl<|Dsk 17 rfl<|Dsk 18 rfl<|Dsk 19 rfl<|Dsk 20 rfl<|Dsk 21 rfl<|Dyp 22 rfl (K7 rfl rfl)<|n9 kr<|Et<|r6 rfl<|Ew Z1<|Ei rfl<|Eu<|E.ret<|i9<|Fb rfl rfl (by grind [K3, P2, H0, d1, d2, t1, t2])
 ·refine Dyp 2 rfl (Y.not (b := false) rfl)<|Dm 3 rfl<|Dsk 4 rfl<|Dsk 5 rfl<|Dsk 6 rfl<|Dsk 7 rfl<|Dsk 8 rfl<|Dsk 9 rfl<|Dsk 10 rfl<|Dyp 11 rfl (K7 rfl rfl)<|Dm 12 rfl<|Dsk 13 rfl<|Dsk 14 rfl<|Dsk 15 rfl<|Dsk 16 rfl<|Dsk 17 rfl<|Dsk 18 rfl<|Dsk 19 rfl<|Dsk 20 rfl<|Dsk 21 rfl<|Dyp 22 rfl (K7 rfl rfl)<|n9 kr<|Et<|r6 rfl<|Ew Z1<|Ei rfl<|Eu<|E.ret<|i9<|Fb rfl rfl (by grind [K3, P2, H0, d1, d2, t1, t2])
theorem a0C {v : Int} : TB Tryz.prog 124 [.slice a_s m_s c_s, .int .i64 v] (fun w L => Ro w L eIs [.slice a_s m_s c_s] s) (I8 s v) := by
 refine Ti2 Tryz.func124 9 rfl fun w L hR => ?_
 have hs := hR
 obtain ⟨rfl, ls⟩ := hs.slen
 refine Ew Z1<|Ei rfl<|Ev Z5<|Em rfl<|Em rfl<|E0 rfl b0O rfl (fun hA => hA.ro hs)<|Ey rfl ((Y.geq rfl rfl).yd)<|Ei rfl<|Eu<|E.ret<|Fb rfl rfl (by exact a0p)
theorem a8D : TB Tryz.prog 308 [.int .i64 t, .pointer (some ⟨b_vars, 0, none⟩)] (fun w L => (I64 t) ∧ RoPt w L b_vars [.slice a_vars m_vars c_vars] ∧ Ro w L eIs [.slice a_vars m_vars c_vars] vars) (!I8 vars t) := by
 refine Ti2 Tryz.func308 8 rfl fun w L hR => ?_
 obtain ⟨i6t, hb_vars, hvars⟩ := hR
 obtain ⟨rfl, lvars⟩ := hvars.slen
 refine Ew Z1<|Ei rfl<|Ev Z5<|Ey rfl (B4 ty_Is rfl (hb_vars.has) rfl)<|Em rfl<|E0 rfl a0C rfl (fun hA => hA.ro hvars)<|Ey rfl ((Y.not rfl).yd)<|Ei rfl<|Eu<|E.ret<|Fb rfl rfl (by grind [d1, d2, t1, t2])
theorem a5w (hz : O1 (fun x => x.2.length) d4 ≤ 1048576) : TB Tryz.prog 228 [.agg #[.slice y9 D9 y8, .slice v7 C6 v6]] (fun w L => Ro w L eIs [.slice y9 D9 y8] j8 ∧ Ro w L B1 [.slice v7 C6 v6] d4) (W2 (j8, d4)) := by
 refine Ti1 Tryz.func228 17 rfl fun w L hR => ?_
 obtain ⟨C0, z7⟩ := hR
 obtain ⟨rfl, W8⟩ := C0.slen
 obtain ⟨rfl, U3⟩ := z7.slen
 refine Ew Z2<|Est rfl (N.box (cs := [_, _]) rfl dc rfl)<|fun b1 _ => Ei rfl<|Ev Z4<|Ey rfl (k7 (cs := [_, _]) ty_Query rfl (Has.pt m0) rfl)<|El rfl (a3U fc) rfl (fun hA => ⟨hA.ro C0, hA.ro z7⟩)<|fun a5 c5 l5 => Est rfl (N.alloc ty_Is dc)<|fun b3 _ => Est rfl (Ns [_] ty_Is rfl)<|fun _ _ => Ev Z12<|Lz fo_Query_0 ty_Is rfl (mS<|mS m0) rfl<|Yln us_Is rfl<|Ey rfl ((Y.leq rfl rfl).yd)<|l3 (fun q9 => ?_)<|fun q9 => ?_
 ·refine Em rfl<|Lz fo_Query_0 ty_Is rfl (mS<|mS m0) rfl<|Ey rfl ((Y.fn (vs := [_]) rfl).yd)<|E0 rfl (X8 (f := (fun t => !I8 (u7 (fun t => inR t 10 17) d4) t)) (D_f := (fun _ => True)) (by intros; exact trivial)) rfl (fun hA => ⟨hA.ro C0, a2q (D := (fun _ => True)) (fun hd => a8D)<|fun w' hk => ⟨(hA.pt m0).keep hk, (hA.ow<|mS m0).keep hk⟩⟩)<|Ey rfl ((Y.not rfl).yd)<|Ypt rfl<|Ei rfl<|Eu<|E.ret<|Fb rfl rfl (by grind [W2, d1, d2, t1, t2])
 ·refine Em rfl<|Es rfl<|Es rfl<|Es rfl<|Es rfl<|Es rfl<|Ypf rfl<|Ei rfl<|Eu<|E.ret<|Fb rfl rfl (by grind [W2, d1, d2, t1, t2])
theorem a8I : TB Tryz.prog 227 [.agg #[.int .i64 l0, .slice w6 B5 w5], .pointer (some ⟨b_s, 0, none⟩)] (fun w L => (I64 l0 ∧ Ro w L eIs [.slice w6 B5 w5] f6) ∧ RoPt w L b_s [.slice a_s m_s c_s] ∧ Ro w L eIs [.slice a_s m_s c_s] s) (!K3 s (l0, f6)) := by
 refine Ti2 Tryz.func227 8 rfl fun w L hR => ?_
 obtain ⟨⟨J4, y6⟩, hb_s, hs⟩ := hR
 obtain ⟨rfl, Q5⟩ := y6.slen
 obtain ⟨rfl, ls⟩ := hs.slen
 refine Ew Z2<|Est rfl (N.box (cs := [_, _]) rfl dc rfl)<|fun b2 _ => Ei rfl<|Ev Z5<|Ey rfl (B4 ty_Is rfl (hb_s.has) rfl)<|Ey rfl (k7 (cs := [_, _]) ty_Atom rfl (Has.pt m0) rfl)<|E0 rfl a6L rfl (fun hA => ⟨hA.ro hs, J4, hA.ro y6⟩)<|Ey rfl ((Y.not rfl).yd)<|Ei rfl<|Eu<|E.ret<|Fb rfl rfl (by grind [d1, d2, t1, t2])
theorem a5z (hz : O1 (fun x => x.2.length) d4 ≤ 1048576) : TB Tryz.prog 117 [.slice a_s m_s c_s, .agg #[.slice y9 D9 y8, .slice v7 C6 v6]] (fun w L => Ro w L eIs [.slice a_s m_s c_s] s ∧ Ro w L eIs [.slice y9 D9 y8] j8 ∧ Ro w L B1 [.slice v7 C6 v6] d4) (I3 s (j8, d4)) := by
 refine Ti2 Tryz.func117 24 rfl fun w L hR => ?_
 obtain ⟨hs, C0, z7⟩ := hR
 obtain ⟨rfl, ls⟩ := hs.slen
 obtain ⟨rfl, W8⟩ := C0.slen
 obtain ⟨rfl, U3⟩ := z7.slen
 refine Ew Z3<|Est rfl (N.box (cs := [_]) rfl dc rfl)<|fun b2 _ => Est rfl (N.box (cs := [_, _]) rfl dc rfl)<|fun b3 _ => Ei rfl<|Ev Z20<|Ey rfl (B4 ty_Is rfl (Has.pt<|mS m0) rfl)<|E0 rfl a1W rfl (fun hA => hA.ro hs)<|Ent.b (fun q6 => ?_)<|fun q6 => ?_
 ·refine Em rfl<|Lz fo_Query_1 ty_Atoms rfl m0 rfl<|Yln us_Atoms rfl<|E0 rfl O9 rfl (fun _ => trivial)<|Ent.b (fun q11 => ?_)<|fun q11 => ?_
  ·refine Ypt rfl<|Em rfl<|Lz fo_Query_1 ty_Atoms rfl m0 rfl<|Ey rfl ((Y.fn (vs := [_]) rfl).yd)<|E0 rfl (a1O (f := (fun z => !K3 s z)) (D_f := (fun _ => True)) (by intros; exact trivial)) rfl (fun hA => ⟨hA.ro z7, a6z (D := (fun _ => True)) (fun hd => a8I)<|fun w' hk => ⟨(hA.pt<|mS m0).keep hk, (hA.ro hs).keep hk⟩⟩)<|Ent.b (fun q17 => ?_)<|fun q17 => ?_
   ·refine Yno true rfl<|Ypt rfl<|Em rfl<|Es rfl<|Es rfl<|Ypf rfl<|Ei rfl<|Eu<|E.ret<|Fb rfl rfl (by grind [I3, d1, d2, t1, t2])
   ·refine Yno false rfl<|Ypt rfl<|Em rfl<|Ey rfl (k7 (cs := [_, _]) ty_Query rfl (Has.pt m0) rfl)<|E0 rfl (a5w fc) rfl (fun hA => ⟨hA.ro C0, hA.ro z7⟩)<|Ypt rfl<|Ei rfl<|Eu<|E.ret<|Fb rfl rfl (by grind [I3, d1, d2, t1, t2])
  ·refine Ypt rfl<|Em rfl<|Es rfl<|Es rfl<|Es rfl<|Es rfl<|Es rfl<|Ypf rfl<|Em rfl<|Es rfl<|Es rfl<|Ypf rfl<|Ei rfl<|Eu<|E.ret<|Fb rfl rfl (by grind [I3, d1, d2, t1, t2])
 ·refine Em rfl<|Es rfl<|Es rfl<|Es rfl<|Es rfl<|Ypf rfl<|Em rfl<|Es rfl<|Es rfl<|Es rfl<|Es rfl<|Es rfl<|Ypf rfl<|Em rfl<|Es rfl<|Es rfl<|Ypf rfl<|Ei rfl<|Eu<|E.ret<|Fb rfl rfl (by grind [I3, d1, d2, t1, t2])
theorem a3v (hz : O1 (fun x => x.2.length) d4 ≤ 1048576) : TB Tryz.prog 100 [.slice a_s m_s c_s, .agg #[.slice y9 D9 y8, .slice v7 C6 v6]] (fun w L => Ro w L eIs [.slice a_s m_s c_s] s ∧ Ro w L eIs [.slice y9 D9 y8] j8 ∧ Ro w L B1 [.slice v7 C6 v6] d4) (I3 s (j8, d4)) := by
 refine Ti2 Tryz.func100 54 rfl fun w L hR => ?_
 obtain ⟨hs, C0, z7⟩ := hR
 obtain ⟨rfl, ls⟩ := hs.slen
 obtain ⟨rfl, W8⟩ := C0.slen
 obtain ⟨rfl, U3⟩ := z7.slen
 refine Ew Z2<|Est rfl (N.box (cs := [_, _]) rfl dc rfl)<|fun b3 _ => Ei rfl<|Eu<|Eq_<|Ew Z1<|Ei rfl<|Eu<|E.block<|Lo (κ := Nat) (fun g => g ≤ d4.length ∧ (d4.any fun a => !K3 s a) = ((d4.drop g).any fun a => !K3 s a)) (fun g => [(0, .slice a_s s.length c_s), (3, .pointer<|some ⟨b3, 0, none⟩), (5, .int .i64 (g : Int))]) (fun g => [pt b3 28 [.slice y9 j8.length y8, .slice v7 d4.length v6]]) (fun g => d4.length - g) 0 ⟨Nat.zero_le _, by simp⟩<|fun g pg => ?_
 obtain ⟨pk, pa⟩ := pg
 refine Eq_<|Ew Z5<|Em rfl<|Lz fo_Query_1 ty_Atoms rfl m0 rfl<|Yln us_Atoms rfl<|Ylt rfl<|l3 (fun q12 => ?_)<|fun q12 => ?_
 ·refine Eu<|Ct<|Eq_<|E.block<|Ew Z8<|Em rfl<|Lz fo_Query_1 ty_Atoms rfl m0 rfl<|Em rfl ?_
  obtain ⟨eb19, eo19, ec19, ea19, er19, el19, eh19⟩ := z7.elem g om
  obtain ⟨xa19_0, xc19_0, rfl, ei19_0, xh19_0⟩ := L5 er19
  have := xh19_0.slen.2
  refine Ix us_Atoms ty_Atom rfl ea19 g rfl om<|Ey rfl (k7 (cs := [_, _]) ty_Atom rfl (eh19 _) rfl)<|E0 rfl a6E rfl (fun hA => ⟨hA.ro hs, ei19_0, hA.ro xh19_0⟩)<|Ent.b (fun q21 => ?_)<|fun q21 => ?_
  ·refine Yno true rfl<|Eu<|r7 rfl<|v8<|o6<|Et<|Ez Z3<|Em rfl<|Yad rfl om om<|Ei rfl ?_
   exact Eu<|t7 br (g + 1) rs (.refl _) ⟨by omega, by grind [d1, d2, t1, t2]⟩ om
  ·refine Yno false rfl<|Eu<|r6 rfl<|Ew Z1<|Ei rfl<|Eu<|E.ret<|u6<|i9<|i9<|u6<|i9<|Fb rfl rfl (by grind [I3, W2, d1, d2, t1, t2])
 ·refine Eu<|r7 rfl<|E.exit<|l4<|l4<|w8<|Et<|Ew Z3<|Ey rfl (k7 (cs := [_, _]) ty_Query rfl (Has.pt m0) rfl)<|El rfl (a0A fc) rfl (fun hA => ⟨hA.ro C0, hA.ro z7⟩)<|fun a24 c24 l24 => Ei rfl<|Eu<|Eq_<|Ew Z1<|Ei rfl<|Eu<|E.block<|Lo (κ := Nat) (fun g => g ≤ j8.length ∧ (j8.any<|fun t => !I8 (u7 (fun t => inR t 10 17) d4) t) = ((j8.drop g).any (fun t => !I8 (u7 (fun t => inR t 10 17) d4) t))) (fun g => [(0, .slice a_s s.length c_s), (3, .pointer<|some ⟨b3, 0, none⟩), (6, .slice a24 (u7 (fun t => inR t 10 17) d4).length c24), (7, .int .i64 (g : Int))]) (fun g => [ow eIs [.slice a24 (u7 (fun t => inR t 10 17) d4).length c24]<|u7 (fun t => inR t 10 17) d4, pt b3 28 [.slice y9 j8.length y8, .slice v7 d4.length v6]]) (fun g => j8.length - g) 0 ⟨Nat.zero_le _, by simp⟩<|fun g pg => ?_
  obtain ⟨pk, pa⟩ := pg
  refine Eq_<|Ew Z5<|Em rfl<|Lz fo_Query_0 ty_Is rfl (mS m0) rfl<|Yln us_Is rfl<|Ylt rfl<|l3 (fun q29 => ?_)<|fun q29 => ?_
  ·refine Eu<|Ct<|Eq_<|E.block<|Ew Z8<|Em rfl<|Lz fo_Query_0 ty_Is rfl (mS m0) rfl<|Em rfl ?_
   obtain ⟨eb36, eo36, ea36, ei36, eh36⟩ := C0.elemI g om
   refine Il us_Is i7 rfl ea36 g rfl om rfl (eh36 _)<|E0 rfl a0s rfl (fun hA => hA.ow m0)<|Ent.b (fun q38 => ?_)<|fun q38 => ?_
   ·refine Yno true rfl<|Eu<|r7 rfl<|v8<|o6<|Et<|Ez Z3<|Em rfl<|Yad rfl om om<|Ei rfl<|Eu<|f5<|f5 ?_
    exact t7 br (g + 1) rs (.refl _) ⟨by omega, by grind [d1, d2, t1, t2]⟩ om
   ·refine Yno false rfl<|Eu<|r6 rfl<|Ew Z1<|Ei rfl<|Eu<|E.ret<|u6<|i9<|i9<|u6<|i9<|Fb rfl rfl (by grind [I3, W2, d1, d2, t1, t2])
  ·refine Eu<|r7 rfl<|E.exit<|l4<|l4<|w8<|Et<|Ew Z15<|Em rfl<|E0 rfl R6 rfl (fun hA => hA.ro hs)<|Ent.b (fun q41 => ?_)<|fun q41 => ?_
   ·refine Em rfl<|Lz fo_Query_1 ty_Atoms rfl (mS m0) rfl<|Yln us_Atoms rfl<|E0 rfl K4 rfl (fun _ => trivial)<|Ent.b (fun q46 => ?_)<|fun q46 => ?_
    ·refine Ypt rfl<|Em rfl<|Lz fo_Query_0 ty_Is rfl (mS m0) rfl<|Yln us_Is rfl<|Ey rfl ((Y.leq rfl rfl).yd)<|Ypt rfl<|Ei rfl<|Eu<|E.ret<|Fb rfl rfl (by grind [I3, W2, d1, d2, t1, t2])
    ·refine Ypt rfl<|Em rfl<|Es rfl<|Es rfl<|Es rfl<|Es rfl<|Ypf rfl<|Ei rfl<|Eu<|E.ret<|Fb rfl rfl (by grind [I3, W2, d1, d2, t1, t2])
   ·refine Em rfl<|Es rfl<|Es rfl<|Es rfl<|Es rfl<|Ypf rfl<|Em rfl<|Es rfl<|Es rfl<|Es rfl<|Es rfl<|Ypf rfl<|Ei rfl<|Eu<|E.ret<|Fb rfl rfl (by grind [I3, W2, d1, d2, t1, t2])
theorem a7c : TB Tryz.prog 118 [.agg #[.int .i64 l0, .slice w6 B5 w5], .pointer (some ⟨b_s, 0, none⟩)] (fun w L => (I64 l0 ∧ Ro w L eIs [.slice w6 B5 w5] f6) ∧ RoPt w L b_s [.slice a_s m_s c_s] ∧ Ro w L eIs [.slice a_s m_s c_s] s) (!K3 s (l0, f6)) := by
 refine Ti2 Tryz.func118 8 rfl fun w L hR => ?_
 obtain ⟨⟨J4, y6⟩, hb_s, hs⟩ := hR
 obtain ⟨rfl, Q5⟩ := y6.slen
 obtain ⟨rfl, ls⟩ := hs.slen
 refine Ew Z2<|Est rfl (N.box (cs := [_, _]) rfl dc rfl)<|fun b2 _ => Ei rfl<|Ev Z5<|Ey rfl (B4 ty_Is rfl (hb_s.has) rfl)<|Ey rfl (k7 (cs := [_, _]) ty_Atom rfl (Has.pt m0) rfl)<|E0 rfl a6L rfl (fun hA => ⟨hA.ro hs, J4, hA.ro y6⟩)<|Ey rfl ((Y.not rfl).yd)<|Ei rfl<|Eu<|E.ret<|Fb rfl rfl (by grind [d1, d2, t1, t2])
theorem a7i : TB Tryz.prog 123 [.int .i64 t, .pointer (some ⟨b_vars, 0, none⟩)] (fun w L => (I64 t) ∧ RoPt w L b_vars [.slice a_vars m_vars c_vars] ∧ Ro w L eIs [.slice a_vars m_vars c_vars] vars) (!I8 vars t) := by
 refine Ti2 Tryz.func123 8 rfl fun w L hR => ?_
 obtain ⟨i6t, hb_vars, hvars⟩ := hR
 obtain ⟨rfl, lvars⟩ := hvars.slen
 refine Ew Z1<|Ei rfl<|Ev Z5<|Ey rfl (B4 ty_Is rfl (hb_vars.has) rfl)<|Em rfl<|E0 rfl a0C rfl (fun hA => hA.ro hvars)<|Ey rfl ((Y.not rfl).yd)<|Ei rfl<|Eu<|E.ret<|Fb rfl rfl (by grind [d1, d2, t1, t2])
theorem a1D (hz : O1 (fun x => x.2.length) a6 ≤ 1048576) (hn : O1 (fun x => x.2.length) d8 ≤ 1048576) : TB Tryz.prog 27 [.slice a_s m_s c_s, .agg #[.slice w3 B9 w4, .slice t8 B3 u4, .slice F8 L7 F9]] (fun w L => Ro w L eIs [.slice a_s m_s c_s] s ∧ Ro w L eIs [.slice w3 B9 w4] c6 ∧ Ro w L B1 [.slice t8 B3 u4] a6 ∧ Ro w L B1 [.slice F8 L7 F9] d8) (P9 s ((c6, a6), d8)) := by
 refine Ti2 Tryz.func27 34 rfl fun w L hR => ?_
 obtain ⟨hs, s8, r9, H7⟩ := hR
 obtain ⟨rfl, ls⟩ := hs.slen
 obtain ⟨rfl, R3⟩ := s8.slen
 obtain ⟨rfl, Q3⟩ := r9.slen
 obtain ⟨rfl, a1r⟩ := H7.slen
 refine Ew Z3<|Est rfl (N.box (cs := [_]) rfl dc rfl)<|fun b2 _ => Est rfl (N.box (cs := [_, _, _]) rfl dc rfl)<|fun b3 _ => Ei rfl<|Ev Z5<|Ey rfl ((C2 fo_Guarded_0 ty_Query dc rfl).yd)<|Ey rfl (k7 (cs := [_, _]) ty_Query rfl ((Has.pt m0).sub (cs' := [_, _]) 0 rfl) rfl)<|El rfl (a3U fc) rfl (fun hA => ⟨hA.ro s8, hA.ro r9⟩)<|fun a8 c8 l8 => Est rfl (N.alloc ty_Is dc)<|fun b5 _ => Est rfl (Ns [_] ty_Is rfl)<|fun _ _ => Ev Z26<|Ey rfl (B4 ty_Is rfl (Has.pt<|mS<|mS<|mS m0) rfl)<|Ey rfl ((C2 fo_Guarded_0 ty_Query dc rfl).yd)<|Ey rfl (k7 (cs := [_, _]) ty_Query rfl ((Has.pt<|mS<|mS m0).sub (cs' := [_, _]) 0 rfl) rfl)<|E0 rfl (a5z fc) rfl (fun hA => ⟨hA.ro hs, hA.ro s8, hA.ro r9⟩)<|Ent.b (fun q12 => ?_)<|fun q12 => ?_
 ·refine Em rfl<|Lz fo_Guarded_1 ty_Atoms rfl (mS<|mS m0) rfl<|Yln us_Atoms rfl<|Ey rfl ((Y.leq rfl rfl).yd)<|l3 (fun q17 => ?_)<|fun q17 => ?_
  ·refine Ypt rfl<|Em rfl<|Lz fo_Guarded_1 ty_Atoms rfl (mS<|mS m0) rfl<|Ey rfl ((Y.fn (vs := [_]) rfl).yd)<|E0 rfl (a1O (f := (fun z => !K3 s z)) (D_f := (fun _ => True)) (by intros; exact trivial)) rfl (fun hA => ⟨hA.ro H7, a6z (D := (fun _ => True)) (fun hd => a7c)<|fun w' hk => ⟨(hA.pt<|mS<|mS<|mS m0).keep hk, (hA.ro hs).keep hk⟩⟩)<|Ent.b (fun q23 => ?_)<|fun q23 => ?_
   ·refine Yno true rfl<|Ypt rfl<|Em rfl<|Es rfl<|Es rfl<|Es rfl<|Es rfl<|Es rfl<|Es rfl<|Ypf rfl<|Ei rfl<|Eu<|E.ret<|Fb rfl rfl (by grind [P9, d1, d2, t1, t2])
   ·refine Yno false rfl<|Ypt rfl<|Em rfl<|Lz fo_Guarded_1 ty_Atoms rfl (mS<|mS m0) rfl<|El rfl (a5D (is := (fun t => inR t 10 17)) (D_is := (fun _ => True)) fc (by intros; exact trivial)) rfl (fun hA => ⟨hA.ro H7, a2q (D := (fun _ => True)) (RR := fun _ _ => True) (fun hd => b7U a0Q<|fun _ _ _ => trivial)<|fun w' hk => trivial⟩)<|fun a29 c29 l29 => ?_
    refine Ey rfl ((Y.fn (vs := [_]) rfl).yd)<|E0 rfl (X8 (f := (fun t => !I8 (u7 (fun t => inR t 10 17) a6) t)) (D_f := (fun _ => True)) (by intros; exact trivial)) rfl (fun hA => ⟨hA.ow m0, a2q (D := (fun _ => True)) (fun hd => a7i)<|fun w' hk => ⟨(hA.pt<|mS m0).keep hk, (hA.ow<|mS<|mS m0).keep hk⟩⟩)<|Ey rfl ((Y.not rfl).yd)<|Ypt rfl<|Ei rfl<|Eu<|E.ret<|Fb rfl rfl (by grind [P9, d1, d2, t1, t2])
  ·refine Ypt rfl<|Em rfl<|Es rfl<|Es rfl<|Es rfl<|Es rfl<|Es rfl<|Ypf rfl<|Em rfl<|Es rfl<|Es rfl<|Es rfl<|Es rfl<|Es rfl<|Es rfl<|Ypf rfl<|Ei rfl<|Eu<|E.ret<|Fb rfl rfl (by grind [P9, d1, d2, t1, t2])
 ·refine Em rfl<|Es rfl<|Es rfl<|Es rfl<|Es rfl<|Ypf rfl<|Em rfl<|Es rfl<|Es rfl<|Es rfl<|Es rfl<|Es rfl<|Ypf rfl<|Em rfl<|Es rfl<|Es rfl<|Es rfl<|Es rfl<|Es rfl<|Es rfl<|Ypf rfl<|Ei rfl<|Eu<|E.ret<|Fb rfl rfl (by grind [P9, d1, d2, t1, t2])
theorem a0M (hz : O1 (fun x => x.2.length) a6 ≤ 1048576) (hn : O1 (fun x => x.2.length) d8 ≤ 1048576) : TB Tryz.prog 15 [.slice a_s m_s c_s, .agg #[.slice w3 B9 w4, .slice t8 B3 u4, .slice F8 L7 F9]] (fun w L => Ro w L eIs [.slice a_s m_s c_s] s ∧ Ro w L eIs [.slice w3 B9 w4] c6 ∧ Ro w L B1 [.slice t8 B3 u4] a6 ∧ Ro w L B1 [.slice F8 L7 F9] d8) (P9 s ((c6, a6), d8)) := by
 refine Ti2 Tryz.func15 71 rfl fun w L hR => ?_
 obtain ⟨hs, s8, r9, H7⟩ := hR
 obtain ⟨rfl, ls⟩ := hs.slen
 obtain ⟨rfl, R3⟩ := s8.slen
 obtain ⟨rfl, Q3⟩ := r9.slen
 obtain ⟨rfl, a1r⟩ := H7.slen
 have gt := b3v (s := s) (v := (u7 (fun t => inR t 10 17) a6)) (l := d8)
 refine Ew Z2<|Est rfl (N.box (cs := [_, _, _]) rfl dc rfl)<|fun b3 _ => Ei rfl<|Ev Z4<|Ey rfl ((C2 fo_Guarded_0 ty_Query dc rfl).yd)<|Ey rfl (k7 (cs := [_, _]) ty_Query rfl ((Has.pt m0).sub (cs' := [_, _]) 0 rfl) rfl)<|El rfl (a0A fc) rfl (fun hA => ⟨hA.ro s8, hA.ro r9⟩)<|fun a10 c10 l10 => Ei rfl<|Eu<|Eq_<|Ew Z1<|Ei rfl<|Eu<|E.block<|Lo (κ := Nat) (fun r => r ≤ d8.length ∧ (d8.any fun a => !K3 s a || a.2.any (fun t => inR t 10 17 && !I8 (u7 (fun t => inR t 10 17) a6) t)) = ((d8.drop r).any fun a => !K3 s a || a.2.any (fun t => inR t 10 17 && !I8 (u7 (fun t => inR t 10 17) a6) t))) (fun r => [(0, .slice a_s s.length c_s), (3, .pointer<|some ⟨b3, 0, none⟩), (5, .slice a10 (u7 (fun t => inR t 10 17) a6).length c10), (6, .int .i64 (r : Int))]) (fun r => [ow eIs [.slice a10 (u7 (fun t => inR t 10 17) a6).length c10]<|u7 (fun t => inR t 10 17) a6, pt b3 30 [.slice w3 c6.length w4, .slice t8 a6.length u4, .slice F8 d8.length F9]]) (fun r => d8.length - r) 0 ⟨Nat.zero_le _, by simp⟩<|fun r pr => ?_
 obtain ⟨pk, pa⟩ := pr
 refine Eq_<|Ew Z5<|Em rfl<|Lz fo_Guarded_1 ty_Atoms rfl (mS m0) rfl<|Yln us_Atoms rfl<|Ylt rfl<|l3 (fun q15 => ?_)<|fun q15 => ?_
 ·refine Eu<|Ct<|Eq_<|E.block<|Eq_<|Ew Z8<|Em rfl<|Lz fo_Guarded_1 ty_Atoms rfl (mS m0) rfl<|Em rfl ?_
  obtain ⟨eb22, eo22, ec22, ea22, er22, el22, eh22⟩ := H7.elem r om
  obtain ⟨xa22_0, xc22_0, rfl, ei22_0, xh22_0⟩ := L5 er22
  have := xh22_0.slen.2
  refine Ix us_Atoms ty_Atom rfl ea22 r rfl om<|Ey rfl (k7 (cs := [_, _]) ty_Atom rfl (eh22 _) rfl)<|E0 rfl a6E rfl (fun hA => ⟨hA.ro hs, ei22_0, hA.ro xh22_0⟩)<|Ent.b (fun q24 => ?_)<|fun q24 => ?_
  ·refine Yno true rfl<|Eu<|Cf<|Ew Z1<|Ei rfl<|Eu<|E.block<|Lo (κ := Nat) (fun h => h ≤ d8[r].2.length ∧ (d8[r].2.any<|fun t => inR t 10 17 && !I8 (u7 (fun t => inR t 10 17) a6) t) = ((d8[r].2.drop h).any (fun t => inR t 10 17 && !I8 (u7 (fun t => inR t 10 17) a6) t))) (fun h => [(0, .slice a_s s.length c_s), (3, .pointer<|some ⟨b3, 0, none⟩), (5, .slice a10 (u7 (fun t => inR t 10 17) a6).length c10), (6, .int .i64 (r : Int)), (7, .int .i64 (h : Int))]) (fun h => [ow eIs [.slice a10 (u7 (fun t => inR t 10 17) a6).length c10]<|u7 (fun t => inR t 10 17) a6, pt b3 30 [.slice w3 c6.length w4, .slice t8 a6.length u4, .slice F8 d8.length F9]]) (fun h => d8[r].2.length - h) 0 ⟨Nat.zero_le _, by simp⟩<|fun h ph => ?_
   obtain ⟨pk, pa⟩ := ph
   refine Eq_<|Ew Z9<|Em rfl<|Lz fo_Guarded_1 ty_Atoms rfl (mS m0) rfl<|Em rfl<|Ix us_Atoms ty_Atom rfl ea22 r rfl om<|Lf fo_Atom_1 ty_Is rfl (Hs (eh22 _) 1 rfl)<|Yln us_Is rfl<|Ylt rfl<|l3 (fun q34 => ?_)<|fun q34 => ?_
   ·refine Eu<|Ct<|Eq_<|E.block<|Ew Z24<|Lz fo_Guarded_1 ty_Atoms rfl (mS m0) rfl<|Em rfl<|Ix us_Atoms ty_Atom rfl ea22 r rfl om<|Lf fo_Atom_1 ty_Is rfl (Hs (eh22 _) 1 rfl)<|Em rfl ?_
    obtain ⟨eb44, eo44, ea44, ei44, eh44⟩ := xh22_0.elemI h om
    refine Il us_Is i7 rfl ea44 h rfl om rfl (eh44 _)<|E0 rfl Z0 rfl (fun _ => trivial)<|Ent.b (fun q46 => ?_)<|fun q46 => ?_
    ·refine Em rfl<|Em rfl<|Lz fo_Guarded_1 ty_Atoms rfl (mS m0) rfl<|Em rfl<|Ix us_Atoms ty_Atom rfl ea22 r rfl om<|Lf fo_Atom_1 ty_Is rfl (Hs (eh22 _) 1 rfl)<|Em rfl<|Il us_Is i7 rfl ea44 h rfl om rfl (eh44 _)<|E0 rfl a0s rfl (fun hA => hA.ow m0)<|Ent.b (fun q58 => ?_)<|fun q58 => ?_
     ·refine Yno true rfl<|Ypt rfl<|Eu<|r7 rfl<|v8<|o6<|Et<|Ez Z3<|Em rfl<|Yad rfl om om<|Ei rfl<|Eu<|f5<|f5 ?_
      exact t7 br (h + 1) rs (.refl _) ⟨by omega, by grind [d1, d2, t1, t2]⟩ om
     ·refine Yno false rfl<|Ypt rfl<|Eu<|r6 rfl<|Ew Z1<|Ei rfl<|Eu<|E.ret<|u6<|i9<|i9<|u6<|u6<|i9<|i9<|u6<|i9<|Fb rfl rfl (by grind [P9, d1, d2, t1, t2])
    ·refine Em rfl<|Es rfl<|Es rfl<|Es rfl<|Es rfl<|Es rfl<|Es rfl<|Es rfl<|Es rfl<|Es rfl<|Es rfl<|Es rfl<|Es rfl<|Ypf rfl<|Eu<|r7 rfl<|v8<|o6<|Et<|Ez Z3<|Em rfl<|Yad rfl om om<|Ei rfl<|Eu<|f5<|f5 ?_
     exact t7 br (h + 1) rs (.refl _) ⟨by omega, by grind [d1, d2, t1, t2]⟩ om
   ·refine Eu<|r7 rfl<|E.exit<|l4<|l4<|w8<|o6<|Et<|Ez Z3<|Em rfl<|Yad rfl om om<|Ei rfl<|Eu<|f5<|f5 ?_
    exact t7 br (r + 1) rs (.refl _) ⟨by omega, by grind [d1, d2, t1, t2]⟩ om
  ·refine Yno false rfl<|Eu<|r6 rfl<|Ew Z1<|Ei rfl<|Eu<|E.ret<|i9<|u6<|i9<|i9<|u6<|i9<|Fb rfl rfl (by grind [P9, d1, d2, t1, t2])
 ·refine Eu<|r7 rfl<|E.exit<|l4<|l4<|w8<|Et<|Ew Z11<|Em rfl<|Ey rfl ((C2 fo_Guarded_0 ty_Query dc rfl).yd)<|Ey rfl (k7 (cs := [_, _]) ty_Query rfl ((Has.pt<|mS m0).sub (cs' := [_, _]) 0 rfl) rfl)<|E0 rfl (a3v fc) rfl (fun hA => ⟨hA.ro hs, hA.ro s8, hA.ro r9⟩)<|Ent.b (fun q64 => ?_)<|fun q64 => ?_
  ·refine Em rfl<|Lz fo_Guarded_1 ty_Atoms rfl (mS m0) rfl<|Yln us_Atoms rfl<|Ey rfl ((Y.leq rfl rfl).yd)<|Ypt rfl<|Ei rfl<|Eu<|E.ret<|Fb rfl rfl (by grind [P9, d1, d2, t1, t2])
  ·refine Em rfl<|Es rfl<|Es rfl<|Es rfl<|Es rfl<|Ypf rfl<|Ei rfl<|Eu<|E.ret<|Fb rfl rfl (by grind [P9, d1, d2, t1, t2])
end Go.Proofs.YthapcdhdfaibkaaGreatDoor
