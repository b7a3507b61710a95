import Derived.Test.YtdopeopehgdccaaGreatT10
import Derived.Test.YtdopeopehgdccaaGreatT17
import Derived.Test.YtdopeopehgdccaaGreatT11
import Derived.Test.YtdopeopehgdccaaGreatT13
import Derived.Test.YtdopeopehgdccaaGreatBh
import Derived.Test.YtdopeopehgdccaaGreatGc
namespace Go.Proofs.YtdopeopehgdccaaGreat
open Go.RowKit
set_option linter.all false
set_option maxHeartbeats 2000000
attribute [local irreducible] Nop Yd Yp Ent Has Tr FnP FnP2 Src R6 a0d a0I a1c H6
variable {l0 D7 z6 C9 z7 : Int} {l : List (Int × List Int × Int × Int × Int)} {f5 : List (Int × List Int)} {f7 G7 t6 : List Int} {b_a u8 s6 b_bound m_bound c_bound C8 B1 m_l c_l b_is m_atoms c_atoms : Nat} {s7 a_bound B2 a_l a_atoms : Option Addr}
theorem a9d {i : Int} : Tr Tryz.prog 249 [.int .i64 i, .pointer (some ⟨b_a, 0, none⟩), .pointer (some ⟨b_bound, 0, none⟩)] (fun w L => (I64 i) ∧ RoPt w L b_a [.int .i64 l0, .slice s7 u8 s6] ∧ I64 l0 ∧ Ro w L eIs [.slice s7 u8 s6] f7 ∧ RoPt w L b_bound [.slice a_bound m_bound c_bound] ∧ Ro w L eIs [.slice a_bound m_bound c_bound] G7) [] (κ := Unit) (fun k => True) (fun k => .bool (a1x (l0, f7) G7 i)) (fun k => []) := by
 refine n9 Tryz.func249 rfl (n := 30) rfl (by decide +kernel) bl (fr := [(0, .int .i64 i), (1, .pointer (some ⟨b_a, 0, none⟩)), (2, .pointer (some ⟨b_bound, 0, none⟩))]) rfl fun w L hR => ?_
 obtain ⟨i6i, hb_a, G5, x6, hb_bound, hbound⟩ := hR
 obtain ⟨rfl, N8⟩ := x6.slen
 obtain ⟨rfl, lbound⟩ := hbound.slen
 refine Ew Z1 (Ei rfl (Eu (Eq_ (D.region (fun j => true) mixed (Dyp 0 rfl (l3 rfl) (Dyp 1 rfl (j7 fo_Atom_1 ty_Is dc rfl) (Dy 2 rfl (g9 ty_Is rfl ((hb_a.has).sub (cs' := [_]) 1 rfl) rfl) (Dyp 3 rfl (Y.len us_Is rfl) (Dyp 4 rfl (Y.sub rfl rfl om om) (t8 5 rfl rfl kr (fun _ => rfl) (n0 Q4 rfl rfl rfl dc tv) (fun _ _ => (Ent.b (fun q10 => ?_) (fun q10 => ?_)))))))))))))
 ·have jz : 0 ≤ i ∧ i ≤ (f7.length : Int) - 1 := of_decide_eq_true q10
  refine Dyp 6 rfl (Y.not (b := true) rfl) (Dyp 7 rfl (l3 rfl) (Dyp 8 rfl (j7 fo_Atom_1 ty_Is dc rfl) (Dy 9 rfl (g9 ty_Is rfl ((hb_a.has).sub (cs' := [_]) 1 rfl) rfl) (Dyp 10 rfl (l3 rfl) ?_))))
  obtain ⟨eb16, eo16, ea16, ei16, eh16⟩ := x6.elemI i.toNat om
  refine Dyp 11 rfl (r7 us_Is i8 rfl ea16 rfl i.toNat om om) (Dy 12 rfl (g9 i8 rfl (eh16 _) rfl) (t8 13 rfl rfl kr (fun _ => rfl) (n0 a1C rfl rfl rfl dc tv) (fun _ _ => (Ent.b (fun q18 => ?_) (fun q18 => ?_)))))
  ·refine Dyp 14 rfl (l3 rfl) (Dy 15 rfl (g9 ty_Is rfl (hb_bound.has) rfl) (Dyp 16 rfl (j7 fo_Atom_1 ty_Is dc rfl) (Dy 17 rfl (g9 ty_Is rfl ((hb_a.has).sub (cs' := [_]) 1 rfl) rfl) (Dyp 18 rfl (l3 rfl) (Dyp 19 rfl (r7 us_Is i8 rfl ea16 rfl i.toNat om om) (Dy 20 rfl (g9 i8 rfl (eh16 _) rfl) (t8 21 rfl rfl kr (fun _ => rfl) (n0 a0J rfl rfl rfl dc (fun w Lp hA => hA.ro hbound)) (fun _ _ => (Dyp 22 rfl (Y.not rfl) (Dyp 23 rfl (u7 rfl rfl) (Dyp 24 rfl (u0 rfl rfl) (Dyp 25 rfl (F7 rfl) ?_))))))))))))
   exact r8 kr (Et (E.ret (Fb rfl rfl (by grind [a1x, G0, d1, d2, t1, t2]))))
  ·refine Dyp 14 rfl (l3 rfl) (Dsk 15 rfl (Dsk 16 rfl (Dsk 17 rfl (Dsk 18 rfl (Dsk 19 rfl (Dsk 20 rfl (Dsk 21 rfl (Dsk 22 rfl (Dyp 23 rfl (u0 rfl rfl) (Dyp 24 rfl (u0 rfl rfl) (Dyp 25 rfl (F7 rfl) ?_)))))))))))
   exact r8 kr (Et (E.ret (Fb rfl rfl (by grind [a1x, G0, d1, d2, t1, t2]))))
 ·refine Dyp 6 rfl (Y.not (b := false) rfl) (Dyp 7 rfl (l3 rfl) (Dsk 8 rfl (Dsk 9 rfl (Dsk 10 rfl (Dsk 11 rfl (Dsk 12 rfl (Dsk 13 rfl (b2b 14 rfl rfl dc kr (Dsk 15 rfl (Dsk 16 rfl (Dsk 17 rfl (Dsk 18 rfl (Dsk 19 rfl (Dsk 20 rfl (Dsk 21 rfl (Dsk 22 rfl (Dsk 23 rfl (Dyp 24 rfl (u7 rfl rfl) (Dyp 25 rfl (F7 rfl) ?_)))))))))))))))))))
  exact r8 kr (Et (E.ret (Fb rfl rfl (by grind [a1x, G0, d1, d2, t1, t2]))))
theorem a5W : Tr Tryz.prog 178 [.agg #[.int .i64 D7, .slice B2 C8 B1, .int .i64 z6, .int .i64 C9, .int .i64 z7], .agg #[.int .i64 l0, .slice s7 u8 s6], .slice a_bound m_bound c_bound] (fun w L => I64 D7 ∧ Ro w L eIs [.slice B2 C8 B1] t6 ∧ I64 z6 ∧ I64 C9 ∧ I64 z7 ∧ I64 l0 ∧ Ro w L eIs [.slice s7 u8 s6] f7 ∧ Ro w L eIs [.slice a_bound m_bound c_bound] G7) [] (κ := Unit) (fun k => True) (fun k => .bool (N5 (D7, t6, z6, C9, z7) (l0, f7) G7)) (fun k => []) := by
 refine n9 Tryz.func178 rfl (n := 19) rfl (by decide +kernel) bl (fr := [(0, .agg #[.int .i64 D7, .slice B2 C8 B1, .int .i64 z6, .int .i64 C9, .int .i64 z7]), (1, .agg #[.int .i64 l0, .slice s7 u8 s6]), (2, .slice a_bound m_bound c_bound)]) rfl fun w L hR => ?_
 obtain ⟨V0, E8, P8, S2, P9, G5, x6, hbound⟩ := hR
 obtain ⟨rfl, Y7⟩ := E8.slen
 obtain ⟨rfl, N8⟩ := x6.slen
 obtain ⟨rfl, lbound⟩ := hbound.slen
 refine Ew Z4 (Est rfl (N.box (cs := [_, _, _, _, _]) rfl dc rfl) (fun b3 _ => (Est rfl (N.box (cs := [_, _]) rfl dc rfl) (fun b4 _ => (Est rfl (N.box (cs := [_]) rfl dc rfl) (fun b5 _ => (Ei rfl (Ev Z13 (Ey rfl ((j7 fo_Method_0 i8 dc rfl).yd) (Ey rfl (g9 i8 rfl (Hz (mS (mS m0)) 0 rfl) rfl) (Ey rfl ((j7 fo_Atom_0 i8 dc rfl).yd) (Ey rfl (g9 i8 rfl (Hz (mS m0) 0 rfl) rfl) (Ey rfl ((Y.eql rfl rfl).yd) (o6 (fun q11 => ?_) (fun q11 => ?_)))))))))))))))
 ·refine Em rfl (Ey rfl ((j7 fo_Method_1 ty_Is dc rfl).yd) (Ey rfl (g9 ty_Is rfl (Hz (mS (mS m0)) 1 rfl) rfl) (Ey rfl ((Y.fn (vs := [_, _]) rfl).yd) (Est rfl (n0 (V8 (f := (fun i => a1x (l0, f7) G7 i)) (D_f := (fun _ => True)) (by intros; exact trivial)) rfl rfl rfl dc (fun w Lp hA => ⟨hA.ro E8, a2H (D := (fun _ => True)) (fun hd => a9d) (fun w' hk => ⟨(hA.pt (mS m0)).keep hk, G5, (hA.ro x6).keep hk, (hA.pt m0).keep hk, (hA.ro hbound).keep hk⟩)⟩)) (fun _ _ => (Ey rfl ((Y.not rfl).yd) (Ey rfl ((u7 rfl rfl).yd) (Ei rfl ?_))))))))
  exact Eu (E.ret (Fb rfl rfl (by grind [N5, d1, d2, t1, t2])))
 ·refine Em rfl (Es rfl (Es rfl (Es rfl (Es rfl (Es rfl (Ey rfl ((u0 rfl rfl).yd) (Ei rfl ?_)))))))
  exact Eu (E.ret (Fb rfl rfl (by grind [N5, d1, d2, t1, t2])))
theorem a5M : Tr Tryz.prog 169 [.agg #[.int .i64 D7, .slice B2 C8 B1, .int .i64 z6, .int .i64 C9, .int .i64 z7], .agg #[.int .i64 l0, .slice s7 u8 s6], .slice a_bound m_bound c_bound] (fun w L => I64 D7 ∧ Ro w L eIs [.slice B2 C8 B1] t6 ∧ I64 z6 ∧ I64 C9 ∧ I64 z7 ∧ I64 l0 ∧ Ro w L eIs [.slice s7 u8 s6] f7 ∧ Ro w L eIs [.slice a_bound m_bound c_bound] G7) [] (κ := Unit) (fun k => True) (fun k => .bool (N5 (D7, t6, z6, C9, z7) (l0, f7) G7)) (fun k => []) := by
 refine n9 Tryz.func169 rfl (n := 49) rfl (by decide +kernel) bl (fr := [(0, .agg #[.int .i64 D7, .slice B2 C8 B1, .int .i64 z6, .int .i64 C9, .int .i64 z7]), (1, .agg #[.int .i64 l0, .slice s7 u8 s6]), (2, .slice a_bound m_bound c_bound)]) rfl fun w L hR => ?_
 obtain ⟨V0, E8, P8, S2, P9, G5, x6, hbound⟩ := hR
 obtain ⟨rfl, Y7⟩ := E8.slen
 obtain ⟨rfl, N8⟩ := x6.slen
 obtain ⟨rfl, lbound⟩ := hbound.slen
 refine Ew Z3 (Est rfl (N.box (cs := [_, _, _, _, _]) rfl dc rfl) (fun b3 _ => (Est rfl (N.box (cs := [_, _]) rfl dc rfl) (fun b4 _ => (Ei rfl (Eu (Eq_ (Ew Z5 (Ey rfl ((j7 fo_Method_0 i8 dc rfl).yd) (Ey rfl (g9 i8 rfl (Hz (mS m0) 0 rfl) rfl) (Ey rfl ((j7 fo_Atom_0 i8 dc rfl).yd) (Ey rfl (g9 i8 rfl (Hz m0 0 rfl) rfl) (Ey rfl ((Y.neq rfl rfl).yd) (o6 (fun q13 => ?_) (fun q13 => ?_)))))))))))))))
 ·refine Eu (o2 rfl (Ew Z1 (Ei rfl ?_)))
  exact Eu (E.ret (l4 (Fb rfl rfl (by grind [N5, a1x, G0, d1, d2, t1, t2]))))
 ·refine Eu (o3 rfl (j5 (Et (Eq_ (Ew Z1 (Ei rfl (Eu (E.block (E.loop (κ := Nat) (fun g => g ≤ t6.length ∧ t6.any (a1x (l0, f7) G7) = (t6.drop g).any (a1x (l0, f7) G7)) (fun g => [(2, .slice a_bound G7.length c_bound), (3, .pointer (some ⟨b3, 0, none⟩)), (4, .pointer (some ⟨b4, 0, none⟩)), (7, .int .i64 (g : Int))]) (fun g => [pt b4 128 [.int .i64 l0, .slice s7 f7.length s6], pt b3 113 [.int .i64 D7, .slice B2 t6.length B1, .int .i64 z6, .int .i64 C9, .int .i64 z7]]) (fun g => t6.length - g) 0 ⟨Nat.zero_le _, by simp⟩ ⟨rfl, rfl, rfl, rfl, trivial⟩ (.refl _) (fun g pg => ?_))))))))))
  obtain ⟨pk, pa⟩ := pg
  refine Eq_ (Ew Z5 (Em rfl (Ey rfl ((j7 fo_Method_1 ty_Is dc rfl).yd) (Ey rfl (g9 ty_Is rfl (Hz (mS m0) 1 rfl) rfl) (Ey rfl ((Y.len us_Is rfl).yd) (Ey rfl ((Y.lss rfl rfl).yd) (o6 (fun q18 => ?_) (fun q18 => ?_))))))))
  ·refine Eu (o2 rfl (j5 (Et (Eq_ (E.block (Eq_ (Eq_ (D.region (fun j => true) mixed (Dyp 0 rfl (j7 fo_Method_1 ty_Is dc rfl) (Dy 1 rfl (g9 ty_Is rfl (Hz (mS m0) 1 rfl) rfl) (Dyp 2 rfl (l3 rfl) ?_)))))))))))
   obtain ⟨eb24, eo24, ea24, ei24, eh24⟩ := E8.elemI g om
   refine Dyp 3 rfl (r7 us_Is i8 rfl ea24 rfl g rfl om) (Dy 4 rfl (g9 i8 rfl (eh24 _) rfl) (Dyp 5 rfl (j7 fo_Atom_1 ty_Is dc rfl) (Dy 6 rfl (g9 ty_Is rfl (Hz m0 1 rfl) rfl) (Dyp 7 rfl (Y.len us_Is rfl) (Dyp 8 rfl (Y.sub rfl rfl om om) (t8 9 rfl rfl kr (fun _ => rfl) (n0 K2 rfl rfl rfl dc tv) (fun _ _ => (Ent.b (fun q30 => ?_) (fun q30 => ?_)))))))))
   ·have jz : 0 ≤ t6[g] ∧ t6[g] ≤ (f7.length : Int) - 1 := of_decide_eq_true q30
    refine Dyp 10 rfl (Y.not (b := true) rfl) (r8 kr (Et (o3 rfl (j5 (Et (Eq_ (D.region (fun j => true) mixed (Dyp 0 rfl (j7 fo_Atom_1 ty_Is dc rfl) (Dy 1 rfl (g9 ty_Is rfl (Hz m0 1 rfl) rfl) (Dyp 2 rfl (j7 fo_Method_1 ty_Is dc rfl) (Dy 3 rfl (g9 ty_Is rfl (Hz (mS m0) 1 rfl) rfl) (Dyp 4 rfl (l3 rfl) (Dyp 5 rfl (r7 us_Is i8 rfl ea24 rfl g rfl om) (Dy 6 rfl (g9 i8 rfl (eh24 _) rfl) ?_))))))))))))))
    obtain ⟨eb39, eo39, ea39, ei39, eh39⟩ := x6.elemI t6[g].toNat om
    refine Dyp 7 rfl (r7 us_Is i8 rfl ea39 rfl t6[g].toNat om om) (Dy 8 rfl (g9 i8 rfl (eh39 _) rfl) (Dyp 9 rfl (F7 rfl) (r8 kr (Et (Ew Z8 (Em rfl (Est rfl (n0 a1f rfl rfl rfl dc tv) (fun _ _ => (Ent.b (fun q42 => ?_) (fun q42 => ?_))))))))))
    ·refine Em rfl (Em rfl (Em rfl (Est rfl (n0 a1F rfl rfl rfl dc (fun w Lp hA => hA.ro hbound)) (fun _ _ => (Ent.b (fun q46 => ?_) (fun q46 => ?_))))))
     ·refine Ey rfl ((Y.not (b := true) rfl).yd) (Ey rfl ((u7 rfl rfl).yd) (Eu (o3 rfl (j5 (t7 (Et (Ez Z3 (Em rfl (Ey rfl ((Y.add rfl rfl om om).yd) (Ei rfl (Eu (i7 (i7 ?_)))))))))))))
      exact v8 br (g + 1) rs (.refl _) ⟨by omega, by grind [a1x, G0, d1, d2, t1, t2]⟩ om
     ·refine Ey rfl ((Y.not (b := false) rfl).yd) (Ey rfl ((u7 rfl rfl).yd) (Eu (o2 rfl (Ew Z1 (Ei rfl ?_)))))
      exact Eu (E.ret (w5 (l4 (l4 (w5 (l4 (Fb rfl rfl (by grind [N5, a1x, G0, d1, d2, t1, t2]))))))))
    ·refine Em rfl (Es rfl (Es rfl (Es rfl (Es rfl (Ey rfl ((u0 rfl rfl).yd) (Eu (o3 rfl (j5 (t7 (Et (Ez Z3 (Em rfl (Ey rfl ((Y.add rfl rfl om om).yd) (Ei rfl (Eu (i7 (i7 ?_)))))))))))))))))
     exact v8 br (g + 1) rs (.refl _) ⟨by omega, by grind [a1x, G0, d1, d2, t1, t2]⟩ om
   ·refine Dyp 10 rfl (Y.not (b := false) rfl) (r8 kr (Et (o2 rfl (Ew Z1 (Ei rfl ?_)))))
    exact Eu (E.ret (l4 (w5 (l4 (l4 (w5 (l4 (Fb rfl rfl (by grind [N5, a1x, G0, d1, d2, t1, t2])))))))))
  ·refine Eu (o3 rfl (E.exit (o8 (o8 (x9 (Et (Ew Z1 (Ei rfl ?_))))))))
   exact Eu (E.ret (Fb rfl rfl (by grind [N5, a1x, G0, d1, d2, t1, t2])))
theorem a8x {a_s : Option Addr} {m_s c_s : Nat} {s : List (Int × (Option Addr × Nat × Nat) × Int × Int × Int)} (hz : s.length ≤ 1048576) : Tr Tryz.prog 238 [.slice a_s m_s c_s] (fun w L => Ro w L P6 [.slice a_s m_s c_s] s) [] (κ := Option Addr × Nat × Nat) (fun k => True) (fun k => .slice k.1 k.2.1 k.2.2) (fun k => [ow P6 [.slice k.1 k.2.1 k.2.2] s]) := by
 refine n9 Tryz.func238 rfl (n := 8) rfl (by decide +kernel) bl (fr := [(0, .slice a_s m_s c_s)]) rfl fun w L hR => ?_
 have hs := hR
 obtain ⟨rfl, ls⟩ := hs.slen
 refine Ew Z1 (Ei rfl (Eu (Eq_ (Ew Z2 (Em rfl (Ey rfl ((b5P us_Methods rfl rfl).yd) (Ent.b (fun q4 => ?_) (fun q4 => ?_))))))))
 ·refine Eu (o2 rfl (Ew Z1 (Ei rfl (Eu (E.ret (l4 (s3 (A := []) (Own.nil (E := X4) (e := a8T) (a := none)) rfl (j6 (congrArg (ow P6 [_]) (show _ = s by (cases a_s with | none => exact hs.none_nil.symm | some x => cases q4))) ?_))))))))
  exact Fg rfl rfl (none, 0, 0) rfl rfl
 ·refine Eu (o3 rfl (j5 (Et (Ew Z4 (Est rfl (Nb [] [] us_Methods ty_Method rfl rfl) (fun b5 _ => (Ent.drop (Em rfl (Est rfl (O6 (E := X4) b2X us_Methods ty_Method rfl rfl rfl hs bn bn dc) (fun p7 _ => (Ei rfl ?_)))))))))))
  exact Eu (E.ret (Fg rfl rfl (_, _, _) rfl rfl))
theorem b3C {l : List (Int × (Option Addr × Nat × Nat) × Int × Int × Int)} (hz : l.length ≤ 5) : Tr Tryz.prog 162 [.slice a_l m_l c_l] (fun w L => Ro w L P6 [.slice a_l m_l c_l] l) [] (κ := Option Addr × Nat × Nat) (fun k => True) (fun k => .slice k.1 k.2.1 k.2.2) (fun k => [ow P6 [.slice k.1 k.2.1 k.2.2] (exB l)]) := by
 refine n9 Tryz.func162 rfl (n := 24) rfl (by decide +kernel) bl (fr := [(0, .slice a_l m_l c_l)]) rfl fun w L hR => ?_
 have hl := hR
 obtain ⟨rfl, ll⟩ := hl.slen
 refine Ew Z1 (Ei rfl (Ev Z3 (Em rfl (Est rfl (N.call (a8x fc) rfl rfl rfl dc rfl (fun w Lp hA => hA.ro hl)) (fun k7 _ => ?_)))))
 obtain ⟨a7, m7, c7⟩ := k7
 refine i9 m0 fun e7 l7 => ?_
 subst e7
 refine Ei rfl (Eu (Eq_ (Ew Z3 (Em rfl (Ey rfl ((Y.len us_Methods rfl).yd) (Em rfl (Eu (E.block (E.loop (κ := Nat) (fun g => g ≤ l.length) (fun g => [(3, .slice a7 (l).length c7), (8, .slice a7 (l).length c7), (9, .int .i64 (↑((l).length) : Int)), (10, .int .i64 (g : Int))]) (fun g => [ow P6 [.slice a7 (l).length c7] ((l.take g).map U1 ++ l.drop g)]) (fun g => l.length - g) 0 (Nat.zero_le _) ⟨rfl, rfl, rfl, rfl, trivial⟩ (.refl _) (fun g pg => ?_))))))))))
 have jx := b7C (l := l) (g := g)
 refine Ew Z1 (Ey rfl ((Y.lss rfl rfl).yd) (o6 (fun q11 => ?_) (fun q11 => ?_)))
 ·refine Eu (Eq_ (o2 rfl (j5 (Et (Eq_ (E.block (Ew Z6 (Em rfl (a0j m0 om fun ab13 ae13 => (a2e (x := l[g]) g (b8N (show g < l.length by omega)) fun ce13 => (i7 (b3x fun  oe13 oi13_0 oi13_2 oi13_3 oi13_4 => ?_))))))))))))
  subst oe13
  refine Ey rfl ((r7 us_Methods ty_Method rfl ae13 rfl g rfl om).yd) (Ey rfl (o9 (cs := [_, _, _, _, _]) ty_Method rfl (Has.hole ae13 m0) rfl) (Est rfl (N.alloc ty_Method dc) (fun b5 _ => (Ei rfl (Est rfl (Ns [_, _, _, _, _] ty_Method rfl) (fun _ _ => (Ev Z3 (Ey rfl ((j7 fo_Method_2 i8 dc rfl).yd) (Ey rfl (g9 i8 rfl (Hz m0 2 rfl) rfl) (Ey rfl ((Y.neq rfl rfl).yd) (o6 (fun q17 => ?_) (fun q17 => ?_))))))))))))
  ·refine Eu (o2 rfl (Ez Z5 (Em rfl (Em rfl (Ey rfl ((r7 us_Methods ty_Method rfl ae13 rfl g rfl om).yd) (Ey rfl ((j7 fo_Method_0 i8 dc rfl).yd) (i7 (Est rfl (a5n (f := 0) (kk := 5) (vs := [_]) (ce' := [_, _, _, _, _]) i8 rfl rfl rfl rfl rfl ae13 rfl rfl bl rfl rfl) (fun _ _ => (En (t7 (Et (Ez Z2 (Ey rfl ((Y.add rfl rfl om om).yd) (Em rfl (Eu (a1h (a2S (x := (-1, l[g].2.1, l[g].2.2.1, l[g].2.2.2.1, l[g].2.2.2.2)) i6 oi13_2 oi13_3 oi13_4) rfl (i7 (Ent.drop ?_)))))))))))))))))))
   exact v8 br (g + 1) rs (a4d (b7I om q17)) om om
  ·refine Eu (o3 rfl (j5 (t7 (Et (Ez Z2 (Ey rfl ((Y.add rfl rfl om om).yd) (Em rfl (Eu (i7 (a1h (a2S (x := l[g]) oi13_0 oi13_2 oi13_3 oi13_4) rfl (i7 (Ent.drop ?_))))))))))))
   exact v8 br (g + 1) rs (a4d (b7T om q17)) om om
 ·refine Eu (Eq_ (o3 rfl (E.exit (o8 (o8 (x9 (Et (Ew Z2 (Em rfl (Ei rfl (Eu (E.ret (j6 (congrArg (ow P6 [_]) (show _ = exB l by exact b7r om)) ?_)))))))))))))
  exact Fg rfl rfl (_, _, _) rfl rfl
theorem a9B {l : List (Int × (Option Addr × Nat × Nat) × Int × Int × Int)} (hz : l.length ≤ 5) : Tr Tryz.prog 143 [.slice a_l m_l c_l] (fun w L => Ro w L P6 [.slice a_l m_l c_l] l) [] (κ := Option Addr × Nat × Nat) (fun k => True) (fun k => .slice k.1 k.2.1 k.2.2) (fun k => [ow P6 [.slice k.1 k.2.1 k.2.2] (exB l)]) := by
 refine n9 Tryz.func143 rfl (n := 26) rfl (by decide +kernel) bl (fr := [(0, .slice a_l m_l c_l)]) rfl fun w L hR => ?_
 have hl := hR
 obtain ⟨rfl, ll⟩ := hl.slen
 refine Ew Z1 (Ei rfl (Ev Z2 (Est rfl (Nb [] [] us_Methods ty_Method rfl rfl) (fun b6 _ => (Ent.drop (Ei rfl (Eu (Eq_ (Ew Z1 (Ei rfl (Eu (E.block (s3 (A := []) (Own.nil (E := X4) (e := a8T) (a := (some ⟨b6, 0, none⟩))) rfl (j6 (congrArg (ow P6 [_]) (show [] = (l.take 0).map U1 from by first | rfl | (simp; done) | grind [d1, d2, t1, t2])) (E.loop (κ := Nat × Option Addr × Nat × Nat) (fun g => g.1 ≤ l.length ∧ True) (fun g => [(0, .slice a_l l.length c_l), (3, .slice g.2.1 g.2.2.1 g.2.2.2), (4, .int .i64 (↑g.1 : Int))]) (fun g => [ow P6 [.slice g.2.1 g.2.2.1 g.2.2.2] ((l.take g.1).map U1)]) (fun g => l.length - g.1) (0, (some ⟨b6, 0, none⟩), 0, 0) ⟨Nat.zero_le _, by simp⟩ ⟨rfl, rfl, rfl, trivial⟩ (.refl _) (fun g pg => ?_))))))))))))))))
 obtain ⟨g, aA0_0, mA0_0, cA0_0⟩ := g
 try dsimp only at pg
 try dsimp only
 obtain ⟨pk, pa⟩ := pg
 refine i9 m0 fun eaA0_0 laA0_0 => ?_
 subst eaA0_0
 refine Eq_ (Ew Z4 (Em rfl (Em rfl (Ey rfl ((Y.len us_Methods rfl).yd) (Ey rfl ((Y.lss rfl rfl).yd) (o6 (fun q10 => ?_) (fun q10 => ?_)))))))
 ·refine Eu (o2 rfl (j5 (Et (Eq_ (E.block (Ew Z6 (Em rfl (Em rfl ?_))))))))
  obtain ⟨eb15, eo15, ec15, ea15, er15, el15, eh15⟩ := hl.elem g om
  obtain ⟨rfl, ei15_0, ei15_2, ei15_3, ei15_4⟩ := b3H er15
  refine Ey rfl ((r7 us_Methods ty_Method rfl ea15 rfl g rfl om).yd) (Ey rfl (o9 (cs := [_, _, _, _, _]) ty_Method rfl (eh15 _) rfl) (Est rfl (N.alloc ty_Method dc) (fun b5 _ => (Est rfl (Ns [_, _, _, _, _] ty_Method rfl) (fun _ _ => (Eu (Eq_ (Ew Z3 (Ey rfl ((j7 fo_Method_2 i8 dc rfl).yd) (Ey rfl (g9 i8 rfl (Hz m0 2 rfl) rfl) (Ey rfl ((Y.neq rfl rfl).yd) (o6 (fun q19 => ?_) (fun q19 => ?_)))))))))))))
  ·refine Eu (o2 rfl (Ez Z2 (Ey rfl ((j7 fo_Method_0 i8 dc rfl).yd) (Est rfl (Ns [_, _, _, _, _] i8 rfl) (fun _ _ => (Eu (Ez Z5 (Em rfl (Ey rfl (o9 (cs := [_, _, _, _, _]) ty_Method rfl (Has.pt m0) rfl) (Est rfl (Nb [_] [_, _, _, _, _] us_Methods ty_Method rfl rfl) (fun b23 _ => (r5 (Est rfl (D6 (E := X4) (ex := (-1, l[g].2.1, l[g].2.2.1, l[g].2.2.2.1, l[g].2.2.2.2)) us_Methods ty_Method rfl rfl rfl (a2S (x := (-1, l[g].2.1, l[g].2.2.1, l[g].2.2.2.1, l[g].2.2.2.2)) i6 ei15_2 ei15_3 ei15_4) rfl bn bn dc) (fun p24 _ => (Ei rfl (En (t7 (Et (Ez Z3 (Em rfl (Ey rfl ((Y.add rfl rfl om om).yd) (Ei rfl (Eu (i7 (Ent.drop (j6 (congrArg (ow P6 [_]) (show ((l.take g).map U1) ++ [(-1, l[g].2.1, l[g].2.2.1, l[g].2.2.2.1, l[g].2.2.2.2)] = (l.take (g + 1)).map U1 from by first | exact b3c om q19 | exact b3l om q19)) ?_))))))))))))))))))))))))))
   exact Ea (g + 1, p24.1, (((l.take g).map U1).length + 1), p24.2) ⟨oz, trivial⟩
  ·refine Eu (o3 rfl (j5 (Et (Ez Z5 (Em rfl (Ey rfl (o9 (cs := [_, _, _, _, _]) ty_Method rfl (Has.pt m0) rfl) (Est rfl (Nb [_] [_, _, _, _, _] us_Methods ty_Method rfl rfl) (fun b23 _ => (r5 (Est rfl (D6 (E := X4) (ex := l[g]) us_Methods ty_Method rfl rfl rfl (a2S (x := l[g]) ei15_0 ei15_2 ei15_3 ei15_4) rfl bn bn dc) (fun p24 _ => (Ei rfl (En (t7 (Et (Ez Z3 (Em rfl (Ey rfl ((Y.add rfl rfl om om).yd) (Ei rfl (Eu (i7 (Ent.drop (j6 (congrArg (ow P6 [_]) (show ((l.take g).map U1) ++ [l[g]] = (l.take (g + 1)).map U1 from by first | exact b3c om q19 | exact b3l om q19)) ?_)))))))))))))))))))))))
   exact Ea (g + 1, p24.1, (((l.take g).map U1).length + 1), p24.2) ⟨oz, trivial⟩
 ·refine Eu (o3 rfl (E.exit (o8 (o8 (x9 (Et (Ew Z2 (Em rfl (Ei rfl (Eu (E.ret (j6 (congrArg (ow P6 [_]) (show _ = exB l by exact b8R om)) ?_))))))))))))
  exact Fg rfl rfl (_, _, _) rfl rfl
theorem a9S : Tr Tryz.prog 237 [.agg #[.int .i64 D7, .slice B2 C8 B1, .int .i64 z6, .int .i64 C9, .int .i64 z7], .agg #[.int .i64 l0, .slice s7 u8 s6]] (fun w L => I64 D7 ∧ Ro w L eIs [.slice B2 C8 B1] t6 ∧ I64 z6 ∧ I64 C9 ∧ I64 z7 ∧ I64 l0 ∧ Ro w L eIs [.slice s7 u8 s6] f7) [] (κ := Unit) (fun k => True) (fun k => .bool (true)) (fun k => []) := by
 refine n9 Tryz.func237 rfl (n := 5) rfl (by decide +kernel) bl (fr := [(0, .agg #[.int .i64 D7, .slice B2 C8 B1, .int .i64 z6, .int .i64 C9, .int .i64 z7]), (1, .agg #[.int .i64 l0, .slice s7 u8 s6])]) rfl fun w L hR => ?_
 obtain ⟨V0, E8, P8, S2, P9, G5, x6⟩ := hR
 obtain ⟨rfl, Y7⟩ := E8.slen
 obtain ⟨rfl, N8⟩ := x6.slen
 refine Ew Z3 (Est rfl (N.box (cs := [_, _, _, _, _]) rfl dc rfl) (fun b2 _ => (Est rfl (N.box (cs := [_, _]) rfl dc rfl) (fun b3 _ => (Ei rfl (Ev Z1 (Ei rfl ?_)))))))
 exact Eu (E.ret (Fg rfl rfl () rfl rfl))
theorem a5s : Tr Tryz.prog 292 [.agg #[.int .i64 D7, .slice B2 C8 B1, .int .i64 z6, .int .i64 C9, .int .i64 z7], .pointer (some ⟨b_a, 0, none⟩), .pointer (some ⟨b_bound, 0, none⟩), .pointer (some ⟨b_is, 0, none⟩)] (fun w L => (I64 D7 ∧ Ro w L eIs [.slice B2 C8 B1] t6 ∧ I64 z6 ∧ I64 C9 ∧ I64 z7) ∧ RoPt w L b_a [.int .i64 l0, .slice s7 u8 s6] ∧ I64 l0 ∧ Ro w L eIs [.slice s7 u8 s6] f7 ∧ RoPt w L b_bound [.slice a_bound m_bound c_bound] ∧ Ro w L eIs [.slice a_bound m_bound c_bound] G7 ∧ RoPt w L b_is [.func (.func 237) #[] #[]]) [] (κ := Unit) (fun k => True) (fun k => .bool (N5 (D7, t6, z6, C9, z7) (l0, f7) G7)) (fun k => []) := by
 refine n9 Tryz.func292 rfl (n := 16) rfl (by decide +kernel) bl (fr := [(0, .agg #[.int .i64 D7, .slice B2 C8 B1, .int .i64 z6, .int .i64 C9, .int .i64 z7]), (1, .pointer (some ⟨b_a, 0, none⟩)), (2, .pointer (some ⟨b_bound, 0, none⟩)), (3, .pointer (some ⟨b_is, 0, none⟩))]) rfl fun w L hR => ?_
 obtain ⟨⟨V0, E8, P8, S2, P9⟩, hb_a, G5, x6, hb_bound, hbound, hb_is⟩ := hR
 obtain ⟨rfl, Y7⟩ := E8.slen
 obtain ⟨rfl, N8⟩ := x6.slen
 obtain ⟨rfl, lbound⟩ := hbound.slen
 refine Ew Z2 (Est rfl (N.box (cs := [_, _, _, _, _]) rfl dc rfl) (fun b4 _ => (Ei rfl (Ev Z11 (Ey rfl (o9 (cs := [_, _, _, _, _]) ty_Method rfl (Has.pt m0) rfl) (Ey rfl (o9 (cs := [_, _]) ty_Atom rfl (hb_a.has) rfl) (Ey rfl (g9 ty_Is rfl (hb_bound.has) rfl) (Est rfl (n0 a5W rfl rfl rfl dc (fun w Lp hA => ⟨V0, hA.ro E8, P8, S2, P9, G5, hA.ro x6, hA.ro hbound⟩)) (fun _ _ => (Ent.b (fun q9 => ?_) (fun q9 => ?_)))))))))))
 ·refine Em rfl (Ey rfl (g9 ty_Fma rfl (hb_is.has) rfl) (Ey rfl (o9 (cs := [_, _, _, _, _]) ty_Method rfl (Has.pt m0) rfl) (Ey rfl (o9 (cs := [_, _]) ty_Atom rfl (hb_a.has) rfl) (Est rfl (n0 a9S rfl rfl rfl dc (fun w Lp hA => ⟨V0, hA.ro E8, P8, S2, P9, G5, hA.ro x6⟩)) (fun _ _ => (Ey rfl ((u7 rfl rfl).yd) (Ei rfl ?_)))))))
  exact Eu (E.ret (Fb rfl rfl (by grind [d1, d2, t1, t2])))
 ·refine Em rfl (Es rfl (Es rfl (Es rfl (Es rfl (Ey rfl ((u0 rfl rfl).yd) (Ei rfl ?_))))))
  exact Eu (E.ret (Fb rfl rfl (by grind [d1, d2, t1, t2])))
theorem a3C {b_atoms : Nat} {b_l : Nat} {b_done : Nat} {a_done : Option Addr} {m_done c_done : Nat} {done : List Bool} : Tr Tryz.prog 291 [.pointer (some ⟨b_atoms, 0, none⟩), .pointer (some ⟨b_l, 0, none⟩), .pointer (some ⟨b_bound, 0, none⟩), .pointer (some ⟨b_is, 0, none⟩), .pointer (some ⟨b_done, 0, none⟩)] (fun w L => (True) ∧ RoPt w L b_atoms [.slice a_atoms m_atoms c_atoms] ∧ Ro w L B7 [.slice a_atoms m_atoms c_atoms] f5 ∧ RoPt w L b_l [.slice a_l m_l c_l] ∧ Ro w L E6 [.slice a_l m_l c_l] l ∧ RoPt w L b_bound [.slice a_bound m_bound c_bound] ∧ Ro w L eIs [.slice a_bound m_bound c_bound] G7 ∧ RoPt w L b_is [.func (.func 237) #[] #[]] ∧ RoPt w L b_done [.slice a_done m_done c_done] ∧ Ro w L eBs [.slice a_done m_done c_done] done ∧ done.length = f5.length) [] (κ := Unit) (fun k => True) (fun k => .tuple #[.agg #[.int .i64 ((G3 l G7 f5 done 0).1), .int .i64 ((G3 l G7 f5 done 0).2.1)], .bool ((G3 l G7 f5 done 0).2.2)]) (fun k => []) := by
 refine n9 Tryz.func291 rfl (n := 34) rfl (by decide +kernel) bl (fr := [(0, .pointer (some ⟨b_atoms, 0, none⟩)), (1, .pointer (some ⟨b_l, 0, none⟩)), (2, .pointer (some ⟨b_bound, 0, none⟩)), (3, .pointer (some ⟨b_is, 0, none⟩)), (4, .pointer (some ⟨b_done, 0, none⟩))]) rfl fun w L hR => ?_
 obtain ⟨_, hb_atoms, hatoms, hb_l, hl, hb_bound, hbound, hb_is, hb_done, hdone, as0⟩ := hR
 obtain ⟨rfl, latoms⟩ := hatoms.slen
 obtain ⟨rfl, ll⟩ := hl.slen
 obtain ⟨rfl, lbound⟩ := hbound.slen
 obtain ⟨rfl, ldone⟩ := hdone.slen
 refine Ew Z2 (Est rfl (N.alloc ty_Step dc) (fun b5 _ => (Ei rfl (Eu (Eq_ (Ew Z3 (Ey rfl (g9 ty_Atoms rfl (hb_atoms.has) rfl) (Ey rfl ((Y.len us_Atoms rfl).yd) (Em rfl (Eu (E.block (E.loop (κ := Nat) (fun g => g ≤ f5.length ∧ G3 l G7 f5 done 0 = G3 l G7 (f5.drop g) (done.drop g) g) (fun g => [(1, .pointer (some ⟨b_l, 0, none⟩)), (2, .pointer (some ⟨b_bound, 0, none⟩)), (3, .pointer (some ⟨b_is, 0, none⟩)), (4, .pointer (some ⟨b_done, 0, none⟩)), (5, .pointer (some ⟨b5, 0, none⟩)), (10, .slice a_atoms f5.length c_atoms), (11, .int .i64 (↑f5.length : Int)), (12, .int .i64 (g : Int))]) (fun g => [pt b5 130 [.int .i64 0, .int .i64 0]]) (fun g => f5.length - g) 0 ⟨Nat.zero_le _, by simp⟩ ⟨rfl, rfl, rfl, rfl, rfl, rfl, rfl, rfl, trivial⟩ (.refl _) (fun g pg => ?_)))))))))))))
 obtain ⟨pk, pa⟩ := pg
 refine Ew Z1 (Ey rfl ((Y.lss rfl rfl).yd) (o6 (fun q13 => ?_) (fun q13 => ?_)))
 ·refine Eu (Eq_ (o2 rfl (j5 (Et (Eq_ (E.block (Ew Z6 (Em rfl ?_))))))))
  obtain ⟨eb15, eo15, ec15, ea15, er15, el15, eh15⟩ := hatoms.elem g om
  obtain ⟨xa15_0, xc15_0, rfl, ei15_0, xh15_0⟩ := K0 er15
  have := xh15_0.slen.2
  refine Ey rfl ((r7 us_Atoms ty_Atom rfl ea15 rfl g rfl om).yd) (Ey rfl (o9 (cs := [_, _]) ty_Atom rfl (eh15 _) rfl) (Est rfl (N.alloc ty_Atom dc) (fun b8 _ => (Ei rfl (Est rfl (Ns [_, _] ty_Atom rfl) (fun _ _ => (Ev Z4 (Ey rfl (g9 ty_Methods rfl (hb_l.has) rfl) (Ey rfl ((Y.fn (vs := [_, _, _]) rfl).yd) (Est rfl (n0 (a2t (f := (fun z => N5 z f5[g] G7)) (D_f := (fun _ => True)) (by intros; exact trivial)) rfl rfl rfl dc (fun w Lp hA => ⟨hA.ro hl, a4P (RR := fun w L => RoPt w L b8 [.int .i64 f5[g].1, .slice xa15_0 f5[g].2.length xc15_0] ∧ I64 f5[g].1 ∧ Ro w L eIs [.slice xa15_0 f5[g].2.length xc15_0] f5[g].2 ∧ RoPt w L b_bound [.slice a_bound G7.length c_bound] ∧ Ro w L eIs [.slice a_bound G7.length c_bound] G7 ∧ RoPt w L b_is [.func (.func 237) #[] #[]]) (D := (fun _ => True)) (fun hd => a5s) (fun w' hk => ⟨(hA.pt m0).keep hk, ei15_0, (hA.ro xh15_0).keep hk, (hA.rop hb_bound).keep hk, (hA.ro hbound).keep hk, (hA.rop hb_is).keep hk⟩)⟩)) (fun _ _ => (Ei rfl (Ev Z9 (Ey rfl (g9 ty_Bs rfl (hb_done.has) rfl) (Em rfl ?_)))))))))))))))
  obtain ⟨eb22, eo22, ea22, eh22⟩ := hdone.elemB g om
  refine Ey rfl ((r7 us_Bs ty_B rfl ea22 rfl g rfl om).yd) (Ey rfl (g9 ty_B rfl (eh22 _) rfl) (Ent.b (fun q23 => ?_) (fun q23 => ?_)))
  ·refine Ey rfl ((Y.not (b := true) rfl).yd) (Em rfl (Es rfl (Es rfl (Ey rfl ((u0 rfl rfl).yd) (Eu (o3 rfl (j5 (t7 (Et (Ez Z2 (Ey rfl ((Y.add rfl rfl om om).yd) (Em rfl (Eu (Ent.drop ?_))))))))))))))
   exact v8 br (g + 1) rs (.refl _) ⟨by omega, by exact pa.trans (a6r om om (by first | (rw [q23]; simp; done) | (unfold F1; simp [q27])))⟩ om
  ·refine Ey rfl ((Y.not (b := false) rfl).yd) (Em rfl (Em rfl (Ey rfl ((Y.geq rfl rfl).yd) (o6 (fun q27 => ?_) (fun q27 => ?_)))))
   ·refine Ey rfl ((u7 rfl rfl).yd) (Eu (o2 rfl (Ew Z5 (Em rfl (Em rfl (Ey rfl ((Q3 (pvs := [_, _]) (cs := [_, _]) ty_Step pl_Step rfl rfl).yd) (i7 (Est rfl (Ns [_, _] ty_Step rfl) (fun _ _ => (Ei rfl ?_))))))))))
    exact Eu (E.ret (w5 (l4 (l4 (w5 (l4 (a3d br rfl rfl rfl m0 ty_Step rfl () trivial (by rw [show ((G3 l G7 f5 done 0).1) = ((g : Int)) from (by rw [pa, a6t om om (by rw [q23]; exact decide_eq_true q27)]; try rfl)]; rw [show ((G3 l G7 f5 done 0).2.1) = (H0 (fun z => N5 z f5[g] G7) l) from (by rw [pa, a6t om om (by rw [q23]; exact decide_eq_true q27)]; try rfl)]; rw [show ((G3 l G7 f5 done 0).2.2) = (true) from (by rw [pa, a6t om om (by rw [q23]; exact decide_eq_true q27)]; try rfl)]; try rfl) (J := _) (.refl _) (.inl rfl))))))))
   ·refine Ey rfl ((u7 rfl rfl).yd) (Eu (o3 rfl (j5 (t7 (Et (Ez Z2 (Ey rfl ((Y.add rfl rfl om om).yd) (Em rfl (Eu (Ent.drop ?_))))))))))
    exact v8 br (g + 1) rs (.refl _) ⟨by omega, by exact pa.trans (a6r om om (by first | (rw [q23]; simp; done) | (unfold F1; simp [q27])))⟩ om
 ·refine Eu (Eq_ (o3 rfl (E.exit (o8 (o8 (x9 (Et (Ew Z3 (Ey rfl ((Q3 (pvs := []) (cs := [_, _]) ty_Step pl_Step rfl rfl).yd) (Est rfl (Ns [_, _] ty_Step rfl) (fun _ _ => (Ei rfl ?_))))))))))))
  exact Eu (E.ret (a3d br rfl rfl rfl m0 ty_Step rfl () trivial (by rw [show ((G3 l G7 f5 done 0).1) = (0) from (by rw [pa, a6m om])]; rw [show ((G3 l G7 f5 done 0).2.1) = (0) from (by rw [pa, a6m om])]; rw [show ((G3 l G7 f5 done 0).2.2) = (false) from (by rw [pa, a6m om])]; try rfl) (J := _) (.refl _) (.inl rfl)))
theorem a6Z (hl : l.length ≤ 1000) (ha : f5.length ≤ 1000) (ht : ∀ a ∈ f5, a.2.length ≤ 3) : Tr Tryz.prog 236 [.slice a_l m_l c_l, .slice a_atoms m_atoms c_atoms, .func (.func 237) #[] #[]] (fun w L => Ro w L E6 [.slice a_l m_l c_l] l ∧ Ro w L B7 [.slice a_atoms m_atoms c_atoms] f5) [] (κ := (Option Addr × Nat × Nat) × (Option Addr × Nat × Nat)) (fun k => True) (fun k => .tuple #[.slice k.1.1 k.1.2.1 k.1.2.2, .slice k.2.1 k.2.2.1 k.2.2.2]) (fun k => [ow M5 [.slice k.1.1 k.1.2.1 k.1.2.2] ((grF l f5).1), ow eBs [.slice k.2.1 k.2.2.1 k.2.2.2] ((grF l f5).2.1)]) := by
 refine n9 Tryz.func236 rfl (n := 50) rfl (by decide +kernel) bl (fr := [(0, .slice a_l m_l c_l), (1, .slice a_atoms m_atoms c_atoms), (2, .func (.func 237) #[] #[])]) rfl fun w L hR => ?_
 obtain ⟨hl, hatoms⟩ := hR
 obtain ⟨rfl, ll⟩ := hl.slen
 obtain ⟨rfl, latoms⟩ := hatoms.slen
 refine Ew Z5 (Est rfl (N.box (cs := [_]) rfl dc rfl) (fun b3 _ => (Est rfl (N.box (cs := [_]) rfl dc rfl) (fun b4 _ => (Est rfl (N.box (cs := [_]) rfl dc rfl) (fun b5 _ => (Ei rfl (Ei rfl (Ev Z2 (Est rfl (Nb [] [] us_Steps ty_Step rfl rfl) (fun b14 _ => (Ent.drop (Ei rfl (Ev Z5 (Ey rfl (g9 ty_Atoms rfl (Has.pt (mS m0)) rfl) (Ey rfl ((Y.len us_Atoms rfl).yd) (Est rfl (a7K (m := f5.length) us_Bs ty_B rfl rfl rfl mx om dc) (fun b17 _ => (s3 (A := [_]) (a4O (E := Enc.bool) (e := tB) (zx := false) Own.bool mx) rfl (Est rfl (N.alloc ty_Bs dc) (fun b9 _ => (Est rfl (Ns [_] ty_Bs rfl) (fun _ _ => (Ev Z3 (Est rfl (Nb [] [] us_Is i8 rfl rfl) (fun b18 _ => (Ent.drop (Est rfl (N.alloc ty_Is dc) (fun b10 _ => (Est rfl (Ns [_] ty_Is rfl) (fun _ _ => (Ev Z2 (Ey rfl ((Y.fn (vs := [_, _, _, _, _]) rfl).yd) (Ei rfl (Eu (Eq_ (Ew Z8 (Em rfl (Est rfl (n0 a3C rfl rfl rfl dc (fun w Lp hA => ⟨trivial, ⟨(hA.pt (mS (mS (mS (mS m0))))), (hA.ro hatoms), (hA.pt (mS (mS (mS (mS (mS m0)))))), (hA.ro hl), (hA.pt m0), (b5T), (hA.pt (mS (mS (mS m0)))), (hA.pt (mS m0)), (hA.ow (mS (mS m0))), (by first | exact List.length_replicate .. | exact a4h)⟩⟩)) (fun _ _ => (Em rfl (Ey rfl ((Y.ext rfl rfl).yd) (Ey rfl ((Y.ext rfl rfl).yd) (Est rfl (N.alloc ty_Step dc) (fun b12 _ => (Est rfl (Ns [_, _] ty_Step rfl) (fun _ _ => (Ei rfl (Eu (E.block (s3 (A := []) (Own.nil (E := a1B) (e := tStep) (a := (some ⟨b14, 0, none⟩))) rfl (j6 (congrArg (ow M5 [_]) (show [] = (grI l f5 0).1 from by first | rfl | simp)) (i7 (j6 (congrArg (fun z => pt b12 130 [.int .i64 z, .int .i64 ((G3 l ([]) f5 (List.replicate f5.length false) 0).2.1)]) (show (G3 l ([]) f5 (List.replicate f5.length false) 0).1 = (G3 l (grI l f5 0).2.2 f5 (grI l f5 0).2.1 0).1 from by first | rfl | simp)) (j6 (congrArg (fun z => pt b12 130 [.int .i64 ((G3 l (grI l f5 0).2.2 f5 (grI l f5 0).2.1 0).1), .int .i64 z]) (show (G3 l ([]) f5 (List.replicate f5.length false) 0).2.1 = (G3 l (grI l f5 0).2.2 f5 (grI l f5 0).2.1 0).2.1 from by first | rfl | simp)) (s3 (A := []) (Own.nil (E := Enc.int) (e := tI) (a := (some ⟨b18, 0, none⟩))) rfl (j6 (congrArg (ow eIs [_]) (show [] = (grI l f5 0).2.2 from by first | rfl | simp)) (J7 (j6 (congrArg (ow eBs [_]) (show List.replicate f5.length false = (grI l f5 0).2.1 from by first | rfl | simp)) (E.loop (κ := Nat × Option Addr × Nat × Nat × Nat × Option Addr × Nat × Nat × Option Addr × Nat × Nat) (fun g => g.1 ≤ f5.length ∧ grP l f5 g.1) (fun g => [(4, .pointer (some ⟨b4, 0, none⟩)), (8, .slice g.2.1 g.2.2.1 g.2.2.2.1), (9, .pointer (some ⟨b9, 0, none⟩)), (10, .pointer (some ⟨b10, 0, none⟩)), (11, .func (.func 291) #[] #[.pointer (some ⟨b4, 0, none⟩), .pointer (some ⟨b3, 0, none⟩), .pointer (some ⟨b10, 0, none⟩), .pointer (some ⟨b5, 0, none⟩), .pointer (some ⟨b9, 0, none⟩)]), (12, .pointer (some ⟨g.2.2.2.2.1, 0, none⟩)), (13, .bool ((G3 l (grI l f5 g.1).2.2 f5 (grI l f5 g.1).2.1 0).2.2))]) (fun g => [ow eBs [.slice g.2.2.2.2.2.2.2.2.1 g.2.2.2.2.2.2.2.2.2.1 g.2.2.2.2.2.2.2.2.2.2] ((grI l f5 g.1).2.1), ow eIs [.slice g.2.2.2.2.2.1 g.2.2.2.2.2.2.1 g.2.2.2.2.2.2.2.1] ((grI l f5 g.1).2.2), pt g.2.2.2.2.1 130 [.int .i64 ((G3 l (grI l f5 g.1).2.2 f5 (grI l f5 g.1).2.1 0).1), .int .i64 ((G3 l (grI l f5 g.1).2.2 f5 (grI l f5 g.1).2.1 0).2.1)], ow M5 [.slice g.2.1 g.2.2.1 g.2.2.2.1] ((grI l f5 g.1).1), pt b10 22 [.slice g.2.2.2.2.2.1 g.2.2.2.2.2.2.1 g.2.2.2.2.2.2.2.1], pt b9 189 [.slice g.2.2.2.2.2.2.2.2.1 g.2.2.2.2.2.2.2.2.2.1 g.2.2.2.2.2.2.2.2.2.2], pt b5 245 [.func (.func 237) #[] #[]], pt b4 59 [.slice a_atoms f5.length c_atoms], pt b3 32 [.slice a_l l.length c_l]]) (fun g => f5.length - g.1) (0, (some ⟨b14, 0, none⟩), 0, 0, b12, (some ⟨b18, 0, none⟩), 0, 0, (some ⟨b17, 0, none⟩), f5.length, f5.length) ⟨Nat.zero_le _, b7B⟩ ⟨rfl, rfl, rfl, rfl, rfl, rfl, frB (by first | rfl | simp), trivial⟩ (.refl _) (fun g pg => ?_)))))))))))))))))))))))))))))))))))))))))))))))))))))))))))))
 obtain ⟨g, aA0_0, mA0_0, cA0_0, bA0_1, aA0_3, mA0_3, cA0_3, aA0_4, mA0_4, cA0_4⟩ := g
 try dsimp only at pg
 try dsimp only
 obtain ⟨pk, pa⟩ := pg
 have jb := b7t (l := l) (f5 := f5) (n := g) ht
 have jd := a4h (l := l) (f5 := f5) (n := g)
 have js := b2a (l := l) (f5 := f5) (n := g)
 refine i9 (mS (mS (mS m0))) fun eaA0_0 laA0_0 => ?_
 subst eaA0_0
 refine i9 (mS m0) fun eaA0_3 laA0_3 => ?_
 subst eaA0_3
 refine i9 m0 fun eaA0_4 laA0_4 => ?_
 subst eaA0_4
 refine Eq_ (Ew Z1 (Em rfl (Ent.b (fun q25 => ?_) (fun q25 => ?_))))
 ·have jl := b9J pa q25
  obtain ⟨jn1, jn2, jn3, jn4⟩ := c0y (l := l) (f5 := f5) (n := g) q25
  refine Eu (o2 rfl (j5 (Et (Eq_ (E.block (Ew Z5 (Ey rfl (g9 ty_Bs rfl (Has.pt (mS (mS (mS (mS (mS m0)))))) rfl) (Ey rfl ((j7 fo_Step_0 i8 dc rfl).yd) (Ey rfl (g9 i8 rfl (Hz (mS (mS m0)) 0 rfl) rfl) (a0j m0 om fun ab34 ae34 => (Ey rfl ((r7 us_Bs ty_B rfl ae34 rfl (((G3 l (grI l f5 g).2.2 f5 (grI l f5 g).2.1 0).1).toNat) om om).yd) (Est rfl (N.set (E := Enc.bool) (j := ((G3 l (grI l f5 g).2.2 f5 (grI l f5 g).2.1 0).1).toNat) (ex := true) (ce := [_]) ty_B rfl rfl rfl rfl Own.bool ae34 (Nat.zero_add _) rfl om) (fun _ _ => (Eu (Eq_ (D.region (fun j => !(Nat.beq j 7) && !(Nat.beq j 8)) mixed (Dy 0 rfl (g9 ty_Is rfl (Has.pt (mS (mS (mS (mS m0))))) rfl) (Dy 1 rfl (g9 ty_Atoms rfl (Has.pt (mS (mS (mS (mS (mS (mS (mS m0)))))))) rfl) (Dyp 2 rfl (j7 fo_Step_0 i8 dc rfl) (Dy 3 rfl (g9 i8 rfl (Hz (mS (mS m0)) 0 rfl) rfl) ?_))))))))))))))))))))
  obtain ⟨eb39, eo39, ec39, ea39, er39, el39, eh39⟩ := hatoms.elem (((G3 l (grI l f5 g).2.2 f5 (grI l f5 g).2.1 0).1).toNat) om
  obtain ⟨xa39_0, xc39_0, rfl, ei39_0, xh39_0⟩ := K0 er39
  have := xh39_0.slen.2
  refine Dyp 4 rfl (r7 us_Atoms ty_Atom rfl ea39 rfl (((G3 l (grI l f5 g).2.2 f5 (grI l f5 g).2.1 0).1).toNat) om om) (Dyp 5 rfl (j7 fo_Atom_1 ty_Is dc rfl) ?_)
  have jt := ht _ (List.getElem_mem (show ((G3 l (grI l f5 g).2.2 f5 (grI l f5 g).2.1 0).1).toNat < f5.length by omega))
  refine Dy 6 rfl (g9 ty_Is rfl ((eh39 _).sub (cs' := [_]) 1 rfl) rfl) (i7 (t8 7 rfl rfl kr (fun h => by cases h) (b8e (E := Enc.int) Plain.int us_Is i8 rfl rfl rfl xh39_0 rfl bn bn dc) (fun p42 _ => (C7 (t8 8 rfl rfl kr (fun h => by cases h) (Ns [_] ty_Is rfl) (fun _ _ => (r8 kr (Et (Ez Z5 (Em rfl (Ey rfl (o9 (cs := [_, _]) ty_Step rfl (Has.pt (mS (mS (mS m0)))) rfl) (Est rfl (Nb [_] [_, _] us_Steps ty_Step rfl rfl) (fun b45 _ => (J7 (Est rfl (D6 (E := a1B) (ex := ((G3 l (grI l f5 g).2.2 f5 (grI l f5 g).2.1 0).1, (G3 l (grI l f5 g).2.2 f5 (grI l f5 g).2.1 0).2.1)) us_Steps ty_Step rfl rfl rfl (b0d (x := ((G3 l (grI l f5 g).2.2 f5 (grI l f5 g).2.1 0).1, (G3 l (grI l f5 g).2.2 f5 (grI l f5 g).2.1 0).2.1)) i6 i6) rfl bn bn dc) (fun p46 _ => (Ei rfl (En (t7 (Et (Eq_ (Ew Z1 (Ey rfl (o9 (cs := [_, _]) ty_Step rfl (Has.pt (mS (mS (mS (mS m0))))) rfl) (Eu (Ez Z2 (Est rfl (N.alloc ty_Step dc) (fun b12 _ => (Est rfl (Ns [_, _] ty_Step rfl) (fun _ _ => (Eu (Ez Z7 (C7 (j6 (congrArg (ow eBs [_]) (show ((grI l f5 g).2.1).set (((G3 l (grI l f5 g).2.2 f5 (grI l f5 g).2.1 0).1).toNat) true = (grI l f5 (g + 1)).2.1 from by exact b9q q25)) (C7 (j6 (congrArg (ow eIs [_]) (show ((grI l f5 g).2.2) ++ f5[((G3 l (grI l f5 g).2.2 f5 (grI l f5 g).2.1 0).1).toNat].2 = (grI l f5 (g + 1)).2.2 from by exact b9w q25 om)) (Em rfl (Est rfl (n0 a3C rfl rfl rfl dc (fun w Lp hA => ⟨trivial, ⟨(hA.pt (mS (mS (mS (mS (mS (mS (mS (mS m0))))))))), (hA.ro hatoms), (hA.pt (mS (mS (mS (mS (mS (mS (mS (mS (mS m0)))))))))), (hA.ro hl), (hA.pt (mS (mS (mS (mS m0))))), (hA.ow m0), (hA.pt (mS (mS (mS (mS (mS (mS (mS m0)))))))), (hA.pt (mS (mS (mS (mS (mS (mS m0))))))), (hA.ow (mS m0)), (by first | exact List.length_replicate .. | exact a4h)⟩⟩)) (fun _ _ => (Em rfl (Ey rfl ((Y.ext rfl rfl).yd) (Ey rfl ((Y.ext rfl rfl).yd) (r5 (Est rfl (Ns [_, _] ty_Step rfl) (fun _ _ => (Ei rfl (Eu (j6 (congrArg (fun z => pt b12 130 [.int .i64 z, .int .i64 ((G3 l ((grI l f5 (g + 1)).2.2) f5 ((grI l f5 (g + 1)).2.1) 0).2.1)]) (show (G3 l ((grI l f5 (g + 1)).2.2) f5 ((grI l f5 (g + 1)).2.1) 0).1 = (G3 l (grI l f5 (g + 1)).2.2 f5 (grI l f5 (g + 1)).2.1 0).1 from by first | exact b1X q25 | rfl)) (j6 (congrArg (fun z => pt b12 130 [.int .i64 ((G3 l (grI l f5 (g + 1)).2.2 f5 (grI l f5 (g + 1)).2.1 0).1), .int .i64 z]) (show (G3 l ((grI l f5 (g + 1)).2.2) f5 ((grI l f5 (g + 1)).2.1) 0).2.1 = (G3 l (grI l f5 (g + 1)).2.2 f5 (grI l f5 (g + 1)).2.1 0).2.1 from by first | exact b1X q25 | rfl)) (J7 (Ent.drop (w7 (j6 (congrArg (ow M5 [_]) (show ((grI l f5 g).1) ++ [((G3 l (grI l f5 g).2.2 f5 (grI l f5 g).2.1 0).1, (G3 l (grI l f5 g).2.2 f5 (grI l f5 g).2.1 0).2.1)] = (grI l f5 (g + 1)).1 from by first | exact b1X q25 | rfl)) (N9 (N9 (N9 (N9 (N9 (J7 (y5 (R1 (N9 ?_)))))))))))))))))))))))))))))))))))))))))))))))))))))))))))))
  exact v8 br (g + 1, p46.1, (((grI l f5 g).1).length + 1), p46.2, b12, p42.1, (((grI l f5 g).2.2).length + f5[((G3 l (grI l f5 g).2.2 f5 (grI l f5 g).2.1 0).1).toNat].2.length), p42.2, aA0_4, ((grI l f5 g).2.1).length, cA0_4) ⟨rfl, rfl, rfl, rfl, rfl, rfl, frB (by first | exact b1X q25 | rfl), trivial⟩ (.refl _) ⟨oz, (show grP l f5 (g + 1) from by exact b7J pa q25)⟩ oz
 ·have jf := b8l pa q25
  refine Eu (o3 rfl (E.exit (o8 (o8 (x9 (Et (Eq_ (D.region (fun j => true) mixed (Dyp 0 rfl (l3 rfl) (Dy 1 rfl (g9 ty_Bs rfl (Has.pt (mS (mS (mS (mS (mS m0)))))) rfl) (Dyp 2 rfl (F7 rfl) (Dyp 3 rfl (F7 rfl) (r8 kr (Et (E.ret (j6 (congrArg (ow eBs [_]) (show _ = (grF l f5).2.1 by rw [jf])) (w7 (j6 (congrArg (ow M5 [_]) (show _ = (grF l f5).1 by rw [jf])) (i7 (i7 ?_))))))))))))))))))))
  exact b9d br rfl rfl rfl ((_, _, _), (_, _, _)) trivial rfl (J := _) (.refl _) (.inl rfl)
theorem b1C (hl : l.length ≤ 1000) (ha : f5.length ≤ 1000) (ht : ∀ a ∈ f5, a.2.length ≤ 3) : Tr Tryz.prog 161 [.slice a_l m_l c_l, .slice a_atoms m_atoms c_atoms] (fun w L => Ro w L E6 [.slice a_l m_l c_l] l ∧ Ro w L B7 [.slice a_atoms m_atoms c_atoms] f5) [] (κ := (Option Addr × Nat × Nat) × (Option Addr × Nat × Nat)) (fun k => True) (fun k => .tuple #[.slice k.1.1 k.1.2.1 k.1.2.2, .slice k.2.1 k.2.2.1 k.2.2.2]) (fun k => [ow M5 [.slice k.1.1 k.1.2.1 k.1.2.2] ((grF l f5).1), ow eBs [.slice k.2.1 k.2.2.1 k.2.2.2] ((grF l f5).2.1)]) := by
 refine n9 Tryz.func161 rfl (n := 11) rfl (by decide +kernel) bl (fr := [(0, .slice a_l m_l c_l), (1, .slice a_atoms m_atoms c_atoms)]) rfl fun w L hR => ?_
 obtain ⟨hl, hatoms⟩ := hR
 obtain ⟨rfl, ll⟩ := hl.slen
 obtain ⟨rfl, latoms⟩ := hatoms.slen
 refine Ew Z2 (Ei rfl (Ei rfl (Ev Z7 (Em rfl (Em rfl (Est rfl (N.call (a6Z fc fc fc) rfl rfl rfl dc rfl (fun w Lp hA => ⟨hA.ro hl, hA.ro hatoms⟩)) (fun k8 _ => ?_)))))))
 obtain ⟨⟨a8_0, m8_0, c8_0⟩, ⟨a8_1, m8_1, c8_1⟩⟩ := k8
 refine i9 m0 fun e8_0 l8_0 => ?_
 subst e8_0
 refine i9 (mS m0) fun e8_1 l8_1 => ?_
 subst e8_1
 refine Ey rfl ((Y.ext rfl rfl).yd) (Ey rfl ((Y.ext rfl rfl).yd) (Ei rfl (Ei rfl (Eu (E.ret (i7 (i7 (i7 (i7 ?_)))))))))
 exact b9d br rfl rfl rfl ((_, _, _), (_, _, _)) trivial rfl (J := _) (.refl _) (.inl rfl)
theorem a5S : Tr Tryz.prog 199 [.slice a_l m_l c_l, .agg #[.int .i64 l0, .slice s7 u8 s6], .slice a_bound m_bound c_bound] (fun w L => Ro w L E6 [.slice a_l m_l c_l] l ∧ I64 l0 ∧ Ro w L eIs [.slice s7 u8 s6] f7 ∧ Ro w L eIs [.slice a_bound m_bound c_bound] G7) [] (κ := Unit) (fun k => True) (fun k => .int .i64 (F1 l (l0, f7) G7)) (fun k => []) := by
 refine n9 Tryz.func199 rfl (n := 22) rfl (by decide +kernel) bl (fr := [(0, .slice a_l m_l c_l), (1, .agg #[.int .i64 l0, .slice s7 u8 s6]), (2, .slice a_bound m_bound c_bound)]) rfl fun w L hR => ?_
 obtain ⟨hl, G5, x6, hbound⟩ := hR
 obtain ⟨rfl, ll⟩ := hl.slen
 obtain ⟨rfl, N8⟩ := x6.slen
 obtain ⟨rfl, lbound⟩ := hbound.slen
 refine Ew Z2 (Est rfl (N.box (cs := [_, _]) rfl dc rfl) (fun b4 _ => (Ei rfl (Eu (Eq_ (Ew Z1 (Ei rfl (Eu (E.block (E.loop (κ := Nat) (fun g => g ≤ l.length ∧ ∀ x ∈ l.take g, N5 x (l0, f7) G7 = false) (fun g => [(0, .slice a_l l.length c_l), (2, .slice a_bound G7.length c_bound), (4, .pointer (some ⟨b4, 0, none⟩)), (7, .int .i64 (g : Int))]) (fun g => [pt b4 128 [.int .i64 l0, .slice s7 f7.length s6]]) (fun g => l.length - g) 0 ⟨Nat.zero_le _, by simp⟩ ⟨rfl, rfl, rfl, rfl, trivial⟩ (.refl _) (fun g pg => ?_)))))))))))
 obtain ⟨pk, pa⟩ := pg
 refine Eq_ (Ew Z4 (Em rfl (Em rfl (Ey rfl ((Y.len us_Methods rfl).yd) (Ey rfl ((Y.lss rfl rfl).yd) (o6 (fun q11 => ?_) (fun q11 => ?_)))))))
 ·refine Eu (o2 rfl (j5 (Et (Eq_ (E.block (Eq_ (D.region (fun j => true) mixed (Dyp 0 rfl (l3 rfl) (Dyp 1 rfl (l3 rfl) ?_)))))))))
  obtain ⟨eb16, eo16, ec16, ea16, er16, el16, eh16⟩ := hl.elem g om
  obtain ⟨xa16_0, xc16_0, rfl, ei16_0, xh16_0, ei16_2, ei16_3, ei16_4⟩ := J5 er16
  have := xh16_0.slen.2
  refine Dyp 2 rfl (r7 us_Methods ty_Method rfl ea16 rfl g rfl om) (Dy 3 rfl (o9 (cs := [_, _, _, _, _]) ty_Method rfl (eh16 _) rfl) (Dy 4 rfl (o9 (cs := [_, _]) ty_Atom rfl (Has.pt m0) rfl) (Dyp 5 rfl (l3 rfl) (t8 6 rfl rfl kr (fun _ => rfl) (n0 a5M rfl rfl rfl dc (fun w Lp hA => ⟨ei16_0, hA.ro xh16_0, ei16_2, ei16_3, ei16_4, G5, hA.ro x6, hA.ro hbound⟩)) (fun _ _ => (Ent.b (fun q20 => ?_) (fun q20 => ?_)))))))
  ·refine r8 kr (Et (o2 rfl (Ew Z2 (Em rfl (Ei rfl ?_)))))
   exact Eu (E.ret (w5 (l4 (l4 (w5 (l4 (Fg rfl rfl () (congrArg (Value.int .i64) (by first | exact P0 (p := fun m => N5 m (l0, f7) G7) om pa q20 | exact O2 (p := fun m => N5 m (l0, f7) G7) om pa)) rfl)))))))
  ·refine r8 kr (Et (o3 rfl (j5 (t7 (Et (Ez Z3 (Em rfl (Ey rfl ((Y.add rfl rfl om om).yd) (Ei rfl ?_)))))))))
   exact Eu (v8 br (g + 1) rs (.refl _) ⟨by omega, by exact T2 (p := fun m => N5 m (l0, f7) G7) om pa q20⟩ om)
 ·refine Eu (o3 rfl (E.exit (o8 (o8 (x9 (Et (Ew Z1 (Ei rfl ?_))))))))
  exact Eu (E.ret (Fg rfl rfl () (congrArg (Value.int .i64) (by first | exact P0 (p := fun m => N5 m (l0, f7) G7) om pa q20 | exact O2 (p := fun m => N5 m (l0, f7) G7) om pa)) rfl))
theorem a6Q (hz : G7.length ≤ 1000) (ht : f7.length ≤ 3) : Tr Tryz.prog 170 [.slice a_bound m_bound c_bound, .agg #[.int .i64 l0, .slice s7 u8 s6]] (fun w L => Ro w L eIs [.slice a_bound m_bound c_bound] G7 ∧ I64 l0 ∧ Ro w L eIs [.slice s7 u8 s6] f7) [] (κ := Option Addr × Nat × Nat) (fun k => True) (fun k => .slice k.1 k.2.1 k.2.2) (fun k => [ow eIs [.slice k.1 k.2.1 k.2.2] (a1Y G7 (l0, f7))]) := by
 refine n9 Tryz.func170 rfl (n := 31) rfl (by decide +kernel) bl (fr := [(0, .slice a_bound m_bound c_bound), (1, .agg #[.int .i64 l0, .slice s7 u8 s6])]) rfl fun w L hR => ?_
 obtain ⟨hbound, G5, x6⟩ := hR
 obtain ⟨rfl, lbound⟩ := hbound.slen
 obtain ⟨rfl, N8⟩ := x6.slen
 refine Ew Z2 (Est rfl (N.box (cs := [_, _]) rfl dc rfl) (fun b3 _ => (Ei rfl (Ev Z4 (Est rfl (Nb [] [] us_Is i8 rfl rfl) (fun b7 _ => (Ent.drop (Em rfl (Est rfl (O6 (E := Enc.int) Plain.int us_Is i8 rfl rfl rfl hbound bn bn dc) (fun p9 _ => (Ei rfl (Eu (Eq_ (Ew Z1 (Ei rfl (Eu (E.block (j6 (congrArg (ow eIs [_]) (show G7 = ((f7.take 0).filter fun t => inR t 10 17).foldl M4 G7 from by first | rfl | (simp; done) | grind [d1, d2, t1, t2])) (E.loop (κ := Nat × Option Addr × Nat × Nat) (fun g => g.1 ≤ f7.length ∧ True) (fun g => [(3, .pointer (some ⟨b3, 0, none⟩)), (5, .slice g.2.1 g.2.2.1 g.2.2.2), (6, .int .i64 (↑g.1 : Int))]) (fun g => [ow eIs [.slice g.2.1 g.2.2.1 g.2.2.2] (((f7.take g.1).filter fun t => inR t 10 17).foldl M4 G7), pt b3 128 [.int .i64 l0, .slice s7 f7.length s6]]) (fun g => f7.length - g.1) (0, p9.1, G7.length, p9.2) ⟨Nat.zero_le _, by simp⟩ ⟨rfl, rfl, rfl, trivial⟩ (.refl _) (fun g pg => ?_))))))))))))))))))))
 obtain ⟨g, aA0_0, mA0_0, cA0_0⟩ := g
 try dsimp only at pg
 try dsimp only
 obtain ⟨pk, pa⟩ := pg
 have jf := a4H (b := G7) (t := (f7.take g).filter fun t => inR t 10 17)
 have jg := List.length_filter_le (fun t => inR t 10 17) (f7.take g)
 have jh := List.length_take_le g f7
 refine i9 m0 fun eaA0_0 laA0_0 => ?_
 subst eaA0_0
 refine Eq_ (Ew Z5 (Em rfl (Ey rfl ((j7 fo_Atom_1 ty_Is dc rfl).yd) (Ey rfl (g9 ty_Is rfl (Hz (mS m0) 1 rfl) rfl) (Ey rfl ((Y.len us_Is rfl).yd) (Ey rfl ((Y.lss rfl rfl).yd) (o6 (fun q14 => ?_) (fun q14 => ?_))))))))
 ·refine Eu (o2 rfl (j5 (Et (Eq_ (E.block (Ew Z6 (Ey rfl ((j7 fo_Atom_1 ty_Is dc rfl).yd) (Ey rfl (g9 ty_Is rfl (Hz (mS m0) 1 rfl) rfl) (Em rfl ?_)))))))))
  obtain ⟨eb20, eo20, ea20, ei20, eh20⟩ := x6.elemI g om
  refine Ey rfl ((r7 us_Is i8 rfl ea20 rfl g rfl om).yd) (Ey rfl (g9 i8 rfl (eh20 _) rfl) (Est rfl (n0 a1f rfl rfl rfl dc tv) (fun _ _ => (Ent.b (fun q22 => ?_) (fun q22 => ?_)))))
  ·refine Eu (o2 rfl (Ez Z8 (Em rfl (Ey rfl ((j7 fo_Atom_1 ty_Is dc rfl).yd) (Ey rfl (g9 ty_Is rfl (Hz (mS m0) 1 rfl) rfl) (Em rfl (Ey rfl ((r7 us_Is i8 rfl ea20 rfl g rfl om).yd) (Ey rfl (g9 i8 rfl (eh20 _) rfl) (Est rfl (N.call (pre := [_]) (a7k fc) rfl rfl rfl dc rfl (fun w Lp hA => ei20)) (fun k29 _ => ?_))))))))))
   obtain ⟨a29, m29, c29⟩ := k29
   refine i9 m0 fun e29 l29 => ?_
   subst e29
   refine Ei rfl (En (t7 (Et (Ez Z3 (Em rfl (Ey rfl ((Y.add rfl rfl om om).yd) (Ei rfl (Eu (j6 (congrArg (ow eIs [_]) (show M4 (((f7.take g).filter fun t => inR t 10 17).foldl M4 G7) f7[g] = ((f7.take (g + 1)).filter fun t => inR t 10 17).foldl M4 G7 from by first | exact b5G om q22 | exact b5H om q22)) (i7 (i7 ?_)))))))))))
   exact Ea (g + 1, a29, (M4 (((f7.take g).filter fun t => inR t 10 17).foldl M4 G7) f7[g]).length, c29) ⟨oz, trivial⟩
  ·refine Eu (o3 rfl (j5 (t7 (Et (Ez Z3 (Em rfl (Ey rfl ((Y.add rfl rfl om om).yd) (Ei rfl (Eu (j6 (congrArg (ow eIs [_]) (show ((f7.take g).filter fun t => inR t 10 17).foldl M4 G7 = ((f7.take (g + 1)).filter fun t => inR t 10 17).foldl M4 G7 from by first | exact b5G om q22 | exact b5H om q22)) (i7 (i7 ?_))))))))))))
   exact Ea (g + 1, aA0_0, (((f7.take g).filter fun t => inR t 10 17).foldl M4 G7).length, cA0_0) ⟨oz, trivial⟩
 ·refine Eu (o3 rfl (E.exit (o8 (o8 (x9 (Et (Ew Z2 (Em rfl (Ei rfl (Eu (E.ret (j6 (congrArg (ow eIs [_]) (show _ = a1Y G7 (l0, f7) by rw [List.take_of_length_le om]; rfl)) ?_))))))))))))
  exact Fg rfl rfl (_, _, _) rfl rfl
theorem a9w {x7 : Option Addr} {C6 x8 : Nat} {o0 : List Int} {v6 : Option Addr} {B3 v7 : Nat} {d7 : List (Int × List Int)} (hl : l.length ≤ 1000) (ha : d7.length ≤ 100) (ht : ∀ a ∈ d7, a.2.length ≤ 3) : Tr Tryz.prog 142 [.slice a_l m_l c_l, .agg #[.slice x7 C6 x8, .slice v6 B3 v7]] (fun w L => Ro w L E6 [.slice a_l m_l c_l] l ∧ Ro w L eIs [.slice x7 C6 x8] o0 ∧ Ro w L B7 [.slice v6 B3 v7] d7) [] (κ := Option Addr × Nat × Nat) (fun k => True) (fun k => .slice k.1 k.2.1 k.2.2) (fun k => [ow M5 [.slice k.1 k.2.1 k.2.2] ((grF l d7).1)]) := by
 refine n9 Tryz.func142 rfl (n := 62) rfl (by decide +kernel) bl (fr := [(0, .slice a_l m_l c_l), (1, .agg #[.slice x7 C6 x8, .slice v6 B3 v7])]) rfl fun w L hR => ?_
 obtain ⟨hl, F6, D4⟩ := hR
 obtain ⟨rfl, ll⟩ := hl.slen
 obtain ⟨rfl, a0t⟩ := F6.slen
 obtain ⟨rfl, X6⟩ := D4.slen
 refine Ew Z2 (Est rfl (N.box (cs := [_, _]) rfl dc rfl) (fun b3 _ => (Ei rfl (Ev Z2 (Est rfl (Nb [] [] us_Steps ty_Step rfl rfl) (fun b11 _ => (Ent.drop (Ei rfl (Ev Z2 (Est rfl (Nb [] [] us_Is i8 rfl rfl) (fun b12 _ => (Ent.drop (Ei rfl (Ev Z2 (Est rfl (Nb [] [] us_Is i8 rfl rfl) (fun b13 _ => (Ent.drop (Ei rfl (Eu (Eq_ (Ew Z1 (Ei rfl (Eu (E.block (s3 (A := []) (Own.nil (E := a1B) (e := tStep) (a := (some ⟨b11, 0, none⟩))) rfl (j6 (congrArg (ow M5 [_]) (show [] = (grI l d7 0).1 from by rfl)) (s3 (A := []) (Own.nil (E := Enc.int) (e := tI) (a := (some ⟨b12, 0, none⟩))) rfl (j6 (congrArg (ow eIs [_]) (show [] = grV l d7 0 from by rfl)) (s3 (A := []) (Own.nil (E := Enc.int) (e := tI) (a := (some ⟨b13, 0, none⟩))) rfl (j6 (congrArg (ow eIs [_]) (show [] = ((grI l d7 0).1).map (fun x => x.1) from by rfl)) (E.loop (κ := Nat × Option Addr × Nat × Nat × Option Addr × Nat × Nat × Option Addr × Nat × Nat) (fun r => r.1 ≤ d7.length ∧ True) (fun r => [(0, .slice a_l l.length c_l), (3, .pointer (some ⟨b3, 0, none⟩)), (5, .slice r.2.1 r.2.2.1 r.2.2.2.1), (6, .slice r.2.2.2.2.1 r.2.2.2.2.2.1 r.2.2.2.2.2.2.1), (7, .slice r.2.2.2.2.2.2.2.1 r.2.2.2.2.2.2.2.2.1 r.2.2.2.2.2.2.2.2.2), (8, .int .i64 (↑r.1 : Int))]) (fun r => [ow eIs [.slice r.2.2.2.2.2.2.2.1 r.2.2.2.2.2.2.2.2.1 r.2.2.2.2.2.2.2.2.2] (((grI l d7 r.1).1).map (fun x => x.1)), ow eIs [.slice r.2.2.2.2.1 r.2.2.2.2.2.1 r.2.2.2.2.2.2.1] (grV l d7 r.1), ow M5 [.slice r.2.1 r.2.2.1 r.2.2.2.1] ((grI l d7 r.1).1), pt b3 61 [.slice x7 o0.length x8, .slice v6 d7.length v7]]) (fun r => d7.length - r.1) (0, (some ⟨b11, 0, none⟩), 0, 0, (some ⟨b12, 0, none⟩), 0, 0, (some ⟨b13, 0, none⟩), 0, 0) ⟨Nat.zero_le _, by simp⟩ ⟨rfl, rfl, rfl, rfl, rfl, rfl, trivial⟩ (.refl _) (fun r pr => ?_))))))))))))))))))))))))))))))))
 obtain ⟨r, aA0_0, mA0_0, cA0_0, aA0_1, mA0_1, cA0_1, aA0_2, mA0_2, cA0_2⟩ := r
 try dsimp only at pr
 try dsimp only
 obtain ⟨pk, pa⟩ := pr
 have jb := b7K (l := l) (f5 := d7) (n := r) ht
 have js := b2a (l := l) (f5 := d7) (n := r)
 have ju : (((grI l d7 r).1).map fun x => x.1).length = ((grI l d7 r).1).length := List.length_map ..
 refine i9 (mS (mS m0)) fun eaA0_0 laA0_0 => ?_
 subst eaA0_0
 refine i9 (mS m0) fun eaA0_1 laA0_1 => ?_
 subst eaA0_1
 refine i9 m0 fun eaA0_2 laA0_2 => ?_
 subst eaA0_2
 refine Eq_ (Ew Z5 (Em rfl (Ey rfl ((j7 fo_Query_1 ty_Atoms dc rfl).yd) (Ey rfl (g9 ty_Atoms rfl (Hz (mS (mS (mS m0))) 1 rfl) rfl) (Ey rfl ((Y.len us_Atoms rfl).yd) (Ey rfl ((Y.lss rfl rfl).yd) (o6 (fun q18 => ?_) (fun q18 => ?_))))))))
 ·refine Eu (o2 rfl (j5 (Et (Eq_ (E.block (Ew Z1 (Ei rfl (Eu (E.block (E.loop (κ := Nat × Option Addr × Nat × Nat × Option Addr × Nat × Nat × Option Addr × Nat × Nat) (fun g => g.1 ≤ d7.length ∧ sgI l d7 r g.1) (fun g => [(0, .slice a_l l.length c_l), (3, .pointer (some ⟨b3, 0, none⟩)), (5, .slice g.2.1 g.2.2.1 g.2.2.2.1), (6, .slice g.2.2.2.2.1 g.2.2.2.2.2.1 g.2.2.2.2.2.2.1), (7, .slice g.2.2.2.2.2.2.2.1 g.2.2.2.2.2.2.2.2.1 g.2.2.2.2.2.2.2.2.2), (8, .int .i64 (r : Int)), (9, .int .i64 (↑g.1 : Int))]) (fun g => [ow eIs [.slice g.2.2.2.2.2.2.2.1 g.2.2.2.2.2.2.2.2.1 g.2.2.2.2.2.2.2.2.2] (((grI l d7 r).1).map (fun x => x.1)), ow eIs [.slice g.2.2.2.2.1 g.2.2.2.2.2.1 g.2.2.2.2.2.2.1] (grV l d7 r), ow M5 [.slice g.2.1 g.2.2.1 g.2.2.2.1] ((grI l d7 r).1), pt b3 61 [.slice x7 o0.length x8, .slice v6 d7.length v7]]) (fun g => d7.length - g.1) (0, aA0_0, ((grI l d7 r).1).length, cA0_0, aA0_1, (grV l d7 r).length, cA0_1, aA0_2, (((grI l d7 r).1).map (fun x => x.1)).length, cA0_2) ⟨Nat.zero_le _, b7Z⟩ ⟨rfl, rfl, rfl, rfl, rfl, rfl, rfl, trivial⟩ (.refl _) (fun g pg => ?_)))))))))))
  obtain ⟨g, aA1_0, mA1_0, cA1_0, aA1_1, mA1_1, cA1_1, aA1_2, mA1_2, cA1_2⟩ := g
  try dsimp only at pg
  try dsimp only
  obtain ⟨pk, pa⟩ := pg
  refine i9 (mS (mS m0)) fun eaA1_0 laA1_0 => ?_
  subst eaA1_0
  refine i9 (mS m0) fun eaA1_1 laA1_1 => ?_
  subst eaA1_1
  refine i9 m0 fun eaA1_2 laA1_2 => ?_
  subst eaA1_2
  refine Eq_ (Ew Z5 (Em rfl (Ey rfl ((j7 fo_Query_1 ty_Atoms dc rfl).yd) (Ey rfl (g9 ty_Atoms rfl (Hz (mS (mS (mS m0))) 1 rfl) rfl) (Ey rfl ((Y.len us_Atoms rfl).yd) (Ey rfl ((Y.lss rfl rfl).yd) (o6 (fun q25 => ?_) (fun q25 => ?_))))))))
  ·refine Eu (o2 rfl (j5 (Et (Eq_ (E.block (Ew Z9 (Em rfl (Ey rfl ((j7 fo_Query_1 ty_Atoms dc rfl).yd) (Ey rfl (g9 ty_Atoms rfl (Hz (mS (mS (mS m0))) 1 rfl) rfl) (Em rfl ?_))))))))))
   obtain ⟨eb32, eo32, ec32, ea32, er32, el32, eh32⟩ := D4.elem g om
   obtain ⟨xa32_0, xc32_0, rfl, ei32_0, xh32_0⟩ := K0 er32
   have := xh32_0.slen.2
   refine Ey rfl ((r7 us_Atoms ty_Atom rfl ea32 rfl g rfl om).yd) (Ey rfl (o9 (cs := [_, _]) ty_Atom rfl (eh32 _) rfl) (Em rfl (Est rfl (n0 a5S rfl rfl rfl dc (fun w Lp hA => ⟨hA.ro hl, ei32_0, hA.ro xh32_0, hA.ow (mS m0)⟩)) (fun _ _ => (Ei rfl (Ev Z8 (Em rfl (Ey rfl ((Y.geq rfl rfl).yd) (o6 (fun q37 => ?_) (fun q37 => ?_))))))))))
   ·have jm := a8w (l := l) (a := d7[g]) (b := grV l d7 r)
    refine Em rfl (Em rfl (Em rfl (Est rfl (n0 a1F rfl rfl rfl dc (fun w Lp hA => hA.ow m0)) (fun _ _ => (Ent.b (fun q41 => ?_) (fun q41 => ?_))))))
    ·refine Ey rfl ((Y.not (b := true) rfl).yd) (Ey rfl ((u7 rfl rfl).yd) (Eu (o3 rfl (j5 (t7 (Et (Ez Z3 (Em rfl (Ey rfl ((Y.add rfl rfl om om).yd) (Ei rfl (Eu (w7 (w7 (w7 (w7 ?_)))))))))))))))
     exact Ea (g + 1, aA1_0, ((grI l d7 r).1).length, cA1_0, aA1_1, (grV l d7 r).length, cA1_1, aA1_2, (((grI l d7 r).1).map (fun x => x.1)).length, cA1_2) ⟨oz, (show sgI l d7 r (g + 1) from by first | exact b4j pa om q37 | exact b3Z pa om q41)⟩
    ·refine Ey rfl ((Y.not (b := false) rfl).yd) (Ey rfl ((u7 rfl rfl).yd) (Eu (o2 rfl (Ew Z7 (Em rfl (Em rfl (Em rfl (Ey rfl ((Q3 (pvs := [_, _]) (cs := [_, _]) ty_Step pl_Step rfl rfl).yd) (Est rfl (Nb [_] [_, _] us_Steps ty_Step rfl rfl) (fun b48 _ => (w7 (Est rfl (D6 (E := a1B) (ex := ((g : Int), F1 l d7[g] (grV l d7 r))) us_Steps ty_Step rfl rfl rfl (b0d (x := ((g : Int), F1 l d7[g] (grV l d7 r))) i6 i6) rfl bn bn dc) (fun p49 _ => (Ei rfl (Ev Z5 (Em rfl (Em rfl (Est rfl (Nb [_] [_] us_Is i8 rfl rfl) (fun b52 _ => (r5 (Est rfl (D6 (E := Enc.int) (ex := (g : Int)) us_Is i8 rfl rfl rfl (Own.int i6) rfl bn bn dc) (fun p53 _ => (Ei rfl (Ev Z8 (Em rfl (Ey rfl ((j7 fo_Query_1 ty_Atoms dc rfl).yd) (Ey rfl (g9 ty_Atoms rfl (Hz (mS (mS (mS m0))) 1 rfl) rfl) (Em rfl (Ey rfl ((r7 us_Atoms ty_Atom rfl ea32 rfl g rfl om).yd) (Ey rfl (o9 (cs := [_, _]) ty_Atom rfl (eh32 _) rfl) (Est rfl (N.call (a6Q fo (ht _ (List.getElem_mem om))) rfl rfl rfl dc rfl (fun w Lp hA => ⟨hA.ow (mS (mS m0)), ei32_0, hA.ro xh32_0⟩)) (fun k60 _ => ?_))))))))))))))))))))))))))))))))
     obtain ⟨a60, m60, c60⟩ := k60
     refine i9 m0 fun e60 l60 => ?_
     subst e60
     refine Ei rfl (Eu (E.exit (b9M rfl (o8 (o8 (x9 (t7 (Et (Ez Z3 (Em rfl (Ey rfl ((Y.add rfl rfl om om).yd) (Ei rfl (Eu (w7 (Ent.drop (r5 (j6 (congrArg (ow M5 [_]) (show ((grI l d7 r).1) ++ [((g : Int), F1 l d7[g] (grV l d7 r))] = (grI l d7 (r + 1)).1 from by first | exact sg1 pa om q37 q41 | exact sg2 pa om q37 q41 | exact sg3 pa om q37 q41 | exact congrArg (fun z => z.1) (se1 pa om) | exact se2 pa om | exact congrArg (fun z => z.1.map fun x => x.1) (se1 pa om))) (i7 (j6 (congrArg (ow eIs [_]) (show a1Y (grV l d7 r) d7[g] = grV l d7 (r + 1) from by first | exact sg1 pa om q37 q41 | exact sg2 pa om q37 q41 | exact sg3 pa om q37 q41 | exact congrArg (fun z => z.1) (se1 pa om) | exact se2 pa om | exact congrArg (fun z => z.1.map fun x => x.1) (se1 pa om))) (r5 (j6 (congrArg (ow eIs [_]) (show (((grI l d7 r).1).map (fun x => x.1)) ++ [(g : Int)] = ((grI l d7 (r + 1)).1).map (fun x => x.1) from by first | exact sg1 pa om q37 q41 | exact sg2 pa om q37 q41 | exact sg3 pa om q37 q41 | exact congrArg (fun z => z.1) (se1 pa om) | exact se2 pa om | exact congrArg (fun z => z.1.map fun x => x.1) (se1 pa om))) (w7 (w7 (w7 (w7 ?_)))))))))))))))))))))))))
     exact Ea (r + 1, p49.1, (((grI l d7 r).1).length + 1), p49.2, a60, (a1Y (grV l d7 r) d7[g]).length, c60, p53.1, ((((grI l d7 r).1).map (fun x => x.1)).length + 1), p53.2) ⟨oz, trivial⟩
   ·refine Em rfl (Es rfl (Es rfl (Es rfl (Es rfl (Ey rfl ((u0 rfl rfl).yd) (Eu (o3 rfl (j5 (t7 (Et (Ez Z3 (Em rfl (Ey rfl ((Y.add rfl rfl om om).yd) (Ei rfl (Eu (w7 (w7 (w7 (w7 ?_)))))))))))))))))))
    exact Ea (g + 1, aA1_0, ((grI l d7 r).1).length, cA1_0, aA1_1, (grV l d7 r).length, cA1_1, aA1_2, (((grI l d7 r).1).map (fun x => x.1)).length, cA1_2) ⟨oz, (show sgI l d7 r (g + 1) from by first | exact b4j pa om q37 | exact b3Z pa om q41)⟩
  ·refine Eu (o3 rfl (E.exit (o8 (o8 (x9 (t7 (Et (Ez Z3 (Em rfl (Ey rfl ((Y.add rfl rfl om om).yd) (Ei rfl (Eu (r5 (j6 (congrArg (ow M5 [_]) (show (grI l d7 r).1 = (grI l d7 (r + 1)).1 from by first | exact sg1 pa om q37 q41 | exact sg2 pa om q37 q41 | exact sg3 pa om q37 q41 | exact congrArg (fun z => z.1) (se1 pa om) | exact se2 pa om | exact congrArg (fun z => z.1.map fun x => x.1) (se1 pa om))) (r5 (j6 (congrArg (ow eIs [_]) (show grV l d7 r = grV l d7 (r + 1) from by first | exact sg1 pa om q37 q41 | exact sg2 pa om q37 q41 | exact sg3 pa om q37 q41 | exact congrArg (fun z => z.1) (se1 pa om) | exact se2 pa om | exact congrArg (fun z => z.1.map fun x => x.1) (se1 pa om))) (r5 (j6 (congrArg (ow eIs [_]) (show ((grI l d7 r).1).map (fun x => x.1) = ((grI l d7 (r + 1)).1).map (fun x => x.1) from by first | exact sg1 pa om q37 q41 | exact sg2 pa om q37 q41 | exact sg3 pa om q37 q41 | exact congrArg (fun z => z.1) (se1 pa om) | exact se2 pa om | exact congrArg (fun z => z.1.map fun x => x.1) (se1 pa om))) (w7 (w7 (w7 (w7 ?_))))))))))))))))))))))
   exact Ea (r + 1, aA1_0, ((grI l d7 r).1).length, cA1_0, aA1_1, (grV l d7 r).length, cA1_1, aA1_2, (((grI l d7 r).1).map (fun x => x.1)).length, cA1_2) ⟨oz, trivial⟩
 ·refine Eu (o3 rfl (E.exit (o8 (o8 (x9 (Et (Ew Z2 (Em rfl (Ei rfl (Eu (E.ret (r5 (j6 (congrArg (ow M5 [_]) (show _ = (grF l d7).1 by rw [show r = d7.length from by omega]; rfl)) ?_)))))))))))))
  exact Fg rfl rfl (_, _, _) rfl rfl
end Go.Proofs.YtdopeopehgdccaaGreat
