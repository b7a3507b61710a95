import Derived.Test.YtlfhopooaejpfaaGreatBg
import Derived.Test.YtlfhopooaejpfaaGreatT130
import Derived.Test.YtlfhopooaejpfaaGreatT126
import Derived.Test.YtlfhopooaejpfaaGreatT87
import Derived.Test.YtlfhopooaejpfaaGreatT88
section
namespace Go.Proofs.YtlfhopooaejpfaaGreat
open Go.RowKit Go.ChangeShapes Go.WideShapes Go.ChangeAt
theorem W6.u8 {P : Program} {t : TypeId} (ht : P.underlying t = some (.int .u8)) : W6 P Enc.u8 t := fun h => by
  obtain ⟨n, rfl, _, hw⟩ := DataW.trod_int ht h
  have hr : 0 ≤ n ∧ n ≤ 255 := by simpa [Lit.wf, IntKind.min, IntKind.max, IntKind.signed, IntKind.bits] using hw
  refine ⟨UInt8.ofNat n.toNat, [], ?_, rfl⟩
  have : (UInt8.ofNat n.toNat).toNat = n.toNat := by rw [UInt8.toNat_ofNat']; omega
  rw [this, Int.toNat_of_nonneg hr.1]
theorem op_U8s : W6 Tryz.prog U3 22 := W6.sl us_U8s (by kernel_rfl) (W6.u8 (by kernel_rfl))
end Go.Proofs.YtlfhopooaejpfaaGreat
end
section
namespace Go.Proofs.YtlfhopooaejpfaaGreat
open Go.RowKit
set_option linter.all false
set_option maxHeartbeats 2000000
attribute [local irreducible] Nop Yd Yp Ent Has Tr FnP FnP2 Src M0 S8 V1 W0 G4
theorem a4p {a_l : Option Addr} {m_l c_l : Nat} {l : List (Int × List Int)} : Tr Tryz.prog 17 [.slice a_l m_l c_l] (fun w L => Ro w L B5 [.slice a_l m_l c_l] l) [] (κ := Unit) (fun k => True) (fun k => .bool (decide l.Nodup)) (fun k => []) := by
 refine Tr.intro Tryz.func17 rfl (n := 40) rfl (by decide +kernel) bl (fr := [(0, .slice a_l m_l c_l)]) rfl fun w L hR => ?_
 have hl := hR
 obtain ⟨rfl, ll⟩ := hl.slen
 refine Ew Z1 (Ei rfl (Eu (Eq_ (Ew Z1 (Ei rfl (Eu (E.block (E.loop (κ := Nat) (fun g => g ≤ l.length ∧ (l.take g).Nodup) (fun g => [(0, .slice a_l l.length c_l), (3, .int .i64 (g : Int))]) (fun g => []) (fun g => l.length - g) 0 ⟨Nat.zero_le _, by simp⟩ ⟨rfl, rfl, trivial⟩ (.refl _) (fun g pg => ?_)))))))))
 obtain ⟨pk, pa⟩ := pg
 refine Eq_ (Ew Z4 (Em rfl (Em rfl (Ey rfl ((Y.len us_Accesss rfl).yd) (Ey rfl ((Y.lss rfl rfl).yd) (n0 (fun q8 => ?_) (fun q8 => ?_)))))))
 ·refine Eu (l4 rfl (i8 (Et (Eq_ (E.block (Ew Z1 (Ei rfl (Eu (E.block (E.loop (κ := Nat) (fun h => h ≤ g ∧ ∀ x ∈ l.take h, x ≠ l[g]) (fun h => [(0, .slice a_l l.length c_l), (3, .int .i64 (g : Int)), (4, .int .i64 (h : Int))]) (fun h => []) (fun h => g - h) 0 ⟨Nat.zero_le _, by simp⟩ ⟨rfl, rfl, rfl, trivial⟩ (.refl _) (fun h ph => ?_)))))))))))
  obtain ⟨pk1, pb⟩ := ph
  refine Eq_ (Ew Z3 (Em rfl (Em rfl (Ey rfl ((Y.lss rfl rfl).yd) (n0 (fun q13 => ?_) (fun q13 => ?_))))))
  ·refine Eu (l4 rfl (i8 (Et (Eq_ (E.block (Eq_ (D.region (fun j => true) mixed (Dyp 0 rfl (j4 rfl) (Dyp 1 rfl (j4 rfl) ?_)))))))))
   obtain ⟨eb18, eo18, ec18, ea18, er18, el18, eh18⟩ := hl.elem g om
   obtain ⟨xa18_0, xc18_0, rfl, ei18_0, xh18_0⟩ := N0 er18
   have := xh18_0.slen.2
   refine Dyp 2 rfl (o6 us_Accesss ty_Access rfl ea18 rfl g rfl om) (Dyp 3 rfl (i7 fo_Access_0 f0 dc rfl) (Dy 4 rfl (f8 f0 rfl ((eh18 _).sub (cs' := [_]) 0 rfl) rfl) (Dyp 5 rfl (j4 rfl) (Dyp 6 rfl (j4 rfl) ?_))))
   obtain ⟨eb23, eo23, ec23, ea23, er23, el23, eh23⟩ := hl.elem h om
   obtain ⟨xa23_0, xc23_0, rfl, ei23_0, xh23_0⟩ := N0 er23
   have := xh23_0.slen.2
   refine Dyp 7 rfl (o6 us_Accesss ty_Access rfl ea23 rfl h rfl om) (Dyp 8 rfl (i7 fo_Access_0 f0 dc rfl) (Dy 9 rfl (f8 f0 rfl ((eh23 _).sub (cs' := [_]) 0 rfl) rfl) (Dyp 10 rfl (Y.eql rfl rfl) (n0 (fun q26 => ?_) (fun q26 => ?_)))))
   ·refine Dyp 11 rfl (j4 rfl) (Dyp 12 rfl (j4 rfl) (Dyp 13 rfl (j4 rfl) (Dyp 14 rfl (o6 us_Accesss ty_Access rfl ea18 rfl g rfl om) (Dyp 15 rfl (i7 fo_Access_1 ty_Is dc rfl) (Dy 16 rfl (f8 ty_Is rfl ((eh18 _).sub (cs' := [_]) 1 rfl) rfl) (Dyp 17 rfl (j4 rfl) (Dyp 18 rfl (j4 rfl) (Dyp 19 rfl (o6 us_Accesss ty_Access rfl ea23 rfl h rfl om) (Dyp 20 rfl (i7 fo_Access_1 ty_Is dc rfl) (Dy 21 rfl (f8 ty_Is rfl ((eh23 _).sub (cs' := [_]) 1 rfl) rfl) (u7 22 rfl rfl kr (fun _ => rfl) (k6 a2W rfl rfl rfl dc (fun w Lp hA => ⟨hA.ro xh18_0, hA.ro xh23_0⟩)) (fun _ _ => (Ent.b (fun q38 => ?_) (fun q38 => ?_))))))))))))))
    ·refine Dyp 23 rfl (s6 rfl rfl) (o3 kr (Et (l4 rfl (Ew Z1 (Ei rfl ?_)))))
     exact Eu (E.ret (t7 (l0 (l0 (t7 (t7 (l0 (l0 (t7 (l0 (Fb rfl rfl (by exact b6H om om q26 q38))))))))))))
    ·refine Dyp 23 rfl (s6 rfl rfl) (o3 kr (Et (l6 rfl (i8 (o4 (Et (Ez Z3 (Em rfl (Ey rfl ((Y.add rfl rfl om om).yd) (Ei rfl ?_))))))))))
     exact Eu (u9 br (h + 1) rs (.refl _) ⟨by omega, by first | exact b2F om om pb q26 | exact b2G om om pb q38⟩ om)
   ·refine Dyp 11 rfl (j4 rfl) (Dsk 12 rfl (Dsk 13 rfl (Dsk 14 rfl (Dsk 15 rfl (Dsk 16 rfl (Dsk 17 rfl (Dsk 18 rfl (Dsk 19 rfl (Dsk 20 rfl (Dsk 21 rfl (Dsk 22 rfl (Dyp 23 rfl (r9 rfl rfl) (o3 kr (Et (l6 rfl (i8 (o4 (Et (Ez Z3 (Em rfl (Ey rfl ((Y.add rfl rfl om om).yd) ?_)))))))))))))))))))))
    refine Ei rfl ?_
    exact Eu (u9 br (h + 1) rs (.refl _) ⟨by omega, by first | exact b2F om om pb q26 | exact b2G om om pb q38⟩ om)
  ·refine Eu (l6 rfl (E.exit (n8 (n8 (w5 (o4 (Et (Ez Z3 (Em rfl (Ey rfl ((Y.add rfl rfl om om).yd) (Ei rfl ?_)))))))))))
   exact Eu (u9 br (g + 1) ⟨rfl, rfl, trivial⟩ (.refl _) ⟨by omega, by exact b7l om pa pb om⟩ om)
 ·refine Eu (l6 rfl (E.exit (n8 (n8 (w5 (Et (Ew Z1 (Ei rfl ?_))))))))
  exact Eu (E.ret (Fb rfl rfl (by exact b5u om pa)))
theorem a8V {a_code : Option Addr} {m_code c_code : Nat} {code : List UInt8} : Tr Tryz.prog 3 [.slice a_code m_code c_code] (fun w L => Ro w L U3 [.slice a_code m_code c_code] code) [] (κ := Unit) (fun k => True) (fun k => .bool (true)) (fun k => []) := by
 refine Tr.intro Tryz.func3 rfl (n := 169) rfl (by decide +kernel) bl (fr := [(0, .slice a_code m_code c_code)]) rfl fun w L hR => ?_
 have hcode := hR
 obtain ⟨rfl, lcode⟩ := hcode.slen
 refine Ew Z1 (Ei rfl (Eu (Eq_ (Ew Z2 (Em rfl (Est rfl (k6 b1P rfl rfl rfl dc (fun w Lp hA => hA.ro hcode)) (fun _ _ => (Ent.b (fun q17 => ?_) (fun q17 => ?_)))))))))
 ·refine Eu (l4 rfl (Ew Z1 (Ei rfl ?_)))
  exact Eu (E.ret (l0 (Fg rfl rfl () rfl rfl)))
 ·have hcl : code.length ≤ 1048576 := by have := of_decide_eq_false q17; omega
  refine Eu (l6 rfl (i8 (Et (Ew Z16 (Em rfl (Est rfl (N.call (a4B (by first | assumption | omega)) rfl rfl rfl dc rfl (fun w Lp hA => hA.ro hcode)) (fun k20 o20 => ?_)))))))
  obtain ⟨xs20, ms20, hq20, aq20, sp20, fl20, ch20, ⟨a20_0, m20_0, c20_0⟩, ⟨a20_1, m20_1, c20_1⟩, ⟨a20_2, m20_2, c20_2⟩, ⟨a20_3, m20_3, c20_3⟩, ⟨a20_4, m20_4, c20_4⟩, ⟨a20_5, m20_5, c20_5⟩⟩ := k20
  replace o20 : (1 ≤ xs20.length ∧ xs20.length ≤ 4) ∧ (ms20.length ≤ 5 ∧ ∀ m ∈ ms20, m.2.1.length ≤ 4) ∧ dQ dT 3 3 hq20 aq20 ∧ sp20.length ≤ 4 ∧ (fl20.length ≤ 9 ∧ ∀ f ∈ fl20, 1 ≤ f.2.length ∧ f.2.length ≤ 4) ∧ -1 ≤ ch20 ∧ ch20 ≤ 4 := o20
  try (conv => arg 4; dsimp only)
  try (conv => arg 5; dsimp only [List.cons_append, List.nil_append, List.append_nil])
  have jq := o20.2.2.1.small
  have jt := b0c jq
  refine i9 m0 fun e20_0 l20_0 => ?_
  subst e20_0
  refine i9 (mS m0) fun e20_1 l20_1 => ?_
  subst e20_1
  refine i9 (mS (mS m0)) fun e20_2 l20_2 => ?_
  subst e20_2
  refine i9 (mS (mS (mS m0))) fun e20_3 l20_3 => ?_
  subst e20_3
  refine i9 (mS (mS (mS (mS m0)))) fun e20_4 l20_4 => ?_
  subst e20_4
  refine i9 (mS (mS (mS (mS (mS m0))))) fun e20_5 l20_5 => ?_
  subst e20_5
  refine O6 (A := [_]) rfl fun wb1 Lb1 hB1 hA1 => ?_
  have hcode := hA1.ro hcode
  have rb1 : Ro wb1 Lb1 eIs [.slice a20_0 (xs20).length c20_0] xs20 := hA1.ow m0
  refine O6 (A := [_]) rfl fun wb2 Lb2 hB2 hA2 => ?_
  have hcode := hA2.ro hcode
  have rb1 := hA2.ro rb1
  have rb2 : Ro wb2 Lb2 C8 [.slice a20_1 (ms20).length c20_1] ms20 := hA2.ow m0
  refine O6 (A := [_]) rfl fun wb3 Lb3 hB3 hA3 => ?_
  have hcode := hA3.ro hcode
  have rb1 := hA3.ro rb1
  have rb2 := hA3.ro rb2
  have rb3 : Ro wb3 Lb3 eIs [.slice a20_2 (hq20).length c20_2] hq20 := hA3.ow m0
  refine O6 (A := [_]) rfl fun wb4 Lb4 hB4 hA4 => ?_
  have hcode := hA4.ro hcode
  have rb1 := hA4.ro rb1
  have rb2 := hA4.ro rb2
  have rb3 := hA4.ro rb3
  have rb4 : Ro wb4 Lb4 G8 [.slice a20_3 (aq20).length c20_3] aq20 := hA4.ow m0
  refine O6 (A := [_]) rfl fun wb5 Lb5 hB5 hA5 => ?_
  have hcode := hA5.ro hcode
  have rb1 := hA5.ro rb1
  have rb2 := hA5.ro rb2
  have rb3 := hA5.ro rb3
  have rb4 := hA5.ro rb4
  have rb5 : Ro wb5 Lb5 H5 [.slice a20_4 (sp20).length c20_4] sp20 := hA5.ow m0
  refine O6 (A := [_]) rfl fun wb6 Lb6 hB6 hA6 => ?_
  have hcode := hA6.ro hcode
  have rb1 := hA6.ro rb1
  have rb2 := hA6.ro rb2
  have rb3 := hA6.ro rb3
  have rb4 := hA6.ro rb4
  have rb5 := hA6.ro rb5
  have rb6 : Ro wb6 Lb6 r7 [.slice a20_5 (fl20).length c20_5] fl20 := hA6.ow m0
  refine Em rfl (Ey rfl ((Y.ext rfl rfl).yd) (Ey rfl ((Y.ext rfl rfl).yd) (Ey rfl ((Y.ext rfl rfl).yd) (Ey rfl ((Y.ext rfl rfl).yd) (Ey rfl ((Y.ext rfl rfl).yd) (Ey rfl ((Y.ext rfl rfl).yd) (Est rfl (N.alloc ty_Query dc) (fun b5 _ => (Ei rfl (Ei rfl (Est rfl (Ns [_, _] ty_Query rfl) (fun _ _ => (Ei rfl (Ei rfl (Ei rfl (Ev Z9 (Em rfl ?_)))))))))))))))))
  refine Em rfl (Ey rfl (o0 (cs := [_, _]) ty_Query rfl (Has.pt m0) rfl) (Em rfl (Em rfl (Em rfl (Est rfl (N.call (a6C (by first | assumption | omega)) rfl rfl rfl dc rfl (fun w Lp hA => ⟨hA.ro rb1, hA.ro rb2, hA.ro rb3, hA.ro rb4, hA.ro rb5, hA.ro rb6⟩)) (fun k33 _ => ?_))))))
  obtain ⟨⟨a33_0, m33_0, c33_0⟩, ⟨a33_1, m33_1, c33_1⟩, ⟨a33_2, m33_2, c33_2⟩⟩ := k33
  refine i9 m0 fun e33_0 l33_0 => ?_
  subst e33_0
  refine i9 (mS m0) fun e33_1 l33_1 => ?_
  subst e33_1
  refine i9 (mS (mS m0)) fun e33_2 l33_2 => ?_
  subst e33_2
  refine Est rfl (N.alloc ty_Run dc) (fun b9 _ => (Est rfl (Ns [_, _, _, _] ty_Run rfl) (fun _ _ => (Ev Z9 (Em rfl (Em rfl (Ey rfl (o0 (cs := [_, _]) ty_Query rfl (Has.pt (mS (mS (mS (mS m0))))) rfl) (Em rfl (Em rfl (Em rfl (Est rfl (N.call (a7h (by first | assumption | omega)) rfl rfl rfl dc rfl (fun w Lp hA => ⟨hA.ro rb1, hA.ro rb2, hA.ro rb3, hA.ro rb4, hA.ro rb5, hA.ro rb6⟩)) (fun k40 _ => ?_))))))))))))
  obtain ⟨⟨a40_0, m40_0, c40_0⟩, ⟨a40_1, m40_1, c40_1⟩, ⟨a40_2, m40_2, c40_2⟩⟩ := k40
  refine i9 m0 fun e40_0 l40_0 => ?_
  subst e40_0
  refine i9 (mS m0) fun e40_1 l40_1 => ?_
  subst e40_1
  refine i9 (mS (mS m0)) fun e40_2 l40_2 => ?_
  subst e40_2
  refine O6 (A := [_]) rfl fun wb7 Lb7 hB7 hA7 => ?_
  have hcode := hA7.ro hcode
  have rb1 := hA7.ro rb1
  have rb2 := hA7.ro rb2
  have rb3 := hA7.ro rb3
  have rb4 := hA7.ro rb4
  have rb5 := hA7.ro rb5
  have rb6 := hA7.ro rb6
  have rb7 : Ro wb7 Lb7 I3 [.slice a40_0 ((B9 xs20 ms20 (hq20, aq20) sp20 fl20 ch20).1).length c40_0] ((B9 xs20 ms20 (hq20, aq20) sp20 fl20 ch20).1) := hA7.ow m0
  refine O6 (A := [_]) rfl fun wb8 Lb8 hB8 hA8 => ?_
  have hcode := hA8.ro hcode
  have rb1 := hA8.ro rb1
  have rb2 := hA8.ro rb2
  have rb3 := hA8.ro rb3
  have rb4 := hA8.ro rb4
  have rb5 := hA8.ro rb5
  have rb6 := hA8.ro rb6
  have rb7 := hA8.ro rb7
  have rb8 : Ro wb8 Lb8 B5 [.slice a40_1 ((B9 xs20 ms20 (hq20, aq20) sp20 fl20 ch20).2.1).length c40_1] ((B9 xs20 ms20 (hq20, aq20) sp20 fl20 ch20).2.1) := hA8.ow m0
  refine O6 (A := [_]) rfl fun wb9 Lb9 hB9 hA9 => ?_
  have hcode := hA9.ro hcode
  have rb1 := hA9.ro rb1
  have rb2 := hA9.ro rb2
  have rb3 := hA9.ro rb3
  have rb4 := hA9.ro rb4
  have rb5 := hA9.ro rb5
  have rb6 := hA9.ro rb6
  have rb7 := hA9.ro rb7
  have rb8 := hA9.ro rb8
  have rb9 : Ro wb9 Lb9 r7 [.slice a40_2 ((B9 xs20 ms20 (hq20, aq20) sp20 fl20 ch20).2.2.1).length c40_2] ((B9 xs20 ms20 (hq20, aq20) sp20 fl20 ch20).2.2.1) := hA9.ow m0
  refine Est rfl (N.alloc ty_Run dc) (fun b10 _ => (Est rfl (Ns [_, _, _, _] ty_Run rfl) (fun _ _ => (Eu (Eq_ (Ew Z29 (Ey rfl ((i7 fo_Run_0 ty_Iss dc rfl).yd) (Ey rfl (f8 ty_Iss rfl (Hz (mS m0) 0 rfl) rfl) (Ey rfl ((i7 fo_Run_0 ty_Iss dc rfl).yd) (Ey rfl (f8 ty_Iss rfl (Hz m0 0 rfl) rfl) (Est rfl (k6 c0e rfl rfl rfl dc (fun w Lp hA => ⟨hA.ow (mS (mS m0)), hA.ro rb7⟩)) (fun _ _ => (Ent.b (fun q45 => ?_) (fun q45 => ?_))))))))))))))
  ·refine Ey rfl ((Y.not (b := true) rfl).yd) (Em rfl (Ey rfl ((i7 fo_Run_1 ty_Accesss dc rfl).yd) (Ey rfl (f8 ty_Accesss rfl (Hz (mS m0) 1 rfl) rfl) (Ey rfl ((i7 fo_Run_1 ty_Accesss dc rfl).yd) (Ey rfl (f8 ty_Accesss rfl (Hz m0 1 rfl) rfl) (Est rfl (k6 a4G rfl rfl rfl dc (fun w Lp hA => ⟨hA.ow (mS (mS (mS m0))), hA.ro rb8⟩)) (fun _ _ => (Ent.b (fun q52 => ?_) (fun q52 => ?_)))))))))
   ·refine Ey rfl ((Y.not (b := true) rfl).yd) (Ey rfl ((r9 rfl rfl).yd) (Em rfl (Ey rfl ((i7 fo_Run_2 ty_Facts dc rfl).yd) (Ey rfl (f8 ty_Facts rfl (Hz (mS m0) 2 rfl) rfl) (Ey rfl ((i7 fo_Run_2 ty_Facts dc rfl).yd) (Ey rfl (f8 ty_Facts rfl (Hz m0 2 rfl) rfl) (Est rfl (k6 a5O rfl rfl rfl dc (fun w Lp hA => ⟨hA.ow (mS (mS (mS (mS m0)))), hA.ro rb9⟩)) (fun _ _ => (Ent.b (fun q60 => ?_) (fun q60 => ?_))))))))))
    ·refine Ey rfl ((Y.not (b := true) rfl).yd) (Ey rfl ((r9 rfl rfl).yd) (Em rfl (Ey rfl ((i7 fo_Run_3 f0 dc rfl).yd) (Ey rfl (f8 f0 rfl (Hz (mS m0) 3 rfl) rfl) (Ey rfl ((i7 fo_Run_3 f0 dc rfl).yd) (Ey rfl (f8 f0 rfl (Hz m0 3 rfl) rfl) (Ey rfl ((Y.neq rfl rfl).yd) (n0 (fun q68 => ?_) (fun q68 => ?_)))))))))
     ·exact absurd rfl q68
     ·refine Ey rfl ((r9 rfl rfl).yd) (Eu (l6 rfl (i8 (Et (Eq_ (Ew Z12 (Em rfl (Em rfl (Ey rfl (o0 (cs := [_, _]) ty_Query rfl (Has.pt (mS (mS (mS (mS (mS m0)))))) rfl) (Em rfl (Est rfl (k6 (a3o (by first | assumption | omega)) rfl rfl rfl dc (fun w Lp hA => ⟨hA.ro rb1, hA.ro rb2, hA.ro rb3, hA.ro rb4, hA.ro rb5⟩)) (fun _ _ => (Ent.b (fun q74 => ?_) (fun q74 => ?_))))))))))))))
      ·refine Ey rfl ((Y.not (b := true) rfl).yd) (Em rfl (Em rfl (Em rfl (Est rfl (k6 a0z rfl rfl rfl dc (fun w Lp hA => ⟨hA.ro rb1, hA.ro rb6⟩)) (fun _ _ => (Ent.b (fun q79 => ?_) (fun q79 => ?_)))))))
       ·have jl := b4w (c := ch20) q74 q79
        refine Ey rfl ((Y.not (b := true) rfl).yd) (Ey rfl ((r9 rfl rfl).yd) (Eu (l6 rfl (i8 (Et (Ew Z5 (Em rfl (Ey rfl (o0 (cs := [_, _]) ty_Query rfl (Has.pt (mS (mS (mS (mS (mS m0)))))) rfl) (Em rfl (Est rfl (N.call (a5Y (by first | assumption | omega)) rfl rfl rfl dc rfl (fun w Lp hA => ⟨hA.ro rb1, hA.ro rb3, hA.ro rb4, hA.ro rb6⟩)) (fun k89 _ => ?_)))))))))))
        obtain ⟨a89, m89, c89⟩ := k89
        refine i9 m0 fun e89 l89 => ?_
        subst e89
        refine O6 (A := [_]) rfl fun wb10 Lb10 hB10 hA10 => ?_
        have hcode := hA10.ro hcode
        have rb1 := hA10.ro rb1
        have rb2 := hA10.ro rb2
        have rb3 := hA10.ro rb3
        have rb4 := hA10.ro rb4
        have rb5 := hA10.ro rb5
        have rb6 := hA10.ro rb6
        have rb7 := hA10.ro rb7
        have rb8 := hA10.ro rb8
        have rb9 := hA10.ro rb9
        have rb10 : Ro wb10 Lb10 I3 [.slice a89 (V9 xs20 (hq20, aq20) fl20).length c89] (V9 xs20 (hq20, aq20) fl20) := hA10.ow m0
        refine Ei rfl (Eu (Eq_ (Eq_ (a4l (κ := Unit) (fun _ => True) (fun kM => [(0, .slice a_code code.length c_code), (4, .slice a20_1 (ms20).length c20_1), (6, .slice a20_4 (sp20).length c20_4), (10, .pointer (some ⟨b10, 0, none⟩)), (128, .bool false)]) (fun kM => [pt b10 36 [.slice a40_0 ((B9 xs20 ms20 (hq20, aq20) sp20 fl20 ch20).1).length c40_0, .slice a40_1 ((B9 xs20 ms20 (hq20, aq20) sp20 fl20 ch20).2.1).length c40_1, .slice a40_2 ((B9 xs20 ms20 (hq20, aq20) sp20 fl20 ch20).2.2.1).length c40_2, .int .i64 ((B9 xs20 ms20 (hq20, aq20) sp20 fl20 ch20).2.2.2)], pt b9 36 [.slice a33_0 ((B9 xs20 ms20 (hq20, aq20) sp20 fl20 ch20).1).length c33_0, .slice a33_1 ((B9 xs20 ms20 (hq20, aq20) sp20 fl20 ch20).2.1).length c33_1, .slice a33_2 ((B9 xs20 ms20 (hq20, aq20) sp20 fl20 ch20).2.2.1).length c33_2, .int .i64 ((B9 xs20 ms20 (hq20, aq20) sp20 fl20 ch20).2.2.2)], ow I3 [.slice a33_0 ((B9 xs20 ms20 (hq20, aq20) sp20 fl20 ch20).1).length c33_0] ((B9 xs20 ms20 (hq20, aq20) sp20 fl20 ch20).1), ow B5 [.slice a33_1 ((B9 xs20 ms20 (hq20, aq20) sp20 fl20 ch20).2.1).length c33_1] ((B9 xs20 ms20 (hq20, aq20) sp20 fl20 ch20).2.1), ow r7 [.slice a33_2 ((B9 xs20 ms20 (hq20, aq20) sp20 fl20 ch20).2.2.1).length c33_2] ((B9 xs20 ms20 (hq20, aq20) sp20 fl20 ch20).2.2.1), pt b5 28 [.slice a20_2 (hq20).length c20_2, .slice a20_3 (aq20).length c20_3]]) ?_ (fun kM _ => ?_)))))
        ·refine D.region (fun j => true) mixed (Dyp 0 rfl (i7 fo_Run_0 ty_Iss dc rfl) (Dy 1 rfl (f8 ty_Iss rfl (Hz m0 0 rfl) rfl) (Dyp 2 rfl (j4 rfl) (u7 3 rfl rfl kr (fun _ => rfl) (k6 a8J rfl rfl rfl dc (fun w Lp hA => ⟨hA.ro rb7, hA.ro rb10⟩)) (fun _ _ => (Ent.b (fun q93 => ?_) (fun q93 => ?_)))))))
         ·refine Dyp 4 rfl (Y.not (b := true) rfl) (Dyp 5 rfl (j4 rfl) (Dyp 6 rfl (j4 rfl) (Dyp 7 rfl (j4 rfl) (u7 8 rfl rfl kr (fun _ => rfl) (k6 a3t rfl rfl rfl dc (fun w Lp hA => ⟨hA.ro rb2, hA.ro rb5⟩)) (fun _ _ => (Ent.b (fun q98 => ?_) (fun q98 => ?_)))))))
          ·refine Dyp 9 rfl (j4 rfl) (Dyp 10 rfl (i7 fo_Run_0 ty_Iss dc rfl) (Dy 11 rfl (f8 ty_Iss rfl (Hz (mS m0) 0 rfl) rfl) (Dyp 12 rfl (j4 rfl) (u7 13 rfl rfl kr (fun _ => rfl) (k6 c0e rfl rfl rfl dc (fun w Lp hA => ⟨hA.ow (mS (mS m0)), hA.ro rb10⟩)) (fun _ _ => (Ent.b (fun q103 => ?_) (fun q103 => ?_)))))))
           ·refine Dyp 14 rfl (Y.not (b := true) rfl) (Dyp 15 rfl (s6 rfl rfl) (Dyp 16 rfl (r9 rfl rfl) (Dyp 17 rfl (j4 rfl) (Dyp 18 rfl (i7 fo_Run_1 ty_Accesss dc rfl) (Dy 19 rfl (f8 ty_Accesss rfl (Hz m0 1 rfl) rfl) (u7 20 rfl rfl kr (fun _ => rfl) (k6 a4p rfl rfl rfl dc (fun w Lp hA => hA.ro rb8)) (fun _ _ => (Ent.b (fun q110 => ?_) (fun q110 => ?_)))))))))
            ·refine Dyp 21 rfl (Y.not (b := true) rfl) (Dyp 22 rfl (r9 rfl rfl) (Dyp 23 rfl (j4 rfl) (Dyp 24 rfl (i7 fo_Run_2 ty_Facts dc rfl) (Dy 25 rfl (f8 ty_Facts rfl (Hz m0 2 rfl) rfl) (Dyp 26 rfl (j4 rfl) (u7 27 rfl rfl kr (fun _ => rfl) (k6 a4n rfl rfl rfl dc (fun w Lp hA => ⟨hA.ro rb9, hA.ro rb6⟩)) (fun _ _ => (Ent.b (fun q117 => ?_) (fun q117 => ?_)))))))))
             ·refine Dyp 28 rfl (Y.not (b := true) rfl) (Dyp 29 rfl (r9 rfl rfl) (Dyp 30 rfl (j4 rfl) (Dyp 31 rfl (i7 fo_Run_3 f0 dc rfl) (Dy 32 rfl (f8 f0 rfl (Hz m0 3 rfl) rfl) (Dyp 33 rfl (j4 rfl) (Dyp 34 rfl (i7 fo_Run_1 ty_Accesss dc rfl) (Dy 35 rfl (f8 ty_Accesss rfl (Hz m0 1 rfl) rfl) (u7 36 rfl rfl kr (fun _ => rfl) (k6 (a1J (by first | assumption | omega)) rfl rfl rfl dc (fun w Lp hA => ⟨hA.ro rb2, hA.ro rb8⟩)) (fun _ _ => (Dyp 37 rfl (Y.neq rfl rfl) (n0 (fun q127 => ?_) (fun q127 => ?_))))))))))))
              ·exact absurd (a8j (c := ch20) q74 q79) q127
              ·refine Dyp 38 rfl (r9 rfl rfl) (o3 kr (w9 (w9 (w9 (w9 (w9 (w9 ?_)))))))
               exact a0q () trivial ⟨rfl, rfl, rfl, rfl, rfl, trivial⟩ (.refl _)
             ·exact absurd (b0A (c := ch20) q74 q79) (by rw [q117]; decide)
            ·exact absurd (a7g (c := ch20) q74 q79) (of_decide_eq_false q110)
           ·exact absurd (b2g (c := ch20) q74 q79 q98) (of_decide_eq_false q103)
          ·refine Dyp 9 rfl (j4 rfl) (Dsk 10 rfl (Dsk 11 rfl (Dsk 12 rfl (Dsk 13 rfl (Dsk 14 rfl (Dyp 15 rfl (r9 rfl rfl) (Dyp 16 rfl (r9 rfl rfl) (Dyp 17 rfl (j4 rfl) (Dyp 18 rfl (i7 fo_Run_1 ty_Accesss dc rfl) (Dy 19 rfl (f8 ty_Accesss rfl (Hz m0 1 rfl) rfl) (u7 20 rfl rfl kr (fun _ => rfl) (k6 a4p rfl rfl rfl dc (fun w Lp hA => hA.ro rb8)) (fun _ _ => (Ent.b (fun q110 => ?_) (fun q110 => ?_))))))))))))))
           ·refine Dyp 21 rfl (Y.not (b := true) rfl) (Dyp 22 rfl (r9 rfl rfl) (Dyp 23 rfl (j4 rfl) (Dyp 24 rfl (i7 fo_Run_2 ty_Facts dc rfl) (Dy 25 rfl (f8 ty_Facts rfl (Hz m0 2 rfl) rfl) (Dyp 26 rfl (j4 rfl) (u7 27 rfl rfl kr (fun _ => rfl) (k6 a4n rfl rfl rfl dc (fun w Lp hA => ⟨hA.ro rb9, hA.ro rb6⟩)) (fun _ _ => (Ent.b (fun q117 => ?_) (fun q117 => ?_)))))))))
            ·refine Dyp 28 rfl (Y.not (b := true) rfl) (Dyp 29 rfl (r9 rfl rfl) (Dyp 30 rfl (j4 rfl) (Dyp 31 rfl (i7 fo_Run_3 f0 dc rfl) (Dy 32 rfl (f8 f0 rfl (Hz m0 3 rfl) rfl) (Dyp 33 rfl (j4 rfl) (Dyp 34 rfl (i7 fo_Run_1 ty_Accesss dc rfl) (Dy 35 rfl (f8 ty_Accesss rfl (Hz m0 1 rfl) rfl) (u7 36 rfl rfl kr (fun _ => rfl) (k6 (a1J (by first | assumption | omega)) rfl rfl rfl dc (fun w Lp hA => ⟨hA.ro rb2, hA.ro rb8⟩)) (fun _ _ => (Dyp 37 rfl (Y.neq rfl rfl) (n0 (fun q127 => ?_) (fun q127 => ?_))))))))))))
             ·exact absurd (a8j (c := ch20) q74 q79) q127
             ·refine Dyp 38 rfl (r9 rfl rfl) (o3 kr (w9 (w9 (w9 (w9 (w9 (w9 ?_)))))))
              exact a0q () trivial ⟨rfl, rfl, rfl, rfl, rfl, trivial⟩ (.refl _)
            ·exact absurd (b0A (c := ch20) q74 q79) (by rw [q117]; decide)
           ·exact absurd (a7g (c := ch20) q74 q79) (of_decide_eq_false q110)
         ·exact absurd (b0Z (b3M (c := ch20) q74 q79)) (by rw [q93]; decide)
        ·show Ent _ _ _ [(0, .slice a_code code.length c_code), (4, .slice a20_1 (ms20).length c20_1), (6, .slice a20_4 (sp20).length c20_4), (10, .pointer (some ⟨b10, 0, none⟩)), (128, .bool false)] [pt b10 36 [.slice a40_0 ((B9 xs20 ms20 (hq20, aq20) sp20 fl20 ch20).1).length c40_0, .slice a40_1 ((B9 xs20 ms20 (hq20, aq20) sp20 fl20 ch20).2.1).length c40_1, .slice a40_2 ((B9 xs20 ms20 (hq20, aq20) sp20 fl20 ch20).2.2.1).length c40_2, .int .i64 ((B9 xs20 ms20 (hq20, aq20) sp20 fl20 ch20).2.2.2)], pt b9 36 [.slice a33_0 ((B9 xs20 ms20 (hq20, aq20) sp20 fl20 ch20).1).length c33_0, .slice a33_1 ((B9 xs20 ms20 (hq20, aq20) sp20 fl20 ch20).2.1).length c33_1, .slice a33_2 ((B9 xs20 ms20 (hq20, aq20) sp20 fl20 ch20).2.2.1).length c33_2, .int .i64 ((B9 xs20 ms20 (hq20, aq20) sp20 fl20 ch20).2.2.2)], ow I3 [.slice a33_0 ((B9 xs20 ms20 (hq20, aq20) sp20 fl20 ch20).1).length c33_0] ((B9 xs20 ms20 (hq20, aq20) sp20 fl20 ch20).1), ow B5 [.slice a33_1 ((B9 xs20 ms20 (hq20, aq20) sp20 fl20 ch20).2.1).length c33_1] ((B9 xs20 ms20 (hq20, aq20) sp20 fl20 ch20).2.1), ow r7 [.slice a33_2 ((B9 xs20 ms20 (hq20, aq20) sp20 fl20 ch20).2.2.1).length c33_2] ((B9 xs20 ms20 (hq20, aq20) sp20 fl20 ch20).2.2.1), pt b5 28 [.slice a20_2 (hq20).length c20_2, .slice a20_3 (aq20).length c20_3]] _
         refine Et (l6 rfl (i8 (Et (Ew Z1 (Ei rfl (Eu (Eq_ (Ew Z1 (Ei rfl (Eu (E.block (E.loop (κ := Nat) (fun g => g ≤ ms20.length ∧ True) (fun g => [(0, .slice a_code code.length c_code), (4, .slice a20_1 (ms20).length c20_1), (6, .slice a20_4 (sp20).length c20_4), (10, .pointer (some ⟨b10, 0, none⟩)), (12, .int .i64 (a3f (B9 xs20 ms20 (hq20, aq20) sp20 fl20 ch20).2.1 g)), (13, .int .i64 (g : Int))]) (fun g => [pt b10 36 [.slice a40_0 ((B9 xs20 ms20 (hq20, aq20) sp20 fl20 ch20).1).length c40_0, .slice a40_1 ((B9 xs20 ms20 (hq20, aq20) sp20 fl20 ch20).2.1).length c40_1, .slice a40_2 ((B9 xs20 ms20 (hq20, aq20) sp20 fl20 ch20).2.2.1).length c40_2, .int .i64 ((B9 xs20 ms20 (hq20, aq20) sp20 fl20 ch20).2.2.2)], pt b9 36 [.slice a33_0 ((B9 xs20 ms20 (hq20, aq20) sp20 fl20 ch20).1).length c33_0, .slice a33_1 ((B9 xs20 ms20 (hq20, aq20) sp20 fl20 ch20).2.1).length c33_1, .slice a33_2 ((B9 xs20 ms20 (hq20, aq20) sp20 fl20 ch20).2.2.1).length c33_2, .int .i64 ((B9 xs20 ms20 (hq20, aq20) sp20 fl20 ch20).2.2.2)], ow I3 [.slice a33_0 ((B9 xs20 ms20 (hq20, aq20) sp20 fl20 ch20).1).length c33_0] ((B9 xs20 ms20 (hq20, aq20) sp20 fl20 ch20).1), ow B5 [.slice a33_1 ((B9 xs20 ms20 (hq20, aq20) sp20 fl20 ch20).2.1).length c33_1] ((B9 xs20 ms20 (hq20, aq20) sp20 fl20 ch20).2.1), ow r7 [.slice a33_2 ((B9 xs20 ms20 (hq20, aq20) sp20 fl20 ch20).2.2.1).length c33_2] ((B9 xs20 ms20 (hq20, aq20) sp20 fl20 ch20).2.2.1), pt b5 28 [.slice a20_2 (hq20).length c20_2, .slice a20_3 (aq20).length c20_3]]) (fun g => ms20.length - g) (0) ⟨Nat.zero_le _, by simp⟩ ⟨rfl, rfl, rfl, rfl, frI (by rfl), rfl, trivial⟩ (.refl _) (fun g pg => ?_)))))))))))))
         try dsimp only
         obtain ⟨pk, pa⟩ := pg
         have ju := b1h (log := (B9 xs20 ms20 (hq20, aq20) sp20 fl20 ch20).2.1) (n := g)
         have ju2 := b1h (log := (B9 xs20 ms20 (hq20, aq20) sp20 fl20 ch20).2.1) (n := g + 1)
         have ju3 : a3f (B9 xs20 ms20 (hq20, aq20) sp20 fl20 ch20).2.1 (g + 1) = a3f (B9 xs20 ms20 (hq20, aq20) sp20 fl20 ch20).2.1 g + a0T (B9 xs20 ms20 (hq20, aq20) sp20 fl20 ch20).2.1 (g : Int) := rfl
         refine Eq_ (Ew Z4 (Em rfl (Em rfl (Ey rfl ((Y.len us_Methods rfl).yd) (Ey rfl ((Y.lss rfl rfl).yd) (n0 (fun q132 => ?_) (fun q132 => ?_)))))))
         ·refine Eu (l4 rfl (i8 (Et (Eq_ (E.block (Ez Z7 (Em rfl (Ey rfl ((i7 fo_Run_1 ty_Accesss dc rfl).yd) (Ey rfl (f8 ty_Accesss rfl (Hz m0 1 rfl) rfl) (Em rfl (Est rfl (k6 a4y rfl rfl rfl dc (fun w Lp hA => hA.ro rb8)) (fun _ _ => (Ey rfl ((Y.add rfl rfl om om).yd) (Ei rfl (En (o4 (Et (Ez Z3 (Em rfl (Ey rfl ((Y.add rfl rfl om om).yd) (Ei rfl (Eu (w9 (w9 (w9 (w9 (w9 ?_)))))))))))))))))))))))))))
          refine w9 ?_
          exact u9 br (g + 1) ⟨rfl, rfl, rfl, rfl, frI (by rfl), rfl, trivial⟩ (.refl _) ⟨oz, trivial⟩ oz
         ·refine Eu (l6 rfl (E.exit (n8 (n8 (w5 (Et (Ew Z7 (Em rfl (Est rfl (N.call (a2x (by first | assumption | omega)) rfl rfl rfl dc rfl (fun w Lp hA => hA.ro hcode)) (fun k143 o143 => ?_))))))))))
          obtain ⟨ms143, lg143, ⟨a143_0, m143_0, c143_0⟩, ⟨a143_1, m143_1, c143_1⟩⟩ := k143
          replace o143 : (ms143.length ≤ 5 ∧ ∀ m ∈ ms143, m.2.1.length ≤ 4) ∧ lg143.length ≤ 7 ∧ ∀ z ∈ lg143, z.2.length ≤ 5 := o143
          try (conv => arg 4; dsimp only)
          try (conv => arg 5; dsimp only [List.cons_append, List.nil_append, List.append_nil])
          refine i9 m0 fun e143_0 l143_0 => ?_
          subst e143_0
          refine i9 (mS m0) fun e143_1 l143_1 => ?_
          subst e143_1
          refine O6 (A := [_]) rfl fun wb11 Lb11 hB11 hA11 => ?_
          have hcode := hA11.ro hcode
          have rb2 := hA11.ro rb2
          have rb5 := hA11.ro rb5
          have rb7 := hA11.ro rb7
          have rb8 := hA11.ro rb8
          have rb9 := hA11.ro rb9
          have rb3 := hA11.ro rb3
          have rb4 := hA11.ro rb4
          have rb11 : Ro wb11 Lb11 C8 [.slice a143_0 (ms143).length c143_0] ms143 := hA11.ow m0
          refine O6 (A := [_]) rfl fun wb12 Lb12 hB12 hA12 => ?_
          have hcode := hA12.ro hcode
          have rb2 := hA12.ro rb2
          have rb5 := hA12.ro rb5
          have rb11 := hA12.ro rb11
          have rb7 := hA12.ro rb7
          have rb8 := hA12.ro rb8
          have rb9 := hA12.ro rb9
          have rb3 := hA12.ro rb3
          have rb4 := hA12.ro rb4
          have rb12 : Ro wb12 Lb12 B5 [.slice a143_1 (lg143).length c143_1] lg143 := hA12.ow m0
          refine Em rfl (Ey rfl ((Y.ext rfl rfl).yd) (Ey rfl ((Y.ext rfl rfl).yd) (Ei rfl (Ei rfl (Ev Z24 (Em rfl (Ey rfl ((i7 fo_Run_1 ty_Accesss dc rfl).yd) (Ey rfl (f8 ty_Accesss rfl (Hz m0 1 rfl) rfl) (Ey rfl ((Y.len us_Accesss rfl).yd) (Ey rfl ((Y.eql rfl rfl).yd) (n0 (fun q150 => ?_) (fun q150 => ?_))))))))))))
          ·refine Em rfl (Em rfl (Em rfl (Est rfl (k6 a4g rfl rfl rfl dc (fun w Lp hA => ⟨hA.ro rb11, hA.ro rb12⟩)) (fun _ _ => (Em rfl (Em rfl (Est rfl (k6 a3U rfl rfl rfl dc (fun w Lp hA => ⟨hA.ro rb11, hA.ro rb12⟩)) (fun _ _ => (Ey rfl ((b3B kr rfl rfl).yd) (n0 (fun q158 => ?_) (fun q158 => ?_)))))))))))
           ·refine Ey rfl ((s6 rfl rfl).yd) (Em rfl (Em rfl (Em rfl (Est rfl (k6 a3t rfl rfl rfl dc (fun w Lp hA => ⟨hA.ro rb2, hA.ro rb5⟩)) (fun _ _ => (Em rfl (Em rfl (Est rfl (k6 a7y rfl rfl rfl dc (fun w Lp hA => ⟨hA.ro rb2, hA.ro rb5⟩)) (fun _ _ => (Ey rfl ((b3B kr rfl rfl).yd) (Ey rfl ((s6 rfl rfl).yd) (Ei rfl ?_))))))))))))
            exact Eu (E.ret (F.r1 (((((((((((hB1.comp hB2).comp hB3).comp hB4).comp hB5).comp hB6).comp hB7).comp hB8).comp hB9).comp hB10).comp hB11).comp hB12) rfl rfl () trivial (congrArg Value.bool (by simp_all)) (J := _) (.refl _) (.inl rfl)))
           ·exact absurd q158 (by simp)
          ·exact absurd (by rw [show g = ms20.length from by omega]; exact b2K q74 q79) q150
       ·refine Ey rfl ((Y.not (b := false) rfl).yd) (Ey rfl ((r9 rfl rfl).yd) (Eu (l4 rfl (Ew Z5 (Ey rfl ((i7 fo_Run_0 ty_Iss dc rfl).yd) (Ey rfl (f8 ty_Iss rfl (Hz (mS m0) 0 rfl) rfl) (Ey rfl ((Y.len us_Iss rfl).yd) (Ey rfl ((Y.eql rfl rfl).yd) (Ei rfl ?_)))))))))
        exact Eu (E.ret (l0 (F.r1 ((((((((hB1.comp hB2).comp hB3).comp hB4).comp hB5).comp hB6).comp hB7).comp hB8).comp hB9) rfl rfl () trivial (congrArg Value.bool (by rw [← F5 (c := ch20) q79]; rfl)) (J := _) (.refl _) (.inl rfl))))
      ·refine Ey rfl ((Y.not (b := false) rfl).yd) (Em rfl (Es rfl (Es rfl (Es rfl (Es rfl (Ey rfl ((s6 rfl rfl).yd) (Eu (l4 rfl (Ew Z5 (Ey rfl ((i7 fo_Run_0 ty_Iss dc rfl).yd) (Ey rfl (f8 ty_Iss rfl (Hz (mS m0) 0 rfl) rfl) (Ey rfl ((Y.len us_Iss rfl).yd) (Ey rfl ((Y.eql rfl rfl).yd) (Ei rfl ?_))))))))))))))
       exact Eu (E.ret (l0 (F.r1 ((((((((hB1.comp hB2).comp hB3).comp hB4).comp hB5).comp hB6).comp hB7).comp hB8).comp hB9) rfl rfl () trivial (congrArg Value.bool (by rw [← F4 (d4 := fl20) (c := ch20) q74]; rfl)) (J := _) (.refl _) (.inl rfl))))
    ·exact absurd q60 (by simp)
   ·exact absurd q52 (by simp)
  ·exact absurd q45 (by simp)
end Go.Proofs.YtlfhopooaejpfaaGreat
end
