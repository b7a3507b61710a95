import Derived.Test.YthapcdhdfaibkaaGreatDoorEk
import Derived.Test.YthapcdhdfaibkaaGreatDoorT136
import Derived.Test.YthapcdhdfaibkaaGreatDoorT137
section
namespace Go.Proofs.YthapcdhdfaibkaaGreatDoor
open Go.RowKit
set_option linter.all false
set_option maxHeartbeats 2000000
attribute [local irreducible] Nop Yd Yp Ent Has Tr FnP FnP2 Src o2 c8 N0 a0b E6
theorem a6h {a_a : Option Addr} {m_a c_a : Nat} {a : List (Int × List Int)} {a_b : Option Addr} {m_b c_b : Nat} {b : List (Int × List Int)} : Tr Tryz.prog 60 [.slice a_a m_a c_a, .slice a_b m_b c_b] (fun w L => Ro w L m8 [.slice a_a m_a c_a] a ∧ Ro w L m8 [.slice a_b m_b c_b] b) [] (κ := Unit) (fun k => True) (fun k => .bool (a.all (fun x => F3 b x))) (fun k => []) := by
 refine Tr.intro Tryz.func60 rfl (n := 19) rfl (by decide +kernel) bl (fr := [(0, .slice a_a m_a c_a), (1, .slice a_b m_b c_b)]) rfl fun w L hR => ?_
 obtain ⟨ha, hb⟩ := hR
 obtain ⟨rfl, la⟩ := ha.slen
 obtain ⟨rfl, lb⟩ := hb.slen
 refine Ew Z1 (Ei rfl (Eu (Eq_ (Ew Z1 (Ei rfl (Eu (E.block (E.loop (κ := Nat) (fun g => g ≤ a.length ∧ a.all (fun x => F3 b x) = (a.drop g).all (fun x => F3 b x)) (fun g => [(0, .slice a_a a.length c_a), (1, .slice a_b b.length c_b), (5, .int .i64 (g : Int))]) (fun g => []) (fun g => a.length - g) 0 ⟨Nat.zero_le _, by simp⟩ ⟨rfl, rfl, rfl, trivial⟩ (.refl _) (fun g pg => ?_)))))))))
 obtain ⟨pk, pa⟩ := pg
 refine Eq_ (Ew Z4 (Em rfl (Em rfl (Ey rfl ((Y.len us_Facts rfl).yd) (Ey rfl ((Y.lss rfl rfl).yd) (o3 (fun q9 => ?_) (fun q9 => ?_)))))))
 ·refine Eu (n8 rfl (i7 (Et (Eq_ (E.block (Ew Z7 (Em rfl (Em rfl (Em rfl ?_)))))))))
  obtain ⟨eb15, eo15, ec15, ea15, er15, el15, eh15⟩ := ha.elem g om
  obtain ⟨xa15_0, xc15_0, rfl, ei15_0, xh15_0⟩ := K8 er15
  have := xh15_0.slen.2
  refine Ey rfl ((v8 us_Facts ty_Fact rfl ea15 rfl g rfl om).yd) (Ey rfl (o6 (cs := [_, _]) ty_Fact rfl (eh15 _) rfl) (Est rfl (l0 a0B rfl rfl rfl dc (fun w Lp hA => ⟨hA.ro hb, ei15_0, hA.ro xh15_0⟩)) (fun _ _ => (Ent.b (fun q17 => ?_) (fun q17 => ?_)))))
  ·refine Ey rfl ((Y.not (b := true) rfl).yd) (Eu (o0 rfl (i7 (s9 (Et (Ez Z3 (Em rfl (Ey rfl ((Y.add rfl rfl om om).yd) (Ei rfl ?_)))))))))
   exact Eu (x6 br (g + 1) rs (.refl _) ⟨by omega, by grind [d1, d2, t1, t2]⟩ om)
  ·refine Ey rfl ((Y.not (b := false) rfl).yd) (Eu (n8 rfl (Ew Z1 (Ei rfl ?_))))
   exact Eu (E.ret (y8 (n0 (n0 (y8 (n0 (Fb rfl rfl (by grind [O1, d1, d2, t1, t2]))))))))
 ·refine Eu (o0 rfl (E.exit (q1 (q1 (y4 (Et (Ew Z1 (Ei rfl ?_))))))))
  exact Eu (E.ret (Fb rfl rfl (by grind [O1, d1, d2, t1, t2])))
end Go.Proofs.YthapcdhdfaibkaaGreatDoor
end
section
namespace Go.Proofs.YthapcdhdfaibkaaGreatDoor
open Go.RowKit Go.ChangeShapes Go.WideShapes Go.ChangeAt
theorem a0K.u8 {P : Program} {t : TypeId} (ht : P.underlying t = some (.int .u8)) : a0K P Enc.u8 t := fun h => by
  obtain ⟨n, rfl, _, hw⟩ := DataW.trod_int ht h
  have hr : 0 ≤ n ∧ n ≤ 255 := by simpa [Lit.wf, IntKind.min, IntKind.max, IntKind.signed, IntKind.bits] using hw
  refine ⟨UInt8.ofNat n.toNat, [], ?_, rfl⟩
  have : (UInt8.ofNat n.toNat).toNat = n.toNat := by rw [UInt8.toNat_ofNat']; omega
  rw [this, Int.toNat_of_nonneg hr.1]
theorem op_U8s : a0K Tryz.prog Y6 22 := a0K.sl us_U8s (by kernel_rfl) (a0K.u8 (by kernel_rfl))
end Go.Proofs.YthapcdhdfaibkaaGreatDoor
end
section
namespace Go.Proofs.YthapcdhdfaibkaaGreatDoor
open Go.RowKit
set_option linter.all false
set_option maxHeartbeats 2000000
attribute [local irreducible] Nop Yd Yp Ent Has Tr FnP FnP2 Src o2 c8 N0 a0b E6
theorem a8M {a_code : Option Addr} {m_code c_code : Nat} {code : List UInt8} : Tr Tryz.prog 5 [.slice a_code m_code c_code] (fun w L => Ro w L Y6 [.slice a_code m_code c_code] code ∧ RoPt w L a9r b1d) [] (κ := Unit) (fun k => True) (fun k => .bool (true)) (fun k => []) := by
 refine Tr.intro Tryz.func5 rfl (n := 171) rfl (by decide +kernel) bl (fr := [(0, .slice a_code m_code c_code)]) rfl fun w L hR => ?_
 obtain ⟨hcode, htab⟩ := hR
 obtain ⟨rfl, lcode⟩ := hcode.slen
 refine Ew Z1 (Ei rfl (Eu (Eq_ (Ew Z2 (Em rfl (Est rfl (l0 b3u rfl rfl rfl dc (fun w Lp hA => hA.ro hcode)) (fun _ _ => (Ent.b (fun q22 => ?_) (fun q22 => ?_)))))))))
 ·refine Eu (n8 rfl (Ew Z1 (Ei rfl ?_)))
  exact Eu (E.ret (n0 (Fg rfl rfl () rfl rfl)))
 ·have hcl : code.length ≤ 1048576 := by have := of_decide_eq_false q22; omega
  refine Eu (o0 rfl (i7 (Et (Ew Z13 (Em rfl (Est rfl (N.call (a5w (by first | assumption | omega)) rfl rfl rfl dc rfl (fun w Lp hA => hA.ro hcode)) (fun k25 o25 => ?_)))))))
  obtain ⟨xs25, ms25, rl25, fl25, sv25, ⟨a25_0, m25_0, c25_0⟩, ⟨a25_1, m25_1, c25_1⟩, ⟨a25_2, m25_2, c25_2⟩, ⟨a25_3, m25_3, c25_3⟩, ⟨a25_4, m25_4, c25_4⟩⟩ := k25
  replace o25 : (1 ≤ xs25.length ∧ xs25.length ≤ 4) ∧ (ms25.length ≤ 5 ∧ ∀ m ∈ ms25, m.2.1.length ≤ 4) ∧ (rl25.length ≤ 4 ∧ ∀ r ∈ rl25, r.2.2.length ≤ 4) ∧ (fl25.length ≤ 24 ∧ ∀ f ∈ fl25, f.2.length ≤ 4) ∧ sv25.length ≤ 3 := o25
  try (conv => arg 4; dsimp only)
  try (conv => arg 5; dsimp only [List.cons_append, List.nil_append, List.append_nil])
  have jw := b6r (s := xs25) (l := ms25) (d4 := rl25) (a8 := fl25) (d6 := sv25)
  refine d7 m0 fun e25_0 l25_0 => ?_
  subst e25_0
  refine d7 (mS m0) fun e25_1 l25_1 => ?_
  subst e25_1
  refine d7 (mS (mS m0)) fun e25_2 l25_2 => ?_
  subst e25_2
  refine d7 (mS (mS (mS m0))) fun e25_3 l25_3 => ?_
  subst e25_3
  refine d7 (mS (mS (mS (mS m0)))) fun e25_4 l25_4 => ?_
  subst e25_4
  refine P3 (A := [_]) rfl fun wb1 Lb1 hB1 hA1 => ?_
  have hcode := hA1.ro hcode
  have htab := hA1.rop htab
  have rb1 : Ro wb1 Lb1 eIs [.slice a25_0 (xs25).length c25_0] xs25 := hA1.ow m0
  refine P3 (A := [_]) rfl fun wb2 Lb2 hB2 hA2 => ?_
  have hcode := hA2.ro hcode
  have rb1 := hA2.ro rb1
  have htab := hA2.rop htab
  have rb2 : Ro wb2 Lb2 F5 [.slice a25_1 (ms25).length c25_1] ms25 := hA2.ow m0
  refine P3 (A := [_]) rfl fun wb3 Lb3 hB3 hA3 => ?_
  have hcode := hA3.ro hcode
  have rb1 := hA3.ro rb1
  have rb2 := hA3.ro rb2
  have htab := hA3.rop htab
  have rb3 : Ro wb3 Lb3 J9 [.slice a25_2 (rl25).length c25_2] rl25 := hA3.ow m0
  refine P3 (A := [_]) rfl fun wb4 Lb4 hB4 hA4 => ?_
  have hcode := hA4.ro hcode
  have rb1 := hA4.ro rb1
  have rb2 := hA4.ro rb2
  have rb3 := hA4.ro rb3
  have htab := hA4.rop htab
  have rb4 : Ro wb4 Lb4 m8 [.slice a25_3 (fl25).length c25_3] fl25 := hA4.ow m0
  refine P3 (A := [_]) rfl fun wb5 Lb5 hB5 hA5 => ?_
  have hcode := hA5.ro hcode
  have rb1 := hA5.ro rb1
  have rb2 := hA5.ro rb2
  have rb3 := hA5.ro rb3
  have rb4 := hA5.ro rb4
  have htab := hA5.rop htab
  have rb5 : Ro wb5 Lb5 eIs [.slice a25_4 (sv25).length c25_4] sv25 := hA5.ow m0
  refine Em rfl (Ey rfl ((Y.ext rfl rfl).yd) (Ey rfl ((Y.ext rfl rfl).yd) (Ey rfl ((Y.ext rfl rfl).yd) (Ey rfl ((Y.ext rfl rfl).yd) (Ey rfl ((Y.ext rfl rfl).yd) (Ei rfl (Ei rfl (Ei rfl (Ei rfl (Ei rfl (Ev Z7 (Em rfl (Em rfl (Em rfl (Em rfl (Em rfl (Est rfl (N.call (a7w (by first | assumption | omega)) rfl rfl rfl dc rfl (fun w Lp hA => ⟨hA.ro rb1, hA.ro rb2, hA.ro rb3, hA.ro rb4, hA.ro rb5⟩)) (fun k36 _ => ?_))))))))))))))))))
  obtain ⟨a36, m36, c36⟩ := k36
  refine d7 m0 fun e36 l36 => ?_
  subst e36
  refine P3 (A := [_]) rfl fun wb6 Lb6 hB6 hA6 => ?_
  have hcode := hA6.ro hcode
  have rb1 := hA6.ro rb1
  have rb2 := hA6.ro rb2
  have rb3 := hA6.ro rb3
  have rb4 := hA6.ro rb4
  have rb5 := hA6.ro rb5
  have htab := hA6.rop htab
  have rb6 : Ro wb6 Lb6 m8 [.slice a36 (D9 xs25 ms25 rl25 fl25 sv25).length c36] (D9 xs25 ms25 rl25 fl25 sv25) := hA6.ow m0
  refine Ei rfl (Ev Z7 (Em rfl (Em rfl (Em rfl (Em rfl (Em rfl (Est rfl (N.call (a3M (by first | assumption | omega)) rfl rfl rfl dc rfl (fun w Lp hA => ⟨hA.ro rb1, hA.ro rb2, hA.ro rb3, hA.ro rb4, hA.ro rb5⟩)) (fun k42 _ => ?_))))))))
  obtain ⟨a42, m42, c42⟩ := k42
  refine d7 m0 fun e42 l42 => ?_
  subst e42
  refine P3 (A := [_]) rfl fun wb7 Lb7 hB7 hA7 => ?_
  have hcode := hA7.ro hcode
  have rb1 := hA7.ro rb1
  have rb2 := hA7.ro rb2
  have rb3 := hA7.ro rb3
  have rb4 := hA7.ro rb4
  have rb5 := hA7.ro rb5
  have rb6 := hA7.ro rb6
  have htab := hA7.rop htab
  have rb7 : Ro wb7 Lb7 m8 [.slice a42 (D9 xs25 ms25 rl25 fl25 sv25).length c42] (D9 xs25 ms25 rl25 fl25 sv25) := hA7.ow m0
  refine Ei rfl (Eu (Eq_ (Ew Z4 (Em rfl (Em rfl (Est rfl (l0 a8c rfl rfl rfl dc (fun w Lp hA => ⟨hA.ro rb6, hA.ro rb7⟩)) (fun _ _ => (Ent.b (fun q45 => ?_) (fun q45 => ?_)))))))))
  ·refine Ey rfl ((Y.not (b := true) rfl).yd) (Eu (o0 rfl (i7 (Et (Eq_ (Ew Z1 (Ei rfl (Eu (E.block (E.loop (κ := Nat) (fun g => g ≤ (D9 xs25 ms25 rl25 fl25 sv25).length ∧ True) (fun g => [(0, .slice a_code code.length c_code), (3, .slice a25_0 (xs25).length c25_0), (4, .slice a25_1 (ms25).length c25_1), (5, .slice a25_2 (rl25).length c25_2), (6, .slice a25_3 (fl25).length c25_3), (7, .slice a25_4 (sv25).length c25_4), (9, .slice a42 (D9 xs25 ms25 rl25 fl25 sv25).length c42), (10, .int .i64 (g : Int))]) (fun g => []) (fun g => (D9 xs25 ms25 rl25 fl25 sv25).length - g) 0 ⟨Nat.zero_le _, by simp⟩ ⟨rfl, rfl, rfl, rfl, rfl, rfl, rfl, rfl, trivial⟩ (.refl _) (fun g pg => ?_)))))))))))
   obtain ⟨pk, pa⟩ := pg
   refine Eq_ (Ew Z4 (Em rfl (Em rfl (Ey rfl ((Y.len us_Facts rfl).yd) (Ey rfl ((Y.lss rfl rfl).yd) (o3 (fun q50 => ?_) (fun q50 => ?_)))))))
   ·refine Eu (n8 rfl (i7 (Et (Eq_ (E.block (Ew Z16 (Em rfl (Em rfl (Em rfl (Em rfl (Em rfl (Em rfl (Em rfl ?_)))))))))))))
    obtain ⟨eb61, eo61, ec61, ea61, er61, el61, eh61⟩ := rb7.elem g om
    obtain ⟨xa61_0, xc61_0, rfl, ei61_0, xh61_0⟩ := K8 er61
    have := xh61_0.slen.2
    refine Ey rfl ((v8 us_Facts ty_Fact rfl ea61 rfl g rfl om).yd) (Ey rfl (o6 (cs := [_, _]) ty_Fact rfl (eh61 _) rfl) ?_)
    have jp := b2z (s := xs25) (l := ms25) (d4 := rl25) (a8 := fl25) (d6 := sv25) (f := (D9 xs25 ms25 rl25 fl25 sv25)[g])
    refine Est rfl (N.call (a7r (by first | assumption | omega)) rfl rfl rfl dc rfl (fun w Lp hA => ⟨hA.ro rb1, hA.ro rb2, hA.ro rb3, hA.ro rb4, hA.ro rb5, ei61_0, hA.ro xh61_0⟩)) (fun k63 _ => ?_)
    obtain ⟨a63, m63, c63⟩ := k63
    refine d7 m0 fun e63 l63 => ?_
    subst e63
    refine Em rfl (Ey rfl ((Y.ext rfl rfl).yd) (Ey rfl ((Y.ext rfl rfl).yd) (Est rfl (N.alloc ty_Proof dc) (fun b11 _ => (Est rfl (Ns [_] ty_Proof rfl) (fun _ _ => (Ei rfl (Ent.b (fun q12 => ?_) (fun q12 => ?_)))))))))
    ·refine Eu (Eq_ (a7q (κ := Unit) (fun _ => True) (fun kM => [(0, .slice a_code code.length c_code), (3, .slice a25_0 (xs25).length c25_0), (4, .slice a25_1 (ms25).length c25_1), (5, .slice a25_2 (rl25).length c25_2), (6, .slice a25_3 (fl25).length c25_3), (7, .slice a25_4 (sv25).length c25_4), (9, .slice a42 (D9 xs25 ms25 rl25 fl25 sv25).length c42), (10, .int .i64 (g : Int)), (95, .bool false)]) (fun kM => [pt b11 81 [.slice a63 (N9 xs25 ms25 rl25 fl25 sv25 (((D9 xs25 ms25 rl25 fl25 sv25)[g].1), ((D9 xs25 ms25 rl25 fl25 sv25)[g].2))).length c63], ow B6 [.slice a63 (N9 xs25 ms25 rl25 fl25 sv25 (((D9 xs25 ms25 rl25 fl25 sv25)[g].1), ((D9 xs25 ms25 rl25 fl25 sv25)[g].2))).length c63] (N9 xs25 ms25 rl25 fl25 sv25 (((D9 xs25 ms25 rl25 fl25 sv25)[g].1), ((D9 xs25 ms25 rl25 fl25 sv25)[g].2)))]) ?_ (fun kM _ => ?_)))
     ·refine D.region (fun j => true) mixed (Dyp 0 rfl (i8 rfl) (Dyp 1 rfl (Y.not (b := true) rfl) (Dyp 2 rfl (i8 rfl) (Dyp 3 rfl (i8 rfl) (Dyp 4 rfl (i8 rfl) (Dyp 5 rfl (i8 rfl) (Dyp 6 rfl (i8 rfl) (Dyp 7 rfl (i8 rfl) (Dyp 8 rfl (i8 rfl) (Dyp 9 rfl (i8 rfl) (Dyp 10 rfl (v8 us_Facts ty_Fact rfl ea61 rfl g rfl om) (Dy 11 rfl (o6 (cs := [_, _]) ty_Fact rfl (eh61 _) rfl) (Dy 12 rfl (o6 (cs := [_]) ty_Proof rfl (Has.pt m0) rfl) (t6 13 rfl rfl kr (fun _ => rfl) (l0 (a3R (by first | assumption | omega) (Nat.le_trans a5l.1 dc)) rfl rfl rfl dc (fun w Lp hA => ⟨hA.ro rb1, hA.ro rb2, hA.ro rb3, hA.ro rb4, hA.ro rb5, ei61_0, hA.ro xh61_0, hA.ow (mS m0)⟩)) (fun _ _ => (Ent.b (fun q79 => ?_) (fun q79 => ?_)))))))))))))))))
      ·refine Dyp 14 rfl (Y.not (b := true) rfl) (Dyp 15 rfl (t7 rfl rfl) (Dyp 16 rfl (i8 rfl) (Dyp 17 rfl (i8 rfl) (Dyp 18 rfl (i8 rfl) (Dyp 19 rfl (i8 rfl) (Dyp 20 rfl (i8 rfl) (Dyp 21 rfl (i8 rfl) (Dyp 22 rfl (i8 rfl) (Dyp 23 rfl (i8 rfl) (Dyp 24 rfl (v8 us_Facts ty_Fact rfl ea61 rfl g rfl om) (Dy 25 rfl (o6 (cs := [_, _]) ty_Fact rfl (eh61 _) rfl) (Dy 26 rfl (o6 (cs := [_]) ty_Proof rfl (Has.pt m0) rfl) (t6 27 rfl rfl kr (fun _ => rfl) (l0 a3K rfl rfl rfl dc (fun w Lp hA => ⟨hA.ro rb1, hA.ro rb2, hA.ro rb3, hA.ro rb4, hA.ro rb5, ei61_0, hA.ro xh61_0, hA.ow (mS m0)⟩)) (fun _ _ => (Ent.b (fun q93 => ?_) (fun q93 => ?_))))))))))))))))
       ·refine Dyp 28 rfl (Y.not (b := true) rfl) (Dyp 29 rfl (t7 rfl rfl) (r9 kr (d9 (d9 ?_))))
        exact a0v () trivial ⟨rfl, rfl, rfl, rfl, rfl, rfl, rfl, rfl, rfl, trivial⟩ (.refl _)
       ·exact absurd (b1z (s := xs25) (l := ms25) (d4 := rl25) (a8 := fl25) (d6 := sv25) (g := g) om).2 (by rw [q93]; decide)
      ·exact absurd (b1z (s := xs25) (l := ms25) (d4 := rl25) (a8 := fl25) (d6 := sv25) (g := g) om).2 (by rw [q79]; decide)
     ·show Ent _ _ _ [(0, .slice a_code code.length c_code), (3, .slice a25_0 (xs25).length c25_0), (4, .slice a25_1 (ms25).length c25_1), (5, .slice a25_2 (rl25).length c25_2), (6, .slice a25_3 (fl25).length c25_3), (7, .slice a25_4 (sv25).length c25_4), (9, .slice a42 (D9 xs25 ms25 rl25 fl25 sv25).length c42), (10, .int .i64 (g : Int)), (95, .bool false)] [pt b11 81 [.slice a63 (N9 xs25 ms25 rl25 fl25 sv25 (((D9 xs25 ms25 rl25 fl25 sv25)[g].1), ((D9 xs25 ms25 rl25 fl25 sv25)[g].2))).length c63], ow B6 [.slice a63 (N9 xs25 ms25 rl25 fl25 sv25 (((D9 xs25 ms25 rl25 fl25 sv25)[g].1), ((D9 xs25 ms25 rl25 fl25 sv25)[g].2))).length c63] (N9 xs25 ms25 rl25 fl25 sv25 (((D9 xs25 ms25 rl25 fl25 sv25)[g].1), ((D9 xs25 ms25 rl25 fl25 sv25)[g].2)))] _
      refine Et (o0 rfl (i7 (s9 (Et (Ez Z3 (Em rfl (Ey rfl ((Y.add rfl rfl om om).yd) (Ei rfl (Eu (Ent.drop (Ent.drop ?_)))))))))))
      exact x6 br (g + 1) rs (.refl _) ⟨by omega, by grind [d1, d2, t1, t2]⟩ om
    ·exact absurd (b1z (s := xs25) (l := ms25) (d4 := rl25) (a8 := fl25) (d6 := sv25) (g := g) om).1 (by rw [q12]; decide)
   ·refine Eu (o0 rfl (E.exit (q1 (q1 (y4 (Et (Eq_ (a7q (κ := Unit) (fun _ => True) (fun kM => [(0, .slice a_code code.length c_code)]) (fun kM => []) ?_ (fun kM _ => ?_)))))))))
    ·refine Ew Z26 (Em rfl (Em rfl (Em rfl (Est rfl (l0 a5m rfl rfl rfl dc (fun w Lp hA => ⟨hA.ro rb1, hA.ro rb3, hA.ro rb4⟩)) (fun _ _ => (Ent.b (fun q99 => ?_) (fun q99 => ?_)))))))
     ·refine Em rfl (Em rfl (Em rfl (Est rfl (l0 a1g rfl rfl rfl dc (fun w Lp hA => ⟨hA.ro rb1, hA.ro rb2⟩)) (fun _ _ => (Ent.b (fun q103 => ?_) (fun q103 => ?_))))))
      ·refine Ey rfl ((t8 rfl rfl).yd) (Em rfl (Em rfl (Em rfl (Est rfl (l0 a6h rfl rfl rfl dc (fun w Lp hA => ⟨hA.ro rb7, hA.ro rb4⟩)) (fun _ _ => (Ent.b (fun q108 => ?_) (fun q108 => ?_)))))))
       ·refine Ey rfl ((Y.not (b := true) rfl).yd) (Em rfl (Em rfl (Em rfl (Em rfl (Em rfl (Est rfl (N.call (a8r (by first | assumption | omega)) rfl rfl rfl dc rfl (fun w Lp hA => ⟨hA.ro rb1, hA.ro rb2, hA.ro rb4, hA.ro rb5⟩)) (fun k115 _ => ?_)))))))
        obtain ⟨⟨a115_0, m115_0, c115_0⟩, ⟨a115_1, m115_1, c115_1⟩, ⟨a115_2, m115_2, c115_2⟩⟩ := k115
        refine d7 m0 fun e115_0 l115_0 => ?_
        subst e115_0
        refine d7 (mS m0) fun e115_1 l115_1 => ?_
        subst e115_1
        refine d7 (mS (mS m0)) fun e115_2 l115_2 => ?_
        subst e115_2
        refine Ey rfl ((b9R (cs := [_, _, _, _]) fo_Reached_0 ty_Facts rfl rfl).yd) (Em rfl (Est rfl (l0 a6h rfl rfl rfl dc (fun w Lp hA => ⟨hA.ow m0, hA.ro rb7⟩)) (fun _ _ => (Ent.b (fun q118 => ?_) (fun q118 => ?_)))))
        ·refine Ey rfl ((Y.not (b := true) rfl).yd) (Ey rfl ((t7 rfl rfl).yd) (Ey rfl ((t8 rfl rfl).yd) (Eu (o0 rfl (i7 (Ent.drop (Ent.drop (Ent.drop ?_))))))))
         exact a0v () trivial ⟨rfl, trivial⟩ (.refl _)
        ·exact absurd (b6M q99 q103) (by rw [q118]; decide)
       ·exact absurd (b7z q99) (by rw [q108]; decide)
      ·refine Ey rfl ((t8 rfl rfl).yd) (Em rfl (Es rfl (Es rfl (Es rfl (Es rfl (b6l rfl rfl dc (Es rfl (Es rfl (Es rfl (Es rfl (Es rfl (Es rfl (Es rfl (Es rfl (Es rfl (Es rfl (Ey rfl ((t7 rfl rfl).yd) ?_)))))))))))))))))
       exact Eu (o0 rfl (i7 (a0v () trivial ⟨rfl, trivial⟩ (.refl _))))
     ·refine Em rfl (Es rfl (Es rfl (Es rfl (Ey rfl ((t7 rfl rfl).yd) (Em rfl (Es rfl (Es rfl (Es rfl (Es rfl (b6l rfl rfl dc (Es rfl (Es rfl (Es rfl (Es rfl (Es rfl (Es rfl (Es rfl (Es rfl (Es rfl (Es rfl (Ey rfl ((t7 rfl rfl).yd) ?_)))))))))))))))))))))
      exact Eu (o0 rfl (i7 (a0v () trivial ⟨rfl, trivial⟩ (.refl _))))
    ·show Ent _ _ _ [(0, .slice a_code code.length c_code)] [] _
     refine Et (Ew Z19 (Em rfl (Est rfl (N.call (a5h (by first | assumption | omega)) rfl rfl rfl dc rfl (fun w Lp hA => hA.ro hcode)) (fun k124 o124 => ?_))))
     obtain ⟨xs124, ms124, rl124, fl124, sv124, ra124, vs124, pl124, ⟨a124_0, m124_0, c124_0⟩, ⟨a124_1, m124_1, c124_1⟩, ⟨a124_2, m124_2, c124_2⟩, ⟨a124_3, m124_3, c124_3⟩, ⟨a124_4, m124_4, c124_4⟩, ⟨a124_5, m124_5, c124_5⟩, ⟨a124_6, m124_6, c124_6⟩⟩ := k124
     replace o124 : (1 ≤ xs124.length ∧ xs124.length ≤ 4) ∧ (ms124.length ≤ 5 ∧ ∀ m ∈ ms124, m.2.1.length ≤ 4) ∧ (rl124.length ≤ 4 ∧ ∀ r ∈ rl124, r.2.2.length ≤ 4) ∧ (fl124.length ≤ 24 ∧ ∀ f ∈ fl124, f.2.length ≤ 4) ∧ sv124.length ≤ 3 ∧ vs124.length ≤ 4 ∧ I64 ra124 ∧ a0m V1 pl124 ≤ 50000 ∧ pl124.length ≤ 5324 := o124
     try (conv => arg 4; dsimp only)
     try (conv => arg 5; dsimp only [List.cons_append, List.nil_append, List.append_nil])
     refine d7 m0 fun e124_0 l124_0 => ?_
     subst e124_0
     refine d7 (mS m0) fun e124_1 l124_1 => ?_
     subst e124_1
     refine d7 (mS (mS m0)) fun e124_2 l124_2 => ?_
     subst e124_2
     refine b2P (mS (mS (mS m0))) fun e124_3 l124_3 => ?_
     subst e124_3
     refine d7 (mS (mS (mS (mS m0)))) fun e124_4 l124_4 => ?_
     subst e124_4
     refine b2O rfl (mS (mS (mS m0))) fun e124_5 l124_5 => ?_
     subst e124_5
     refine Ent.flen (mS (mS (mS (mS (mS m0))))) fun e124_6 l124_6 => ?_
     subst e124_6
     refine Em rfl (Ey rfl ((Y.ext rfl rfl).yd) (Ey rfl ((Y.ext rfl rfl).yd) (Ey rfl ((Y.ext rfl rfl).yd) (Ey rfl ((Y.ext rfl rfl).yd) (Ey rfl ((Y.ext rfl rfl).yd) (Ey rfl ((Y.ext rfl rfl).yd) (Ey rfl ((Y.ext rfl rfl).yd) (Est rfl (N.alloc ty_Fact dc) (fun b18 _ => (Est rfl (N.alloc ty_Proof dc) (fun b19 _ => (Ei rfl (Ei rfl (Ei rfl (Ei rfl (Ei rfl (d9 (Est rfl (Ns [_, _] ty_Fact rfl) (fun _ _ => (d9 (Est rfl (Ns [_] ty_Proof rfl) (fun _ _ => (Ev Z9 (Em rfl (Em rfl (Em rfl (Em rfl (Em rfl (Ey rfl (o6 (cs := [_, _]) ty_Fact rfl (Has.pt (mS m0)) rfl) (Ey rfl (o6 (cs := [_]) ty_Proof rfl (Has.pt m0) rfl) (Est rfl (l0 a3K rfl rfl rfl dc (fun w Lp hA => ⟨hA.ow (mS (mS m0)), hA.ow (mS (mS (mS m0))), hA.ow (mS (mS (mS (mS m0)))), hA.bd1 (mS (mS (mS (mS (mS m0))))) rfl, hA.ow (mS (mS (mS (mS (mS (mS m0)))))), i6, hA.bd2 (mS (mS (mS (mS (mS m0))))) rfl, hA.frz (mS (mS (mS (mS (mS (mS (mS m0)))))))⟩)) (fun _ _ => (Ei rfl (Eu (Eq_ (D.region (fun j => true) mixed (Dyp 0 rfl (i8 rfl) (Dyp 1 rfl (i8 rfl) (Dyp 2 rfl (i8 rfl) (Dyp 3 rfl (i8 rfl) (Dyp 4 rfl (i8 rfl) (Dyp 5 rfl (i8 rfl) (Dy 6 rfl (o6 (cs := [_, _]) ty_Fact rfl (Has.pt (mS m0)) rfl) (Dy 7 rfl (o6 (cs := [_]) ty_Proof rfl (Has.pt m0) rfl) (t6 8 rfl rfl kr (fun _ => rfl) (l0 (a3R (by first | assumption | omega) (Nat.le_trans o124.2.2.2.2.2.2.2.1 dc)) rfl rfl rfl dc (fun w Lp hA => ⟨hA.ow (mS (mS m0)), hA.ow (mS (mS (mS m0))), hA.ow (mS (mS (mS (mS m0)))), hA.bd1 (mS (mS (mS (mS (mS m0))))) rfl, hA.ow (mS (mS (mS (mS (mS (mS m0)))))), i6, hA.bd2 (mS (mS (mS (mS (mS m0))))) rfl, hA.frz (mS (mS (mS (mS (mS (mS (mS m0)))))))⟩)) (fun _ _ => (Dyp 9 rfl (b8d kr rfl rfl) (o3 (fun q149 => ?_) (fun q149 => ?_)))))))))))))))))))))))))))))))))))))))))))))))))
     ·refine Dyp 10 rfl (i8 rfl) (Dyp 11 rfl (i8 rfl) (Ent.b (fun q151 => ?_) (fun q151 => ?_)))
      ·refine Dyp 12 rfl (Y.not (b := true) rfl) (Dyp 13 rfl (i8 rfl) (Dyp 14 rfl (i8 rfl) (Dyp 15 rfl (i8 rfl) (Dyp 16 rfl (i8 rfl) (Dyp 17 rfl (i8 rfl) (Dyp 18 rfl (i8 rfl) (Dy 20 rfl (o6 (cs := [_, _]) ty_Fact rfl (Has.pt (mS m0)) rfl) (t6 19 rfl rfl kr (fun _ => rfl) (N.call (a3M (by first | assumption | omega)) rfl rfl rfl dc rfl (fun w Lp hA => ⟨hA.ow (mS (mS m0)), hA.ow (mS (mS (mS m0))), hA.ow (mS (mS (mS (mS m0)))), hA.bd1 (mS (mS (mS (mS (mS m0))))) rfl, hA.ow (mS (mS (mS (mS (mS (mS m0))))))⟩)) (fun k159 _ => ?_)))))))))
       obtain ⟨a159, m159, c159⟩ := k159
       refine d7 m0 fun e159 l159 => ?_
       subst e159
       refine t6 21 rfl rfl kr (fun _ => rfl) (l0 a0B rfl rfl rfl dc (fun w Lp hA => ⟨hA.ow m0, i6, hA.bd2 (mS (mS (mS (mS (mS (mS m0)))))) rfl⟩)) (fun _ _ => (Ent.b (fun q161 => ?_) (fun q161 => ?_)))
       ·refine Dyp 22 rfl (t7 rfl rfl) (Dyp 23 rfl (t8 rfl rfl) (Dyp 24 rfl (i8 rfl) (Dy 25 rfl (o6 (cs := [_]) ty_Proof rfl (Has.pt (mS m0)) rfl) (Dy 27 rfl (o6 (cs := [_]) ty_Proof rfl (Has.pt (mS m0)) rfl) (t6 26 rfl rfl kr (fun _ => rfl) (l0 (a3B (by first | assumption | omega)) rfl rfl rfl dc (fun w Lp hA => ⟨hA.frz (mS (mS (mS (mS (mS (mS (mS (mS m0)))))))), hA.rop htab⟩)) (fun _ _ => (t6 28 rfl rfl kr (fun _ => rfl) (l0 (a3x (by first | assumption | omega)) rfl rfl rfl dc (fun w Lp hA => hA.frz (mS (mS (mS (mS (mS (mS (mS (mS m0)))))))))) (fun _ _ => (Dyp 29 rfl (b1X rfl rfl) (Dyp 30 rfl (t8 rfl rfl) (Dyp 31 rfl (C2 rfl) ?_)))))))))))
        exact r9 kr (Et (E.ret (F.r1 ((((((hB1.comp hB2).comp hB3).comp hB4).comp hB5).comp hB6).comp hB7) rfl rfl () trivial (congrArg Value.bool (by simp_all)) (J := _) (.refl _) (.inl rfl))))
       ·exact absurd (b6F q151) (by rw [q161]; decide)
      ·refine Dyp 12 rfl (Y.not (b := false) rfl) (Dyp 13 rfl (i8 rfl) (Dsk 14 rfl (Dsk 15 rfl (Dsk 16 rfl (Dsk 17 rfl (Dsk 18 rfl (Dsk 19 rfl (Dsk 20 rfl (Dsk 21 rfl (Dyp 22 rfl (t8 rfl rfl) (Dyp 23 rfl (t8 rfl rfl) (Dyp 24 rfl (i8 rfl) (Dy 25 rfl (o6 (cs := [_]) ty_Proof rfl (Has.pt m0) rfl) (Dy 27 rfl (o6 (cs := [_]) ty_Proof rfl (Has.pt m0) rfl) (t6 26 rfl rfl kr (fun _ => rfl) (l0 (a3B (by first | assumption | omega)) rfl rfl rfl dc (fun w Lp hA => ⟨hA.frz (mS (mS (mS (mS (mS (mS (mS m0))))))), hA.rop htab⟩)) (fun _ _ => (t6 28 rfl rfl kr (fun _ => rfl) (l0 (a3x (by first | assumption | omega)) rfl rfl rfl dc (fun w Lp hA => hA.frz (mS (mS (mS (mS (mS (mS (mS m0))))))))) (fun _ _ => (Dyp 29 rfl (b1X rfl rfl) (Dyp 30 rfl (t8 rfl rfl) (Dyp 31 rfl (C2 rfl) ?_)))))))))))))))))))))
       exact r9 kr (Et (E.ret (F.r1 ((((((hB1.comp hB2).comp hB3).comp hB4).comp hB5).comp hB6).comp hB7) rfl rfl () trivial (congrArg Value.bool (by simp_all)) (J := _) (.refl _) (.inl rfl))))
     ·exact absurd q149 (by simp)
  ·exact absurd q45 (by simp)
end Go.Proofs.YthapcdhdfaibkaaGreatDoor
end
