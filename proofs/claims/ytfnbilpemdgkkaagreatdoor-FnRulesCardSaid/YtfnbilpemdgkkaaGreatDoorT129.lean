import Derived.Test.YtfnbilpemdgkkaaGreatDoorT128
import Derived.Test.YtfnbilpemdgkkaaGreatDoorT97
import Derived.Test.YtfnbilpemdgkkaaGreatDoorT95
import Derived.Test.YtfnbilpemdgkkaaGreatDoorT110
import Derived.Test.YtfnbilpemdgkkaaGreatDoorT123
import Derived.Test.YtfnbilpemdgkkaaGreatDoorHl
namespace Go.Proofs.YtfnbilpemdgkkaaGreatDoor
open Go.RowKit
set_option linter.all false
set_option maxHeartbeats 2000000
attribute [local irreducible] Nop Yd Yp Ent Has Tr FnP FnP2 Src J1 P8 U7 W9 E0
theorem a2c {a_a : Option Addr} {m_a c_a : Nat} {a : List (Int × List Int)} {a_b : Option Addr} {m_b c_b : Nat} {b : List (Int × List Int)} : Tr Tryz.prog 38 [.slice a_a m_a c_a, .slice a_b m_b c_b] (fun w L => Ro w L f6 [.slice a_a m_a c_a] a ∧ Ro w L f6 [.slice a_b m_b c_b] b) [] (κ := Unit) (fun k => True) (fun k => .bool (a.all (fun x => w5 b x))) (fun k => []) := by
 refine f8 Tryz.func38 rfl (n := 19) rfl (by decide +kernel) bl (fr := [(0, .slice a_a m_a c_a), (1, .slice a_b m_b c_b)]) rfl fun w L hR => ?_
 obtain ⟨ha, hb⟩ := hR
 obtain ⟨rfl, la⟩ := ha.slen
 obtain ⟨rfl, lb⟩ := hb.slen
 refine Ew Z1 (Ei rfl (Eu (Eq_ (Ew Z1 (Ei rfl (Eu (E.block (E.loop (κ := Nat) (fun g => g ≤ a.length ∧ a.all (fun x => w5 b x) = (a.drop g).all (fun x => w5 b x)) (fun g => [(0, .slice a_a a.length c_a), (1, .slice a_b b.length c_b), (5, .int .i64 (g : Int))]) (fun g => []) (fun g => a.length - g) 0 ⟨Nat.zero_le _, by simp⟩ ⟨rfl, rfl, rfl, trivial⟩ (.refl _) (fun g pg => ?_)))))))))
 obtain ⟨pk, pa⟩ := pg
 refine Eq_ (Ew Z4 (Em rfl (Em rfl (Ey rfl ((Y.len us_Facts rfl).yd) (Ey rfl ((Y.lss rfl rfl).yd) (j8 (fun q9 => ?_) (fun q9 => ?_)))))))
 ·refine Eu (l3 rfl (d9 (Et (Eq_ (E.block (Ew Z7 (Em rfl (Em rfl (Em rfl ?_)))))))))
  obtain ⟨eb15, eo15, ec15, ea15, er15, el15, eh15⟩ := ha.elem g om
  obtain ⟨xa15_0, xc15_0, rfl, ei15_0, xh15_0⟩ := y8 er15
  have := xh15_0.slen.2
  refine Ey rfl ((r8 us_Facts ty_Fact rfl ea15 rfl g rfl om).yd) (Ey rfl (l8 (cs := [_, _]) ty_Fact rfl (eh15 _) rfl) (Est rfl (f5 Q7 rfl rfl rfl dc (fun w Lp hA => ⟨hA.ro hb, ei15_0, hA.ro xh15_0⟩)) (fun _ _ => (r5 (fun q17 => ?_) (fun q17 => ?_)))))
  ·refine Ey rfl ((Y.not (b := true) rfl).yd) (Eu (l4 rfl (d9 (o2 (Et (Ez Z3 (Em rfl (Ey rfl ((Y.add rfl rfl om om).yd) (Ei rfl ?_)))))))))
   exact Eu (u7 br (g + 1) rs (.refl _) ⟨by omega, by grind [d1, d2, t1, t2]⟩ om)
  ·refine Ey rfl ((Y.not (b := false) rfl).yd) (Eu (l3 rfl (Ew Z1 (Ei rfl ?_))))
   exact Eu (E.ret (w8 (j0 (j0 (w8 (j0 (Fb rfl rfl (by grind [B7, d1, d2, t1, t2]))))))))
 ·refine Eu (l4 rfl (E.exit (n8 (n8 (w7 (Et (Ew Z1 (Ei rfl ?_))))))))
  exact Eu (E.ret (Fb rfl rfl (by grind [B7, d1, d2, t1, t2])))
set_option maxRecDepth 100000 in
theorem a4G {a_code : Option Addr} {m_code c_code : Nat} {code : List UInt8} {ts tr : TypeId} {ps pr : Value} {mx : Int} : Tr Tryz.prog 4 [.slice a_code m_code c_code] (fun w L => Ro w L L7 [.slice a_code m_code c_code] code ∧ RoPt w L a0C a1V ∧ RoPt w L gES [.iface ts ps] ∧ RoPt w L gER [.iface tr pr] ∧ RoPt w L a4S [.int .i64 mx]) [] (κ := Unit) (fun k => True) (fun k => .bool (true)) (fun k => []) := by
 refine f8 Tryz.func4 rfl (n := 294) rfl (by decide +kernel) bl (fr := [(0, .slice a_code m_code c_code)]) rfl fun w L hR => ?_
 obtain ⟨hcode, htab, hes, her, hmax⟩ := hR
 obtain ⟨rfl, lcode⟩ := hcode.slen
 refine Ew Z1 (Ei rfl (Eu (Eq_ (Ew Z2 (Em rfl (Est rfl (f5 a8n rfl rfl rfl dc (fun w Lp hA => hA.ro hcode)) (fun _ _ => (r5 (fun q36 => ?_) (fun q36 => ?_)))))))))
 ·refine Eu (l3 rfl (Ew Z1 (Ei rfl ?_)))
  exact Eu (E.ret (j0 (Fg rfl rfl () rfl rfl)))
 ·have hcl : code.length ≤ 1048576 := by have := of_decide_eq_false q36; omega
  refine Eu (l4 rfl (d9 (Et (Ew Z9 (Em rfl (Est rfl (N.call (a1s (by first | assumption | omega)) rfl rfl rfl dc rfl (fun w Lp hA => hA.ro hcode)) (fun k39 o39 => ?_)))))))
  obtain ⟨xs39, rl39, fl39, ⟨a39_0, m39_0, c39_0⟩, ⟨a39_1, m39_1, c39_1⟩, ⟨a39_2, m39_2, c39_2⟩⟩ := k39
  replace o39 : (1 ≤ xs39.length ∧ xs39.length ≤ 4) ∧ (rl39.length ≤ 4 ∧ ∀ r ∈ rl39, r.2.2.length ≤ 4) ∧ fl39.length ≤ 9 ∧ ∀ f ∈ fl39, 1 ≤ f.2.length ∧ f.2.length ≤ 4 := o39
  try (conv => arg 4; dsimp only)
  try (conv => arg 5; dsimp only [List.cons_append, List.nil_append, List.append_nil])
  have jf := o39.2.2.1
  have jcl := a8x (s := xs39) (c6 := rl39) (a6 := fl39)
  refine d8 m0 fun e39_0 l39_0 => ?_
  subst e39_0
  refine d8 (mS m0) fun e39_1 l39_1 => ?_
  subst e39_1
  refine d8 (mS (mS m0)) fun e39_2 l39_2 => ?_
  subst e39_2
  refine C3 (A := [_]) rfl fun wb1 Lb1 hB1 hA1 => ?_
  have hcode := hA1.ro hcode
  have htab := hA1.rop htab
  have hes := hA1.rop hes
  have her := hA1.rop her
  have hmax := hA1.rop hmax
  have rb1 : Ro wb1 Lb1 eIs [.slice a39_0 (xs39).length c39_0] xs39 := hA1.ow m0
  refine C3 (A := [_]) rfl fun wb2 Lb2 hB2 hA2 => ?_
  have hcode := hA2.ro hcode
  have rb1 := hA2.ro rb1
  have htab := hA2.rop htab
  have hes := hA2.rop hes
  have her := hA2.rop her
  have hmax := hA2.rop hmax
  have rb2 : Ro wb2 Lb2 D0 [.slice a39_1 (rl39).length c39_1] rl39 := hA2.ow m0
  refine C3 (A := [_]) rfl fun wb3 Lb3 hB3 hA3 => ?_
  have hcode := hA3.ro hcode
  have rb1 := hA3.ro rb1
  have rb2 := hA3.ro rb2
  have htab := hA3.rop htab
  have hes := hA3.rop hes
  have her := hA3.rop her
  have hmax := hA3.rop hmax
  have rb3 : Ro wb3 Lb3 f6 [.slice a39_2 (fl39).length c39_2] fl39 := hA3.ow m0
  refine Em rfl (Ey rfl ((Y.ext rfl rfl).yd) (Ey rfl ((Y.ext rfl rfl).yd) (Ey rfl ((Y.ext rfl rfl).yd) (Ei rfl (Ei rfl (Ei rfl (Ev Z5 (Em rfl (Em rfl (Em rfl (Est rfl (N.call a2W rfl rfl rfl dc rfl (fun w Lp hA => ⟨hA.ro rb1, hA.ro rb2, hA.ro rb3⟩)) (fun k46 _ => ?_))))))))))))
  obtain ⟨a46, m46, c46⟩ := k46
  refine d8 m0 fun e46 l46 => ?_
  subst e46
  refine Ei rfl (Ev Z5 (Em rfl (Em rfl (Em rfl (Est rfl (N.call a0f rfl rfl rfl dc rfl (fun w Lp hA => ⟨hA.ro rb1, hA.ro rb2, hA.ro rb3⟩)) (fun k50 _ => ?_))))))
  obtain ⟨a50, m50, c50⟩ := k50
  refine d8 m0 fun e50 l50 => ?_
  subst e50
  refine C3 (A := [_]) rfl fun wb4 Lb4 hB4 hA4 => ?_
  have hcode := hA4.ro hcode
  have rb1 := hA4.ro rb1
  have rb2 := hA4.ro rb2
  have rb3 := hA4.ro rb3
  have htab := hA4.rop htab
  have hes := hA4.rop hes
  have her := hA4.rop her
  have hmax := hA4.rop hmax
  have rb4 : Ro wb4 Lb4 f6 [.slice a50 (r9 xs39 rl39 fl39).length c50] (r9 xs39 rl39 fl39) := hA4.ow m0
  refine Ei rfl (Eu (Eq_ (Ew Z16 (Em rfl (Em rfl (Est rfl (f5 a0H rfl rfl rfl dc (fun w Lp hA => ⟨hA.ow m0, hA.ro rb4⟩)) (fun _ _ => (r5 (fun q53 => ?_) (fun q53 => ?_)))))))))
  ·refine Ey rfl ((Y.not (b := true) rfl).yd) (Em rfl (Em rfl (Em rfl (Em rfl (Est rfl (N.call V6 rfl rfl rfl dc rfl (fun w Lp hA => ⟨hA.ro rb1, hA.ro rb2, hA.ro rb3⟩)) (fun k59 _ => ?_))))))
   obtain ⟨a59, m59, c59⟩ := k59
   refine d8 m0 fun e59 l59 => ?_
   subst e59
   refine Em rfl (Em rfl (Em rfl (Est rfl (N.call a2g rfl rfl rfl dc rfl (fun w Lp hA => ⟨hA.ro rb1, hA.ro rb2, hA.ro rb3⟩)) (fun k63 _ => ?_))))
   obtain ⟨a63, m63, c63⟩ := k63
   refine d8 m0 fun e63 l63 => ?_
   subst e63
   refine Est rfl (f5 a0H rfl rfl rfl dc (fun w Lp hA => ⟨hA.ow (mS m0), hA.ow m0⟩)) (fun _ _ => (r5 (fun q64 => ?_) (fun q64 => ?_)))
   ·refine Ey rfl ((Y.not (b := true) rfl).yd) (Ey rfl ((o6 rfl rfl).yd) (Eu (l4 rfl (d9 (Et (Eq_ (a4n (κ := Unit) (fun _ => True) (fun kM => [(0, .slice a_code code.length c_code), (3, .slice a39_0 (xs39).length c39_0), (4, .slice a39_1 (rl39).length c39_1)]) (fun kM => []) ?_ (fun kM _ => ?_))))))))
    ·refine Ew Z8 (Em rfl (Em rfl (Est rfl (f5 H6 rfl rfl rfl dc (fun w Lp hA => ⟨hA.ro rb1, hA.ro rb2⟩)) (fun _ _ => (r5 (fun q69 => ?_) (fun q69 => ?_))))))
     ·refine Em rfl (Em rfl (Em rfl (Est rfl (f5 P1 rfl rfl rfl dc (fun w Lp hA => ⟨hA.ro rb1, hA.ro rb3⟩)) (fun _ _ => (r5 (fun q73 => ?_) (fun q73 => ?_))))))
      ·refine Ey rfl ((o0 rfl rfl).yd) (Eu (l3 rfl (Eq_ (Ew Z25 (Em rfl (Em rfl (Est rfl (f5 a2c rfl rfl rfl dc (fun w Lp hA => ⟨hA.ro rb3, hA.ro rb4⟩)) (fun _ _ => (r5 (fun q77 => ?_) (fun q77 => ?_))))))))))
       ·refine Ey rfl ((Y.not (b := true) rfl).yd) (Em rfl (Em rfl (Em rfl (Em rfl (Est rfl (N.call V6 rfl rfl rfl dc rfl (fun w Lp hA => ⟨hA.ro rb1, hA.ro rb2, hA.ro rb3⟩)) (fun k83 _ => ?_))))))
        obtain ⟨a83, m83, c83⟩ := k83
        refine d8 m0 fun e83 l83 => ?_
        subst e83
        refine Em rfl (Est rfl (f5 a2c rfl rfl rfl dc (fun w Lp hA => ⟨hA.ow m0, hA.ro rb4⟩)) (fun _ _ => (r5 (fun q85 => ?_) (fun q85 => ?_))))
        ·refine Ey rfl ((Y.not (b := true) rfl).yd) (Ey rfl ((o6 rfl rfl).yd) (Em rfl (Em rfl (Em rfl (Em rfl (Est rfl (f5 a1t rfl rfl rfl dc (fun w Lp hA => ⟨hA.ro rb1, hA.ro rb2, hA.ro rb3⟩)) (fun _ _ => (Em rfl (Ey rfl ((Y.len us_Facts rfl).yd) (Em rfl (Ey rfl ((Y.len us_Facts rfl).yd) (Ey rfl ((Y.eql rfl rfl).yd) (Ey rfl ((b3L kr rfl rfl).yd) (j8 (fun q98 => ?_) (fun q98 => ?_)))))))))))))))
         ·exact absurd (b2G q69 q73) q98
         ·refine Ey rfl ((o6 rfl rfl).yd) (Eu (l4 rfl (d9 (Et (Ew Z1 (Ei rfl (Eu (E.block (E.loop (κ := Nat) (fun g => g ≤ (r9 xs39 rl39 fl39).length ∧ True) (fun g => [(0, .slice a_code code.length c_code), (3, .slice a39_0 (xs39).length c39_0), (4, .slice a39_1 (rl39).length c39_1), (5, .slice a39_2 (fl39).length c39_2), (7, .slice a50 (r9 xs39 rl39 fl39).length c50), (8, .int .i64 (g : Int))]) (fun g => [ow f6 [.slice a83 (C1 xs39 rl39 fl39).length c83] (C1 xs39 rl39 fl39), ow f6 [.slice a63 (C1 xs39 rl39 fl39).length c63] (C1 xs39 rl39 fl39), ow f6 [.slice a59 (C1 xs39 rl39 fl39).length c59] (C1 xs39 rl39 fl39), ow f6 [.slice a46 (r9 xs39 rl39 fl39).length c46] (r9 xs39 rl39 fl39)]) (fun g => (r9 xs39 rl39 fl39).length - g) 0 ⟨Nat.zero_le _, by simp⟩ ⟨rfl, rfl, rfl, rfl, rfl, rfl, trivial⟩ (.refl _) (fun g pg => ?_))))))))))
          obtain ⟨pk, pa⟩ := pg
          refine Eq_ (Ew Z4 (Em rfl (Em rfl (Ey rfl ((Y.len us_Facts rfl).yd) (Ey rfl ((Y.lss rfl rfl).yd) (j8 (fun q103 => ?_) (fun q103 => ?_)))))))
          ·refine Eu (l3 rfl (d9 (Et (Eq_ (E.block (Ew Z13 (Em rfl (Em rfl (Em rfl (Em rfl (Em rfl ?_)))))))))))
           obtain ⟨eb112, eo112, ec112, ea112, er112, el112, eh112⟩ := rb4.elem g om
           obtain ⟨xa112_0, xc112_0, rfl, ei112_0, xh112_0⟩ := y8 er112
           have := xh112_0.slen.2
           refine Ey rfl ((r8 us_Facts ty_Fact rfl ea112 rfl g rfl om).yd) (Ey rfl (l8 (cs := [_, _]) ty_Fact rfl (eh112 _) rfl) (Est rfl (N.call a0g rfl rfl rfl dc rfl (fun w Lp hA => ⟨hA.ro rb1, hA.ro rb2, hA.ro rb3, ei112_0, hA.ro xh112_0⟩)) (fun k114 _ => ?_)))
           obtain ⟨a114, m114, c114⟩ := k114
           refine d8 m0 fun e114 l114 => ?_
           subst e114
           refine C3 (A := [_]) rfl fun wb5 Lb5 hB5 hA5 => ?_
           have hcode := hA5.ro hcode
           have rb1 := hA5.ro rb1
           have rb2 := hA5.ro rb2
           have rb3 := hA5.ro rb3
           have rb4 := hA5.ro rb4
           have xh112_0 := hA5.ro xh112_0
           have htab := hA5.rop htab
           have hes := hA5.rop hes
           have her := hA5.rop her
           have hmax := hA5.rop hmax
           have eh112 := hB5.has eh112
           have rb5 : Ro wb5 Lb5 eIs [.slice a114 (dvF xs39 rl39 fl39 (((r9 xs39 rl39 fl39)[g].1), ((r9 xs39 rl39 fl39)[g].2))).length c114] (dvF xs39 rl39 fl39 (((r9 xs39 rl39 fl39)[g].1), ((r9 xs39 rl39 fl39)[g].2))) := hA5.ow m0
           refine Em rfl ?_
           have jd := b4o (to := ((r9 xs39 rl39 fl39)[g].1, (r9 xs39 rl39 fl39)[g].2)) q69 q73 (List.getElem_mem (show g < (r9 xs39 rl39 fl39).length by omega))
           have jdl : (dvF xs39 rl39 fl39 (((r9 xs39 rl39 fl39)[g].1), ((r9 xs39 rl39 fl39)[g].2))).length ≤ 5325 := b3u
           generalize dvF xs39 rl39 fl39 (((r9 xs39 rl39 fl39)[g].1), ((r9 xs39 rl39 fl39)[g].2)) = dl at jd jdl rb5 ⊢
           obtain ⟨jd1, jd2⟩ := jd
           obtain ⟨jd3, jd4, jd5⟩ := jd2 jd1
           refine Ey rfl ((Y.ext rfl rfl).yd) (Ey rfl ((Y.ext rfl rfl).yd) (Ei rfl (Ei rfl (Eu (Eq_ (Ew Z21 (Em rfl (r5 (fun q117 => ?_) (fun q117 => ?_)))))))))
           ·refine Ey rfl ((Y.not (b := true) rfl).yd) (Em rfl (Em rfl (Ey rfl ((Y.len us_Is rfl).yd) (Ey rfl ((Y.eql rfl rfl).yd) (j8 (fun q122 => ?_) (fun q122 => ?_))))))
            ·exact absurd jd1 (by have := q122; dsimp only at this; omega)
            ·refine Ey rfl ((o6 rfl rfl).yd) (Em rfl (Em rfl ?_))
             obtain ⟨eb126, eo126, ea126, ei126, eh126⟩ := rb5.elemI 0 om
             refine Ey rfl ((r8 us_Is f4 rfl ea126 rfl 0 rfl om).yd) (Ey rfl (f7 f4 rfl (eh126 _) rfl) (Ey rfl ((Y.lss rfl rfl).yd) (j8 (fun q128 => ?_) (fun q128 => ?_))))
             ·exact absurd jd3 (by have := q128; omega)
             ·refine Ey rfl ((o6 rfl rfl).yd) (Em rfl (Em rfl (Ey rfl ((r8 us_Is f4 rfl ea126 rfl 0 rfl om).yd) (Ey rfl (f7 f4 rfl (eh126 _) rfl) (Em rfl (Ey rfl ((Y.len us_Facts rfl).yd) (Ey rfl ((Y.geq rfl rfl).yd) (j8 (fun q136 => ?_) (fun q136 => ?_)))))))))
              ·exact absurd jd4 (by have := q136; omega)
              ·refine Ey rfl ((o6 rfl rfl).yd) (Eu (l4 rfl (d9 (Et (Ew Z8 (Em rfl (Em rfl (Ey rfl ((r8 us_Is f4 rfl ea126 rfl 0 rfl om).yd) (Ey rfl (f7 f4 rfl (eh126 _) rfl) ?_)))))))))
               obtain ⟨eb142, eo142, ec142, ea142, er142, el142, eh142⟩ := rb3.elem dl[0].toNat om
               obtain ⟨xa142_0, xc142_0, rfl, ei142_0, xh142_0⟩ := y8 er142
               have := xh142_0.slen.2
               refine Ey rfl ((r8 us_Facts ty_Fact rfl ea142 rfl dl[0].toNat om om).yd) (Ey rfl (l8 (cs := [_, _]) ty_Fact rfl (eh142 _) rfl) (Est rfl (N.alloc ty_Fact dc) (fun b11 _ => (Est rfl (Ns [_, _] ty_Fact rfl) (fun _ _ => (Eu (Eq_ (Ew Z1 (Ei rfl (Eu (E.block (b0h (xh142_0) (E.loop (κ := Nat × Int × (List Int) × Option Addr × Nat × Nat) (fun k => k.1 ≤ (dl.length - 1) ∧ (I64 k.2.1 ∧ Q0 xs39 rl39 (k.2.1, k.2.2.1) (dl.drop (k.1 + 1)) (r9 xs39 rl39 fl39)[g])) (fun k => [(0, .slice a_code code.length c_code), (3, .slice a39_0 (xs39).length c39_0), (4, .slice a39_1 (rl39).length c39_1), (5, .slice a39_2 (fl39).length c39_2), (7, .slice a50 (r9 xs39 rl39 fl39).length c50), (8, .int .i64 (g : Int)), (9, .slice a114 (dl).length c114), (11, .pointer (some ⟨b11, 0, none⟩)), (12, .int .i64 (↑(k.1 + 1) : Int))]) (fun k => [ow (Enc.brw wb5 Lb5 eIs) [.slice k.2.2.2.1 k.2.2.2.2.1 k.2.2.2.2.2] k.2.2.1, pt b11 44 [.int .i64 k.2.1, .slice k.2.2.2.1 k.2.2.2.2.1 k.2.2.2.2.2], ow f6 [.slice a83 (C1 xs39 rl39 fl39).length c83] (C1 xs39 rl39 fl39), ow f6 [.slice a63 (C1 xs39 rl39 fl39).length c63] (C1 xs39 rl39 fl39), ow f6 [.slice a59 (C1 xs39 rl39 fl39).length c59] (C1 xs39 rl39 fl39), ow f6 [.slice a46 (r9 xs39 rl39 fl39).length c46] (r9 xs39 rl39 fl39)]) (fun k => (dl.length - 1) - k.1) (0, fl39[dl[0].toNat].1, fl39[dl[0].toNat].2, xa142_0, fl39[dl[0].toNat].2.length, xc142_0) ⟨Nat.zero_le _, by assumption, jd5⟩ ⟨rfl, rfl, rfl, rfl, rfl, rfl, rfl, rfl, frI (by first | rfl | (simp; done) | grind [d1, d2, t1, t2]), trivial⟩ (.refl _) (fun k pk => ?_))))))))))))))
               obtain ⟨k, f0, fv, aA1_2, mA1_2, cA1_2⟩ := k
               try dsimp only at pk
               try dsimp only
               obtain ⟨pk, pa⟩ := pk
               refine b1G m0 fun eaA1_2 laA1_2 => ?_
               subst eaA1_2
               refine Eq_ (Ew Z4 (Em rfl (Em rfl (Ey rfl ((Y.len us_Is rfl).yd) (Ey rfl ((Y.lss rfl rfl).yd) (j8 (fun q147 => ?_) (fun q147 => ?_)))))))
               ·obtain ⟨js1, js2, js3, js4, js5⟩ := b1w (f := (f0, fv)) q69 pa.2 (show k + 1 < dl.length by omega)
                refine Eu (l3 rfl (d9 (Et (Eq_ (E.block (Eq_ (Ew Z14 (Em rfl (Em rfl ?_)))))))))
                obtain ⟨eb152, eo152, ea152, ei152, eh152⟩ := rb5.elemI (k + 1) om
                refine Ey rfl ((r8 us_Is f4 rfl ea152 rfl (k + 1) rfl om).yd) (Ey rfl (f7 f4 rfl (eh152 _) rfl) (Ey rfl ((Y.lss rfl rfl).yd) (j8 (fun q154 => ?_) (fun q154 => ?_))))
                ·exact absurd js1 (by have := q154; omega)
                ·refine Em rfl (Em rfl (Em rfl (Ey rfl ((r8 us_Is f4 rfl ea152 rfl (k + 1) rfl om).yd) (Ey rfl (f7 f4 rfl (eh152 _) rfl) (Em rfl (Ey rfl ((Y.len us_Rules rfl).yd) (Ey rfl ((Y.geq rfl rfl).yd) (j8 (fun q162 => ?_) (fun q162 => ?_)))))))))
                 ·exact absurd js2 (by have := q162; omega)
                 ·refine Ey rfl ((o6 rfl rfl).yd) (Eu (l4 rfl (d9 (Et (Eq_ (a4n (κ := Nat × Option Addr × Nat) (fun _ => True) (fun kM => [(0, .slice a_code code.length c_code), (3, .slice a39_0 (xs39).length c39_0), (4, .slice a39_1 (rl39).length c39_1), (5, .slice a39_2 (fl39).length c39_2), (7, .slice a50 (r9 xs39 rl39 fl39).length c50), (8, .int .i64 (g : Int)), (9, .slice a114 (dl).length c114), (11, .pointer (some ⟨b11, 0, none⟩)), (12, .int .i64 (↑(k + 1) : Int)), (13, .pointer (some ⟨kM.1, 0, none⟩)), (14, .bool (G4 xs39 ((rl39[dl[k + 1].toNat].1), (rl39[dl[k + 1].toNat].2.1), (rl39[dl[k + 1].toNat].2.2)) (f0, fv)))]) (fun kM => [pt kM.1 44 [.int .i64 (C5 xs39 ((rl39[dl[k + 1].toNat].1), (rl39[dl[k + 1].toNat].2.1), (rl39[dl[k + 1].toNat].2.2)) (f0, fv)), .slice kM.2.1 (D5 xs39 ((rl39[dl[k + 1].toNat].1), (rl39[dl[k + 1].toNat].2.1), (rl39[dl[k + 1].toNat].2.2)) (f0, fv)).length kM.2.2], ow eIs [.slice kM.2.1 (D5 xs39 ((rl39[dl[k + 1].toNat].1), (rl39[dl[k + 1].toNat].2.1), (rl39[dl[k + 1].toNat].2.2)) (f0, fv)).length kM.2.2] (D5 xs39 ((rl39[dl[k + 1].toNat].1), (rl39[dl[k + 1].toNat].2.1), (rl39[dl[k + 1].toNat].2.2)) (f0, fv)), ow (Enc.brw wb5 Lb5 eIs) [.slice aA1_2 (fv).length cA1_2] fv, pt b11 44 [.int .i64 f0, .slice aA1_2 (fv).length cA1_2], ow f6 [.slice a83 (C1 xs39 rl39 fl39).length c83] (C1 xs39 rl39 fl39), ow f6 [.slice a63 (C1 xs39 rl39 fl39).length c63] (C1 xs39 rl39 fl39), ow f6 [.slice a59 (C1 xs39 rl39 fl39).length c59] (C1 xs39 rl39 fl39), ow f6 [.slice a46 (r9 xs39 rl39 fl39).length c46] (r9 xs39 rl39 fl39)]) ?_ (fun kM _ => ?_)))))))
                  ·refine D.region (fun j => !(Nat.beq j 14)) mixed (Dyp 0 rfl (g0 rfl) (Dyp 1 rfl (g0 rfl) (Dyp 2 rfl (g0 rfl) (Dyp 3 rfl (g0 rfl) (Dyp 4 rfl (r8 us_Is f4 rfl ea152 rfl (k + 1) rfl om) (Dy 5 rfl (f7 f4 rfl (eh152 _) rfl) ?_))))))
                   obtain ⟨eb171, eo171, ec171, ea171, er171, el171, eh171⟩ := rb2.elem dl[k + 1].toNat om
                   obtain ⟨xa171_0, xc171_0, rfl, ei171_0, ei171_1, xh171_0⟩ := P9 er171
                   have := xh171_0.slen.2
                   refine Dyp 6 rfl (r8 us_Rules ty_Rule rfl ea171 rfl dl[k + 1].toNat om om) (Dy 7 rfl (l8 (cs := [_, _, _]) ty_Rule rfl (eh171 _) rfl) (Dy 8 rfl (l8 (cs := [_, _]) ty_Fact rfl (Has.pt (mS m0)) rfl) (a8W (i := 9) (j := 13) kr ?_ ?_)))
                   ·refine a4W 9 rfl rfl (fun _ => rfl) (N.call R6 rfl rfl rfl dc rfl (fun w Lp hA => ⟨hA.ro rb1, ei171_0, ei171_1, hA.ro xh171_0, i6, hA.brw m0⟩)) (fun k174 _ => ?_)
                    obtain ⟨a174, m174, c174⟩ := k174
                    refine d8 m0 fun e174 l174 => ?_
                    subst e174
                    refine Dyp 10 rfl (g0 rfl) (Dyp 11 rfl (Y.ext rfl rfl) (Dyp 12 rfl (Y.ext rfl rfl) (w3 13 rfl rfl kr (fun _ => rfl) (N.alloc ty_Fact dc) (fun b13 _ => (w3 14 rfl rfl kr (fun h => by cases h) (Ns [_, _] ty_Fact rfl) (fun _ _ => (Dyp 15 rfl (F1 rfl) (o3 kr (I8 (I8 (I8 (I8 (I8 (I8 (I8 (I8 ?_))))))))))))))))
                    exact V4 (b13, a174, c174) trivial ⟨rfl, rfl, rfl, rfl, rfl, rfl, rfl, rfl, rfl, rfl, rfl, trivial⟩ (.refl _)
                   ·refine a4W 13 rfl rfl (fun _ => rfl) (N.alloc ty_Fact dc) (fun b13 _ => (w3 9 rfl rfl kr (fun _ => rfl) (N.call R6 rfl rfl rfl dc rfl (fun w Lp hA => ⟨hA.ro rb1, ei171_0, ei171_1, hA.ro xh171_0, i6, hA.brw (mS m0)⟩)) (fun k174 _ => ?_)))
                    obtain ⟨a174, m174, c174⟩ := k174
                    refine d8 m0 fun e174 l174 => ?_
                    subst e174
                    refine Dyp 10 rfl (g0 rfl) (Dyp 11 rfl (Y.ext rfl rfl) (Dyp 12 rfl (Y.ext rfl rfl) (d7 (w3 14 rfl rfl kr (fun h => by cases h) (Ns [_, _] ty_Fact rfl) (fun _ _ => (Dyp 15 rfl (F1 rfl) (o3 kr (I8 (I8 (I8 (I8 (I8 (I8 (I8 (I8 ?_)))))))))))))))
                    exact V4 (b13, a174, c174) trivial ⟨rfl, rfl, rfl, rfl, rfl, rfl, rfl, rfl, rfl, rfl, rfl, trivial⟩ (.refl _)
                  ·obtain ⟨b13, a174, c174⟩ := kM
                   try dsimp only
                   refine Et (Eq_ (Ew Z2 (Em rfl (r5 (fun q177 => ?_) (fun q177 => ?_)))))
                   ·refine Ey rfl ((Y.not (b := true) rfl).yd) (Eu (l4 rfl (d9 (Et (Ez Z2 (d7 (b0d (Ey rfl (l8 (cs := [_, _]) ty_Fact rfl (Has.pt (mS m0)) rfl) (i8 (Est rfl (Ns [_, _] ty_Fact rfl) (fun _ _ => (En (o2 (Et (Ez Z3 (Em rfl (Ey rfl ((Y.add rfl rfl om om).yd) (Ei rfl (Eu (l6 (Ent.drop (l6 (Ent.drop (R5 (R5 ?_)))))))))))))))))))))))))
                    refine R5 (R5 (B0 (R5 ?_)))
                    exact u7 br (k + 1, C5 xs39 ((rl39[dl[k + 1].toNat].1), (rl39[dl[k + 1].toNat].2.1), (rl39[dl[k + 1].toNat].2.2)) (f0, fv), D5 xs39 ((rl39[dl[k + 1].toNat].1), (rl39[dl[k + 1].toNat].2.1), (rl39[dl[k + 1].toNat].2.2)) (f0, fv), a174, (D5 xs39 ((rl39[dl[k + 1].toNat].1), (rl39[dl[k + 1].toNat].2.1), (rl39[dl[k + 1].toNat].2.2)) (f0, fv)).length, c174) ⟨rfl, rfl, rfl, rfl, rfl, rfl, rfl, rfl, frI (by first | rfl | omega | (push_cast; omega)), trivial⟩ (.refl _) ⟨oz, (show (I64 (C5 xs39 ((rl39[dl[k + 1].toNat].1), (rl39[dl[k + 1].toNat].2.1), (rl39[dl[k + 1].toNat].2.2)) (f0, fv)) ∧ Q0 xs39 rl39 ((C5 xs39 ((rl39[dl[k + 1].toNat].1), (rl39[dl[k + 1].toNat].2.1), (rl39[dl[k + 1].toNat].2.2)) (f0, fv)), (D5 xs39 ((rl39[dl[k + 1].toNat].1), (rl39[dl[k + 1].toNat].2.1), (rl39[dl[k + 1].toNat].2.2)) (f0, fv))) (dl.drop ((k + 1) + 1)) (r9 xs39 rl39 fl39)[g]) from by exact ⟨js4, js5⟩)⟩ oz
                   ·exact absurd js3 (by rw [q177]; decide)
               ·refine Eu (l4 rfl (E.exit (n8 (n8 (w7 (Et (Eq_ (D.region (fun j => true) mixed (Dy 0 rfl (l8 (cs := [_, _]) ty_Fact rfl (Has.pt (mS m0)) rfl) (Dyp 1 rfl (g0 rfl) (Dyp 2 rfl (g0 rfl) (Dyp 3 rfl (r8 us_Facts ty_Fact rfl ea112 rfl g rfl om) (Dy 4 rfl (l8 (cs := [_, _]) ty_Fact rfl (eh112 _) rfl) (w3 5 rfl rfl kr (fun _ => rfl) (f5 B3 rfl rfl rfl dc (fun w Lp hA => ⟨i6, hA.brw m0, ei112_0, hA.ro xh112_0⟩)) (fun _ _ => (Dyp 6 rfl (Y.neq rfl rfl) (j8 (fun q186 => ?_) (fun q186 => ?_))))))))))))))))))
                ·exact absurd (M7.2 (a9b (f := (f0, fv)) pa.2 om)) q186
                ·refine o3 kr (Et (l4 rfl (d9 (o2 (Et (Ez Z3 (Em rfl (Ey rfl ((Y.add rfl rfl om om).yd) (Ei rfl (Eu (Ent.drop (Ent.drop (i8 (i8 (i8 (i8 ?_))))))))))))))))
                 exact u7 hB5 (g + 1) rs (.refl _) ⟨by omega, by grind [d1, d2, t1, t2]⟩ om
           ·exact absurd (decide_eq_true jd1) (by rw [q117]; decide)
          ·refine Eu (l4 rfl (E.exit (n8 (n8 (w7 (Ent.drop (Ent.drop (Ent.drop (Ent.drop ?_)))))))))
           exact V4 () trivial ⟨rfl, rfl, rfl, trivial⟩ (.refl _)
        ·exact absurd (b1u q69 q73) (by rw [q85]; decide)
       ·exact absurd (a9J q69 q73) (by rw [q77]; decide)
      ·refine Ey rfl ((o0 rfl rfl).yd) (Eu (l4 rfl (d9 (Ent.drop (Ent.drop (Ent.drop ?_))))))
       exact V4 () trivial ⟨rfl, rfl, rfl, trivial⟩ (.refl _)
     ·refine Em rfl (Es rfl (Es rfl (Es rfl (Ey rfl ((o6 rfl rfl).yd) (Eu (l4 rfl (d9 (Ent.drop (Ent.drop (Ent.drop ?_))))))))))
      exact V4 () trivial ⟨rfl, rfl, rfl, trivial⟩ (.refl _)
    ·show Ent _ _ _ [(0, .slice a_code code.length c_code), (3, .slice a39_0 (xs39).length c39_0), (4, .slice a39_1 (rl39).length c39_1)] [] _
     refine Et (Ew Z12 (Em rfl (Est rfl (N.call (a1n (by first | assumption | omega)) rfl rfl rfl dc rfl (fun w Lp hA => hA.ro hcode)) (fun k189 o189 => ?_))))
     obtain ⟨xs189, rl189, fl189, ra189, vs189, ⟨a189_0, m189_0, c189_0⟩, ⟨a189_1, m189_1, c189_1⟩, ⟨a189_2, m189_2, c189_2⟩, ⟨a189_3, m189_3, c189_3⟩⟩ := k189
     replace o189 : ((1 ≤ xs189.length ∧ xs189.length ≤ 4) ∧ (rl189.length ≤ 4 ∧ ∀ r ∈ rl189, r.2.2.length ≤ 4) ∧ fl189.length ≤ 9 ∧ ∀ f ∈ fl189, 1 ≤ f.2.length ∧ f.2.length ≤ 4) ∧ (-1 ≤ ra189 ∧ ra189 ≤ 10) ∧ vs189.length ≤ 4 := o189
     try (conv => arg 4; dsimp only)
     try (conv => arg 5; dsimp only [List.cons_append, List.nil_append, List.append_nil])
     have jr1 := o189.2.1
     refine d8 m0 fun e189_0 l189_0 => ?_
     subst e189_0
     refine d8 (mS m0) fun e189_1 l189_1 => ?_
     subst e189_1
     refine d8 (mS (mS m0)) fun e189_2 l189_2 => ?_
     subst e189_2
     refine d8 (mS (mS (mS m0))) fun e189_3 l189_3 => ?_
     subst e189_3
     refine C3 (A := [_]) rfl fun wb6 Lb6 hB6 hA6 => ?_
     have hcode := hA6.ro hcode
     have rb1 := hA6.ro rb1
     have rb2 := hA6.ro rb2
     have htab := hA6.rop htab
     have hes := hA6.rop hes
     have her := hA6.rop her
     have hmax := hA6.rop hmax
     have rb6 : Ro wb6 Lb6 eIs [.slice a189_0 (xs189).length c189_0] xs189 := hA6.ow m0
     refine C3 (A := [_]) rfl fun wb7 Lb7 hB7 hA7 => ?_
     have hcode := hA7.ro hcode
     have rb1 := hA7.ro rb1
     have rb2 := hA7.ro rb2
     have rb6 := hA7.ro rb6
     have htab := hA7.rop htab
     have hes := hA7.rop hes
     have her := hA7.rop her
     have hmax := hA7.rop hmax
     have rb7 : Ro wb7 Lb7 D0 [.slice a189_1 (rl189).length c189_1] rl189 := hA7.ow m0
     refine C3 (A := [_]) rfl fun wb8 Lb8 hB8 hA8 => ?_
     have hcode := hA8.ro hcode
     have rb1 := hA8.ro rb1
     have rb2 := hA8.ro rb2
     have rb6 := hA8.ro rb6
     have rb7 := hA8.ro rb7
     have htab := hA8.rop htab
     have hes := hA8.rop hes
     have her := hA8.rop her
     have hmax := hA8.rop hmax
     have rb8 : Ro wb8 Lb8 f6 [.slice a189_2 (fl189).length c189_2] fl189 := hA8.ow m0
     refine C3 (A := [_]) rfl fun wb9 Lb9 hB9 hA9 => ?_
     have hcode := hA9.ro hcode
     have rb1 := hA9.ro rb1
     have rb2 := hA9.ro rb2
     have rb6 := hA9.ro rb6
     have rb7 := hA9.ro rb7
     have rb8 := hA9.ro rb8
     have htab := hA9.rop htab
     have hes := hA9.rop hes
     have her := hA9.rop her
     have hmax := hA9.rop hmax
     have rb9 : Ro wb9 Lb9 eIs [.slice a189_3 (vs189).length c189_3] vs189 := hA9.ow m0
     refine Em rfl (Ey rfl ((Y.ext rfl rfl).yd) (Ey rfl ((Y.ext rfl rfl).yd) (Ey rfl ((Y.ext rfl rfl).yd) (Ey rfl ((Y.ext rfl rfl).yd) (Est rfl (N.alloc ty_Fact dc) (fun b18 _ => (Ei rfl (Ei rfl (Ei rfl (Est rfl (Ns [_, _] ty_Fact rfl) (fun _ _ => (Ev Z10 (Em rfl (Em rfl (Em rfl (Ey rfl (l8 (cs := [_, _]) ty_Fact rfl (Has.pt m0) rfl) (Est rfl (N.call a0g rfl rfl rfl dc rfl (fun w Lp hA => ⟨hA.ro rb6, hA.ro rb7, hA.ro rb8, i6, hA.ro rb9⟩)) (fun k199 _ => ?_))))))))))))))))))
     obtain ⟨a199, m199, c199⟩ := k199
     refine d8 m0 fun e199 l199 => ?_
     subst e199
     refine Em rfl (Ey rfl ((Y.ext rfl rfl).yd) (Ey rfl ((Y.ext rfl rfl).yd) (Ei rfl (Ei rfl (Ev Z10 (Em rfl (Em rfl (Em rfl (Ey rfl (l8 (cs := [_, _]) ty_Fact rfl (Has.pt (mS m0)) rfl) (Est rfl (N.call a2X rfl rfl rfl dc rfl (fun w Lp hA => ⟨hA.ro rb6, hA.ro rb7, hA.ro rb8, i6, hA.ro rb9⟩)) (fun k207 _ => ?_)))))))))))
     obtain ⟨a207, m207, c207⟩ := k207
     refine d8 m0 fun e207 l207 => ?_
     subst e207
     refine Em rfl (Ey rfl ((Y.ext rfl rfl).yd) (Ey rfl ((Y.ext rfl rfl).yd) (Ei rfl (Ei rfl (Ev Z8 (Em rfl (Est rfl (N.call (a3a (by first | assumption | omega)) rfl rfl rfl dc rfl (fun w Lp hA => hA.ro hcode)) (fun k212 o212 => ?_))))))))
     obtain ⟨xs212, rf212, rt212, rm212, ⟨a212_0, m212_0, c212_0⟩, ⟨a212_1, m212_1, c212_1⟩⟩ := k212
     replace o212 : (1 ≤ xs212.length ∧ xs212.length ≤ 4) ∧ (-10 ≤ rf212 ∧ rf212 ≤ 10) ∧ (-10 ≤ rt212 ∧ rt212 ≤ 10) ∧ rm212.length ≤ 4 := o212
     try (conv => arg 4; dsimp only)
     try (conv => arg 5; dsimp only [List.cons_append, List.nil_append, List.append_nil])
     have jr2 := o212.2.1
     have jr3 := o212.2.2.1
     refine d8 m0 fun e212_0 l212_0 => ?_
     subst e212_0
     refine d8 (mS m0) fun e212_1 l212_1 => ?_
     subst e212_1
     refine C3 (A := [_]) rfl fun wb10 Lb10 hB10 hA10 => ?_
     have hcode := hA10.ro hcode
     have rb1 := hA10.ro rb1
     have rb2 := hA10.ro rb2
     have rb6 := hA10.ro rb6
     have rb7 := hA10.ro rb7
     have rb8 := hA10.ro rb8
     have rb9 := hA10.ro rb9
     have htab := hA10.rop htab
     have hes := hA10.rop hes
     have her := hA10.rop her
     have hmax := hA10.rop hmax
     have rb10 : Ro wb10 Lb10 eIs [.slice a212_0 (xs212).length c212_0] xs212 := hA10.ow m0
     refine C3 (A := [_]) rfl fun wb11 Lb11 hB11 hA11 => ?_
     have hcode := hA11.ro hcode
     have rb1 := hA11.ro rb1
     have rb2 := hA11.ro rb2
     have rb6 := hA11.ro rb6
     have rb7 := hA11.ro rb7
     have rb8 := hA11.ro rb8
     have rb9 := hA11.ro rb9
     have rb10 := hA11.ro rb10
     have htab := hA11.rop htab
     have hes := hA11.rop hes
     have her := hA11.rop her
     have hmax := hA11.rop hmax
     have rb11 : Ro wb11 Lb11 eIs [.slice a212_1 (rm212).length c212_1] rm212 := hA11.ow m0
     refine Em rfl (Ey rfl ((Y.ext rfl rfl).yd) (Ey rfl ((Y.ext rfl rfl).yd) (Est rfl (N.alloc ty_Rule dc) (fun b24 _ => (Ei rfl (Est rfl (Ns [_, _, _] ty_Rule rfl) (fun _ _ => (Ev Z3 (Ey rfl (l8 (cs := [_, _, _]) ty_Rule rfl (Has.pt m0) rfl) (Est rfl (f5 R1 rfl rfl rfl dc (fun w Lp hA => ⟨i6, i6, hA.ro rb11⟩)) (fun _ _ => (Ei rfl (Ev Z9 (Em rfl (Em rfl (Est rfl (N.call (a3s a9U) rfl rfl rfl dc rfl (fun w Lp hA => ⟨hA.ro rb10, hA.rop htab, hA.rop hes, hA.rop her, hA.rop hmax⟩)) (fun k220 _ => ?_)))))))))))))))))
     obtain ⟨a220, m220, c220⟩ := k220
     refine d8 m0 fun e220 l220 => ?_
     subst e220
     refine Em rfl ?_
     obtain ⟨jp1, jp2, jp3⟩ := b1o (s := xs212) (t := x6 (rf212, rt212, rm212))
     refine Ey rfl ((Y.ext rfl rfl).yd) (Ey rfl ((Y.ext rfl rfl).yd) (Est rfl (N.alloc ty_Rule dc) (fun b26 _ => (Est rfl (Ns [_, _, _] ty_Rule rfl) (fun _ _ => (Ei rfl (Ev Z11 (Em rfl (Est rfl (N.call (a1K (by first | assumption | omega)) rfl rfl rfl dc rfl (fun w Lp hA => hA.ro hcode)) (fun k225 o225 => ?_))))))))))
     obtain ⟨xs225, rf225, rt225, rm225, ra225, vs225, ⟨a225_0, m225_0, c225_0⟩, ⟨a225_1, m225_1, c225_1⟩, ⟨a225_2, m225_2, c225_2⟩⟩ := k225
     replace o225 : (1 ≤ xs225.length ∧ xs225.length ≤ 3) ∧ ((-10 ≤ rf225 ∧ rf225 ≤ 10) ∧ (-10 ≤ rt225 ∧ rt225 ≤ 10) ∧ rm225.length ≤ 4) ∧ (-1 ≤ ra225 ∧ ra225 ≤ 10) ∧ 1 ≤ vs225.length ∧ vs225.length ≤ 4 := o225
     try (conv => arg 4; dsimp only)
     try (conv => arg 5; dsimp only [List.cons_append, List.nil_append, List.append_nil])
     have jr4 := o225.2.1
     have jr5 := o225.2.2.1
     have ji := b1A (s := xs225) (f := (ra225, vs225)) (r := (rf225, rt225, rm225)) (show I64 rt225 from by unfold I64; omega)
     refine d8 m0 fun e225_0 l225_0 => ?_
     subst e225_0
     refine d8 (mS m0) fun e225_1 l225_1 => ?_
     subst e225_1
     refine d8 (mS (mS m0)) fun e225_2 l225_2 => ?_
     subst e225_2
     refine C3 (A := [_]) rfl fun wb12 Lb12 hB12 hA12 => ?_
     have hcode := hA12.ro hcode
     have rb1 := hA12.ro rb1
     have rb2 := hA12.ro rb2
     have rb6 := hA12.ro rb6
     have rb7 := hA12.ro rb7
     have rb8 := hA12.ro rb8
     have rb9 := hA12.ro rb9
     have rb10 := hA12.ro rb10
     have rb11 := hA12.ro rb11
     have htab := hA12.rop htab
     have hes := hA12.rop hes
     have her := hA12.rop her
     have hmax := hA12.rop hmax
     have rb12 : Ro wb12 Lb12 eIs [.slice a225_0 (xs225).length c225_0] xs225 := hA12.ow m0
     refine C3 (A := [_]) rfl fun wb13 Lb13 hB13 hA13 => ?_
     have hcode := hA13.ro hcode
     have rb1 := hA13.ro rb1
     have rb2 := hA13.ro rb2
     have rb6 := hA13.ro rb6
     have rb7 := hA13.ro rb7
     have rb8 := hA13.ro rb8
     have rb9 := hA13.ro rb9
     have rb10 := hA13.ro rb10
     have rb11 := hA13.ro rb11
     have rb12 := hA13.ro rb12
     have htab := hA13.rop htab
     have hes := hA13.rop hes
     have her := hA13.rop her
     have hmax := hA13.rop hmax
     have rb13 : Ro wb13 Lb13 eIs [.slice a225_1 (rm225).length c225_1] rm225 := hA13.ow m0
     refine C3 (A := [_]) rfl fun wb14 Lb14 hB14 hA14 => ?_
     have hcode := hA14.ro hcode
     have rb1 := hA14.ro rb1
     have rb2 := hA14.ro rb2
     have rb6 := hA14.ro rb6
     have rb7 := hA14.ro rb7
     have rb8 := hA14.ro rb8
     have rb9 := hA14.ro rb9
     have rb10 := hA14.ro rb10
     have rb11 := hA14.ro rb11
     have rb12 := hA14.ro rb12
     have rb13 := hA14.ro rb13
     have htab := hA14.rop htab
     have hes := hA14.rop hes
     have her := hA14.rop her
     have hmax := hA14.rop hmax
     have rb14 : Ro wb14 Lb14 eIs [.slice a225_2 (vs225).length c225_2] vs225 := hA14.ow m0
     refine Em rfl (Ey rfl ((Y.ext rfl rfl).yd) (Ey rfl ((Y.ext rfl rfl).yd) (Ey rfl ((Y.ext rfl rfl).yd) (Est rfl (N.alloc ty_Rule dc) (fun b29 _ => (Est rfl (N.alloc ty_Fact dc) (fun b30 _ => (Ei rfl (d7 (Est rfl (Ns [_, _, _] ty_Rule rfl) (fun _ _ => (d7 (Est rfl (Ns [_, _] ty_Fact rfl) (fun _ _ => (Ev Z10 (Em rfl (Ey rfl (l8 (cs := [_, _, _]) ty_Rule rfl (Has.pt (mS m0)) rfl) (Ey rfl (l8 (cs := [_, _]) ty_Fact rfl (Has.pt m0) rfl) (Est rfl (N.call a3h rfl rfl rfl dc rfl (fun w Lp hA => ⟨hA.ro rb12, i6, i6, hA.ro rb13, i6, hA.ro rb14⟩)) (fun k233 _ => ?_))))))))))))))))))))
     obtain ⟨a233, m233, c233⟩ := k233
     refine d8 m0 fun e233 l233 => ?_
     subst e233
     refine Em rfl (Ey rfl ((Y.ext rfl rfl).yd) (Ey rfl ((Y.ext rfl rfl).yd) (Est rfl (N.alloc ty_Fact dc) (fun b31 _ => (Est rfl (Ns [_, _] ty_Fact rfl) (fun _ _ => (Ei rfl (Ev Z10 (Em rfl (Ey rfl (l8 (cs := [_, _, _]) ty_Rule rfl (Has.pt (mS (mS (mS m0)))) rfl) (Ey rfl (l8 (cs := [_, _]) ty_Fact rfl (Has.pt (mS (mS m0))) rfl) (Est rfl (N.call R6 rfl rfl rfl dc rfl (fun w Lp hA => ⟨hA.ro rb12, i6, i6, hA.ro rb13, i6, hA.ro rb14⟩)) (fun k240 _ => ?_)))))))))))))
     obtain ⟨a240, m240, c240⟩ := k240
     refine d8 m0 fun e240 l240 => ?_
     subst e240
     refine Em rfl (Ey rfl ((Y.ext rfl rfl).yd) (Ey rfl ((Y.ext rfl rfl).yd) (Est rfl (N.alloc ty_Fact dc) (fun b33 _ => (Est rfl (Ns [_, _] ty_Fact rfl) (fun _ _ => (Ei rfl (Ev Z52 (Em rfl (Em rfl (Ey rfl ((a1E kr rfl rfl).yd) (j8 (fun q245 => ?_) (fun q245 => ?_)))))))))))))
     ·refine Em rfl (Em rfl (Em rfl (Est rfl (f5 a3Q rfl rfl rfl dc (fun w Lp hA => ⟨hA.ow (mS (mS (mS (mS (mS (mS (mS (mS (mS (mS m0)))))))))), hA.ow (mS (mS (mS (mS (mS (mS (mS (mS (mS m0)))))))))⟩)) (fun _ _ => (r5 (fun q249 => ?_) (fun q249 => ?_))))))
      ·refine Ey rfl ((o0 rfl rfl).yd) (Em rfl (Em rfl (Ey rfl (l8 (cs := [_, _, _]) ty_Rule rfl (Has.pt (mS (mS (mS (mS (mS (mS (mS (mS m0))))))))) rfl) (Est rfl (f5 a2V rfl rfl rfl dc (fun w Lp hA => ⟨i6, i6, hA.ro rb11⟩)) (fun _ _ => (Ey rfl ((b0i rfl rfl).yd) (j8 (fun q255 => ?_) (fun q255 => ?_))))))))
       ·refine Ey rfl ((o0 rfl rfl).yd) (Em rfl (Em rfl (Em rfl (Ey rfl (l8 (cs := [_, _, _]) ty_Rule rfl (Has.pt (mS (mS (mS (mS (mS (mS (mS (mS m0))))))))) rfl) (Est rfl (f5 Z0 rfl rfl rfl dc (fun w Lp hA => ⟨hA.ro rb10, i6, i6, hA.ro rb11⟩)) (fun _ _ => (Ey rfl ((a1E kr rfl rfl).yd) (j8 (fun q262 => ?_) (fun q262 => ?_)))))))))
        ·refine Ey rfl ((o0 rfl rfl).yd) (Em rfl (Em rfl (r5 (fun q265 => ?_) (fun q265 => ?_))))
         ·refine Ey rfl ((Y.not (b := true) rfl).yd) (Em rfl (Ey rfl (l8 (cs := [_, _, _]) ty_Rule rfl (Has.pt (mS (mS (mS (mS (mS (mS m0))))))) rfl) (Est rfl (f5 R1 rfl rfl rfl dc (fun w Lp hA => ⟨i6, i6, hA.ow (mS (mS (mS (mS (mS (mS (mS m0)))))))⟩)) (fun _ _ => (Em rfl (Ey rfl ((b0i rfl rfl).yd) (j8 (fun q271 => ?_) (fun q271 => ?_))))))))
          ·refine Ey rfl ((o6 rfl rfl).yd) (Ey rfl ((o0 rfl rfl).yd) (Em rfl (Em rfl (Em rfl (Ey rfl ((a1E kr rfl rfl).yd) (j8 (fun q277 => ?_) (fun q277 => ?_)))))))
           ·refine Ey rfl ((o0 rfl rfl).yd) (Em rfl (Ey rfl (l8 (cs := [_, _]) ty_Fact rfl (Has.pt (mS (mS m0))) rfl) (Ey rfl (l8 (cs := [_, _]) ty_Fact rfl (Has.pt m0) rfl) (Est rfl (f5 B3 rfl rfl rfl dc (fun w Lp hA => ⟨i6, hA.ow (mS (mS (mS m0))), i6, hA.ow (mS m0)⟩)) (fun _ _ => (Ey rfl ((Y.eql rfl rfl).yd) (j8 (fun q283 => ?_) (fun q283 => ?_))))))))
            ·refine Ey rfl ((o0 rfl rfl).yd) (Em rfl (Em rfl (Em rfl (Est rfl (f5 U1 rfl rfl rfl dc (fun w Lp hA => ⟨hA.ro rb1, hA.ro rb2⟩)) (fun _ _ => (Em rfl (Em rfl (Est rfl (f5 H6 rfl rfl rfl dc (fun w Lp hA => ⟨hA.ro rb1, hA.ro rb2⟩)) (fun _ _ => (Ey rfl ((a1E kr rfl rfl).yd) (Ey rfl ((o0 rfl rfl).yd) (Ei rfl ?_))))))))))))
             exact Eu (E.ret (F.r1 ((((((((((((hB1.comp hB2).comp hB3).comp hB4).comp hB6).comp hB7).comp hB8).comp hB9).comp hB10).comp hB11).comp hB12).comp hB13).comp hB14) rfl rfl () trivial (congrArg Value.bool (by simp_all)) (J := _) (.refl _) (.inl rfl)))
            ·exact absurd (M7.2 rfl) q283
           ·exact absurd q277 (by simp)
          ·exact absurd (a4d.2 q265) (by have := q271; simpa using this)
         ·refine Ey rfl ((Y.not (b := false) rfl).yd) (Em rfl (Es rfl (Es rfl (Es rfl (Es rfl (Ey rfl ((o0 rfl rfl).yd) (Ey rfl ((o0 rfl rfl).yd) (Em rfl (Em rfl (Em rfl (Ey rfl ((a1E kr rfl rfl).yd) (j8 (fun q277 => ?_) (fun q277 => ?_)))))))))))))
          ·refine Ey rfl ((o0 rfl rfl).yd) (Em rfl (Ey rfl (l8 (cs := [_, _]) ty_Fact rfl (Has.pt (mS (mS m0))) rfl) (Ey rfl (l8 (cs := [_, _]) ty_Fact rfl (Has.pt m0) rfl) (Est rfl (f5 B3 rfl rfl rfl dc (fun w Lp hA => ⟨i6, hA.ow (mS (mS (mS m0))), i6, hA.ow (mS m0)⟩)) (fun _ _ => (Ey rfl ((Y.eql rfl rfl).yd) (j8 (fun q283 => ?_) (fun q283 => ?_))))))))
           ·refine Ey rfl ((o0 rfl rfl).yd) (Em rfl (Em rfl (Em rfl (Est rfl (f5 U1 rfl rfl rfl dc (fun w Lp hA => ⟨hA.ro rb1, hA.ro rb2⟩)) (fun _ _ => (Em rfl (Em rfl (Est rfl (f5 H6 rfl rfl rfl dc (fun w Lp hA => ⟨hA.ro rb1, hA.ro rb2⟩)) (fun _ _ => (Ey rfl ((a1E kr rfl rfl).yd) (Ey rfl ((o0 rfl rfl).yd) (Ei rfl ?_))))))))))))
            exact Eu (E.ret (F.r1 ((((((((((((hB1.comp hB2).comp hB3).comp hB4).comp hB6).comp hB7).comp hB8).comp hB9).comp hB10).comp hB11).comp hB12).comp hB13).comp hB14) rfl rfl () trivial (congrArg Value.bool (by simp_all)) (J := _) (.refl _) (.inl rfl)))
           ·exact absurd (M7.2 rfl) q283
          ·exact absurd q277 (by simp)
        ·exact absurd (a4d).1 (by have := q262; simpa using this)
       ·exact absurd q255 (by simp)
      ·exact absurd q249 (by simp)
     ·exact absurd q245 (by simp)
   ·exact absurd q64 (by simp)
  ·exact absurd q53 (by simp)
end Go.Proofs.YtfnbilpemdgkkaaGreatDoor
