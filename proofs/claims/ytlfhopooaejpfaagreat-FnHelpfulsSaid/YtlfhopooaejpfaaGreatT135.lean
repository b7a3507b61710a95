import Derived.Test.YtlfhopooaejpfaaGreatBg
import Derived.Test.YtlfhopooaejpfaaGreatT133
import Derived.Test.YtlfhopooaejpfaaGreatT134
section
namespace Go.Proofs.YtlfhopooaejpfaaGreat
open Go.RowKit Go.ChangeShapes Go.WideShapes Go.ChangeAt
theorem a0G.u8 {P : Program} {t : TypeId} (ht : P.underlying t = some (.int .u8)) : a0G P Enc.u8 t := fun h => by
  obtain ⟨n, rfl, _, hw⟩ := DataW.trod_int ht h
  have hr : 0 ≤ n ∧ n ≤ 255 := by simpa [Lit.wf, IntKind.min, IntKind.max, IntKind.signed, IntKind.bits] using hw
  refine ⟨UInt8.ofNat n.toNat, [], ?_, rfl⟩
  have : (UInt8.ofNat n.toNat).toNat = n.toNat := by rw [UInt8.toNat_ofNat']; omega
  rw [this, Int.toNat_of_nonneg hr.1]
theorem op_U8s : a0G Tryz.prog a0W 22 := a0G.sl us_U8s (by kernel_rfl) (a0G.u8 (by kernel_rfl))
end Go.Proofs.YtlfhopooaejpfaaGreat
end
section
namespace Go.Proofs.YtlfhopooaejpfaaGreat
open Go.RowKit
set_option linter.all false
set_option maxHeartbeats 2000000
attribute [local irreducible] Nop Yd Yp Ent Has Tr FnP FnP2 Src o6 d7 O0 a0h H2
theorem a8s {a_code : Option Addr} {m_code c_code : Nat} {code : List UInt8} : Tr Tryz.prog 4 [.slice a_code m_code c_code] (fun w L => Ro w L a0W [.slice a_code m_code c_code] code) [] (κ := Unit) (fun k => True) (fun k => .bool (true)) (fun k => []) := by
 refine Tr.intro Tryz.func4 rfl (n := 141) rfl (by decide +kernel) bl (fr := [(0, .slice a_code m_code c_code)]) rfl fun w L hR => ?_
 have hcode := hR
 obtain ⟨rfl, lcode⟩ := hcode.slen
 refine Ew Z1 (Ei rfl (Eu (Eq_ (Ew Z2 (Em rfl (Est rfl (o4 u5 rfl rfl rfl dc (fun w Lp hA => hA.ro hcode)) (fun _ _ => (Ent.b (fun q23 => ?_) (fun q23 => ?_)))))))))
 ·refine Eu (o0 rfl (Ew Z1 (Ei rfl ?_)))
  exact Eu (E.ret (s9 (Fg rfl rfl () rfl rfl)))
 ·have hcl : code.length ≤ 1048576 := by have := of_decide_eq_false q23; omega
  refine Eu (n8 rfl (f9 (Et (Ew Z12 (Em rfl (Est rfl (N.call (a4Y (by first | assumption | omega)) rfl rfl rfl dc rfl (fun w Lp hA => hA.ro hcode)) (fun k26 o26 => ?_)))))))
  obtain ⟨xs26, ms26, rl26, hq26, aq26, ⟨a26_0, m26_0, c26_0⟩, ⟨a26_1, m26_1, c26_1⟩, ⟨a26_2, m26_2, c26_2⟩, ⟨a26_3, m26_3, c26_3⟩, ⟨a26_4, m26_4, c26_4⟩⟩ := k26
  replace o26 : (1 ≤ xs26.length ∧ xs26.length ≤ 4) ∧ (ms26.length ≤ 5 ∧ ∀ m ∈ ms26, m.2.1.length ≤ 4) ∧ (rl26.length ≤ 4 ∧ ∀ r ∈ rl26, r.2.2.length ≤ 4) ∧ sQ hq26 aq26 := o26
  try (conv => arg 4; dsimp only)
  try (conv => arg 5; dsimp only [List.cons_append, List.nil_append, List.append_nil])
  have jt := a9Q o26.2.2.2
  have jrt := b9Y o26.2.2.1
  have jw := c0c (s := xs26) (l := ms26) (d4 := rl26) (q := (hq26, aq26))
  have jr4 := o26.2.2.1.1
  refine d6 m0 fun e26_0 l26_0 => ?_
  subst e26_0
  refine d6 (mS m0) fun e26_1 l26_1 => ?_
  subst e26_1
  refine d6 (mS (mS m0)) fun e26_2 l26_2 => ?_
  subst e26_2
  refine d6 (mS (mS (mS m0))) fun e26_3 l26_3 => ?_
  subst e26_3
  refine d6 (mS (mS (mS (mS m0)))) fun e26_4 l26_4 => ?_
  subst e26_4
  refine H7 (A := [_]) rfl fun wb1 Lb1 hB1 hA1 => ?_
  have hcode := hA1.ro hcode
  have rb1 : Ro wb1 Lb1 eIs [.slice a26_0 (xs26).length c26_0] xs26 := hA1.ow m0
  refine H7 (A := [_]) rfl fun wb2 Lb2 hB2 hA2 => ?_
  have hcode := hA2.ro hcode
  have rb1 := hA2.ro rb1
  have rb2 : Ro wb2 Lb2 I4 [.slice a26_1 (ms26).length c26_1] ms26 := hA2.ow m0
  refine H7 (A := [_]) rfl fun wb3 Lb3 hB3 hA3 => ?_
  have hcode := hA3.ro hcode
  have rb1 := hA3.ro rb1
  have rb2 := hA3.ro rb2
  have rb3 : Ro wb3 Lb3 G9 [.slice a26_2 (rl26).length c26_2] rl26 := hA3.ow m0
  refine H7 (A := [_]) rfl fun wb4 Lb4 hB4 hA4 => ?_
  have hcode := hA4.ro hcode
  have rb1 := hA4.ro rb1
  have rb2 := hA4.ro rb2
  have rb3 := hA4.ro rb3
  have rb4 : Ro wb4 Lb4 eIs [.slice a26_3 (hq26).length c26_3] hq26 := hA4.ow m0
  refine H7 (A := [_]) rfl fun wb5 Lb5 hB5 hA5 => ?_
  have hcode := hA5.ro hcode
  have rb1 := hA5.ro rb1
  have rb2 := hA5.ro rb2
  have rb3 := hA5.ro rb3
  have rb4 := hA5.ro rb4
  have rb5 : Ro wb5 Lb5 H9 [.slice a26_4 (aq26).length c26_4] aq26 := hA5.ow m0
  refine Em rfl (Ey rfl ((Y.ext rfl rfl).yd) (Ey rfl ((Y.ext rfl rfl).yd) (Ey rfl ((Y.ext rfl rfl).yd) (Ey rfl ((Y.ext rfl rfl).yd) (Est rfl (N.alloc ty_Query dc) (fun b6 _ => (Ei rfl (Ei rfl (Ei rfl (Est rfl (Ns [_, _] ty_Query rfl) (fun _ _ => (Ev Z10 (Em rfl (Em rfl (Em rfl (Ey rfl (r9 (cs := [_, _]) ty_Query rfl (Has.pt m0) rfl) (Est rfl (N.call (a7a (by first | assumption | omega)) rfl rfl rfl dc rfl (fun w Lp hA => ⟨hA.ro rb1, hA.ro rb2, hA.ro rb3, hA.ro rb4, hA.ro rb5⟩)) (fun k36 _ => ?_))))))))))))))))))
  obtain ⟨a36, m36, c36⟩ := k36
  refine d6 m0 fun e36 l36 => ?_
  subst e36
  refine Em rfl (Ey rfl ((Y.ext rfl rfl).yd) (Ey rfl ((Y.ext rfl rfl).yd) (Ei rfl (Ei rfl (Ev Z10 (Em rfl (Em rfl (Em rfl (Ey rfl (r9 (cs := [_, _]) ty_Query rfl (Has.pt (mS m0)) rfl) (Est rfl (N.call (a7d (by first | assumption | omega)) rfl rfl rfl dc rfl (fun w Lp hA => ⟨hA.ro rb1, hA.ro rb2, hA.ro rb3, hA.ro rb4, hA.ro rb5⟩)) (fun k44 _ => ?_)))))))))))
  obtain ⟨a44, m44, c44⟩ := k44
  refine d6 m0 fun e44 l44 => ?_
  subst e44
  refine H7 (A := [_]) rfl fun wb6 Lb6 hB6 hA6 => ?_
  have hcode := hA6.ro hcode
  have rb1 := hA6.ro rb1
  have rb2 := hA6.ro rb2
  have rb3 := hA6.ro rb3
  have rb4 := hA6.ro rb4
  have rb5 := hA6.ro rb5
  have rb6 : Ro wb6 Lb6 eIs [.slice a44 (W8 xs26 ms26 rl26 (hq26, aq26)).length c44] (W8 xs26 ms26 rl26 (hq26, aq26)) := hA6.ow m0
  refine Em rfl (Ey rfl ((Y.ext rfl rfl).yd) (Ey rfl ((Y.ext rfl rfl).yd) (Ei rfl (Ei rfl (Eu (Eq_ (a3V (κ := Unit) (fun _ => True) (fun kM => [(0, .slice a_code code.length c_code), (3, .slice a26_0 (xs26).length c26_0), (4, .slice a26_1 (ms26).length c26_1), (5, .slice a26_2 (rl26).length c26_2), (6, .pointer (some ⟨b6, 0, none⟩)), (8, .bool (a1u xs26 ms26 rl26 (hq26, aq26))), (9, .slice a44 (W8 xs26 ms26 rl26 (hq26, aq26)).length c44)]) (fun kM => [pt b6 28 [.slice a26_3 (hq26).length c26_3, .slice a26_4 (aq26).length c26_4]]) ?_ (fun kM _ => ?_))))))))
  ·refine Ew Z28 (Em rfl (Em rfl (Ey rfl ((b3K kr rfl rfl).yd) (n9 (fun q49 => ?_) (fun q49 => ?_)))))
   ·exact absurd rfl q49
   ·refine Em rfl (Em rfl (Em rfl (Est rfl (o4 s5 rfl rfl rfl dc (fun w Lp hA => ⟨hA.ow m0, hA.ro rb6⟩)) (fun _ _ => (Ent.b (fun q53 => ?_) (fun q53 => ?_))))))
    ·refine Ey rfl ((Y.not (b := true) rfl).yd) (Ey rfl ((z7 rfl rfl).yd) (Em rfl (Em rfl (Em rfl (Est rfl (o4 a4i rfl rfl rfl dc (fun w Lp hA => ⟨hA.ro rb1, hA.ro rb2⟩)) (fun _ _ => (Ent.b (fun q59 => ?_) (fun q59 => ?_))))))))
     ·refine Em rfl (Em rfl (Em rfl (Est rfl (o4 a5n rfl rfl rfl dc (fun w Lp hA => ⟨hA.ro rb1, hA.ro rb3⟩)) (fun _ _ => (Ent.b (fun q63 => ?_) (fun q63 => ?_))))))
      ·refine Ey rfl ((x6 rfl rfl).yd) (Em rfl (Em rfl (Em rfl (Em rfl (Em rfl (Ey rfl (r9 (cs := [_, _]) ty_Query rfl (Has.pt (mS m0)) rfl) (Est rfl (o4 (a0Y (by first | assumption | omega)) rfl rfl rfl dc (fun w Lp hA => ⟨hA.ro rb1, hA.ro rb2, hA.ro rb3, hA.ro rb4, hA.ro rb5⟩)) (fun _ _ => (Ey rfl ((b3K kr rfl rfl).yd) (n9 (fun q72 => ?_) (fun q72 => ?_)))))))))))
       ·exact absurd (b7J q59 q63) q72
       ·refine Ey rfl ((x6 rfl rfl).yd) (Ey rfl ((z7 rfl rfl).yd) (Eu (n8 rfl (f9 (Ent.drop ?_)))))
        exact S4 () trivial ⟨rfl, rfl, rfl, rfl, rfl, rfl, rfl, trivial⟩ (.refl _)
      ·refine Ey rfl ((x6 rfl rfl).yd) (Em rfl (Es rfl (Es rfl (Es rfl (Es rfl (Es rfl (Es rfl (Es rfl (Ey rfl ((z7 rfl rfl).yd) (Ey rfl ((z7 rfl rfl).yd) (Eu (n8 rfl (f9 (Ent.drop ?_))))))))))))))
       exact S4 () trivial ⟨rfl, rfl, rfl, rfl, rfl, rfl, rfl, trivial⟩ (.refl _)
     ·refine Em rfl (Es rfl (Es rfl (Es rfl (Ey rfl ((z7 rfl rfl).yd) (Em rfl (Es rfl (Es rfl (Es rfl (Es rfl (Es rfl (Es rfl (Es rfl (Ey rfl ((z7 rfl rfl).yd) (Ey rfl ((z7 rfl rfl).yd) ?_))))))))))))))
      refine Eu (n8 rfl (f9 (Ent.drop ?_)))
      exact S4 () trivial ⟨rfl, rfl, rfl, rfl, rfl, rfl, rfl, trivial⟩ (.refl _)
    ·exact absurd q53 (by simp)
  ·show Ent _ _ _ [(0, .slice a_code code.length c_code), (3, .slice a26_0 (xs26).length c26_0), (4, .slice a26_1 (ms26).length c26_1), (5, .slice a26_2 (rl26).length c26_2), (6, .pointer (some ⟨b6, 0, none⟩)), (8, .bool (a1u xs26 ms26 rl26 (hq26, aq26))), (9, .slice a44 (W8 xs26 ms26 rl26 (hq26, aq26)).length c44)] [pt b6 28 [.slice a26_3 (hq26).length c26_3, .slice a26_4 (aq26).length c26_4]] _
   refine Et (Eq_ (Ew Z1 (Ei rfl (Eu (E.block (E.loop (κ := Nat) (fun g => g ≤ ((W8 xs26 ms26 rl26 (hq26, aq26)).length + 1) ∧ True) (fun g => [(0, .slice a_code code.length c_code), (3, .slice a26_0 (xs26).length c26_0), (4, .slice a26_1 (ms26).length c26_1), (5, .slice a26_2 (rl26).length c26_2), (6, .pointer (some ⟨b6, 0, none⟩)), (8, .bool (a1u xs26 ms26 rl26 (hq26, aq26))), (9, .slice a44 (W8 xs26 ms26 rl26 (hq26, aq26)).length c44), (11, .int .i64 ((g : Int) - 1))]) (fun g => [pt b6 28 [.slice a26_3 (hq26).length c26_3, .slice a26_4 (aq26).length c26_4]]) (fun g => ((W8 xs26 ms26 rl26 (hq26, aq26)).length + 1) - g) (0) ⟨Nat.zero_le _, by simp⟩ ⟨rfl, rfl, rfl, rfl, rfl, rfl, rfl, frI (by first | rfl | omega | simp), trivial⟩ (.refl _) (fun g pg => ?_)))))))
   try dsimp only
   obtain ⟨pk, pa⟩ := pg
   refine Eq_ (Ew Z7 (Em rfl (Em rfl (Ey rfl ((Y.len us_Is rfl).yd) (Ey rfl ((Y.lss rfl rfl).yd) (n9 (fun q78 => ?_) (fun q78 => ?_)))))))
   ·refine Em rfl (Em rfl (Ent.b (fun q80 => ?_) (fun q80 => ?_)))
    ·refine Ey rfl ((x6 rfl rfl).yd) (Eu (o0 rfl (f9 (Et (Eq_ (E.block (Ew Z1 (Ei rfl (Eu (Eq_ (Ew Z1 (Ei rfl (Eu (E.block (E.loop (κ := Nat) (fun k => k ≤ (W8 xs26 ms26 rl26 (hq26, aq26)).length ∧ True) (fun k => [(0, .slice a_code code.length c_code), (3, .slice a26_0 (xs26).length c26_0), (4, .slice a26_1 (ms26).length c26_1), (5, .slice a26_2 (rl26).length c26_2), (6, .pointer (some ⟨b6, 0, none⟩)), (8, .bool (a1u xs26 ms26 rl26 (hq26, aq26))), (9, .slice a44 (W8 xs26 ms26 rl26 (hq26, aq26)).length c44), (11, .int .i64 ((g : Int) - 1)), (12, .int .i64 (mkM (skp (W8 xs26 ms26 rl26 (hq26, aq26)) ((g : Int) - 1) k))), (13, .int .i64 (k : Int))]) (fun k => [pt b6 28 [.slice a26_3 (hq26).length c26_3, .slice a26_4 (aq26).length c26_4]]) (fun k => (W8 xs26 ms26 rl26 (hq26, aq26)).length - k) (0) ⟨Nat.zero_le _, by simp⟩ ⟨rfl, rfl, rfl, rfl, rfl, rfl, rfl, rfl, frI (by rfl), rfl, trivial⟩ (.refl _) (fun k pk => ?_))))))))))))))))
     try dsimp only
     obtain ⟨pk, pa⟩ := pk
     refine Eq_ (Ew Z4 (Em rfl (Em rfl (Ey rfl ((Y.len us_Is rfl).yd) (Ey rfl ((Y.lss rfl rfl).yd) (n9 (fun q87 => ?_) (fun q87 => ?_)))))))
     ·have jwk := jw.2 _ (List.getElem_mem (show k < (W8 xs26 ms26 rl26 (hq26, aq26)).length by omega))
      refine Eu (o0 rfl (f9 (Et (Eq_ (E.block (Ew Z3 (Em rfl (Em rfl (Ey rfl ((Y.neq rfl rfl).yd) (n9 (fun q92 => ?_) (fun q92 => ?_)))))))))))
      ·refine Eu (o0 rfl (Ez Z8 (Em rfl (Em rfl (Em rfl ?_)))))
       obtain ⟨eb96, eo96, ea96, ei96, eh96⟩ := rb6.elemI k om
       refine Ey rfl ((w3 us_Is f5 rfl ea96 rfl k rfl om).yd) (Ey rfl (g9 f5 rfl (eh96 _) rfl) (Ey rfl ((c0J rfl rfl om om).yd) (Ey rfl ((c1w rfl rfl).yd) (Ei rfl (En (s8 (Et (Ez Z3 (Em rfl (Ey rfl ((Y.add rfl rfl om om).yd) (Ei rfl ?_)))))))))))
       exact Eu (B0 br (k + 1) ⟨rfl, rfl, rfl, rfl, rfl, rfl, rfl, rfl, frI (by first | exact b5M q92 om | exact b5U om), rfl, trivial⟩ (.refl _) ⟨oz, trivial⟩ oz)
      ·refine Eu (n8 rfl (f9 (s8 (Et (Ez Z3 (Em rfl (Ey rfl ((Y.add rfl rfl om om).yd) (Ei rfl ?_))))))))
       exact Eu (B0 br (k + 1) ⟨rfl, rfl, rfl, rfl, rfl, rfl, rfl, rfl, frI (by first | exact b5M q92 om | exact b5U om), rfl, trivial⟩ (.refl _) ⟨oz, trivial⟩ oz)
     ·refine Eu (n8 rfl (E.exit (l3 (l3 (y4 (Et (Eq_ (D.region (fun j => true) mixed (Dyp 0 rfl (k6 rfl) (Dyp 1 rfl (k6 rfl) (Dyp 2 rfl (k6 rfl) (Dyp 3 rfl (k6 rfl) (Dy 5 rfl (r9 (cs := [_, _]) ty_Query rfl (Has.pt m0) rfl) (Dyp 7 rfl (k6 rfl) (Dyp 8 rfl (Y.lss rfl rfl) (u7 4 rfl rfl kr (fun _ => rfl) (N.call (a7A (by first | assumption | omega)) rfl rfl rfl dc rfl (fun w Lp hA => hA.ro rb3)) (fun k104 _ => ?_)))))))))))))))))
      obtain ⟨a104, m104, c104⟩ := k104
      refine d6 m0 fun e104 l104 => ?_
      subst e104
      refine u7 6 rfl rfl kr (fun _ => rfl) (o4 (V2 (by first | assumption | omega)) rfl rfl rfl dc (fun w Lp hA => ⟨hA.ro rb1, hA.ro rb2, hA.ow m0, hA.ro rb4, hA.ro rb5⟩)) (fun _ _ => (Dyp 9 rfl (b3K kr rfl rfl) (n9 (fun q109 => ?_) (fun q109 => ?_))))
      ·exact absurd (by rw [show k = (W8 xs26 ms26 rl26 (hq26, aq26)).length from by omega]; exact b9Z q80 om om) q109
      ·refine t6 kr (Et (n8 rfl (f9 (s8 (Et (Ez Z3 (Em rfl (Ey rfl ((Y.add rfl rfl om om).yd) (Ei rfl (Eu (Ent.drop ?_)))))))))))
       exact B0 br (g + 1) ⟨rfl, rfl, rfl, rfl, rfl, rfl, rfl, frI om, trivial⟩ (.refl _) ⟨oz, trivial⟩ oz
    ·refine Ey rfl ((x6 rfl rfl).yd) (Eu (n8 rfl (E.exit (l3 (l3 (y4 (Et (Ew Z12 (Em rfl (Est rfl (N.call (a1T (by first | assumption | omega)) rfl rfl rfl dc rfl (fun w Lp hA => hA.ro hcode)) (fun k112 o112 => ?_)))))))))))
     obtain ⟨xs112, ms112, rl112, hq112, aq112, ⟨a112_0, m112_0, c112_0⟩, ⟨a112_1, m112_1, c112_1⟩, ⟨a112_2, m112_2, c112_2⟩, ⟨a112_3, m112_3, c112_3⟩, ⟨a112_4, m112_4, c112_4⟩⟩ := k112
     replace o112 : (1 ≤ xs112.length ∧ xs112.length ≤ 4) ∧ (ms112.length ≤ 5 ∧ ∀ m ∈ ms112, m.2.1.length ≤ 4) ∧ (rl112.length ≤ 4 ∧ ∀ r ∈ rl112, r.2.2.length ≤ 4) ∧ sQ hq112 aq112 := o112
     try (conv => arg 4; dsimp only)
     try (conv => arg 5; dsimp only [List.cons_append, List.nil_append, List.append_nil])
     have jt2 := a9Q o112.2.2.2
     refine d6 m0 fun e112_0 l112_0 => ?_
     subst e112_0
     refine d6 (mS m0) fun e112_1 l112_1 => ?_
     subst e112_1
     refine d6 (mS (mS m0)) fun e112_2 l112_2 => ?_
     subst e112_2
     refine d6 (mS (mS (mS m0))) fun e112_3 l112_3 => ?_
     subst e112_3
     refine d6 (mS (mS (mS (mS m0)))) fun e112_4 l112_4 => ?_
     subst e112_4
     refine H7 (A := [_]) rfl fun wb7 Lb7 hB7 hA7 => ?_
     have hcode := hA7.ro hcode
     have rb1 := hA7.ro rb1
     have rb2 := hA7.ro rb2
     have rb3 := hA7.ro rb3
     have rb6 := hA7.ro rb6
     have rb4 := hA7.ro rb4
     have rb5 := hA7.ro rb5
     have rb7 : Ro wb7 Lb7 eIs [.slice a112_0 (xs112).length c112_0] xs112 := hA7.ow m0
     refine H7 (A := [_]) rfl fun wb8 Lb8 hB8 hA8 => ?_
     have hcode := hA8.ro hcode
     have rb1 := hA8.ro rb1
     have rb2 := hA8.ro rb2
     have rb3 := hA8.ro rb3
     have rb6 := hA8.ro rb6
     have rb7 := hA8.ro rb7
     have rb4 := hA8.ro rb4
     have rb5 := hA8.ro rb5
     have rb8 : Ro wb8 Lb8 I4 [.slice a112_1 (ms112).length c112_1] ms112 := hA8.ow m0
     refine H7 (A := [_]) rfl fun wb9 Lb9 hB9 hA9 => ?_
     have hcode := hA9.ro hcode
     have rb1 := hA9.ro rb1
     have rb2 := hA9.ro rb2
     have rb3 := hA9.ro rb3
     have rb6 := hA9.ro rb6
     have rb7 := hA9.ro rb7
     have rb8 := hA9.ro rb8
     have rb4 := hA9.ro rb4
     have rb5 := hA9.ro rb5
     have rb9 : Ro wb9 Lb9 G9 [.slice a112_2 (rl112).length c112_2] rl112 := hA9.ow m0
     refine H7 (A := [_]) rfl fun wb10 Lb10 hB10 hA10 => ?_
     have hcode := hA10.ro hcode
     have rb1 := hA10.ro rb1
     have rb2 := hA10.ro rb2
     have rb3 := hA10.ro rb3
     have rb6 := hA10.ro rb6
     have rb7 := hA10.ro rb7
     have rb8 := hA10.ro rb8
     have rb9 := hA10.ro rb9
     have rb4 := hA10.ro rb4
     have rb5 := hA10.ro rb5
     have rb10 : Ro wb10 Lb10 eIs [.slice a112_3 (hq112).length c112_3] hq112 := hA10.ow m0
     refine H7 (A := [_]) rfl fun wb11 Lb11 hB11 hA11 => ?_
     have hcode := hA11.ro hcode
     have rb1 := hA11.ro rb1
     have rb2 := hA11.ro rb2
     have rb3 := hA11.ro rb3
     have rb6 := hA11.ro rb6
     have rb7 := hA11.ro rb7
     have rb8 := hA11.ro rb8
     have rb9 := hA11.ro rb9
     have rb10 := hA11.ro rb10
     have rb4 := hA11.ro rb4
     have rb5 := hA11.ro rb5
     have rb11 : Ro wb11 Lb11 H9 [.slice a112_4 (aq112).length c112_4] aq112 := hA11.ow m0
     refine Em rfl (Ey rfl ((Y.ext rfl rfl).yd) (Ey rfl ((Y.ext rfl rfl).yd) (Ey rfl ((Y.ext rfl rfl).yd) (Ey rfl ((Y.ext rfl rfl).yd) (Est rfl (N.alloc ty_Query dc) (fun b17 _ => (Ei rfl (Ei rfl (Ei rfl (Est rfl (Ns [_, _] ty_Query rfl) (fun _ _ => (Ev Z10 (Em rfl (Em rfl (Em rfl (Ey rfl (r9 (cs := [_, _]) ty_Query rfl (Has.pt m0) rfl) (Est rfl (N.call (a2T (by first | assumption | omega)) rfl rfl rfl dc rfl (fun w Lp hA => ⟨hA.ro rb7, hA.ro rb8, hA.ro rb9, hA.ro rb10, hA.ro rb11⟩)) (fun k122 _ => ?_))))))))))))))))))
     obtain ⟨a122, m122, c122⟩ := k122
     refine d6 m0 fun e122 l122 => ?_
     subst e122
     refine Em rfl (Ey rfl ((Y.ext rfl rfl).yd) (Ey rfl ((Y.ext rfl rfl).yd) (Ei rfl (Ei rfl (Ev Z10 (Em rfl (Em rfl (Em rfl (Ey rfl (r9 (cs := [_, _]) ty_Query rfl (Has.pt (mS m0)) rfl) (Est rfl (N.call (a2U (by first | assumption | omega)) rfl rfl rfl dc rfl (fun w Lp hA => ⟨hA.ro rb7, hA.ro rb8, hA.ro rb9, hA.ro rb10, hA.ro rb11⟩)) (fun k130 _ => ?_)))))))))))
     obtain ⟨a130, m130, c130⟩ := k130
     refine d6 m0 fun e130 l130 => ?_
     subst e130
     refine Em rfl (Ey rfl ((Y.ext rfl rfl).yd) (Ey rfl ((Y.ext rfl rfl).yd) (Ei rfl (Ei rfl (Ev Z9 (Em rfl (Em rfl (Ey rfl ((b6Z kr rfl rfl).yd) (n9 (fun q135 => ?_) (fun q135 => ?_))))))))))
     ·refine Em rfl (Em rfl (Em rfl (Est rfl (o4 s5 rfl rfl rfl dc (fun w Lp hA => ⟨hA.ow (mS m0), hA.ow m0⟩)) (fun _ _ => (Ey rfl ((x6 rfl rfl).yd) (Ei rfl ?_))))))
      exact Eu (E.ret (F.r1 ((((((((((hB1.comp hB2).comp hB3).comp hB4).comp hB5).comp hB6).comp hB7).comp hB8).comp hB9).comp hB10).comp hB11) rfl rfl () trivial (congrArg Value.bool (by simp_all)) (J := _) (.refl _) (.inl rfl)))
     ·exact absurd q135 (by simp)
   ·refine Em rfl (Es rfl (Ey rfl ((z7 rfl rfl).yd) (Eu (n8 rfl (E.exit (l3 (l3 (y4 (Et (Ew Z12 (Em rfl (Est rfl (N.call (a1T (by first | assumption | omega)) rfl rfl rfl dc rfl (fun w Lp hA => hA.ro hcode)) (fun k112 o112 => ?_)))))))))))))
    obtain ⟨xs112, ms112, rl112, hq112, aq112, ⟨a112_0, m112_0, c112_0⟩, ⟨a112_1, m112_1, c112_1⟩, ⟨a112_2, m112_2, c112_2⟩, ⟨a112_3, m112_3, c112_3⟩, ⟨a112_4, m112_4, c112_4⟩⟩ := k112
    replace o112 : (1 ≤ xs112.length ∧ xs112.length ≤ 4) ∧ (ms112.length ≤ 5 ∧ ∀ m ∈ ms112, m.2.1.length ≤ 4) ∧ (rl112.length ≤ 4 ∧ ∀ r ∈ rl112, r.2.2.length ≤ 4) ∧ sQ hq112 aq112 := o112
    try (conv => arg 4; dsimp only)
    try (conv => arg 5; dsimp only [List.cons_append, List.nil_append, List.append_nil])
    have jt2 := a9Q o112.2.2.2
    refine d6 m0 fun e112_0 l112_0 => ?_
    subst e112_0
    refine d6 (mS m0) fun e112_1 l112_1 => ?_
    subst e112_1
    refine d6 (mS (mS m0)) fun e112_2 l112_2 => ?_
    subst e112_2
    refine d6 (mS (mS (mS m0))) fun e112_3 l112_3 => ?_
    subst e112_3
    refine d6 (mS (mS (mS (mS m0)))) fun e112_4 l112_4 => ?_
    subst e112_4
    refine H7 (A := [_]) rfl fun wb12 Lb12 hB12 hA12 => ?_
    have hcode := hA12.ro hcode
    have rb1 := hA12.ro rb1
    have rb2 := hA12.ro rb2
    have rb3 := hA12.ro rb3
    have rb6 := hA12.ro rb6
    have rb4 := hA12.ro rb4
    have rb5 := hA12.ro rb5
    have rb12 : Ro wb12 Lb12 eIs [.slice a112_0 (xs112).length c112_0] xs112 := hA12.ow m0
    refine H7 (A := [_]) rfl fun wb13 Lb13 hB13 hA13 => ?_
    have hcode := hA13.ro hcode
    have rb1 := hA13.ro rb1
    have rb2 := hA13.ro rb2
    have rb3 := hA13.ro rb3
    have rb6 := hA13.ro rb6
    have rb12 := hA13.ro rb12
    have rb4 := hA13.ro rb4
    have rb5 := hA13.ro rb5
    have rb13 : Ro wb13 Lb13 I4 [.slice a112_1 (ms112).length c112_1] ms112 := hA13.ow m0
    refine H7 (A := [_]) rfl fun wb14 Lb14 hB14 hA14 => ?_
    have hcode := hA14.ro hcode
    have rb1 := hA14.ro rb1
    have rb2 := hA14.ro rb2
    have rb3 := hA14.ro rb3
    have rb6 := hA14.ro rb6
    have rb12 := hA14.ro rb12
    have rb13 := hA14.ro rb13
    have rb4 := hA14.ro rb4
    have rb5 := hA14.ro rb5
    have rb14 : Ro wb14 Lb14 G9 [.slice a112_2 (rl112).length c112_2] rl112 := hA14.ow m0
    refine H7 (A := [_]) rfl fun wb15 Lb15 hB15 hA15 => ?_
    have hcode := hA15.ro hcode
    have rb1 := hA15.ro rb1
    have rb2 := hA15.ro rb2
    have rb3 := hA15.ro rb3
    have rb6 := hA15.ro rb6
    have rb12 := hA15.ro rb12
    have rb13 := hA15.ro rb13
    have rb14 := hA15.ro rb14
    have rb4 := hA15.ro rb4
    have rb5 := hA15.ro rb5
    have rb15 : Ro wb15 Lb15 eIs [.slice a112_3 (hq112).length c112_3] hq112 := hA15.ow m0
    refine H7 (A := [_]) rfl fun wb16 Lb16 hB16 hA16 => ?_
    have hcode := hA16.ro hcode
    have rb1 := hA16.ro rb1
    have rb2 := hA16.ro rb2
    have rb3 := hA16.ro rb3
    have rb6 := hA16.ro rb6
    have rb12 := hA16.ro rb12
    have rb13 := hA16.ro rb13
    have rb14 := hA16.ro rb14
    have rb15 := hA16.ro rb15
    have rb4 := hA16.ro rb4
    have rb5 := hA16.ro rb5
    have rb16 : Ro wb16 Lb16 H9 [.slice a112_4 (aq112).length c112_4] aq112 := hA16.ow m0
    refine Em rfl (Ey rfl ((Y.ext rfl rfl).yd) (Ey rfl ((Y.ext rfl rfl).yd) (Ey rfl ((Y.ext rfl rfl).yd) (Ey rfl ((Y.ext rfl rfl).yd) (Est rfl (N.alloc ty_Query dc) (fun b17 _ => (Ei rfl (Ei rfl (Ei rfl (Est rfl (Ns [_, _] ty_Query rfl) (fun _ _ => (Ev Z10 (Em rfl (Em rfl (Em rfl (Ey rfl (r9 (cs := [_, _]) ty_Query rfl (Has.pt m0) rfl) (Est rfl (N.call (a2T (by first | assumption | omega)) rfl rfl rfl dc rfl (fun w Lp hA => ⟨hA.ro rb12, hA.ro rb13, hA.ro rb14, hA.ro rb15, hA.ro rb16⟩)) (fun k122 _ => ?_))))))))))))))))))
    obtain ⟨a122, m122, c122⟩ := k122
    refine d6 m0 fun e122 l122 => ?_
    subst e122
    refine Em rfl (Ey rfl ((Y.ext rfl rfl).yd) (Ey rfl ((Y.ext rfl rfl).yd) (Ei rfl (Ei rfl (Ev Z10 (Em rfl (Em rfl (Em rfl (Ey rfl (r9 (cs := [_, _]) ty_Query rfl (Has.pt (mS m0)) rfl) (Est rfl (N.call (a2U (by first | assumption | omega)) rfl rfl rfl dc rfl (fun w Lp hA => ⟨hA.ro rb12, hA.ro rb13, hA.ro rb14, hA.ro rb15, hA.ro rb16⟩)) (fun k130 _ => ?_)))))))))))
    obtain ⟨a130, m130, c130⟩ := k130
    refine d6 m0 fun e130 l130 => ?_
    subst e130
    refine Em rfl (Ey rfl ((Y.ext rfl rfl).yd) (Ey rfl ((Y.ext rfl rfl).yd) (Ei rfl (Ei rfl (Ev Z9 (Em rfl (Em rfl (Ey rfl ((b6Z kr rfl rfl).yd) (n9 (fun q135 => ?_) (fun q135 => ?_))))))))))
    ·refine Em rfl (Em rfl (Em rfl (Est rfl (o4 s5 rfl rfl rfl dc (fun w Lp hA => ⟨hA.ow (mS m0), hA.ow m0⟩)) (fun _ _ => (Ey rfl ((x6 rfl rfl).yd) (Ei rfl ?_))))))
     exact Eu (E.ret (F.r1 ((((((((((hB1.comp hB2).comp hB3).comp hB4).comp hB5).comp hB6).comp hB12).comp hB13).comp hB14).comp hB15).comp hB16) rfl rfl () trivial (congrArg Value.bool (by simp_all)) (J := _) (.refl _) (.inl rfl)))
    ·exact absurd q135 (by simp)
end Go.Proofs.YtlfhopooaejpfaaGreat
end
