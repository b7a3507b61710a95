import Derived.Test.YtdopeopehgdccaaGreatBs
import Derived.Test.YtdopeopehgdccaaGreatT90
import Derived.Test.YtdopeopehgdccaaGreatT87
import Derived.Test.YtdopeopehgdccaaGreatT75
import Derived.Test.YtdopeopehgdccaaGreatT16
import Derived.Test.YtdopeopehgdccaaGreatT70
import Derived.Test.YtdopeopehgdccaaGreatT19
import Derived.Test.YtdopeopehgdccaaGreatDw
import Derived.Test.YtdopeopehgdccaaGreatBm
import Derived.Test.YtdopeopehgdccaaGreatGd
namespace Go.Proofs.YtdopeopehgdccaaGreat
open Go.RowKit
set_option linter.all false
set_option maxHeartbeats 2000000
attribute [local irreducible] Nop Yd Yp Ent Has Tr FnP FnP2 Src K9 U8 W3 X6 E0
variable {l : List (Int × List Int × Int × Int × Int)} {d4 d8 : List (Int × List Int)} {s d9 : List Int} {m_s c_s m_l c_l o1 l0 n9 j7 m_facts c_facts : Nat} {a_s a_l l2 j8 a_facts : Option Addr}
theorem a0W (hz : C8 (fun x => x.2.length) d4 ≤ 1048576) : Tr Tryz.prog 58 [.slice a_s m_s c_s, .slice a_l m_l c_l, .agg #[.slice l2 o1 l0, .slice j8 n9 j7], .slice a_facts m_facts c_facts] (fun w L => Ro w L eIs [.slice a_s m_s c_s] s ∧ Ro w L x9 [.slice a_l m_l c_l] l ∧ Ro w L eIs [.slice l2 o1 l0] d9 ∧ Ro w L s3 [.slice j8 n9 j7] d4 ∧ Ro w L o2 [.slice a_facts m_facts c_facts] d8) [] (κ := Option Addr × Nat × Nat) (fun k => True) (fun k => .tuple #[.slice k.1 k.2.1 k.2.2, .bool (U0 s l (d9, d4) d8)]) (fun k => [ow F1 [.slice k.1 k.2.1 k.2.2] (a0U s l (d9, d4) d8)]) := by
 refine Tr.intro Tryz.func58 rfl (n := 34) rfl (by decide +kernel) bl (fr := [(0, .slice a_s m_s c_s), (1, .slice a_l m_l c_l), (2, .agg #[.slice l2 o1 l0, .slice j8 n9 j7]), (3, .slice a_facts m_facts c_facts)]) rfl fun w L hR => ?_
 obtain ⟨hs, hl, o3, n8, hfacts⟩ := hR
 obtain ⟨rfl, ls⟩ := hs.slen
 obtain ⟨rfl, ll⟩ := hl.slen
 obtain ⟨rfl, E9⟩ := o3.slen
 obtain ⟨rfl, D1⟩ := n8.slen
 obtain ⟨rfl, lfacts⟩ := hfacts.slen
 refine Ew Z3 (Est rfl (N.box (cs := [_, _]) rfl dc rfl) (fun b6 _ => (Eas rfl rfl (Eas rfl rfl (Eu (Eq_ (Ew Z11 (Emv rfl rfl (Emv rfl rfl (Ey rfl (Y.ldS (cs := [_, _]) ty_Query rfl (Has.pt m0) rfl) (Est rfl (N.call0 (a5F fo) rfl rfl rfl dc (fun w Lp hA => ⟨hA.ro hs, hA.ro hl, hA.ro o3, hA.ro n8⟩)) (fun _ _ => (Ent.b (fun q15 => ?_) (fun q15 => ?_))))))))))))))
 ·refine Ey rfl ((Y.not (b := true) rfl).yd) (Emv rfl rfl (Emv rfl rfl (Emv rfl rfl (Est rfl (N.call0 a7w rfl rfl rfl dc (fun w Lp hA => ⟨hA.ro hs, hA.ro hfacts⟩)) (fun _ _ => (Ent.b (fun q20 => ?_) (fun q20 => ?_)))))))
  ·have jb : L4 s l (d9, d4) = true := (Bool.and_eq_true_iff.1 q15).1
   obtain ⟨jm, jq0, jp0, jpl⟩ := a3v jb
   have jq := C1 jq0
   have jl := (R8 jm).2
   have jo := b1w jb
   have hqa : d4.length ≤ 4 := jq.1
   have hqh : d9.length ≤ 3 := jq.2.1
   have hqt : ∀ a ∈ d4, a.2.length ≤ 3 := jq.2.2
   refine Ey rfl ((Y.not (b := true) rfl).yd) (Ey rfl ((Y.pkf rfl rfl).yd) (Eu (E.cf rfl (E.skipc (Et (Ew Z10 (Emv rfl rfl (Emv rfl rfl (Ey rfl (Y.ldS (cs := [_, _]) ty_Query rfl (Has.pt m0) rfl) (Est rfl (N.call (a5R jl jq.1 jq.2.1 jq.2.2) rfl rfl rfl dc rfl (fun w Lp hA => ⟨hA.ro hs, hA.ro hl, hA.ro o3, hA.ro n8⟩)) (fun k27 _ => ?_)))))))))))
   obtain ⟨⟨a27_0, m27_0, c27_0⟩, ⟨a27_1, m27_1, c27_1⟩⟩ := k27
   refine Ent.lenow m0 fun e27_0 l27_0 => ?_
   subst e27_0
   refine Ent.lenow (mS m0) fun e27_1 l27_1 => ?_
   subst e27_1
   refine Emv rfl rfl (Ey rfl ((Y.ext rfl rfl).yd) (Ey rfl ((Y.ext rfl rfl).yd) (Est rfl (N.alloc ty_Query dc) (fun b10 _ => (Est rfl (N.sto (vs := [_, _]) (cs' := [_, _]) ty_Query rfl rfl rfl rfl rfl bl rfl) (fun _ _ => (Eas rfl rfl (Ev Z6 (Emv rfl rfl (Ey rfl (Y.ldS (cs := [_, _]) ty_Query rfl (Has.pt m0) rfl) (Emv rfl rfl (Est rfl (N.call (a8f jo q20) rfl rfl rfl dc rfl (fun w Lp hA => ⟨hA.ro hl, hA.ow (mS m0), hA.ow (mS (mS m0)), hA.ro hfacts⟩)) (fun k33 _ => ?_)))))))))))))
   obtain ⟨a33, m33, c33⟩ := k33
   refine Ent.lenow m0 fun e33 l33 => ?_
   subst e33
   refine Eas rfl rfl (Eas rfl rfl (Eu (E.ret (Ent.cv (congrArg (ow F1 [_]) (show _ = a0U s l (d9, d4) d8 by first | exact (a1t (q := (d9, d4)) q15 q20).1 | exact (a1t (q := (d9, d4)) q15 q20).2 | exact (a1t (q := (d9, d4)) q15 q20).1.symm | exact (a1t (q := (d9, d4)) q15 q20).2.symm)) ?_))))
   exact F.r2 br rfl rfl rfl (_, _, _) trivial (by rw [show (U0 s l (d9, d4) d8) = (true) from (by first | exact (a1t (q := (d9, d4)) q15 q20).1 | exact (a1t (q := (d9, d4)) q15 q20).2 | exact (a1t (q := (d9, d4)) q15 q20).1.symm | exact (a1t (q := (d9, d4)) q15 q20).2.symm)]; try rfl) (J := _) (.refl _) (.inl rfl)
  ·refine Ey rfl ((Y.not (b := false) rfl).yd) (Ey rfl ((Y.pkf rfl rfl).yd) (Eu (E.ct rfl (Ew Z2 (Eas rfl rfl (Eas rfl rfl (Eu (E.ret (E.thr (Ent.mkow (A := []) (Own.nil (E := eIs) (e := tIs) (a := none)) rfl (Ent.cv (congrArg (ow F1 [_]) (show _ = a0U s l (d9, d4) d8 by first | exact (G1 (l := l) (q := (d9, d4)) (U3 q20)).1 | exact (G1 (l := l) (q := (d9, d4)) (U3 q20)).2 | exact (G1 (l := l) (q := (d9, d4)) (U3 q20)).1.symm | exact (G1 (l := l) (q := (d9, d4)) (U3 q20)).2.symm)) ?_)))))))))))
   exact F.r2 br rfl rfl rfl (none, 0, 0) trivial (by rw [show (U0 s l (d9, d4) d8) = (false) from (by first | exact (G1 (l := l) (q := (d9, d4)) (U3 q20)).1 | exact (G1 (l := l) (q := (d9, d4)) (U3 q20)).2 | exact (G1 (l := l) (q := (d9, d4)) (U3 q20)).1.symm | exact (G1 (l := l) (q := (d9, d4)) (U3 q20)).2.symm)]; try rfl) (J := _) (.refl _) (.inl rfl)
 ·refine Ey rfl ((Y.not (b := false) rfl).yd) (Emv rfl rfl (Es rfl (Es rfl (Es rfl (Es rfl (Ey rfl ((Y.pkt rfl rfl).yd) (Eu (E.ct rfl (Ew Z2 (Eas rfl rfl (Eas rfl rfl (Eu (E.ret (E.thr (Ent.mkow (A := []) (Own.nil (E := eIs) (e := tIs) (a := none)) rfl (Ent.cv (congrArg (ow F1 [_]) (show _ = a0U s l (d9, d4) d8 by first | exact (G1 (a1I (q := (d9, d4)) q15)).1 | exact (G1 (a1I (q := (d9, d4)) q15)).2 | exact (G1 (a1I (q := (d9, d4)) q15)).1.symm | exact (G1 (a1I (q := (d9, d4)) q15)).2.symm)) ?_))))))))))))))))
  exact F.r2 br rfl rfl rfl (none, 0, 0) trivial (by rw [show (U0 s l (d9, d4) d8) = (false) from (by first | exact (G1 (a1I (q := (d9, d4)) q15)).1 | exact (G1 (a1I (q := (d9, d4)) q15)).2 | exact (G1 (a1I (q := (d9, d4)) q15)).1.symm | exact (G1 (a1I (q := (d9, d4)) q15)).2.symm)]; try rfl) (J := _) (.refl _) (.inl rfl)
theorem a3e (hz : C8 (fun x => x.2.length) d4 ≤ 1048576) : Tr Tryz.prog 57 [.slice a_s m_s c_s, .slice a_l m_l c_l, .agg #[.slice l2 o1 l0, .slice j8 n9 j7], .slice a_facts m_facts c_facts] (fun w L => Ro w L eIs [.slice a_s m_s c_s] s ∧ Ro w L x9 [.slice a_l m_l c_l] l ∧ Ro w L eIs [.slice l2 o1 l0] d9 ∧ Ro w L s3 [.slice j8 n9 j7] d4 ∧ Ro w L o2 [.slice a_facts m_facts c_facts] d8) [] (κ := Option Addr × Nat × Nat) (fun k => True) (fun k => .tuple #[.slice k.1 k.2.1 k.2.2, .bool (U0 s l (d9, d4) d8)]) (fun k => [ow F1 [.slice k.1 k.2.1 k.2.2] (a0U s l (d9, d4) d8)]) := by
 refine Tr.intro Tryz.func57 rfl (n := 55) rfl (by decide +kernel) bl (fr := [(0, .slice a_s m_s c_s), (1, .slice a_l m_l c_l), (2, .agg #[.slice l2 o1 l0, .slice j8 n9 j7]), (3, .slice a_facts m_facts c_facts)]) rfl fun w L hR => ?_
 obtain ⟨hs, hl, o3, n8, hfacts⟩ := hR
 obtain ⟨rfl, ls⟩ := hs.slen
 obtain ⟨rfl, ll⟩ := hl.slen
 obtain ⟨rfl, E9⟩ := o3.slen
 obtain ⟨rfl, D1⟩ := n8.slen
 obtain ⟨rfl, lfacts⟩ := hfacts.slen
 refine Ew Z3 (Est rfl (N.box (cs := [_, _]) rfl dc rfl) (fun b6 _ => (Eas rfl rfl (Eas rfl rfl (Ev Z10 (Emv rfl rfl (Emv rfl rfl (Ey rfl (Y.ldS (cs := [_, _]) ty_Query rfl (Has.pt m0) rfl) (Est rfl (N.call (a3G fo) rfl rfl rfl dc rfl (fun w Lp hA => ⟨hA.ro hs, hA.ro hl, hA.ro o3, hA.ro n8⟩)) (fun k19 _ => ?_))))))))))
 obtain ⟨⟨a19_0, m19_0, c19_0⟩, ⟨a19_1, m19_1, c19_1⟩⟩ := k19
 refine Ent.lenow m0 fun e19_0 l19_0 => ?_
 subst e19_0
 refine Ent.lenow (mS m0) fun e19_1 l19_1 => ?_
 subst e19_1
 refine Emv rfl rfl (Ey rfl ((Y.ext rfl rfl).yd) (Ey rfl ((Y.ext rfl rfl).yd) (Est rfl (N.alloc ty_Query dc) (fun b10 _ => (Est rfl (N.sto (vs := [_, _]) (cs' := [_, _]) ty_Query rfl rfl rfl rfl rfl bl rfl) (fun _ _ => (Eas rfl rfl (Ent.b (fun q11 => ?_) (fun q11 => ?_)))))))))
 ·obtain ⟨jp0, jq0⟩ := a7u q11
  have jp := C1 jp0
  have jq := C1 jq0
  have jpz : C8 (fun x => x.2.length) (F5 s l (d9, d4)) ≤ 1048576 := Nat.le_trans (a5v jp.2.2) (Nat.le_trans (Nat.mul_le_mul_left 4 jp.1) dc)
  refine Eu (Eq_ (Ew Z15 (Emv rfl rfl (Ey rfl ((Y.not (b := true) rfl).yd) (Emv rfl rfl (Emv rfl rfl (Ey rfl (Y.ldS (cs := [_, _]) ty_Query rfl (Has.pt m0) rfl) (Ey rfl (Y.ldS (cs := [_, _]) ty_Query rfl (Has.pt (mS (mS (mS m0)))) rfl) (Est rfl (N.call0 (a4S jpz fo) rfl rfl rfl dc (fun w Lp hA => ⟨hA.ro hs, hA.ow (mS m0), hA.ow (mS (mS m0)), hA.ro o3, hA.ro n8⟩)) (fun _ _ => (Ent.b (fun q28 => ?_) (fun q28 => ?_))))))))))))
  ·refine Ey rfl ((Y.not (b := true) rfl).yd) (Ey rfl ((Y.pkf rfl rfl).yd) (Emv rfl rfl (Emv rfl rfl (Emv rfl rfl (Est rfl (N.call0 a1C rfl rfl rfl dc (fun w Lp hA => ⟨hA.ro hs, hA.ro hfacts⟩)) (fun _ _ => (Ent.b (fun q34 => ?_) (fun q34 => ?_))))))))
   ·have jl := (R8 (a3v q11).1).2
    refine Ey rfl ((Y.not (b := true) rfl).yd) (Ey rfl ((Y.pkf rfl rfl).yd) (Eu (E.cf rfl (E.skipc (Et (Eq_ (D.region (fun j => true) mixed (Dyp 0 rfl (Y.mv rfl) (Dyp 1 rfl (Y.mv rfl) (Dy 3 rfl (Y.ldS (cs := [_, _]) ty_Query rfl (Has.pt m0) rfl) ?_))))))))))
    obtain ⟨lB, hlB, hb_l⟩ := Ro.bMethodB hl
    have jlB := hb_l.len
    refine D.st 2 rfl rfl kr (fun _ => rfl) (N.call (a4Z fo) rfl rfl rfl dc rfl (fun w Lp hA => hA.ro hlB)) (fun k41 _ => ?_)
    obtain ⟨a41, m41, c41⟩ := k41
    refine Ent.lenow m0 fun e41 l41 => ?_
    subst e41
    have hby := b5c hb_l
    have jful : (z6 l).length ≤ l.length := b3C
    refine D.st 4 rfl rfl kr (fun _ => rfl) (N.call (a6u jpz) rfl rfl rfl dc rfl (fun w Lp hA => ⟨hA.ro hs, hA.bMethodB m0 hby, hA.ow (mS (mS m0)), hA.ow (mS (mS (mS m0)))⟩)) (fun k43 _ => ?_)
    obtain ⟨a43, m43, c43⟩ := k43
    refine Ent.lenow m0 fun e43 l43 => ?_
    subst e43
    refine Dyp 5 rfl (Y.mv rfl) (Dyp 6 rfl (Y.ext rfl rfl) (Dyp 7 rfl (Y.ext rfl rfl) (Dyp 8 rfl (Y.as rfl) (Dyp 9 rfl (Y.as rfl) (D.done kr (Et (Eq_ (E.mid (κ := Nat × Option Addr × Nat × Option Addr × Nat × Option Addr × Nat × Option Addr × Nat) (fun _ => True) (fun kM => [(14, .pointer (some ⟨kM.1, 0, none⟩))]) (fun kM => [pt kM.1 57 [.slice kM.2.1 ((K4 s (z6 l) ((G2 s l (d9, d4)), (F5 s l (d9, d4))) (S0 s (z6 l) ((G2 s l (d9, d4)), (F5 s l (d9, d4)))) d8 0).1).length kM.2.2.1, .slice kM.2.2.2.1 ((K4 s (z6 l) ((G2 s l (d9, d4)), (F5 s l (d9, d4))) (S0 s (z6 l) ((G2 s l (d9, d4)), (F5 s l (d9, d4)))) d8 0).2.1).length kM.2.2.2.2.1, .slice kM.2.2.2.2.2.1 ((K4 s (z6 l) ((G2 s l (d9, d4)), (F5 s l (d9, d4))) (S0 s (z6 l) ((G2 s l (d9, d4)), (F5 s l (d9, d4)))) d8 0).2.2.1).length kM.2.2.2.2.2.2.1, .int .i64 ((K4 s (z6 l) ((G2 s l (d9, d4)), (F5 s l (d9, d4))) (S0 s (z6 l) ((G2 s l (d9, d4)), (F5 s l (d9, d4)))) d8 0).2.2.2)], ow F1 [.slice kM.2.1 ((K4 s (z6 l) ((G2 s l (d9, d4)), (F5 s l (d9, d4))) (S0 s (z6 l) ((G2 s l (d9, d4)), (F5 s l (d9, d4)))) d8 0).1).length kM.2.2.1] ((K4 s (z6 l) ((G2 s l (d9, d4)), (F5 s l (d9, d4))) (S0 s (z6 l) ((G2 s l (d9, d4)), (F5 s l (d9, d4)))) d8 0).1), ow D0 [.slice kM.2.2.2.1 ((K4 s (z6 l) ((G2 s l (d9, d4)), (F5 s l (d9, d4))) (S0 s (z6 l) ((G2 s l (d9, d4)), (F5 s l (d9, d4)))) d8 0).2.1).length kM.2.2.2.2.1] ((K4 s (z6 l) ((G2 s l (d9, d4)), (F5 s l (d9, d4))) (S0 s (z6 l) ((G2 s l (d9, d4)), (F5 s l (d9, d4)))) d8 0).2.1), ow o2 [.slice kM.2.2.2.2.2.1 ((K4 s (z6 l) ((G2 s l (d9, d4)), (F5 s l (d9, d4))) (S0 s (z6 l) ((G2 s l (d9, d4)), (F5 s l (d9, d4)))) d8 0).2.2.1).length kM.2.2.2.2.2.2.1] ((K4 s (z6 l) ((G2 s l (d9, d4)), (F5 s l (d9, d4))) (S0 s (z6 l) ((G2 s l (d9, d4)), (F5 s l (d9, d4)))) d8 0).2.2.1), ow D6 [.slice kM.2.2.2.2.2.2.2.1 (S2 lB).length kM.2.2.2.2.2.2.2.2] (S2 lB), ow I8 [.slice a43 (S0 s (z6 l) ((G2 s l (d9, d4)), (F5 s l (d9, d4)))).length c43] (S0 s (z6 l) ((G2 s l (d9, d4)), (F5 s l (d9, d4)))), ow D6 [.slice a41 (S2 lB).length c41] (S2 lB), pt b10 61 [.slice a19_0 (G2 s l (d9, d4)).length c19_0, .slice a19_1 (F5 s l (d9, d4)).length c19_1], ow eIs [.slice a19_0 (G2 s l (d9, d4)).length c19_0] (G2 s l (d9, d4)), ow s3 [.slice a19_1 (F5 s l (d9, d4)).length c19_1] (F5 s l (d9, d4)), pt b6 61 [.slice l2 d9.length l0, .slice j8 d4.length j7]]) ?_ (fun kM _ => ?_)))))))))
    ·refine D.region (fun j => !(Nat.beq j 8)) mixed (Dyp 0 rfl (Y.mv rfl) (Dyp 1 rfl (Y.mv rfl) (Dy 3 rfl (Y.ldS (cs := [_, _]) ty_Query rfl (Has.pt (mS (mS m0))) rfl) (Dyp 4 rfl (Y.mv rfl) (Dyp 5 rfl (Y.mv rfl) (D.ch2 (i := 2) (j := 7) kr ?_ ?_))))))
     ·refine D.pk 2 rfl rfl (fun _ => rfl) (N.call (a4Z fo) rfl rfl rfl dc rfl (fun w Lp hA => hA.ro hlB)) (fun k48 _ => ?_)
      obtain ⟨a48, m48, c48⟩ := k48
      refine Ent.lenow m0 fun e48 l48 => ?_
      subst e48
      refine D.ch2 (i := 6) (j := 7) kr ?_ ?_
      ·refine D.pk 6 rfl rfl (fun _ => rfl) (N.call (a1z jpz) rfl rfl rfl dc rfl (fun w Lp hA => ⟨hA.ro hs, hA.bMethodB m0 hby, hA.ow (mS (mS (mS (mS m0)))), hA.ow (mS (mS (mS (mS (mS m0))))), hA.ow (mS m0), hA.ro hfacts⟩)) (fun k52 _ => ?_)
       obtain ⟨⟨a52_0, m52_0, c52_0⟩, ⟨a52_1, m52_1, c52_1⟩, ⟨a52_2, m52_2, c52_2⟩⟩ := k52
       refine Ent.lenow m0 fun e52_0 l52_0 => ?_
       subst e52_0
       refine Ent.lenow (mS m0) fun e52_1 l52_1 => ?_
       subst e52_1
       refine Ent.lenow (mS (mS m0)) fun e52_2 l52_2 => ?_
       subst e52_2
       refine D.st 7 rfl rfl kr (fun _ => rfl) (N.alloc ty_Run dc) (fun b14 _ => (D.st 8 rfl rfl kr (fun h => by cases h) (N.sto (vs := [_, _, _, _]) (cs' := [_, _, _, _]) ty_Run rfl rfl rfl rfl rfl bl rfl) (fun _ _ => (D.done kr (Ent.p10 (Ent.p10 (Ent.p10 (Ent.p10 (Ent.p10 (Ent.p10 (Ent.p10 (Ent.p10 (Ent.p10 (Ent.p10 (Ent.p10 ?_)))))))))))))))
       exact E.mdn (b14, a52_0, c52_0, a52_1, c52_1, a52_2, c52_2, a48, c48) trivial ⟨rfl, trivial⟩ (.refl _)
      ·refine D.pk 7 rfl rfl (fun _ => rfl) (N.alloc ty_Run dc) (fun b14 _ => (D.st 6 rfl rfl kr (fun _ => rfl) (N.call (a1z jpz) rfl rfl rfl dc rfl (fun w Lp hA => ⟨hA.ro hs, hA.bMethodB (mS m0) hby, hA.ow (mS (mS (mS (mS (mS m0))))), hA.ow (mS (mS (mS (mS (mS (mS m0)))))), hA.ow (mS (mS m0)), hA.ro hfacts⟩)) (fun k52 _ => ?_)))
       obtain ⟨⟨a52_0, m52_0, c52_0⟩, ⟨a52_1, m52_1, c52_1⟩, ⟨a52_2, m52_2, c52_2⟩⟩ := k52
       refine Ent.lenow m0 fun e52_0 l52_0 => ?_
       subst e52_0
       refine Ent.lenow (mS m0) fun e52_1 l52_1 => ?_
       subst e52_1
       refine Ent.lenow (mS (mS m0)) fun e52_2 l52_2 => ?_
       subst e52_2
       refine Ent.p3 (D.st 8 rfl rfl kr (fun h => by cases h) (N.sto (vs := [_, _, _, _]) (cs' := [_, _, _, _]) ty_Run rfl rfl rfl rfl rfl bl rfl) (fun _ _ => (D.done kr (Ent.p10 (Ent.p10 (Ent.p10 (Ent.p10 (Ent.p10 (Ent.p10 (Ent.p10 (Ent.p10 (Ent.p10 (Ent.p10 (Ent.p10 ?_))))))))))))))
       exact E.mdn (b14, a52_0, c52_0, a52_1, c52_1, a52_2, c52_2, a48, c48) trivial ⟨rfl, trivial⟩ (.refl _)
     ·refine D.pk 7 rfl rfl (fun _ => rfl) (N.alloc ty_Run dc) (fun b14 _ => (D.st 2 rfl rfl kr (fun _ => rfl) (N.call (a4Z fo) rfl rfl rfl dc rfl (fun w Lp hA => hA.ro hlB)) (fun k48 _ => ?_)))
      obtain ⟨a48, m48, c48⟩ := k48
      refine Ent.lenow m0 fun e48 l48 => ?_
      subst e48
      refine D.st 6 rfl rfl kr (fun _ => rfl) (N.call (a1z jpz) rfl rfl rfl dc rfl (fun w Lp hA => ⟨hA.ro hs, hA.bMethodB m0 hby, hA.ow (mS (mS (mS (mS (mS m0))))), hA.ow (mS (mS (mS (mS (mS (mS m0)))))), hA.ow (mS (mS m0)), hA.ro hfacts⟩)) (fun k52 _ => ?_)
      obtain ⟨⟨a52_0, m52_0, c52_0⟩, ⟨a52_1, m52_1, c52_1⟩, ⟨a52_2, m52_2, c52_2⟩⟩ := k52
      refine Ent.lenow m0 fun e52_0 l52_0 => ?_
      subst e52_0
      refine Ent.lenow (mS m0) fun e52_1 l52_1 => ?_
      subst e52_1
      refine Ent.lenow (mS (mS m0)) fun e52_2 l52_2 => ?_
      subst e52_2
      refine Ent.p4 (D.st 8 rfl rfl kr (fun h => by cases h) (N.sto (vs := [_, _, _, _]) (cs' := [_, _, _, _]) ty_Run rfl rfl rfl rfl rfl bl rfl) (fun _ _ => (D.done kr (Ent.p10 (Ent.p10 (Ent.p10 (Ent.p10 (Ent.p10 (Ent.p10 (Ent.p10 (Ent.p10 (Ent.p10 (Ent.p10 (Ent.p10 ?_))))))))))))))
      exact E.mdn (b14, a52_0, c52_0, a52_1, c52_1, a52_2, c52_2, a48, c48) trivial ⟨rfl, trivial⟩ (.refl _)
    ·obtain ⟨b14, a52_0, c52_0, a52_1, c52_1, a52_2, c52_2, a48, c48⟩ := kM
     try dsimp only
     refine Et (Ew Z4 (Ey rfl ((Y.fld fo_Run_0 ty_Iss dc rfl).yd) (Ey rfl (Y.ld1 ty_Iss rfl ((Has.pt m0).sub (cs' := [_]) 0 rfl) rfl) (Eas rfl rfl (Eas rfl rfl (Eu (E.ret (Ent.p1 (Ent.cv (congrArg (ow F1 [_]) (show _ = a0U s l (d9, d4) d8 by first | exact (a1i (q := (d9, d4)) q11 q28 q34).1 | exact (a1i (q := (d9, d4)) q11 q28 q34).2 | exact (a1i (q := (d9, d4)) q11 q28 q34).1.symm | exact (a1i (q := (d9, d4)) q11 q28 q34).2.symm)) ?_)))))))))
     exact F.r2 br rfl rfl rfl (_, _, _) trivial (by rw [show (U0 s l (d9, d4) d8) = (true) from (by first | exact (a1i (q := (d9, d4)) q11 q28 q34).1 | exact (a1i (q := (d9, d4)) q11 q28 q34).2 | exact (a1i (q := (d9, d4)) q11 q28 q34).1.symm | exact (a1i (q := (d9, d4)) q11 q28 q34).2.symm)]; try rfl) (J := _) (.refl _) (.inl rfl)
   ·refine Ey rfl ((Y.not (b := false) rfl).yd) (Ey rfl ((Y.pkf rfl rfl).yd) (Eu (E.ct rfl (Ew Z3 (Est rfl (N.bsl (pvs := []) (cs := []) us_Iss ty_Is rfl dc dc (o6 rfl rfl) rfl dc) (fun b37 _ => (Ent.drop (Eas rfl rfl (Eas rfl rfl (Eu (E.ret (E.thr (Ent.mkow (A := []) (Own.nil (E := eIs) (e := tIs) (a := (some ⟨b37, 0, none⟩))) rfl (Ent.cv (congrArg (ow F1 [_]) (show _ = a0U s l (d9, d4) d8 by first | exact (G1 (l := l) (q := (d9, d4)) (U3 q34)).1 | exact (G1 (l := l) (q := (d9, d4)) (U3 q34)).2 | exact (G1 (l := l) (q := (d9, d4)) (U3 q34)).1.symm | exact (G1 (l := l) (q := (d9, d4)) (U3 q34)).2.symm)) ?_))))))))))))))
    exact F.r2 br rfl rfl rfl ((some ⟨b37, 0, none⟩), 0, 0) trivial (by rw [show (U0 s l (d9, d4) d8) = (false) from (by first | exact (G1 (l := l) (q := (d9, d4)) (U3 q34)).1 | exact (G1 (l := l) (q := (d9, d4)) (U3 q34)).2 | exact (G1 (l := l) (q := (d9, d4)) (U3 q34)).1.symm | exact (G1 (l := l) (q := (d9, d4)) (U3 q34)).2.symm)]; try rfl) (J := _) (.refl _) (.inl rfl)
  ·refine Ey rfl ((Y.not (b := false) rfl).yd) (Ey rfl ((Y.pkf rfl rfl).yd) (Emv rfl rfl (Es rfl (Es rfl (Es rfl (Es rfl (Ey rfl ((Y.pkt rfl rfl).yd) (Eu (E.ct rfl (Ew Z3 (Est rfl (N.bsl (pvs := []) (cs := []) us_Iss ty_Is rfl dc dc (o6 rfl rfl) rfl dc) (fun b37 _ => (Ent.drop (Eas rfl rfl (Eas rfl rfl (Eu (E.ret (E.thr (Ent.mkow (A := []) (Own.nil (E := eIs) (e := tIs) (a := (some ⟨b37, 0, none⟩))) rfl (Ent.cv (congrArg (ow F1 [_]) (show _ = a0U s l (d9, d4) d8 by first | exact (G1 (a2k (q := (d9, d4)) q28)).1 | exact (G1 (a2k (q := (d9, d4)) q28)).2 | exact (G1 (a2k (q := (d9, d4)) q28)).1.symm | exact (G1 (a2k (q := (d9, d4)) q28)).2.symm)) ?_))))))))))))))))))))
   exact F.r2 br rfl rfl rfl ((some ⟨b37, 0, none⟩), 0, 0) trivial (by rw [show (U0 s l (d9, d4) d8) = (false) from (by first | exact (G1 (a2k (q := (d9, d4)) q28)).1 | exact (G1 (a2k (q := (d9, d4)) q28)).2 | exact (G1 (a2k (q := (d9, d4)) q28)).1.symm | exact (G1 (a2k (q := (d9, d4)) q28)).2.symm)]; try rfl) (J := _) (.refl _) (.inl rfl)
 ·refine Eu (Eq_ (Ew Z15 (Emv rfl rfl (Ey rfl ((Y.not (b := false) rfl).yd) (Emv rfl rfl (Es rfl (Es rfl (Es rfl (Es rfl (Es rfl (Ey rfl ((Y.pkt rfl rfl).yd) (Emv rfl rfl (Es rfl (Es rfl (Es rfl (Es rfl (Ey rfl ((Y.pkt rfl rfl).yd) (Eu (E.ct rfl (Ew Z3 (Est rfl (N.bsl (pvs := []) (cs := []) us_Iss ty_Is rfl dc dc (o6 rfl rfl) rfl dc) (fun b37 _ => (Ent.drop (Eas rfl rfl (Eas rfl rfl (Eu (E.ret (E.thr (Ent.mkow (A := []) (Own.nil (E := eIs) (e := tIs) (a := (some ⟨b37, 0, none⟩))) rfl (Ent.cv (congrArg (ow F1 [_]) (show _ = a0U s l (d9, d4) d8 by first | exact (G1 (a1F (q := (d9, d4)) q11)).1 | exact (G1 (a1F (q := (d9, d4)) q11)).2 | exact (G1 (a1F (q := (d9, d4)) q11)).1.symm | exact (G1 (a1F (q := (d9, d4)) q11)).2.symm)) ?_))))))))))))))))))))))))))))))
  exact F.r2 br rfl rfl rfl ((some ⟨b37, 0, none⟩), 0, 0) trivial (by rw [show (U0 s l (d9, d4) d8) = (false) from (by first | exact (G1 (a1F (q := (d9, d4)) q11)).1 | exact (G1 (a1F (q := (d9, d4)) q11)).2 | exact (G1 (a1F (q := (d9, d4)) q11)).1.symm | exact (G1 (a1F (q := (d9, d4)) q11)).2.symm)]; try rfl) (J := _) (.refl _) (.inl rfl)
theorem a1K {a_aS : Option Addr} {m_aS c_aS : Nat} {aS : List Int} {a_aL : Option Addr} {m_aL c_aL : Nat} {aL : List (Int × List Int × Int × Int × Int)} {a5l : Option Addr} {a5m a5n : Nat} {a8u : List Int} {a4m : Option Addr} {a4n a4o : Nat} {a2f : List (Int × List Int)} {a_aFacts : Option Addr} {m_aFacts c_aFacts : Nat} {aFacts : List (Int × List Int)} : Tr Tryz.prog 7 [.slice a_aS m_aS c_aS, .slice a_aL m_aL c_aL, .agg #[.slice a5l a5m a5n, .slice a4m a4n a4o], .slice a_aFacts m_aFacts c_aFacts] (fun w L => Ro w L eIs [.slice a_aS m_aS c_aS] aS ∧ Ro w L x9 [.slice a_aL m_aL c_aL] aL ∧ Ro w L eIs [.slice a5l a5m a5n] a8u ∧ Ro w L s3 [.slice a4m a4n a4o] a2f ∧ Ro w L o2 [.slice a_aFacts m_aFacts c_aFacts] aFacts) [] (κ := Unit) (fun k => True) (fun k => .bool (true)) (fun k => []) := by
 refine Tr.intro Tryz.func7 rfl (n := 163) rfl (by decide +kernel) bl (fr := [(0, .slice a_aS m_aS c_aS), (1, .slice a_aL m_aL c_aL), (2, .agg #[.slice a5l a5m a5n, .slice a4m a4n a4o]), (3, .slice a_aFacts m_aFacts c_aFacts)]) rfl fun w L hR => ?_
 obtain ⟨haS, haL, a2g, a1r, haFacts⟩ := hR
 obtain ⟨rfl, laS⟩ := haS.slen
 obtain ⟨rfl, laL⟩ := haL.slen
 obtain ⟨rfl, b6N⟩ := a2g.slen
 obtain ⟨rfl, b6r⟩ := a1r.slen
 obtain ⟨rfl, laFacts⟩ := haFacts.slen
 have jb_aS := a2G (l := aS)
 have jb_aL := a3P (c := E3) (t := (fun x => x.2.1.length)) (n := 4) (fun x => by simp only [E3, a2G]; omega) (l := aL)
 have jc_aL : C8 (fun x => x.2.1.length) aL = aL.length + o5 (fun x => x.2.1.length) aL := rfl
 have b6i := a2G (l := a8u)
 have b5O := a3P (c := C9) (t := (fun x => x.2.length)) (n := 1) (fun x => by simp only [C9, a2G]; omega) (l := a2f)
 have b5P : C8 (fun x => x.2.length) a2f = a2f.length + o5 (fun x => x.2.length) a2f := rfl
 have jb_aFacts := a3P (c := C7) (t := (fun x => x.2.length)) (n := 1) (fun x => by simp only [C7, a2G]; omega) (l := aFacts)
 have jc_aFacts : C8 (fun x => x.2.length) aFacts = aFacts.length + o5 (fun x => x.2.length) aFacts := rfl
 have r1 := b4i (s := aS) (l := aL) (q := (a8u, a2f)) (d8 := aFacts)
 refine Ew Z2 (Est rfl (N.box (cs := [_, _]) rfl dc rfl) (fun b6 _ => (Eas rfl rfl (Eu (Eq_ (Ew Z3 (Emv rfl rfl (Ey rfl ((Y.len us_Is rfl).yd) (Ey rfl ((Y.gtr rfl rfl).yd) (Ent.d (fun q25 => ?_) (fun q25 => ?_)))))))))))
 ·refine Eu (E.ct rfl (Ew Z1 (Eas rfl rfl ?_)))
  exact Eu (E.ret (E.thr (Fg rfl rfl () rfl rfl)))
 ·refine Eu (E.cf rfl (E.skipc (Et (Ew Z1 (Eas rfl rfl (Ev Z4 (Emv rfl rfl (Emv rfl rfl (Est rfl (N.call0 a6B rfl rfl rfl dc (fun w Lp hA => ⟨hA.ro haL, (by first | assumption | omega), (by first | assumption | omega)⟩)) (fun _ _ => (Eas rfl rfl (Eu (Eq_ (Ew Z2 (Emv rfl rfl (Ey rfl ((Y.lss rfl rfl).yd) (Ent.d (fun q30 => ?_) (fun q30 => ?_))))))))))))))))))
  ·have z30 := Y3 q30 om
   refine Eu (E.ct rfl (Ew Z1 (Eas rfl rfl ?_)))
   exact Eu (E.ret (E.thr (Fg rfl rfl () rfl rfl)))
  ·obtain ⟨z30, y30⟩ := a0A q30 om
   refine Eu (E.cf rfl (E.skipc (Et (Ew Z4 (Ey rfl (Y.ldS (cs := [_, _]) ty_lQuery rfl (Has.pt m0) rfl) (Emv rfl rfl (Est rfl (N.call0 a8j rfl rfl rfl dc (fun w Lp hA => ⟨hA.ro a2g, hA.ro a1r, (by first | assumption | omega), (by first | assumption | omega)⟩)) (fun _ _ => (Eas rfl rfl (Eu (Eq_ (Ew Z2 (Emv rfl rfl (Ey rfl ((Y.lss rfl rfl).yd) (Ent.d (fun q35 => ?_) (fun q35 => ?_))))))))))))))))
   ·have z35 := Y3 q35 om
    refine Eu (E.ct rfl (Ew Z1 (Eas rfl rfl ?_)))
    exact Eu (E.ret (E.thr (Fg rfl rfl () rfl rfl)))
   ·obtain ⟨z35, y35⟩ := a0A q35 om
    refine Eu (E.cf rfl (E.skipc (Et (Ew Z4 (Emv rfl rfl (Emv rfl rfl (Est rfl (N.call0 a7Q rfl rfl rfl dc (fun w Lp hA => ⟨hA.ro haFacts, (by first | assumption | omega), (by first | assumption | omega)⟩)) (fun _ _ => (Eas rfl rfl (Eu (Eq_ (Ew Z2 (Emv rfl rfl (Ey rfl ((Y.lss rfl rfl).yd) (Ent.d (fun q40 => ?_) (fun q40 => ?_))))))))))))))))
    ·have z40 := Y3 q40 om
     refine Eu (E.ct rfl (Ew Z1 (Eas rfl rfl ?_)))
     exact Eu (E.ret (E.thr (Fg rfl rfl () rfl rfl)))
    ·obtain ⟨z40, y40⟩ := a0A q40 om
     refine Eu (E.cf rfl (E.skipc (Et (Eq_ (D.region (fun j => true) mixed (Dyp 0 rfl (Y.mv rfl) (Dyp 2 rfl (Y.mv rfl) (Dy 4 rfl (Y.ldS (cs := [_, _]) ty_lQuery rfl (Has.pt m0) rfl) (Dyp 6 rfl (Y.mv rfl) (D.st 1 rfl rfl kr (fun _ => rfl) (N.call (Q3 fc) rfl rfl rfl dc rfl (fun w Lp hA => hA.ro haS)) (fun k43 _ => ?_)))))))))))
     obtain ⟨a43, m43, c43⟩ := k43
     refine Ent.lenow m0 fun e43 l43 => ?_
     subst e43
     refine D.st 3 rfl rfl kr (fun _ => rfl) (N.call (a0c fc) rfl rfl rfl dc rfl (fun w Lp hA => hA.ro haL)) (fun k45 _ => ?_)
     obtain ⟨a45, m45, c45⟩ := k45
     refine Ent.lenow m0 fun e45 l45 => ?_
     subst e45
     refine D.st 5 rfl rfl kr (fun _ => rfl) (N.call (a0L fc fc) rfl rfl rfl dc rfl (fun w Lp hA => ⟨hA.ro a2g, hA.ro a1r⟩)) (fun k47 _ => ?_)
     obtain ⟨⟨a47_0, m47_0, c47_0⟩, ⟨a47_1, m47_1, c47_1⟩⟩ := k47
     refine Ent.lenow m0 fun e47_0 l47_0 => ?_
     subst e47_0
     refine Ent.lenow (mS m0) fun e47_1 l47_1 => ?_
     subst e47_1
     refine D.st 7 rfl rfl kr (fun _ => rfl) (N.call (a0P fc) rfl rfl rfl dc rfl (fun w Lp hA => hA.ro haFacts)) (fun k49 _ => ?_)
     obtain ⟨a49, m49, c49⟩ := k49
     refine Ent.lenow m0 fun e49 l49 => ?_
     subst e49
     refine D.st 8 rfl rfl kr (fun _ => rfl) (N.call (a3e fc) rfl rfl rfl dc rfl (fun w Lp hA => ⟨hA.ow (mS (mS (mS (mS m0)))), hA.ow (mS (mS (mS m0))), hA.ow (mS m0), hA.ow (mS (mS m0)), hA.ow m0⟩)) (fun k50 _ => ?_)
     obtain ⟨a50, m50, c50⟩ := k50
     refine Ent.lenow m0 fun e50 l50 => ?_
     subst e50
     refine Dyp 9 rfl (Y.mv rfl) (Dyp 10 rfl (Y.ext rfl rfl) (Dyp 11 rfl (Y.ext rfl rfl) (Dyp 12 rfl (Y.as rfl) (Dyp 13 rfl (Y.as rfl) (D.done kr (Et (Ew Z3 (Emv rfl rfl (Est rfl (N.call (Q3 fc) rfl rfl rfl dc rfl (fun w Lp hA => hA.ro haS)) (fun k54 _ => ?_))))))))))
     obtain ⟨a54, m54, c54⟩ := k54
     refine Ent.lenow m0 fun e54 l54 => ?_
     subst e54
     refine Eas rfl rfl (Ev Z3 (Emv rfl rfl (Est rfl (N.call (a0c fc) rfl rfl rfl dc rfl (fun w Lp hA => hA.ro haL)) (fun k56 _ => ?_))))
     obtain ⟨a56, m56, c56⟩ := k56
     refine Ent.lenow m0 fun e56 l56 => ?_
     subst e56
     refine Eas rfl rfl (Ev Z4 (Ey rfl (Y.ldS (cs := [_, _]) ty_lQuery rfl (Has.pt (mS (mS (mS (mS (mS (mS (mS (mS m0))))))))) rfl) (Est rfl (N.call (a0L fc fc) rfl rfl rfl dc rfl (fun w Lp hA => ⟨hA.ro a2g, hA.ro a1r⟩)) (fun k58 _ => ?_))))
     obtain ⟨⟨a58_0, m58_0, c58_0⟩, ⟨a58_1, m58_1, c58_1⟩⟩ := k58
     refine Ent.lenow m0 fun e58_0 l58_0 => ?_
     subst e58_0
     refine Ent.lenow (mS m0) fun e58_1 l58_1 => ?_
     subst e58_1
     refine Est rfl (N.alloc ty_Query dc) (fun b14 _ => (Est rfl (N.sto (vs := [_, _]) (cs' := [_, _]) ty_Query rfl rfl rfl rfl rfl bl rfl) (fun _ _ => (Ev Z3 (Emv rfl rfl (Est rfl (N.call (a0P fc) rfl rfl rfl dc rfl (fun w Lp hA => hA.ro haFacts)) (fun k60 _ => ?_)))))))
     obtain ⟨a60, m60, c60⟩ := k60
     refine Ent.lenow m0 fun e60 l60 => ?_
     subst e60
     refine Eas rfl rfl (Ev Z10 (Emv rfl rfl (Emv rfl rfl (Ey rfl (Y.ldS (cs := [_, _]) ty_Query rfl (Has.pt (mS m0)) rfl) (Emv rfl rfl (Est rfl (N.call (a0W fc) rfl rfl rfl dc rfl (fun w Lp hA => ⟨hA.ow (mS (mS (mS (mS (mS m0))))), hA.ow (mS (mS (mS (mS m0)))), hA.ow (mS (mS m0)), hA.ow (mS (mS (mS m0))), hA.ow m0⟩)) (fun k66 _ => ?_)))))))
     obtain ⟨a66, m66, c66⟩ := k66
     refine Ent.lenow m0 fun e66 l66 => ?_
     subst e66
     refine Emv rfl rfl (Ey rfl ((Y.ext rfl rfl).yd) (Ey rfl ((Y.ext rfl rfl).yd) (Eas rfl rfl (Eas rfl rfl (Eu (Eq_ (Ew Z9 (Emv rfl rfl (Emv rfl rfl (Est rfl (N.call0 a1T rfl rfl rfl dc (fun w Lp hA => ⟨hA.ow m0, hA.ow (mS (mS (mS (mS (mS (mS (mS m0)))))))⟩)) (fun _ _ => (Ent.b (fun q71 => ?_) (fun q71 => ?_)))))))))))))
     ·refine Ey rfl ((Y.not (b := true) rfl).yd) (Emv rfl rfl (Emv rfl rfl (Emv rfl rfl (Ey rfl ((Y.neqB kr rfl rfl).yd) (Ent.d (fun q76 => ?_) (fun q76 => ?_))))))
      ·exact absurd rfl q76
      ·refine Ey rfl ((Y.pkf rfl rfl).yd) (Eu (E.cf rfl (E.skipc (Et (Eq_ (Ew Z5 (Emv rfl rfl (Emv rfl rfl (Est rfl (N.call (Q3 fc) rfl rfl rfl dc rfl (fun w Lp hA => hA.ro haS)) (fun k80 _ => ?_))))))))))
       obtain ⟨a80, m80, c80⟩ := k80
       refine Ent.lenow m0 fun e80 l80 => ?_
       subst e80
       refine Est rfl (N.call0 W7 rfl rfl rfl dc (fun w Lp hA => ⟨hA.ow (mS (mS (mS (mS (mS (mS (mS m0))))))), hA.ow m0⟩)) (fun _ _ => (Ent.b (fun q81 => ?_) (fun q81 => ?_)))
       ·refine Ey rfl ((Y.not (b := true) rfl).yd) (Eu (E.cf rfl (E.skipc (Et (Eq_ (Ew Z5 (Emv rfl rfl (Emv rfl rfl (Est rfl (N.call (a0c fc) rfl rfl rfl dc rfl (fun w Lp hA => hA.ro haL)) (fun k85 _ => ?_))))))))))
        obtain ⟨a85, m85, c85⟩ := k85
        refine Ent.lenow m0 fun e85 l85 => ?_
        subst e85
        refine Est rfl (N.call0 a6b rfl rfl rfl dc (fun w Lp hA => ⟨hA.ow (mS (mS (mS (mS (mS (mS (mS m0))))))), hA.ow m0⟩)) (fun _ _ => (Ent.b (fun q86 => ?_) (fun q86 => ?_)))
        ·refine Ey rfl ((Y.not (b := true) rfl).yd) (Eu (E.cf rfl (E.skipc (Et (Eq_ (Eq_ (D.region (fun j => true) mixed (Dy 0 rfl (Y.ldS (cs := [_, _]) ty_Query rfl (Has.pt (mS (mS (mS (mS m0))))) rfl) (Dy 1 rfl (Y.ldS (cs := [_, _]) ty_lQuery rfl (Has.pt (mS (mS (mS (mS (mS (mS (mS (mS (mS (mS (mS (mS (mS (mS (mS m0)))))))))))))))) rfl) (D.st 2 rfl rfl kr (fun _ => rfl) (N.call (a0L fc fc) rfl rfl rfl dc rfl (fun w Lp hA => ⟨hA.ro a2g, hA.ro a1r⟩)) (fun k90 _ => ?_)))))))))))
         obtain ⟨⟨a90_0, m90_0, c90_0⟩, ⟨a90_1, m90_1, c90_1⟩⟩ := k90
         refine Ent.lenow m0 fun e90_0 l90_0 => ?_
         subst e90_0
         refine Ent.lenow (mS m0) fun e90_1 l90_1 => ?_
         subst e90_1
         refine D.st 3 rfl rfl kr (fun _ => rfl) (N.call0 a7X rfl rfl rfl dc (fun w Lp hA => ⟨hA.ow (mS (mS (mS (mS (mS (mS (mS m0))))))), hA.ow (mS (mS (mS (mS (mS (mS (mS (mS m0)))))))), hA.ow m0, hA.ow (mS m0)⟩)) (fun _ _ => (Ent.b (fun q91 => ?_) (fun q91 => ?_)))
         ·refine Dyp 4 rfl (Y.not (b := true) rfl) (D.done kr (Et (E.cf rfl (E.skipc (Et (Eq_ (Ew Z5 (Emv rfl rfl (Emv rfl rfl (Est rfl (N.call (a0P fc) rfl rfl rfl dc rfl (fun w Lp hA => hA.ro haFacts)) (fun k95 _ => ?_)))))))))))
          obtain ⟨a95, m95, c95⟩ := k95
          refine Ent.lenow m0 fun e95 l95 => ?_
          subst e95
          refine Est rfl (N.call0 a7B rfl rfl rfl dc (fun w Lp hA => ⟨hA.ow (mS (mS (mS (mS (mS (mS m0)))))), hA.ow m0⟩)) (fun _ _ => (Ent.b (fun q96 => ?_) (fun q96 => ?_)))
          ·refine Ey rfl ((Y.not (b := true) rfl).yd) (Eu (E.cf rfl (E.skipc (Et (Ew Z1 (Eas rfl rfl (Ev Z4 (Emv rfl rfl (Emv rfl rfl (Ent.p11 (Est rfl (N.call (pre := [_]) S8 rfl rfl rfl dc rfl (fun w Lp hA => ⟨(by first | assumption | omega), (by first | assumption | omega)⟩)) (fun _ _ => (Eas rfl rfl (Ev Z4 (Emv rfl rfl (Emv rfl rfl (Ent.p11 (Est rfl (N.call (pre := [_]) a4K rfl rfl rfl dc rfl (fun w Lp hA => ⟨(by first | assumption | omega), (by first | assumption | omega)⟩)) (fun _ _ => (Eas rfl rfl (Ev Z4 (Ey rfl (Y.ldS (cs := [_, _]) ty_Query rfl (Has.pt (mS (mS (mS (mS (mS (mS (mS (mS (mS m0)))))))))) rfl) (Emv rfl rfl (Ent.p11 (Ent.p11 (Est rfl (N.call (pre := [_, _]) a6G rfl rfl rfl dc rfl (fun w Lp hA => ⟨(by first | assumption | omega), (by first | assumption | omega)⟩)) (fun _ _ => (Eas rfl rfl (Ev Z4 (Emv rfl rfl (Emv rfl rfl (Ent.p10 (Est rfl (N.call (pre := [_]) a6g rfl rfl rfl dc rfl (fun w Lp hA => ⟨(by first | assumption | omega), (by first | assumption | omega)⟩)) (fun _ _ => (Eas rfl rfl (Eu (Eq_ (Ew Z13 (Emv rfl rfl (Ey rfl ((Y.lss rfl rfl).yd) (Ent.d (fun q111 => ?_) (fun q111 => ?_))))))))))))))))))))))))))))))))))))))))))
           ·exact absurd q111 om
           ·refine Emv rfl rfl (Emv rfl rfl (Emv rfl rfl (Est rfl (N.call0 a1T rfl rfl rfl dc (fun w Lp hA => ⟨hA.ow (mS (mS (mS (mS (mS (mS (mS (mS (mS (mS m0)))))))))), hA.ow (mS (mS (mS (mS (mS (mS (mS (mS (mS (mS (mS (mS m0))))))))))))⟩)) (fun _ _ => (Ent.b (fun q115 => ?_) (fun q115 => ?_))))))
            ·refine Ey rfl ((Y.not (b := true) rfl).yd) (Ey rfl ((Y.pkf rfl rfl).yd) (Emv rfl rfl (Emv rfl rfl (Emv rfl rfl (Ey rfl ((Y.neqB kr rfl rfl).yd) (Ent.d (fun q121 => ?_) (fun q121 => ?_)))))))
             ·exact absurd rfl q121
             ·refine Ey rfl ((Y.pkf rfl rfl).yd) (Eu (E.cf rfl (E.skipc (Et (Ew Z1 (Eas rfl rfl (Ev Z4 (Emv rfl rfl (Emv rfl rfl (Ent.p10 (Est rfl (N.call (pre := [_]) a6q rfl rfl rfl dc rfl (fun w Lp hA => ⟨(by first | assumption | omega), (by first | assumption | omega)⟩)) (fun _ _ => (Eas rfl rfl (Ev Z1 (Eas rfl rfl (Ev Z4 (Emv rfl rfl (Emv rfl rfl (Est rfl (N.call0 (a2M (a7n a2U b3P)) rfl rfl rfl dc (fun w Lp hA => ⟨hA.ow m0, (by (try simp only [r7 a0R, r7 a2U, r7 a1W, r7 a2e, r7 a1o, r7 a2b, r7 a0u, r7 a0G, r7 a1P, r7 a1S, r7 a1d, r7 a1j, r7 a0a, r7 a0i, r7 a0p, r7 a0J, r7 a2a, r7 a1X, r7 a1Z, r7 a1Q]); omega), (by (try simp only [r7 a0R, r7 a2U, r7 a1W, r7 a2e, r7 a1o, r7 a2b, r7 a0u, r7 a0G, r7 a1P, r7 a1S, r7 a1d, r7 a1j, r7 a0a, r7 a0i, r7 a0p, r7 a0J, r7 a2a, r7 a1X, r7 a1Z, r7 a1Q]); omega)⟩)) (fun _ _ => (Eas rfl rfl (Eu (Eq_ (Ew Z2 (Emv rfl rfl (Ey rfl ((Y.lss rfl rfl).yd) (Ent.d (fun q130 => ?_) (fun q130 => ?_))))))))))))))))))))))))))))
              ·exact absurd q130 om
              ·refine Eu (E.cf rfl (E.skipc (Et (Eq_ (Ew Z3 (Emv rfl rfl (Emv rfl rfl (Ey rfl ((Y.neq rfl rfl).yd) (Ent.d (fun q133 => ?_) (fun q133 => ?_))))))))))
               ·exact absurd (by simp only [r7 a0R, r7 a2U, r7 a1W, r7 a2e, r7 a1o, r7 a2b, r7 a0u, r7 a0G, r7 a1P, r7 a1S, r7 a1d, r7 a1j, r7 a0a, r7 a0i, r7 a0p, r7 a0J, r7 a2a, r7 a1X, r7 a1Z, r7 a1Q]) q133
               ·refine Eu (E.cf rfl (E.skipc (Et (Eq_ (D.region (fun j => true) mixed (Dyp 0 rfl (Y.mv rfl) (Dyp 2 rfl (Y.mv rfl) (Dy 4 rfl (Y.ldS (cs := [_, _]) ty_lQuery rfl (Has.pt (mS (mS (mS (mS (mS (mS (mS (mS (mS (mS (mS (mS (mS (mS (mS (mS (mS (mS m0))))))))))))))))))) rfl) (Dyp 6 rfl (Y.mv rfl) (D.st 1 rfl rfl kr (fun _ => rfl) (N.call (Q3 fc) rfl rfl rfl dc rfl (fun w Lp hA => hA.ro haS)) (fun k136 _ => ?_)))))))))))
                obtain ⟨a136, m136, c136⟩ := k136
                refine Ent.lenow m0 fun e136 l136 => ?_
                subst e136
                refine D.st 3 rfl rfl kr (fun _ => rfl) (N.call (a0c fc) rfl rfl rfl dc rfl (fun w Lp hA => hA.ro haL)) (fun k138 _ => ?_)
                obtain ⟨a138, m138, c138⟩ := k138
                refine Ent.lenow m0 fun e138 l138 => ?_
                subst e138
                refine D.st 5 rfl rfl kr (fun _ => rfl) (N.call (a0L fc fc) rfl rfl rfl dc rfl (fun w Lp hA => ⟨hA.ro a2g, hA.ro a1r⟩)) (fun k140 _ => ?_)
                obtain ⟨⟨a140_0, m140_0, c140_0⟩, ⟨a140_1, m140_1, c140_1⟩⟩ := k140
                refine Ent.lenow m0 fun e140_0 l140_0 => ?_
                subst e140_0
                refine Ent.lenow (mS m0) fun e140_1 l140_1 => ?_
                subst e140_1
                refine D.st 7 rfl rfl kr (fun _ => rfl) (N.call (a0P fc) rfl rfl rfl dc rfl (fun w Lp hA => hA.ro haFacts)) (fun k142 _ => ?_)
                obtain ⟨a142, m142, c142⟩ := k142
                refine Ent.lenow m0 fun e142 l142 => ?_
                subst e142
                refine D.st 8 rfl rfl kr (fun _ => rfl) (N.call (a0W fc) rfl rfl rfl dc rfl (fun w Lp hA => ⟨hA.ow (mS (mS (mS (mS m0)))), hA.ow (mS (mS (mS m0))), hA.ow (mS m0), hA.ow (mS (mS m0)), hA.ow m0⟩)) (fun k143 _ => ?_)
                obtain ⟨a143, m143, c143⟩ := k143
                refine Ent.lenow m0 fun e143 l143 => ?_
                subst e143
                refine Dyp 9 rfl (Y.mv rfl) (Dyp 10 rfl (Y.ext rfl rfl) (Dyp 11 rfl (Y.ext rfl rfl) (Dyp 12 rfl (Y.as rfl) (Dyp 13 rfl (Y.as rfl) (D.done kr (Et (Eq_ (Ew Z9 (Emv rfl rfl (Emv rfl rfl (Est rfl (N.call0 a1T rfl rfl rfl dc (fun w Lp hA => ⟨hA.ow m0, hA.ow (mS (mS (mS (mS (mS (mS (mS (mS (mS (mS (mS (mS (mS (mS (mS (mS (mS (mS m0))))))))))))))))))⟩)) (fun _ _ => (Ent.b (fun q148 => ?_) (fun q148 => ?_))))))))))))))
                ·refine Ey rfl ((Y.not (b := true) rfl).yd) (Emv rfl rfl (Emv rfl rfl (Emv rfl rfl (Ey rfl ((Y.neqB kr rfl rfl).yd) (Ent.d (fun q153 => ?_) (fun q153 => ?_))))))
                 ·exact absurd rfl q153
                 ·refine Ey rfl ((Y.pkf rfl rfl).yd) (Eu (E.cf rfl (E.skipc (Et (Ew Z1 (Eas rfl rfl (Ev Z4 (Emv rfl rfl (Emv rfl rfl (Est rfl (N.call0 (a2M (a7n a2U b3P)) rfl rfl rfl dc (fun w Lp hA => ⟨hA.ow (mS (mS (mS (mS (mS (mS m0)))))), (by (try simp only [r7 a0R, r7 a2U, r7 a1W, r7 a2e, r7 a1o, r7 a2b, r7 a0u, r7 a0G, r7 a1P, r7 a1S, r7 a1d, r7 a1j, r7 a0a, r7 a0i, r7 a0p, r7 a0J, r7 a2a, r7 a1X, r7 a1Z, r7 a1Q]); omega), (by (try simp only [r7 a0R, r7 a2U, r7 a1W, r7 a2e, r7 a1o, r7 a2b, r7 a0u, r7 a0G, r7 a1P, r7 a1S, r7 a1d, r7 a1j, r7 a0a, r7 a0i, r7 a0p, r7 a0J, r7 a2a, r7 a1X, r7 a1Z, r7 a1Q]); omega)⟩)) (fun _ _ => (Eas rfl rfl (Eu (Eq_ (Ew Z2 (Emv rfl rfl (Ey rfl ((Y.lss rfl rfl).yd) (Ent.d (fun q159 => ?_) (fun q159 => ?_)))))))))))))))))))
                  ·exact absurd q159 om
                  ·refine Eu (E.cf rfl (E.skipc (Et (Eq_ (Ew Z3 (Emv rfl rfl (Emv rfl rfl (Ey rfl ((Y.neq rfl rfl).yd) (Ent.d (fun q162 => ?_) (fun q162 => ?_))))))))))
                   ·exact absurd (by simp only [r7 a0R, r7 a2U, r7 a1W, r7 a2e, r7 a1o, r7 a2b, r7 a0u, r7 a0G, r7 a1P, r7 a1S, r7 a1d, r7 a1j, r7 a0a, r7 a0i, r7 a0p, r7 a0J, r7 a2a, r7 a1X, r7 a1Z, r7 a1Q]) q162
                   ·refine Eu (E.cf rfl (E.skipc (Et (Ew Z1 (Eas rfl rfl ?_)))))
                    exact Eu (E.ret (Fg rfl rfl () rfl rfl))
                ·refine Ey rfl ((Y.not (b := false) rfl).yd) (Emv rfl rfl (Es rfl (Es rfl (Es rfl (Ey rfl ((Y.pkt rfl rfl).yd) (Eu (E.ct rfl (Ew Z1 (Eas rfl rfl ?_)))))))))
                 exact Eu (E.ret (E.thr (Fb rfl rfl (by simp_all))))
            ·refine Ey rfl ((Y.not (b := false) rfl).yd) (Ey rfl ((Y.pkf rfl rfl).yd) (Emv rfl rfl (Es rfl (Es rfl (Es rfl (Ey rfl ((Y.pkt rfl rfl).yd) (Eu (E.ct rfl (Ew Z1 (Eas rfl rfl ?_))))))))))
             exact Eu (E.ret (E.thr (Fb rfl rfl (by simp_all))))
          ·refine Ey rfl ((Y.not (b := false) rfl).yd) (Eu (E.ct rfl (Ew Z1 (Eas rfl rfl ?_))))
           exact Eu (E.ret (E.thr (Fb rfl rfl (by simp_all))))
         ·refine Dyp 4 rfl (Y.not (b := false) rfl) (D.done kr (Et (E.ct rfl (Ew Z1 (Eas rfl rfl ?_)))))
          exact Eu (E.ret (E.thr (Fb rfl rfl (by simp_all))))
        ·refine Ey rfl ((Y.not (b := false) rfl).yd) (Eu (E.ct rfl (Ew Z1 (Eas rfl rfl ?_))))
         exact Eu (E.ret (E.thr (Fb rfl rfl (by simp_all))))
       ·refine Ey rfl ((Y.not (b := false) rfl).yd) (Eu (E.ct rfl (Ew Z1 (Eas rfl rfl ?_))))
        exact Eu (E.ret (E.thr (Fb rfl rfl (by simp_all))))
     ·refine Ey rfl ((Y.not (b := false) rfl).yd) (Emv rfl rfl (Es rfl (Es rfl (Es rfl (Ey rfl ((Y.pkt rfl rfl).yd) (Eu (E.ct rfl (Ew Z1 (Eas rfl rfl ?_)))))))))
      exact Eu (E.ret (E.thr (Fb rfl rfl (by simp_all))))
end Go.Proofs.YtdopeopehgdccaaGreat
