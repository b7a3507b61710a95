import Derived.Test.YthapcdhdfaibkaaGreatDoorT61
import Derived.Test.YthapcdhdfaibkaaGreatDoorEk
import Derived.Test.YthapcdhdfaibkaaGreatDoorT140
import Derived.Test.YthapcdhdfaibkaaGreatDoorT101
import Derived.Test.YthapcdhdfaibkaaGreatDoorT102
import Derived.Test.YthapcdhdfaibkaaGreatDoorHw
section
namespace Go.Proofs.YthapcdhdfaibkaaGreatDoor
open Go.RowKit
set_option linter.all false
set_option maxHeartbeats 2000000
attribute [local irreducible] Nop Yd Yp Ent Has Tr FnP FnP2 Src M5 U1 V6 W3 G3
variable {a6 d8 : List IL} {c6 : List Int} {B9 w4 B3 u4 L7 F9 : Nat} {w3 t8 F8 : Option Addr}
theorem a6m (hz : O1 (fun x => x.2.length) a6 ≤ 1048576) (hn : O1 (fun x => x.2.length) d8 ≤ 1048576) : Tr Tryz.prog 28 [.agg #[.slice w3 B9 w4, .slice t8 B3 u4, .slice F8 L7 F9]] (fun w L => Ro w L eIs [.slice w3 B9 w4] c6 ∧ Ro w L B1 [.slice t8 B3 u4] a6 ∧ Ro w L B1 [.slice F8 L7 F9] d8) [] (κ := Unit) (fun k => True) (fun k => P8 (a1E ((c6, a6), d8))) (fun k => []) := by
 refine Ti1 Tryz.func28 29 rfl fun w L hR => ?_
 obtain ⟨s8, r9, H7⟩ := hR
 obtain ⟨rfl, R3⟩ := s8.slen
 obtain ⟨rfl, Q3⟩ := r9.slen
 obtain ⟨rfl, a1r⟩ := H7.slen
 have jm : d8.length ≤ 1048576 := by unfold O1 at hn; omega
 refine Ew Z2<|Est rfl (N.box (cs := [_, _, _]) rfl dc rfl)<|fun b1 _ => Ei rfl<|Ev Z4<|Ey rfl ((C2 fo_Guarded_0 ty_Query dc rfl).yd)<|Ey rfl (k7 (cs := [_, _]) ty_Query rfl ((Has.pt m0).sub (cs' := [_, _]) 0 rfl) rfl)<|E0 rfl (a7A fc) rfl (fun hA => ⟨hA.ro s8, hA.ro r9⟩)<|Ei rfl<|Eu<|Eq_<|Ew Z2<|Em rfl<|Ey rfl ((a4C rfl rfl).yd)<|l3 (fun q11 => ?_)<|fun q11 => ?_
 ·refine Eu<|r6 rfl<|Ew Z1<|Ei rfl ?_
  exact Eu<|E.ret<|i9<|Fg rfl rfl () (by rw [show (a1E ((c6, a6), d8)) = ([]) from (by exact a7n q11)]; try rfl) rfl
 ·refine Eu<|Cf<|Eq_<|Ew Z4<|Lz fo_Guarded_1 ty_Atoms rfl m0 rfl<|Yln us_Atoms rfl<|Em rfl<|Eu<|E.block<|E.loop (κ := Nat) (fun r => r ≤ d8.length ∧ nT C9 d8 = nT C9 (d8.drop r)) (fun r => [(3, P8<|a0r (M6 (c6, a6))<|d8.take r), (13, .slice F8 d8.length F9), (14, .int .i64 (↑d8.length : Int)), (15, .int .i64 (r : Int))]) (fun r => [pt b1 30 [.slice w3 c6.length w4, .slice t8 a6.length u4, .slice F8 d8.length F9]]) (fun r => d8.length - r) (0) ⟨Nat.zero_le _, by rfl⟩ ⟨frS (by rfl), rfl, rfl, rfl, trivial⟩ (.refl _)<|fun r pr => ?_
  try dsimp only
  obtain ⟨pk, pa⟩ := pr
  have jl := a7z (l := d8.take r) (s := (M6 (c6, a6)))
  have jt := List.length_take_le r d8
  have jk := b0U (q := (c6, a6))
  refine Ew Z1<|Ylt rfl<|l3 (fun q16 => ?_)<|fun q16 => ?_
  ·obtain ⟨eb17, eo17, ec17, ea17, er17, el17, eh17⟩ := H7.elem r om
   obtain ⟨xa17_0, xc17_0, rfl, ei17_0, xh17_0⟩ := L5 er17
   have := xh17_0.slen.2
   refine Eu<|Eq_<|Ct<|Eq_<|E.block<|Ew Z4<|Ix us_Atoms ty_Atom rfl ea17 r rfl om<|Ey rfl (k7 (cs := [_, _]) ty_Atom rfl (eh17 _) rfl)<|Est rfl (N.alloc ty_Atom dc)<|fun b5 _ => Est rfl (Ns [_, _] ty_Atom rfl)<|fun _ _ => Ev Z3<|Ey rfl (k7 (cs := [_, _]) ty_Atom rfl (Has.pt m0) rfl)<|E0 rfl a3X rfl (fun hA => ⟨ei17_0, hA.ro xh17_0⟩)<|Ei rfl<|Eu<|Eq_<|Ew Z2<|Em rfl<|Ey rfl ((a4C rfl rfl).yd)<|l3 (fun q22 => ?_)<|fun q22 => ?_
   ·refine Eu<|r6 rfl<|Ew Z1<|Ei rfl ?_
    exact Eu<|E.ret<|i9<|u6<|i9<|i9<|u6<|i9<|Fg rfl rfl () (by rw [show (a1E ((c6, a6), d8)) = ([]) from (by exact b2a (pa.trans<|b1M om q22))]; try rfl) rfl
   ·have ja : (C9 (d8[r].1, d8[r].2)).length ≤ 100 := a0F
    refine Eu<|Cf<|Ez Z5<|Em rfl<|Em rfl<|Ey rfl ((P7 rfl rfl (by first | omega | (simp only [List.length_append, List.length_cons, List.length_nil] at *; omega))).yd)<|Ey rfl ((P7 rfl rfl (by first | omega | (simp only [List.length_append, List.length_cons, List.length_nil] at *; omega))).yd)<|Ei rfl<|En<|o6<|Et<|Ez Z2<|Yad rfl om om<|Em rfl<|Eu<|Ent.drop ?_
    exact t7 br (r + 1) ⟨frS (by rw [← a9p om, List.append_assoc]; rfl), rfl, rfl, rfl, trivial⟩ (.refl _) ⟨oz, (show nT C9 d8 = nT C9 (d8.drop<|r + 1) from by rw [pa]; exact a4f om q22)⟩ oz
  ·refine Eu<|Eq_<|r7 rfl<|E.exit<|l4<|l4<|w8<|Et<|Ew Z2<|Em rfl<|Ei rfl ?_
   exact Eu<|E.ret<|Fg rfl rfl () (by rw [show (a1E ((c6, a6), d8)) = (a0r (M6 (c6, a6))<|d8.take r) from (by rw [b1k q11<|pa.trans<|a9o om, List.take_of_length_le om])]; try rfl) rfl
theorem a5X (hz : O1 (fun x => x.2.length) a6 ≤ 1048576) (hn : O1 (fun x => x.2.length) d8 ≤ 1048576) : Tr Tryz.prog 29 [.agg #[.slice w3 B9 w4, .slice t8 B3 u4, .slice F8 L7 F9]] (fun w L => Ro w L eIs [.slice w3 B9 w4] c6 ∧ Ro w L B1 [.slice t8 B3 u4] a6 ∧ Ro w L B1 [.slice F8 L7 F9] d8) [] (κ := Unit) (fun k => True) (fun k => P8 (a1E ((c6, a6), d8))) (fun k => []) := by
 refine Ti1 Tryz.func29 33 rfl fun w L hR => ?_
 obtain ⟨s8, r9, H7⟩ := hR
 obtain ⟨rfl, R3⟩ := s8.slen
 obtain ⟨rfl, Q3⟩ := r9.slen
 obtain ⟨rfl, a1r⟩ := H7.slen
 have jm : d8.length ≤ 1048576 := by unfold O1 at hn; omega
 refine Ew Z2<|Est rfl (N.box (cs := [_, _, _]) rfl dc rfl)<|fun b1 _ => Ei rfl<|Ev Z4<|Ey rfl ((C2 fo_Guarded_0 ty_Query dc rfl).yd)<|Ey rfl (k7 (cs := [_, _]) ty_Query rfl ((Has.pt m0).sub (cs' := [_, _]) 0 rfl) rfl)<|E0 rfl (a7b fc) rfl (fun hA => ⟨hA.ro s8, hA.ro r9⟩)<|Ei rfl<|Eu<|Eq_<|Ew Z1<|Ei rfl<|Eu<|E.block<|E.loop (κ := Nat) (fun r => r ≤ d8.length ∧ (r = 0 ∨ ¬ (M6 (c6, a6)) = []) ∧ nT C9 d8 = nT C9 (d8.drop r)) (fun r => [(1, .pointer<|some ⟨b1, 0, none⟩), (3, P8<|a0r (M6 (c6, a6))<|d8.take r), (4, .int .i64 (r : Int))]) (fun r => [pt b1 30 [.slice w3 c6.length w4, .slice t8 a6.length u4, .slice F8 d8.length F9]]) (fun r => d8.length - r) (0) ⟨Nat.zero_le _, by exact ⟨.inl rfl, rfl⟩⟩ ⟨rfl, frS (by rfl), rfl, trivial⟩ (.refl _)<|fun r pr => ?_
 try dsimp only
 obtain ⟨pk, pa⟩ := pr
 have jl := a7z (l := d8.take r) (s := (M6 (c6, a6)))
 have jt := List.length_take_le r d8
 have jk := b0U (q := (c6, a6))
 refine Eq_<|Ew Z9<|Em rfl<|Lz fo_Guarded_1 ty_Atoms rfl m0 rfl<|Yln us_Atoms rfl<|Ylt rfl<|l3 (fun q13 => ?_)<|fun q13 => ?_
 ·refine Em rfl<|Em rfl<|Ey rfl ((c0g rfl rfl).yd)<|l3 (fun q16 => ?_)<|fun q16 => ?_
  ·refine Ypt rfl<|Eu<|Ct<|Eq_<|E.block<|Ew Z7<|Lz fo_Guarded_1 ty_Atoms rfl m0 rfl<|Em rfl ?_
   obtain ⟨eb23, eo23, ec23, ea23, er23, el23, eh23⟩ := H7.elem r om
   obtain ⟨xa23_0, xc23_0, rfl, ei23_0, xh23_0⟩ := L5 er23
   have := xh23_0.slen.2
   refine Ix us_Atoms ty_Atom rfl ea23 r rfl om<|Ey rfl (k7 (cs := [_, _]) ty_Atom rfl (eh23 _) rfl)<|E0 rfl a2w rfl (fun hA => ⟨ei23_0, hA.ro xh23_0⟩)<|Ei rfl<|Eu<|Eq_<|Ew Z2<|Em rfl<|Ey rfl ((a4C rfl rfl).yd)<|l3 (fun q27 => ?_)<|fun q27 => ?_
   ·refine Eu<|r6 rfl<|Ew Z1<|Ei rfl ?_
    exact Eu<|E.ret<|i9<|u6<|i9<|i9<|u6<|i9<|Fg rfl rfl () (by rw [show (a1E ((c6, a6), d8)) = ([]) from (by exact b2a (pa.2.trans<|b1M om q27))]; try rfl) rfl
   ·have ja : (C9 (d8[r].1, d8[r].2)).length ≤ 100 := a0F
    refine Eu<|Cf<|Ez Z5<|Em rfl<|Ey rfl ((P7 rfl rfl (by first | omega | (simp only [List.length_append, List.length_cons, List.length_nil] at *; omega))).yd)<|Em rfl<|Ey rfl ((P7 rfl rfl (by first | omega | (simp only [List.length_append, List.length_cons, List.length_nil] at *; omega))).yd)<|Ei rfl<|En<|o6<|Et<|Ez Z3<|Em rfl<|Yad rfl om om<|Ei rfl ?_
    exact Eu<|t7 br (r + 1) ⟨rfl, frS (by exact a9p om), rfl, trivial⟩ (.refl _) ⟨oz, (show ((r + 1) = 0 ∨ ¬ (M6 (c6, a6)) = []) ∧ nT C9 d8 = nT C9 (d8.drop<|r + 1) from by exact ⟨.inr<|b5i pa.1 q16, by rw [pa.2]; exact a4f om q27⟩)⟩ oz
  ·refine Ypt rfl<|Eu<|r7 rfl<|E.exit<|l4<|l4<|w8<|Et<|Ew Z2<|Em rfl<|Ei rfl ?_
   exact Eu<|E.ret<|Fg rfl rfl () (by rw [show (a1E ((c6, a6), d8)) = (a0r (M6 (c6, a6))<|d8.take r) from (by rw [a7n<|b5A<|Decidable.not_not.1 q16]; exact (Decidable.not_not.1 q16).symm)]; try rfl) rfl
 ·refine Em rfl<|Es rfl<|Es rfl<|Ypf rfl<|Eu<|r7 rfl<|E.exit<|l4<|l4<|w8<|Et<|Ew Z2<|Em rfl<|Ei rfl ?_
  exact Eu<|E.ret<|Fg rfl rfl () (by rw [show (a1E ((c6, a6), d8)) = (a0r (M6 (c6, a6))<|d8.take r) from (by exact b5I (show ¬ r < d8.length by omega) pa.1 pa.2)]; try rfl) rfl
end Go.Proofs.YthapcdhdfaibkaaGreatDoor
end
section
namespace Go.Proofs.YthapcdhdfaibkaaGreatDoor
open Go.RowKit
set_option linter.all false
set_option maxHeartbeats 2000000
attribute [local irreducible] Nop Yd Yp Ent Has Tr FnP FnP2 Src M5 U1 V6 W3 G3
variable {a6 d8 d6 : List IL} {s c6 tuple : List Int} {m_s c_s B9 w4 B3 u4 L7 F9 m_facts c_facts m_tuple c_tuple : Nat} {a_s w3 t8 F8 a_facts a_tuple : Option Addr}
theorem a3K {a_l : Option Addr} {m_l c_l : Nat} {l : List (List Int)} {a_t : Option Addr} {m_t c_t : Nat} {t : List Int} : TB Tryz.prog 116 [.slice a_l m_l c_l, .slice a_t m_t c_t] (fun w L => Ro w L H3 [.slice a_l m_l c_l] l ∧ Ro w L eIs [.slice a_t m_t c_t] t) (T0 l t) := by
 refine Ti2 Tryz.func116 18 rfl fun w L hR => ?_
 obtain ⟨hl, ht⟩ := hR
 obtain ⟨rfl, ll⟩ := hl.slen
 obtain ⟨rfl, lt⟩ := ht.slen
 refine Ew Z1<|Ei rfl<|Eu<|Eq_<|Ew Z1<|Ei rfl<|Eu<|E.block<|Lo (κ := Nat) (fun g => g ≤ l.length ∧ T0 l t = T0 (l.drop g) t) (fun g => [(0, .slice a_l l.length c_l), (1, .slice a_t t.length c_t), (5, .int .i64 (g : Int))]) (fun g => []) (fun g => l.length - g) 0 ⟨Nat.zero_le _, by simp⟩<|fun g pg => ?_
 obtain ⟨pk, pa⟩ := pg
 refine Eq_<|Ew Z4<|Em rfl<|Em rfl<|Yln us_Iss rfl<|Ylt rfl<|l3 (fun q9 => ?_)<|fun q9 => ?_
 ·refine Eu<|Ct<|Eq_<|E.block<|Ew Z6<|Em rfl<|Em rfl ?_
  obtain ⟨eb14, eo14, ec14, ea14, er14, el14, eh14⟩ := hl.elem g om
  obtain ⟨xa14, xc14, rfl⟩ := er14.sl
  have := er14.slen.2
  refine Il us_Iss ty_Is rfl ea14 g rfl om rfl (eh14 _)<|Em rfl<|E0 rfl a2E rfl (fun hA => ⟨hA.ro er14, hA.ro ht⟩)<|Ent.b (fun q17 => ?_)<|fun q17 => ?_
  ·refine Eu<|r6 rfl<|Ew Z1<|Ei rfl<|Eu<|E.ret<|u6<|i9<|i9<|u6<|i9<|Fb rfl rfl (by grind [T0, d1, d2, t1, t2])
  ·refine Eu<|r7 rfl<|v8<|o6<|Et<|Ez Z3<|Em rfl<|Yad rfl om om<|Ei rfl ?_
   exact Eu<|t7 br (g + 1) rs (.refl _) ⟨by omega, by grind [T0, d1, d2, t1, t2]⟩ om
 ·refine Eu<|r7 rfl<|E.exit<|l4<|l4<|w8<|Et<|Ew Z1<|Ei rfl<|Eu<|E.ret<|Fb rfl rfl (by grind [T0, d1, d2, t1, t2])
theorem a9b (hz : O1 (fun x => x.2.length) a6 ≤ 1048576) (hn : O1 (fun x => x.2.length) d8 ≤ 1048576) : TB Tryz.prog 25 [.slice a_s m_s c_s, .agg #[.slice w3 B9 w4, .slice t8 B3 u4, .slice F8 L7 F9], .slice a_facts m_facts c_facts, .slice a_tuple m_tuple c_tuple] (fun w L => Ro w L eIs [.slice a_s m_s c_s] s ∧ Ro w L eIs [.slice w3 B9 w4] c6 ∧ Ro w L B1 [.slice t8 B3 u4] a6 ∧ Ro w L B1 [.slice F8 L7 F9] d8 ∧ Ro w L s5 [.slice a_facts m_facts c_facts] d6 ∧ Ro w L eIs [.slice a_tuple m_tuple c_tuple] tuple) (a7d s ((c6, a6), d8) d6 tuple) := by
 refine Ti4 Tryz.func25 30 rfl fun w L hR => ?_
 obtain ⟨hs, s8, r9, H7, hfacts, htuple⟩ := hR
 obtain ⟨rfl, ls⟩ := hs.slen
 obtain ⟨rfl, R3⟩ := s8.slen
 obtain ⟨rfl, Q3⟩ := r9.slen
 obtain ⟨rfl, a1r⟩ := H7.slen
 obtain ⟨rfl, lfacts⟩ := hfacts.slen
 obtain ⟨rfl, ltuple⟩ := htuple.slen
 refine Ew Z2<|Est rfl (N.box (cs := [_, _, _]) rfl dc rfl)<|fun b5 _ => Ei rfl<|Ev Z22<|Em rfl<|Ey rfl (k7 (cs := [_, _, _]) ty_Guarded rfl (Has.pt m0) rfl)<|E0 rfl (a1D fc fc) rfl (fun hA => ⟨hA.ro hs, hA.ro s8, hA.ro r9, hA.ro H7⟩)<|Ent.b (fun q11 => ?_)<|fun q11 => ?_
 ·refine Em rfl<|Em rfl<|Ey rfl ((C2 fo_Guarded_0 ty_Query dc rfl).yd)<|Ey rfl (k7 (cs := [_, _]) ty_Query rfl ((Has.pt m0).sub (cs' := [_, _]) 0 rfl) rfl)<|Em rfl<|El rfl (a8K fc) rfl (fun hA => ⟨hA.ro hs, hA.ro s8, hA.ro r9, hA.ro hfacts⟩)<|fun a17 c17 l17 => Em rfl<|E0 rfl a3f rfl (fun hA => ⟨hA.ow m0, hA.ro htuple⟩)<|Ent.b (fun q19 => ?_)<|fun q19 => ?_
  ·refine Ypt rfl<|Em rfl<|Em rfl<|Ey rfl (k7 (cs := [_, _, _]) ty_Guarded rfl (Has.pt<|mS m0) rfl)<|Em rfl<|El rfl (a2T fc fc) rfl (fun hA => ⟨hA.ro hs, hA.ro s8, hA.ro r9, hA.ro H7, hA.ro hfacts⟩)<|fun a25 c25 l25 => Em rfl<|E0 rfl a3f rfl (fun hA => ⟨hA.ow m0, hA.ro htuple⟩)<|Ey rfl ((Y.not rfl).yd)<|Ypt rfl<|Ei rfl<|Eu<|E.ret<|Fb rfl rfl (by grind [a7d, d1, d2, t1, t2])
  ·refine Ypt rfl<|Em rfl<|Es rfl<|Es rfl<|Es rfl<|Es rfl<|Es rfl<|Es rfl<|Es rfl<|Ypf rfl<|Ei rfl<|Eu<|E.ret<|Fb rfl rfl (by grind [a7d, d1, d2, t1, t2])
 ·refine Em rfl<|Es rfl<|Es rfl<|Es rfl<|Es rfl<|Es rfl<|Es rfl<|Es rfl<|Ypf rfl<|Em rfl<|Es rfl<|Es rfl<|Es rfl<|Es rfl<|Es rfl<|Es rfl<|Es rfl<|Ypf rfl<|Ei rfl<|Eu<|E.ret<|Fb rfl rfl (by grind [a7d, d1, d2, t1, t2])
theorem a8Z (hz : O1 (fun x => x.2.length) a6 ≤ 1048576) (hn : O1 (fun x => x.2.length) d8 ≤ 1048576) : TB Tryz.prog 26 [.slice a_s m_s c_s, .agg #[.slice w3 B9 w4, .slice t8 B3 u4, .slice F8 L7 F9], .slice a_facts m_facts c_facts, .slice a_tuple m_tuple c_tuple] (fun w L => Ro w L eIs [.slice a_s m_s c_s] s ∧ Ro w L eIs [.slice w3 B9 w4] c6 ∧ Ro w L B1 [.slice t8 B3 u4] a6 ∧ Ro w L B1 [.slice F8 L7 F9] d8 ∧ Ro w L s5 [.slice a_facts m_facts c_facts] d6 ∧ Ro w L eIs [.slice a_tuple m_tuple c_tuple] tuple) (a7d s ((c6, a6), d8) d6 tuple) := by
 refine Ti4 Tryz.func26 30 rfl fun w L hR => ?_
 obtain ⟨hs, s8, r9, H7, hfacts, htuple⟩ := hR
 obtain ⟨rfl, ls⟩ := hs.slen
 obtain ⟨rfl, R3⟩ := s8.slen
 obtain ⟨rfl, Q3⟩ := r9.slen
 obtain ⟨rfl, a1r⟩ := H7.slen
 obtain ⟨rfl, lfacts⟩ := hfacts.slen
 obtain ⟨rfl, ltuple⟩ := htuple.slen
 refine Ew Z2<|Est rfl (N.box (cs := [_, _, _]) rfl dc rfl)<|fun b5 _ => Ei rfl<|Ev Z22<|Em rfl<|Ey rfl ((C2 fo_Guarded_0 ty_Query dc rfl).yd)<|Ey rfl (k7 (cs := [_, _]) ty_Query rfl ((Has.pt m0).sub (cs' := [_, _]) 0 rfl) rfl)<|Em rfl<|El rfl (a2K fc) rfl (fun hA => ⟨hA.ro hs, hA.ro s8, hA.ro r9, hA.ro hfacts⟩)<|fun a13 c13 l13 => Em rfl<|E0 rfl a3K rfl (fun hA => ⟨hA.ow m0, hA.ro htuple⟩)<|Ent.b (fun q15 => ?_)<|fun q15 => ?_
 ·refine Em rfl<|Em rfl<|Ey rfl (k7 (cs := [_, _, _]) ty_Guarded rfl (Has.pt<|mS m0) rfl)<|E0 rfl (a0M fc fc) rfl (fun hA => ⟨hA.ro hs, hA.ro s8, hA.ro r9, hA.ro H7⟩)<|Ent.b (fun q19 => ?_)<|fun q19 => ?_
  ·refine Ypt rfl<|Em rfl<|Em rfl<|Ey rfl (k7 (cs := [_, _, _]) ty_Guarded rfl (Has.pt<|mS m0) rfl)<|Em rfl<|El rfl (a2V fc fc) rfl (fun hA => ⟨hA.ro hs, hA.ro s8, hA.ro r9, hA.ro H7, hA.ro hfacts⟩)<|fun a25 c25 l25 => Em rfl<|E0 rfl a3K rfl (fun hA => ⟨hA.ow m0, hA.ro htuple⟩)<|Ey rfl ((Y.not rfl).yd)<|Ypt rfl<|Ei rfl<|Eu<|E.ret<|Fb rfl rfl (by grind [a7d, d1, d2, t1, t2])
  ·refine Ypt rfl<|Em rfl<|Es rfl<|Es rfl<|Es rfl<|Es rfl<|Es rfl<|Es rfl<|Es rfl<|Ypf rfl<|Ei rfl<|Eu<|E.ret<|Fb rfl rfl (by grind [a7d, d1, d2, t1, t2])
 ·refine Em rfl<|Es rfl<|Es rfl<|Es rfl<|Ypf rfl<|Em rfl<|Es rfl<|Es rfl<|Es rfl<|Es rfl<|Es rfl<|Es rfl<|Es rfl<|Ypf rfl<|Ei rfl<|Eu<|E.ret<|Fb rfl rfl (by grind [a7d, d1, d2, t1, t2])
end Go.Proofs.YthapcdhdfaibkaaGreatDoor
end
section
namespace Go.Proofs.YthapcdhdfaibkaaGreatDoor
open Go.RowKit Go.ChangeShapes Go.WideShapes Go.ChangeAt
theorem a0U.u8 {P : Program} {t : TypeId} (ht : P.underlying t = some (.int .u8)) : a0U P Enc.u8 t := fun h => by
  obtain ⟨n, rfl, _, hw⟩ := DataW.trod_int ht h
  have hr : 0 ≤ n ∧ n ≤ 255 := by simpa [Lit.wf, IntKind.min, IntKind.max, IntKind.signed, IntKind.bits] using hw
  refine ⟨UInt8.ofNat n.toNat, [], ?_, rfl⟩
  have : (UInt8.ofNat n.toNat).toNat = n.toNat := by rw [UInt8.toNat_ofNat']; omega
  rw [this, Int.toNat_of_nonneg hr.1]
theorem op_U8s : a0U Tryz.prog a0B 22 := a0U.sl us_U8s (by kernel_rfl) (a0U.u8 (by kernel_rfl))
end Go.Proofs.YthapcdhdfaibkaaGreatDoor
end
section
namespace Go.Proofs.YthapcdhdfaibkaaGreatDoor
open Go.RowKit
set_option linter.all false
set_option maxHeartbeats 2000000
attribute [local irreducible] Nop Yd Yp Ent Has Tr FnP FnP2 Src M5 U1 V6 W3 G3
theorem a6H {a_l : Option Addr} {m_l c_l : Nat} {l : List IL} : TB Tryz.prog 14 [.slice a_l m_l c_l] (fun w L => Ro w L z6 [.slice a_l m_l c_l] l) (decide l.Nodup) := by
 refine Ti1 Tryz.func14 40 rfl fun w L hR => ?_
 have hl := hR
 obtain ⟨rfl, ll⟩ := hl.slen
 refine Ew Z1<|Ei rfl<|Eu<|Eq_<|Ew Z1<|Ei rfl<|Eu<|E.block<|Lo (κ := Nat) (fun g => g ≤ l.length ∧ (l.take g).Nodup) (fun g => [(0, .slice a_l l.length c_l), (3, .int .i64 (g : Int))]) (fun g => []) (fun g => l.length - g) 0 ⟨Nat.zero_le _, by simp⟩<|fun g pg => ?_
 obtain ⟨pk, pa⟩ := pg
 refine Eq_<|Ew Z4<|Em rfl<|Em rfl<|Yln us_Accesss rfl<|Ylt rfl<|l3 (fun q8 => ?_)<|fun q8 => ?_
 ·refine Eu<|Ct<|Eq_<|E.block<|Ew Z1<|Ei rfl<|Eu<|E.block<|Lo (κ := Nat) (fun h => h ≤ g ∧ ∀ x ∈ l.take h, x ≠ l[g]) (fun h => [(0, .slice a_l l.length c_l), (3, .int .i64 (g : Int)), (4, .int .i64 (h : Int))]) (fun h => []) (fun h => g - h) 0 ⟨Nat.zero_le _, by simp⟩<|fun h ph => ?_
  obtain ⟨pk1, pb⟩ := ph
  refine Eq_<|Ew Z3<|Em rfl<|Em rfl<|Ylt rfl<|l3 (fun q13 => ?_)<|fun q13 => ?_
  ·refine Eu<|Ct<|Eq_<|E.block<|Eq_<|D.region (fun j => true) mixed<|Dm 0 rfl<|Dm 1 rfl ?_
   obtain ⟨eb18, eo18, ec18, ea18, er18, el18, eh18⟩ := hl.elem g om
   obtain ⟨xa18_0, xc18_0, rfl, ei18_0, xh18_0⟩ := X7 er18
   have := xh18_0.slen.2
   refine Dyp 2 rfl (z8 us_Accesss ty_Access rfl ea18 rfl g rfl om)<|Df 3 4 fo_Access_0 i7 rfl (Hs (eh18 _) 0 rfl)<|Dm 5 rfl<|Dm 6 rfl ?_
   obtain ⟨eb23, eo23, ec23, ea23, er23, el23, eh23⟩ := hl.elem h om
   obtain ⟨xa23_0, xc23_0, rfl, ei23_0, xh23_0⟩ := X7 er23
   have := xh23_0.slen.2
   refine Dyp 7 rfl (z8 us_Accesss ty_Access rfl ea23 rfl h rfl om)<|Df 8 9 fo_Access_0 i7 rfl (Hs (eh23 _) 0 rfl)<|Dyp 10 rfl (Y.eql rfl rfl)<|l3 (fun q26 => ?_)<|fun q26 => ?_
   ·refine Dm 11 rfl<|Dm 12 rfl<|Dm 13 rfl<|Dyp 14 rfl (z8 us_Accesss ty_Access rfl ea18 rfl g rfl om)<|Df 15 16 fo_Access_1 ty_Is rfl (Hs (eh18 _) 1 rfl)<|Dm 17 rfl<|Dm 18 rfl<|Dyp 19 rfl (z8 us_Accesss ty_Access rfl ea23 rfl h rfl om)<|Df 20 21 fo_Access_1 ty_Is rfl (Hs (eh23 _) 1 rfl)<|D0 22 rfl a3a rfl (fun hA => ⟨hA.ro xh18_0, hA.ro xh23_0⟩)<|Ent.b (fun q38 => ?_)<|fun q38 => ?_
    ·refine Dyp 23 rfl (K7 rfl rfl)<|n9 kr<|Et<|r6 rfl<|Ew Z1<|Ei rfl<|Eu<|E.ret<|u6<|i9<|i9<|u6<|u6<|i9<|i9<|u6<|i9<|Fb rfl rfl (by exact b9x om om q26 q38)
    ·refine Dyp 23 rfl (K7 rfl rfl)<|n9 kr<|Et<|r7 rfl<|v8<|o6<|Et<|Ez Z3<|Em rfl<|Yad rfl om om<|Ei rfl ?_
     exact Eu<|t7 br (h + 1) rs (.refl _) ⟨by omega, by first | exact b6e om om pb q26 | exact b5s om om pb q38⟩ om
   ·refine Dm 11 rfl<|Dsk 12 rfl<|Dsk 13 rfl<|Dsk 14 rfl<|Dsk 15 rfl<|Dsk 16 rfl<|Dsk 17 rfl<|Dsk 18 rfl<|Dsk 19 rfl<|Dsk 20 rfl<|Dsk 21 rfl<|Dsk 22 rfl<|Dyp 23 rfl (L8 rfl rfl)<|n9 kr<|Et<|r7 rfl<|v8<|o6<|Et<|Ez Z3<|Em rfl<|Yad rfl om om<|Ei rfl ?_
    exact Eu<|t7 br (h + 1) rs (.refl _) ⟨by omega, by first | exact b6e om om pb q26 | exact b5s om om pb q38⟩ om
  ·refine Eu<|r7 rfl<|E.exit<|l4<|l4<|w8<|o6<|Et<|Ez Z3<|Em rfl<|Yad rfl om om<|Ei rfl ?_
   exact Eu<|t7 br (g + 1) ⟨rfl, rfl, trivial⟩ (.refl _) ⟨by omega, by exact c1h om pa pb om⟩ om
 ·refine Eu<|r7 rfl<|E.exit<|l4<|l4<|w8<|Et<|Ew Z1<|Ei rfl<|Eu<|E.ret<|Fb rfl rfl (by exact b8V om pa)
end Go.Proofs.YthapcdhdfaibkaaGreatDoor
end
section
namespace Go.Proofs.YthapcdhdfaibkaaGreatDoor
open Go.RowKit
set_option linter.all false
set_option maxHeartbeats 2000000
attribute [local irreducible] Nop Yd Yp Ent Has Tr FnP FnP2 Src M5 U1 V6 W3 G3
theorem a9K {a_code : Option Addr} {m_code c_code : Nat} {code : List UInt8} : TB Tryz.prog 3 [.slice a_code m_code c_code] (fun w L => Ro w L a0B [.slice a_code m_code c_code] code) (true) := by
 refine Ti1 Tryz.func3 186 rfl fun w L hR => ?_
 have hcode := hR
 obtain ⟨rfl, lcode⟩ := hcode.slen
 refine Ew Z1<|Ei rfl<|Eu<|Eq_<|Ew Z2<|Em rfl<|E0 rfl b4D rfl (fun hA => hA.ro hcode)<|Ent.b (fun q27 => ?_)<|fun q27 => ?_
 ·refine Eu<|r6 rfl<|Ew Z1<|Ei rfl<|Eu<|E.ret<|i9<|Fg rfl rfl () rfl rfl
 ·have hcl : code.length ≤ 1048576 := by have := of_decide_eq_false q27; omega
  refine Eu<|Cf<|Ew Z12<|Em rfl<|Est rfl (N.call (a5K (by first | assumption | omega)) rfl rfl rfl dc rfl<|fun w Lp hA => hA.ro hcode)<|fun k30 o30 => ?_
  obtain ⟨xs30, ms30, gh30, ga30, gn30, fl30, ⟨a30_0, m30_0, c30_0⟩, ⟨a30_1, m30_1, c30_1⟩, ⟨a30_2, m30_2, c30_2⟩, ⟨a30_3, m30_3, c30_3⟩, ⟨a30_4, m30_4, c30_4⟩, ⟨a30_5, m30_5, c30_5⟩⟩ := k30
  try dsimp only at o30
  try (conv => arg 4; dsimp only)
  try (conv => arg 5; dsimp only [ca, na])
  have jq := o30.2.2.1.small
  have jt := a3N jq
  have jn := b9P o30.2.2.2.1
  refine r8 m0 ?_
  rintro rfl l30_0
  refine r8 (mS m0) ?_
  rintro rfl l30_1
  refine r8 (mS<|mS m0) ?_
  rintro rfl l30_2
  refine r8 (mS<|mS<|mS m0) ?_
  rintro rfl l30_3
  refine r8 (mS<|mS<|mS<|mS m0) ?_
  rintro rfl l30_4
  refine r8 (mS<|mS<|mS<|mS<|mS m0) ?_
  rintro rfl l30_5
  refine y7<|y7<|y7<|y7<|y7<|y7<|O0 (A := [_, _, _, _, _, _]) rfl fun wb1 Lb1 hB1 hA1 => ?_
  have hcode := hA1.ro hcode
  have rb1_0 : Ro wb1 Lb1 eIs [.slice a30_0 (xs30).length c30_0] xs30 := hA1.ow m0
  have rb1_1 : Ro wb1 Lb1 G0 [.slice a30_1 (ms30).length c30_1] ms30 := hA1.ow (mS m0)
  have rb1_2 : Ro wb1 Lb1 eIs [.slice a30_2 (gh30).length c30_2] gh30 := hA1.ow (mS (mS m0))
  have rb1_3 : Ro wb1 Lb1 B1 [.slice a30_3 (ga30).length c30_3] ga30 := hA1.ow (mS (mS (mS m0)))
  have rb1_4 : Ro wb1 Lb1 B1 [.slice a30_4 (gn30).length c30_4] gn30 := hA1.ow (mS (mS (mS (mS m0))))
  have rb1_5 : Ro wb1 Lb1 s5 [.slice a30_5 (fl30).length c30_5] fl30 := hA1.ow (mS (mS (mS (mS (mS m0)))))
  refine Em rfl<|Ey rfl ((Y.ext rfl rfl).yd)<|Ey rfl ((Y.ext rfl rfl).yd)<|Ey rfl ((Y.ext rfl rfl).yd)<|Ey rfl ((Y.ext rfl rfl).yd)<|Est rfl (N.alloc ty_Guarded dc)<|fun b5 _ => Ei rfl<|Ei rfl<|Est rfl (Ns [_, _, _] ty_Guarded rfl)<|fun _ _ => Ei rfl<|Ev Z12<|Em rfl<|Em rfl<|Ey rfl (k7 (cs := [_, _, _]) ty_Guarded rfl (Has.pt m0) rfl)<|Em rfl<|Est rfl (N.call (a8k (by first | assumption | omega) (by first | assumption | omega)) rfl rfl rfl dc rfl<|fun w Lp hA => ⟨hA.ro rb1_0, hA.ro rb1_1, hA.ro rb1_2, hA.ro rb1_3, hA.ro rb1_4, hA.ro rb1_5⟩)<|fun k40 _ => ?_
  obtain ⟨⟨a40_0, m40_0, c40_0⟩, ⟨a40_1, m40_1, c40_1⟩⟩ := k40
  refine r8 m0 ?_
  rintro rfl l40_0
  refine r8 (mS m0) ?_
  rintro rfl l40_1
  refine f5<|f5<|O0 (A := [_, _]) rfl fun wb2 Lb2 hB2 hA2 => ?_
  have hcode := hA2.ro hcode
  have rb1_0 := hA2.ro rb1_0
  have rb1_1 := hA2.ro rb1_1
  have rb1_2 := hA2.ro rb1_2
  have rb1_3 := hA2.ro rb1_3
  have rb1_4 := hA2.ro rb1_4
  have rb1_5 := hA2.ro rb1_5
  have rb2_0 : Ro wb2 Lb2 H3 [.slice a40_0 (rgA xs30 ms30 ((gh30, ga30), gn30) fl30).length c40_0] (rgA xs30 ms30 ((gh30, ga30), gn30) fl30) := hA2.ow m0
  have rb2_1 : Ro wb2 Lb2 z6 [.slice a40_1 (rgL xs30 ms30 ((gh30, ga30), gn30) fl30).length c40_1] (rgL xs30 ms30 ((gh30, ga30), gn30) fl30) := hA2.ow (mS m0)
  refine Em rfl<|Ey rfl ((Y.ext rfl rfl).yd)<|Ey rfl ((Y.ext rfl rfl).yd)<|Ey rfl ((Y.ext rfl rfl).yd)<|Ei rfl<|Ei rfl<|Ei rfl<|Ev Z12<|Em rfl<|Em rfl<|Ey rfl (k7 (cs := [_, _, _]) ty_Guarded rfl (Has.pt m0) rfl)<|Em rfl<|Est rfl (N.call (a8f (by first | assumption | omega) (by first | assumption | omega)) rfl rfl rfl dc rfl<|fun w Lp hA => ⟨hA.ro rb1_0, hA.ro rb1_1, hA.ro rb1_2, hA.ro rb1_3, hA.ro rb1_4, hA.ro rb1_5⟩)<|fun k49 _ => ?_
  obtain ⟨⟨a49_0, m49_0, c49_0⟩, ⟨a49_1, m49_1, c49_1⟩⟩ := k49
  refine r8 m0 ?_
  rintro rfl l49_0
  refine r8 (mS m0) ?_
  rintro rfl l49_1
  refine f5<|f5<|O0 (A := [_, _]) rfl fun wb3 Lb3 hB3 hA3 => ?_
  have hcode := hA3.ro hcode
  have rb1_0 := hA3.ro rb1_0
  have rb1_1 := hA3.ro rb1_1
  have rb1_2 := hA3.ro rb1_2
  have rb1_3 := hA3.ro rb1_3
  have rb1_4 := hA3.ro rb1_4
  have rb1_5 := hA3.ro rb1_5
  have rb2_0 := hA3.ro rb2_0
  have rb2_1 := hA3.ro rb2_1
  have rb3_0 : Ro wb3 Lb3 H3 [.slice a49_0 (rgA xs30 ms30 ((gh30, ga30), gn30) fl30).length c49_0] (rgA xs30 ms30 ((gh30, ga30), gn30) fl30) := hA3.ow m0
  have rb3_1 : Ro wb3 Lb3 z6 [.slice a49_1 (rgL xs30 ms30 ((gh30, ga30), gn30) fl30).length c49_1] (rgL xs30 ms30 ((gh30, ga30), gn30) fl30) := hA3.ow (mS m0)
  refine Em rfl<|Ey rfl ((Y.ext rfl rfl).yd)<|Ey rfl ((Y.ext rfl rfl).yd)<|Ey rfl ((Y.ext rfl rfl).yd)<|Ei rfl<|Ei rfl<|Ei rfl<|Ev Z5<|Em rfl<|Ey rfl (k7 (cs := [_, _, _]) ty_Guarded rfl (Has.pt m0) rfl)<|Em rfl<|El rfl (a2T (by first | assumption | omega) (by first | assumption | omega)) rfl (fun hA => ⟨hA.ro rb1_0, hA.ro rb1_2, hA.ro rb1_3, hA.ro rb1_4, hA.ro rb1_5⟩)<|fun a56 c56 l56 => Ei rfl<|Eu<|Eq_<|a1X (κ := Unit) (fun _ => True) (fun kM => [(0, .slice a_code code.length c_code), (3, .slice a30_0 (xs30).length c30_0), (4, .slice a30_1 (ms30).length c30_1), (5, .pointer<|some ⟨b5, 0, none⟩), (6, .slice a30_5 (fl30).length c30_5), (13, .slice a56 (a0x xs30 ((gh30, ga30), gn30) fl30).length c56)]) (fun kM => [ow H3 [.slice a56 (a0x xs30 ((gh30, ga30), gn30) fl30).length c56]<|a0x xs30 ((gh30, ga30), gn30) fl30, pt b5 30 [.slice a30_2 (gh30).length c30_2, .slice a30_3 (ga30).length c30_3, .slice a30_4 (gn30).length c30_4]]) ?_<|fun kM _ => ?_
  ·refine Ew Z41<|Em rfl<|Em rfl<|Ey rfl ((c0l kr rfl rfl).yd)<|l3 (fun q59 => ?_)<|fun q59 => ?_
   ·exact absurd rfl q59
   ·refine Em rfl<|Em rfl<|Em rfl<|E0 rfl a2y rfl (fun hA => ⟨hA.ro rb2_0, hA.ro rb3_0⟩)<|Ent.b (fun q63 => ?_)<|fun q63 => ?_
    ·refine Yno true rfl<|Ypf rfl<|Em rfl<|Em rfl<|Em rfl<|E0 rfl a6V rfl (fun hA => ⟨hA.ro rb2_1, hA.ro rb3_1⟩)<|Ent.b (fun q69 => ?_)<|fun q69 => ?_
     ·refine Yno true rfl<|Ypf rfl<|Em rfl<|Em rfl<|Em rfl<|Ey rfl (k7 (cs := [_, _, _]) ty_Guarded rfl (Has.pt<|mS m0) rfl)<|Em rfl<|El rfl (a2V (by first | assumption | omega) (by first | assumption | omega)) rfl (fun hA => ⟨hA.ro rb1_0, hA.ro rb1_2, hA.ro rb1_3, hA.ro rb1_4, hA.ro rb1_5⟩)<|fun a77 c77 l77 => E0 rfl a2y rfl (fun hA => ⟨hA.ow<|mS m0, hA.ow m0⟩)<|Ent.b (fun q78 => ?_)<|fun q78 => ?_
      ·refine Yno true rfl<|Ypf rfl<|Em rfl<|Em rfl<|Ent.b (fun q82 => ?_)<|fun q82 => ?_
       ·refine Em rfl<|Em rfl<|Em rfl<|E0 rfl a2y rfl (fun hA => ⟨hA.ro rb2_0, hA.ow<|mS m0⟩)<|Ent.b (fun q86 => ?_)<|fun q86 => ?_
        ·refine Yno true rfl<|Ypt rfl<|Ypf rfl<|Em rfl<|Em rfl<|Ent.b (fun q91 => ?_)<|fun q91 => ?_
         ·refine Em rfl<|Em rfl<|E0 rfl a6H rfl (fun hA => hA.ro rb3_1)<|Ent.b (fun q94 => ?_)<|fun q94 => ?_
          ·refine Yno true rfl<|Ypt rfl<|Ypf rfl<|Eu<|r7 rfl<|v8<|Ent.drop<|f5<|f5<|U4 () trivial ⟨rfl, rfl, rfl, rfl, rfl, rfl, trivial⟩<|.refl _
          ·exact absurd (b2r q91)<|of_decide_eq_false q94
         ·refine Em rfl<|Es rfl<|Es rfl<|Es rfl<|Ypf rfl<|Ypf rfl<|Eu<|r7 rfl<|v8<|Ent.drop<|f5<|f5<|U4 () trivial ⟨rfl, rfl, rfl, rfl, rfl, rfl, trivial⟩<|.refl _
        ·exact absurd (b6Z q82)<|of_decide_eq_false q86
       ·refine Em rfl<|Es rfl<|Es rfl<|Es rfl<|Es rfl<|Ypf rfl<|Ypf rfl<|Em rfl<|Em rfl<|Ent.b (fun q91 => ?_)<|fun q91 => ?_
        ·refine Em rfl<|Em rfl<|E0 rfl a6H rfl (fun hA => hA.ro rb3_1)<|Ent.b (fun q94 => ?_)<|fun q94 => ?_
         ·refine Yno true rfl<|Ypt rfl<|Ypf rfl<|Eu<|r7 rfl<|v8<|Ent.drop<|f5<|f5<|U4 () trivial ⟨rfl, rfl, rfl, rfl, rfl, rfl, trivial⟩<|.refl _
         ·exact absurd (b2r q91)<|of_decide_eq_false q94
        ·refine Em rfl<|Es rfl<|Es rfl<|Es rfl<|Ypf rfl<|Ypf rfl<|Eu<|r7 rfl<|v8<|Ent.drop<|f5<|f5<|U4 () trivial ⟨rfl, rfl, rfl, rfl, rfl, rfl, trivial⟩<|.refl _
      ·exact absurd q78 (by simp)
     ·exact absurd q69 (by simp)
    ·exact absurd q63 (by simp)
  ·show Ent _ _ _ [(0, .slice a_code code.length c_code), (3, .slice a30_0 (xs30).length c30_0), (4, .slice a30_1 (ms30).length c30_1), (5, .pointer (some ⟨b5, 0, none⟩)), (6, .slice a30_5 (fl30).length c30_5), (13, .slice a56 (a0x xs30 ((gh30, ga30), gn30) fl30).length c56)] [ow H3 [.slice a56 (a0x xs30 ((gh30, ga30), gn30) fl30).length c56] (a0x xs30 ((gh30, ga30), gn30) fl30), pt b5 30 [.slice a30_2 (gh30).length c30_2, .slice a30_3 (ga30).length c30_3, .slice a30_4 (gn30).length c30_4]] _
   refine Et<|Eq_<|a1X (κ := Unit) (fun _ => True) (fun kM => [(0, .slice a_code code.length c_code), (3, .slice a30_0 (xs30).length c30_0), (4, .slice a30_1 (ms30).length c30_1), (5, .pointer<|some ⟨b5, 0, none⟩)]) (fun kM => [pt b5 30 [.slice a30_2 (gh30).length c30_2, .slice a30_3 (ga30).length c30_3, .slice a30_4 (gn30).length c30_4]]) ?_<|fun kM _ => ?_
   ·refine Ew Z18<|Em rfl<|Ey rfl (k7 (cs := [_, _, _]) ty_Guarded rfl (Has.pt<|mS m0) rfl)<|E0 rfl (a0M (by first | assumption | omega) (by first | assumption | omega)) rfl (fun hA => ⟨hA.ro rb1_0, hA.ro rb1_2, hA.ro rb1_3, hA.ro rb1_4⟩)<|Ent.b (fun q100 => ?_)<|fun q100 => ?_
    ·refine Em rfl<|Em rfl<|Em rfl<|E0 rfl a0v rfl (fun hA => ⟨hA.ro rb1_0, hA.ro rb1_5⟩)<|Ent.b (fun q104 => ?_)<|fun q104 => ?_
     ·refine Ypt rfl<|Em rfl<|Em rfl<|Em rfl<|Ey rfl ((C2 fo_Guarded_0 ty_Query dc rfl).yd)<|Ey rfl (k7 (cs := [_, _]) ty_Query rfl ((Has.pt<|mS m0).sub (cs' := [_, _]) 0 rfl) rfl)<|Em rfl<|El rfl (a2K (by first | assumption | omega)) rfl (fun hA => ⟨hA.ro rb1_0, hA.ro rb1_2, hA.ro rb1_3, hA.ro rb1_5⟩)<|fun a112 c112 l112 => E0 rfl b1z rfl (fun hA => ⟨hA.ow<|mS m0, hA.ow m0⟩)<|Ent.b (fun q113 => ?_)<|fun q113 => ?_
      ·refine Yno true rfl<|Ypt rfl<|Eu<|r7 rfl<|v8<|Ent.drop<|Ent.drop<|U4 () trivial ⟨rfl, rfl, rfl, rfl, trivial⟩<|.refl _
      ·exact absurd (b9J q104 q100) (by rw [q113]; decide)
     ·refine Ypt rfl<|Em rfl<|Es rfl<|Es rfl<|Es rfl<|Es rfl<|Es rfl<|Es rfl<|Es rfl<|Es rfl<|Ypf rfl<|Eu<|r7 rfl<|v8<|Ent.drop<|U4 () trivial ⟨rfl, rfl, rfl, rfl, trivial⟩<|.refl _
    ·refine Em rfl<|Es rfl<|Es rfl<|Es rfl<|Ypf rfl<|Em rfl<|Es rfl<|Es rfl<|Es rfl<|Es rfl<|Es rfl<|Es rfl<|Es rfl<|Es rfl<|Ypf rfl<|Eu<|r7 rfl<|v8<|Ent.drop<|U4 () trivial ⟨rfl, rfl, rfl, rfl, trivial⟩<|.refl _
   ·show Ent _ _ _ [(0, .slice a_code code.length c_code), (3, .slice a30_0 (xs30).length c30_0), (4, .slice a30_1 (ms30).length c30_1), (5, .pointer (some ⟨b5, 0, none⟩))] [pt b5 30 [.slice a30_2 (gh30).length c30_2, .slice a30_3 (ga30).length c30_3, .slice a30_4 (gn30).length c30_4]] _
    refine Et<|Ew Z11<|Em rfl<|Em rfl<|Ey rfl (k7 (cs := [_, _, _]) ty_Guarded rfl (Has.pt m0) rfl)<|Est rfl (N.call (a2s (by first | assumption | omega) (by first | assumption | omega)) rfl rfl rfl dc rfl<|fun w Lp hA => ⟨hA.ro rb1_0, hA.ro rb1_1, hA.ro rb1_2, hA.ro rb1_3, hA.ro rb1_4⟩)<|fun k120 _ => ?_
    obtain ⟨⟨a120_0, m120_0, c120_0⟩, ⟨a120_1, m120_1, c120_1⟩⟩ := k120
    refine r8 m0 ?_
    rintro rfl l120_0
    refine r8 (mS m0) ?_
    rintro rfl l120_1
    refine Em rfl<|Ey rfl ((Y.ext rfl rfl).yd)<|Ey rfl ((Y.ext rfl rfl).yd)<|Ey rfl ((Y.ext rfl rfl).yd)<|Ei rfl<|Ei rfl<|Ei rfl<|Ev Z11<|Em rfl<|Em rfl<|Ey rfl (k7 (cs := [_, _, _]) ty_Guarded rfl (Has.pt<|mS<|mS m0) rfl)<|Est rfl (N.call (a2r (by first | assumption | omega) (by first | assumption | omega)) rfl rfl rfl dc rfl<|fun w Lp hA => ⟨hA.ro rb1_0, hA.ro rb1_1, hA.ro rb1_2, hA.ro rb1_3, hA.ro rb1_4⟩)<|fun k128 _ => ?_
    obtain ⟨⟨a128_0, m128_0, c128_0⟩, ⟨a128_1, m128_1, c128_1⟩⟩ := k128
    refine r8 m0 ?_
    rintro rfl l128_0
    refine r8 (mS m0) ?_
    rintro rfl l128_1
    refine Em rfl<|Ey rfl ((Y.ext rfl rfl).yd)<|Ey rfl ((Y.ext rfl rfl).yd)<|Ey rfl ((Y.ext rfl rfl).yd)<|Ei rfl<|Ei rfl<|Ei rfl<|Ev Z12<|Em rfl<|Est rfl (N.call (a6q (by first | assumption | omega)) rfl rfl rfl dc rfl<|fun w Lp hA => hA.ro hcode)<|fun k134 o134 => ?_
    obtain ⟨xs134, gh134, ga134, gn134, fl134, tp134, ⟨a134_0, m134_0, c134_0⟩, ⟨a134_1, m134_1, c134_1⟩, ⟨a134_2, m134_2, c134_2⟩, ⟨a134_3, m134_3, c134_3⟩, ⟨a134_4, m134_4, c134_4⟩, ⟨a134_5, m134_5, c134_5⟩⟩ := k134
    try dsimp only at o134
    try (conv => arg 4; dsimp only)
    try (conv => arg 5; dsimp only [ca, na])
    have jq2 := o134.2.1
    have jt2 := a3N jq2
    have jn2 := a3N o134.2.2.1
    refine r8 m0 ?_
    rintro rfl l134_0
    refine r8 (mS m0) ?_
    rintro rfl l134_1
    refine r8 (mS<|mS m0) ?_
    rintro rfl l134_2
    refine r8 (mS<|mS<|mS m0) ?_
    rintro rfl l134_3
    refine r8 (mS<|mS<|mS<|mS m0) ?_
    rintro rfl l134_4
    refine r8 (mS<|mS<|mS<|mS<|mS m0) ?_
    rintro rfl l134_5
    refine y7<|y7<|y7<|y7<|y7<|y7<|O0 (A := [_, _, _, _, _, _]) rfl fun wb4 Lb4 hB4 hA4 => ?_
    have hcode := hA4.ro hcode
    have rb1_0 := hA4.ro rb1_0
    have rb1_1 := hA4.ro rb1_1
    have rb1_2 := hA4.ro rb1_2
    have rb1_3 := hA4.ro rb1_3
    have rb1_4 := hA4.ro rb1_4
    have rb4_0 : Ro wb4 Lb4 eIs [.slice a134_0 (xs134).length c134_0] xs134 := hA4.ow m0
    have rb4_1 : Ro wb4 Lb4 eIs [.slice a134_1 (gh134).length c134_1] gh134 := hA4.ow (mS m0)
    have rb4_2 : Ro wb4 Lb4 B1 [.slice a134_2 (ga134).length c134_2] ga134 := hA4.ow (mS (mS m0))
    have rb4_3 : Ro wb4 Lb4 B1 [.slice a134_3 (gn134).length c134_3] gn134 := hA4.ow (mS (mS (mS m0)))
    have rb4_4 : Ro wb4 Lb4 s5 [.slice a134_4 (fl134).length c134_4] fl134 := hA4.ow (mS (mS (mS (mS m0))))
    have rb4_5 : Ro wb4 Lb4 eIs [.slice a134_5 (tp134).length c134_5] tp134 := hA4.ow (mS (mS (mS (mS (mS m0)))))
    refine Em rfl<|Ey rfl ((Y.ext rfl rfl).yd)<|Ey rfl ((Y.ext rfl rfl).yd)<|Ey rfl ((Y.ext rfl rfl).yd)<|Ey rfl ((Y.ext rfl rfl).yd)<|Est rfl (N.alloc ty_Guarded dc)<|fun b21 _ => Ei rfl<|Est rfl (Ns [_, _, _] ty_Guarded rfl)<|fun _ _ => Ei rfl<|Ei rfl<|Ev Z8<|Em rfl<|Est rfl (N.call (a5T (by first | assumption | omega)) rfl rfl rfl dc rfl<|fun w Lp hA => hA.ro hcode)<|fun k141 o141 => ?_
    obtain ⟨xs141, gh141, ga141, gn141, ⟨a141_0, m141_0, c141_0⟩, ⟨a141_1, m141_1, c141_1⟩, ⟨a141_2, m141_2, c141_2⟩, ⟨a141_3, m141_3, c141_3⟩⟩ := k141
    try dsimp only at o141
    try (conv => arg 4; dsimp only)
    try (conv => arg 5; dsimp only [ca, na])
    have jq3 := o141.2.1
    have jt3 := a3N jq3
    have jn3 := a3N o141.2.2
    refine r8 m0 ?_
    rintro rfl l141_0
    refine r8 (mS m0) ?_
    rintro rfl l141_1
    refine r8 (mS<|mS m0) ?_
    rintro rfl l141_2
    refine r8 (mS<|mS<|mS m0) ?_
    rintro rfl l141_3
    refine a4G<|a4G<|a4G<|a4G<|O0 (A := [_, _, _, _]) rfl fun wb5 Lb5 hB5 hA5 => ?_
    have hcode := hA5.ro hcode
    have rb1_0 := hA5.ro rb1_0
    have rb1_1 := hA5.ro rb1_1
    have rb1_2 := hA5.ro rb1_2
    have rb1_3 := hA5.ro rb1_3
    have rb1_4 := hA5.ro rb1_4
    have rb4_0 := hA5.ro rb4_0
    have rb4_1 := hA5.ro rb4_1
    have rb4_2 := hA5.ro rb4_2
    have rb4_3 := hA5.ro rb4_3
    have rb4_4 := hA5.ro rb4_4
    have rb4_5 := hA5.ro rb4_5
    have rb5_0 : Ro wb5 Lb5 eIs [.slice a141_0 (xs141).length c141_0] xs141 := hA5.ow m0
    have rb5_1 : Ro wb5 Lb5 eIs [.slice a141_1 (gh141).length c141_1] gh141 := hA5.ow (mS m0)
    have rb5_2 : Ro wb5 Lb5 B1 [.slice a141_2 (ga141).length c141_2] ga141 := hA5.ow (mS (mS m0))
    have rb5_3 : Ro wb5 Lb5 B1 [.slice a141_3 (gn141).length c141_3] gn141 := hA5.ow (mS (mS (mS m0)))
    refine Em rfl<|Ey rfl ((Y.ext rfl rfl).yd)<|Ey rfl ((Y.ext rfl rfl).yd)<|Est rfl (N.alloc ty_Guarded dc)<|fun b25 _ => Ei rfl<|Est rfl (Ns [_, _, _] ty_Guarded rfl)<|fun _ _ => Eu<|Eq_<|D.region (fun j => true) mixed<|Dm 0 rfl<|Dm 1 rfl<|Dyp 2 rfl (b3n kr rfl rfl)<|l3 (fun q146 => ?_)<|fun q146 => ?_
    ·refine Dm 3 rfl<|Dm 4 rfl<|Dm 5 rfl<|D0 6 rfl a8R rfl (fun hA => ⟨hA.ow<|mS<|mS<|mS<|mS m0, hA.ow<|mS<|mS m0⟩)<|Ent.b (fun q150 => ?_)<|fun q150 => ?_
     ·refine Dyp 7 rfl (K7 rfl rfl)<|Dm 8 rfl<|Dm 9 rfl<|Dm 10 rfl<|D0 11 rfl a3a rfl (fun hA => ⟨hA.ow<|mS<|mS<|mS<|mS<|mS m0, hA.ow<|mS<|mS<|mS m0⟩)<|Ent.b (fun q155 => ?_)<|fun q155 => ?_
      ·refine Dyp 12 rfl (K7 rfl rfl)<|Dm 13 rfl<|Dm 14 rfl<|Dy 15 rfl (k7 (cs := [_, _, _]) ty_Guarded rfl (Has.pt<|mS m0) rfl)<|Dm 16 rfl<|Dm 17 rfl<|Dm 19 rfl<|Dy 20 rfl (k7 (cs := [_, _, _]) ty_Guarded rfl (Has.pt<|mS m0) rfl)<|Dm 21 rfl<|Dm 22 rfl<|D0 18 rfl (a9b (by first | assumption | omega) (by first | assumption | omega)) rfl (fun hA => ⟨hA.ro rb4_0, hA.ro rb4_1, hA.ro rb4_2, hA.ro rb4_3, hA.ro rb4_4, hA.ro rb4_5⟩)<|D0 23 rfl (a8Z (by first | assumption | omega) (by first | assumption | omega)) rfl (fun hA => ⟨hA.ro rb4_0, hA.ro rb4_1, hA.ro rb4_2, hA.ro rb4_3, hA.ro rb4_4, hA.ro rb4_5⟩)<|Dyp 24 rfl (b3n kr rfl rfl)<|l3 (fun q168 => ?_)<|fun q168 => ?_
       ·refine Dyp 25 rfl (K7 rfl rfl)<|Dm 26 rfl<|Dm 27 rfl<|Dy 28 rfl (k7 (cs := [_, _, _]) ty_Guarded rfl (Has.pt m0) rfl)<|Dm 30 rfl<|Dy 31 rfl (k7 (cs := [_, _, _]) ty_Guarded rfl (Has.pt m0) rfl)<|D0 29 rfl (a1D (by first | assumption | omega) (by first | assumption | omega)) rfl (fun hA => ⟨hA.ro rb5_0, hA.ro rb5_1, hA.ro rb5_2, hA.ro rb5_3⟩)<|D0 32 rfl (a0M (by first | assumption | omega) (by first | assumption | omega)) rfl (fun hA => ⟨hA.ro rb5_0, hA.ro rb5_1, hA.ro rb5_2, hA.ro rb5_3⟩)<|Dyp 33 rfl (b3n kr rfl rfl)<|l3 (fun q177 => ?_)<|fun q177 => ?_
        ·refine Dyp 34 rfl (K7 rfl rfl)<|Dm 35 rfl<|Dy 36 rfl (k7 (cs := [_, _, _]) ty_Guarded rfl (Has.pt m0) rfl)<|Dy 38 rfl (k7 (cs := [_, _, _]) ty_Guarded rfl (Has.pt m0) rfl)<|D0 37 rfl (a6m (by first | assumption | omega) (by first | assumption | omega)) rfl (fun hA => ⟨hA.ro rb5_1, hA.ro rb5_2, hA.ro rb5_3⟩)<|D0 39 rfl (a5X (by first | assumption | omega) (by first | assumption | omega)) rfl (fun hA => ⟨hA.ro rb5_1, hA.ro rb5_2, hA.ro rb5_3⟩)<|Dyp 40 rfl (a4C rfl rfl)<|Dyp 41 rfl (K7 rfl rfl)<|Dyp 42 rfl (G7 rfl)<|n9 kr<|Et<|E.ret<|F.r1 ((((hB1.comp hB2).comp hB3).comp hB4).comp hB5) rfl rfl () trivial (congrArg Value.bool (by simp_all)) (J := _) (.refl _)<|.inl rfl
        ·exact absurd q177 (by simp)
       ·exact absurd q168 (by simp)
      ·exact absurd q155 (by simp)
     ·exact absurd q150 (by simp)
    ·exact absurd q146 (by simp)
end Go.Proofs.YthapcdhdfaibkaaGreatDoor
end
