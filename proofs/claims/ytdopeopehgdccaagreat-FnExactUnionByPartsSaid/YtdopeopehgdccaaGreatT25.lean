import Derived.Test.YtdopeopehgdccaaGreatT24
section
namespace Go.Proofs.YtdopeopehgdccaaGreat
def a0Y (s : List Int) (u : List (List Int × List (Int × List Int))) (q : List Int × List (Int × List Int)) : Bool := u.any (a2S s q)
def c0M (s : List Int) (u : List (List Int × List (Int × List Int))) (q : List Int × List (Int × List Int)) : Bool := !a0Y s u q
def b9T (s : List Int) (a b : List (List Int × List (Int × List Int))) : Bool := !a.any (c0M s b)
def c2x (s : List Int) (a b : List (List Int × List (Int × List Int))) : Bool := J4 s a && (J4 s b && (b9T s a b && b9T s b a))
end Go.Proofs.YtdopeopehgdccaaGreat
end
section
namespace Go.Proofs.YtdopeopehgdccaaGreat
open Go.RowKit
set_option linter.all false
set_option maxHeartbeats 2000000
attribute [local irreducible] Nop Yd Yp Ent Has Tr FnP FnP2 Src O8 Y2 a0b a0m G5
variable {d4 : List (Int × List Int)} {u : List (List Int × List (Int × List Int))} {s f6 : List Int} {m_s c_s s8 o9 s5 o1 m_u c_u : Nat} {a_s r5 o2 a_u : Option Addr}
theorem a6m {a9D : Option Addr} {a9E a9F : Nat} {b7d : List Int} {a7E : Option Addr} {a7F a7G : Nat} {b1D : List (Int × List Int)} {b_s : Nat} {b_q : Nat} (hzx : B9 (fun x => x.2.length) b1D ≤ 1048576) (hzq : B9 (fun x => x.2.length) d4 ≤ 1048576) : Tr Tryz.prog 234 [.agg #[.slice a9D a9E a9F, .slice a7E a7F a7G], .pointer (some ⟨b_s, 0, none⟩), .pointer (some ⟨b_q, 0, none⟩)] (fun w L => (Ro w L eIs [.slice a9D a9E a9F] b7d ∧ Ro w L w9 [.slice a7E a7F a7G] b1D) ∧ RoPt w L b_s [.slice a_s m_s c_s] ∧ Ro w L eIs [.slice a_s m_s c_s] s ∧ RoPt w L b_q [.slice r5 s8 o9, .slice o2 s5 o1] ∧ Ro w L eIs [.slice r5 s8 o9] f6 ∧ Ro w L w9 [.slice o2 s5 o1] d4) [] (κ := Unit) (fun k => True) (fun k => .bool (a2S s (f6, d4) (b7d, b1D))) (fun k => []) := by
 refine l0 Tryz.func234 rfl (n := 9) rfl (by decide +kernel) bl (fr := [(0, .agg #[.slice a9D a9E a9F, .slice a7E a7F a7G]), (1, .pointer (some ⟨b_s, 0, none⟩)), (2, .pointer (some ⟨b_q, 0, none⟩))]) rfl fun w L hR => ?_
 obtain ⟨⟨b5p, b4g⟩, hb_s, hs, hb_q, t7, s0⟩ := hR
 obtain ⟨rfl, c1Z⟩ := b5p.slen
 obtain ⟨rfl, c1O⟩ := b4g.slen
 obtain ⟨rfl, ls⟩ := hs.slen
 obtain ⟨rfl, I9⟩ := t7.slen
 obtain ⟨rfl, H0⟩ := s0.slen
 refine Ew Z2 (Est rfl (N.box (cs := [_, _]) rfl dc rfl) (fun b3 _ => (Ei rfl (Ev Z5 (Ey rfl (g9 ty_Is rfl (hb_s.has) rfl) (Ey rfl (r9 (cs := [_, _]) ty_Query rfl (hb_q.has) rfl) (Ey rfl (r9 (cs := [_, _]) ty_Query rfl (Has.pt m0) rfl) (Est rfl (n0 (a7e fc fc) rfl rfl rfl dc (fun w Lp hA => ⟨hA.ro hs, hA.ro t7, hA.ro s0, hA.ro b5p, hA.ro b4g⟩)) (fun _ _ => (Ei rfl ?_))))))))))
 exact Eu (E.ret (Fg rfl rfl () rfl rfl))
theorem a7k (hzq : B9 (fun x => x.2.length) d4 ≤ 1048576) (hyu : ∀ q ∈ u, B9 (fun x => x.2.length) q.2 ≤ 1048576) : Tr Tryz.prog 160 [.slice a_s m_s c_s, .agg #[.slice r5 s8 o9, .slice o2 s5 o1], .slice a_u m_u c_u] (fun w L => Ro w L eIs [.slice a_s m_s c_s] s ∧ Ro w L eIs [.slice r5 s8 o9] f6 ∧ Ro w L w9 [.slice o2 s5 o1] d4 ∧ Ro w L C4 [.slice a_u m_u c_u] u) [] (κ := Unit) (fun k => True) (fun k => .bool (a0Y s u (f6, d4))) (fun k => []) := by
 refine l0 Tryz.func160 rfl (n := 10) rfl (by decide +kernel) bl (fr := [(0, .slice a_s m_s c_s), (1, .agg #[.slice r5 s8 o9, .slice o2 s5 o1]), (2, .slice a_u m_u c_u)]) rfl fun w L hR => ?_
 obtain ⟨hs, t7, s0, hu⟩ := hR
 obtain ⟨rfl, ls⟩ := hs.slen
 obtain ⟨rfl, I9⟩ := t7.slen
 obtain ⟨rfl, H0⟩ := s0.slen
 obtain ⟨rfl, lu⟩ := hu.slen
 refine Ew Z3 (Est rfl (N.box (cs := [_]) rfl dc rfl) (fun b3 _ => (Est rfl (N.box (cs := [_, _]) rfl dc rfl) (fun b4 _ => (Ei rfl (Ev Z4 (Em rfl (Ey rfl ((Y.fn (vs := [_, _]) rfl).yd) (Est rfl (n0 (a3m (f := (fun z => a2S s (f6, d4) z)) (D_f := (fun z => (B9 (fun x => x.2.length) z.2 ≤ 1048576) ∧ (B9 (fun x => x.2.length) d4 ≤ 1048576))) (by grind)) rfl rfl rfl dc (fun w Lp hA => ⟨hA.ro hu, a8N (D := (fun z => (B9 (fun x => x.2.length) z.2 ≤ 1048576) ∧ (B9 (fun x => x.2.length) d4 ≤ 1048576))) (fun hd => a6m hd.1 hd.2) (fun w' hk => ⟨(hA.pt (mS m0)).keep hk, (hA.ro hs).keep hk, (hA.pt m0).keep hk, (hA.ro t7).keep hk, (hA.ro s0).keep hk⟩)⟩)) (fun _ _ => (Ei rfl ?_)))))))))))
 exact Eu (E.ret (Fb rfl rfl (by grind [a0Y, d1, d2, t1, t2])))
theorem a7y (hzq : B9 (fun x => x.2.length) d4 ≤ 1048576) (hyu : ∀ q ∈ u, B9 (fun x => x.2.length) q.2 ≤ 1048576) : Tr Tryz.prog 134 [.slice a_s m_s c_s, .agg #[.slice r5 s8 o9, .slice o2 s5 o1], .slice a_u m_u c_u] (fun w L => Ro w L eIs [.slice a_s m_s c_s] s ∧ Ro w L eIs [.slice r5 s8 o9] f6 ∧ Ro w L w9 [.slice o2 s5 o1] d4 ∧ Ro w L C4 [.slice a_u m_u c_u] u) [] (κ := Unit) (fun k => True) (fun k => .bool (a0Y s u (f6, d4))) (fun k => []) := by
 refine l0 Tryz.func134 rfl (n := 21) rfl (by decide +kernel) bl (fr := [(0, .slice a_s m_s c_s), (1, .agg #[.slice r5 s8 o9, .slice o2 s5 o1]), (2, .slice a_u m_u c_u)]) rfl fun w L hR => ?_
 obtain ⟨hs, t7, s0, hu⟩ := hR
 obtain ⟨rfl, ls⟩ := hs.slen
 obtain ⟨rfl, I9⟩ := t7.slen
 obtain ⟨rfl, H0⟩ := s0.slen
 obtain ⟨rfl, lu⟩ := hu.slen
 refine Ew Z2 (Est rfl (N.box (cs := [_, _]) rfl dc rfl) (fun b4 _ => (Ei rfl (Eu (Eq_ (Ew Z1 (Ei rfl (Eu (E.block (E.loop (κ := Nat) (fun g => g ≤ u.length ∧ u.any (a2S s (f6, d4)) = (u.drop g).any (a2S s (f6, d4))) (fun g => [(0, .slice a_s s.length c_s), (2, .slice a_u u.length c_u), (4, .pointer (some ⟨b4, 0, none⟩)), (7, .int .i64 (g : Int))]) (fun g => [pt b4 61 [.slice r5 f6.length o9, .slice o2 d4.length o1]]) (fun g => u.length - g) 0 ⟨Nat.zero_le _, by simp⟩ ⟨rfl, rfl, rfl, rfl, trivial⟩ (.refl _) (fun g pg => ?_)))))))))))
 obtain ⟨pk, pa⟩ := pg
 refine Eq_ (Ew Z4 (Em rfl (Em rfl (Ey rfl ((Y.len us_Querys rfl).yd) (Ey rfl ((Y.lss rfl rfl).yd) (o7 (fun q11 => ?_) (fun q11 => ?_)))))))
 ·refine Eu (o5 rfl (i7 (Et (Eq_ (E.block (Eq_ (D.region (fun j => true) mixed (Dyp 0 rfl (o0 rfl) (Dy 1 rfl (r9 (cs := [_, _]) ty_Query rfl (Has.pt m0) rfl) (Dyp 2 rfl (o0 rfl) (Dyp 3 rfl (o0 rfl) ?_)))))))))))
  obtain ⟨eb18, eo18, ec18, ea18, er18, el18, eh18⟩ := hu.elem g om
  obtain ⟨xa18_0, xc18_0, xa18_1, xc18_1, rfl, xh18_0, xh18_1⟩ := S0 er18
  have := xh18_0.slen.2
  have := xh18_1.slen.2
  refine Dyp 4 rfl (s4 us_Querys ty_Query rfl ea18 rfl g rfl om) (Dy 5 rfl (r9 (cs := [_, _]) ty_Query rfl (eh18 _) rfl) (t6 6 rfl rfl kr (fun _ => rfl) (n0 (a7w fo (hyu _ (List.getElem_mem om))) rfl rfl rfl dc (fun w Lp hA => ⟨hA.ro hs, hA.ro t7, hA.ro s0, hA.ro xh18_0, hA.ro xh18_1⟩)) (fun _ _ => (Ent.b (fun q20 => ?_) (fun q20 => ?_)))))
  ·refine s3 kr (Et (o5 rfl (Ew Z1 (Ei rfl ?_))))
   exact Eu (E.ret (w8 (l4 (l4 (w8 (l4 (Fb rfl rfl (by grind [a0Y, d1, d2, t1, t2]))))))))
  ·refine s3 kr (Et (o4 rfl (i7 (t8 (Et (Ez Z3 (Em rfl (Ey rfl ((Y.add rfl rfl om om).yd) (Ei rfl ?_)))))))))
   exact Eu (w4 br (g + 1) rs (.refl _) ⟨by omega, by grind [d1, d2, t1, t2]⟩ om)
 ·refine Eu (o4 rfl (E.exit (o3 (o3 (w3 (Et (Ew Z1 (Ei rfl ?_))))))))
  exact Eu (E.ret (Fb rfl rfl (by grind [a0Y, d1, d2, t1, t2])))
end Go.Proofs.YtdopeopehgdccaaGreat
end
