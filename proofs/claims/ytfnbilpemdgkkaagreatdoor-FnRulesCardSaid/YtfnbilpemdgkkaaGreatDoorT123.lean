import Derived.Test.YtfnbilpemdgkkaaGreatDoorT122
section
namespace Go.Proofs.YtfnbilpemdgkkaaGreatDoor
open Go.RowKit
set_option linter.unusedVariables false
section
variable {α β : Type} {E : Enc α} {E2 : Enc β} {e2 : TypeId} {n : Nat} {w0 : World} {L0 : List Nat} {fr : Fr} {R : List HP} {G : Act → World → Prop} {e : TypeId} {a : Option Addr} {m c : Nat} {xs : List α} {ys : List (List β)} {cs cx : List Value}
theorem b6i (hx : 0 < xs.length) (h : ∀ b cs cx, a = some ⟨b, 0, none⟩ → m = xs.length → cx.length = xs.length * E.k → cs.take cx.length = cx → Ent n w0 L0 fr (pt b e cs :: els E cx xs :: R) G) : Ent n w0 L0 fr (ow (Enc.sl e E) [.slice a m c] xs :: R) G := fun ac w h1 h2 => by
  obtain ⟨L, ⟨Lo, LR, rfl, ho, hR⟩, hn, hst⟩ := h2
  obtain ⟨ccs, L1, L2, rfl, g1, g2, g3, h0, g4⟩ := P3 ho
  rcases g4 with ⟨_, h3, _⟩ | ⟨g, cur, h2, h3, h4, h5, h6, h7, rfl⟩
  · omega
  · refine h g cur.toList ccs h2 g1 g3.len ?_ ac w h1 ⟨[g] ++ (L2 ++ LR), ⟨[g], L2 ++ LR, rfl, ⟨rfl, h3⟩, L2, LR, rfl, g3, hR⟩, by simpa [List.append_assoc] using hn, by simpa [List.append_assoc] using hst⟩
    rw [g3.len, ← g1, h7]
theorem b4P (j : Nat) (hj : j < ys.length) (h : ∀ oa oc, (cx.drop j).take 1 = [.slice oa (ys[j]'hj).length oc] → Ent n w0 L0 fr (ow (Enc.sl e2 E2) [.slice oa (ys[j]'hj).length oc] (ys[j]'hj) :: R) G) : Ent n w0 L0 fr (els (Enc.sl e2 E2) cx ys :: R) G := fun ac w h1 h2 => by
  obtain ⟨L, ⟨Lo, LR, rfl, ho, hR⟩, hn, hst⟩ := h2
  have hx : ys = ys.take j ++ (ys[j] :: ys.drop (j + 1)) := by simp
  have ho' : p9 (Enc.sl e2 E2) w cx ys Lo true := ho
  rw [hx] at ho'
  obtain ⟨c1, c2, L1, L2, f1, rfl, f3, d1, d2, M1, M2, e1, rfl, e3, e4⟩ := ho'.split
  have hl1 : c1.length = j := by rw [f3.len, List.length_take, Nat.min_eq_left (by omega)]; show j * 1 = j; omega
  obtain ⟨a', m', c', ccs, K1, K2, rfl, rfl, k3⟩ := id e3
  refine h a' c' ?_ ac w h1 ⟨M1 ++ LR, ⟨M1, LR, rfl, e3, hR⟩, ?_, hst.sublist fun b hb => ?_⟩
  · rw [f1, e1, List.drop_left' hl1]; rfl
  · have : (M1 ++ LR).Sublist (L1 ++ (M1 ++ M2) ++ LR) := List.Sublist.append ((List.sublist_append_left M1 M2).trans (List.sublist_append_right L1 _)) (.refl _)
    exact hn.sublist this
  · simp only [List.mem_append] at hb ⊢
    rcases hb with hb | hb
    · exact .inl (.inr (.inl hb))
    · exact .inr hb
theorem b6s {j : Nat} {v : Value} (h : cs.take cx.length = cx) (hj : j < cx.length) (hc : (cx.drop j).take 1 = [v]) : (cs.drop j).take [v].length = [v] := by
  obtain ⟨n, hn⟩ : ∃ n, n = cx.length := ⟨_, rfl⟩
  rw [← hn] at h hj
  subst h
  rw [List.drop_take, List.take_take, Nat.min_eq_left (by omega)] at hc
  exact hc
theorem b6C {H : List HP} {b : Nat} {v : Value} (h : Has w0 L0 H b 0 cs) (j : Nat) (he : (cs.drop j).take [v].length = [v]) : Has w0 L0 H b (0 + j * 1) [v] := by
  rw [Nat.mul_one]; exact h.sub (cs' := [v]) j he
theorem b6m {PB : List Nat} {H : List HP} {b : Nat} {v : Value} (h : M4 w0 L0 PB H b 0 cs) (j : Nat) (he : (cs.drop j).take [v].length = [v]) : M4 w0 L0 PB H b (0 + j * 1) [v] := by
  rw [Nat.mul_one]; exact h.sub (cs' := [v]) j he
end
end Go.Proofs.YtfnbilpemdgkkaaGreatDoor
end
section
namespace Go.Proofs.YtfnbilpemdgkkaaGreatDoor
open Go.RowKit
set_option linter.all false
set_option maxHeartbeats 2000000
attribute [local irreducible] Nop Yd Yp Ent Has Tr FnP FnP2 Src J1 P8 U7 W9 E0
theorem a3Q {a_a : Option Addr} {m_a c_a : Nat} {a : List Int} {a_b : Option Addr} {m_b c_b : Nat} {b : List Int} : Tr Tryz.prog 23 [.slice a_a m_a c_a, .slice a_b m_b c_b] (fun w L => Ro w L eIs [.slice a_a m_a c_a] a ∧ Ro w L eIs [.slice a_b m_b c_b] b) [] (κ := Unit) (fun k => True) (fun k => .bool (decide (a = b))) (fun k => []) := by
 refine f8 Tryz.func23 rfl (n := 26) rfl (by decide +kernel) bl (fr := [(0, .slice a_a m_a c_a), (1, .slice a_b m_b c_b)]) rfl fun w L hR => ?_
 obtain ⟨ha, hb⟩ := hR
 obtain ⟨rfl, la⟩ := ha.slen
 obtain ⟨rfl, lb⟩ := hb.slen
 refine Ew Z1 (Ei rfl (Eu (Eq_ (Ew Z5 (Em rfl (Ey rfl ((Y.len us_Is rfl).yd) (Em rfl (Ey rfl ((Y.len us_Is rfl).yd) (Ey rfl ((Y.neq rfl rfl).yd) (j8 (fun q10 => ?_) (fun q10 => ?_)))))))))))
 ·refine Eu (l3 rfl (Ew Z1 (Ei rfl ?_)))
  exact Eu (E.ret (j0 (Fb rfl rfl (by grind [d1, d2, t1, t2]))))
 ·refine Eu (l4 rfl (d9 (Et (Eq_ (Ew Z1 (Ei rfl (Eu (E.block (E.loop (κ := Nat) (fun g => g ≤ a.length ∧ a.length = b.length ∧ (a = b ↔ a.drop g = b.drop g)) (fun g => [(0, .slice a_a a.length c_a), (1, .slice a_b b.length c_b), (5, .int .i64 (g : Int))]) (fun g => []) (fun g => a.length - g) 0 ⟨Nat.zero_le _, by exact ⟨by omega, by simp⟩⟩ ⟨rfl, rfl, rfl, trivial⟩ (.refl _) (fun g pg => ?_))))))))))
  obtain ⟨pk, pa⟩ := pg
  refine Eq_ (Ew Z4 (Em rfl (Em rfl (Ey rfl ((Y.len us_Is rfl).yd) (Ey rfl ((Y.lss rfl rfl).yd) (j8 (fun q14 => ?_) (fun q14 => ?_)))))))
  ·refine Eu (l3 rfl (d9 (Et (Eq_ (E.block (Eq_ (D.region (fun j => true) mixed (Dyp 0 rfl (g0 rfl) (Dyp 1 rfl (g0 rfl) ?_)))))))))
   obtain ⟨eb19, eo19, ea19, ei19, eh19⟩ := ha.elemI g om
   refine Dyp 2 rfl (r8 us_Is f4 rfl ea19 rfl g rfl om) (Dy 3 rfl (f7 f4 rfl (eh19 _) rfl) (Dyp 4 rfl (g0 rfl) (Dyp 5 rfl (g0 rfl) ?_)))
   obtain ⟨eb23, eo23, ea23, ei23, eh23⟩ := hb.elemI g om
   refine Dyp 6 rfl (r8 us_Is f4 rfl ea23 rfl g rfl om) (Dy 7 rfl (f7 f4 rfl (eh23 _) rfl) (Dyp 8 rfl (Y.neq rfl rfl) (j8 (fun q25 => ?_) (fun q25 => ?_))))
   ·refine o3 kr (Et (l3 rfl (Ew Z1 (Ei rfl ?_))))
    exact Eu (E.ret (w8 (j0 (j0 (w8 (j0 (Fb rfl rfl (by grind [d1, d2, t1, t2]))))))))
   ·refine o3 kr (Et (l4 rfl (d9 (o2 (Et (Ez Z3 (Em rfl (Ey rfl ((Y.add rfl rfl om om).yd) (Ei rfl ?_)))))))))
    exact Eu (u7 br (g + 1) rs (.refl _) ⟨by omega, by grind [d1, d2, t1, t2]⟩ om)
  ·refine Eu (l4 rfl (E.exit (n8 (n8 (w7 (Et (Ew Z1 (Ei rfl ?_))))))))
   exact Eu (E.ret (Fb rfl rfl (by grind [d1, d2, t1, t2])))
end Go.Proofs.YtfnbilpemdgkkaaGreatDoor
end
