import Derived.Test.YtbedienpleiamaaGreatHc
namespace Go.Proofs.YtbedienpleiamaaGreat
open Go.RowKit
set_option linter.unusedVariables false
section
variable {α β : Type} {E : Enc α} {E2 : Enc β} {e2 : TypeId} {n : Nat} {w0 : World} {L0 : List Nat} {fr : Fr} {R : List HP} {G : Act → World → Prop} {e : TypeId} {a : Option Addr} {m c : Nat} {xs : List α} {ys : List (List β)} {cs cx : List Value}
theorem a9N (hx : 0 < xs.length) (h : ∀ b cs cx, a = some ⟨b, 0, none⟩ → m = xs.length → cx.length = xs.length * E.k → cs.take cx.length = cx → Ent n w0 L0 fr (pt b e cs :: els E cx xs :: R) G) : Ent n w0 L0 fr (ow (Enc.sl e E) [.slice a m c] xs :: R) G := fun ac w h1 h2 => by
 obtain ⟨L, ⟨Lo, LR, rfl, ho, hR⟩, hn, hst⟩ := h2
 obtain ⟨ccs, L1, L2, rfl, g1, g2, g3, h0, g4⟩ := V5 ho
 rcases g4 with ⟨_, h3, _⟩ | ⟨g, cur, h2, h3, h4, h5, h6, h7, rfl⟩
 ·omega
 ·refine h g cur.toList ccs h2 g1 g3.len ?_ ac w h1 ⟨[g] ++ (L2 ++ LR), ⟨[g], L2 ++ LR, rfl, ⟨rfl, h3⟩, L2, LR, rfl, g3, hR⟩, by simpa [List.append_assoc] using hn, by simpa [List.append_assoc] using hst⟩
  rw [g3.len, ← g1, h7]
theorem a8j (j : Nat) (hj : j < ys.length) (h : ∀ oa oc, (cx.drop j).take 1 = [.slice oa (ys[j]'hj).length oc] → Ent n w0 L0 fr (ow (Enc.sl e2 E2) [.slice oa (ys[j]'hj).length oc] (ys[j]'hj) :: R) G) : Ent n w0 L0 fr (els (Enc.sl e2 E2) cx ys :: R) G := fun ac w h1 h2 => by
 obtain ⟨L, ⟨Lo, LR, rfl, ho, hR⟩, hn, hst⟩ := h2
 have hx : ys = ys.take j ++ (ys[j] :: ys.drop (j + 1)) := by simp
 have ho' : B4 (Enc.sl e2 E2) w cx ys Lo true := ho
 rw [hx] at ho'
 obtain ⟨c1, c2, L1, L2, f1, rfl, f3, d1, d2, M1, M2, e1, rfl, e3, e4⟩ := ho'.split
 have hl1 : c1.length = j := by rw [f3.len, List.length_take, Nat.min_eq_left (by omega)]; show j * 1 = j; omega
 obtain ⟨a', m', c', ccs, K1, K2, rfl, rfl, k3⟩ := id e3
 refine h a' c' ?_ ac w h1 ⟨M1 ++ LR, ⟨M1, LR, rfl, e3, hR⟩, ?_, hst.sublist fun b hb => ?_⟩
 ·rw [f1, e1, List.drop_left' hl1]; rfl
 ·have : (M1 ++ LR).Sublist (L1 ++ (M1 ++ M2) ++ LR) := List.Sublist.append ((List.sublist_append_left M1 M2).trans (List.sublist_append_right L1 _)) (.refl _)
  exact hn.sublist this
 ·simp only [List.mem_append] at hb ⊢
  rcases hb with hb | hb
  ·exact .inl (.inr (.inl hb))
  ·exact .inr hb
theorem b0C {j : Nat} {v : Value} (h : cs.take cx.length = cx) (hj : j < cx.length) (hc : (cx.drop j).take 1 = [v]) : (cs.drop j).take [v].length = [v] := by
 obtain ⟨n, hn⟩ : ∃ n, n = cx.length := ⟨_, rfl⟩
 rw [← hn] at h hj
 subst h
 rw [List.drop_take, List.take_take, Nat.min_eq_left (by omega)] at hc
 exact hc
theorem b3t {H : List HP} {b : Nat} {v : Value} (h : Has w0 L0 H b 0 cs) (j : Nat) (he : (cs.drop j).take [v].length = [v]) : Has w0 L0 H b (0 + j * 1) [v] := by
 rw [Nat.mul_one]; exact h.sub (cs' := [v]) j he
theorem a9P {PB : List Nat} {H : List HP} {b : Nat} {v : Value} (h : D7 w0 L0 PB H b 0 cs) (j : Nat) (he : (cs.drop j).take [v].length = [v]) : D7 w0 L0 PB H b (0 + j * 1) [v] := by
 rw [Nat.mul_one]; exact h.sub (cs' := [v]) j he
end
end Go.Proofs.YtbedienpleiamaaGreat
