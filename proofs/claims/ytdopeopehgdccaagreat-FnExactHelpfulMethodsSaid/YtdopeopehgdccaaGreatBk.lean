import Derived.Test.YtdopeopehgdccaaGreatBb
namespace Go.Proofs.YtdopeopehgdccaaGreat
open Go.RowKit
set_option linter.unusedVariables false
theorem At.rl2 {α : Type} {E : Enc α} {w0 w : World} {L0 Lp : List Nat} {pre rest : List HP} {e e' : TypeId} {a : Option Addr} {c : Nat} {s1 s2 : Value} {x1 x2 : List α} (hA : At w0 L0 pre rest w Lp) (hm : Go.Proofs.YtdopeopehgdccaaGreat.row e 1 a 2 c [s1, s2] ∈ rest) (h1 : Ro w Lp (Enc.sl e' E) [s1] x1) (h2 : Ro w Lp (Enc.sl e' E) [s2] x2) : Ro w Lp (Enc.sl e (Enc.sl e' E)) [.slice a 2 c] [x1, x2] := by
  obtain ⟨⟨Lr, g1, g2, g3, g4⟩⟩ := hA
  obtain ⟨L', r1, r2⟩ := g2.mem hm
  obtain ⟨M1, k1, n1⟩ := h1
  obtain ⟨M2, k2, n2⟩ := h2
  rcases r1 with ⟨h6, ⟨rfl, h0, rfl⟩ | ⟨g, cur, rfl, h7, h8, h9, h10, h11, rfl⟩⟩
  · cases h0
  · refine ⟨[g] ++ (M1 ++ M2), ⟨_, 2, c, [s1, s2], [g], M1 ++ M2, rfl, rfl, by decide, rfl, ⟨[s1], [s2], M1, M2, rfl, rfl, k1, w5.single k2⟩, ⟨h8, h9⟩, .inr ⟨g, 0, rfl, fun j v hj => ?_, (Array.getElem?_eq_some_iff.1 h7).1, rfl⟩⟩, fun b hb hp => ?_⟩
    · rw [← h11, List.getElem?_take] at hj
      split at hj
      · simpa [World.cell?, h7] using hj
      · cases hj
    · rcases List.mem_append.1 hb with hb | hb
      · exact (List.nodup_append.1 g3).2.2 b hp b (r2 b hb) rfl
      · rcases List.mem_append.1 hb with hb | hb
        · exact n1 b hb hp
        · exact n2 b hb hp
theorem Ro.nilsl {α : Type} {E : Enc α} {w : World} {L : List Nat} {e : TypeId} : Ro w L (Enc.sl e E) [.slice none 0 0] [] :=
  ⟨[], ⟨none, 0, 0, [], [], [], rfl, rfl, Nat.zero_le _, rfl, ⟨rfl, rfl⟩, ⟨⟨Nat.le_refl _, Nat.zero_le _⟩, .inl ⟨rfl, rfl⟩⟩⟩, by simp⟩
end Go.Proofs.YtdopeopehgdccaaGreat
