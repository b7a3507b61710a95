import Derived.Test.YtbedienpleiamaaGreatHe
namespace Go.Proofs.YtbedienpleiamaaGreat
set_option linter.unusedVariables false
section
variable {s H : List Int} {A F : List (Int × List Int)} {p q : Qry}
theorem b0E {a b : List (List Int)} (h : ∀ t ∈ a, t ∈ b) : (a.all fun x => b.any fun y => decide (x = y)) = true := by
 rw [List.all_eq_true]
 intro x hx
 rw [List.any_eq_true]
 exact ⟨x, h x hx, by simp⟩
theorem b1d (hc : J5 s p q = true) (hF : J6 s F = true) : ((a0v s p F).all fun x => (a0v s q F).any fun y => decide (x = y)) = true :=
 b0E (b0r (a1Y hc).1 (a1Y hc).2.1 (a1Y hc).2.2 hF)
theorem b0h {u : List Int} (hf : fzB u A = true) : O5 (H, A) (fzF u A) (H.map (u6 (fzV u A, fzX u A))) (fzV u A, fzX u A) = true := by
 have hF : fzF u A = K6 A (w8 A, C4 u (w8 A).length) := by rw [fzF, hf]; rfl
 have hV : fzV u A = w8 A := by rw [fzV, hf]; rfl
 have hX : fzX u A = C4 u (w8 A).length := by rw [fzX, hf]; rfl
 rw [hF, hV, hX]
 simp only [O5, Bool.and_eq_true, decide_eq_true_eq, Bool.not_eq_true', List.any_eq_false]
 refine ⟨by rw [a0u], trivial, fun a ha => ?_⟩
 have : F5 (K6 A (w8 A, C4 u (w8 A).length)) (B2 a (w8 A, C4 u (w8 A).length)) = true := a2t.2 (a5d.2 ⟨a, ha, rfl⟩)
 simp [this]
theorem a4B {i : Int} (hr : ∀ u, w3 u (H, A) = true → S2 A) (hq : w3 s (H, A) = true) (h0 : 0 ≤ i) (hi : i.toNat < (D9 s H A).length) (ho : w3 s (H, B8 (D9 s H A) i) = true) : J5 s (H, B8 (D9 s H A) i) (H, D9 s H A) = false := by
 obtain ⟨n, rfl⟩ := Int.eq_ofNat_of_zero_le h0
 exact (a4g (hr _ hq) hq).2.2 n (by simpa using hi) ho
theorem a8y (hr : ∀ u, w3 u (H, A) = true → S2 A) (hq : w3 s (H, A) = true) : (J5 s (H, D9 s H A) (H, A) && J5 s (H, A) (H, D9 s H A)) = true := by
 rw [(a4g (hr _ hq) hq).1, (a4g (hr _ hq) hq).2.1]; rfl
theorem I6 {i : Int} (h : sQ H A) : E7 (fun x => x.2.length) (D9 s H A) ≤ 1048576 ∧ E7 (fun x => x.2.length) (B8 (D9 s H A) i) ≤ 1048576 := by
 have h1 := a0H h
 have h2 : E7 (fun x => x.2.length) (D9 s H A) ≤ E7 (fun x => x.2.length) A := by
  unfold D9
  split
  ·exact a1G.1
  ·exact Nat.le_refl _
 have h3 : E7 (fun x => x.2.length) (B8 (D9 s H A) i) ≤ E7 (fun x => x.2.length) (D9 s H A) := a0i
 omega
end
end Go.Proofs.YtbedienpleiamaaGreat
