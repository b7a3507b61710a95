import Derived.Test.YtfnbilpemdgkkaaGreatDoorEi
import Derived.Test.YtfnbilpemdgkkaaGreatDoorHe
section
namespace Go.Proofs.YtfnbilpemdgkkaaGreatDoor
set_option linter.unusedVariables false
section
variable {ys l : List (List Int)} {t : List Int} {g : Nat}
theorem a9a (h : ys.length ≤ g ∧ ∀ t ∈ ys, t.length = 2) (ht : t.length = 2) : (D1 ys t).length ≤ g + 1 ∧ ∀ x ∈ D1 ys t, x.length = 2 := by
 have h1 := Y5 (h := E8 ys t) (p := ltT t) (f := t) (l := ys)
 refine ⟨by unfold D1; omega, fun f hm => ?_⟩
 rcases V4 hm with hm | rfl
 ·exact h.2 f hm
 ·exact ht
def F4 (t : List Int) : Str := [40] ++ Lib.join (t.map z7) [44] ++ [41]
def Q7 (l : List (List Int)) : Str := if l.length = 0 then [110, 111, 110, 101] else Lib.join (l.map F4) [32]
theorem a6X (h : t.length ≤ 3) : (F4 t).length ≤ 100 := by
 have := N3 (f := z7) (K := 21) (l := t) (n := 3) (sep := [44]) (fun x => O5) h
 unfold F4
 simp only [List.length_append, List.length_cons, List.length_nil] at this ⊢
 omega
theorem a1V (hn : l.length ≤ 1048576) (hy : ∀ t ∈ l, t.length ≤ 3) : (Lib.join ((l.take g).map F4) [32]).length ≤ 105906176 := by
 have h1 := a4P (K := 100) (sep := [32]) (xs := (l.take g).map F4) (fun x hx => by
  obtain ⟨y, h1, rfl⟩ := List.mem_map.1 hx
  exact a6X (hy y (List.mem_of_mem_take h1)))
 rw [List.length_map, List.length_take] at h1
 have h2 : min g l.length * (100 + [32].length) ≤ 1048576 * 101 := Nat.mul_le_mul (by omega) (by simp)
 exact Nat.le_trans h1 h2
theorem a9N (hn : l.length ≤ 1048576) (hy : ∀ t ∈ l, t.length ≤ 3) : (Lib.join (l.map F4) [32]).length ≤ 105906176 := by
 have := a1V (g := l.length) hn hy
 rwa [List.take_length] at this
theorem a4U (h : g < l.length) (h0 : ¬ 0 < g) : ((Lib.join ((l.take g).map F4) [32] ++ [40]) ++ Lib.join (l[g].map z7) [44]) ++ [41] = Lib.join ((l.take (g + 1)).map F4) [32] := by
 rw [← a0M h h0]; simp [F4]
theorem a4J (h : g < l.length) (h0 : 0 < g) : (((Lib.join ((l.take g).map F4) [32] ++ [32]) ++ [40]) ++ Lib.join (l[g].map z7) [44]) ++ [41] = Lib.join ((l.take (g + 1)).map F4) [32] := by
 rw [← a0O h h0]; simp [F4]
theorem a9k {x : Str} {xs : List Str} {sep : Str} (h : x ≠ []) : Lib.join (x :: xs) sep ≠ [] := by
 rw [Lib.join_cons]
 cases x with
 | nil => exact absurd rfl h
 | cons a b => simp
theorem a9R (h : Lib.join (l.map F4) [32] = []) : Q7 l = [110, 111, 110, 101] := by
 cases l with
 | nil => rfl
 | cons x r => exact absurd h (a9k (by simp [F4]))
theorem b0F (h : ¬ Lib.join (l.map F4) [32] = []) : Q7 l = Lib.join (l.map F4) [32] := by
 unfold Q7
 cases l with
 | nil => exact absurd (Lib.join_nil _) h
 | cons x r => rfl
end
end Go.Proofs.YtfnbilpemdgkkaaGreatDoor
end
section
namespace Go.Proofs.YtfnbilpemdgkkaaGreatDoor
set_option linter.unusedVariables false
section
variable {s H : List Int} {A F : List (Int × List Int)} {p q : Qry}
theorem a5O {a b : List (List Int)} (h : ∀ t ∈ a, t ∈ b) : (a.all fun x => b.any fun y => decide (x = y)) = true := by
 rw [List.all_eq_true]
 intro x hx
 rw [List.any_eq_true]
 exact ⟨x, h x hx, by simp⟩
theorem b2w (hc : N4 s p q = true) (hF : C9 s F = true) : ((C0 s p F).all fun x => (C0 s q F).any fun y => decide (x = y)) = true :=
 a5O (a8O (a0F hc).1 (a0F hc).2.1 (a0F hc).2.2 hF)
theorem b2c {u : List Int} (hf : fzB u A = true) : R3 (H, A) (fzF u A) (H.map (s4 (fzV u A, fzX u A))) (fzV u A, fzX u A) = true := by
 have hF : fzF u A = a1n A (D2 A, X2 u (D2 A).length) := by rw [fzF, hf]; rfl
 have hV : fzV u A = D2 A := by rw [fzV, hf]; rfl
 have hX : fzX u A = X2 u (D2 A).length := by rw [fzX, hf]; rfl
 rw [hF, hV, hX]
 simp only [R3, Bool.and_eq_true, decide_eq_true_eq, Bool.not_eq_true', List.any_eq_false]
 refine ⟨by rw [a5n], trivial, fun a ha => ?_⟩
 have : D0 (a1n A (D2 A, X2 u (D2 A).length)) (F3 a (D2 A, X2 u (D2 A).length)) = true := Z0.2 (a3q.2 ⟨a, ha, rfl⟩)
 simp [this]
theorem b0z {i : Int} (hr : ∀ u, x3 u (H, A) = true → X1 A) (hq : x3 s (H, A) = true) (h0 : 0 ≤ i) (hi : i.toNat < (I9 s H A).length) (ho : x3 s (H, E9 (I9 s H A) i) = true) : N4 s (H, E9 (I9 s H A) i) (H, I9 s H A) = false := by
 obtain ⟨n, rfl⟩ := Int.eq_ofNat_of_zero_le h0
 exact (a2c (hr _ hq) hq).2.2 n (by simpa using hi) ho
theorem b1e (hr : ∀ u, x3 u (H, A) = true → X1 A) (hq : x3 s (H, A) = true) : (N4 s (H, I9 s H A) (H, A) && N4 s (H, A) (H, I9 s H A)) = true := by
 rw [(a2c (hr _ hq) hq).1, (a2c (hr _ hq) hq).2.1]; rfl
theorem b2f {i : Int} (h : sQ H A) : I3 (fun x => x.2.length) (I9 s H A) ≤ 1048576 ∧ I3 (fun x => x.2.length) (E9 (I9 s H A) i) ≤ 1048576 := by
 have h1 := a6O h
 have h2 : I3 (fun x => x.2.length) (I9 s H A) ≤ I3 (fun x => x.2.length) A := by
  unfold I9
  split
  ·exact a3u.1
  ·exact Nat.le_refl _
 have h3 : I3 (fun x => x.2.length) (E9 (I9 s H A) i) ≤ I3 (fun x => x.2.length) (I9 s H A) := a2Q
 omega
end
end Go.Proofs.YtfnbilpemdgkkaaGreatDoor
end
section
namespace Go.Proofs.YtfnbilpemdgkkaaGreatDoor
set_option linter.unusedVariables false
section
variable {s H : List Int} {A F : List (Int × List Int)} {q : Qry} {t : List Int} {g : Nat}
theorem a5Q (ht : t ∈ C0 s (H, A) F) : (x3 s (H, A) = true ∧ C9 s F = true) ∧ t ∈ H3 H (r8 A F) := by
 unfold C0 at ht
 split at ht
 ·rename_i h; rw [Bool.and_eq_true] at h; exact ⟨h, ht⟩
 ·cases ht
theorem a9y (hq : sQ H A) : ∀ t ∈ C0 s (H, A) F, t.length ≤ 3 := fun t ht => Nat.le_trans (a4z t (a5Q ht).2) hq.2.2
theorem a8Z (hq : sQ H A) (hF : F.length ≤ 24) : (C0 s (H, A) F).length ≤ 331776 := by
 unfold C0
 split
 ·exact Nat.le_trans a3o (a1Y hF hq.1 hq.2.1).1
 ·exact Nat.zero_le _
theorem a9n : ∀ t ∈ C0 s (H, A) F, ∀ x ∈ t, 0 ≤ x ∧ x ≤ 9 := by
 intro t ht x hx
 obtain ⟨⟨hq, hF⟩, h1⟩ := a5Q ht
 obtain ⟨b, hb, rfl⟩ := X9.1 h1
 obtain ⟨z, hz, rfl⟩ := List.mem_map.1 hx
 obtain ⟨_, _, a, ha, hza⟩ := (Q5 hq).2 z hz
 obtain ⟨h2, _⟩ := (a0k b hb).2 a ha
 exact W3 ((W2 hF).2 _ h2) _ (List.mem_map.2 ⟨z, hza, rfl⟩)
theorem a7K (h : C9 s F = true) : ((C0 s q (F.drop 1)).all fun x => (C0 s q F).any fun y => decide (x = y)) = true :=
 a5O (a7X (fun _ hf => List.mem_of_mem_drop hf) h)
theorem a7p (h : g < (C0 s q F).length) : (r8 q.2 F).any (H4 q.1 (C0 s q F)[g]) = true ∧ R3 q F (C0 s q F)[g] (F0 (r8 q.2 F) q.1 (C0 s q F)[g]) = true := a7Q (List.getElem_mem h)
end
end Go.Proofs.YtfnbilpemdgkkaaGreatDoor
end
