import Derived.Test.YtdopeopehgdccaaGreatGa
namespace Go.Proofs.YtdopeopehgdccaaGreat
set_option linter.unusedVariables false
set_option linter.unusedSimpArgs false
def b3c (x : List (List Int) × List (Int × List Int) × List (Int × List Int) × Int) : Nat := j8 C1 x.1 + j8 o9 x.2.1 + j8 s7 x.2.2.1 + 1
def b3a (x : List (List Int) × List (Int × List Int) × List (Int × List Int) × Int) (k : Int) : List (List Int) × List (Int × List Int) × List (Int × List Int) × Int := (mkL C1 W9 x.1 (k), mkL o9 E5 x.2.1 (k + (j8 C1 x.1 : Nat)), mkL s7 G0 x.2.2.1 (k + (j8 C1 x.1 : Nat) + (j8 o9 x.2.1 : Nat)), (k + (j8 C1 x.1 : Nat) + (j8 o9 x.2.1 : Nat) + (j8 s7 x.2.2.1 : Nat)))
section
variable {s : List Int} {T : Acs → List Fct} {l : List Mth} {q : List Int × List AT2} {i9 : List AT2} {d7 : List Stp} {d8 : List Fct} {c : Int} {g k : Nat} {x : Stp} {σ : RS} {p : Acs → Prop}
theorem a8m (hD : ∀ b ∈ σ.1, p (u5 l i9 x b)) (h : ∀ a ∈ σ.2.1, p a) : ∀ {k : Nat}, k ≤ σ.1.length → ∀ a ∈ (rbN T l i9 x σ k).2.1, p a
  | 0, _ => h
  | k + 1, hk => by
    have ih := a8m hD h (k := k) (by omega)
    rw [a0s (by omega)]
    show ∀ a ∈ cond _ (rbN T l i9 x σ k).2.1 _, p a
    cases Y0 (rbN T l i9 x σ k).2.1 (u5 l i9 x σ.1[k])
    · intro a ha
      rcases List.mem_append.1 ha with ha | ha
      · exact ih a ha
      · simp only [List.mem_singleton] at ha; subst ha
        exact hD _ (List.getElem_mem _)
    · exact ih
theorem a8w (ho : G1 s l q d7 = true) (hT : TOk s (fun a => I0 s l a = true) T) : ∀ {g : Nat}, g ≤ d7.length → ∀ a ∈ (j0 T l q.2 (d7.take g)).2.1, I0 s l a = true
  | 0, _ => fun a ha => by simp [j0] at ha
  | g + 1, hg => by
    have ih := a8w ho hT (g := g) (by omega)
    rw [a2P (by omega), ← a5J rfl]
    exact a8m (a3p ho hT (by omega)) ih (Nat.le_refl _)
theorem b0b : I64 (x6 s l q d7 d8 c).2.2.2 := by
  unfold x6
  cases h : G1 s l q d7 && C5 s d8
  · show I64 0; exact ⟨by decide, by decide⟩
  · obtain ⟨ho, hf⟩ := Bool.and_eq_true_iff.1 h
    have h1 := a1J ho (a7l (l := l) (c := c) hf) (Nat.le_refl _)
    rw [List.take_length] at h1
    have h2 := h1.log
    have h3 := a3X (l := l) (log := (j0 (fun a => f7 l d8 a c) l q.2 d7).2.1)
    show I64 (P6 l (j0 (fun a => f7 l d8 a c) l q.2 d7).2.1)
    unfold I64; omega
/-- how large what a run tells is -/
theorem b1c : j8 C1 (x6 s l q d7 d8 c).1 ≤ 1000000 ∧ j8 o9 (x6 s l q d7 d8 c).2.1 ≤ 6000000 ∧ j8 s7 (x6 s l q d7 d8 c).2.2.1 ≤ 30000 := by
  unfold x6
  cases h : G1 s l q d7 && C5 s d8
  · exact ⟨by simp [j8], by simp [j8], by simp [j8]⟩
  · obtain ⟨ho, hf⟩ := Bool.and_eq_true_iff.1 h
    have hT := a7l (l := l) (c := c) hf
    have h1 := a1J ho hT (Nat.le_refl _)
    have h2 := a8w ho hT (Nat.le_refl _)
    rw [List.take_length] at h1 h2
    obtain ⟨hm, hq, _⟩ := a0k ho
    have h3 := a0u hq
    have a1 := a5H (h := q.1) (l := (j0 (fun a => f7 l d8 a c) l q.2 d7).1)
    have a2 := a8O (n := 331776) (fun t ht => Nat.le_trans (a7t (h := q.1) (l := (j0 (fun a => f7 l d8 a c) l q.2 d7).1) t ht) h3.2.1) (by have := h1.len; omega)
    have a3 := a2e (c := o9) (n := 4) (l := (j0 (fun a => f7 l d8 a c) l q.2 d7).2.1) fun a ha => by
      have b1 := P2 (h2 a ha)
      have b2 := (a0m hm).1 _ (List.getElem_mem b1.2.1.2)
      have b3 := b1.2.2.1
      rw [H2 b1.2.1.2] at b3
      simp only [o9, a0i]; omega
    have a4 := a9n (n := 5324) h1.got h1.gotL
    have a5 := h1.log
    exact ⟨by show j8 C1 (J8 _ _) ≤ _; omega, by show j8 o9 (j0 _ l q.2 d7).2.1 ≤ _; omega, by show j8 s7 (j0 _ l q.2 d7).2.2 ≤ _; omega⟩
end
end Go.Proofs.YtdopeopehgdccaaGreat
