import Derived.Test.YtbedienpleiamaaGreatHb
import Derived.Test.YtbedienpleiamaaGreatHa
namespace Go.Proofs.YtbedienpleiamaaGreat
set_option linter.unusedVariables false
def sQ (H : List Int) (A : List (Int × List Int)) : Prop := A.length ≤ 4 ∧ (∀ a ∈ A, a.2.length ≤ 3) ∧ H.length ≤ 3
section
variable {T : Int → Prop} {H G tms : List Int} {A B : List (Int × List Int)} {k n : Nat} {i : Int} {s : List Int} {a : Int × List Int}
theorem dQ.small (h : dQ T 3 3 H A) : sQ H A := ⟨by have := h.1.2; omega, fun a ha => (h.2.1 a ha).1.2, h.2.2⟩
theorem dQ.small4 (h : dQ T 4 2 H A) : sQ H A := ⟨h.1.2, fun a ha => (h.2.1 a ha).1.2, by have := h.2.2; omega⟩
theorem a4A (h : dQ kT 3 2 H A) (g : dQ kT 3 2 G B) {h0 : 0 < B.length} : sQ H (A ++ [B[0]]) := ⟨by have := h.1.2; simp; omega, fun a ha => by
 rcases List.mem_append.1 ha with ha | ha
 ·exact (h.2.1 a ha).1.2
 ·rw [List.mem_singleton] at ha; subst ha; exact (g.2.1 _ (List.getElem_mem h0)).1.2, by have := h.2.2; omega⟩
theorem a3B (h : dQ kT 3 2 H A) : sQ H (B8 A i) := ⟨by have := a3r (l := A) (i := i); have := h.1.2; omega, fun a ha => (h.2.1 a (a5v ha)).1.2, by have := h.2.2; omega⟩
theorem R3 (h : sQ H A) : sQ [] A := ⟨h.1, h.2.1, by simp⟩
theorem a0H (h : sQ H A) : E7 (fun x => x.2.length) A ≤ 1048576 := by
 have h2 := a2y (c := fun x : Int × List Int => x.2.length) (n := 3) (l := A) h.2.1
 have := h.1
 unfold E7; omega
theorem a0D {is : Int → Bool} : (c6 is A).Nodup := by
 have h1 : (c6 is A).Pairwise (· < ·) := (W1 List.Pairwise.nil).1
 exact List.Pairwise.imp (fun {a b} h e => by omega) h1
theorem a3D {is : Int → Bool} (h : ∀ a ∈ A, dA T a) {t : Int} (ht : t ∈ c6 is A) : T t ∧ is t = true := by
 obtain ⟨h1, h2⟩ := O7.1 ht
 obtain ⟨a, ha, hta⟩ := List.mem_flatMap.1 h1
 exact ⟨(h a ha).2 t hta, h2⟩
theorem b0Y (h : ∀ a ∈ A, dA dT a) (hq : w3 s (H, A) = true) : S2 A := by
 have h1 := a1p (a0D (is := fun t => inR t 0 9) (A := A)) (m := [0, 1, 2, 3, 9]) fun t ht => by
  obtain ⟨h1, h2⟩ := a3D h ht
  simp only [inR, decide_eq_true_eq] at h2
  unfold dT at h1
  simp only [List.mem_cons, List.not_mem_nil, or_false]; omega
 have h2 := a1p (a0D (is := fun t => inR t 10 17) (A := A)) (m := [10, 11, 12, 13, 17]) fun t ht => by
  obtain ⟨h1, h2⟩ := a3D h ht
  simp only [inR, decide_eq_true_eq] at h2
  unfold dT at h1
  simp only [List.mem_cons, List.not_mem_nil, or_false]; omega
 unfold S2 w8
 simp only [List.length_cons, List.length_nil] at h1 h2
 omega
theorem a2c (h : ∀ a ∈ A, dA rT a) : S2 A := by
 have h1 := a1p (a0D (is := fun t => inR t 0 9) (A := A)) (m := [0, 1, 2, 3]) fun t ht => by
  obtain ⟨h1, h2⟩ := a3D h ht
  simp only [inR, decide_eq_true_eq] at h2
  unfold rT at h1
  simp only [List.mem_cons, List.not_mem_nil, or_false]; omega
 have h2 := a1p (a0D (is := fun t => inR t 10 17) (A := A)) (m := [10, 11, 12, 13, 15]) fun t ht => by
  obtain ⟨h1, h2⟩ := a3D h ht
  simp only [inR, decide_eq_true_eq] at h2
  unfold rT at h1
  simp only [List.mem_cons, List.not_mem_nil, or_false]; omega
 unfold S2 w8
 simp only [List.length_cons, List.length_nil] at h1 h2
 omega
theorem a0r (h : dQ kT 3 2 H A) {h0 : 0 < A.length} {r : Int} : dQ rT 4 2 H (A ++ [(r, A[0].2.set 0 15)]) := by
 have h1 := h.mono a6f (Nat.le_refl _) (Nat.le_refl _)
 have h2 := h1.2.1 _ (List.getElem_mem h0)
 refine ⟨by have := h.1; simp; omega, fun a ha => ?_, h.2.2⟩
 rcases List.mem_append.1 ha with ha | ha
 ·exact h1.2.1 a ha
 ·rw [List.mem_singleton] at ha; subst ha
  exact ⟨by rw [List.length_set]; exact h2.1, a7q h2.2 (by unfold rT; omega)⟩
theorem a7h {f0 : List (Int × List Int)} {v : List Int} (h : sQ H A) (hf : f0.length ≤ 24) : (s9 (j7 A f0) H v).1.length ≤ 1000 ∧ (s9 (j7 A f0) H v).2.length ≤ 1000 := by
 have h1 := (a3W hf h.1 h.2.1).2
 unfold s9
 cases e : (j7 A f0).find? (J2 H v) with
 | none => simp
 | some b =>
  have := h1 b (List.mem_of_find?_eq_some e)
  exact ⟨by simp only [Option.getD_some]; omega, by simp only [Option.getD_some]; omega⟩
end
end Go.Proofs.YtbedienpleiamaaGreat
