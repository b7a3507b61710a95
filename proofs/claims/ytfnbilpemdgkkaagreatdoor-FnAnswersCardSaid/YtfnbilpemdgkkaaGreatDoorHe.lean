import Derived.Test.YtfnbilpemdgkkaaGreatDoorHb
import Derived.Test.YtfnbilpemdgkkaaGreatDoorHa
namespace Go.Proofs.YtfnbilpemdgkkaaGreatDoor
set_option linter.unusedVariables false
def sQ (H : List Int) (A : List (Int × List Int)) : Prop := A.length ≤ 4 ∧ (∀ a ∈ A, a.2.length ≤ 3) ∧ H.length ≤ 3
section
variable {T : Int → Prop} {H G tms : List Int} {A B : List (Int × List Int)} {k n : Nat} {i : Int} {s : List Int} {a : Int × List Int}
theorem dQ.small (h : dQ T 3 3 H A) : sQ H A := ⟨by have := h.1.2; omega, fun a ha => (h.2.1 a ha).1.2, h.2.2⟩
theorem b1k (h : dQ T 4 2 H A) : sQ H A := ⟨h.1.2, fun a ha => (h.2.1 a ha).1.2, by have := h.2.2; omega⟩
theorem b2v (h : dQ kT 3 2 H A) (g : dQ kT 3 2 G B) {h0 : 0 < B.length} : sQ H (A ++ [B[0]]) := ⟨by have := h.1.2; simp; omega, fun a ha => by
 rcases List.mem_append.1 ha with ha | ha
 ·exact (h.2.1 a ha).1.2
 ·rw [List.mem_singleton] at ha; subst ha; exact (g.2.1 _ (List.getElem_mem h0)).1.2, by have := h.2.2; omega⟩
theorem b2g (h : dQ kT 3 2 H A) : sQ H (E9 A i) := ⟨by have := a3O (l := A) (i := i); have := h.1.2; omega, fun a ha => (h.2.1 a (a3x ha)).1.2, by have := h.2.2; omega⟩
theorem b2j (h : sQ H A) : sQ [] A := ⟨h.1, h.2.1, by simp⟩
theorem a6O (h : sQ H A) : I3 (fun x => x.2.length) A ≤ 1048576 := by
 have h2 := a2b (c := fun x : Int × List Int => x.2.length) (n := 3) (l := A) h.2.1
 have := h.1
 unfold I3; omega
theorem W1 {is : Int → Bool} : (u6 is A).Nodup := by
 have h1 : (u6 is A).Pairwise (· < ·) := (W5 List.Pairwise.nil).1
 exact List.Pairwise.imp (fun {a b} h e => by omega) h1
theorem a1A {is : Int → Bool} (h : ∀ a ∈ A, dA T a) {t : Int} (ht : t ∈ u6 is A) : T t ∧ is t = true := by
 obtain ⟨h1, h2⟩ := S9.1 ht
 obtain ⟨a, ha, hta⟩ := List.mem_flatMap.1 h1
 exact ⟨(h a ha).2 t hta, h2⟩
theorem b2D (h : ∀ a ∈ A, dA dT a) (hq : x3 s (H, A) = true) : X1 A := by
 have h1 := Y9 (W1 (is := fun t => inR t 0 9) (A := A)) (m := [0, 1, 2, 3, 9]) fun t ht => by
  obtain ⟨h1, h2⟩ := a1A h ht
  simp only [inR, decide_eq_true_eq] at h2
  unfold dT at h1
  simp only [List.mem_cons, List.not_mem_nil, or_false]; omega
 have h2 := Y9 (W1 (is := fun t => inR t 10 17) (A := A)) (m := [10, 11, 12, 13, 17]) fun t ht => by
  obtain ⟨h1, h2⟩ := a1A h ht
  simp only [inR, decide_eq_true_eq] at h2
  unfold dT at h1
  simp only [List.mem_cons, List.not_mem_nil, or_false]; omega
 unfold X1 D2
 simp only [List.length_cons, List.length_nil] at h1 h2
 omega
theorem b2y (h : ∀ a ∈ A, dA rT a) : X1 A := by
 have h1 := Y9 (W1 (is := fun t => inR t 0 9) (A := A)) (m := [0, 1, 2, 3]) fun t ht => by
  obtain ⟨h1, h2⟩ := a1A h ht
  simp only [inR, decide_eq_true_eq] at h2
  unfold rT at h1
  simp only [List.mem_cons, List.not_mem_nil, or_false]; omega
 have h2 := Y9 (W1 (is := fun t => inR t 10 17) (A := A)) (m := [10, 11, 12, 13, 15]) fun t ht => by
  obtain ⟨h1, h2⟩ := a1A h ht
  simp only [inR, decide_eq_true_eq] at h2
  unfold rT at h1
  simp only [List.mem_cons, List.not_mem_nil, or_false]; omega
 unfold X1 D2
 simp only [List.length_cons, List.length_nil] at h1 h2
 omega
theorem b1J (h : dQ kT 3 2 H A) {h0 : 0 < A.length} {r : Int} : dQ rT 4 2 H (A ++ [(r, A[0].2.set 0 15)]) := by
 have h1 := h.mono b0D (Nat.le_refl _) (Nat.le_refl _)
 have h2 := h1.2.1 _ (List.getElem_mem h0)
 refine ⟨by have := h.1; simp; omega, fun a ha => ?_, h.2.2⟩
 rcases List.mem_append.1 ha with ha | ha
 ·exact h1.2.1 a ha
 ·rw [List.mem_singleton] at ha; subst ha
  exact ⟨by rw [List.length_set]; exact h2.1, a5I h2.2 (by unfold rT; omega)⟩
theorem b0h {c7 : List (Int × List Int)} {v : List Int} (h : sQ H A) (hf : c7.length ≤ 24) : (F0 (r8 A c7) H v).1.length ≤ 1000 ∧ (F0 (r8 A c7) H v).2.length ≤ 1000 := by
 have h1 := (a1Y hf h.1 h.2.1).2
 unfold F0
 cases e : (r8 A c7).find? (H4 H v) with
 | none => simp
 | some b =>
  have := h1 b (List.mem_of_find?_eq_some e)
  exact ⟨by simp only [Option.getD_some]; omega, by simp only [Option.getD_some]; omega⟩
end
end Go.Proofs.YtfnbilpemdgkkaaGreatDoor
