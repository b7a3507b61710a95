import Derived.Test.YtdopeopehgdccaaGreatGa
import Derived.Test.YtdopeopehgdccaaGreatGc
import Derived.Test.YtdopeopehgdccaaGreatDs
import Derived.Test.YtdopeopehgdccaaGreatDy
section
namespace Go.Proofs.YtdopeopehgdccaaGreat
set_option linter.unusedVariables false
set_option linter.unusedSimpArgs false
def b6Y (x : List (List Int) × List (Int × List Int) × List (Int × List Int) × Int) : Nat := o5 H4 x.1 + o5 P9 x.2.1 + o5 C7 x.2.2.1 + 1
def b6U (x : List (List Int) × List (Int × List Int) × List (Int × List Int) × Int) (k : Int) : List (List Int) × List (Int × List Int) × List (Int × List Int) × Int := (mkL H4 a1b x.1 (k), mkL P9 a2q x.2.1 (k + (o5 H4 x.1 : Nat)), mkL C7 V4 x.2.2.1 (k + (o5 H4 x.1 : Nat) + (o5 P9 x.2.1 : Nat)), (k + (o5 H4 x.1 : Nat) + (o5 P9 x.2.1 : Nat) + (o5 C7 x.2.2.1 : Nat)))
section
variable {s : List Int} {T : Acs → List Fct} {l : List Mth} {q : List Int × List AT2} {d7 : List AT2} {d6 : List Stp} {d8 : List Fct} {c : Int} {g k : Nat} {x : Stp} {σ : RS} {p : Acs → Prop}
end
end Go.Proofs.YtdopeopehgdccaaGreat
end
section
namespace Go.Proofs.YtdopeopehgdccaaGreat
set_option linter.unusedVariables false
set_option linter.unusedSimpArgs false
def U0 (s : List Int) (l : List MT5) (q : List Int × List AT2) (d8 : List Fct) : Bool := (L4 s l q && a1D (G2 s l q, F5 s l q) q) && B7 s d8
def a0U (s : List Int) (l : List MT5) (q : List Int × List AT2) (d8 : List Fct) : List (List Int) := cond (U0 s l q d8) (a2r l (q.1, J0 l q.2) d8) []
section
variable {s : List Int} {l : List MT5} {q : List Int × List AT2} {d8 : List Fct}
theorem G1 (h : U0 s l q d8 = false) : [] = a0U s l q d8 ∧ false = U0 s l q d8 := by rw [a0U, h]; exact ⟨rfl, rfl⟩
theorem a1I (h : (L4 s l q && a1D (G2 s l q, F5 s l q) q) = false) : U0 s l q d8 = false := by rw [U0, h]; rfl
theorem U3 (h : B7 s d8 = false) : U0 s l q d8 = false := by rw [U0, h, Bool.and_false]
theorem a1F (h : L4 s l q = false) : U0 s l q d8 = false := by rw [U0, h]; rfl
theorem a2k (h : a3i s (G2 s l q, F5 s l q) q = false) : U0 s l q d8 = false := by
  cases hp : L4 s l q with
  | false => exact a1F hp
  | true =>
    obtain ⟨h1, h2⟩ := a7u hp
    rw [a3i, h1, h2, Bool.true_and, Bool.true_and] at h
    exact a1I (by rw [h, Bool.and_false])
theorem a1t (h1 : (L4 s l q && a1D (G2 s l q, F5 s l q) q) = true) (h2 : B7 s d8 = true) : a2r l (q.1, J0 l q.2) d8 = a0U s l q d8 ∧ true = U0 s l q d8 := by
  have h : U0 s l q d8 = true := by rw [U0, h1, h2]; rfl
  rw [a0U, h]; exact ⟨rfl, rfl⟩
theorem a3v (h : L4 s l q = true) : B3 s l = true ∧ y8 s q = true ∧ y8 s (q.1, J0 l q.2) = true ∧ (grF (exF l) (J0 l q.2)).1.length = (J0 l q.2).length := by
  simp only [L4, Bool.and_eq_true] at h
  exact ⟨h.1.1, h.1.2, h.2, b3z⟩
theorem b1w (h : L4 s l q = true) : G7 s l (q.1, J0 l q.2) (grF (exF l) (J0 l q.2)).1 = true := by
  obtain ⟨h1, h2, h3, h4⟩ := a3v h
  exact b5z (q := (q.1, J0 l q.2)) h1 h3 h4
/-- the reference's run -/
theorem b4E (h : L4 s l q = true) (hf : B7 s d8 = true) : (K4 s (z6 l) (G2 s l q, F5 s l q) (S0 s (z6 l) (G2 s l q, F5 s l q)) d8 0).1 = a2r l (q.1, J0 l q.2) d8 := by
  obtain ⟨h1, h2, h3, h4⟩ := a3v h
  rw [G2, F5, h]
  exact b4v (q := (q.1, J0 l q.2)) h1 h3 h4 hf
theorem a1i (h1 : L4 s l q = true) (h2 : a3i s (G2 s l q, F5 s l q) q = true) (hf : B7 s d8 = true) : (K4 s (z6 l) (G2 s l q, F5 s l q) (S0 s (z6 l) (G2 s l q, F5 s l q)) d8 0).1 = a0U s l q d8 ∧ true = U0 s l q d8 := by
  obtain ⟨e1, e2⟩ := a7u h1
  rw [a3i, e1, e2, Bool.true_and, Bool.true_and] at h2
  rw [b4E h1 hf]
  exact a1t (by rw [h1, h2]; rfl) hf
theorem b4S (h : L4 s l q = true) (hf : B7 s d8 = true) : ∃ T, TOk s (fun a => K8 s l a = true) T ∧ a2r l (q.1, J0 l q.2) d8 = M0 q.1 (j5 T l (J0 l q.2) (grF (exF l) (J0 l q.2)).1).1 := ⟨_, b2c hf, rfl⟩
theorem b4y (h : L4 s l q = true) (hf : B7 s d8 = true) : o5 H4 (a2r l (q.1, J0 l q.2) d8) ≤ 1000000 ∧ (a2r l (q.1, J0 l q.2) d8).length ≤ 331776 ∧ ∀ t ∈ a2r l (q.1, J0 l q.2) d8, t.length ≤ 3 := by
  obtain ⟨T, hT, e⟩ := b4S h hf
  rw [e]
  have ho := b1w h
  have h1 := a4M ho hT (Nat.le_refl _)
  rw [List.take_length] at h1
  have h3 := C1 (a3v h).2.1
  have a1 := a8i (h := q.1) (l := (j5 T l (J0 l q.2) (grF (exF l) (J0 l q.2)).1).1)
  have a2 := b0D (h := q.1) (l := (j5 T l (J0 l q.2) (grF (exF l) (J0 l q.2)).1).1)
  have a4 : (j5 T l (J0 l q.2) (grF (exF l) (J0 l q.2)).1).1.length ≤ 331776 := h1.len
  have a3 := b1W (n := 331776) (fun t ht => Nat.le_trans (a2 t ht) h3.2.1) (by omega)
  exact ⟨by omega, by omega, fun t ht => Nat.le_trans (a2 t ht) h3.2.1⟩
theorem b4i : o5 H4 (a0U s l q d8) ≤ 1000000 := by
  unfold a0U
  cases h : U0 s l q d8
  · simp [o5]
  · simp only [U0, Bool.and_eq_true] at h
    exact (b4y h.1.1 h.2).1
end
end Go.Proofs.YtdopeopehgdccaaGreat
end
