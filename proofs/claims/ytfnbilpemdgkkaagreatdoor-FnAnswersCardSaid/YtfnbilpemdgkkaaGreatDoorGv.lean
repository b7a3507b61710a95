import Derived.Test.YtfnbilpemdgkkaaGreatDoorGu
import Derived.Test.YtfnbilpemdgkkaaGreatDoorDv
namespace Go.Proofs.YtfnbilpemdgkkaaGreatDoor
set_option linter.unusedVariables false
set_option linter.unusedSimpArgs false
section
variable {x b : List Int × List Int} {t v : Int} {g : Int → Int} {h head u : List Int} {s : List Int} {p q : List Int × List (Int × List Int)} {F A : List (Int × List Int)} {a f : Int × List Int}
def X8 (b : List Int × List Int) (g : Int → Int) : Prop := b.1.length = b.2.length ∧ ∀ t, bd b t → s4 b t = g t
theorem a6G (hg : ∀ t, inR t 10 17 = false → g t = t) (hb : X8 b g) : s4 (x4 b t (g t)) t = g t ∧ X8 (x4 b t (g t)) g := by
 have h1 : s4 (x4 b t (g t)) t = g t := by
  cases hr : inR t 10 17 with
  | false => rw [← L8 hr, hg t hr]
  | true =>
   cases hu : unb b t with
   | true => rw [a1H (by rw [hr, hu]; rfl)]; exact a5M hb.1 hr hu
   | false => rw [a2O (by rw [hr, hu]; rfl)]; exact hb.2 t (.inr ((a5P hb.1).1 hu))
 refine ⟨h1, a0z hb.1, fun y hy => ?_⟩
 by_cases e : y = t
 ·rw [e]; exact h1
 ·have hy2 : bd b y := by
   rcases hy with hy | hy
   ·exact .inl hy
   ·unfold x4 at hy
    split at hy
    ·rcases List.mem_append.1 hy with hy | hy
     ·exact .inr hy
     ·exact absurd (List.mem_singleton.1 hy) e
    ·exact .inr hy
  rw [a3N hb.1 hy2]; exact hb.2 y hy2
theorem a2L (hg : ∀ t, inR t 10 17 = false → g t = t) : ∀ {l : List (Int × Int)} {b : List Int × List Int}, X8 b g → (∀ p ∈ l, p.2 = g p.1) → okV b l = true ∧ X8 (v7 b l) g
 | [], b, hb, _ => ⟨rfl, hb⟩
 | p :: l, b, hb, hl => by
  have e := hl p (by simp)
  obtain ⟨h1, h2⟩ := a6G (t := p.1) hg hb
  rw [← e] at h1 h2
  obtain ⟨h3, h4⟩ := a2L hg (l := l) h2 fun y hy => hl y (by simp [hy])
  exact ⟨by rw [okV, h3, decide_eq_true h1]; rfl, h4⟩
theorem a5A (hg : ∀ t, inR t 10 17 = false → g t = t) (hb : X8 b g) : j0 b a (a.1, a.2.map g) = true ∧ X8 (k7 b a (a.1, a.2.map g)) g := by
 have hz : ∀ p ∈ a.2.zip (a.2.map g), p.2 = g p.1 := by
  intro p hp
  obtain ⟨i, hi, rfl⟩ := List.getElem_of_mem hp
  simp
 obtain ⟨h1, h2⟩ := a2L hg (l := a.2.zip (a.2.map g)) hb hz
 refine ⟨?_, h2⟩
 simp only [j0, Bool.and_eq_true, decide_eq_true_eq]
 exact ⟨trivial, by simp, hb.1, h1⟩
theorem a2z (hg : ∀ t, inR t 10 17 = false → g t = t) : ∀ {A : List (Int × List Int)} {B : List (List Int × List Int)} {V : List Int}, (∀ a ∈ A, (a.1, a.2.map g) ∈ F) → (∃ b ∈ B, X8 b g ∧ ∀ t ∈ V, bd b t) →
  ∃ b ∈ A.foldl (fun l a => B5 l a F) B, X8 b g ∧ (∀ t ∈ V, bd b t) ∧ ∀ a ∈ A, ∀ t ∈ a.2, bd b t
 | [], B, V, _, ⟨b, h1, h2, h3⟩ => ⟨b, h1, h2, h3, fun a ha => by cases ha⟩
 | a :: A, B, V, hF, ⟨b, h1, h2, h3⟩ => by
  obtain ⟨m1, m2⟩ := a5A (a := a) hg h2
  obtain ⟨k1, k2, k3, k4⟩ := a3E m1
  obtain ⟨c, c1, c2, c3, c4⟩ := a2z hg (A := A) (B := B5 B a F) (V := V ++ a.2) (fun x hx => hF x (by simp [hx]))
   ⟨k7 b a (a.1, a.2.map g), List.mem_flatMap.2 ⟨b, h1, List.mem_map.2 ⟨_, List.mem_filter.2 ⟨hF a (by simp), m1⟩, rfl⟩⟩, m2, fun t ht => by
    rcases List.mem_append.1 ht with ht | ht
    ·exact (k4 t (h3 t ht)).2
    ·exact k3 t ht⟩
  refine ⟨c, c1, c2, fun t ht => c3 t (by simp [ht]), fun x hx t ht => ?_⟩
  rcases List.mem_cons.1 hx with hx | hx
  ·subst hx; exact c3 t (by simp [ht])
  ·exact c4 x hx t ht
theorem a0A (hg : ∀ t, inR t 10 17 = false → g t = t) (hF : ∀ a ∈ A, (a.1, a.2.map g) ∈ F) : ∃ b ∈ r8 A F, X8 b g ∧ ∀ a ∈ A, ∀ t ∈ a.2, bd b t := by
 obtain ⟨b, h1, h2, _, h4⟩ := a2z hg (F := F) (A := A) (B := [([], [])]) (V := []) hF ⟨([], []), by simp, ⟨rfl, fun t ht => by
  rcases ht with ht | ht
  ·rw [← L8 ht, hg t ht]
  ·cases ht⟩, fun t ht => by cases ht⟩
 exact ⟨b, h1, h2, h4⟩
theorem a5a (hu : ∀ x ∈ u, 0 ≤ x ∧ x ≤ 9) : ∀ {n v : Nat}, 10 ≤ v + n → F5 u (nxt u n v : Nat) = false ∧ v ≤ nxt u n v ∧ ∀ w, v ≤ w → w < nxt u n v → F5 u (w : Nat) = true
 | 0, v, h => ⟨by
   cases e : F5 u (v : Int) with
   | false => exact e
   | true => have := a9d hu e; omega, Nat.le_refl _, fun w h1 h2 => by simp only [nxt] at h2; omega⟩
 | n + 1, v, h => by
  rw [nxt]
  split
  ·rename_i e
   obtain ⟨h1, h2, h3⟩ := a5a hu (n := n) (v := v + 1) (by omega)
   refine ⟨h1, by omega, fun w hw1 hw2 => ?_⟩
   by_cases e2 : w = v
   ·rw [e2]; exact e
   ·exact h3 w (by omega) hw2
  ·rename_i e
   exact ⟨by simpa using e, Nat.le_refl _, fun w h1 h2 => by omega⟩
theorem R2 (hu : ∀ x ∈ u, 0 ≤ x ∧ x ≤ 9) {v : Nat} : F5 u (M4 u v : Nat) = false ∧ v ≤ M4 u v ∧ ∀ w, v ≤ w → w < M4 u v → F5 u (w : Nat) = true := a5a hu (by omega)
theorem a5f (hu : ∀ x ∈ u, 0 ≤ x ∧ x ≤ 9) : ∀ {k i : Nat}, i < k → M4 u (fzN u i) < fzN u k
 | 0, i, h => by omega
 | k + 1, i, h => by
  rw [fzN]
  rcases Nat.lt_succ_iff_lt_or_eq.1 h with h1 | rfl
  ·have h2 := a5f hu h1
   have := (R2 hu (v := fzN u k)).2.1
   omega
  ·omega
theorem a8R (hu : ∀ x ∈ u, 0 ≤ x ∧ x ≤ 9) {i k : Nat} (h : M4 u (fzN u i) = M4 u (fzN u k)) : i = k := by
 rcases Nat.lt_trichotomy i k with h1 | h1 | h1
 ·have h2 := a5f hu h1
  have := (R2 hu (v := fzN u k)).2.1
  omega
 ·exact h1
 ·have h2 := a5f hu h1
  have := (R2 hu (v := fzN u i)).2.1
  omega
end
end Go.Proofs.YtfnbilpemdgkkaaGreatDoor
