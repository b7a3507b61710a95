import Derived.Test.YtfnbilpemdgkkaaGreatDoorGu
section
namespace Go.Proofs.YtfnbilpemdgkkaaGreatDoor
def H0 {α : Type} (l : List α) (i : Int) : List α := if inR i 0 ((l.length : Int) - 1) then l.take i.toNat ++ l.drop (i + 1).toNat else l
theorem a9Z {α : Type} {l : List α} {i : Int} : (H0 l i).length ≤ l.length := by
 unfold H0
 split
 ·simp; omega
 ·exact Nat.le_refl _
theorem a5l {α : Type} {l : List α} {i : Int} {x : α} (h : x ∈ H0 l i) : x ∈ l := by
 unfold H0 at h
 split at h
 ·rw [List.mem_append] at h
  rcases h with h | h
  ·exact List.mem_of_mem_take h
  ·exact List.mem_of_mem_drop h
 ·exact h
end Go.Proofs.YtfnbilpemdgkkaaGreatDoor
end
section
namespace Go.Proofs.YtfnbilpemdgkkaaGreatDoor
def b4D (s : List Int) (u : List (List Int × List (Int × List Int))) (q : List Int × List (Int × List Int)) : Bool := u.any (R2 s q)
def b4H (s : List Int) (u : List (List Int × List (Int × List Int))) (q : List Int × List (Int × List Int)) : Bool := !b4D s u q
def b3I (s : List Int) (a b : List (List Int × List (Int × List Int))) : Bool := !a.any (b4H s b)
def b7g (s : List Int) (a b : List (List Int × List (Int × List Int))) : Bool := a4H s a && (a4H s b && (b3I s a b && b3I s b a))
end Go.Proofs.YtfnbilpemdgkkaaGreatDoor
end
section
namespace Go.Proofs.YtfnbilpemdgkkaaGreatDoor
set_option linter.unusedVariables false
def a1N (s h : List Int) (a : List (Int × List Int) × Nat) : List (Int × List Int) × Nat :=
 if a.2 < a.1.length then (if R2 s (h, H0 a.1 a.2) (h, a.1) then (H0 a.1 a.2, a.2) else (a.1, a.2 + 1)) else a
def w4 (s h : List Int) (l : List (Int × List Int)) : Nat → List (Int × List Int) × Nat
 | 0 => (l, 0)
 | n + 1 => a1N s h (w4 s h l n)
theorem a8E {α : Type} {l : List α} {i : Nat} (h : i < l.length) : (H0 l i).length + 1 = l.length := by
 unfold H0 inR
 rw [if_pos (by rw [decide_eq_true_eq]; omega)]
 simp; omega
theorem a9v {s h : List Int} {l : List (Int × List Int)} {n : Nat} (h1 : (w4 s h l n).2 < (w4 s h l n).1.length) (h2 : R2 s (h, H0 (w4 s h l n).1 (w4 s h l n).2) (h, (w4 s h l n).1) = true) : w4 s h l (n + 1) = (H0 (w4 s h l n).1 (w4 s h l n).2, (w4 s h l n).2) := by
 rw [w4, a1N, if_pos h1, if_pos h2]
theorem b0D {s h : List Int} {l : List (Int × List Int)} {n : Nat} (h1 : (w4 s h l n).2 < (w4 s h l n).1.length) (h2 : R2 s (h, H0 (w4 s h l n).1 (w4 s h l n).2) (h, (w4 s h l n).1) = false) : w4 s h l (n + 1) = ((w4 s h l n).1, (w4 s h l n).2 + 1) := by
 rw [w4, a1N, if_pos h1, if_neg (by simp [h2])]
theorem a3W {s h : List Int} {l : List (Int × List Int)} {n : Nat} (h1 : ¬ (w4 s h l n).2 < (w4 s h l n).1.length) : ∀ k, w4 s h l (n + k) = w4 s h l n
 | 0 => rfl
 | k + 1 => by
  show a1N s h (w4 s h l (n + k)) = _
  rw [a3W h1 k, a1N, if_neg h1]
def a1e (s h : List Int) (l : List (Int × List Int)) (n : Nat) : Prop := (w4 s h l n).2 ≤ (w4 s h l n).1.length ∧ (w4 s h l n).1.length - (w4 s h l n).2 + n = l.length ∧ ∀ a ∈ (w4 s h l n).1, a ∈ l
theorem a8G {s h : List Int} {l : List (Int × List Int)} : a1e s h l 0 := ⟨Nat.zero_le _, by simp [w4], fun a ha => ha⟩
theorem a9L {s h : List Int} {l : List (Int × List Int)} {n : Nat} (hi : a1e s h l n) (h1 : (w4 s h l n).2 < (w4 s h l n).1.length) (h2 : R2 s (h, H0 (w4 s h l n).1 (w4 s h l n).2) (h, (w4 s h l n).1) = true) : a1e s h l (n + 1) := by
 obtain ⟨a, b, c⟩ := hi
 have h3 := a8E h1
 unfold a1e
 rw [a9v h1 h2]
 exact ⟨by show _ ≤ (H0 _ _).length; omega, by show (H0 _ _).length - _ + _ = _; omega, fun x hx => c x (a5l hx)⟩
theorem b0Q {s h : List Int} {l : List (Int × List Int)} {n : Nat} (hi : a1e s h l n) (h1 : (w4 s h l n).2 < (w4 s h l n).1.length) (h2 : R2 s (h, H0 (w4 s h l n).1 (w4 s h l n).2) (h, (w4 s h l n).1) = false) : a1e s h l (n + 1) := by
 obtain ⟨a, b, c⟩ := hi
 unfold a1e
 rw [b0D h1 h2]
 exact ⟨h1, by show (w4 s h l n).1.length - ((w4 s h l n).2 + 1) + (n + 1) = _; omega, c⟩
def a0W (s : List Int) (h : List Int) (l : List (Int × List Int)) : List (Int × List Int) := if z7 s (h, l) then (w4 s h l l.length).1 else l
end Go.Proofs.YtfnbilpemdgkkaaGreatDoor
end
section
namespace Go.Proofs.YtfnbilpemdgkkaaGreatDoor
set_option linter.unusedVariables false
set_option linter.unusedSimpArgs false
section
variable {x b : List Int × List Int} {t v : Int} {g : Int → Int} {h head u : List Int} {s : List Int} {p q : List Int × List (Int × List Int)} {F A : List (Int × List Int)} {a f : Int × List Int}
def a0k (b : List Int × List Int) (g : Int → Int) : Prop := b.1.length = b.2.length ∧ ∀ t, bd b t → C9 b t = g t
theorem a9Q (hg : ∀ t, inR t 10 17 = false → g t = t) (hb : a0k b g) : C9 (J2 b t (g t)) t = g t ∧ a0k (J2 b t (g t)) g := by
 have h1 : C9 (J2 b t (g t)) t = g t := by
  cases hr : inR t 10 17 with
  | false => rw [← Q6 hr, hg t hr]
  | true =>
   cases hu : unb b t with
   | true => rw [a4z (by rw [hr, hu]; rfl)]; exact b2q hb.1 hr hu
   | false => rw [a6S (by rw [hr, hu]; rfl)]; exact hb.2 t (.inr ((a8b hb.1).1 hu))
 refine ⟨h1, a1r hb.1, fun y hy => ?_⟩
 by_cases e : y = t
 ·rw [e]; exact h1
 ·have hy2 : bd b y := by
   rcases hy with hy | hy
   ·exact .inl hy
   ·unfold J2 at hy
    split at hy
    ·rcases List.mem_append.1 hy with hy | hy
     ·exact .inr hy
     ·exact absurd (List.mem_singleton.1 hy) e
    ·exact .inr hy
  rw [a5g hb.1 hy2]; exact hb.2 y hy2
theorem a4h (hg : ∀ t, inR t 10 17 = false → g t = t) : ∀ {l : List (Int × Int)} {b : List Int × List Int}, a0k b g → (∀ p ∈ l, p.2 = g p.1) → okV b l = true ∧ a0k (Q5 b l) g
 | [], b, hb, _ => ⟨rfl, hb⟩
 | p :: l, b, hb, hl => by
  have e := hl p (by simp)
  obtain ⟨h1, h2⟩ := a9Q (t := p.1) hg hb
  rw [← e] at h1 h2
  obtain ⟨h3, h4⟩ := a4h hg (l := l) h2 fun y hy => hl y (by simp [hy])
  exact ⟨by rw [okV, h3, decide_eq_true h1]; rfl, h4⟩
theorem a7w (hg : ∀ t, inR t 10 17 = false → g t = t) (hb : a0k b g) : a2l b a (a.1, a.2.map g) = true ∧ a0k (R4 b a (a.1, a.2.map g)) g := by
 have hz : ∀ p ∈ a.2.zip (a.2.map g), p.2 = g p.1 := by
  intro p hp
  obtain ⟨i, hi, rfl⟩ := List.getElem_of_mem hp
  simp
 obtain ⟨h1, h2⟩ := a4h hg (l := a.2.zip (a.2.map g)) hb hz
 refine ⟨?_, h2⟩
 simp only [a2l, Bool.and_eq_true, decide_eq_true_eq]
 exact ⟨trivial, by simp, hb.1, h1⟩
theorem a4e (hg : ∀ t, inR t 10 17 = false → g t = t) : ∀ {A : List (Int × List Int)} {B : List (List Int × List Int)} {V : List Int}, (∀ a ∈ A, (a.1, a.2.map g) ∈ F) → (∃ b ∈ B, a0k b g ∧ ∀ t ∈ V, bd b t) →
  ∃ b ∈ A.foldl (fun l a => a0F l a F) B, a0k b g ∧ (∀ t ∈ V, bd b t) ∧ ∀ a ∈ A, ∀ t ∈ a.2, bd b t
 | [], B, V, _, ⟨b, h1, h2, h3⟩ => ⟨b, h1, h2, h3, fun a ha => by cases ha⟩
 | a :: A, B, V, hF, ⟨b, h1, h2, h3⟩ => by
  obtain ⟨m1, m2⟩ := a7w (a := a) hg h2
  obtain ⟨k1, k2, k3, k4⟩ := a5n m1
  obtain ⟨c, c1, c2, c3, c4⟩ := a4e hg (A := A) (B := a0F B a F) (V := V ++ a.2) (fun x hx => hF x (by simp [hx]))
   ⟨R4 b a (a.1, a.2.map g), List.mem_flatMap.2 ⟨b, h1, List.mem_map.2 ⟨_, List.mem_filter.2 ⟨hF a (by simp), m1⟩, rfl⟩⟩, m2, fun t ht => by
    rcases List.mem_append.1 ht with ht | ht
    ·exact (k4 t (h3 t ht)).2
    ·exact k3 t ht⟩
  refine ⟨c, c1, c2, fun t ht => c3 t (by simp [ht]), fun x hx t ht => ?_⟩
  rcases List.mem_cons.1 hx with hx | hx
  ·subst hx; exact c3 t (by simp [ht])
  ·exact c4 x hx t ht
theorem a4t (hg : ∀ t, inR t 10 17 = false → g t = t) (hF : ∀ a ∈ A, (a.1, a.2.map g) ∈ F) : ∃ b ∈ H3 A F, a0k b g ∧ ∀ a ∈ A, ∀ t ∈ a.2, bd b t := by
 obtain ⟨b, h1, h2, _, h4⟩ := a4e hg (F := F) (A := A) (B := [([], [])]) (V := []) hF ⟨([], []), by simp, ⟨rfl, fun t ht => by
  rcases ht with ht | ht
  ·rw [← Q6 ht, hg t ht]
  ·cases ht⟩, fun t ht => by cases ht⟩
 exact ⟨b, h1, h2, h4⟩
theorem a6p (hu : ∀ x ∈ u, 0 ≤ x ∧ x ≤ 9) : ∀ {n v : Nat}, 10 ≤ v + n → L6 u (nxt u n v : Nat) = false ∧ v ≤ nxt u n v ∧ ∀ w, v ≤ w → w < nxt u n v → L6 u (w : Nat) = true
 | 0, v, h => ⟨by
   cases e : L6 u (v : Int) with
   | false => exact e
   | true => have := b2s hu e; omega, Nat.le_refl _, fun w h1 h2 => by simp only [nxt] at h2; omega⟩
 | n + 1, v, h => by
  rw [nxt]
  split
  ·rename_i e
   obtain ⟨h1, h2, h3⟩ := a6p hu (n := n) (v := v + 1) (by omega)
   refine ⟨h1, by omega, fun w hw1 hw2 => ?_⟩
   by_cases e2 : w = v
   ·rw [e2]; exact e
   ·exact h3 w (by omega) hw2
  ·rename_i e
   exact ⟨by simpa using e, Nat.le_refl _, fun w h1 h2 => by omega⟩
theorem Q3 (hu : ∀ x ∈ u, 0 ≤ x ∧ x ≤ 9) {v : Nat} : L6 u (K9 u v : Nat) = false ∧ v ≤ K9 u v ∧ ∀ w, v ≤ w → w < K9 u v → L6 u (w : Nat) = true := a6p hu (by omega)
theorem a6R (hu : ∀ x ∈ u, 0 ≤ x ∧ x ≤ 9) : ∀ {k i : Nat}, i < k → K9 u (fzN u i) < fzN u k
 | 0, i, h => by omega
 | k + 1, i, h => by
  rw [fzN]
  rcases Nat.lt_succ_iff_lt_or_eq.1 h with h1 | rfl
  ·have h2 := a6R hu h1
   have := (Q3 hu (v := fzN u k)).2.1
   omega
  ·omega
theorem b2P (hu : ∀ x ∈ u, 0 ≤ x ∧ x ≤ 9) {i k : Nat} (h : K9 u (fzN u i) = K9 u (fzN u k)) : i = k := by
 rcases Nat.lt_trichotomy i k with h1 | h1 | h1
 ·have h2 := a6R hu h1
  have := (Q3 hu (v := fzN u k)).2.1
  omega
 ·exact h1
 ·have h2 := a6R hu h1
  have := (Q3 hu (v := fzN u i)).2.1
  omega
end
end Go.Proofs.YtfnbilpemdgkkaaGreatDoor
end
