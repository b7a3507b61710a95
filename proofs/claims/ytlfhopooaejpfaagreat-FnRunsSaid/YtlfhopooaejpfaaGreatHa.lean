import Derived.Test.YtlfhopooaejpfaaGreatGw
namespace Go.Proofs.YtlfhopooaejpfaaGreat
set_option linter.unusedVariables false
set_option linter.unusedSimpArgs false
section
variable {t v : Int} {h u C : List Int} {s : List Int} {p q r : Qry} {L A B : List (Int × List Int)} {n i k : Nat}
theorem a2r {α : Type} [DecidableEq α] : ∀ {l m : List α}, l.Nodup → (∀ x ∈ l, x ∈ m) → l.length ≤ m.length
 | [], _, _, _ => Nat.zero_le _
 | x :: l, m, hn, hs => by
  obtain ⟨h1, h2⟩ := List.nodup_cons.1 hn
  have hx := hs x (List.mem_cons_self ..)
  have h3 := a2r (m := m.erase x) h2 fun y hy => (List.mem_erase_of_ne (fun e => h1 (by rw [← e]; exact hy))).2 (hs y (List.mem_cons_of_mem _ hy))
  have h4 := List.length_erase_of_mem hx
  have h5 := List.length_pos_of_mem hx
  rw [List.length_cons]; omega
theorem a9S (hu : ∀ x ∈ u, 0 ≤ x ∧ x ≤ 9) : ∀ {i : Nat} {w : Nat}, w < fzN u i → G7 u (w : Int) = true ∨ ∃ k, k < i ∧ w = X7 u (fzN u k)
 | 0, w, hw => by simp [fzN] at hw
 | i + 1, w, hw => by
  rw [fzN] at hw
  by_cases h1 : w < fzN u i
  ·rcases a9S hu h1 with h2 | ⟨k, hk, e⟩
   ·exact .inl h2
   ·exact .inr ⟨k, by omega, e⟩
  ·by_cases h2 : w = X7 u (fzN u i)
   ·exact .inr ⟨i, by omega, h2⟩
   ·exact .inl ((a0P hu (v := fzN u i)).2.2 w (by omega) (by omega))
theorem b5e (hu : ∀ x ∈ u, 0 ≤ x ∧ x ≤ 9) (hC : ∀ x ∈ u, x ∈ C) {i : Nat} : X7 u (fzN u i) ≤ C.length + i := by
 have h1 := a2r (l := List.range (X7 u (fzN u i))) (m := C.map (fun x => x.toNat) ++ (List.range i).map fun k => X7 u (fzN u k)) List.nodup_range fun w hw => by
  rw [List.mem_range] at hw
  have h2 : G7 u (w : Int) = true ∨ ∃ k, k < i ∧ w = X7 u (fzN u k) := by
   by_cases h1 : w < fzN u i
   ·exact a9S hu h1
   ·exact .inl ((a0P hu (v := fzN u i)).2.2 w (by omega) hw)
  rcases h2 with h2 | ⟨k, hk, e⟩
  ·exact List.mem_append.2 (.inl (List.mem_map.2 ⟨(w : Int), hC _ (Y2.1 h2), by simp⟩))
  ·exact List.mem_append.2 (.inr (List.mem_map.2 ⟨k, List.mem_range.2 hk, e.symm⟩))
 simpa using h1
theorem b4g (hu : ∀ x ∈ u, 0 ≤ x ∧ x ≤ 9) (hC : ∀ x ∈ u, x ∈ C) (hn : C.length + n ≤ 10) : a9a u n = true := b2y fun i hi => by
 have := b5e hu hC (i := i)
 omega
def a2e (A : List (Int × List Int)) : Prop := (B7 (fun t => inR t 0 9) A).length + (J6 A).length ≤ 10
theorem a2Z {is : Int → Bool} (hs : ∀ a ∈ B, a ∈ A) : ∀ x ∈ B7 is B, x ∈ B7 is A := by
 intro x hx
 obtain ⟨h1, h2⟩ := a1f.1 hx
 obtain ⟨a, ha, ht⟩ := List.mem_flatMap.1 h1
 exact a1f.2 ⟨List.mem_flatMap.2 ⟨a, hs a ha, ht⟩, h2⟩
theorem b5D (hr : a2e A) (hp : ∀ a ∈ p.2, a ∈ A) (hq : ∀ a ∈ q.2, a ∈ A) : fzB (cU p.2 q.2) p.2 = true := by
 unfold fzB
 refine b4g (C := B7 (fun t => inR t 0 9) A) a9c (fun x hx => ?_) ?_
 ·simp only [cU, List.flatten_cons, List.flatten_nil, List.append_nil, List.mem_append] at hx
  rcases hx with hx | hx
  ·exact a2Z hp x hx
  ·exact a2Z hq x hx
 ·have h1 := a2r (a6S (A := p.2)) (a2Z (is := fun t => inR t 10 17) hp)
  unfold a2e at hr
  have h2 : (B7 (fun t => inR t 10 17) A).length = (J6 A).length := rfl
  omega
theorem a7P (hr : a2e A) (hp : ∀ a ∈ p.2, a ∈ A) (hq : ∀ a ∈ q.2, a ∈ A) (h1 : z8 s p = true) (h2 : z8 s q = true) : a0d s p q = true ↔ hom p q := by
 unfold a0d
 rw [h1, h2, Bool.true_and, Bool.true_and]
 exact ⟨a9n h1 h2, b4d h1 h2 (b5D hr hp hq)⟩
theorem a3v (h : a0d s p q = true) : z8 s p = true ∧ z8 s q = true ∧ hom p q := by
 unfold a0d at h
 rw [Bool.and_eq_true, Bool.and_eq_true] at h
 exact ⟨h.1, h.2.1, a9n h.1 h.2.1 h.2.2⟩
theorem a9m {α : Type} {l : List α} (hk : k < l.length) : N7 l (k : Int) = l.eraseIdx k := by
 unfold N7 inR
 rw [if_pos (by rw [decide_eq_true_eq]; omega), List.eraseIdx_eq_take_drop_succ]
 rfl
theorem a9E {α : Type} {l : List α} {x : α} : x ∈ l.eraseIdx k ↔ ∃ i, ∃ hi : i < l.length, i ≠ k ∧ l[i] = x := by
 rw [List.mem_eraseIdx_iff_getElem]
theorem b4O {α : Type} {l : List α} {j : Nat} (hk : k < j) : ∀ x ∈ (l.eraseIdx j).eraseIdx k, x ∈ l.eraseIdx k := by
 intro x hx
 obtain ⟨i, hi, h1, h2⟩ := a9E.1 hx
 have hl := List.length_eraseIdx (l := l) (i := j)
 rw [List.getElem_eraseIdx] at h2
 split at h2
 ·refine a9E.2 ⟨i, ?_, h1, h2⟩
  split at hl <;> omega
 ·refine a9E.2 ⟨i + 1, ?_, by omega, h2⟩
  split at hl <;> omega
theorem b1Z (h1 : z8 s (h, B) = true) (h2 : z8 s (h, L) = true) (hB : ∀ a ∈ B, a ∈ A) (hA : ∀ a ∈ A, a ∈ L) (hl : A.length ≤ 4) (h0 : 1 ≤ A.length) : z8 s (h, A) = true := by
 have t1 := (a0B h1).2
 simp only [z8, a0r, inR, Bool.and_eq_true, decide_eq_true_eq, Bool.not_eq_true', List.any_eq_false, Bool.not_eq_true] at h1 h2 ⊢
 refine ⟨h2.1, ⟨by omega, by omega⟩, fun a ha => h2.2.2.1 a (hA a ha), h2.2.2.2.1, fun t ht => ?_⟩
 have h3 := (t1 t ht).2.1
 have h4 := a2Z (is := fun t => inR t 10 17) hB t h3
 have h5 := Y2.2 h4
 simpa [inR] using h5
end
section
variable {s h : List Int} {l : List (Int × List Int)} {n : Nat}
structure CInv (s h : List Int) (l : List (Int × List Int)) (σ : List (Int × List Int) × Nat) : Prop where
 sub : ∀ a ∈ σ.1, a ∈ l
 len : σ.1.length ≤ 4
 ok : z8 s (h, σ.1) = true
 hm : hom (h, σ.1) (h, l)
 min : ∀ k, k < σ.2 → k < σ.1.length → z8 s (h, σ.1.eraseIdx k) = true → ¬ hom (h, σ.1.eraseIdx k) (h, σ.1)
theorem a7S {A : List (Int × List Int)} (hq : z8 s (h, A) = true) : 1 ≤ A.length ∧ A.length ≤ 4 := by
 simp only [z8, inR, Bool.and_eq_true, decide_eq_true_eq] at hq
 omega
theorem b2w (hr : a2e l) {σ : List (Int × List Int) × Nat} (hi : CInv s h l σ) : CInv s h l (a2O s h σ) := by
 obtain ⟨L, j⟩ := σ
 unfold a2O
 by_cases h1 : j < L.length
 ·rw [if_pos h1]
  simp only
  rw [a9m h1]
  have hs : ∀ a ∈ L.eraseIdx j, a ∈ L := fun a ha => List.mem_of_mem_eraseIdx ha
  by_cases hc : a0d s (h, L.eraseIdx j) (h, L) = true
  ·rw [if_pos hc]
   obtain ⟨c1, c2, c3⟩ := a3v hc
   refine ⟨fun a ha => hi.sub a (hs a ha), (a7S c1).2, c1, a4H c3 hi.hm, fun k hk hk2 ho hm => ?_⟩
   have hkl : k < L.length := by simp only at hk; omega
   refine hi.min k hk hkl ?_ ?_
   ·have hl := List.length_eraseIdx_of_lt hkl
    have h0 := (a7S ho).1
    have e1 := List.length_eraseIdx_of_lt h1
    have e2 := List.length_eraseIdx_of_lt (l := L.eraseIdx j) (i := k) hk2
    have hL := hi.len
    simp only at hL
    refine b1Z ho hi.ok (b4O hk) (fun a ha => List.mem_of_mem_eraseIdx ha) ?_ ?_
    ·show (L.eraseIdx k).length ≤ 4
     omega
    ·show 1 ≤ (L.eraseIdx k).length
     have h0' : 1 ≤ ((L.eraseIdx j).eraseIdx k).length := h0
     omega
   ·exact a4H (b1s (p := (h, L.eraseIdx k)) (q := (h, (L.eraseIdx j).eraseIdx k)) rfl (b4O hk)) (a4H hm c3)
  ·rw [if_neg hc]
   refine ⟨hi.sub, hi.len, hi.ok, hi.hm, fun k hk hk2 ho hm => ?_⟩
   by_cases e : k = j
   ·subst e
    exact hc ((a7P hr (fun a ha => hi.sub a (hs a ha)) hi.sub ho hi.ok).2 hm)
   ·exact hi.min k (by simp only at hk ⊢; omega) hk2 ho hm
 ·rw [if_neg h1]; exact hi
theorem a9j (hr : a2e l) (hq : z8 s (h, l) = true) : ∀ {n : Nat}, CInv s h l (E1 s h l n)
 | 0 => ⟨fun a ha => ha, (a7S hq).2, hq, b3S, fun k hk => by simp [E1] at hk⟩
 | n + 1 => b2w hr (a9j hr hq)
theorem a7c : ∀ {n : Nat}, a2M s h l n ∨ ¬ (E1 s h l n).2 < (E1 s h l n).1.length
 | 0 => .inl b2a
 | n + 1 => by
  by_cases h1 : (E1 s h l n).2 < (E1 s h l n).1.length
  ·rcases a7c (n := n) with h2 | h2
   ·cases hc : a0d s (h, N7 (E1 s h l n).1 (E1 s h l n).2) (h, (E1 s h l n).1) with
    | true => exact .inl (b3m h2 h1 hc)
    | false => exact .inl (b4s h2 h1 hc)
   ·exact absurd h1 h2
  ·exact .inr (by rw [a6L h1 1]; exact h1)
theorem b3N : ¬ (E1 s h l l.length).2 < (E1 s h l l.length).1.length := by
 rcases a7c (s := s) (h := h) (l := l) (n := l.length) with h1 | h1
 ·obtain ⟨a, b, _⟩ := h1; omega
 ·exact h1
theorem a5X (hr : a2e l) (hq : z8 s (h, l) = true) : a0d s (h, U4 s h l) (h, l) = true ∧ a0d s (h, l) (h, U4 s h l) = true ∧
  ∀ i : Nat, i < (U4 s h l).length → z8 s (h, N7 (U4 s h l) i) = true → a0d s (h, N7 (U4 s h l) i) (h, U4 s h l) = false := by
 have hc : U4 s h l = (E1 s h l l.length).1 := by rw [U4, if_pos hq]
 have hi := a9j hr hq (n := l.length)
 rw [hc]
 refine ⟨(a7P hr hi.sub (fun a ha => ha) hi.ok hq).2 hi.hm, (a7P hr (fun a ha => ha) hi.sub hq hi.ok).2 (b1s rfl hi.sub), fun i hl ho => ?_⟩
 rw [a9m hl] at ho ⊢
 cases e : a0d s (h, (E1 s h l l.length).1.eraseIdx i) (h, (E1 s h l l.length).1) with
 | false => rfl
 | true => exact absurd (a3v e).2.2 (hi.min i (by have := b3N (s := s) (h := h) (l := l); omega) hl ho)
end
end Go.Proofs.YtlfhopooaejpfaaGreat
