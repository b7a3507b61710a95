import Derived.Test.YtfnbilpemdgkkaaGreatDoorGw
namespace Go.Proofs.YtfnbilpemdgkkaaGreatDoor
set_option linter.unusedVariables false
set_option linter.unusedSimpArgs false
section
variable {t v : Int} {h u C : List Int} {s : List Int} {p q r : Qry} {L A B : List (Int × List Int)} {n i k : Nat}
theorem a0J {α : Type} [DecidableEq α] : ∀ {l m : List α}, l.Nodup → (∀ x ∈ l, x ∈ m) → l.length ≤ m.length
 | [], _, _, _ => Nat.zero_le _
 | x :: l, m, hn, hs => by
  obtain ⟨h1, h2⟩ := List.nodup_cons.1 hn
  have hx := hs x (List.mem_cons_self ..)
  have h3 := a0J (m := m.erase x) h2 fun y hy => (List.mem_erase_of_ne (fun e => h1 (by rw [← e]; exact hy))).2 (hs y (List.mem_cons_of_mem _ hy))
  have h4 := List.length_erase_of_mem hx
  have h5 := List.length_pos_of_mem hx
  rw [List.length_cons]; omega
theorem a6D (hu : ∀ x ∈ u, 0 ≤ x ∧ x ≤ 9) : ∀ {i : Nat} {w : Nat}, w < fzN u i → L6 u (w : Int) = true ∨ ∃ k, k < i ∧ w = K9 u (fzN u k)
 | 0, w, hw => by simp [fzN] at hw
 | i + 1, w, hw => by
  rw [fzN] at hw
  by_cases h1 : w < fzN u i
  ·rcases a6D hu h1 with h2 | ⟨k, hk, e⟩
   ·exact .inl h2
   ·exact .inr ⟨k, by omega, e⟩
  ·by_cases h2 : w = K9 u (fzN u i)
   ·exact .inr ⟨i, by omega, h2⟩
   ·exact .inl ((Q3 hu (v := fzN u i)).2.2 w (by omega) (by omega))
theorem b2z (hu : ∀ x ∈ u, 0 ≤ x ∧ x ≤ 9) (hC : ∀ x ∈ u, x ∈ C) {i : Nat} : K9 u (fzN u i) ≤ C.length + i := by
 have h1 := a0J (l := List.range (K9 u (fzN u i))) (m := C.map (fun x => x.toNat) ++ (List.range i).map fun k => K9 u (fzN u k)) List.nodup_range fun w hw => by
  rw [List.mem_range] at hw
  have h2 : L6 u (w : Int) = true ∨ ∃ k, k < i ∧ w = K9 u (fzN u k) := by
   by_cases h1 : w < fzN u i
   ·exact a6D hu h1
   ·exact .inl ((Q3 hu (v := fzN u i)).2.2 w (by omega) hw)
  rcases h2 with h2 | ⟨k, hk, e⟩
  ·exact List.mem_append.2 (.inl (List.mem_map.2 ⟨(w : Int), hC _ (a0M.1 h2), by simp⟩))
  ·exact List.mem_append.2 (.inr (List.mem_map.2 ⟨k, List.mem_range.2 hk, e.symm⟩))
 simpa using h1
theorem b1j (hu : ∀ x ∈ u, 0 ≤ x ∧ x ≤ 9) (hC : ∀ x ∈ u, x ∈ C) (hn : C.length + n ≤ 10) : a5Z u n = true := a9K fun i hi => by
 have := b2z hu hC (i := i)
 omega
def a1j (A : List (Int × List Int)) : Prop := (y4 (fun t => inR t 0 9) A).length + (D9 A).length ≤ 10
theorem a1d {is : Int → Bool} (hs : ∀ a ∈ B, a ∈ A) : ∀ x ∈ y4 is B, x ∈ y4 is A := by
 intro x hx
 obtain ⟨h1, h2⟩ := S7.1 hx
 obtain ⟨a, ha, ht⟩ := List.mem_flatMap.1 h1
 exact S7.2 ⟨List.mem_flatMap.2 ⟨a, hs a ha, ht⟩, h2⟩
theorem b2E (hr : a1j A) (hp : ∀ a ∈ p.2, a ∈ A) (hq : ∀ a ∈ q.2, a ∈ A) : fzB (cU p.2 q.2) p.2 = true := by
 unfold fzB
 refine b1j (C := y4 (fun t => inR t 0 9) A) a5X (fun x hx => ?_) ?_
 ·simp only [cU, List.flatten_cons, List.flatten_nil, List.append_nil, List.mem_append] at hx
  rcases hx with hx | hx
  ·exact a1d hp x hx
  ·exact a1d hq x hx
 ·have h1 := a0J (a4a (A := p.2)) (a1d (is := fun t => inR t 10 17) hp)
  unfold a1j at hr
  have h2 : (y4 (fun t => inR t 10 17) A).length = (D9 A).length := rfl
  omega
theorem a4P (hr : a1j A) (hp : ∀ a ∈ p.2, a ∈ A) (hq : ∀ a ∈ q.2, a ∈ A) (h1 : z7 s p = true) (h2 : z7 s q = true) : R2 s p q = true ↔ hom p q := by
 unfold R2
 rw [h1, h2, Bool.true_and, Bool.true_and]
 exact ⟨a6J h1 h2, b1p h1 h2 (b2E hr hp hq)⟩
theorem a7W (h : R2 s p q = true) : z7 s p = true ∧ z7 s q = true ∧ hom p q := by
 unfold R2 at h
 rw [Bool.and_eq_true, Bool.and_eq_true] at h
 exact ⟨h.1, h.2.1, a6J h.1 h.2.1 h.2.2⟩
theorem a6F {α : Type} {l : List α} (hk : k < l.length) : H0 l (k : Int) = l.eraseIdx k := by
 unfold H0 inR
 rw [if_pos (by rw [decide_eq_true_eq]; omega), List.eraseIdx_eq_take_drop_succ]
 rfl
theorem a6M {α : Type} {l : List α} {x : α} : x ∈ l.eraseIdx k ↔ ∃ i, ∃ hi : i < l.length, i ≠ k ∧ l[i] = x := by
 rw [List.mem_eraseIdx_iff_getElem]
theorem b1X {α : Type} {l : List α} {j : Nat} (hk : k < j) : ∀ x ∈ (l.eraseIdx j).eraseIdx k, x ∈ l.eraseIdx k := by
 intro x hx
 obtain ⟨i, hi, h1, h2⟩ := a6M.1 hx
 have hl := List.length_eraseIdx (l := l) (i := j)
 rw [List.getElem_eraseIdx] at h2
 split at h2
 ·refine a6M.2 ⟨i, ?_, h1, h2⟩
  split at hl <;> omega
 ·refine a6M.2 ⟨i + 1, ?_, by omega, h2⟩
  split at hl <;> omega
theorem a8M (h1 : z7 s (h, B) = true) (h2 : z7 s (h, L) = true) (hB : ∀ a ∈ B, a ∈ A) (hA : ∀ a ∈ A, a ∈ L) (hl : A.length ≤ 4) (h0 : 1 ≤ A.length) : z7 s (h, A) = true := by
 have t1 := (W2 h1).2
 simp only [z7, a3U, inR, Bool.and_eq_true, decide_eq_true_eq, Bool.not_eq_true', List.any_eq_false, Bool.not_eq_true] at h1 h2 ⊢
 refine ⟨h2.1, ⟨by omega, by omega⟩, fun a ha => h2.2.2.1 a (hA a ha), h2.2.2.2.1, fun t ht => ?_⟩
 have h3 := (t1 t ht).2.1
 have h4 := a1d (is := fun t => inR t 10 17) hB t h3
 have h5 := a0M.2 h4
 simpa [inR] using h5
end
section
variable {s h : List Int} {l : List (Int × List Int)} {n : Nat}
structure CInv (s h : List Int) (l : List (Int × List Int)) (σ : List (Int × List Int) × Nat) : Prop where
 sub : ∀ a ∈ σ.1, a ∈ l
 len : σ.1.length ≤ 4
 ok : z7 s (h, σ.1) = true
 hm : hom (h, σ.1) (h, l)
 min : ∀ k, k < σ.2 → k < σ.1.length → z7 s (h, σ.1.eraseIdx k) = true → ¬ hom (h, σ.1.eraseIdx k) (h, σ.1)
theorem a4K {A : List (Int × List Int)} (hq : z7 s (h, A) = true) : 1 ≤ A.length ∧ A.length ≤ 4 := by
 simp only [z7, inR, Bool.and_eq_true, decide_eq_true_eq] at hq
 omega
theorem a9q (hr : a1j l) {σ : List (Int × List Int) × Nat} (hi : CInv s h l σ) : CInv s h l (a1N s h σ) := by
 obtain ⟨L, j⟩ := σ
 unfold a1N
 by_cases h1 : j < L.length
 ·rw [if_pos h1]
  simp only
  rw [a6F h1]
  have hs : ∀ a ∈ L.eraseIdx j, a ∈ L := fun a ha => List.mem_of_mem_eraseIdx ha
  by_cases hc : R2 s (h, L.eraseIdx j) (h, L) = true
  ·rw [if_pos hc]
   obtain ⟨c1, c2, c3⟩ := a7W hc
   refine ⟨fun a ha => hi.sub a (hs a ha), (a4K c1).2, c1, a2k c3 hi.hm, fun k hk hk2 ho hm => ?_⟩
   have hkl : k < L.length := by simp only at hk; omega
   refine hi.min k hk hkl ?_ ?_
   ·have hl := List.length_eraseIdx_of_lt hkl
    have h0 := (a4K ho).1
    have e1 := List.length_eraseIdx_of_lt h1
    have e2 := List.length_eraseIdx_of_lt (l := L.eraseIdx j) (i := k) hk2
    have hL := hi.len
    simp only at hL
    refine a8M ho hi.ok (b1X hk) (fun a ha => List.mem_of_mem_eraseIdx ha) ?_ ?_
    ·show (L.eraseIdx k).length ≤ 4
     omega
    ·show 1 ≤ (L.eraseIdx k).length
     have h0' : 1 ≤ ((L.eraseIdx j).eraseIdx k).length := h0
     omega
   ·exact a2k (a7A (p := (h, L.eraseIdx k)) (q := (h, (L.eraseIdx j).eraseIdx k)) rfl (b1X hk)) (a2k hm c3)
  ·rw [if_neg hc]
   refine ⟨hi.sub, hi.len, hi.ok, hi.hm, fun k hk hk2 ho hm => ?_⟩
   by_cases e : k = j
   ·subst e
    exact hc ((a4P hr (fun a ha => hi.sub a (hs a ha)) hi.sub ho hi.ok).2 hm)
   ·exact hi.min k (by simp only at hk ⊢; omega) hk2 ho hm
 ·rw [if_neg h1]; exact hi
theorem a6B (hr : a1j l) (hq : z7 s (h, l) = true) : ∀ {n : Nat}, CInv s h l (w4 s h l n)
 | 0 => ⟨fun a ha => ha, (a4K hq).2, hq, b1l, fun k hk => by simp [w4] at hk⟩
 | n + 1 => a9q hr (a6B hr hq)
theorem a3R : ∀ {n : Nat}, a1e s h l n ∨ ¬ (w4 s h l n).2 < (w4 s h l n).1.length
 | 0 => .inl a8G
 | n + 1 => by
  by_cases h1 : (w4 s h l n).2 < (w4 s h l n).1.length
  ·rcases a3R (n := n) with h2 | h2
   ·cases hc : R2 s (h, H0 (w4 s h l n).1 (w4 s h l n).2) (h, (w4 s h l n).1) with
    | true => exact .inl (a9L h2 h1 hc)
    | false => exact .inl (b0Q h2 h1 hc)
   ·exact absurd h1 h2
  ·exact .inr (by rw [a3W h1 1]; exact h1)
theorem b0V : ¬ (w4 s h l l.length).2 < (w4 s h l l.length).1.length := by
 rcases a3R (s := s) (h := h) (l := l) (n := l.length) with h1 | h1
 ·obtain ⟨a, b, _⟩ := h1; omega
 ·exact h1
theorem b5X (hr : a1j l) (hq : z7 s (h, l) = true) : R2 s (h, a0W s h l) (h, l) = true ∧ R2 s (h, l) (h, a0W s h l) = true ∧
  ∀ i : Nat, i < (a0W s h l).length → z7 s (h, H0 (a0W s h l) i) = true → R2 s (h, H0 (a0W s h l) i) (h, a0W s h l) = false := by
 have hc : a0W s h l = (w4 s h l l.length).1 := by rw [a0W, if_pos hq]
 have hi := a6B hr hq (n := l.length)
 rw [hc]
 refine ⟨(a4P hr hi.sub (fun a ha => ha) hi.ok hq).2 hi.hm, (a4P hr (fun a ha => ha) hi.sub hq hi.ok).2 (a7A rfl hi.sub), fun i hl ho => ?_⟩
 rw [a6F hl] at ho ⊢
 cases e : R2 s (h, (w4 s h l l.length).1.eraseIdx i) (h, (w4 s h l l.length).1) with
 | false => rfl
 | true => exact absurd (a7W e).2.2 (hi.min i (by have := b0V (s := s) (h := h) (l := l); omega) hl ho)
end
end Go.Proofs.YtfnbilpemdgkkaaGreatDoor
