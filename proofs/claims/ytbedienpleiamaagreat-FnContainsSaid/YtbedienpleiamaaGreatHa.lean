import Derived.Test.YtbedienpleiamaaGreatGw
namespace Go.Proofs.YtbedienpleiamaaGreat
set_option linter.unusedVariables false
set_option linter.unusedSimpArgs false
section
variable {t v : Int} {h u C : List Int} {s : List Int} {p q r : Qry} {L A B : List (Int × List Int)} {n i k : Nat}
theorem a1p {α : Type} [DecidableEq α] : ∀ {l m : List α}, l.Nodup → (∀ x ∈ l, x ∈ m) → l.length ≤ m.length
 | [], _, _, _ => Nat.zero_le _
 | x :: l, m, hn, hs => by
  obtain ⟨h1, h2⟩ := List.nodup_cons.1 hn
  have hx := hs x (List.mem_cons_self ..)
  have h3 := a1p (m := m.erase x) h2 fun y hy => (List.mem_erase_of_ne (fun e => h1 (by rw [← e]; exact hy))).2 (hs y (List.mem_cons_of_mem _ hy))
  have h4 := List.length_erase_of_mem hx
  have h5 := List.length_pos_of_mem hx
  rw [List.length_cons]; omega
theorem a6E (hu : ∀ x ∈ u, 0 ≤ x ∧ x ≤ 9) : ∀ {i : Nat} {w : Nat}, w < fzN u i → G2 u (w : Int) = true ∨ ∃ k, k < i ∧ w = E6 u (fzN u k)
 | 0, w, hw => by simp [fzN] at hw
 | i + 1, w, hw => by
  rw [fzN] at hw
  by_cases h1 : w < fzN u i
  ·rcases a6E hu h1 with h2 | ⟨k, hk, e⟩
   ·exact .inl h2
   ·exact .inr ⟨k, by omega, e⟩
  ·by_cases h2 : w = E6 u (fzN u i)
   ·exact .inr ⟨i, by omega, h2⟩
   ·exact .inl ((X2 hu (v := fzN u i)).2.2 w (by omega) (by omega))
theorem b0x (hu : ∀ x ∈ u, 0 ≤ x ∧ x ≤ 9) (hC : ∀ x ∈ u, x ∈ C) {i : Nat} : E6 u (fzN u i) ≤ C.length + i := by
 have h1 := a1p (l := List.range (E6 u (fzN u i))) (m := C.map (fun x => x.toNat) ++ (List.range i).map fun k => E6 u (fzN u k)) List.nodup_range fun w hw => by
  rw [List.mem_range] at hw
  have h2 : G2 u (w : Int) = true ∨ ∃ k, k < i ∧ w = E6 u (fzN u k) := by
   by_cases h1 : w < fzN u i
   ·exact a6E hu h1
   ·exact .inl ((X2 hu (v := fzN u i)).2.2 w (by omega) hw)
  rcases h2 with h2 | ⟨k, hk, e⟩
  ·exact List.mem_append.2 (.inl (List.mem_map.2 ⟨(w : Int), hC _ (Y7.1 h2), by simp⟩))
  ·exact List.mem_append.2 (.inr (List.mem_map.2 ⟨k, List.mem_range.2 hk, e.symm⟩))
 simpa using h1
theorem a9F (hu : ∀ x ∈ u, 0 ≤ x ∧ x ≤ 9) (hC : ∀ x ∈ u, x ∈ C) (hn : C.length + n ≤ 10) : a0T u n = true := a3e fun i hi => by
 have := b0x hu hC (i := i)
 omega
def S2 (A : List (Int × List Int)) : Prop := (c6 (fun t => inR t 0 9) A).length + (w8 A).length ≤ 10
theorem a1E {is : Int → Bool} (hs : ∀ a ∈ B, a ∈ A) : ∀ x ∈ c6 is B, x ∈ c6 is A := by
 intro x hx
 obtain ⟨h1, h2⟩ := O7.1 hx
 obtain ⟨a, ha, ht⟩ := List.mem_flatMap.1 h1
 exact O7.2 ⟨List.mem_flatMap.2 ⟨a, hs a ha, ht⟩, h2⟩
theorem b0o (hr : S2 A) (hp : ∀ a ∈ p.2, a ∈ A) (hq : ∀ a ∈ q.2, a ∈ A) : fzB (cU p.2 q.2) p.2 = true := by
 unfold fzB
 refine a9F (C := c6 (fun t => inR t 0 9) A) a6i (fun x hx => ?_) ?_
 ·simp only [cU, List.flatten_cons, List.flatten_nil, List.append_nil, List.mem_append] at hx
  rcases hx with hx | hx
  ·exact a1E hp x hx
  ·exact a1E hq x hx
 ·have h1 := a1p (a4G (A := p.2)) (a1E (is := fun t => inR t 10 17) hp)
  unfold S2 at hr
  have h2 : (c6 (fun t => inR t 10 17) A).length = (w8 A).length := rfl
  omega
theorem a4X (hr : S2 A) (hp : ∀ a ∈ p.2, a ∈ A) (hq : ∀ a ∈ q.2, a ∈ A) (h1 : w3 s p = true) (h2 : w3 s q = true) : J5 s p q = true ↔ hom p q := by
 unfold J5
 rw [h1, h2, Bool.true_and, Bool.true_and]
 exact ⟨a6I h1 h2, a9w h1 h2 (b0o hr hp hq)⟩
theorem a1Y (h : J5 s p q = true) : w3 s p = true ∧ w3 s q = true ∧ hom p q := by
 unfold J5 at h
 rw [Bool.and_eq_true, Bool.and_eq_true] at h
 exact ⟨h.1, h.2.1, a6I h.1 h.2.1 h.2.2⟩
theorem a6S {α : Type} {l : List α} (hk : k < l.length) : B8 l (k : Int) = l.eraseIdx k := by
 unfold B8 inR
 rw [if_pos (by rw [decide_eq_true_eq]; omega), List.eraseIdx_eq_take_drop_succ]
 rfl
theorem a6V {α : Type} {l : List α} {x : α} : x ∈ l.eraseIdx k ↔ ∃ i, ∃ hi : i < l.length, i ≠ k ∧ l[i] = x := by
 rw [List.mem_eraseIdx_iff_getElem]
theorem a9Z {α : Type} {l : List α} {j : Nat} (hk : k < j) : ∀ x ∈ (l.eraseIdx j).eraseIdx k, x ∈ l.eraseIdx k := by
 intro x hx
 obtain ⟨i, hi, h1, h2⟩ := a6V.1 hx
 have hl := List.length_eraseIdx (l := l) (i := j)
 rw [List.getElem_eraseIdx] at h2
 split at h2
 ·refine a6V.2 ⟨i, ?_, h1, h2⟩
  split at hl <;> omega
 ·refine a6V.2 ⟨i + 1, ?_, by omega, h2⟩
  split at hl <;> omega
theorem a7Q (h1 : w3 s (h, B) = true) (h2 : w3 s (h, L) = true) (hB : ∀ a ∈ B, a ∈ A) (hA : ∀ a ∈ A, a ∈ L) (hl : A.length ≤ 4) (h0 : 1 ≤ A.length) : w3 s (h, A) = true := by
 have t1 := (Y2 h1).2
 simp only [w3, V3, inR, Bool.and_eq_true, decide_eq_true_eq, Bool.not_eq_true', List.any_eq_false, Bool.not_eq_true] at h1 h2 ⊢
 refine ⟨h2.1, ⟨by omega, by omega⟩, fun a ha => h2.2.2.1 a (hA a ha), h2.2.2.2.1, fun t ht => ?_⟩
 have h3 := (t1 t ht).2.1
 have h4 := a1E (is := fun t => inR t 10 17) hB t h3
 have h5 := Y7.2 h4
 simpa [inR] using h5
end
section
variable {s h : List Int} {l : List (Int × List Int)} {n : Nat}
structure CInv (s h : List Int) (l : List (Int × List Int)) (σ : List (Int × List Int) × Nat) : Prop where
 sub : ∀ a ∈ σ.1, a ∈ l
 len : σ.1.length ≤ 4
 ok : w3 s (h, σ.1) = true
 hm : hom (h, σ.1) (h, l)
 min : ∀ k, k < σ.2 → k < σ.1.length → w3 s (h, σ.1.eraseIdx k) = true → ¬ hom (h, σ.1.eraseIdx k) (h, σ.1)
theorem a5i {A : List (Int × List Int)} (hq : w3 s (h, A) = true) : 1 ≤ A.length ∧ A.length ≤ 4 := by
 simp only [w3, inR, Bool.and_eq_true, decide_eq_true_eq] at hq
 omega
theorem a8r (hr : S2 l) {σ : List (Int × List Int) × Nat} (hi : CInv s h l σ) : CInv s h l (a1y s h σ) := by
 obtain ⟨L, j⟩ := σ
 unfold a1y
 by_cases h1 : j < L.length
 ·rw [if_pos h1]
  simp only
  rw [a6S h1]
  have hs : ∀ a ∈ L.eraseIdx j, a ∈ L := fun a ha => List.mem_of_mem_eraseIdx ha
  by_cases hc : J5 s (h, L.eraseIdx j) (h, L) = true
  ·rw [if_pos hc]
   obtain ⟨c1, c2, c3⟩ := a1Y hc
   refine ⟨fun a ha => hi.sub a (hs a ha), (a5i c1).2, c1, a2Y c3 hi.hm, fun k hk hk2 ho hm => ?_⟩
   have hkl : k < L.length := by simp only at hk; omega
   refine hi.min k hk hkl ?_ ?_
   ·have hl := List.length_eraseIdx_of_lt hkl
    have h0 := (a5i ho).1
    have e1 := List.length_eraseIdx_of_lt h1
    have e2 := List.length_eraseIdx_of_lt (l := L.eraseIdx j) (i := k) hk2
    have hL := hi.len
    simp only at hL
    refine a7Q ho hi.ok (a9Z hk) (fun a ha => List.mem_of_mem_eraseIdx ha) ?_ ?_
    ·show (L.eraseIdx k).length ≤ 4
     omega
    ·show 1 ≤ (L.eraseIdx k).length
     have h0' : 1 ≤ ((L.eraseIdx j).eraseIdx k).length := h0
     omega
   ·exact a2Y (a7H (p := (h, L.eraseIdx k)) (q := (h, (L.eraseIdx j).eraseIdx k)) rfl (a9Z hk)) (a2Y hm c3)
  ·rw [if_neg hc]
   refine ⟨hi.sub, hi.len, hi.ok, hi.hm, fun k hk hk2 ho hm => ?_⟩
   by_cases e : k = j
   ·subst e
    exact hc ((a4X hr (fun a ha => hi.sub a (hs a ha)) hi.sub ho hi.ok).2 hm)
   ·exact hi.min k (by simp only at hk ⊢; omega) hk2 ho hm
 ·rw [if_neg h1]; exact hi
theorem a6z (hr : S2 l) (hq : w3 s (h, l) = true) : ∀ {n : Nat}, CInv s h l (w5 s h l n)
 | 0 => ⟨fun a ha => ha, (a5i hq).2, hq, a9y, fun k hk => by simp [w5] at hk⟩
 | n + 1 => a8r hr (a6z hr hq)
theorem a4L : ∀ {n : Nat}, S3 s h l n ∨ ¬ (w5 s h l n).2 < (w5 s h l n).1.length
 | 0 => .inl a2B
 | n + 1 => by
  by_cases h1 : (w5 s h l n).2 < (w5 s h l n).1.length
  ·rcases a4L (n := n) with h2 | h2
   ·cases hc : J5 s (h, B8 (w5 s h l n).1 (w5 s h l n).2) (h, (w5 s h l n).1) with
    | true => exact .inl (a3j h2 h1 hc)
    | false => exact .inl (a2q h2 h1 hc)
   ·exact absurd h1 h2
  ·exact .inr (by rw [a2F h1 1]; exact h1)
theorem a9B : ¬ (w5 s h l l.length).2 < (w5 s h l l.length).1.length := by
 rcases a4L (s := s) (h := h) (l := l) (n := l.length) with h1 | h1
 ·obtain ⟨a, b, _⟩ := h1; omega
 ·exact h1
theorem a4g (hr : S2 l) (hq : w3 s (h, l) = true) : J5 s (h, D9 s h l) (h, l) = true ∧ J5 s (h, l) (h, D9 s h l) = true ∧
  ∀ i : Nat, i < (D9 s h l).length → w3 s (h, B8 (D9 s h l) i) = true → J5 s (h, B8 (D9 s h l) i) (h, D9 s h l) = false := by
 have hc : D9 s h l = (w5 s h l l.length).1 := by rw [D9, if_pos hq]
 have hi := a6z hr hq (n := l.length)
 rw [hc]
 refine ⟨(a4X hr hi.sub (fun a ha => ha) hi.ok hq).2 hi.hm, (a4X hr (fun a ha => ha) hi.sub hq hi.ok).2 (a7H rfl hi.sub), fun i hl ho => ?_⟩
 rw [a6S hl] at ho ⊢
 cases e : J5 s (h, (w5 s h l l.length).1.eraseIdx i) (h, (w5 s h l l.length).1) with
 | false => rfl
 | true => exact absurd (a1Y e).2.2 (hi.min i (by have := a9B (s := s) (h := h) (l := l); omega) hl ho)
end
end Go.Proofs.YtbedienpleiamaaGreat
