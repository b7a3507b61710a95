import Derived.Test.YtfnbilpemdgkkaaGreatDoorGw
namespace Go.Proofs.YtfnbilpemdgkkaaGreatDoor
set_option linter.unusedVariables false
set_option linter.unusedSimpArgs false
section
variable {t v : Int} {h u C : List Int} {s : List Int} {p q r : Qry} {L A B : List (Int × List Int)} {n i k : Nat}
theorem Y9 {α : Type} [DecidableEq α] : ∀ {l m : List α}, l.Nodup → (∀ x ∈ l, x ∈ m) → l.length ≤ m.length
 | [], _, _, _ => Nat.zero_le _
 | x :: l, m, hn, hs => by
  obtain ⟨h1, h2⟩ := List.nodup_cons.1 hn
  have hx := hs x (List.mem_cons_self ..)
  have h3 := Y9 (m := m.erase x) h2 fun y hy => (List.mem_erase_of_ne (fun e => h1 (by rw [← e]; exact hy))).2 (hs y (List.mem_cons_of_mem _ hy))
  have h4 := List.length_erase_of_mem hx
  have h5 := List.length_pos_of_mem hx
  rw [List.length_cons]; omega
theorem a4F (hu : ∀ x ∈ u, 0 ≤ x ∧ x ≤ 9) : ∀ {i : Nat} {w : Nat}, w < fzN u i → F5 u (w : Int) = true ∨ ∃ k, k < i ∧ w = M4 u (fzN u k)
 | 0, w, hw => by simp [fzN] at hw
 | i + 1, w, hw => by
  rw [fzN] at hw
  by_cases h1 : w < fzN u i
  ·rcases a4F hu h1 with h2 | ⟨k, hk, e⟩
   ·exact .inl h2
   ·exact .inr ⟨k, by omega, e⟩
  ·by_cases h2 : w = M4 u (fzN u i)
   ·exact .inr ⟨i, by omega, h2⟩
   ·exact .inl ((R2 hu (v := fzN u i)).2.2 w (by omega) (by omega))
theorem a8N (hu : ∀ x ∈ u, 0 ≤ x ∧ x ≤ 9) (hC : ∀ x ∈ u, x ∈ C) {i : Nat} : M4 u (fzN u i) ≤ C.length + i := by
 have h1 := Y9 (l := List.range (M4 u (fzN u i))) (m := C.map (fun x => x.toNat) ++ (List.range i).map fun k => M4 u (fzN u k)) List.nodup_range fun w hw => by
  rw [List.mem_range] at hw
  have h2 : F5 u (w : Int) = true ∨ ∃ k, k < i ∧ w = M4 u (fzN u k) := by
   by_cases h1 : w < fzN u i
   ·exact a4F hu h1
   ·exact .inl ((R2 hu (v := fzN u i)).2.2 w (by omega) hw)
  rcases h2 with h2 | ⟨k, hk, e⟩
  ·exact List.mem_append.2 (.inl (List.mem_map.2 ⟨(w : Int), hC _ (Y6.1 h2), by simp⟩))
  ·exact List.mem_append.2 (.inr (List.mem_map.2 ⟨k, List.mem_range.2 hk, e.symm⟩))
 simpa using h1
theorem a8b (hu : ∀ x ∈ u, 0 ≤ x ∧ x ≤ 9) (hC : ∀ x ∈ u, x ∈ C) (hn : C.length + n ≤ 10) : a4r u n = true := a7e fun i hi => by
 have := a8N hu hC (i := i)
 omega
def X1 (A : List (Int × List Int)) : Prop := (u6 (fun t => inR t 0 9) A).length + (D2 A).length ≤ 10
theorem a0p {is : Int → Bool} (hs : ∀ a ∈ B, a ∈ A) : ∀ x ∈ u6 is B, x ∈ u6 is A := by
 intro x hx
 obtain ⟨h1, h2⟩ := S9.1 hx
 obtain ⟨a, ha, ht⟩ := List.mem_flatMap.1 h1
 exact S9.2 ⟨List.mem_flatMap.2 ⟨a, hs a ha, ht⟩, h2⟩
theorem a8T (hr : X1 A) (hp : ∀ a ∈ p.2, a ∈ A) (hq : ∀ a ∈ q.2, a ∈ A) : fzB (cU p.2 q.2) p.2 = true := by
 unfold fzB
 refine a8b (C := u6 (fun t => inR t 0 9) A) a4v (fun x hx => ?_) ?_
 ·simp only [cU, List.flatten_cons, List.flatten_nil, List.append_nil, List.mem_append] at hx
  rcases hx with hx | hx
  ·exact a0p hp x hx
  ·exact a0p hq x hx
 ·have h1 := Y9 (a2I (A := p.2)) (a0p (is := fun t => inR t 10 17) hp)
  unfold X1 at hr
  have h2 : (u6 (fun t => inR t 10 17) A).length = (D2 A).length := rfl
  omega
theorem a3p (hr : X1 A) (hp : ∀ a ∈ p.2, a ∈ A) (hq : ∀ a ∈ q.2, a ∈ A) (h1 : x3 s p = true) (h2 : x3 s q = true) : N4 s p q = true ↔ hom p q := by
 unfold N4
 rw [h1, h2, Bool.true_and, Bool.true_and]
 exact ⟨a4R h1 h2, a7H h1 h2 (a8T hr hp hq)⟩
theorem a0F (h : N4 s p q = true) : x3 s p = true ∧ x3 s q = true ∧ hom p q := by
 unfold N4 at h
 rw [Bool.and_eq_true, Bool.and_eq_true] at h
 exact ⟨h.1, h.2.1, a4R h.1 h.2.1 h.2.2⟩
theorem a5c {α : Type} {l : List α} (hk : k < l.length) : E9 l (k : Int) = l.eraseIdx k := by
 unfold E9 inR
 rw [if_pos (by rw [decide_eq_true_eq]; omega), List.eraseIdx_eq_take_drop_succ]
 rfl
theorem a4V {α : Type} {l : List α} {x : α} : x ∈ l.eraseIdx k ↔ ∃ i, ∃ hi : i < l.length, i ≠ k ∧ l[i] = x := by
 rw [List.mem_eraseIdx_iff_getElem]
theorem a8F {α : Type} {l : List α} {j : Nat} (hk : k < j) : ∀ x ∈ (l.eraseIdx j).eraseIdx k, x ∈ l.eraseIdx k := by
 intro x hx
 obtain ⟨i, hi, h1, h2⟩ := a4V.1 hx
 have hl := List.length_eraseIdx (l := l) (i := j)
 rw [List.getElem_eraseIdx] at h2
 split at h2
 ·refine a4V.2 ⟨i, ?_, h1, h2⟩
  split at hl <;> omega
 ·refine a4V.2 ⟨i + 1, ?_, by omega, h2⟩
  split at hl <;> omega
theorem a6s (h1 : x3 s (h, B) = true) (h2 : x3 s (h, L) = true) (hB : ∀ a ∈ B, a ∈ A) (hA : ∀ a ∈ A, a ∈ L) (hl : A.length ≤ 4) (h0 : 1 ≤ A.length) : x3 s (h, A) = true := by
 have t1 := (Q5 h1).2
 simp only [x3, N6, inR, Bool.and_eq_true, decide_eq_true_eq, Bool.not_eq_true', List.any_eq_false, Bool.not_eq_true] at h1 h2 ⊢
 refine ⟨h2.1, ⟨by omega, by omega⟩, fun a ha => h2.2.2.1 a (hA a ha), h2.2.2.2.1, fun t ht => ?_⟩
 have h3 := (t1 t ht).2.1
 have h4 := a0p (is := fun t => inR t 10 17) hB t h3
 have h5 := Y6.2 h4
 simpa [inR] using h5
end
section
variable {s h : List Int} {l : List (Int × List Int)} {n : Nat}
structure CInv (s h : List Int) (l : List (Int × List Int)) (σ : List (Int × List Int) × Nat) : Prop where
 sub : ∀ a ∈ σ.1, a ∈ l
 len : σ.1.length ≤ 4
 ok : x3 s (h, σ.1) = true
 hm : hom (h, σ.1) (h, l)
 min : ∀ k, k < σ.2 → k < σ.1.length → x3 s (h, σ.1.eraseIdx k) = true → ¬ hom (h, σ.1.eraseIdx k) (h, σ.1)
theorem a3d {A : List (Int × List Int)} (hq : x3 s (h, A) = true) : 1 ≤ A.length ∧ A.length ≤ 4 := by
 simp only [x3, inR, Bool.and_eq_true, decide_eq_true_eq] at hq
 omega
theorem a7f (hr : X1 l) {σ : List (Int × List Int) × Nat} (hi : CInv s h l σ) : CInv s h l (a0n s h σ) := by
 obtain ⟨L, j⟩ := σ
 unfold a0n
 by_cases h1 : j < L.length
 ·rw [if_pos h1]
  simp only
  rw [a5c h1]
  have hs : ∀ a ∈ L.eraseIdx j, a ∈ L := fun a ha => List.mem_of_mem_eraseIdx ha
  by_cases hc : N4 s (h, L.eraseIdx j) (h, L) = true
  ·rw [if_pos hc]
   obtain ⟨c1, c2, c3⟩ := a0F hc
   refine ⟨fun a ha => hi.sub a (hs a ha), (a3d c1).2, c1, a1o c3 hi.hm, fun k hk hk2 ho hm => ?_⟩
   have hkl : k < L.length := by simp only at hk; omega
   refine hi.min k hk hkl ?_ ?_
   ·have hl := List.length_eraseIdx_of_lt hkl
    have h0 := (a3d ho).1
    have e1 := List.length_eraseIdx_of_lt h1
    have e2 := List.length_eraseIdx_of_lt (l := L.eraseIdx j) (i := k) hk2
    have hL := hi.len
    simp only at hL
    refine a6s ho hi.ok (a8F hk) (fun a ha => List.mem_of_mem_eraseIdx ha) ?_ ?_
    ·show (L.eraseIdx k).length ≤ 4
     omega
    ·show 1 ≤ (L.eraseIdx k).length
     have h0' : 1 ≤ ((L.eraseIdx j).eraseIdx k).length := h0
     omega
   ·exact a1o (a5K (p := (h, L.eraseIdx k)) (q := (h, (L.eraseIdx j).eraseIdx k)) rfl (a8F hk)) (a1o hm c3)
  ·rw [if_neg hc]
   refine ⟨hi.sub, hi.len, hi.ok, hi.hm, fun k hk hk2 ho hm => ?_⟩
   by_cases e : k = j
   ·subst e
    exact hc ((a3p hr (fun a ha => hi.sub a (hs a ha)) hi.sub ho hi.ok).2 hm)
   ·exact hi.min k (by simp only at hk ⊢; omega) hk2 ho hm
 ·rw [if_neg h1]; exact hi
theorem a4X (hr : X1 l) (hq : x3 s (h, l) = true) : ∀ {n : Nat}, CInv s h l (x5 s h l n)
 | 0 => ⟨fun a ha => ha, (a3d hq).2, hq, a7T, fun k hk => by simp [x5] at hk⟩
 | n + 1 => a7f hr (a4X hr hq)
theorem a2E : ∀ {n : Nat}, a0j s h l n ∨ ¬ (x5 s h l n).2 < (x5 s h l n).1.length
 | 0 => .inl a6B
 | n + 1 => by
  by_cases h1 : (x5 s h l n).2 < (x5 s h l n).1.length
  ·rcases a2E (n := n) with h2 | h2
   ·cases hc : N4 s (h, E9 (x5 s h l n).1 (x5 s h l n).2) (h, (x5 s h l n).1) with
    | true => exact .inl (a6S h2 h1 hc)
    | false => exact .inl (a8n h2 h1 hc)
   ·exact absurd h1 h2
  ·exact .inr (by rw [a2J h1 1]; exact h1)
theorem a8i : ¬ (x5 s h l l.length).2 < (x5 s h l l.length).1.length := by
 rcases a2E (s := s) (h := h) (l := l) (n := l.length) with h1 | h1
 ·obtain ⟨a, b, _⟩ := h1; omega
 ·exact h1
theorem a2c (hr : X1 l) (hq : x3 s (h, l) = true) : N4 s (h, I9 s h l) (h, l) = true ∧ N4 s (h, l) (h, I9 s h l) = true ∧
  ∀ i : Nat, i < (I9 s h l).length → x3 s (h, E9 (I9 s h l) i) = true → N4 s (h, E9 (I9 s h l) i) (h, I9 s h l) = false := by
 have hc : I9 s h l = (x5 s h l l.length).1 := by rw [I9, if_pos hq]
 have hi := a4X hr hq (n := l.length)
 rw [hc]
 refine ⟨(a3p hr hi.sub (fun a ha => ha) hi.ok hq).2 hi.hm, (a3p hr (fun a ha => ha) hi.sub hq hi.ok).2 (a5K rfl hi.sub), fun i hl ho => ?_⟩
 rw [a5c hl] at ho ⊢
 cases e : N4 s (h, (x5 s h l l.length).1.eraseIdx i) (h, (x5 s h l l.length).1) with
 | false => rfl
 | true => exact absurd (a0F e).2.2 (hi.min i (by have := a8i (s := s) (h := h) (l := l); omega) hl ho)
end
end Go.Proofs.YtfnbilpemdgkkaaGreatDoor
