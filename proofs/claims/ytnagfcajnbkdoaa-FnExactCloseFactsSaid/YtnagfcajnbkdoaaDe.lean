/- Plain definitions: bindings. No program in sight. -/
import Derived.Test.YtnagfcajnbkdoaaDc
namespace Go.Proofs.Ytnagfcajnbkdoaa
set_option linter.unusedVariables false
/-- the value of a term under a binding -/
def valO (b : List Int × List Int) (t : Int) : Int :=
  if inR t 10 17 then (let i := idxP (fun x => decide (x = t)) (b.1.take (min b.1.length b.2.length)); if i < 0 then -1 else at0 b.2 i) else t
theorem valO_no {b : List Int × List Int} {t : Int} (h : inR t 10 17 = false) : t = valO b t := by simp [valO, h]
theorem valO_neg {b : List Int × List Int} {t : Int} (h : inR t 10 17 = true) (h2 : idxP (fun x => decide (x = t)) (b.1.take (min b.1.length b.2.length)) < 0) : -1 = valO b t := by simp only [valO, h, if_true, if_pos h2]
theorem idx_lt {α : Type} {p : α → Bool} {s : List α} (h : ¬ idxP p s < 0) : 0 ≤ idxP p s ∧ (idxP p s).toNat < s.length := by
  unfold idxP at *
  by_cases q : s.any p = true
  · rw [if_pos q] at h ⊢
    have := List.findIdx_lt_length.2 (List.any_eq_true.1 q)
    omega
  · rw [if_neg q] at h; omega
theorem valO_pos {b : List Int × List Int} {t : Int} (h : inR t 10 17 = true) (h2 : ¬ idxP (fun x => decide (x = t)) (b.1.take (min b.1.length b.2.length)) < 0) (h3 : (idxP (fun x => decide (x = t)) (b.1.take (min b.1.length b.2.length))).toNat < b.2.length) :
    b.2[(idxP (fun x => decide (x = t)) (b.1.take (min b.1.length b.2.length))).toNat] = valO b t := by
  simp only [valO, h, if_true, if_neg h2, at0_get h3]
theorem valO_hit {b : List Int × List Int} {t : Int} {g : Nat} (h : inR t 10 17 = true) (h1 : g < b.1.length) (h2 : g < b.2.length) (e : b.1[g] = t) (pa : ∀ x ∈ b.1.take g, decide (x = t) = false) : b.2[g] = valO b t := by
  have h3 : g < (b.1.take (min b.1.length b.2.length)).length := by simp; omega
  have hi := idxP_hit (p := fun x => decide (x = t)) h3 (by rw [List.take_take, Nat.min_eq_left (by omega)]; exact pa) (by simp [e])
  have h4 : ¬ ((g : Nat) : Int) < 0 := by omega
  simp only [valO, h, if_true, ← hi, if_neg h4, at0_get (i := (g : Int)) (s := b.2) (by simpa using h2)]
  rfl
theorem valO_miss {b : List Int × List Int} {t : Int} {g : Nat} (h : inR t 10 17 = true) (h1 : ¬ (g < b.1.length ∧ g < b.2.length)) (pa : ∀ x ∈ b.1.take g, decide (x = t) = false) : -1 = valO b t := by
  refine valO_neg h ?_
  rw [← idxP_miss (p := fun x => decide (x = t)) (s := b.1.take (min b.1.length b.2.length)) (k := min b.1.length b.2.length) (by simp) ?_]
  · omega
  · intro x hx
    rw [List.take_take, Nat.min_self] at hx
    refine pa x ?_
    rw [List.mem_take_iff_getElem] at hx ⊢
    obtain ⟨i, hi, rfl⟩ := hx
    exact ⟨i, by omega, rfl⟩
theorem map_step {α β : Type} {f : α → β} {l : List α} {g : Nat} (h : g < l.length) : (l.take g).map f ++ [f l[g]] = (l.take (g + 1)).map f := by
  rw [List.take_succ_eq_append_getElem h, List.map_append]; rfl
theorem map_all {α β : Type} {f : α → β} {l : List α} {g : Nat} (h : l.length ≤ g) : (l.take g).map f = l.map f := by rw [List.take_of_length_le h]
theorem valO_i64 {b : List Int × List Int} {t : Int} (h : I64 t) (hb : ∀ x ∈ b.2, I64 x) : I64 (valO b t) := by
  simp only [valO]
  split
  · split
    · exact ⟨by decide, by decide⟩
    · unfold at0
      rcases Nat.lt_or_ge (idxP (fun x => decide (x = t)) (b.1.take (min b.1.length b.2.length))).toNat b.2.length with h1 | h1
      · rw [getD_get h1]; exact hb _ (List.getElem_mem h1)
      · have : b.2.getD (idxP (fun x => decide (x = t)) (b.1.take (min b.1.length b.2.length))).toNat 0 = 0 := by simp [List.getD, List.getElem?_eq_none h1]
        rw [this]; exact ⟨by decide, by decide⟩
  · exact h
theorem valO_i64s {b : List Int × List Int} {l : List Int} (h : ∀ x ∈ l, I64 x) (h1 : ∀ x ∈ b.1, I64 x) (h2 : ∀ x ∈ b.2, I64 x) : ∀ x ∈ l, I64 (valO b x) := fun x hx => valO_i64 (h x hx) h2
end Go.Proofs.Ytnagfcajnbkdoaa
