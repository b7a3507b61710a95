import Derived.Test.YtdopeopehgdccaaGreatEa
import Derived.Test.YtdopeopehgdccaaGreatEf
import Derived.Test.YtdopeopehgdccaaGreatDs
section
namespace Go.Proofs.YtdopeopehgdccaaGreat
set_option linter.unusedVariables false
set_option linter.unusedSimpArgs false
abbrev a0a (q : List Int × List (Int × List Int)) : List Int := f0 (fun t => inR t 0 9) q.2
def b5w (s : List Int) (l : List Mth) (d8 : List Rul) (q : List Int × List (Int × List Int)) (d6 : List Fct) : List (List Int) :=
  if b2W s l d8 d6 && I0 s q then b3C q.1 (t7 q.2 (C6 l d8 d6 (a0a q)).1) else []
attribute [local irreducible] C6
section
variable {s : List Int} {l : List Mth} {d8 : List Rul} {d6 : List Fct} {j8 : List Int} {q : List Int × List (Int × List Int)}
theorem nInv.asc {S : NoS} (h : nInv s S) : a1j S.1 := by rw [h.fold]; exact a6n .nil
end
end Go.Proofs.YtdopeopehgdccaaGreat
end
section
namespace Go.Proofs.YtdopeopehgdccaaGreat
set_option linter.unusedVariables false
set_option linter.unusedSimpArgs false
section
variable {s : List Int} {l : List Mth} {d8 : List Rul} {d6 : List Fct} {j8 u v : List Int} {q : List Int × List (Int × List Int)} {n0 : List (Int × List Int)} {b : List Int × List Int} {n : Nat}
theorem a9C : T7 n0 b = (n0.map fun a => E4 a b).foldl o4 [] := by
  unfold T7; rw [List.foldl_map]
theorem b3p (h : a3u u n = true) : ∀ x ∈ B9 u n, 0 ≤ x ∧ x ≤ 9 := by
  intro x hx
  unfold B9 at hx
  obtain ⟨i, hi, rfl⟩ := List.mem_map.1 hx
  rw [a3u, List.all_eq_true] at h
  have := h i hi
  rw [decide_eq_true_eq] at this; omega
theorem b3W {v : List Int} (h : ∀ x ∈ v, 0 ≤ x ∧ x ≤ 9) (i : Int) : 0 ≤ at0 v i ∧ at0 v i ≤ 9 := by
  unfold at0
  rcases Nat.lt_or_ge i.toNat v.length with h1 | h1
  · rw [a1k h1]; exact h _ (List.getElem_mem h1)
  · rw [List.getD, List.getElem?_eq_none h1]; simp
theorem b3t (h : a3u u (x6 n0).length = true) {t : Int} (ht : V3 t = true) (hm : t ∈ n0.flatMap fun a => a.2) : 0 ≤ B4 (x6 n0, B9 u (x6 n0).length) t ∧ B4 (x6 n0, B9 u (x6 n0).length) t ≤ 9 := by
  by_cases h1 : inR t 10 17 = true
  · have h2 : t ∈ x6 n0 := by
      unfold x6
      exact b1w.2 ⟨hm, h1⟩
    unfold B4
    rw [if_pos h1]
    have h3 : min (x6 n0, B9 u (x6 n0).length).1.length (x6 n0, B9 u (x6 n0).length).2.length = (x6 n0).length := by simp [a2Q]
    rw [h3, List.take_length]
    have h4 : ¬ F3 (fun x => decide (x = t)) (x6 n0) < 0 := by
      unfold F3
      rw [if_pos (List.any_eq_true.2 ⟨t, h2, by simp⟩)]; omega
    simp only [if_neg h4]
    exact b3W (b3p h) _
  · have h1 : inR t 10 17 = false := by simpa using h1
    rw [← a7J h1]
    rw [V3, h1, Bool.or_false] at ht
    simpa [inR] using ht
theorem b1c (hs : K5 s = true) (ha : a1j d6) (ho : ∀ f ∈ d6, D6 s f = true) (hl : d6.length ≤ 24) : H3 s d6 = true := by
  rw [H3, b2o, hs, decide_eq_true (show (d6.length : Int) ≤ 24 by omega)]
  rw [show d6.drop 0 = d6 from rfl, a3K ha, List.all_eq_true.2 ho]; rfl
theorem b2T (hq : I0 s q = true) (hb : fzB u q.2 = true) : H3 s (fzF u q.2) = true := by
  have h1 := a4X hq
  unfold fzF
  rw [hb, cond_true]
  have h2 := a7N (n0 := q.2) (b := (x6 q.2, B9 u (x6 q.2).length))
  simp only [I0, Bool.and_eq_true, Bool.not_eq_true', List.any_eq_false, Bool.not_eq_true] at hq
  refine b1c hq.1 (by rw [a9C]; exact a6n .nil) (fun f hf => ?_) (by omega)
  rw [a9C] at hf
  rcases (a5b f).1 hf with hf | hf
  · cases hf
  · obtain ⟨a, ha, rfl⟩ := List.mem_map.1 hf
    have h3 : N9 s a = true := by simpa using hq.2.2.1 a ha
    simp only [N9, Bool.and_eq_true, Bool.not_eq_true', List.any_eq_false, Bool.not_eq_true] at h3
    have h4 : a1L (a.2.map (B4 (x6 q.2, B9 u (x6 q.2).length))) = true := a5c fun x hx => by
      obtain ⟨t, ht, rfl⟩ := List.mem_map.1 hx
      exact b3t hb (by simpa using h3.2.2 t ht) (List.mem_flatMap.2 ⟨a, ha, ht⟩)
    simp only [E4, D6, h3.1, h4, List.length_map, Bool.true_and, Bool.and_true]
    exact h3.2.1
theorem b0g (hr : x7 s d8 = true) (hf : H3 s d6 = true) : ∀ n, ∃ D, a4q s (o7 d8 d6 n) D
  | 0 => ⟨[], a8S hf⟩
  | n + 1 => by
    obtain ⟨D, g⟩ := b0g hr hf n
    by_cases h0 : i9 d8 (o7 d8 d6 n) = []
    · exact ⟨D, by rw [o7, h0]; exact g⟩
    · obtain ⟨D', g', _⟩ := a6L g (a1w hr g.2.2.2) h0
      exact ⟨D', g'⟩
theorem a8P (hr : x7 s d8 = true) (hf : H3 s d6 = true) : X2 s (w6 d8 d6) := by
  obtain ⟨D, g⟩ := b0g hr hf 6001
  have h2 := a5l g.1 (fun f hf => g.2.2.2 f (g.2.1 f hf))
  exact ⟨by have := g.2.2.1; unfold w6; omega, g.2.2.2⟩
theorem a8Q (hm : x8 s l = true) (hr : x7 s d8 = true) (hf : X2 s d6) : uInv s (C6 l d8 d6 j8) := a9E hm hr hf 6000
theorem a1I {U : UU} (h : uInv s U) (a : Int × List Int) : Few a U.1 := b4p (a7f h.n.asc) h.n.okF
end
def a0o (s : List Int) (l : List Mth) (d8 : List Rul) (q : List Int × List (Int × List Int)) : Bool :=
  (x8 s l && x7 s d8) && (I0 s q && (fzB (a0a q) q.2 && (t7 q.2 (C6 l d8 (w6 d8 (fzF (a0a q) q.2)) (a0a q)).1).any (K2 q.1 (q.1.map (B4 (fzV (a0a q) q.2, fzX (a0a q) q.2))))))
theorem a8u {s : List Int} {l : List Mth} {d8 : List Rul} {q : List Int × List (Int × List Int)} (h : (x8 s l && x7 s d8) = false) : false = a0o s l d8 q := by rw [a0o, h]; rfl
theorem a8F {s : List Int} {l : List Mth} {d8 : List Rul} {q : List Int × List (Int × List Int)} (h : I0 s q = false) : false = a0o s l d8 q := by rw [a0o, h]; simp
theorem a8i {s : List Int} {l : List Mth} {d8 : List Rul} {q : List Int × List (Int × List Int)} (h : fzB (a0a q) q.2 = false) : false = a0o s l d8 q := by rw [a0o, h]; simp
theorem a8B {s : List Int} {l : List Mth} {d8 : List Rul} {q : List Int × List (Int × List Int)} (h1 : (x8 s l && x7 s d8) = true) (h2 : I0 s q = true) (h3 : fzB (a0a q) q.2 = true) :
    (t7 q.2 (C6 l d8 (w6 d8 (fzF (a0a q) q.2)) (a0a q)).1).any (K2 q.1 (q.1.map (B4 (fzV (a0a q) q.2, fzX (a0a q) q.2)))) = a0o s l d8 q := by rw [a0o, h1, h2, h3]; rfl
end Go.Proofs.YtdopeopehgdccaaGreat
end
