import Derived.Test.YtfnbilpemdgkkaaGreatDoorGv
namespace Go.Proofs.YtfnbilpemdgkkaaGreatDoor
set_option linter.unusedVariables false
set_option linter.unusedSimpArgs false
abbrev Qry := List Int × List (Int × List Int)
abbrev cU (p q : List (Int × List Int)) : List Int := [y4 (fun t => inR t 0 9) p, y4 (fun t => inR t 0 9) q].flatten
abbrev bP (u : List Int) (A : List (Int × List Int)) : List Int × List Int := (D9 A, a2j u (D9 A).length)
def unF (u : List Int) (A : List (Int × List Int)) (w : Int) : Int := ((D9 A).find? fun x => decide (C9 (bP u A) x = w)).getD w
def hom (p q : Qry) : Prop := ∃ g : Int → Int, (∀ t, inR t 10 17 = false → g t = t) ∧ (∀ a ∈ q.2, (a.1, a.2.map g) ∈ p.2) ∧ q.1.map g = p.1
section
variable {t v : Int} {g : Int → Int} {h head u : List Int} {s : List Int} {p q r : Qry} {F A B : List (Int × List Int)} {a f : Int × List Int}
theorem a4a : (D9 A).Nodup := by
 have h1 : (D9 A).Pairwise (· < ·) := (a0Z List.Pairwise.nil).1
 exact List.Pairwise.imp (fun {a b} h e => by omega) h1
theorem a7X : ∀ {l : List Int} {i : Nat} (hi : i < l.length), l.Nodup → ∀ y ∈ l.take i, decide (y = l[i]) = false
 | x :: l, 0, _, _, y, hy => by cases hy
 | x :: l, i + 1, hi, hn, y, hy => by
  rw [List.take_succ_cons] at hy
  rw [List.nodup_cons] at hn
  rcases List.mem_cons.1 hy with hy | hy
  ·refine decide_eq_false fun e => hn.1 ?_
   rw [← hy, e]
   exact List.getElem_mem _
  ·exact a7X (by simpa using hi) hn.2 y hy
theorem b1v {i : Nat} (hi : i < (D9 A).length) : C9 (bP u A) (D9 A)[i] = (K9 u (fzN u i) : Int) := by
 have hv := b2x (v7 := A) _ (List.getElem_mem hi)
 have e := a1W (b := bP u A) (t := (D9 A)[i]) (g := i) (by simp [inR]; omega) hi (by simpa [b1f] using hi) rfl (a7X hi a4a)
 rw [← e]
 simp [a2j]
theorem a8e (hu : ∀ x ∈ u, 0 ≤ x ∧ x ≤ 9) (ht : t ∈ D9 A) : unF u A (C9 (bP u A) t) = t := by
 unfold unF
 cases c : (D9 A).find? fun x => decide (C9 (bP u A) x = C9 (bP u A) t) with
 | none => exact absurd (List.find?_eq_none.1 c t ht) (by simp)
 | some y =>
  have h1 := List.find?_some c
  rw [decide_eq_true_eq] at h1
  have h2 := List.mem_of_find?_eq_some c
  obtain ⟨i, hi, rfl⟩ := List.getElem_of_mem ht
  obtain ⟨k, hk, rfl⟩ := List.getElem_of_mem h2
  rw [b1v hi, b1v hk] at h1
  have := b2P hu (Int.ofNat_inj.1 h1)
  subst this
  rfl
theorem a7O (hu : ∀ x ∈ u, 0 ≤ x ∧ x ≤ 9) (ht : t ∈ u) : unF u A t = t := by
 unfold unF
 cases c : (D9 A).find? fun x => decide (C9 (bP u A) x = t) with
 | none => rfl
 | some y =>
  have h1 := List.find?_some c
  rw [decide_eq_true_eq] at h1
  have h2 := List.mem_of_find?_eq_some c
  obtain ⟨k, hk, rfl⟩ := List.getElem_of_mem h2
  rw [b1v hk] at h1
  have h3 := (Q3 hu (v := fzN u k)).1
  rw [h1, a0M.2 ht] at h3
  cases h3
theorem a9h (l : List (Int × List Int)) : f ∈ s7 l f := by
 cases e : w5 l f with
 | false => exact a1c e
 | true => exact W3 (I2.1 e)
theorem a7f {b : List Int × List Int} : ∀ {A out : List (Int × List Int)}, f ∈ A.foldl (fun out a => s7 out (N6 a b)) out ↔ f ∈ out ∨ ∃ a ∈ A, N6 a b = f
 | [], out => by simp
 | a :: A, out => by
  rw [List.foldl_cons, a7f]
  constructor
  ·rintro (h1 | ⟨c, hc, e⟩)
   ·rcases P6 h1 with h1 | h1
    ·exact .inl h1
    ·exact .inr ⟨a, by simp, h1.symm⟩
   ·exact .inr ⟨c, by simp [hc], e⟩
  ·rintro (h1 | ⟨c, hc, e⟩)
   ·exact .inl (W3 h1)
   ·rcases List.mem_cons.1 hc with hc | hc
    ·subst hc; subst e; exact .inl (a9h _)
    ·exact .inr ⟨c, hc, e⟩
theorem a7C {b : List Int × List Int} : f ∈ a4s A b ↔ ∃ a ∈ A, N6 a b = f := by rw [a4s, a7f]; simp
theorem W2 (hq : z7 s q = true) : (∀ a ∈ q.2, ∀ t ∈ a.2, (inR t 10 17 = true ∧ t ∈ D9 q.2) ∨ (inR t 10 17 = false ∧ t ∈ y4 (fun t => inR t 0 9) q.2)) ∧ ∀ t ∈ q.1, inR t 10 17 = true ∧ t ∈ D9 q.2 ∧ ∃ a ∈ q.2, t ∈ a.2 := by
 simp only [z7, Bool.and_eq_true, Bool.not_eq_true', List.any_eq_false, Bool.not_eq_true, a3U] at hq
 obtain ⟨_, _, h3, _, h4⟩ := hq
 refine ⟨fun a ha t ht => ?_, fun t ht => ?_⟩
 ·have h5 : a3E s a = true := by simpa using h3 a ha
  simp only [a3E, Bool.and_eq_true, Bool.not_eq_true', List.any_eq_false, Bool.not_eq_true] at h5
  have h6 : a3F t = true := by simpa using h5.2.2 t ht
  have h7 : t ∈ q.2.flatMap fun a => a.2 := List.mem_flatMap.2 ⟨a, ha, ht⟩
  simp only [a3F, Bool.or_eq_true] at h6
  cases hr : inR t 10 17 with
  | true => exact .inl ⟨rfl, S7.2 ⟨h7, hr⟩⟩
  | false =>
   rcases h6 with h6 | h6
   ·exact .inr ⟨rfl, S7.2 ⟨h7, h6⟩⟩
   ·rw [h6] at hr; cases hr
 ·have h5 : L6 (y4 (fun t => inR t 10 17) q.2) t = true := by simpa using h4 t ht
  have h6 := a0M.1 h5
  obtain ⟨h7, h8⟩ := S7.1 h6
  obtain ⟨a, ha, hta⟩ := List.mem_flatMap.1 h7
  exact ⟨h8, h6, a, ha, hta⟩
theorem a5X {A B : List (Int × List Int)} : ∀ x ∈ cU A B, 0 ≤ x ∧ x ≤ 9 := b3r
theorem b5x (h : t ∈ y4 (fun t => inR t 0 9) A) : t ∈ cU A B := by simp [cU, h]
theorem b5H (h : t ∈ y4 (fun t => inR t 0 9) B) : t ∈ cU A B := by simp [cU, h]
theorem b2o (hp : z7 s p = true) (hu : ∀ x ∈ u, 0 ≤ x ∧ x ≤ 9) (hc : ∀ x ∈ y4 (fun t => inR t 0 9) p.2, x ∈ u) {a : Int × List Int} (ha : a ∈ p.2) {t : Int} (ht : t ∈ a.2) : unF u p.2 (C9 (bP u p.2) t) = t := by
 rcases (W2 hp).1 a ha t ht with h1 | h1
 ·exact a8e hu h1.2
 ·rw [← Q6 h1.1]; exact a7O hu (hc t h1.2)
theorem a6J (hp : z7 s p = true) (hq : z7 s q = true) (hc : a6E p q = true) : hom p q := by
 simp only [a6E, Bool.and_eq_true, decide_eq_true_eq] at hc
 obtain ⟨h1, h2, h3⟩ := hc
 have hF : fzF (cU p.2 q.2) p.2 = a4s p.2 (bP (cU p.2 q.2) p.2) := by rw [fzF, h2]; rfl
 have hV : fzV (cU p.2 q.2) p.2 = D9 p.2 := by rw [fzV, h2]; rfl
 have hX : fzX (cU p.2 q.2) p.2 = a2j (cU p.2 q.2) (D9 p.2).length := by rw [fzX, h2]; rfl
 rw [hF, hV, hX, List.any_eq_true] at h3
 obtain ⟨b, hb, hh⟩ := h3
 simp only [a6n, decide_eq_true_eq] at hh
 obtain ⟨m1, m2⟩ := a9k b hb
 refine ⟨fun t => if inR t 10 17 then unF (cU p.2 q.2) p.2 (C9 b t) else t, fun t ht => by simp [ht], fun a ha => ?_, ?_⟩
 ·obtain ⟨a', ha', e⟩ := a7C.1 (m2 a ha).1
  have e1 : (N6 a' (bP (cU p.2 q.2) p.2)).1 = (N6 a b).1 := congrArg Prod.fst e
  replace e1 : a'.1 = a.1 := e1
  have e2 : (N6 a' (bP (cU p.2 q.2) p.2)).2 = (N6 a b).2 := congrArg Prod.snd e
  replace e2 : a'.2.map (C9 (bP (cU p.2 q.2) p.2)) = a.2.map (C9 b) := e2
  have e3 : a.2.map (fun t => if inR t 10 17 then unF (cU p.2 q.2) p.2 (C9 b t) else t) = (a.2.map (C9 b)).map (unF (cU p.2 q.2) p.2) := by
   rw [List.map_map]
   refine List.map_congr_left fun t ht => ?_
   rcases (W2 hq).1 a ha t ht with k | k
   ·simp [k.1]
   ·simp only [k.1, Function.comp]
    rw [← Q6 k.1, a7O a5X (b5H k.2)]; simp
  have e4 : (a'.2.map (C9 (bP (cU p.2 q.2) p.2))).map (unF (cU p.2 q.2) p.2) = a'.2 := by
   rw [List.map_map]
   exact (List.map_congr_left fun t ht => b2o hp a5X (fun x hx => b5x hx) ha' ht).trans (List.map_id _)
  rw [e3, ← e2, e4, ← e1]
  exact ha'
 ·have e3 : q.1.map (fun t => if inR t 10 17 then unF (cU p.2 q.2) p.2 (C9 b t) else t) = (q.1.map (C9 b)).map (unF (cU p.2 q.2) p.2) := by
   rw [List.map_map]
   refine List.map_congr_left fun t ht => ?_
   simp [((W2 hq).2 t ht).1]
  rw [e3, hh, List.map_map]
  exact (List.map_congr_left fun t ht => a8e a5X ((W2 hp).2 t ht).2.1).trans (List.map_id _)
theorem b1p (hp : z7 s p = true) (hq : z7 s q = true) (hf : fzB (cU p.2 q.2) p.2 = true) (hh : hom p q) : a6E p q = true := by
 obtain ⟨g, g1, g2, g3⟩ := hh
 have hF : fzF (cU p.2 q.2) p.2 = a4s p.2 (bP (cU p.2 q.2) p.2) := by rw [fzF, hf]; rfl
 have hV : fzV (cU p.2 q.2) p.2 = D9 p.2 := by rw [fzV, hf]; rfl
 have hX : fzX (cU p.2 q.2) p.2 = a2j (cU p.2 q.2) (D9 p.2).length := by rw [fzX, hf]; rfl
 obtain ⟨b, b1, b2, b3⟩ := a4t (g := fun t => C9 (bP (cU p.2 q.2) p.2) (g t)) (A := q.2) (F := a4s p.2 (bP (cU p.2 q.2) p.2)) (fun t ht => by
  show C9 _ (g t) = t
  rw [g1 t ht, ← Q6 ht]) (fun a ha => a7C.2 ⟨_, g2 a ha, by
  show (a.1, (a.2.map g).map _) = _
  rw [List.map_map]; rfl⟩)
 simp only [a6E, Bool.and_eq_true, decide_eq_true_eq]
 refine ⟨by rw [← g3, List.length_map], hf, ?_⟩
 rw [hF, hV, hX, List.any_eq_true]
 refine ⟨b, b1, ?_⟩
 simp only [a6n, decide_eq_true_eq]
 rw [← g3, List.map_map]
 refine List.map_congr_left fun t ht => ?_
 obtain ⟨_, _, a, ha, hta⟩ := (W2 hq).2 t ht
 exact b2.2 t (b3 a ha t hta)
theorem b1l : hom p p := ⟨id, fun _ _ => rfl, fun a ha => by rw [List.map_id]; exact ha, List.map_id _⟩
theorem a2k (h1 : hom p q) (h2 : hom q r) : hom p r := by
 obtain ⟨g, g1, g2, g3⟩ := h1
 obtain ⟨k, k1, k2, k3⟩ := h2
 refine ⟨fun t => g (k t), fun t ht => by show g (k t) = t; rw [k1 t ht, g1 t ht], fun a ha => ?_, ?_⟩
 ·have := g2 _ (k2 a ha)
  rwa [List.map_map] at this
 ·have e : r.1.map (fun t => g (k t)) = (r.1.map k).map g := by rw [List.map_map]; rfl
  rw [e, k3, g3]
theorem a7A (h1 : p.1 = q.1) (h2 : ∀ a ∈ q.2, a ∈ p.2) : hom p q := ⟨id, fun _ _ => rfl, fun a ha => by rw [List.map_id]; exact h2 a ha, by rw [List.map_id, h1]⟩
end
end Go.Proofs.YtfnbilpemdgkkaaGreatDoor
