import Derived.Test.YtbedienpleiamaaGreatGv
namespace Go.Proofs.YtbedienpleiamaaGreat
set_option linter.unusedVariables false
set_option linter.unusedSimpArgs false
abbrev Qry := List Int × List (Int × List Int)
abbrev cU (p q : List (Int × List Int)) : List Int := [c6 (fun t => inR t 0 9) p, c6 (fun t => inR t 0 9) q].flatten
abbrev bP (u : List Int) (A : List (Int × List Int)) : List Int × List Int := (w8 A, C4 u (w8 A).length)
def unF (u : List Int) (A : List (Int × List Int)) (w : Int) : Int := ((w8 A).find? fun x => decide (u6 (bP u A) x = w)).getD w
def hom (p q : Qry) : Prop := ∃ g : Int → Int, (∀ t, inR t 10 17 = false → g t = t) ∧ (∀ a ∈ q.2, (a.1, a.2.map g) ∈ p.2) ∧ q.1.map g = p.1
section
variable {t v : Int} {g : Int → Int} {h head u : List Int} {s : List Int} {p q r : Qry} {F A B : List (Int × List Int)} {a f : Int × List Int}
theorem a4G : (w8 A).Nodup := by
 have h1 : (w8 A).Pairwise (· < ·) := (W1 List.Pairwise.nil).1
 exact List.Pairwise.imp (fun {a b} h e => by omega) h1
theorem a7u : ∀ {l : List Int} {i : Nat} (hi : i < l.length), l.Nodup → ∀ y ∈ l.take i, decide (y = l[i]) = false
 | x :: l, 0, _, _, y, hy => by cases hy
 | x :: l, i + 1, hi, hn, y, hy => by
  rw [List.take_succ_cons] at hy
  rw [List.nodup_cons] at hn
  rcases List.mem_cons.1 hy with hy | hy
  ·refine decide_eq_false fun e => hn.1 ?_
   rw [← hy, e]
   exact List.getElem_mem _
  ·exact a7u (by simpa using hi) hn.2 y hy
theorem a9m {i : Nat} (hi : i < (w8 A).length) : u6 (bP u A) (w8 A)[i] = (E6 u (fzN u i) : Int) := by
 have hv := a3w (l6 := A) _ (List.getElem_mem hi)
 have e := a1o (b := bP u A) (t := (w8 A)[i]) (g := i) (by simp [inR]; omega) hi (by simpa [a0u] using hi) rfl (a7u hi a4G)
 rw [← e]
 simp [C4]
theorem a7t (hu : ∀ x ∈ u, 0 ≤ x ∧ x ≤ 9) (ht : t ∈ w8 A) : unF u A (u6 (bP u A) t) = t := by
 unfold unF
 cases c : (w8 A).find? fun x => decide (u6 (bP u A) x = u6 (bP u A) t) with
 | none => exact absurd (List.find?_eq_none.1 c t ht) (by simp)
 | some y =>
  have h1 := List.find?_some c
  rw [decide_eq_true_eq] at h1
  have h2 := List.mem_of_find?_eq_some c
  obtain ⟨i, hi, rfl⟩ := List.getElem_of_mem ht
  obtain ⟨k, hk, rfl⟩ := List.getElem_of_mem h2
  rw [a9m hi, a9m hk] at h1
  have := b0y hu (Int.ofNat_inj.1 h1)
  subst this
  rfl
theorem a7v (hu : ∀ x ∈ u, 0 ≤ x ∧ x ≤ 9) (ht : t ∈ u) : unF u A t = t := by
 unfold unF
 cases c : (w8 A).find? fun x => decide (u6 (bP u A) x = t) with
 | none => rfl
 | some y =>
  have h1 := List.find?_some c
  rw [decide_eq_true_eq] at h1
  have h2 := List.mem_of_find?_eq_some c
  obtain ⟨k, hk, rfl⟩ := List.getElem_of_mem h2
  rw [a9m hk] at h1
  have h3 := (X2 hu (v := fzN u k)).1
  rw [h1, Y7.2 ht] at h3
  cases h3
theorem a8O (l : List (Int × List Int)) : f ∈ D1 l f := by
 cases e : F5 l f with
 | false => exact a5G e
 | true => exact a2v (a2t.1 e)
theorem a6B {b : List Int × List Int} : ∀ {A out : List (Int × List Int)}, f ∈ A.foldl (fun out a => D1 out (B2 a b)) out ↔ f ∈ out ∨ ∃ a ∈ A, B2 a b = f
 | [], out => by simp
 | a :: A, out => by
  rw [List.foldl_cons, a6B]
  constructor
  ·rintro (h1 | ⟨c, hc, e⟩)
   ·rcases Y3 h1 with h1 | h1
    ·exact .inl h1
    ·exact .inr ⟨a, by simp, h1.symm⟩
   ·exact .inr ⟨c, by simp [hc], e⟩
  ·rintro (h1 | ⟨c, hc, e⟩)
   ·exact .inl (a2v h1)
   ·rcases List.mem_cons.1 hc with hc | hc
    ·subst hc; subst e; exact .inl (a8O _)
    ·exact .inr ⟨c, hc, e⟩
theorem a5d {b : List Int × List Int} : f ∈ K6 A b ↔ ∃ a ∈ A, B2 a b = f := by rw [K6, a6B]; simp
theorem Y2 (hq : w3 s q = true) : (∀ a ∈ q.2, ∀ t ∈ a.2, (inR t 10 17 = true ∧ t ∈ w8 q.2) ∨ (inR t 10 17 = false ∧ t ∈ c6 (fun t => inR t 0 9) q.2)) ∧ ∀ t ∈ q.1, inR t 10 17 = true ∧ t ∈ w8 q.2 ∧ ∃ a ∈ q.2, t ∈ a.2 := by
 simp only [w3, Bool.and_eq_true, Bool.not_eq_true', List.any_eq_false, Bool.not_eq_true, V3] at hq
 obtain ⟨_, _, h3, _, h4⟩ := hq
 refine ⟨fun a ha t ht => ?_, fun t ht => ?_⟩
 ·have h5 : K3 s a = true := by simpa using h3 a ha
  simp only [K3, Bool.and_eq_true, Bool.not_eq_true', List.any_eq_false, Bool.not_eq_true] at h5
  have h6 : R8 t = true := by simpa using h5.2.2 t ht
  have h7 : t ∈ q.2.flatMap fun a => a.2 := List.mem_flatMap.2 ⟨a, ha, ht⟩
  simp only [R8, Bool.or_eq_true] at h6
  cases hr : inR t 10 17 with
  | true => exact .inl ⟨rfl, O7.2 ⟨h7, hr⟩⟩
  | false =>
   rcases h6 with h6 | h6
   ·exact .inr ⟨rfl, O7.2 ⟨h7, h6⟩⟩
   ·rw [h6] at hr; cases hr
 ·have h5 : G2 (c6 (fun t => inR t 10 17) q.2) t = true := by simpa using h4 t ht
  have h6 := Y7.1 h5
  obtain ⟨h7, h8⟩ := O7.1 h6
  obtain ⟨a, ha, hta⟩ := List.mem_flatMap.1 h7
  exact ⟨h8, h6, a, ha, hta⟩
theorem a6i {A B : List (Int × List Int)} : ∀ x ∈ cU A B, 0 ≤ x ∧ x ≤ 9 := a0Y
theorem b2A (h : t ∈ c6 (fun t => inR t 0 9) A) : t ∈ cU A B := by simp [cU, h]
theorem b2V (h : t ∈ c6 (fun t => inR t 0 9) B) : t ∈ cU A B := by simp [cU, h]
theorem b0m (hp : w3 s p = true) (hu : ∀ x ∈ u, 0 ≤ x ∧ x ≤ 9) (hc : ∀ x ∈ c6 (fun t => inR t 0 9) p.2, x ∈ u) {a : Int × List Int} (ha : a ∈ p.2) {t : Int} (ht : t ∈ a.2) : unF u p.2 (u6 (bP u p.2) t) = t := by
 rcases (Y2 hp).1 a ha t ht with h1 | h1
 ·exact a7t hu h1.2
 ·rw [← R4 h1.1]; exact a7v hu (hc t h1.2)
theorem a6I (hp : w3 s p = true) (hq : w3 s q = true) (hc : W3 p q = true) : hom p q := by
 simp only [W3, Bool.and_eq_true, decide_eq_true_eq] at hc
 obtain ⟨h1, h2, h3⟩ := hc
 have hF : fzF (cU p.2 q.2) p.2 = K6 p.2 (bP (cU p.2 q.2) p.2) := by rw [fzF, h2]; rfl
 have hV : fzV (cU p.2 q.2) p.2 = w8 p.2 := by rw [fzV, h2]; rfl
 have hX : fzX (cU p.2 q.2) p.2 = C4 (cU p.2 q.2) (w8 p.2).length := by rw [fzX, h2]; rfl
 rw [hF, hV, hX, List.any_eq_true] at h3
 obtain ⟨b, hb, hh⟩ := h3
 simp only [J2, decide_eq_true_eq] at hh
 obtain ⟨m1, m2⟩ := a5O b hb
 refine ⟨fun t => if inR t 10 17 then unF (cU p.2 q.2) p.2 (u6 b t) else t, fun t ht => by simp [ht], fun a ha => ?_, ?_⟩
 ·obtain ⟨a', ha', e⟩ := a5d.1 (m2 a ha).1
  have e1 : (B2 a' (bP (cU p.2 q.2) p.2)).1 = (B2 a b).1 := congrArg Prod.fst e
  replace e1 : a'.1 = a.1 := e1
  have e2 : (B2 a' (bP (cU p.2 q.2) p.2)).2 = (B2 a b).2 := congrArg Prod.snd e
  replace e2 : a'.2.map (u6 (bP (cU p.2 q.2) p.2)) = a.2.map (u6 b) := e2
  have e3 : a.2.map (fun t => if inR t 10 17 then unF (cU p.2 q.2) p.2 (u6 b t) else t) = (a.2.map (u6 b)).map (unF (cU p.2 q.2) p.2) := by
   rw [List.map_map]
   refine List.map_congr_left fun t ht => ?_
   rcases (Y2 hq).1 a ha t ht with k | k
   ·simp [k.1]
   ·simp only [k.1, Function.comp]
    rw [← R4 k.1, a7v a6i (b2V k.2)]; simp
  have e4 : (a'.2.map (u6 (bP (cU p.2 q.2) p.2))).map (unF (cU p.2 q.2) p.2) = a'.2 := by
   rw [List.map_map]
   exact (List.map_congr_left fun t ht => b0m hp a6i (fun x hx => b2A hx) ha' ht).trans (List.map_id _)
  rw [e3, ← e2, e4, ← e1]
  exact ha'
 ·have e3 : q.1.map (fun t => if inR t 10 17 then unF (cU p.2 q.2) p.2 (u6 b t) else t) = (q.1.map (u6 b)).map (unF (cU p.2 q.2) p.2) := by
   rw [List.map_map]
   refine List.map_congr_left fun t ht => ?_
   simp [((Y2 hq).2 t ht).1]
  rw [e3, hh, List.map_map]
  exact (List.map_congr_left fun t ht => a7t a6i ((Y2 hp).2 t ht).2.1).trans (List.map_id _)
theorem a9w (hp : w3 s p = true) (hq : w3 s q = true) (hf : fzB (cU p.2 q.2) p.2 = true) (hh : hom p q) : W3 p q = true := by
 obtain ⟨g, g1, g2, g3⟩ := hh
 have hF : fzF (cU p.2 q.2) p.2 = K6 p.2 (bP (cU p.2 q.2) p.2) := by rw [fzF, hf]; rfl
 have hV : fzV (cU p.2 q.2) p.2 = w8 p.2 := by rw [fzV, hf]; rfl
 have hX : fzX (cU p.2 q.2) p.2 = C4 (cU p.2 q.2) (w8 p.2).length := by rw [fzX, hf]; rfl
 obtain ⟨b, b1, b2, b3⟩ := a2a (g := fun t => u6 (bP (cU p.2 q.2) p.2) (g t)) (A := q.2) (F := K6 p.2 (bP (cU p.2 q.2) p.2)) (fun t ht => by
  show u6 _ (g t) = t
  rw [g1 t ht, ← R4 ht]) (fun a ha => a5d.2 ⟨_, g2 a ha, by
  show (a.1, (a.2.map g).map _) = _
  rw [List.map_map]; rfl⟩)
 simp only [W3, Bool.and_eq_true, decide_eq_true_eq]
 refine ⟨by rw [← g3, List.length_map], hf, ?_⟩
 rw [hF, hV, hX, List.any_eq_true]
 refine ⟨b, b1, ?_⟩
 simp only [J2, decide_eq_true_eq]
 rw [← g3, List.map_map]
 refine List.map_congr_left fun t ht => ?_
 obtain ⟨_, _, a, ha, hta⟩ := (Y2 hq).2 t ht
 exact b2.2 t (b3 a ha t hta)
theorem a9y : hom p p := ⟨id, fun _ _ => rfl, fun a ha => by rw [List.map_id]; exact ha, List.map_id _⟩
theorem a2Y (h1 : hom p q) (h2 : hom q r) : hom p r := by
 obtain ⟨g, g1, g2, g3⟩ := h1
 obtain ⟨k, k1, k2, k3⟩ := h2
 refine ⟨fun t => g (k t), fun t ht => by show g (k t) = t; rw [k1 t ht, g1 t ht], fun a ha => ?_, ?_⟩
 ·have := g2 _ (k2 a ha)
  rwa [List.map_map] at this
 ·have e : r.1.map (fun t => g (k t)) = (r.1.map k).map g := by rw [List.map_map]; rfl
  rw [e, k3, g3]
theorem a7H (h1 : p.1 = q.1) (h2 : ∀ a ∈ q.2, a ∈ p.2) : hom p q := ⟨id, fun _ _ => rfl, fun a ha => by rw [List.map_id]; exact h2 a ha, by rw [List.map_id, h1]⟩
theorem b0r (hp : w3 s p = true) (hq : w3 s q = true) (hh : hom p q) (hF : J6 s F = true) : ∀ t ∈ a0v s p F, t ∈ a0v s q F := by
 intro t ht
 obtain ⟨g, g1, g2, g3⟩ := hh
 unfold a0v at ht ⊢
 rw [if_pos (by rw [hq, hF]; rfl)]
 rw [if_pos (by rw [hp, hF]; rfl)] at ht
 obtain ⟨b, hb, e⟩ := a7D.1 ht
 obtain ⟨m1, m2⟩ := a5O b hb
 obtain ⟨c, c1, c2, c3⟩ := a2a (g := fun t => u6 b (g t)) (A := q.2) (F := F) (fun t ht => by
  show u6 b (g t) = t
  rw [g1 t ht, ← R4 ht]) (fun a ha => by
  have := (m2 _ (g2 a ha)).1
  have e : B2 (a.1, a.2.map g) b = (a.1, a.2.map fun t => u6 b (g t)) := by
   show (a.1, (a.2.map g).map _) = _
   rw [List.map_map]; rfl
  rw [← e]; exact this)
 refine a7D.2 ⟨c, c1, ?_⟩
 rw [← e, ← g3, List.map_map]
 refine List.map_congr_left fun x hx => ?_
 obtain ⟨_, _, a, ha, hta⟩ := (Y2 hq).2 x hx
 exact c2.2 x (c3 a ha x hta)
end
end Go.Proofs.YtbedienpleiamaaGreat
