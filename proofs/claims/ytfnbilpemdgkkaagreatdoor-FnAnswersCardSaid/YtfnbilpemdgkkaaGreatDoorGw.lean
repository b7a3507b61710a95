import Derived.Test.YtfnbilpemdgkkaaGreatDoorGv
namespace Go.Proofs.YtfnbilpemdgkkaaGreatDoor
set_option linter.unusedVariables false
set_option linter.unusedSimpArgs false
abbrev Qry := List Int × List (Int × List Int)
abbrev cU (p q : List (Int × List Int)) : List Int := [u6 (fun t => inR t 0 9) p, u6 (fun t => inR t 0 9) q].flatten
abbrev bP (u : List Int) (A : List (Int × List Int)) : List Int × List Int := (D2 A, X2 u (D2 A).length)
def unF (u : List Int) (A : List (Int × List Int)) (w : Int) : Int := ((D2 A).find? fun x => decide (s4 (bP u A) x = w)).getD w
def hom (p q : Qry) : Prop := ∃ g : Int → Int, (∀ t, inR t 10 17 = false → g t = t) ∧ (∀ a ∈ q.2, (a.1, a.2.map g) ∈ p.2) ∧ q.1.map g = p.1
section
variable {t v : Int} {g : Int → Int} {h head u : List Int} {s : List Int} {p q r : Qry} {F A B : List (Int × List Int)} {a f : Int × List Int}
theorem a2I : (D2 A).Nodup := by
 have h1 : (D2 A).Pairwise (· < ·) := (W5 List.Pairwise.nil).1
 exact List.Pairwise.imp (fun {a b} h e => by omega) h1
theorem a5U : ∀ {l : List Int} {i : Nat} (hi : i < l.length), l.Nodup → ∀ y ∈ l.take i, decide (y = l[i]) = false
 | x :: l, 0, _, _, y, hy => by cases hy
 | x :: l, i + 1, hi, hn, y, hy => by
  rw [List.take_succ_cons] at hy
  rw [List.nodup_cons] at hn
  rcases List.mem_cons.1 hy with hy | hy
  ·refine decide_eq_false fun e => hn.1 ?_
   rw [← hy, e]
   exact List.getElem_mem _
  ·exact a5U (by simpa using hi) hn.2 y hy
theorem a7O {i : Nat} (hi : i < (D2 A).length) : s4 (bP u A) (D2 A)[i] = (M4 u (fzN u i) : Int) := by
 have hv := a8P (l0 := A) _ (List.getElem_mem hi)
 have e := Y4 (b := bP u A) (t := (D2 A)[i]) (g := i) (by simp [inR]; omega) hi (by simpa [a5n] using hi) rfl (a5U hi a2I)
 rw [← e]
 simp [X2]
theorem a5W (hu : ∀ x ∈ u, 0 ≤ x ∧ x ≤ 9) (ht : t ∈ D2 A) : unF u A (s4 (bP u A) t) = t := by
 unfold unF
 cases c : (D2 A).find? fun x => decide (s4 (bP u A) x = s4 (bP u A) t) with
 | none => exact absurd (List.find?_eq_none.1 c t ht) (by simp)
 | some y =>
  have h1 := List.find?_some c
  rw [decide_eq_true_eq] at h1
  have h2 := List.mem_of_find?_eq_some c
  obtain ⟨i, hi, rfl⟩ := List.getElem_of_mem ht
  obtain ⟨k, hk, rfl⟩ := List.getElem_of_mem h2
  rw [a7O hi, a7O hk] at h1
  have := a8R hu (Int.ofNat_inj.1 h1)
  subst this
  rfl
theorem a5T (hu : ∀ x ∈ u, 0 ≤ x ∧ x ≤ 9) (ht : t ∈ u) : unF u A t = t := by
 unfold unF
 cases c : (D2 A).find? fun x => decide (s4 (bP u A) x = t) with
 | none => rfl
 | some y =>
  have h1 := List.find?_some c
  rw [decide_eq_true_eq] at h1
  have h2 := List.mem_of_find?_eq_some c
  obtain ⟨k, hk, rfl⟩ := List.getElem_of_mem h2
  rw [a7O hk] at h1
  have h3 := (R2 hu (v := fzN u k)).1
  rw [h1, Y6.2 ht] at h3
  cases h3
theorem a6U (l : List (Int × List Int)) : f ∈ C8 l f := by
 cases e : D0 l f with
 | false => exact a3S e
 | true => exact a0Q (Z0.1 e)
theorem a4W {b : List Int × List Int} : ∀ {A out : List (Int × List Int)}, f ∈ A.foldl (fun out a => C8 out (F3 a b)) out ↔ f ∈ out ∨ ∃ a ∈ A, F3 a b = f
 | [], out => by simp
 | a :: A, out => by
  rw [List.foldl_cons, a4W]
  constructor
  ·rintro (h1 | ⟨c, hc, e⟩)
   ·rcases V4 h1 with h1 | h1
    ·exact .inl h1
    ·exact .inr ⟨a, by simp, h1.symm⟩
   ·exact .inr ⟨c, by simp [hc], e⟩
  ·rintro (h1 | ⟨c, hc, e⟩)
   ·exact .inl (a0Q h1)
   ·rcases List.mem_cons.1 hc with hc | hc
    ·subst hc; subst e; exact .inl (a6U _)
    ·exact .inr ⟨c, hc, e⟩
theorem a3q {b : List Int × List Int} : f ∈ a1n A b ↔ ∃ a ∈ A, F3 a b = f := by rw [a1n, a4W]; simp
theorem Q5 (hq : x3 s q = true) : (∀ a ∈ q.2, ∀ t ∈ a.2, (inR t 10 17 = true ∧ t ∈ D2 q.2) ∨ (inR t 10 17 = false ∧ t ∈ u6 (fun t => inR t 0 9) q.2)) ∧ ∀ t ∈ q.1, inR t 10 17 = true ∧ t ∈ D2 q.2 ∧ ∃ a ∈ q.2, t ∈ a.2 := by
 simp only [x3, Bool.and_eq_true, Bool.not_eq_true', List.any_eq_false, Bool.not_eq_true, N6] at hq
 obtain ⟨_, _, h3, _, h4⟩ := hq
 refine ⟨fun a ha t ht => ?_, fun t ht => ?_⟩
 ·have h5 : G6 s a = true := by simpa using h3 a ha
  simp only [G6, Bool.and_eq_true, Bool.not_eq_true', List.any_eq_false, Bool.not_eq_true] at h5
  have h6 : K4 t = true := by simpa using h5.2.2 t ht
  have h7 : t ∈ q.2.flatMap fun a => a.2 := List.mem_flatMap.2 ⟨a, ha, ht⟩
  simp only [K4, Bool.or_eq_true] at h6
  cases hr : inR t 10 17 with
  | true => exact .inl ⟨rfl, S9.2 ⟨h7, hr⟩⟩
  | false =>
   rcases h6 with h6 | h6
   ·exact .inr ⟨rfl, S9.2 ⟨h7, h6⟩⟩
   ·rw [h6] at hr; cases hr
 ·have h5 : F5 (u6 (fun t => inR t 10 17) q.2) t = true := by simpa using h4 t ht
  have h6 := Y6.1 h5
  obtain ⟨h7, h8⟩ := S9.1 h6
  obtain ⟨a, ha, hta⟩ := List.mem_flatMap.1 h7
  exact ⟨h8, h6, a, ha, hta⟩
theorem a4v {A B : List (Int × List Int)} : ∀ x ∈ cU A B, 0 ≤ x ∧ x ≤ 9 := a9I
theorem b1P (h : t ∈ u6 (fun t => inR t 0 9) A) : t ∈ cU A B := by simp [cU, h]
theorem b1y (h : t ∈ u6 (fun t => inR t 0 9) B) : t ∈ cU A B := by simp [cU, h]
theorem a8Q (hp : x3 s p = true) (hu : ∀ x ∈ u, 0 ≤ x ∧ x ≤ 9) (hc : ∀ x ∈ u6 (fun t => inR t 0 9) p.2, x ∈ u) {a : Int × List Int} (ha : a ∈ p.2) {t : Int} (ht : t ∈ a.2) : unF u p.2 (s4 (bP u p.2) t) = t := by
 rcases (Q5 hp).1 a ha t ht with h1 | h1
 ·exact a5W hu h1.2
 ·rw [← L8 h1.1]; exact a5T hu (hc t h1.2)
theorem a4R (hp : x3 s p = true) (hq : x3 s q = true) (hc : a4N p q = true) : hom p q := by
 simp only [a4N, Bool.and_eq_true, decide_eq_true_eq] at hc
 obtain ⟨h1, h2, h3⟩ := hc
 have hF : fzF (cU p.2 q.2) p.2 = a1n p.2 (bP (cU p.2 q.2) p.2) := by rw [fzF, h2]; rfl
 have hV : fzV (cU p.2 q.2) p.2 = D2 p.2 := by rw [fzV, h2]; rfl
 have hX : fzX (cU p.2 q.2) p.2 = X2 (cU p.2 q.2) (D2 p.2).length := by rw [fzX, h2]; rfl
 rw [hF, hV, hX, List.any_eq_true] at h3
 obtain ⟨b, hb, hh⟩ := h3
 simp only [H4, decide_eq_true_eq] at hh
 obtain ⟨m1, m2⟩ := a0k b hb
 refine ⟨fun t => if inR t 10 17 then unF (cU p.2 q.2) p.2 (s4 b t) else t, fun t ht => by simp [ht], fun a ha => ?_, ?_⟩
 ·obtain ⟨a', ha', e⟩ := a3q.1 (m2 a ha).1
  have e1 : (F3 a' (bP (cU p.2 q.2) p.2)).1 = (F3 a b).1 := congrArg Prod.fst e
  replace e1 : a'.1 = a.1 := e1
  have e2 : (F3 a' (bP (cU p.2 q.2) p.2)).2 = (F3 a b).2 := congrArg Prod.snd e
  replace e2 : a'.2.map (s4 (bP (cU p.2 q.2) p.2)) = a.2.map (s4 b) := e2
  have e3 : a.2.map (fun t => if inR t 10 17 then unF (cU p.2 q.2) p.2 (s4 b t) else t) = (a.2.map (s4 b)).map (unF (cU p.2 q.2) p.2) := by
   rw [List.map_map]
   refine List.map_congr_left fun t ht => ?_
   rcases (Q5 hq).1 a ha t ht with k | k
   ·simp [k.1]
   ·simp only [k.1, Function.comp]
    rw [← L8 k.1, a5T a4v (b1y k.2)]; simp
  have e4 : (a'.2.map (s4 (bP (cU p.2 q.2) p.2))).map (unF (cU p.2 q.2) p.2) = a'.2 := by
   rw [List.map_map]
   exact (List.map_congr_left fun t ht => a8Q hp a4v (fun x hx => b1P hx) ha' ht).trans (List.map_id _)
  rw [e3, ← e2, e4, ← e1]
  exact ha'
 ·have e3 : q.1.map (fun t => if inR t 10 17 then unF (cU p.2 q.2) p.2 (s4 b t) else t) = (q.1.map (s4 b)).map (unF (cU p.2 q.2) p.2) := by
   rw [List.map_map]
   refine List.map_congr_left fun t ht => ?_
   simp [((Q5 hq).2 t ht).1]
  rw [e3, hh, List.map_map]
  exact (List.map_congr_left fun t ht => a5W a4v ((Q5 hp).2 t ht).2.1).trans (List.map_id _)
theorem a7H (hp : x3 s p = true) (hq : x3 s q = true) (hf : fzB (cU p.2 q.2) p.2 = true) (hh : hom p q) : a4N p q = true := by
 obtain ⟨g, g1, g2, g3⟩ := hh
 have hF : fzF (cU p.2 q.2) p.2 = a1n p.2 (bP (cU p.2 q.2) p.2) := by rw [fzF, hf]; rfl
 have hV : fzV (cU p.2 q.2) p.2 = D2 p.2 := by rw [fzV, hf]; rfl
 have hX : fzX (cU p.2 q.2) p.2 = X2 (cU p.2 q.2) (D2 p.2).length := by rw [fzX, hf]; rfl
 obtain ⟨b, b1, b2, b3⟩ := a0A (g := fun t => s4 (bP (cU p.2 q.2) p.2) (g t)) (A := q.2) (F := a1n p.2 (bP (cU p.2 q.2) p.2)) (fun t ht => by
  show s4 _ (g t) = t
  rw [g1 t ht, ← L8 ht]) (fun a ha => a3q.2 ⟨_, g2 a ha, by
  show (a.1, (a.2.map g).map _) = _
  rw [List.map_map]; rfl⟩)
 simp only [a4N, Bool.and_eq_true, decide_eq_true_eq]
 refine ⟨by rw [← g3, List.length_map], hf, ?_⟩
 rw [hF, hV, hX, List.any_eq_true]
 refine ⟨b, b1, ?_⟩
 simp only [H4, decide_eq_true_eq]
 rw [← g3, List.map_map]
 refine List.map_congr_left fun t ht => ?_
 obtain ⟨_, _, a, ha, hta⟩ := (Q5 hq).2 t ht
 exact b2.2 t (b3 a ha t hta)
theorem a7T : hom p p := ⟨id, fun _ _ => rfl, fun a ha => by rw [List.map_id]; exact ha, List.map_id _⟩
theorem a1o (h1 : hom p q) (h2 : hom q r) : hom p r := by
 obtain ⟨g, g1, g2, g3⟩ := h1
 obtain ⟨k, k1, k2, k3⟩ := h2
 refine ⟨fun t => g (k t), fun t ht => by show g (k t) = t; rw [k1 t ht, g1 t ht], fun a ha => ?_, ?_⟩
 ·have := g2 _ (k2 a ha)
  rwa [List.map_map] at this
 ·have e : r.1.map (fun t => g (k t)) = (r.1.map k).map g := by rw [List.map_map]; rfl
  rw [e, k3, g3]
theorem a5K (h1 : p.1 = q.1) (h2 : ∀ a ∈ q.2, a ∈ p.2) : hom p q := ⟨id, fun _ _ => rfl, fun a ha => by rw [List.map_id]; exact h2 a ha, by rw [List.map_id, h1]⟩
theorem a8O (hp : x3 s p = true) (hq : x3 s q = true) (hh : hom p q) (hF : C9 s F = true) : ∀ t ∈ C0 s p F, t ∈ C0 s q F := by
 intro t ht
 obtain ⟨g, g1, g2, g3⟩ := hh
 unfold C0 at ht ⊢
 rw [if_pos (by rw [hq, hF]; rfl)]
 rw [if_pos (by rw [hp, hF]; rfl)] at ht
 obtain ⟨b, hb, e⟩ := X9.1 ht
 obtain ⟨m1, m2⟩ := a0k b hb
 obtain ⟨c, c1, c2, c3⟩ := a0A (g := fun t => s4 b (g t)) (A := q.2) (F := F) (fun t ht => by
  show s4 b (g t) = t
  rw [g1 t ht, ← L8 ht]) (fun a ha => by
  have := (m2 _ (g2 a ha)).1
  have e : F3 (a.1, a.2.map g) b = (a.1, a.2.map fun t => s4 b (g t)) := by
   show (a.1, (a.2.map g).map _) = _
   rw [List.map_map]; rfl
  rw [← e]; exact this)
 refine X9.2 ⟨c, c1, ?_⟩
 rw [← e, ← g3, List.map_map]
 refine List.map_congr_left fun x hx => ?_
 obtain ⟨_, _, a, ha, hta⟩ := (Q5 hq).2 x hx
 exact c2.2 x (c3 a ha x hta)
end
end Go.Proofs.YtfnbilpemdgkkaaGreatDoor
