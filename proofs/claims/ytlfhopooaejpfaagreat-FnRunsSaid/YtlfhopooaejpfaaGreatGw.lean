import Derived.Test.YtlfhopooaejpfaaGreatGu
section
namespace Go.Proofs.YtlfhopooaejpfaaGreat
set_option linter.unusedVariables false
set_option linter.unusedSimpArgs false
section
variable {x b : List Int × List Int} {t v : Int} {g : Int → Int} {h head u : List Int} {s : List Int} {p q : List Int × List (Int × List Int)} {F A : List (Int × List Int)} {a f : Int × List Int}
def a0w (b : List Int × List Int) (g : Int → Int) : Prop := b.1.length = b.2.length ∧ ∀ t, bd b t → B1 b t = g t
theorem b2L (hg : ∀ t, inR t 10 17 = false → g t = t) (hb : a0w b g) : B1 (D5 b t (g t)) t = g t ∧ a0w (D5 b t (g t)) g := by
 have h1 : B1 (D5 b t (g t)) t = g t := by
  cases hr : inR t 10 17 with
  | false => rw [← P8 hr, hg t hr]
  | true =>
   cases hu : unb b t with
   | true => rw [a5p (by rw [hr, hu]; rfl)]; exact b1n hb.1 hr hu
   | false => rw [a6E (by rw [hr, hu]; rfl)]; exact hb.2 t (.inr ((b0P hb.1).1 hu))
 refine ⟨h1, a2m hb.1, fun y hy => ?_⟩
 by_cases e : y = t
 ·rw [e]; exact h1
 ·have hy2 : bd b y := by
   rcases hy with hy | hy
   ·exact .inl hy
   ·unfold D5 at hy
    split at hy
    ·rcases List.mem_append.1 hy with hy | hy
     ·exact .inr hy
     ·exact absurd (List.mem_singleton.1 hy) e
    ·exact .inr hy
  rw [a8s hb.1 hy2]; exact hb.2 y hy2
theorem a6z (hg : ∀ t, inR t 10 17 = false → g t = t) : ∀ {l : List (Int × Int)} {b : List Int × List Int}, a0w b g → (∀ p ∈ l, p.2 = g p.1) → okV b l = true ∧ a0w (C3 b l) g
 | [], b, hb, _ => ⟨rfl, hb⟩
 | p :: l, b, hb, hl => by
  have e := hl p (by simp)
  obtain ⟨h1, h2⟩ := b2L (t := p.1) hg hb
  rw [← e] at h1 h2
  obtain ⟨h3, h4⟩ := a6z hg (l := l) h2 fun y hy => hl y (by simp [hy])
  exact ⟨by rw [okV, h3, decide_eq_true h1]; rfl, h4⟩
theorem a5J (hg : ∀ t, inR t 10 17 = false → g t = t) (hb : a0w b g) : r8 b a (a.1, a.2.map g) = true ∧ a0w (s9 b a (a.1, a.2.map g)) g := by
 have hz : ∀ p ∈ a.2.zip (a.2.map g), p.2 = g p.1 := by
  intro p hp
  obtain ⟨i, hi, rfl⟩ := List.getElem_of_mem hp
  simp
 obtain ⟨h1, h2⟩ := a6z hg (l := a.2.zip (a.2.map g)) hb hz
 refine ⟨?_, h2⟩
 simp only [r8, Bool.and_eq_true, decide_eq_true_eq]
 exact ⟨trivial, by simp, hb.1, h1⟩
theorem a6F (hg : ∀ t, inR t 10 17 = false → g t = t) : ∀ {A : List (Int × List Int)} {B : List (List Int × List Int)} {V : List Int}, (∀ a ∈ A, (a.1, a.2.map g) ∈ F) → (∃ b ∈ B, a0w b g ∧ ∀ t ∈ V, bd b t) →
  ∃ b ∈ A.foldl (fun l a => E5 l a F) B, a0w b g ∧ (∀ t ∈ V, bd b t) ∧ ∀ a ∈ A, ∀ t ∈ a.2, bd b t
 | [], B, V, _, ⟨b, h1, h2, h3⟩ => ⟨b, h1, h2, h3, fun a ha => by cases ha⟩
 | a :: A, B, V, hF, ⟨b, h1, h2, h3⟩ => by
  obtain ⟨m1, m2⟩ := a5J (a := a) hg h2
  obtain ⟨k1, k2, k3, k4⟩ := a4O m1
  obtain ⟨c, c1, c2, c3, c4⟩ := a6F hg (A := A) (B := E5 B a F) (V := V ++ a.2) (fun x hx => hF x (by simp [hx]))
   ⟨s9 b a (a.1, a.2.map g), List.mem_flatMap.2 ⟨b, h1, List.mem_map.2 ⟨_, List.mem_filter.2 ⟨hF a (by simp), m1⟩, rfl⟩⟩, m2, fun t ht => by
    rcases List.mem_append.1 ht with ht | ht
    ·exact (k4 t (h3 t ht)).2
    ·exact k3 t ht⟩
  refine ⟨c, c1, c2, fun t ht => c3 t (by simp [ht]), fun x hx t ht => ?_⟩
  rcases List.mem_cons.1 hx with hx | hx
  ·subst hx; exact c3 t (by simp [ht])
  ·exact c4 x hx t ht
theorem a1H (hg : ∀ t, inR t 10 17 = false → g t = t) (hF : ∀ a ∈ A, (a.1, a.2.map g) ∈ F) : ∃ b ∈ J8 A F, a0w b g ∧ ∀ a ∈ A, ∀ t ∈ a.2, bd b t := by
 obtain ⟨b, h1, h2, _, h4⟩ := a6F hg (F := F) (A := A) (B := [([], [])]) (V := []) hF ⟨([], []), by simp, ⟨rfl, fun t ht => by
  rcases ht with ht | ht
  ·rw [← P8 ht, hg t ht]
  ·cases ht⟩, fun t ht => by cases ht⟩
 exact ⟨b, h1, h2, h4⟩
theorem a9i (hu : ∀ x ∈ u, 0 ≤ x ∧ x ≤ 9) : ∀ {n v : Nat}, 10 ≤ v + n → G7 u (nxt u n v : Nat) = false ∧ v ≤ nxt u n v ∧ ∀ w, v ≤ w → w < nxt u n v → G7 u (w : Nat) = true
 | 0, v, h => ⟨by
   cases e : G7 u (v : Int) with
   | false => exact e
   | true => have := b5G hu e; omega, Nat.le_refl _, fun w h1 h2 => by simp only [nxt] at h2; omega⟩
 | n + 1, v, h => by
  rw [nxt]
  split
  ·rename_i e
   obtain ⟨h1, h2, h3⟩ := a9i hu (n := n) (v := v + 1) (by omega)
   refine ⟨h1, by omega, fun w hw1 hw2 => ?_⟩
   by_cases e2 : w = v
   ·rw [e2]; exact e
   ·exact h3 w (by omega) hw2
  ·rename_i e
   exact ⟨by simpa using e, Nat.le_refl _, fun w h1 h2 => by omega⟩
theorem a0P (hu : ∀ x ∈ u, 0 ≤ x ∧ x ≤ 9) {v : Nat} : G7 u (X7 u v : Nat) = false ∧ v ≤ X7 u v ∧ ∀ w, v ≤ w → w < X7 u v → G7 u (w : Nat) = true := a9i hu (by omega)
theorem b0y (hu : ∀ x ∈ u, 0 ≤ x ∧ x ≤ 9) : ∀ {k i : Nat}, i < k → X7 u (fzN u i) < fzN u k
 | 0, i, h => by omega
 | k + 1, i, h => by
  rw [fzN]
  rcases Nat.lt_succ_iff_lt_or_eq.1 h with h1 | rfl
  ·have h2 := b0y hu h1
   have := (a0P hu (v := fzN u k)).2.1
   omega
  ·omega
theorem b5J (hu : ∀ x ∈ u, 0 ≤ x ∧ x ≤ 9) {i k : Nat} (h : X7 u (fzN u i) = X7 u (fzN u k)) : i = k := by
 rcases Nat.lt_trichotomy i k with h1 | h1 | h1
 ·have h2 := b0y hu h1
  have := (a0P hu (v := fzN u k)).2.1
  omega
 ·exact h1
 ·have h2 := b0y hu h1
  have := (a0P hu (v := fzN u i)).2.1
  omega
end
end Go.Proofs.YtlfhopooaejpfaaGreat
end
section
namespace Go.Proofs.YtlfhopooaejpfaaGreat
set_option linter.unusedVariables false
set_option linter.unusedSimpArgs false
abbrev Qry := List Int × List (Int × List Int)
abbrev cU (p q : List (Int × List Int)) : List Int := [B7 (fun t => inR t 0 9) p, B7 (fun t => inR t 0 9) q].flatten
abbrev bP (u : List Int) (A : List (Int × List Int)) : List Int × List Int := (J6 A, a2b u (J6 A).length)
def unF (u : List Int) (A : List (Int × List Int)) (w : Int) : Int := ((J6 A).find? fun x => decide (B1 (bP u A) x = w)).getD w
def hom (p q : Qry) : Prop := ∃ g : Int → Int, (∀ t, inR t 10 17 = false → g t = t) ∧ (∀ a ∈ q.2, (a.1, a.2.map g) ∈ p.2) ∧ q.1.map g = p.1
section
variable {t v : Int} {g : Int → Int} {h head u : List Int} {s : List Int} {p q r : Qry} {F A B : List (Int × List Int)} {a f : Int × List Int}
theorem a6S : (J6 A).Nodup := by
 have h1 : (J6 A).Pairwise (· < ·) := (a1Y List.Pairwise.nil).1
 exact List.Pairwise.imp (fun {a b} h e => by omega) h1
theorem b0Y : ∀ {l : List Int} {i : Nat} (hi : i < l.length), l.Nodup → ∀ y ∈ l.take i, decide (y = l[i]) = false
 | x :: l, 0, _, _, y, hy => by cases hy
 | x :: l, i + 1, hi, hn, y, hy => by
  rw [List.take_succ_cons] at hy
  rw [List.nodup_cons] at hn
  rcases List.mem_cons.1 hy with hy | hy
  ·refine decide_eq_false fun e => hn.1 ?_
   rw [← hy, e]
   exact List.getElem_mem _
  ·exact b0Y (by simpa using hi) hn.2 y hy
theorem b3K {i : Nat} (hi : i < (J6 A).length) : B1 (bP u A) (J6 A)[i] = (X7 u (fzN u i) : Int) := by
 have hv := b5d (d8 := A) _ (List.getElem_mem hi)
 have e := a2w (b := bP u A) (t := (J6 A)[i]) (g := i) (by simp [inR]; omega) hi (by simpa [a9z] using hi) rfl (b0Y hi a6S)
 rw [← e]
 simp [a2b]
theorem b1H (hu : ∀ x ∈ u, 0 ≤ x ∧ x ≤ 9) (ht : t ∈ J6 A) : unF u A (B1 (bP u A) t) = t := by
 unfold unF
 cases c : (J6 A).find? fun x => decide (B1 (bP u A) x = B1 (bP u A) t) with
 | none => exact absurd (List.find?_eq_none.1 c t ht) (by simp)
 | some y =>
  have h1 := List.find?_some c
  rw [decide_eq_true_eq] at h1
  have h2 := List.mem_of_find?_eq_some c
  obtain ⟨i, hi, rfl⟩ := List.getElem_of_mem ht
  obtain ⟨k, hk, rfl⟩ := List.getElem_of_mem h2
  rw [b3K hi, b3K hk] at h1
  have := b5J hu (Int.ofNat_inj.1 h1)
  subst this
  rfl
theorem b0U (hu : ∀ x ∈ u, 0 ≤ x ∧ x ≤ 9) (ht : t ∈ u) : unF u A t = t := by
 unfold unF
 cases c : (J6 A).find? fun x => decide (B1 (bP u A) x = t) with
 | none => rfl
 | some y =>
  have h1 := List.find?_some c
  rw [decide_eq_true_eq] at h1
  have h2 := List.mem_of_find?_eq_some c
  obtain ⟨k, hk, rfl⟩ := List.getElem_of_mem h2
  rw [b3K hk] at h1
  have h3 := (a0P hu (v := fzN u k)).1
  rw [h1, Y2.2 ht] at h3
  cases h3
theorem b3d (l : List (Int × List Int)) : f ∈ D1 l f := by
 cases e : I2 l f with
 | false => exact a8w e
 | true => exact a3R (a1C.1 e)
theorem a9u {b : List Int × List Int} : ∀ {A out : List (Int × List Int)}, f ∈ A.foldl (fun out a => D1 out (X5 a b)) out ↔ f ∈ out ∨ ∃ a ∈ A, X5 a b = f
 | [], out => by simp
 | a :: A, out => by
  rw [List.foldl_cons, a9u]
  constructor
  ·rintro (h1 | ⟨c, hc, e⟩)
   ·rcases a2t h1 with h1 | h1
    ·exact .inl h1
    ·exact .inr ⟨a, by simp, h1.symm⟩
   ·exact .inr ⟨c, by simp [hc], e⟩
  ·rintro (h1 | ⟨c, hc, e⟩)
   ·exact .inl (a3R h1)
   ·rcases List.mem_cons.1 hc with hc | hc
    ·subst hc; subst e; exact .inl (b3d _)
    ·exact .inr ⟨c, hc, e⟩
theorem a7F {b : List Int × List Int} : f ∈ a4V A b ↔ ∃ a ∈ A, X5 a b = f := by rw [a4V, a9u]; simp
theorem a0B (hq : z8 s q = true) : (∀ a ∈ q.2, ∀ t ∈ a.2, (inR t 10 17 = true ∧ t ∈ J6 q.2) ∨ (inR t 10 17 = false ∧ t ∈ B7 (fun t => inR t 0 9) q.2)) ∧ ∀ t ∈ q.1, inR t 10 17 = true ∧ t ∈ J6 q.2 ∧ ∃ a ∈ q.2, t ∈ a.2 := by
 simp only [z8, Bool.and_eq_true, Bool.not_eq_true', List.any_eq_false, Bool.not_eq_true, a0r] at hq
 obtain ⟨_, _, h3, _, h4⟩ := hq
 refine ⟨fun a ha t ht => ?_, fun t ht => ?_⟩
 ·have h5 : M8 s a = true := by simpa using h3 a ha
  simp only [M8, Bool.and_eq_true, Bool.not_eq_true', List.any_eq_false, Bool.not_eq_true] at h5
  have h6 : O8 t = true := by simpa using h5.2.2 t ht
  have h7 : t ∈ q.2.flatMap fun a => a.2 := List.mem_flatMap.2 ⟨a, ha, ht⟩
  simp only [O8, Bool.or_eq_true] at h6
  cases hr : inR t 10 17 with
  | true => exact .inl ⟨rfl, a1f.2 ⟨h7, hr⟩⟩
  | false =>
   rcases h6 with h6 | h6
   ·exact .inr ⟨rfl, a1f.2 ⟨h7, h6⟩⟩
   ·rw [h6] at hr; cases hr
 ·have h5 : G7 (B7 (fun t => inR t 10 17) q.2) t = true := by simpa using h4 t ht
  have h6 := Y2.1 h5
  obtain ⟨h7, h8⟩ := a1f.1 h6
  obtain ⟨a, ha, hta⟩ := List.mem_flatMap.1 h7
  exact ⟨h8, h6, a, ha, hta⟩
theorem a9c {A B : List (Int × List Int)} : ∀ x ∈ cU A B, 0 ≤ x ∧ x ≤ 9 := b6C
theorem b8v (h : t ∈ B7 (fun t => inR t 0 9) A) : t ∈ cU A B := by simp [cU, h]
theorem b8i (h : t ∈ B7 (fun t => inR t 0 9) B) : t ∈ cU A B := by simp [cU, h]
theorem b5N (hp : z8 s p = true) (hu : ∀ x ∈ u, 0 ≤ x ∧ x ≤ 9) (hc : ∀ x ∈ B7 (fun t => inR t 0 9) p.2, x ∈ u) {a : Int × List Int} (ha : a ∈ p.2) {t : Int} (ht : t ∈ a.2) : unF u p.2 (B1 (bP u p.2) t) = t := by
 rcases (a0B hp).1 a ha t ht with h1 | h1
 ·exact b1H hu h1.2
 ·rw [← P8 h1.1]; exact b0U hu (hc t h1.2)
theorem a9n (hp : z8 s p = true) (hq : z8 s q = true) (hc : a9W p q = true) : hom p q := by
 simp only [a9W, Bool.and_eq_true, decide_eq_true_eq] at hc
 obtain ⟨h1, h2, h3⟩ := hc
 have hF : fzF (cU p.2 q.2) p.2 = a4V p.2 (bP (cU p.2 q.2) p.2) := by rw [fzF, h2]; rfl
 have hV : fzV (cU p.2 q.2) p.2 = J6 p.2 := by rw [fzV, h2]; rfl
 have hX : fzX (cU p.2 q.2) p.2 = a2b (cU p.2 q.2) (J6 p.2).length := by rw [fzX, h2]; rfl
 rw [hF, hV, hX, List.any_eq_true] at h3
 obtain ⟨b, hb, hh⟩ := h3
 simp only [a9l, decide_eq_true_eq] at hh
 obtain ⟨m1, m2⟩ := a5b b hb
 refine ⟨fun t => if inR t 10 17 then unF (cU p.2 q.2) p.2 (B1 b t) else t, fun t ht => by simp [ht], fun a ha => ?_, ?_⟩
 ·obtain ⟨a', ha', e⟩ := a7F.1 (m2 a ha).1
  have e1 : (X5 a' (bP (cU p.2 q.2) p.2)).1 = (X5 a b).1 := congrArg Prod.fst e
  replace e1 : a'.1 = a.1 := e1
  have e2 : (X5 a' (bP (cU p.2 q.2) p.2)).2 = (X5 a b).2 := congrArg Prod.snd e
  replace e2 : a'.2.map (B1 (bP (cU p.2 q.2) p.2)) = a.2.map (B1 b) := e2
  have e3 : a.2.map (fun t => if inR t 10 17 then unF (cU p.2 q.2) p.2 (B1 b t) else t) = (a.2.map (B1 b)).map (unF (cU p.2 q.2) p.2) := by
   rw [List.map_map]
   refine List.map_congr_left fun t ht => ?_
   rcases (a0B hq).1 a ha t ht with k | k
   ·simp [k.1]
   ·simp only [k.1, Function.comp]
    rw [← P8 k.1, b0U a9c (b8i k.2)]; simp
  have e4 : (a'.2.map (B1 (bP (cU p.2 q.2) p.2))).map (unF (cU p.2 q.2) p.2) = a'.2 := by
   rw [List.map_map]
   exact (List.map_congr_left fun t ht => b5N hp a9c (fun x hx => b8v hx) ha' ht).trans (List.map_id _)
  rw [e3, ← e2, e4, ← e1]
  exact ha'
 ·have e3 : q.1.map (fun t => if inR t 10 17 then unF (cU p.2 q.2) p.2 (B1 b t) else t) = (q.1.map (B1 b)).map (unF (cU p.2 q.2) p.2) := by
   rw [List.map_map]
   refine List.map_congr_left fun t ht => ?_
   simp [((a0B hq).2 t ht).1]
  rw [e3, hh, List.map_map]
  exact (List.map_congr_left fun t ht => b1H a9c ((a0B hp).2 t ht).2.1).trans (List.map_id _)
theorem b4d (hp : z8 s p = true) (hq : z8 s q = true) (hf : fzB (cU p.2 q.2) p.2 = true) (hh : hom p q) : a9W p q = true := by
 obtain ⟨g, g1, g2, g3⟩ := hh
 have hF : fzF (cU p.2 q.2) p.2 = a4V p.2 (bP (cU p.2 q.2) p.2) := by rw [fzF, hf]; rfl
 have hV : fzV (cU p.2 q.2) p.2 = J6 p.2 := by rw [fzV, hf]; rfl
 have hX : fzX (cU p.2 q.2) p.2 = a2b (cU p.2 q.2) (J6 p.2).length := by rw [fzX, hf]; rfl
 obtain ⟨b, b1, b2, b3⟩ := a1H (g := fun t => B1 (bP (cU p.2 q.2) p.2) (g t)) (A := q.2) (F := a4V p.2 (bP (cU p.2 q.2) p.2)) (fun t ht => by
  show B1 _ (g t) = t
  rw [g1 t ht, ← P8 ht]) (fun a ha => a7F.2 ⟨_, g2 a ha, by
  show (a.1, (a.2.map g).map _) = _
  rw [List.map_map]; rfl⟩)
 simp only [a9W, Bool.and_eq_true, decide_eq_true_eq]
 refine ⟨by rw [← g3, List.length_map], hf, ?_⟩
 rw [hF, hV, hX, List.any_eq_true]
 refine ⟨b, b1, ?_⟩
 simp only [a9l, decide_eq_true_eq]
 rw [← g3, List.map_map]
 refine List.map_congr_left fun t ht => ?_
 obtain ⟨_, _, a, ha, hta⟩ := (a0B hq).2 t ht
 exact b2.2 t (b3 a ha t hta)
theorem b3S : hom p p := ⟨id, fun _ _ => rfl, fun a ha => by rw [List.map_id]; exact ha, List.map_id _⟩
theorem a4H (h1 : hom p q) (h2 : hom q r) : hom p r := by
 obtain ⟨g, g1, g2, g3⟩ := h1
 obtain ⟨k, k1, k2, k3⟩ := h2
 refine ⟨fun t => g (k t), fun t ht => by show g (k t) = t; rw [k1 t ht, g1 t ht], fun a ha => ?_, ?_⟩
 ·have := g2 _ (k2 a ha)
  rwa [List.map_map] at this
 ·have e : r.1.map (fun t => g (k t)) = (r.1.map k).map g := by rw [List.map_map]; rfl
  rw [e, k3, g3]
theorem b1s (h1 : p.1 = q.1) (h2 : ∀ a ∈ q.2, a ∈ p.2) : hom p q := ⟨id, fun _ _ => rfl, fun a ha => by rw [List.map_id]; exact h2 a ha, by rw [List.map_id, h1]⟩
theorem b5i (hp : z8 s p = true) (hq : z8 s q = true) (hh : hom p q) (hF : E0 s F = true) : ∀ t ∈ V9 s p F, t ∈ V9 s q F := by
 intro t ht
 obtain ⟨g, g1, g2, g3⟩ := hh
 unfold V9 at ht ⊢
 rw [if_pos (by rw [hq, hF]; rfl)]
 rw [if_pos (by rw [hp, hF]; rfl)] at ht
 obtain ⟨b, hb, e⟩ := a2k.1 ht
 obtain ⟨m1, m2⟩ := a5b b hb
 obtain ⟨c, c1, c2, c3⟩ := a1H (g := fun t => B1 b (g t)) (A := q.2) (F := F) (fun t ht => by
  show B1 b (g t) = t
  rw [g1 t ht, ← P8 ht]) (fun a ha => by
  have := (m2 _ (g2 a ha)).1
  have e : X5 (a.1, a.2.map g) b = (a.1, a.2.map fun t => B1 b (g t)) := by
   show (a.1, (a.2.map g).map _) = _
   rw [List.map_map]; rfl
  rw [← e]; exact this)
 refine a2k.2 ⟨c, c1, ?_⟩
 rw [← e, ← g3, List.map_map]
 refine List.map_congr_left fun x hx => ?_
 obtain ⟨_, _, a, ha, hta⟩ := (a0B hq).2 x hx
 exact c2.2 x (c3 a ha x hta)
end
end Go.Proofs.YtlfhopooaejpfaaGreat
end
