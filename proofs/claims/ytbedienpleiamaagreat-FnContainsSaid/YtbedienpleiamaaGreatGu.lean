import Derived.Test.YtbedienpleiamaaGreatDs
namespace Go.Proofs.YtbedienpleiamaaGreat
set_option linter.unusedVariables false
set_option linter.unusedSimpArgs false
section
variable {x b : List Int × List Int} {t u v : Int} {h head : List Int} {s : List Int} {q : List Int × List (Int × List Int)} {F F' : List (Int × List Int)} {l6 : List (Int × List Int)} {a f : Int × List Int}
theorem a5I : ∀ {l : List Int} {u : Int}, u ∈ l → ∃ g, ∃ hg : g < l.length, l[g] = u ∧ ∀ y ∈ l.take g, decide (y = u) = false
 | [], _, h => by cases h
 | z :: l, u, h => by
  by_cases e : z = u
  ·exact ⟨0, by simp, e, by simp⟩
  ·rcases List.mem_cons.1 h with h | h
   ·exact absurd h.symm e
   ·obtain ⟨g, hg, h1, h2⟩ := a5I h
    refine ⟨g + 1, by simp; omega, by simpa using h1, fun y hy => ?_⟩
    rw [List.take_succ_cons] at hy
    rcases List.mem_cons.1 hy with hy | hy
    ·rw [hy]; exact decide_eq_false e
    ·exact h2 y hy
theorem a7w (h : x.1.length = x.2.length) : unb x u = false ↔ u ∈ x.1 := by
 rw [unb, ← h, Nat.min_self, List.take_length]
 simp
def bd (x : List Int × List Int) (u : Int) : Prop := inR u 10 17 = false ∨ u ∈ x.1
theorem a5t (h : x.1.length = x.2.length) (hu : bd x u) : u6 (B7 x t v) u = u6 x u := by
 cases hc : inR t 10 17 && unb x t with
 | false => rw [a4M hc]
 | true =>
  rw [a3A hc]
  rcases hu with hu | hu
  ·rw [← R4 hu, ← R4 hu]
  ·cases hr : inR u 10 17 with
   | false => rw [← R4 hr, ← R4 hr]
   | true =>
    obtain ⟨g, hg, h1, h2⟩ := a5I hu
    have e1 := a1o (b := x) hr hg (by omega) h1 h2
    have e2 := a1o (b := (x.1 ++ [t], x.2 ++ [v])) (g := g) hr (by simp; omega) (by simp; omega) (by simp [List.getElem_append_left hg, h1]) (by
     intro y hy
     simp only [List.take_append_of_le_length (Nat.le_of_lt hg)] at hy
     exact h2 y hy)
    rw [← e1, ← e2]
    simp [List.getElem_append_left (show g < x.2.length by omega)]
theorem a7s (hu : bd x u) : bd (B7 x t v) u := by
 unfold B7
 split
 ·rcases hu with hu | hu
  ·exact .inl hu
  ·exact .inr (by simp [hu])
 ·exact hu
theorem b0f (h : x.1.length = x.2.length) : bd (B7 x t v) t := by
 cases hr : inR t 10 17 with
 | false => exact .inl hr
 | true =>
  cases hu : unb x t with
  | true => rw [a3A (by rw [hr, hu]; rfl)]; exact .inr (by simp)
  | false => rw [a4M (by rw [hr, hu]; rfl)]; exact .inr ((a7w h).1 hu)
theorem a3Z : ∀ {l : List (Int × Int)} {x : List Int × List Int} {u : Int}, bd x u → bd (z6 x l) u
 | [], _, _, h => h
 | p :: l, x, u, h => a3Z (l := l) (a7s h)
theorem a2s : ∀ {l : List (Int × Int)} {x : List Int × List Int} {u : Int}, x.1.length = x.2.length → bd x u → u6 (z6 x l) u = u6 x u
 | [], _, _, _, _ => rfl
 | p :: l, x, u, h, hu => (a2s (l := l) (a1X h) (a7s hu)).trans (a5t h hu)
theorem a5F : ∀ {l : List (Int × Int)} {x : List Int × List Int}, x.1.length = x.2.length → okV x l = true → ∀ p ∈ l, u6 (z6 x l) p.1 = p.2 ∧ bd (z6 x l) p.1
 | [], _, _, _, p, hp => by cases hp
 | q :: l, x, h, hk, p, hp => by
  simp only [okV, Bool.and_eq_true, decide_eq_true_eq] at hk
  rcases List.mem_cons.1 hp with hp | hp
  ·subst hp
   have hb : bd (B7 x p.1 p.2) p.1 := b0f h
   exact ⟨(a2s (l := l) (a1X h) hb).trans hk.1, a3Z (l := l) hb⟩
  ·exact a5F (l := l) (a1X h) hk.2 p hp
theorem a5x (hm : r6 b a f = true) : (r9 b a f).1.length = (r9 b a f).2.length ∧ B2 a (r9 b a f) = f ∧ (∀ t ∈ a.2, bd (r9 b a f) t) ∧ ∀ u, bd b u → u6 (r9 b a f) u = u6 b u ∧ bd (r9 b a f) u := by
 simp only [r6, Bool.and_eq_true, decide_eq_true_eq] at hm
 obtain ⟨h1, h2, h3, h4⟩ := hm
 have hv := a5F h3 h4
 have hz : ∀ i (hi : i < a.2.length), (a.2[i], f.2[i]'(by omega)) ∈ a.2.zip f.2 := fun i hi => by
  have : (a.2.zip f.2)[i]'(by simp; omega) = (a.2[i], f.2[i]'(by omega)) := by simp
  rw [← this]; exact List.getElem_mem _
 refine ⟨a2r h3, ?_, ?_, fun u hu => ⟨a2s h3 hu, a3Z hu⟩⟩
 ·unfold B2
  refine Prod.ext h1 (List.ext_getElem (by simpa using h2) fun i hi hi' => ?_)
  simp only [List.length_map] at hi
  rw [List.getElem_map]
  exact (hv _ (hz i hi)).1
 ·intro t ht
  obtain ⟨i, hi, rfl⟩ := List.getElem_of_mem ht
  exact (hv _ (hz i hi)).2
def MOk (A F : List (Int × List Int)) (b : List Int × List Int) : Prop := b.1.length = b.2.length ∧ ∀ a ∈ A, B2 a b ∈ F ∧ ∀ t ∈ a.2, bd b t
theorem a7i {b b' : List Int × List Int} (h : ∀ t ∈ a.2, u6 b' t = u6 b t) : B2 a b' = B2 a b := by
 unfold B2
 rw [List.map_congr_left h]
theorem b0i {A : List (Int × List Int)} {B : List (List Int × List Int)} (hB : ∀ b ∈ B, MOk A F b) : ∀ b ∈ E5 B a F, MOk (A ++ [a]) F b := by
 intro b hb
 obtain ⟨b0, hb0, hb⟩ := List.mem_flatMap.1 hb
 obtain ⟨f, hf, rfl⟩ := List.mem_map.1 hb
 rw [List.mem_filter] at hf
 obtain ⟨m1, m2, m3, m4⟩ := a5x hf.2
 refine ⟨m1, fun c hc => ?_⟩
 rcases List.mem_append.1 hc with hc | hc
 ·obtain ⟨k1, k2⟩ := (hB b0 hb0).2 c hc
  exact ⟨by rw [a7i fun t ht => (m4 t (k2 t ht)).1]; exact k1, fun t ht => (m4 t (k2 t ht)).2⟩
 ·rw [List.mem_singleton] at hc
  subst hc
  exact ⟨by rw [m2]; exact hf.1, m3⟩
theorem a6r : ∀ {l6 A : List (Int × List Int)} {B : List (List Int × List Int)}, (∀ b ∈ B, MOk A F b) → ∀ b ∈ l6.foldl (fun l a => E5 l a F) B, MOk (A ++ l6) F b
 | [], A, B, hB, b, hb => by simpa using hB b hb
 | a :: l6, A, B, hB, b, hb => by
  have := a6r (l6 := l6) (b0i (a := a) hB) b hb
  simpa using this
theorem a5O : ∀ b ∈ j7 l6 F, MOk l6 F b := by
 have := a6r (F := F) (l6 := l6) (A := []) (B := [([], [])]) fun b hb => by
  rw [List.mem_singleton] at hb; subst hb; exact ⟨rfl, fun a ha => by cases ha⟩
 simpa [j7] using this
theorem a9A {l : List (List Int)} {t : List Int} : L9 l t = true ↔ t ∈ l := by
 unfold L9
 rw [List.any_eq_true]
 constructor
 ·rintro ⟨y, hy, e⟩; rw [decide_eq_true_eq] at e; exact e ▸ hy
 ·exact fun h => ⟨t, h, by simp⟩
theorem a9x {l : List (List Int)} {t y : List Int} : y ∈ M9 l t ↔ y ∈ l ∨ y = t := by
 constructor
 ·exact Y3
 ·intro h
  unfold M9 N9
  by_cases h1 : L9 l t = true
  ·rw [if_pos h1]
   rcases h with h | h
   ·exact h
   ·rw [h]; exact a9A.1 h1
  ·rw [if_neg h1]
   split
   ·rename_i h2
    rcases h with h | h
    ·exact a4a h
    ·rw [h]; exact a3d h2
   ·rcases h with h | h <;> simp [h]
theorem a3a {h t : List Int} : ∀ {l : List (List Int × List Int)} {out : List (List Int)}, t ∈ l.foldl (fun out b => M9 out (h.map (u6 b))) out ↔ t ∈ out ∨ ∃ b ∈ l, h.map (u6 b) = t
 | [], out => by simp
 | b :: l, out => by
  rw [List.foldl_cons, a3a, a9x]
  constructor
  ·rintro ((h1 | h1) | ⟨c, hc, e⟩)
   ·exact .inl h1
   ·exact .inr ⟨b, by simp, h1.symm⟩
   ·exact .inr ⟨c, by simp [hc], e⟩
  ·rintro (h1 | ⟨c, hc, e⟩)
   ·exact .inl (.inl h1)
   ·rcases List.mem_cons.1 hc with hc | hc
    ·subst hc; exact .inl (.inr e.symm)
    ·exact .inr ⟨c, hc, e⟩
theorem a7D {h t : List Int} {l : List (List Int × List Int)} : t ∈ L8 h l ↔ ∃ b ∈ l, h.map (u6 b) = t := by
 rw [L8, a3a]; simp
end
end Go.Proofs.YtbedienpleiamaaGreat
