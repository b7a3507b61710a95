import Derived.Test.YtfnbilpemdgkkaaGreatDoorDy
namespace Go.Proofs.YtfnbilpemdgkkaaGreatDoor
set_option linter.unusedVariables false
set_option linter.unusedSimpArgs false
section
variable {x b : List Int × List Int} {t u v : Int} {h head : List Int} {s : List Int} {q : List Int × List (Int × List Int)} {F F' : List (Int × List Int)} {l0 : List (Int × List Int)} {a f : Int × List Int}
theorem a3y : ∀ {l : List Int} {u : Int}, u ∈ l → ∃ g, ∃ hg : g < l.length, l[g] = u ∧ ∀ y ∈ l.take g, decide (y = u) = false
 | [], _, h => by cases h
 | z :: l, u, h => by
  by_cases e : z = u
  ·exact ⟨0, by simp, e, by simp⟩
  ·rcases List.mem_cons.1 h with h | h
   ·exact absurd h.symm e
   ·obtain ⟨g, hg, h1, h2⟩ := a3y h
    refine ⟨g + 1, by simp; omega, by simpa using h1, fun y hy => ?_⟩
    rw [List.take_succ_cons] at hy
    rcases List.mem_cons.1 hy with hy | hy
    ·rw [hy]; exact decide_eq_false e
    ·exact h2 y hy
theorem a5P (h : x.1.length = x.2.length) : unb x u = false ↔ u ∈ x.1 := by
 rw [unb, ← h, Nat.min_self, List.take_length]
 simp
def bd (x : List Int × List Int) (u : Int) : Prop := inR u 10 17 = false ∨ u ∈ x.1
theorem a3N (h : x.1.length = x.2.length) (hu : bd x u) : s4 (x4 x t v) u = s4 x u := by
 cases hc : inR t 10 17 && unb x t with
 | false => rw [a2O hc]
 | true =>
  rw [a1H hc]
  rcases hu with hu | hu
  ·rw [← L8 hu, ← L8 hu]
  ·cases hr : inR u 10 17 with
   | false => rw [← L8 hr, ← L8 hr]
   | true =>
    obtain ⟨g, hg, h1, h2⟩ := a3y hu
    have e1 := Y4 (b := x) hr hg (by omega) h1 h2
    have e2 := Y4 (b := (x.1 ++ [t], x.2 ++ [v])) (g := g) hr (by simp; omega) (by simp; omega) (by simp [List.getElem_append_left hg, h1]) (by
     intro y hy
     simp only [List.take_append_of_le_length (Nat.le_of_lt hg)] at hy
     exact h2 y hy)
    rw [← e1, ← e2]
    simp [List.getElem_append_left (show g < x.2.length by omega)]
theorem a5G (hu : bd x u) : bd (x4 x t v) u := by
 unfold x4
 split
 ·rcases hu with hu | hu
  ·exact .inl hu
  ·exact .inr (by simp [hu])
 ·exact hu
theorem a8W (h : x.1.length = x.2.length) : bd (x4 x t v) t := by
 cases hr : inR t 10 17 with
 | false => exact .inl hr
 | true =>
  cases hu : unb x t with
  | true => rw [a1H (by rw [hr, hu]; rfl)]; exact .inr (by simp)
  | false => rw [a2O (by rw [hr, hu]; rfl)]; exact .inr ((a5P h).1 hu)
theorem a2i : ∀ {l : List (Int × Int)} {x : List Int × List Int} {u : Int}, bd x u → bd (v7 x l) u
 | [], _, _, h => h
 | p :: l, x, u, h => a2i (l := l) (a5G h)
theorem a0V : ∀ {l : List (Int × Int)} {x : List Int × List Int} {u : Int}, x.1.length = x.2.length → bd x u → s4 (v7 x l) u = s4 x u
 | [], _, _, _, _ => rfl
 | p :: l, x, u, h, hu => (a0V (l := l) (a0z h) (a5G hu)).trans (a3N h hu)
theorem a3H : ∀ {l : List (Int × Int)} {x : List Int × List Int}, x.1.length = x.2.length → okV x l = true → ∀ p ∈ l, s4 (v7 x l) p.1 = p.2 ∧ bd (v7 x l) p.1
 | [], _, _, _, p, hp => by cases hp
 | q :: l, x, h, hk, p, hp => by
  simp only [okV, Bool.and_eq_true, decide_eq_true_eq] at hk
  rcases List.mem_cons.1 hp with hp | hp
  ·subst hp
   have hb : bd (x4 x p.1 p.2) p.1 := a8W h
   exact ⟨(a0V (l := l) (a0z h) hb).trans hk.1, a2i (l := l) hb⟩
  ·exact a3H (l := l) (a0z h) hk.2 p hp
theorem a3E (hm : j0 b a f = true) : (k7 b a f).1.length = (k7 b a f).2.length ∧ F3 a (k7 b a f) = f ∧ (∀ t ∈ a.2, bd (k7 b a f) t) ∧ ∀ u, bd b u → s4 (k7 b a f) u = s4 b u ∧ bd (k7 b a f) u := by
 simp only [j0, Bool.and_eq_true, decide_eq_true_eq] at hm
 obtain ⟨h1, h2, h3, h4⟩ := hm
 have hv := a3H h3 h4
 have hz : ∀ i (hi : i < a.2.length), (a.2[i], f.2[i]'(by omega)) ∈ a.2.zip f.2 := fun i hi => by
  have : (a.2.zip f.2)[i]'(by simp; omega) = (a.2[i], f.2[i]'(by omega)) := by simp
  rw [← this]; exact List.getElem_mem _
 refine ⟨a0K h3, ?_, ?_, fun u hu => ⟨a0V h3 hu, a2i hu⟩⟩
 ·unfold F3
  refine Prod.ext h1 (List.ext_getElem (by simpa using h2) fun i hi hi' => ?_)
  simp only [List.length_map] at hi
  rw [List.getElem_map]
  exact (hv _ (hz i hi)).1
 ·intro t ht
  obtain ⟨i, hi, rfl⟩ := List.getElem_of_mem ht
  exact (hv _ (hz i hi)).2
def MOk (A F : List (Int × List Int)) (b : List Int × List Int) : Prop := b.1.length = b.2.length ∧ ∀ a ∈ A, F3 a b ∈ F ∧ ∀ t ∈ a.2, bd b t
theorem a5B {b b' : List Int × List Int} (h : ∀ t ∈ a.2, s4 b' t = s4 b t) : F3 a b' = F3 a b := by
 unfold F3
 rw [List.map_congr_left h]
theorem a8X {A : List (Int × List Int)} {B : List (List Int × List Int)} (hB : ∀ b ∈ B, MOk A F b) : ∀ b ∈ B5 B a F, MOk (A ++ [a]) F b := by
 intro b hb
 obtain ⟨b0, hb0, hb⟩ := List.mem_flatMap.1 hb
 obtain ⟨f, hf, rfl⟩ := List.mem_map.1 hb
 rw [List.mem_filter] at hf
 obtain ⟨m1, m2, m3, m4⟩ := a3E hf.2
 refine ⟨m1, fun c hc => ?_⟩
 rcases List.mem_append.1 hc with hc | hc
 ·obtain ⟨k1, k2⟩ := (hB b0 hb0).2 c hc
  exact ⟨by rw [a5B fun t ht => (m4 t (k2 t ht)).1]; exact k1, fun t ht => (m4 t (k2 t ht)).2⟩
 ·rw [List.mem_singleton] at hc
  subst hc
  exact ⟨by rw [m2]; exact hf.1, m3⟩
theorem a5e : ∀ {l0 A : List (Int × List Int)} {B : List (List Int × List Int)}, (∀ b ∈ B, MOk A F b) → ∀ b ∈ l0.foldl (fun l a => B5 l a F) B, MOk (A ++ l0) F b
 | [], A, B, hB, b, hb => by simpa using hB b hb
 | a :: l0, A, B, hB, b, hb => by
  have := a5e (l0 := l0) (a8X (a := a) hB) b hb
  simpa using this
theorem a0k : ∀ b ∈ r8 l0 F, MOk l0 F b := by
 have := a5e (F := F) (l0 := l0) (A := []) (B := [([], [])]) fun b hb => by
  rw [List.mem_singleton] at hb; subst hb; exact ⟨rfl, fun a ha => by cases ha⟩
 simpa [r8] using this
theorem a8g (h1 : MOk q.2 F b) (h2 : q.1.map (s4 b) = head) : R3 q F head b = true := by
 simp only [R3, Bool.and_eq_true, decide_eq_true_eq, Bool.not_eq_true', List.any_eq_false, Bool.not_eq_true]
 refine ⟨h1.1, h2, fun a ha => ?_⟩
 rw [Z0.2 (h1.2 a ha).1]; simp
theorem a8m {l : List (List Int)} {t : List Int} : E8 l t = true ↔ t ∈ l := by
 unfold E8
 rw [List.any_eq_true]
 constructor
 ·rintro ⟨y, hy, e⟩; rw [decide_eq_true_eq] at e; exact e ▸ hy
 ·exact fun h => ⟨t, h, by simp⟩
theorem a8k {l : List (List Int)} {t y : List Int} : y ∈ D1 l t ↔ y ∈ l ∨ y = t := by
 constructor
 ·exact V4
 ·intro h
  unfold D1 I1
  by_cases h1 : E8 l t = true
  ·rw [if_pos h1]
   rcases h with h | h
   ·exact h
   ·rw [h]; exact a8m.1 h1
  ·rw [if_neg h1]
   split
   ·rename_i h2
    rcases h with h | h
    ·exact a2h h
    ·rw [h]; exact a1t h2
   ·rcases h with h | h <;> simp [h]
theorem a1k {h t : List Int} : ∀ {l : List (List Int × List Int)} {out : List (List Int)}, t ∈ l.foldl (fun out b => D1 out (h.map (s4 b))) out ↔ t ∈ out ∨ ∃ b ∈ l, h.map (s4 b) = t
 | [], out => by simp
 | b :: l, out => by
  rw [List.foldl_cons, a1k, a8k]
  constructor
  ·rintro ((h1 | h1) | ⟨c, hc, e⟩)
   ·exact .inl h1
   ·exact .inr ⟨b, by simp, h1.symm⟩
   ·exact .inr ⟨c, by simp [hc], e⟩
  ·rintro (h1 | ⟨c, hc, e⟩)
   ·exact .inl (.inl h1)
   ·rcases List.mem_cons.1 hc with hc | hc
    ·subst hc; exact .inl (.inr e.symm)
    ·exact .inr ⟨c, hc, e⟩
theorem X9 {h t : List Int} {l : List (List Int × List Int)} : t ∈ H3 h l ↔ ∃ b ∈ l, h.map (s4 b) = t := by
 rw [H3, a1k]; simp
theorem a8p {l : List (List Int × List Int)} (hf : ∃ b ∈ l, h.map (s4 b) = head) : l.any (H4 h head) = true ∧ F0 l h head ∈ l ∧ h.map (s4 (F0 l h head)) = head := by
 obtain ⟨b, hb, e⟩ := hf
 have hb2 : H4 h head b = true := by simp [H4, e]
 refine ⟨List.any_eq_true.2 ⟨b, hb, hb2⟩, ?_⟩
 unfold F0
 cases c : l.find? (H4 h head) with
 | none => exact absurd hb2 (by simpa using List.find?_eq_none.1 c b hb)
 | some z =>
  refine ⟨List.mem_of_find?_eq_some c, ?_⟩
  have := List.find?_some c
  simpa [H4] using this
theorem a7Q (ht : head ∈ C0 s q F) : (r8 q.2 F).any (H4 q.1 head) = true ∧ R3 q F head (F0 (r8 q.2 F) q.1 head) = true := by
 unfold C0 at ht
 split at ht
 ·obtain ⟨h1, h2, h3⟩ := a8p (X9.1 ht)
  exact ⟨h1, a8g (a0k _ h2) h3⟩
 ·cases ht
theorem a7W {B B' : List (List Int × List Int)} (hF : ∀ f ∈ F, f ∈ F') (hB : ∀ b ∈ B, b ∈ B') : ∀ b ∈ B5 B a F, b ∈ B5 B' a F' := by
 intro b hb
 obtain ⟨b0, hb0, hb⟩ := List.mem_flatMap.1 hb
 obtain ⟨f, hf, rfl⟩ := List.mem_map.1 hb
 rw [List.mem_filter] at hf
 exact List.mem_flatMap.2 ⟨b0, hB b0 hb0, List.mem_map.2 ⟨f, List.mem_filter.2 ⟨hF f hf.1, hf.2⟩, rfl⟩⟩
theorem a3t (hF : ∀ f ∈ F, f ∈ F') : ∀ {l0 : List (Int × List Int)} {B B' : List (List Int × List Int)}, (∀ b ∈ B, b ∈ B') → ∀ b ∈ l0.foldl (fun l a => B5 l a F) B, b ∈ l0.foldl (fun l a => B5 l a F') B'
 | [], _, _, hB => hB
 | a :: l0, B, B', hB => a3t hF (l0 := l0) (a7W (a := a) hF hB)
theorem a6k (hF : ∀ f ∈ F, f ∈ F') : ∀ b ∈ r8 l0 F, b ∈ r8 l0 F' := a3t hF fun b hb => hb
theorem a7X (hF : ∀ f ∈ F, f ∈ F') (h' : C9 s F' = true) : ∀ t ∈ C0 s q F, t ∈ C0 s q F' := by
 intro t ht
 unfold C0 at ht ⊢
 split at ht
 ·rename_i h1
  rw [Bool.and_eq_true] at h1
  rw [if_pos (by rw [h1.1, h']; rfl)]
  obtain ⟨b, hb, e⟩ := X9.1 ht
  exact X9.2 ⟨b, a6k hF b hb, e⟩
 ·cases ht
end
end Go.Proofs.YtfnbilpemdgkkaaGreatDoor
