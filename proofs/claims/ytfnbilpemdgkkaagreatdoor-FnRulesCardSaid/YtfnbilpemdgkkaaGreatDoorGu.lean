import Derived.Test.YtfnbilpemdgkkaaGreatDoorDy
namespace Go.Proofs.YtfnbilpemdgkkaaGreatDoor
set_option linter.unusedVariables false
set_option linter.unusedSimpArgs false
section
variable {x b : List Int × List Int} {t u v : Int} {h head : List Int} {s : List Int} {q : List Int × List (Int × List Int)} {F F' : List (Int × List Int)} {v7 : List (Int × List Int)} {a f : Int × List Int}
theorem a5k : ∀ {l : List Int} {u : Int}, u ∈ l → ∃ g, ∃ hg : g < l.length, l[g] = u ∧ ∀ y ∈ l.take g, decide (y = u) = false
 | [], _, h => by cases h
 | z :: l, u, h => by
  by_cases e : z = u
  ·exact ⟨0, by simp, e, by simp⟩
  ·rcases List.mem_cons.1 h with h | h
   ·exact absurd h.symm e
   ·obtain ⟨g, hg, h1, h2⟩ := a5k h
    refine ⟨g + 1, by simp; omega, by simpa using h1, fun y hy => ?_⟩
    rw [List.take_succ_cons] at hy
    rcases List.mem_cons.1 hy with hy | hy
    ·rw [hy]; exact decide_eq_false e
    ·exact h2 y hy
theorem a8b (h : x.1.length = x.2.length) : unb x u = false ↔ u ∈ x.1 := by
 rw [unb, ← h, Nat.min_self, List.take_length]
 simp
def bd (x : List Int × List Int) (u : Int) : Prop := inR u 10 17 = false ∨ u ∈ x.1
theorem a5g (h : x.1.length = x.2.length) (hu : bd x u) : C9 (J2 x t v) u = C9 x u := by
 cases hc : inR t 10 17 && unb x t with
 | false => rw [a6S hc]
 | true =>
  rw [a4z hc]
  rcases hu with hu | hu
  ·rw [← Q6 hu, ← Q6 hu]
  ·cases hr : inR u 10 17 with
   | false => rw [← Q6 hr, ← Q6 hr]
   | true =>
    obtain ⟨g, hg, h1, h2⟩ := a5k hu
    have e1 := a1W (b := x) hr hg (by omega) h1 h2
    have e2 := a1W (b := (x.1 ++ [t], x.2 ++ [v])) (g := g) hr (by simp; omega) (by simp; omega) (by simp [List.getElem_append_left hg, h1]) (by
     intro y hy
     simp only [List.take_append_of_le_length (Nat.le_of_lt hg)] at hy
     exact h2 y hy)
    rw [← e1, ← e2]
    simp [List.getElem_append_left (show g < x.2.length by omega)]
theorem a8a (hu : bd x u) : bd (J2 x t v) u := by
 unfold J2
 split
 ·rcases hu with hu | hu
  ·exact .inl hu
  ·exact .inr (by simp [hu])
 ·exact hu
theorem b2M (h : x.1.length = x.2.length) : bd (J2 x t v) t := by
 cases hr : inR t 10 17 with
 | false => exact .inl hr
 | true =>
  cases hu : unb x t with
  | true => rw [a4z (by rw [hr, hu]; rfl)]; exact .inr (by simp)
  | false => rw [a6S (by rw [hr, hu]; rfl)]; exact .inr ((a8b h).1 hu)
theorem a3u : ∀ {l : List (Int × Int)} {x : List Int × List Int} {u : Int}, bd x u → bd (Q5 x l) u
 | [], _, _, h => h
 | p :: l, x, u, h => a3u (l := l) (a8a h)
theorem a1U : ∀ {l : List (Int × Int)} {x : List Int × List Int} {u : Int}, x.1.length = x.2.length → bd x u → C9 (Q5 x l) u = C9 x u
 | [], _, _, _, _ => rfl
 | p :: l, x, u, h, hu => (a1U (l := l) (a1r h) (a8a hu)).trans (a5g h hu)
theorem a5E : ∀ {l : List (Int × Int)} {x : List Int × List Int}, x.1.length = x.2.length → okV x l = true → ∀ p ∈ l, C9 (Q5 x l) p.1 = p.2 ∧ bd (Q5 x l) p.1
 | [], _, _, _, p, hp => by cases hp
 | q :: l, x, h, hk, p, hp => by
  simp only [okV, Bool.and_eq_true, decide_eq_true_eq] at hk
  rcases List.mem_cons.1 hp with hp | hp
  ·subst hp
   have hb : bd (J2 x p.1 p.2) p.1 := b2M h
   exact ⟨(a1U (l := l) (a1r h) hb).trans hk.1, a3u (l := l) hb⟩
  ·exact a5E (l := l) (a1r h) hk.2 p hp
theorem a5n (hm : a2l b a f = true) : (R4 b a f).1.length = (R4 b a f).2.length ∧ N6 a (R4 b a f) = f ∧ (∀ t ∈ a.2, bd (R4 b a f) t) ∧ ∀ u, bd b u → C9 (R4 b a f) u = C9 b u ∧ bd (R4 b a f) u := by
 simp only [a2l, Bool.and_eq_true, decide_eq_true_eq] at hm
 obtain ⟨h1, h2, h3, h4⟩ := hm
 have hv := a5E h3 h4
 have hz : ∀ i (hi : i < a.2.length), (a.2[i], f.2[i]'(by omega)) ∈ a.2.zip f.2 := fun i hi => by
  have : (a.2.zip f.2)[i]'(by simp; omega) = (a.2[i], f.2[i]'(by omega)) := by simp
  rw [← this]; exact List.getElem_mem _
 refine ⟨a6g h3, ?_, ?_, fun u hu => ⟨a1U h3 hu, a3u hu⟩⟩
 ·unfold N6
  refine Prod.ext h1 (List.ext_getElem (by simpa using h2) fun i hi hi' => ?_)
  simp only [List.length_map] at hi
  rw [List.getElem_map]
  exact (hv _ (hz i hi)).1
 ·intro t ht
  obtain ⟨i, hi, rfl⟩ := List.getElem_of_mem ht
  exact (hv _ (hz i hi)).2
def MOk (A F : List (Int × List Int)) (b : List Int × List Int) : Prop := b.1.length = b.2.length ∧ ∀ a ∈ A, N6 a b ∈ F ∧ ∀ t ∈ a.2, bd b t
theorem a7u {b b' : List Int × List Int} (h : ∀ t ∈ a.2, C9 b' t = C9 b t) : N6 a b' = N6 a b := by
 unfold N6
 rw [List.map_congr_left h]
theorem b2B {A : List (Int × List Int)} {B : List (List Int × List Int)} (hB : ∀ b ∈ B, MOk A F b) : ∀ b ∈ a0F B a F, MOk (A ++ [a]) F b := by
 intro b hb
 obtain ⟨b0, hb0, hb⟩ := List.mem_flatMap.1 hb
 obtain ⟨f, hf, rfl⟩ := List.mem_map.1 hb
 rw [List.mem_filter] at hf
 obtain ⟨m1, m2, m3, m4⟩ := a5n hf.2
 refine ⟨m1, fun c hc => ?_⟩
 rcases List.mem_append.1 hc with hc | hc
 ·obtain ⟨k1, k2⟩ := (hB b0 hb0).2 c hc
  exact ⟨by rw [a7u fun t ht => (m4 t (k2 t ht)).1]; exact k1, fun t ht => (m4 t (k2 t ht)).2⟩
 ·rw [List.mem_singleton] at hc
  subst hc
  exact ⟨by rw [m2]; exact hf.1, m3⟩
theorem a6v : ∀ {v7 A : List (Int × List Int)} {B : List (List Int × List Int)}, (∀ b ∈ B, MOk A F b) → ∀ b ∈ v7.foldl (fun l a => a0F l a F) B, MOk (A ++ v7) F b
 | [], A, B, hB, b, hb => by simpa using hB b hb
 | a :: v7, A, B, hB, b, hb => by
  have := a6v (v7 := v7) (b2B (a := a) hB) b hb
  simpa using this
theorem a9k : ∀ b ∈ H3 v7 F, MOk v7 F b := by
 have := a6v (F := F) (v7 := v7) (A := []) (B := [([], [])]) fun b hb => by
  rw [List.mem_singleton] at hb; subst hb; exact ⟨rfl, fun a ha => by cases ha⟩
 simpa [H3] using this
end
end Go.Proofs.YtfnbilpemdgkkaaGreatDoor
