import Derived.Test.YtlfhopooaejpfaaGreatDz
section
namespace Go.Proofs.YtlfhopooaejpfaaGreat
set_option linter.unusedVariables false
set_option linter.unusedSimpArgs false
def a9l (h head : List Int) (b : List Int × List Int) : Bool := decide (h.map (B1 b) = head)
def b1R (l : List (List Int × List Int)) (h head : List Int) : List Int × List Int := (l.find? (a9l h head)).getD ([], [])
def xF (p q : List (Int × List Int)) : List (Int × List Int) := p ++ (B7 (fun t => inR t 0 9) q).map fun c => ((3 : Int), [c])
theorem a1f {is : Int → Bool} {l : List (Int × List Int)} {x : Int} : x ∈ B7 is l ↔ x ∈ l.flatMap (fun a => a.2) ∧ is x = true := by
 unfold B7
 rw [a4e, List.mem_filter]
theorem b6C {p q : List (Int × List Int)} : ∀ x ∈ [B7 (fun t => inR t 0 9) p, B7 (fun t => inR t 0 9) q].flatten, 0 ≤ x ∧ x ≤ 9 := by
 intro x hx
 simp only [List.flatten_cons, List.flatten_nil, List.append_nil, List.mem_append] at hx
 rcases hx with h | h <;> exact b5H x h
def a9W (p q : List Int × List (Int × List Int)) : Bool :=
 decide (p.1.length = q.1.length) && (fzB [B7 (fun t => inR t 0 9) p.2, B7 (fun t => inR t 0 9) q.2].flatten p.2 &&
  (J8 q.2 (fzF [B7 (fun t => inR t 0 9) p.2, B7 (fun t => inR t 0 9) q.2].flatten p.2)).any (a9l q.1 (p.1.map (B1 (fzV [B7 (fun t => inR t 0 9) p.2, B7 (fun t => inR t 0 9) q.2].flatten p.2, fzX [B7 (fun t => inR t 0 9) p.2, B7 (fun t => inR t 0 9) q.2].flatten p.2)))))
def a0d (s : List Int) (p q : List Int × List (Int × List Int)) : Bool := z8 s p && (z8 s q && a9W p q)
def b9Q (l : List (List Int)) : Nat := (l.map List.length).sum
end Go.Proofs.YtlfhopooaejpfaaGreat
end
section
namespace Go.Proofs.YtlfhopooaejpfaaGreat
def N7 {α : Type} (l : List α) (i : Int) : List α := if inR i 0 ((l.length : Int) - 1) then l.take i.toNat ++ l.drop (i + 1).toNat else l
theorem a8n {α : Type} {l : List α} {i : Int} : (N7 l i).length ≤ l.length := by
 unfold N7
 split
 ·simp; omega
 ·exact Nat.le_refl _
theorem a8r {α : Type} {l : List α} {i : Int} {x : α} (h : x ∈ N7 l i) : x ∈ l := by
 unfold N7 at h
 split at h
 ·rw [List.mem_append] at h
  rcases h with h | h
  ·exact List.mem_of_mem_take h
  ·exact List.mem_of_mem_drop h
 ·exact h
theorem a8g {α : Type} {t : α → Nat} {l : List α} {i : Int} : C7 t (N7 l i) ≤ C7 t l := by
 unfold N7 inR
 split
 ·rename_i h
  rw [decide_eq_true_eq] at h
  have e : C7 t l = C7 t (l.take i.toNat) + C7 t (l.drop i.toNat) := by
   rw [C7, C7, C7, ← List.sum_append, ← List.map_append, List.take_append_drop]
  have e2 : C7 t (l.drop i.toNat) = t (l[i.toNat]'(by omega)) + C7 t (l.drop (i.toNat + 1)) := by
   rw [List.drop_eq_getElem_cons (show i.toNat < l.length by omega)]; simp only [C7, List.map_cons, List.sum_cons]
  have e3 : C7 t (l.take i.toNat ++ l.drop (i + 1).toNat) = C7 t (l.take i.toNat) + C7 t (l.drop (i + 1).toNat) := by
   rw [C7, C7, C7, List.map_append, List.sum_append]
  rw [show (i + 1).toNat = i.toNat + 1 by omega] at *
  omega
 ·exact Nat.le_refl _
end Go.Proofs.YtlfhopooaejpfaaGreat
end
section
namespace Go.Proofs.YtlfhopooaejpfaaGreat
def b7A (s : List Int) (u : List (List Int × List (Int × List Int))) (q : List Int × List (Int × List Int)) : Bool := u.any (a0d s q)
def b7v (s : List Int) (u : List (List Int × List (Int × List Int))) (q : List Int × List (Int × List Int)) : Bool := !b7A s u q
def b6E (s : List Int) (a b : List (List Int × List (Int × List Int))) : Bool := !a.any (b7v s b)
def b9w (s : List Int) (a b : List (List Int × List (Int × List Int))) : Bool := a7H s a && (a7H s b && (b6E s a b && b6E s b a))
end Go.Proofs.YtlfhopooaejpfaaGreat
end
section
namespace Go.Proofs.YtlfhopooaejpfaaGreat
set_option linter.unusedVariables false
def a2O (s h : List Int) (a : List (Int × List Int) × Nat) : List (Int × List Int) × Nat :=
 if a.2 < a.1.length then (if a0d s (h, N7 a.1 a.2) (h, a.1) then (N7 a.1 a.2, a.2) else (a.1, a.2 + 1)) else a
def E1 (s h : List Int) (l : List (Int × List Int)) : Nat → List (Int × List Int) × Nat
 | 0 => (l, 0)
 | n + 1 => a2O s h (E1 s h l n)
theorem b2d {α : Type} {l : List α} {i : Nat} (h : i < l.length) : (N7 l i).length + 1 = l.length := by
 unfold N7 inR
 rw [if_pos (by rw [decide_eq_true_eq]; omega)]
 simp; omega
theorem b3q {s h : List Int} {l : List (Int × List Int)} {n : Nat} (h1 : (E1 s h l n).2 < (E1 s h l n).1.length) (h2 : a0d s (h, N7 (E1 s h l n).1 (E1 s h l n).2) (h, (E1 s h l n).1) = true) : E1 s h l (n + 1) = (N7 (E1 s h l n).1 (E1 s h l n).2, (E1 s h l n).2) := by
 rw [E1, a2O, if_pos h1, if_pos h2]
theorem b3R {s h : List Int} {l : List (Int × List Int)} {n : Nat} (h1 : (E1 s h l n).2 < (E1 s h l n).1.length) (h2 : a0d s (h, N7 (E1 s h l n).1 (E1 s h l n).2) (h, (E1 s h l n).1) = false) : E1 s h l (n + 1) = ((E1 s h l n).1, (E1 s h l n).2 + 1) := by
 rw [E1, a2O, if_pos h1, if_neg (by simp [h2])]
theorem a6L {s h : List Int} {l : List (Int × List Int)} {n : Nat} (h1 : ¬ (E1 s h l n).2 < (E1 s h l n).1.length) : ∀ k, E1 s h l (n + k) = E1 s h l n
 | 0 => rfl
 | k + 1 => by
  show a2O s h (E1 s h l (n + k)) = _
  rw [a6L h1 k, a2O, if_neg h1]
def a2M (s h : List Int) (l : List (Int × List Int)) (n : Nat) : Prop := (E1 s h l n).2 ≤ (E1 s h l n).1.length ∧ (E1 s h l n).1.length - (E1 s h l n).2 + n = l.length ∧ ∀ a ∈ (E1 s h l n).1, a ∈ l
theorem b2a {s h : List Int} {l : List (Int × List Int)} : a2M s h l 0 := ⟨Nat.zero_le _, by simp [E1], fun a ha => ha⟩
theorem b3m {s h : List Int} {l : List (Int × List Int)} {n : Nat} (hi : a2M s h l n) (h1 : (E1 s h l n).2 < (E1 s h l n).1.length) (h2 : a0d s (h, N7 (E1 s h l n).1 (E1 s h l n).2) (h, (E1 s h l n).1) = true) : a2M s h l (n + 1) := by
 obtain ⟨a, b, c⟩ := hi
 have h3 := b2d h1
 unfold a2M
 rw [b3q h1 h2]
 exact ⟨by show _ ≤ (N7 _ _).length; omega, by show (N7 _ _).length - _ + _ = _; omega, fun x hx => c x (a8r hx)⟩
theorem b4s {s h : List Int} {l : List (Int × List Int)} {n : Nat} (hi : a2M s h l n) (h1 : (E1 s h l n).2 < (E1 s h l n).1.length) (h2 : a0d s (h, N7 (E1 s h l n).1 (E1 s h l n).2) (h, (E1 s h l n).1) = false) : a2M s h l (n + 1) := by
 obtain ⟨a, b, c⟩ := hi
 unfold a2M
 rw [b3R h1 h2]
 exact ⟨h1, by show (E1 s h l n).1.length - ((E1 s h l n).2 + 1) + (n + 1) = _; omega, c⟩
def U4 (s : List Int) (h : List Int) (l : List (Int × List Int)) : List (Int × List Int) := if z8 s (h, l) then (E1 s h l l.length).1 else l
theorem a6Q {l : List (Int × List Int)} {i : Int} : O5 (fun x => x.2.length) (N7 l i) ≤ O5 (fun x => x.2.length) l := by
 have h1 := a8g (t := fun x : Int × List Int => x.2.length) (l := l) (i := i)
 have h2 := a8n (l := l) (i := i)
 unfold O5; omega
theorem a8e {s h : List Int} {l : List (Int × List Int)} : ∀ {n : Nat}, O5 (fun x => x.2.length) (E1 s h l n).1 ≤ O5 (fun x => x.2.length) l ∧ C7 X0 (E1 s h l n).1 ≤ C7 X0 l
 | 0 => ⟨Nat.le_refl _, Nat.le_refl _⟩
 | n + 1 => by
  have ih := a8e (s := s) (h := h) (l := l) (n := n)
  have h1 := a6Q (l := (E1 s h l n).1) (i := (E1 s h l n).2)
  have h2 := a8g (t := X0) (l := (E1 s h l n).1) (i := (E1 s h l n).2)
  rw [E1, a2O]
  split
  ·split
   ·exact ⟨Nat.le_trans h1 ih.1, Nat.le_trans h2 ih.2⟩
   ·exact ih
  ·exact ih
end Go.Proofs.YtlfhopooaejpfaaGreat
end
section
namespace Go.Proofs.YtlfhopooaejpfaaGreat
set_option linter.unusedVariables false
set_option linter.unusedSimpArgs false
section
variable {x b : List Int × List Int} {t u v : Int} {h head : List Int} {s : List Int} {q : List Int × List (Int × List Int)} {F F' : List (Int × List Int)} {d8 : List (Int × List Int)} {a f : Int × List Int}
theorem a8o : ∀ {l : List Int} {u : Int}, u ∈ l → ∃ g, ∃ hg : g < l.length, l[g] = u ∧ ∀ y ∈ l.take g, decide (y = u) = false
 | [], _, h => by cases h
 | z :: l, u, h => by
  by_cases e : z = u
  ·exact ⟨0, by simp, e, by simp⟩
  ·rcases List.mem_cons.1 h with h | h
   ·exact absurd h.symm e
   ·obtain ⟨g, hg, h1, h2⟩ := a8o h
    refine ⟨g + 1, by simp; omega, by simpa using h1, fun y hy => ?_⟩
    rw [List.take_succ_cons] at hy
    rcases List.mem_cons.1 hy with hy | hy
    ·rw [hy]; exact decide_eq_false e
    ·exact h2 y hy
theorem b0P (h : x.1.length = x.2.length) : unb x u = false ↔ u ∈ x.1 := by
 rw [unb, ← h, Nat.min_self, List.take_length]
 simp
def bd (x : List Int × List Int) (u : Int) : Prop := inR u 10 17 = false ∨ u ∈ x.1
theorem a8s (h : x.1.length = x.2.length) (hu : bd x u) : B1 (D5 x t v) u = B1 x u := by
 cases hc : inR t 10 17 && unb x t with
 | false => rw [a6E hc]
 | true =>
  rw [a5p hc]
  rcases hu with hu | hu
  ·rw [← P8 hu, ← P8 hu]
  ·cases hr : inR u 10 17 with
   | false => rw [← P8 hr, ← P8 hr]
   | true =>
    obtain ⟨g, hg, h1, h2⟩ := a8o hu
    have e1 := a2w (b := x) hr hg (by omega) h1 h2
    have e2 := a2w (b := (x.1 ++ [t], x.2 ++ [v])) (g := g) hr (by simp; omega) (by simp; omega) (by simp [List.getElem_append_left hg, h1]) (by
     intro y hy
     simp only [List.take_append_of_le_length (Nat.le_of_lt hg)] at hy
     exact h2 y hy)
    rw [← e1, ← e2]
    simp [List.getElem_append_left (show g < x.2.length by omega)]
theorem b1C (hu : bd x u) : bd (D5 x t v) u := by
 unfold D5
 split
 ·rcases hu with hu | hu
  ·exact .inl hu
  ·exact .inr (by simp [hu])
 ·exact hu
theorem b5T (h : x.1.length = x.2.length) : bd (D5 x t v) t := by
 cases hr : inR t 10 17 with
 | false => exact .inl hr
 | true =>
  cases hu : unb x t with
  | true => rw [a5p (by rw [hr, hu]; rfl)]; exact .inr (by simp)
  | false => rw [a6E (by rw [hr, hu]; rfl)]; exact .inr ((b0P h).1 hu)
theorem a5N : ∀ {l : List (Int × Int)} {x : List Int × List Int} {u : Int}, bd x u → bd (C3 x l) u
 | [], _, _, h => h
 | p :: l, x, u, h => a5N (l := l) (b1C h)
theorem a4f : ∀ {l : List (Int × Int)} {x : List Int × List Int} {u : Int}, x.1.length = x.2.length → bd x u → B1 (C3 x l) u = B1 x u
 | [], _, _, _, _ => rfl
 | p :: l, x, u, h, hu => (a4f (l := l) (a2m h) (b1C hu)).trans (a8s h hu)
theorem a8i : ∀ {l : List (Int × Int)} {x : List Int × List Int}, x.1.length = x.2.length → okV x l = true → ∀ p ∈ l, B1 (C3 x l) p.1 = p.2 ∧ bd (C3 x l) p.1
 | [], _, _, _, p, hp => by cases hp
 | q :: l, x, h, hk, p, hp => by
  simp only [okV, Bool.and_eq_true, decide_eq_true_eq] at hk
  rcases List.mem_cons.1 hp with hp | hp
  ·subst hp
   have hb : bd (D5 x p.1 p.2) p.1 := b5T h
   exact ⟨(a4f (l := l) (a2m h) hb).trans hk.1, a5N (l := l) hb⟩
  ·exact a8i (l := l) (a2m h) hk.2 p hp
theorem a4O (hm : r8 b a f = true) : (s9 b a f).1.length = (s9 b a f).2.length ∧ X5 a (s9 b a f) = f ∧ (∀ t ∈ a.2, bd (s9 b a f) t) ∧ ∀ u, bd b u → B1 (s9 b a f) u = B1 b u ∧ bd (s9 b a f) u := by
 simp only [r8, Bool.and_eq_true, decide_eq_true_eq] at hm
 obtain ⟨h1, h2, h3, h4⟩ := hm
 have hv := a8i h3 h4
 have hz : ∀ i (hi : i < a.2.length), (a.2[i], f.2[i]'(by omega)) ∈ a.2.zip f.2 := fun i hi => by
  have : (a.2.zip f.2)[i]'(by simp; omega) = (a.2[i], f.2[i]'(by omega)) := by simp
  rw [← this]; exact List.getElem_mem _
 refine ⟨a3W h3, ?_, ?_, fun u hu => ⟨a4f h3 hu, a5N hu⟩⟩
 ·unfold X5
  refine Prod.ext h1 (List.ext_getElem (by simpa using h2) fun i hi hi' => ?_)
  simp only [List.length_map] at hi
  rw [List.getElem_map]
  exact (hv _ (hz i hi)).1
 ·intro t ht
  obtain ⟨i, hi, rfl⟩ := List.getElem_of_mem ht
  exact (hv _ (hz i hi)).2
def MOk (A F : List (Int × List Int)) (b : List Int × List Int) : Prop := b.1.length = b.2.length ∧ ∀ a ∈ A, X5 a b ∈ F ∧ ∀ t ∈ a.2, bd b t
theorem b0I {b b' : List Int × List Int} (h : ∀ t ∈ a.2, B1 b' t = B1 b t) : X5 a b' = X5 a b := by
 unfold X5
 rw [List.map_congr_left h]
theorem b1G {A : List (Int × List Int)} {B : List (List Int × List Int)} (hB : ∀ b ∈ B, MOk A F b) : ∀ b ∈ E5 B a F, MOk (A ++ [a]) F b := by
 intro b hb
 obtain ⟨b0, hb0, hb⟩ := List.mem_flatMap.1 hb
 obtain ⟨f, hf, rfl⟩ := List.mem_map.1 hb
 rw [List.mem_filter] at hf
 obtain ⟨m1, m2, m3, m4⟩ := a4O hf.2
 refine ⟨m1, fun c hc => ?_⟩
 rcases List.mem_append.1 hc with hc | hc
 ·obtain ⟨k1, k2⟩ := (hB b0 hb0).2 c hc
  exact ⟨by rw [b0I fun t ht => (m4 t (k2 t ht)).1]; exact k1, fun t ht => (m4 t (k2 t ht)).2⟩
 ·rw [List.mem_singleton] at hc
  subst hc
  exact ⟨by rw [m2]; exact hf.1, m3⟩
theorem b0x : ∀ {d8 A : List (Int × List Int)} {B : List (List Int × List Int)}, (∀ b ∈ B, MOk A F b) → ∀ b ∈ d8.foldl (fun l a => E5 l a F) B, MOk (A ++ d8) F b
 | [], A, B, hB, b, hb => by simpa using hB b hb
 | a :: d8, A, B, hB, b, hb => by
  have := b0x (d8 := d8) (b1G (a := a) hB) b hb
  simpa using this
theorem a5b : ∀ b ∈ J8 d8 F, MOk d8 F b := by
 have := b0x (F := F) (d8 := d8) (A := []) (B := [([], [])]) fun b hb => by
  rw [List.mem_singleton] at hb; subst hb; exact ⟨rfl, fun a ha => by cases ha⟩
 simpa [J8] using this
theorem a9O {l : List (List Int)} {t : List Int} : N3 l t = true ↔ t ∈ l := by
 unfold N3
 rw [List.any_eq_true]
 constructor
 ·rintro ⟨y, hy, e⟩; rw [decide_eq_true_eq] at e; exact e ▸ hy
 ·exact fun h => ⟨t, h, by simp⟩
theorem b3H {l : List (List Int)} {t y : List Int} : y ∈ K0 l t ↔ y ∈ l ∨ y = t := by
 constructor
 ·exact a2t
 ·intro h
  unfold K0 P4
  by_cases h1 : N3 l t = true
  ·rw [if_pos h1]
   rcases h with h | h
   ·exact h
   ·rw [h]; exact a9O.1 h1
  ·rw [if_neg h1]
   split
   ·rename_i h2
    rcases h with h | h
    ·exact a6r h
    ·rw [h]; exact a4P h2
   ·rcases h with h | h <;> simp [h]
theorem a4I {h t : List Int} : ∀ {l : List (List Int × List Int)} {out : List (List Int)}, t ∈ l.foldl (fun out b => K0 out (h.map (B1 b))) out ↔ t ∈ out ∨ ∃ b ∈ l, h.map (B1 b) = t
 | [], out => by simp
 | b :: l, out => by
  rw [List.foldl_cons, a4I, b3H]
  constructor
  ·rintro ((h1 | h1) | ⟨c, hc, e⟩)
   ·exact .inl h1
   ·exact .inr ⟨b, by simp, h1.symm⟩
   ·exact .inr ⟨c, by simp [hc], e⟩
  ·rintro (h1 | ⟨c, hc, e⟩)
   ·exact .inl (.inl h1)
   ·rcases List.mem_cons.1 hc with hc | hc
    ·subst hc; exact .inl (.inr e.symm)
    ·exact .inr ⟨c, hc, e⟩
theorem a2k {h t : List Int} {l : List (List Int × List Int)} : t ∈ O4 h l ↔ ∃ b ∈ l, h.map (B1 b) = t := by
 rw [O4, a4I]; simp
theorem b4n {B B' : List (List Int × List Int)} (hF : ∀ f ∈ F, f ∈ F') (hB : ∀ b ∈ B, b ∈ B') : ∀ b ∈ E5 B a F, b ∈ E5 B' a F' := by
 intro b hb
 obtain ⟨b0, hb0, hb⟩ := List.mem_flatMap.1 hb
 obtain ⟨f, hf, rfl⟩ := List.mem_map.1 hb
 rw [List.mem_filter] at hf
 exact List.mem_flatMap.2 ⟨b0, hB b0 hb0, List.mem_map.2 ⟨f, List.mem_filter.2 ⟨hF f hf.1, hf.2⟩, rfl⟩⟩
end
end Go.Proofs.YtlfhopooaejpfaaGreat
end
