import Derived.Test.YthapcdhdfaibkaaGreatDoorHr
import Derived.Test.YthapcdhdfaibkaaGreatDoorEe
namespace Go.Proofs.YthapcdhdfaibkaaGreatDoor
set_option linter.unusedVariables false
set_option linter.unusedSimpArgs false
section
variable {s V W d6 : List Int} {l : List Mth} {d4 R : List Rul} {a8 F : List Fct} {u : UU} {g n k : Nat} {f y : Fct} {r : Rul} {a : Acs} {S : NoS} {x : Lin} {X Y : List Lin} {v : Int}
theorem a9Y (h : V0 d6 X v = true) : V0 d6 (X ++ Y) v = true := by
 simp only [V0, List.any_append, Bool.or_eq_true] at h ⊢
 rcases h with h | h
 ·exact .inl h
 ·exact .inr (.inl h)
def LG (s : List Int) (l : List Mth) (d4 : List Rul) (a8 : List Fct) (d6 : List Int) (X : List Lin) : Prop := ∀ g (h : g < X.length), V3 s l d4 a8 d6 (X.take g) X[g] = true
theorem b7B : LG s l d4 a8 d6 [] := fun g h => by cases h
theorem b6u (h : LG s l d4 a8 d6 X) (hx : V3 s l d4 a8 d6 X x = true) : LG s l d4 a8 d6 (X ++ [x]) := fun g hg => by
 rw [List.length_append, List.length_singleton] at hg
 by_cases e : g < X.length
 ·rw [List.take_append_of_le_length (by omega), List.getElem_append_left e]; exact h g e
 ·have e2 : g = X.length := by omega
  subst e2
  rw [List.take_left, List.getElem_append_right (Nat.le_refl _)]; simpa using hx
theorem b6n (h : LG s l d4 a8 d6 X) : LG s l d4 a8 d6 (X.take k) := fun g hg => by
 rw [List.length_take] at hg
 rw [List.take_take, Nat.min_eq_left (by omega), List.getElem_take]; exact h g (by omega)
theorem b4r (h : LG s l d4 a8 d6 X) : a1i s l d4 a8 d6 X 0 = true := by
 simp only [a1i, List.drop_zero, List.all_eq_true, List.mem_range]
 intro i hi
 have := h i hi
 simpa [List.getD, hi] using this
theorem b5B : ∀ {t : List Int}, (∀ v ∈ t, v ∈ V) → t ∈ o2 V t.length := by
 intro t
 suffices H : ∀ n (t : List Int), t.length = n → (∀ v ∈ t, v ∈ V) → t ∈ o2 V n from fun h => H _ t rfl h
 intro n
 induction n with
 | zero => intro t ht _; have := List.eq_nil_of_length_eq_zero ht; subst this; simp [o2]
 | succ n ih =>
  intro t ht h
  have hne : t ≠ [] := fun e => by subst e; simp at ht
  obtain ⟨z, b, rfl⟩ : ∃ z b, t = z ++ [b] := ⟨t.dropLast, t.getLast hne, (List.dropLast_concat_getLast hne).symm⟩
  simp only [List.length_append, List.length_singleton, Nat.add_right_cancel_iff] at ht
  simp only [o2, List.mem_flatMap, List.mem_map]
  exact ⟨z, ih z ht fun v hv => h v (by simp [hv]), b, h b (by simp), rfl⟩
theorem b4a (hm : B3 s l = true) (hV : O6 V = true) (hk : ∀ v ∈ V, V0 d6 X v = true) (ha : a4o l V a) (hf : f ∈ M5 l a8 a) : V3 s l d4 a8 d6 X (lnA a f) = true := by
 obtain ⟨i, hi, h1, h2, h3⟩ := ha
 have h4 := a5D _ h3
 have h5 := M4 _ h3
 have e : a.1.toNat = i := by omega
 have eA : atM l a.1 = l[i] := by rw [D0 (by omega)]; simp only [e]
 have hall : ∀ v ∈ a.2, V0 d6 X v = true := fun v hv => hk v (h4 v hv)
 have hv := a6Y fun v hv => (a0z hV).2 v (h4 v hv)
 have hany : (a.2.any fun v => !V0 d6 X v) = false := by
  rw [List.any_eq_false]; intro v hv; rw [hall v hv]; decide
 have hh : F3 (a8.filter (v7 (atM l a.1) a.2)) f = true := V8.2 hf
 have hi2 : inR a.1 0 ((l.length : Int) - 1) = true := decide_eq_true (by omega)
 show (if (-1 : Int) = -1 then R9 s l a8 (V0 d6 X) (lnA a f) else _) = true
 rw [if_pos rfl]
 simp only [R9, lnA, Y9, hm, hi2, hv, eA, h5, h2, decide_true, hany, Bool.true_and, Bool.not_false]
 rw [← eA]; exact hh
theorem b3Y (hr : B7 s d4 = true) (hF : ∀ z ∈ F, B9 s z = true) (hX : ∀ z ∈ F, ∃ x ∈ X, x.2.2 = z) (hf : f ∈ n9 d4 F) : V3 s l d4 a8 d6 X (lnR d4 F f) = true := by
 have hok := (a2I hr hF f hf).1
 have hg : ∃ r ∈ d4, a0W F f r = true := by
  have := a7Z (P := fun y => ∃ r ∈ d4, a0W F y r = true) (l := d4) (a8 := F) (fun r hr' z hz e _ => ⟨r, hr', List.any_eq_true.2 ⟨z, hz, by
   simp only [a2y, Bool.and_eq_true, decide_eq_true_eq]; exact ⟨e, a0y.2 rfl⟩⟩⟩)
  exact this f hf
 obtain ⟨r0, hr0, hg0⟩ := hg
 have hany : d4.any (a0W F f) = true := List.any_eq_true.2 ⟨r0, hr0, hg0⟩
 have hlt : d4.findIdx (a0W F f) < d4.length := List.findIdx_lt_length_of_exists ⟨r0, hr0, hg0⟩
 have hk : X4 d4 F f = ((d4.findIdx (a0W F f) : Nat) : Int) := by unfold X4 M6; rw [if_pos hany]
 have hgk : a0W F f d4[d4.findIdx (a0W F f)] = true := List.findIdx_getElem
 generalize d4.findIdx (a0W F f) = k at hlt hk hgk
 show (if X4 d4 F f = -1 then _ else R7 s d4 (X.any fun y => a3H s (atR d4 (X4 d4 F f)) f y.2.2) (lnR d4 F f)) = true
 rw [if_neg (by rw [hk]; omega)]
 have eA : atR d4 (X4 d4 F f) = d4[k] := by rw [hk, L8 (by simpa using hlt)]; simp
 have hi2 : inR (X4 d4 F f) 0 ((d4.length : Int) - 1) = true := decide_eq_true (by rw [hk]; omega)
 have hX2 : (X.any fun y => a3H s (atR d4 (X4 d4 F f)) f y.2.2) = true := by
  obtain ⟨z, hz, hb⟩ := List.any_eq_true.1 hgk
  obtain ⟨w, hw, rfl⟩ := hX z hz
  refine List.any_eq_true.2 ⟨w, hw, ?_⟩
  rw [eA]
  simp only [a2y, Bool.and_eq_true, decide_eq_true_eq] at hb
  have h4 := b1r ((X2 hr).2.2 _ (List.getElem_mem hlt)) (hF _ hz) hb.1
  simp only [a3H, a0L, a1a, h4, cond_true, hb.2, decide_true, Bool.and_self]
 rw [hX2]
 simp only [R7, lnR, hi2, hok, Bool.and_self]
theorem b6L (h : LG s l d4 a8 d6 S.2) (hx : V3 s l d4 a8 d6 S.2 x = true) : LG s l d4 a8 d6 (notU S x).2 := by
 unfold notU
 split
 ·exact h
 ·exact b6u h hx
theorem b1e : ∃ Y, (notU S x).2 = S.2 ++ Y := by
 unfold notU
 split
 ·exact ⟨[], by simp⟩
 ·exact ⟨[x], rfl⟩
theorem a4M : ∀ {xs : List Lin} {S : NoS}, ∃ Y, (notes S xs).2 = S.2 ++ Y
 | [], S => ⟨[], by simp [notes]⟩
 | x :: xs, S => by
  obtain ⟨A, hA⟩ := b1e (S := S) (x := x)
  obtain ⟨B, hB⟩ := a4M (xs := xs) (S := notU S x)
  exact ⟨A ++ B, by rw [show notes S (x :: xs) = notes (notU S x) xs from rfl, hB, hA, List.append_assoc]⟩
theorem a7Q : ∀ {xs : List Lin} {S : NoS}, LG s l d4 a8 d6 S.2 → (∀ x ∈ xs, ∀ Y, V3 s l d4 a8 d6 (S.2 ++ Y) x = true) → LG s l d4 a8 d6 (notes S xs).2
 | [], _, h, _ => h
 | x :: xs, S, h, hx => by
  obtain ⟨A, hA⟩ := b1e (S := S) (x := x)
  have h1 := hx x (by simp) []
  rw [List.append_nil] at h1
  exact a7Q (xs := xs) (b6L h h1) fun z hz Y => by rw [hA, List.append_assoc]; exact hx z (by simp [hz]) _
theorem b2A : ∀ {O : List Acs} {S : NoS}, LG s l d4 a8 d6 S.2 → (∀ a ∈ O, ∀ f ∈ M5 l a8 a, ∀ Y, V3 s l d4 a8 d6 (S.2 ++ Y) (lnA a f) = true) → LG s l d4 a8 d6 (rndA l a8 O S).2
 | [], _, h, _ => h
 | a :: O, S, h, hx => by
  obtain ⟨A, hA⟩ := a4M (S := S) (xs := (M5 l a8 a).map (lnA a))
  refine b2A (O := O) (a7Q h fun x hx' Y => ?_) fun b hb f hf Y => ?_
  ·obtain ⟨f, hf, rfl⟩ := List.mem_map.1 hx'
   exact hx a (by simp) f hf Y
  ·rw [hA, List.append_assoc]; exact hx b (by simp [hb]) f hf _
structure pInv (s : List Int) (l : List Mth) (d4 : List Rul) (a8 : List Fct) (d6 : List Int) (u : UU) : Prop where
 lg : LG s l d4 a8 d6 u.2.2.2
 kn : ∀ v ∈ u.2.1, V0 d6 u.2.2.2 v = true
theorem b4i (hm : B3 s l = true) (hr : B7 s d4 = true) (hf : a0t s a8) (h : uInv s u) (p : pInv s l d4 a8 d6 u) : pInv s l d4 a8 d6 (E8 l d4 a8 u) := by
 have hA : LG s l d4 a8 d6 (uA l a8 u).2 := b2A (S := (u.1, u.2.2.2)) p.lg fun a ha f hf' Y => b4a hm h.vals (fun v hv => a9Y (p.kn v hv)) (b6v ha) hf'
 have hAi := b1y hm hf h
 have hS : LG s l d4 a8 d6 (uS l d4 a8 u).2 := a7Q hA fun x hx Y => by
  obtain ⟨f, hf', rfl⟩ := List.mem_map.1 hx
  refine b3Y hr hAi.okF (fun z hz => ?_) hf'
  obtain ⟨w, hw, e⟩ := hAi.mem.1 hz
  exact ⟨w, by simp [hw], e⟩
 have hSi := b1m hm hr hf h
 have hpre : ∃ Y, (uS l d4 a8 u).2 = u.2.2.2 ++ Y := by
  obtain ⟨A, hA⟩ := a4M (S := uA l a8 u) (xs := uD l d4 a8 u)
  have hB : ∀ {O : List Acs} {S : NoS}, ∃ Y, (rndA l a8 O S).2 = S.2 ++ Y := by
   intro O
   induction O with
   | nil => intro S; exact ⟨[], by simp [rndA]⟩
   | cons a O ih =>
    intro S
    obtain ⟨B, hB⟩ := ih (S := notes S ((M5 l a8 a).map (lnA a)))
    obtain ⟨C, hC⟩ := a4M (S := S) (xs := (M5 l a8 a).map (lnA a))
    exact ⟨C ++ B, by rw [show rndA l a8 (a :: O) S = rndA l a8 O (notes S ((M5 l a8 a).map (lnA a))) from rfl, hB, hC, List.append_assoc]⟩
  obtain ⟨B, hB⟩ := hB (O := uO l u) (S := (u.1, u.2.2.2))
  exact ⟨B ++ A, by rw [show (uS l d4 a8 u).2 = (notes (uA l a8 u) (uD l d4 a8 u)).2 from rfl, hA, show (uA l a8 u).2 = u.2.2.2 ++ B from hB, List.append_assoc]⟩
 refine ⟨hS, fun v hv => ?_⟩
 rcases ((a8V (a0z h.vals).1).2 v).1 hv with hv | ⟨f, hf', hv⟩
 ·obtain ⟨Y, hY⟩ := hpre
  show V0 d6 (uS l d4 a8 u).2 v = true
  rw [hY]; exact a9Y (p.kn v hv)
 ·obtain ⟨w, hw, rfl⟩ := hSi.mem.1 hf'
  unfold V0; rw [Bool.or_eq_true]
  exact .inr (List.any_eq_true.2 ⟨w, hw, a2B.2 hv⟩)
theorem b0S (hm : B3 s l = true) (hr : B7 s d4 = true) (hf : a0t s a8) : ∀ n, pInv s l d4 a8 d6 (uIt l d4 a8 d6 n)
 | 0 => ⟨b7B, fun v hv => by
  have hv' : v ∈ H6 (d6.filter fun t => inR t 0 9) := hv
  simp only [a1s, List.mem_filter] at hv'
  unfold V0; rw [Bool.or_eq_true]
  exact .inl (a2B.2 hv'.1)⟩
 | n + 1 => b4i hm hr hf (a2z hm hr hf n) (b0S hm hr hf n)
theorem b5A (h : E7 s l d4 a8 = true) : pInv s l d4 a8 d6 (B2 l d4 a8 d6) := b0S (a0f h).1 (a0f h).2.1 (a0f h).2.2 6000
theorem b4W : B2 l d4 a8 d6 = uIt l d4 a8 d6 6000 := rfl
attribute [local irreducible] B2
theorem b1p (h : f ∈ D9 s l d4 a8 d6) : E7 s l d4 a8 = true ∧ f ∈ (B2 l d4 a8 d6).1 := by
 unfold D9 at h
 split at h
 ·rename_i e; exact ⟨e, h⟩
 ·cases h
theorem b7p (h : f ∈ D9 s l d4 a8 d6) : a0u s l d4 a8 d6 f = true ∧ a0r s l d4 a8 d6 f (N9 s l d4 a8 d6 f) = true := by
 obtain ⟨h1, h2⟩ := b1p h
 obtain ⟨hm, hr, hf⟩ := a0f h1
 have hu := a1S (d6 := d6) h1
 have hp : pInv s l d4 a8 d6 (B2 l d4 a8 d6) := b5A h1
 obtain ⟨x, hx, e⟩ := hu.n.mem.1 h2
 have hany : (B2 l d4 a8 d6).2.2.2.any (fun x => decide (J2 x.2.2 f = 0)) = true := List.any_eq_true.2 ⟨x, hx, decide_eq_true (a0y.2 e)⟩
 have hlt : (B2 l d4 a8 d6).2.2.2.findIdx (fun x => decide (J2 x.2.2 f = 0)) < (B2 l d4 a8 d6).2.2.2.length := List.findIdx_lt_length_of_exists ⟨x, hx, decide_eq_true (a0y.2 e)⟩
 have hk : a5L (B2 l d4 a8 d6).2.2.2 f = (((B2 l d4 a8 d6).2.2.2.findIdx (fun x => decide (J2 x.2.2 f = 0)) : Nat) : Int) := by unfold a5L M6; rw [if_pos hany]
 have hg := List.findIdx_getElem (w := hlt)
 obtain ⟨e1, e2⟩ := a1U h1 hk
 rw [← e1, ← e2]
 refine ⟨rfl, ?_⟩
 generalize (B2 l d4 a8 d6).2.2.2.findIdx (fun x => decide (J2 x.2.2 f = 0)) = k at hlt hg
 have hlen : ((B2 l d4 a8 d6).2.2.2.take (k + 1)).length = k + 1 := by rw [List.length_take]; omega
 have hl : a5W ((B2 l d4 a8 d6).2.2.2.take (k + 1)) f = true := by
  unfold a5W
  rw [hlen, Nat.add_sub_cancel, show ((B2 l d4 a8 d6).2.2.2.take (k + 1)).getD k b3f = (B2 l d4 a8 d6).2.2.2[k] from by
   rw [List.getD_eq_getElem?_getD, List.getElem?_eq_getElem (by omega), Option.getD_some, List.getElem_take]]
  exact hg
 have h3 : D7 s a8 = true := by have := h1; simp only [E7, Bool.and_eq_true] at this; exact this.2
 have hlen2 : decide (0 < ((B2 l d4 a8 d6).2.2.2.take (k + 1)).length) = true := decide_eq_true (by omega)
 unfold a0r
 rw [hm, hr, h3, hlen2, hl, b4r (b6n hp.lg)]; rfl
theorem b5E (h : a1i s l d4 a8 d6 X 0 = true) : LG s l d4 a8 d6 X := fun g hg => by
 simp only [a1i, List.drop_zero, List.all_eq_true, List.mem_range] at h
 have := h g hg
 simpa [List.getD, hg] using this
theorem b6Y (hm : B3 s l = true) (hr : B7 s d4 = true) (hX : Fx l d4 a8 d6 u) (hu : ∀ f ∈ u.1, B9 s f = true) (hY : ∀ x ∈ Y, x.2.2 ∈ u.1) (h : V3 s l d4 a8 d6 Y x = true) : x.2.2 ∈ u.1 := by
 unfold V3 at h
 split at h
 ·simp only [R9, Bool.and_eq_true, decide_eq_true_eq, Bool.not_eq_true', List.any_eq_false] at h
  obtain ⟨ha, h2, h3, h4⟩ := h
  obtain ⟨_, hi, hl, hv⟩ := a0w ha
  refine hX.call x.2.1 ⟨x.2.1.1.toNat, hi.2, by omega, by rw [← D0 hi.2]; exact h2, ?_⟩ _ (V8.1 h4)
  rw [← D0 hi.2, ← hl]
  refine b5B fun v hv' => ?_
  have hk : V0 d6 Y v = true := by have := h3 v hv'; simpa using this
  have hin := a2T hv v hv'
  simp only [V0, Bool.or_eq_true, List.any_eq_true] at hk
  rcases hk with hk | ⟨y, hy, hk⟩
  ·exact hX.seed v (a1s.2 (List.mem_filter.2 ⟨a2B.1 hk, decide_eq_true hin⟩))
  ·exact hX.val _ (hY y hy) v (a2B.1 hk)
 ·simp only [R7, Bool.and_eq_true, List.any_eq_true] at h
  obtain ⟨hi, _, y, hy, hb⟩ := h
  have h1 := a3A hi
  have hlt : x.1.toNat < d4.length := by omega
  rw [L8 hlt] at hb
  have hok := (X2 hr).2.2 _ (List.getElem_mem hlt)
  have hyF := hu _ (hY y hy)
  simp only [a3H, Bool.and_eq_true, decide_eq_true_eq] at hb
  have h4 := hb.1
  rw [a5j hok hyF, decide_eq_true_eq] at h4
  have h5 := hb.2
  simp only [a0L, a1a, hb.1, cond_true] at h5
  rw [← a0y.1 h5]
  exact b1M hX.rule (List.getElem_mem hlt) (hY y hy) h4
theorem b7T {lines : List Lin} (h : a0r s l d4 a8 d6 f lines = true) : f ∈ D9 s l d4 a8 d6 := by
 simp only [a0r, Bool.and_eq_true, decide_eq_true_eq] at h
 obtain ⟨⟨hm, hr⟩, hf, hlen, hl, hh⟩ := h
 have h1 : E7 s l d4 a8 = true := by simp only [E7, hm, hr, hf, Bool.and_self]
 have hX := b4H (d6 := d6) hm hr (a9n hf)
 have hu := a1S (d6 := d6) h1
 have hg := b5E hh
 have hall : ∀ g, g ≤ lines.length → ∀ x ∈ lines.take g, x.2.2 ∈ (B2 l d4 a8 d6).1 := by
  intro g
  induction g with
  | zero => intro _ x hx; simp at hx
  | succ g ih =>
   intro hle x hx
   rw [List.take_succ_eq_append_getElem (by omega)] at hx
   rcases List.mem_append.1 hx with hx | hx
   ·exact ih (by omega) x hx
   ·obtain rfl := List.mem_singleton.1 hx
    exact b6Y hm hr hX hu.n.okF (ih (by omega)) (hg g (by omega))
 have h2 := hall lines.length (Nat.le_refl _) _ (by rw [List.take_length]; exact List.getElem_mem (show lines.length - 1 < lines.length by omega))
 rw [F8 (by omega), decide_eq_true_eq] at hl
 rw [D9, if_pos h1, ← a0y.1 hl]; exact h2
theorem b7I (h1 : B7 s d4 = true) (hX : n9 d4 a8 = []) (h : f ∈ D9 s l d4 a8 d6) : f ∈ a8 := by
 obtain ⟨h2, h3⟩ := b1p h
 have hall : ∀ n, ∀ f ∈ (uIt l d4 a8 d6 n).1, f ∈ a8 := by
  intro n
  induction n with
  | zero => intro f hf; simp [uIt] at hf
  | succ n ih =>
   have hA : ∀ f ∈ (uA l a8 (uIt l d4 a8 d6 n)).1, f ∈ a8 := by
    intro f hf
    rcases (a5S (S := ((uIt l d4 a8 d6 n).1, (uIt l d4 a8 d6 n).2.2.2))).1 hf with hf | ⟨a, _, hf⟩
    ·exact ih f hf
    ·exact (List.mem_filter.1 hf).1
   intro f hf
   rcases b1N.1 hf with hf | hf
   ·exact hA f (a5S.2 hf)
   ·exact b6Z (fun r hr => hr) hA hX f hf
 rw [b4W] at h3; exact hall 6000 f h3
def a0l (s : List Int) (l : List Mth) (a8 : List Fct) : Nat → Rch → Rch
 | 0, r => r
 | n + 1, r => if H7 s l a8 r then a0l s l a8 n (C8 s l a8 r) else r
theorem b0i {q : Rch} (h : H7 s l a8 q = true) : a0l s l a8 (n + 1) q = a0l s l a8 n (C8 s l a8 q) := by rw [a0l, if_pos h]
theorem a6M {q : Rch} (h : H7 s l a8 q = false) : a0l s l a8 n q = q := by cases n <;> simp [a0l, h]
theorem a9N : ∀ {O : List Acs} {F : List Fct}, y ∈ O.foldl (U4 l a8) F ↔ y ∈ F ∨ ∃ a ∈ O, y ∈ M5 l a8 a
 | [], F => by simp
 | a :: O, F => by
  rw [List.foldl_cons, a9N (O := O), U4, a3y]
  simp only [List.mem_cons, exists_eq_or_imp, or_assoc]
theorem b7Z (hV : V.Pairwise (· < ·)) (h : ∀ v ∈ V, v ∈ W) {m : List Fct} (hm : ∀ f ∈ m, ∀ v ∈ f.2, v ∈ W) : (m.foldl pvI V).Pairwise (· < ·) ∧ ∀ v ∈ m.foldl pvI V, v ∈ W := by
 have h1 := a8V (m := m) hV
 refine ⟨h1.1, fun v hv => ?_⟩
 rcases (h1.2 v).1 hv with hv | ⟨f, hf, hv⟩
 ·exact h v hv
 ·exact hm f hf v hv
theorem b2F : ∀ {O : List Acs} {V : List Int}, V.Pairwise (· < ·) → (∀ v ∈ V, v ∈ W) → (∀ a ∈ O, ∀ f ∈ M5 l a8 a, ∀ v ∈ f.2, v ∈ W) → (O.foldl (U3 l a8) V).Pairwise (· < ·) ∧ ∀ v ∈ O.foldl (U3 l a8) V, v ∈ W
 | [], _, h0, h, _ => ⟨h0, h⟩
 | a :: O, V, h0, h, hO => by
  have h1 := b7Z h0 h (hO a (by simp))
  exact b2F (O := O) (V := U3 l a8 V a) h1.1 h1.2 fun b hb => hO b (by simp [hb])
theorem b4Z (hX : Fx l d4 a8 d6 u) {q : Rch} (h0 : q.2.1.Pairwise (· < ·)) (h1 : ∀ f ∈ q.1, f ∈ u.1) (h2 : ∀ v ∈ q.2.1, v ∈ u.2.1) : (∀ f ∈ (M7 l a8 q).1, f ∈ u.1) ∧ (M7 l a8 q).2.1.Pairwise (· < ·) ∧ ∀ v ∈ (M7 l a8 q).2.1, v ∈ u.2.1 := by
 have hc : ∀ a ∈ O0 l q, ∀ f ∈ M5 l a8 a, f ∈ u.1 := fun a ha => by
  obtain ⟨k, hk, e1, e2, e3⟩ := a9k ha
  exact hX.call a (a4o.mono h2 ⟨k, hk, by omega, e2, e3⟩)
 refine ⟨fun f hf => ?_, b2F h0 h2 fun a ha f hf v hv => hX.val f (hc a ha f hf) v hv⟩
 rcases a9N.1 hf with hf | ⟨a, ha, hf⟩
 ·exact h1 f hf
 ·exact hc a ha f hf
theorem b2m (hX : Fx l d4 a8 d6 u) : ∀ {n : Nat} {q : Rch}, q.2.1.Pairwise (· < ·) → (∀ f ∈ q.1, f ∈ u.1) → (∀ v ∈ q.2.1, v ∈ u.2.1) → ∀ f ∈ (a0l s l a8 n q).1, f ∈ u.1
 | 0, q, _, h1, _ => h1
 | n + 1, q, h0, h1, h2 => by
  cases h : H7 s l a8 q with
  | false => rw [a6M h]; exact h1
  | true =>
   rw [b0i h]
   have h3 := b4Z hX h0 h1 h2
   rw [show C8 s l a8 q = M7 l a8 q from by simp only [H7, Bool.and_eq_true] at h; rw [C8, if_pos h.1]]
   exact b2m hX (n := n) h3.2.1 h3.1 h3.2.2
theorem b7O (h1 : B7 s d4 = true) (hm : B3 s l = true) : ∀ f ∈ (a0l s l a8 40 (x5 l a8 d6 0)).1, f ∈ D9 s l d4 a8 d6 := by
 intro f hf
 cases h2 : D7 s a8 with
 | false =>
  rw [a6M (by simp [H7, O7, h2])] at hf
  cases hf
 | true =>
  have h3 : E7 s l d4 a8 = true := by simp only [E7, hm, h1, h2, Bool.and_self]
  have hX := b4H (d6 := d6) hm h1 (a9n h2)
  rw [D9, if_pos h3]
  exact b2m hX (q := x5 l a8 d6 0) a2w (fun f hf => by cases hf) (fun v hv => hX.seed v hv) f hf
theorem b6r : (D9 s l d4 a8 d6).length ≤ 5324 := by
 unfold D9
 split
 ·rename_i h; exact (a1S (d6 := d6) h).n.len.2
 ·simp
theorem b2z : D4 V1 (N9 s l d4 a8 d6 f) ≤ 40000 ∧ (N9 s l d4 a8 d6 f).length ≤ 5324 := by
 unfold N9
 split
 ·rename_i h
  simp only [a0u, Bool.and_eq_true] at h
  have h1 := a1S (d6 := d6) h.1
  have h2 := h1.n.len.1
  have h3 := a8f (c := V1) (n := 6) (l := (B2 l d4 a8 d6).2.2.2.take ((a5L (B2 l d4 a8 d6).2.2.2 f).toNat + 1)) fun x hx => by
   have hx' := List.mem_of_mem_take hx
   have a1 := h1.n.acc x hx'
   have a2 := H3 (h1.n.ok x hx')
   show x.2.1.2.length + x.2.2.2.length ≤ 6
   omega
  have h4 := List.length_take_le' ((a5L (B2 l d4 a8 d6).2.2.2 f).toNat + 1) (B2 l d4 a8 d6).2.2.2
  have h5 : (B2 l d4 a8 d6).2.2.2.length ≤ 5324 := h2
  omega
 ·simp [D4]
theorem a5l : a0m V1 (N9 s l d4 a8 d6 f) ≤ 50000 ∧ (N9 s l d4 a8 d6 f).length ≤ 5324 := by
 have h := b2z (s := s) (l := l) (d4 := d4) (a8 := a8) (d6 := d6) (f := f)
 have e : a0m V1 (N9 s l d4 a8 d6 f) = (N9 s l d4 a8 d6 f).length + D4 V1 (N9 s l d4 a8 d6 f) := rfl
 exact ⟨by omega, h.2⟩
theorem a7K : a0m V1 ((N9 s l d4 a8 d6 f).drop 1) ≤ 50000 ∧ ((N9 s l d4 a8 d6 f).drop 1).length ≤ 5324 := by
 have h := a5l (s := s) (l := l) (d4 := d4) (a8 := a8) (d6 := d6) (f := f)
 generalize N9 s l d4 a8 d6 f = Z at h ⊢
 cases Z with
 | nil => rw [List.drop_nil]; exact h
 | cons x X =>
  have e : a0m V1 (x :: X) = (X.length + 1) + (V1 x + D4 V1 X) := rfl
  have e2 : a0m V1 X = X.length + D4 V1 X := rfl
  have e3 : (x :: X).length = X.length + 1 := rfl
  show a0m V1 X ≤ 50000 ∧ X.length ≤ 5324
  omega
theorem b1z (h : g < (D9 s l d4 a8 d6).length) : a0u s l d4 a8 d6 (D9 s l d4 a8 d6)[g] = true ∧ a0r s l d4 a8 d6 (D9 s l d4 a8 d6)[g] (N9 s l d4 a8 d6 (D9 s l d4 a8 d6)[g]) = true := b7p (List.getElem_mem h)
theorem b7z (h : ((B7 s d4 && D7 s a8) && decide ((n9 d4 a8).length = 0)) = true) : ((D9 s l d4 a8 d6).all fun x => F3 a8 x) = true := by
 simp only [Bool.and_eq_true, decide_eq_true_eq] at h
 exact List.all_eq_true.2 fun f hf => V8.2 (b7I h.1.1 (List.eq_nil_of_length_eq_zero h.2) hf)
theorem b6M (h : ((B7 s d4 && D7 s a8) && decide ((n9 d4 a8).length = 0)) = true) (hm : B3 s l = true) : ((a0l s l a8 40 (x5 l a8 d6 0)).1.all fun x => F3 (D9 s l d4 a8 d6) x) = true := by
 simp only [Bool.and_eq_true, decide_eq_true_eq] at h
 exact List.all_eq_true.2 fun f hf => V8.2 (b7O h.1.1 hm f hf)
theorem b6F {lines : List Lin} (h : a0r s l d4 a8 d6 f lines = true) : F3 (D9 s l d4 a8 d6) f = true := V8.2 (b7T h)
def a7G (s : List Int) (l : List Mth) (a8 : List Fct) (d6 : List Int) (g : Nat) : Prop :=
 a0l s l a8 40 (x5 l a8 d6 0) = a0l s l a8 (40 - g) (x5 l a8 d6 g) ∧ rInv s l a8 g (x5 l a8 d6 g)
theorem b3N : a7G s l a8 d6 0 := ⟨rfl, b4s⟩
theorem a5p (hm : H7 s l a8 (x5 l a8 d6 g) = true) : C8 s l a8 (x5 l a8 d6 g) = x5 l a8 d6 (g + 1) := by
 simp only [H7, Bool.and_eq_true] at hm
 rw [C8, if_pos hm.1]; rfl
theorem b3L (h : a7G s l a8 d6 g) (hg : g < 40) (hm : H7 s l a8 (x5 l a8 d6 g) = true) : a7G s l a8 d6 (g + 1) := by
 refine ⟨?_, ?_⟩
 ·rw [h.1, show 40 - g = (40 - (g + 1)) + 1 by omega, b0i hm, a5p hm]
 ·simp only [H7, O7, Bool.and_eq_true] at hm
  exact b4u hm.1.1 hm.1.2.1 h.2
theorem a4G (h : a7G s l a8 d6 g) (hm : H7 s l a8 (x5 l a8 d6 g) = false) : x5 l a8 d6 g = a0l s l a8 40 (x5 l a8 d6 0) := by rw [h.1, a6M hm]
theorem a5T (h : a7G s l a8 d6 g) (hg : ¬ g < 40) : x5 l a8 d6 g = a0l s l a8 40 (x5 l a8 d6 0) := by
 rw [h.1, show 40 - g = 0 by omega]; rfl
theorem a5d (h : D7 s F = true) : F.length ≤ 24 ∧ ∀ f ∈ F, f.2.length ≤ 4 := ⟨(J5 h).1, fun f hf => Nat.le_trans (H3 ((J5 h).2 f hf)) (by decide)⟩
theorem a4a (h : (↑F.length : Int) ≤ 5 ∧ ∀ f ∈ F, 1 ≤ f.2.length ∧ f.2.length ≤ 3) : F.length ≤ 24 ∧ ∀ f ∈ F, f.2.length ≤ 4 := ⟨by omega, fun f hf => by have := (h.2 f hf).2; omega⟩
end
end Go.Proofs.YthapcdhdfaibkaaGreatDoor
