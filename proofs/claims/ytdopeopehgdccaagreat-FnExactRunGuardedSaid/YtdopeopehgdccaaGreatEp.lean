import Derived.Test.YtdopeopehgdccaaGreatBd
namespace Go.Proofs.YtdopeopehgdccaaGreat
set_option linter.unusedVariables false
set_option linter.unusedSimpArgs false
abbrev MT5 := Int × List Int × Int × Int × Int
abbrev AT2 := Int × List Int
abbrev GS := List (Int × Int) × List Bool × List Int
def a1x (a : AT2) (b : List Int) (i : Int) : Bool := !inR i 0 ((a.2.length : Int) - 1) || (inR (at0 a.2 i) 10 17 && !H9 b (at0 a.2 i))
def N5 (m : MT5) (a : AT2) (b : List Int) : Bool := decide (m.1 = a.1) && !m.2.1.any (a1x a b)
def F1 (l : List MT5) (a : AT2) (b : List Int) : Int := H0 (fun m => N5 m a b) l
def G3 (l : List MT5) (b : List Int) : List AT2 → List Bool → Nat → Int × Int × Bool
 | a :: al, d :: ds, i => if !d && decide (0 ≤ F1 l a b) then ((i : Int), F1 l a b, true) else G3 l b al ds (i + 1)
 | _, _, _ => (0, 0, false)
def gNx (l : List MT5) (f5 : List AT2) (σ : GS) : Int × Int × Bool := G3 l σ.2.2 f5 σ.2.1 0
def grS (l : List MT5) (f5 : List AT2) (σ : GS) : GS := cond (gNx l f5 σ).2.2
 (σ.1 ++ [((gNx l f5 σ).1, (gNx l f5 σ).2.1)], σ.2.1.set (gNx l f5 σ).1.toNat true, σ.2.2 ++ (f5.getD (gNx l f5 σ).1.toNat (0, [])).2) σ
def grI (l : List MT5) (f5 : List AT2) : Nat → GS
 | 0 => ([], List.replicate f5.length false, [])
 | n + 1 => grS l f5 (grI l f5 n)
def grF (l : List MT5) (f5 : List AT2) : GS := grI l f5 f5.length
section
variable {l : List MT5} {f5 al : List AT2} {ds : List Bool} {b b' : List Int} {i n g : Nat} {σ : GS}
theorem b2S {a : AT2} {d : Bool} (h : ¬ (!d && decide (0 ≤ F1 l a b)) = true) : G3 l b (a :: al) (d :: ds) i = G3 l b al ds (i + 1) := by rw [G3, if_neg h]
theorem b4k {a : AT2} {d : Bool} (h : (!d && decide (0 ≤ F1 l a b)) = true) : G3 l b (a :: al) (d :: ds) i = ((i : Int), F1 l a b, true) := by rw [G3, if_pos h]
theorem a6r (h1 : g < al.length) (h2 : g < ds.length) (h : ¬ (!ds[g] && decide (0 ≤ F1 l al[g] b)) = true) : G3 l b (al.drop g) (ds.drop g) g = G3 l b (al.drop (g + 1)) (ds.drop (g + 1)) (g + 1) := by
 rw [List.drop_eq_getElem_cons h1, List.drop_eq_getElem_cons h2, b2S h]
theorem a6t (h1 : g < al.length) (h2 : g < ds.length) (h : (!ds[g] && decide (0 ≤ F1 l al[g] b)) = true) : G3 l b (al.drop g) (ds.drop g) g = ((g : Int), F1 l al[g] b, true) := by
 rw [List.drop_eq_getElem_cons h1, List.drop_eq_getElem_cons h2, b4k h]
theorem a6m (h1 : ¬ g < al.length) : G3 l b (al.drop g) (ds.drop g) g = (0, 0, false) := by
 rw [List.drop_eq_nil_of_le (by omega)]; cases ds.drop g <;> rfl
theorem a4E : ∀ {al : List AT2} {ds : List Bool} {i : Nat}, (G3 l b al ds i).2.2 = true → ∃ k, (G3 l b al ds i).1 = ((i + k : Nat) : Int) ∧ k < al.length ∧ ds[k]? = some false ∧ ∃ a, al[k]? = some a ∧ (G3 l b al ds i).2.1 = F1 l a b ∧ 0 ≤ F1 l a b
 | [], _, _, h => by simp [G3] at h
 | _ :: _, [], _, h => by simp [G3] at h
 | a :: al, d :: ds, i, h => by
  by_cases hc : (!d && decide (0 ≤ F1 l a b)) = true
  ·rw [b4k hc] at h ⊢
   simp only [Bool.and_eq_true, Bool.not_eq_true', decide_eq_true_eq] at hc
   exact ⟨0, rfl, by simp, by simp [hc.1], a, rfl, rfl, hc.2⟩
  ·rw [b2S hc] at h ⊢
   obtain ⟨k, h1, h2, h3, a', h4, h5, h6⟩ := a4E h
   exact ⟨k + 1, by rw [h1]; congr 1; omega, by simp; omega, by simpa using h3, a', by simpa using h4, h5, h6⟩
theorem a4h : (grI l f5 n).2.1.length = f5.length := by
 induction n with
 | zero => simp [grI]
 | succ n ih =>
  simp only [grI, grS]
  cases (gNx l f5 (grI l f5 n)).2.2
  ·exact ih
  ·simp only [cond_true, List.length_set]; exact ih
theorem a4X : ∀ {ds : List Bool} {k : Nat}, ds[k]? = some false → (ds.set k true).count false + 1 = ds.count false
 | [], _, h => by simp at h
 | d :: ds, 0, h => by simp at h; subst h; simp
 | d :: ds, k + 1, h => by
  have := a4X (ds := ds) (k := k) (by simpa using h)
  simp only [List.set_cons_succ, List.count_cons]; omega
theorem b2B : (grI l f5 n).2.1.count false + (grI l f5 n).1.length = f5.length := by
 induction n with
 | zero => simp [grI]
 | succ n ih =>
  simp only [grI, grS]
  cases h : (gNx l f5 (grI l f5 n)).2.2
  ·exact ih
  ·obtain ⟨k, h1, h2, h3, _⟩ := a4E (show (G3 l (grI l f5 n).2.2 f5 (grI l f5 n).2.1 0).2.2 = true from h)
   have h4 : (gNx l f5 (grI l f5 n)).1.toNat = k := by unfold gNx; rw [h1]; simp
   simp only [cond_true, h4, List.length_append, List.length_cons, List.length_nil]
   have := a4X h3
   omega
theorem b2a : (grI l f5 n).1.length ≤ f5.length := by have := b2B (l := l) (f5 := f5) (n := n); omega
theorem b9n (h : (gNx l f5 (grI l f5 n)).2.2 = true) : (grI l f5 n).1.length < f5.length := by
 obtain ⟨k, h1, h2, h3, _⟩ := a4E (show (G3 l (grI l f5 n).2.2 f5 (grI l f5 n).2.1 0).2.2 = true from h)
 have h4 := b2B (l := l) (f5 := f5) (n := n)
 have : 0 < (grI l f5 n).2.1.count false := List.count_pos_iff.2 (List.mem_of_getElem? h3)
 omega
def grP (l : List MT5) (f5 : List AT2) (n : Nat) : Prop := (grI l f5 n).1.length = n
theorem b7B : grP l f5 0 := rfl
theorem b7J (h : grP l f5 n) (hx : (gNx l f5 (grI l f5 n)).2.2 = true) : grP l f5 (n + 1) := by
 unfold grP at *
 simp only [grI, grS, hx, cond_true, List.length_append, List.length_cons, List.length_nil, h]
theorem b9o (h : grP l f5 n) : n ≤ f5.length := by have := b2a (l := l) (f5 := f5) (n := n); unfold grP at h; omega
theorem b9J (h : grP l f5 n) (hx : (gNx l f5 (grI l f5 n)).2.2 = true) : n < f5.length := by have := b9n hx; unfold grP at h; omega
theorem a3h (hx : (gNx l f5 (grI l f5 n)).2.2 = false) : grI l f5 (n + 1) = grI l f5 n := by simp [grI, grS, hx]
theorem b4c (hx : (gNx l f5 (grI l f5 n)).2.2 = false) : ∀ k, grI l f5 (n + k) = grI l f5 n
 | 0 => rfl
 | k + 1 => by
  have ih := b4c hx k
  rw [← Nat.add_assoc, ← ih]
  exact a3h (by rw [ih]; exact hx)
theorem b8l (h : grP l f5 n) (hx : (gNx l f5 (grI l f5 n)).2.2 = false) : grI l f5 n = grF l f5 := by
 have h1 := b9o h
 have h2 := b4c hx (f5.length - n)
 rw [show n + (f5.length - n) = f5.length from by omega] at h2
 exact h2.symm
theorem a2i (hx : (gNx l f5 (grI l f5 n)).2.2 = true) : grI l f5 (n + 1) = ((grI l f5 n).1 ++ [((gNx l f5 (grI l f5 n)).1, (gNx l f5 (grI l f5 n)).2.1)], (grI l f5 n).2.1.set (gNx l f5 (grI l f5 n)).1.toNat true, (grI l f5 n).2.2 ++ (f5.getD (gNx l f5 (grI l f5 n)).1.toNat (0, [])).2) := by
 simp [grI, grS, hx]
theorem b3V : (∀ k, (grI l f5 n).2.1.getD k false = (grI l f5 n).1.any fun x => decide (x.1 = (k : Int))) ∧ ((grI l f5 n).1.map fun x => x.1).Nodup ∧ ∀ x ∈ (grI l f5 n).1, 0 ≤ x.1 ∧ x.1.toNat < f5.length ∧ 0 ≤ x.2 ∧ x.2 < (l.length : Int) := by
 induction n with
 | zero =>
  refine ⟨fun k => ?_, by simp [grI], by simp [grI]⟩
  simp only [grI, List.any_nil, List.getD]
  cases h : (List.replicate f5.length false)[k]? with
  | none => rfl
  | some v => rw [List.getElem?_replicate] at h; split at h <;> simp at h; rw [← h]; rfl
 | succ n ih =>
  obtain ⟨i1, i2, i3⟩ := ih
  cases h : (gNx l f5 (grI l f5 n)).2.2
  ·rw [a3h h]; exact ⟨i1, i2, i3⟩
  ·rw [a2i h]
   obtain ⟨k, h1, h2, h3, a, h4, h5, h6⟩ := a4E (show (G3 l (grI l f5 n).2.2 f5 (grI l f5 n).2.1 0).2.2 = true from h)
   have e1 : (gNx l f5 (grI l f5 n)).1 = (k : Int) := by unfold gNx; rw [h1]; simp
   have e2 : (gNx l f5 (grI l f5 n)).1.toNat = k := by rw [e1]; simp
   have e3 : (gNx l f5 (grI l f5 n)).2.1 = F1 l a (grI l f5 n).2.2 := h5
   have hk : k < (grI l f5 n).2.1.length := (List.getElem?_eq_some_iff.1 h3).1
   have i1k := i1 k
   simp only [List.getD, h3, Option.getD_some] at i1k
   refine ⟨fun j => ?_, ?_, ?_⟩
   ·simp only [e2, e1, List.any_append, List.any_cons, List.any_nil, Bool.or_false, ← i1 j]
    by_cases hj : j = k
    ·subst hj; simp [List.getD, hk]
    ·have : ¬ ((k : Int) = (j : Int)) := by omega
     simp only [this, decide_false, Bool.or_false, List.getD, Int.toNat_natCast, List.getElem?_set_ne (Ne.symm hj)]
   ·rw [List.map_append, List.nodup_append]
    refine ⟨i2, by simp, fun u hu v hv e => ?_⟩
    simp only [List.map_cons, List.map_nil, List.mem_singleton] at hv
    subst e; rw [hv, e1] at hu
    obtain ⟨y, hy, hy2⟩ := List.mem_map.1 hu
    have := List.any_eq_false.1 i1k.symm y hy
    simp [hy2] at this
   ·intro x hx
    rcases List.mem_append.1 hx with hx | hx
    ·exact i3 x hx
    ·simp only [List.mem_singleton] at hx; subst hx
     refine ⟨by rw [e1]; omega, by rw [e2]; exact h2, by rw [e3]; exact h6, ?_⟩
     show (gNx l f5 (grI l f5 n)).2.1 < _
     rw [e3]
     unfold F1 at h6 ⊢
     have := (a7p (p := fun m => N5 m a (grI l f5 n).2.2) (s := l) (by omega)).2
     omega
theorem b4n {s : List (Int × Int)} {k : Int} : H9 (s.map fun x => x.1) k = s.any fun x => decide (x.1 = k) := by
 unfold H9; rw [List.any_map]; rfl
end
def a1Y (b : List Int) (a : AT2) : List Int := (a.2.filter fun t => inR t 10 17).foldl M4 b
def grV (l : List MT5) (f5 : List AT2) : Nat → List Int
 | 0 => []
 | n + 1 => cond (gNx l f5 (grI l f5 n)).2.2 (a1Y (grV l f5 n) (f5.getD (gNx l f5 (grI l f5 n)).1.toNat (0, []))) (grV l f5 n)
section
variable {l : List MT5} {f5 al : List AT2} {ds : List Bool} {b b' : List Int} {i n g : Nat} {m : MT5} {a : AT2}
theorem b8w (h : ∀ v, inR v 10 17 = true → H9 b v = H9 b' v) : a1x a b = a1x a b' := by
 funext i; unfold a1x
 cases hv : inR (at0 a.2 i) 10 17
 ·rfl
 ·rw [h _ hv]
theorem b5s (h : ∀ v, inR v 10 17 = true → H9 b v = H9 b' v) : N5 m a b = N5 m a b' := by unfold N5; rw [b8w h]
theorem b7N (h : ∀ v, inR v 10 17 = true → H9 b v = H9 b' v) : F1 l a b = F1 l a b' := by
 unfold F1; congr 1; funext m; exact b5s h
theorem b1q {α : Type} {p : α → Bool} {f : α} : ∀ {l : List α}, l.any p = true → ∀ y, y ∈ O4 p f l ↔ y ∈ l ∨ y = f
 | [], h, _ => by simp at h
 | x :: l, h, y => by
  by_cases hp : p x = true
  ·simp only [O4, hp, if_true, List.mem_cons]
   constructor
   ·rintro (h | h | h)
    ·exact .inr h
    ·exact .inl (.inl h)
    ·exact .inl (.inr h)
   ·rintro ((h | h) | h)
    ·exact .inr (.inl h)
    ·exact .inr (.inr h)
    ·exact .inl h
  ·have h1 : l.any p = true := by simpa [hp] using h
   simp only [O4, hp, if_false, List.mem_cons, b1q h1 y, Bool.false_eq_true]
   exact or_assoc.symm
theorem b6K {x y : Int} : y ∈ M4 b x ↔ y ∈ b ∨ y = x := by
 unfold M4 X5
 split
 ·rename_i h
  rw [a6k] at h
  exact ⟨.inl, fun h' => h'.elim id fun e => e ▸ h⟩
 ·split
  ·rename_i h; exact b1q h y
  ·simp
theorem b7R {x v : Int} : H9 (M4 b x) v = (H9 b v || decide (x = v)) := by
 rw [Bool.eq_iff_iff, a6k, b6K, Bool.or_eq_true, a6k, decide_eq_true_eq]
 exact ⟨fun h => h.imp id Eq.symm, fun h => h.imp id Eq.symm⟩
theorem b4g (a : AT2) {v : Int} (hv : inR v 10 17 = true) : H9 (a1Y b a) v = (H9 b v || H9 a.2 v) := by
 unfold a1Y
 generalize a.2 = t
 induction t generalizing b with
 | nil => simp [H9]
 | cons x t ih =>
  by_cases hx : inR x 10 17 = true
  ·rw [List.filter_cons_of_pos (p := fun t => inR t 10 17) hx, List.foldl_cons, ih, b7R]
   simp only [H9, List.any_cons, Bool.or_assoc]
  ·rw [List.filter_cons_of_neg (p := fun t => inR t 10 17) hx, ih]
   have : decide (x = v) = false := decide_eq_false fun e => hx (e ▸ hv)
   simp only [H9, List.any_cons, this, Bool.false_or]
theorem b7F {v : Int} (hv : inR v 10 17 = true) : H9 (grV l f5 n) v = H9 (grI l f5 n).2.2 v := by
 induction n with
 | zero => rfl
 | succ n ih =>
  cases h : (gNx l f5 (grI l f5 n)).2.2
  ·rw [a3h h, grV, h]; exact ih
  ·rw [a2i h, grV, h, cond_true, b4g _ hv, ih]
   simp only [H9, List.any_append]
theorem a4H {t : List Int} : (t.foldl M4 b).length ≤ b.length + t.length := by
 induction t generalizing b with
 | nil => simp
 | cons x t ih =>
  have h1 := ih (b := M4 b x)
  have h2 := a6d (h := H9 b x) (p := fun y => decide (x < y)) (f := x) (l := b)
  simp only [List.foldl_cons, List.length_cons]; unfold M4 at *; omega
theorem b7V : (a1Y b a).length ≤ b.length + a.2.length := by
 unfold a1Y
 have h1 := a4H (b := b) (t := a.2.filter fun t => inR t 10 17)
 have h2 := List.length_filter_le (fun t => inR t 10 17) a.2
 omega
theorem b3d (h : ∀ a ∈ f5, a.2.length ≤ 3) (k : Nat) : (f5.getD k (0, [])).2.length ≤ 3 := by
 rw [List.getD]
 cases hk : f5[k]? with
 | none => simp
 | some a => exact h a (List.mem_of_getElem? hk)
theorem b7K (h : ∀ a ∈ f5, a.2.length ≤ 3) : (grV l f5 n).length ≤ 3 * n := by
 induction n with
 | zero => simp [grV]
 | succ n ih =>
  rw [grV]
  cases (gNx l f5 (grI l f5 n)).2.2
  ·simp only [cond_false]; omega
  ·simp only [cond_true]
   have h1 := b7V (b := grV l f5 n) (a := f5.getD (gNx l f5 (grI l f5 n)).1.toNat (0, []))
   have h2 := b3d h (gNx l f5 (grI l f5 n)).1.toNat
   omega
theorem b7t (h : ∀ a ∈ f5, a.2.length ≤ 3) : (grI l f5 n).2.2.length ≤ 3 * n := by
 induction n with
 | zero => simp [grI]
 | succ n ih =>
  cases hx : (gNx l f5 (grI l f5 n)).2.2
  ·rw [a3h hx]; omega
  ·rw [a2i hx]
   have h2 := b3d h (gNx l f5 (grI l f5 n)).1.toNat
   simp only [List.length_append]; omega
theorem b5y : F1 l a (grV l f5 n) = F1 l a (grI l f5 n).2.2 := b7N fun v hv => b7F hv
end
def exM (m : MT5) : MT5 := cond (decide (m.2.2.1 ≠ 0)) (-1, m.2) m
def exF (l : List MT5) : List MT5 := l.map exM
def b9C (al : List AT2) (ds : List Bool) : List AT2 := ((al.zip ds).filter fun x => x.2).map fun x => x.1
def b6W (l : List MT5) (f5 : List AT2) : List AT2 := b9C f5 (grF (exF l) f5).2.1
section
variable {al : List AT2} {ds : List Bool} {g : Nat} {l : List MT5} {f5 : List AT2}
end
section
variable {l : List MT5} {f5 : List AT2} {g n r i : Nat} {q : List Int × List AT2} {s : List Int}
theorem c0y (h : (G3 l (grI l f5 n).2.2 f5 (grI l f5 n).2.1 0).2.2 = true) : 0 ≤ (G3 l (grI l f5 n).2.2 f5 (grI l f5 n).2.1 0).1 ∧ (G3 l (grI l f5 n).2.2 f5 (grI l f5 n).2.1 0).1.toNat < f5.length ∧ 0 ≤ (G3 l (grI l f5 n).2.2 f5 (grI l f5 n).2.1 0).2.1 ∧ (G3 l (grI l f5 n).2.2 f5 (grI l f5 n).2.1 0).2.1 < l.length := by
 obtain ⟨k, h1, h2, h3, a, h4, h5, h6⟩ := a4E h
 refine ⟨by rw [h1]; omega, by rw [h1]; omega, by rw [h5]; exact h6, ?_⟩
 rw [h5]; unfold F1 at h6 ⊢
 have := (a7p (p := fun m => N5 m a (grI l f5 n).2.2) (s := l) (by omega)).2
 omega
theorem b1X (h : (G3 l (grI l f5 n).2.2 f5 (grI l f5 n).2.1 0).2.2 = true) : (grI l f5 n).1 ++ [((G3 l (grI l f5 n).2.2 f5 (grI l f5 n).2.1 0).1, (G3 l (grI l f5 n).2.2 f5 (grI l f5 n).2.1 0).2.1)] = (grI l f5 (n + 1)).1 := by rw [a2i h]; rfl
theorem b9q (h : (G3 l (grI l f5 n).2.2 f5 (grI l f5 n).2.1 0).2.2 = true) : (grI l f5 n).2.1.set (G3 l (grI l f5 n).2.2 f5 (grI l f5 n).2.1 0).1.toNat true = (grI l f5 (n + 1)).2.1 := by rw [a2i h]; rfl
theorem b9w (h : (G3 l (grI l f5 n).2.2 f5 (grI l f5 n).2.1 0).2.2 = true) (hk : (G3 l (grI l f5 n).2.2 f5 (grI l f5 n).2.1 0).1.toNat < f5.length) : (grI l f5 n).2.2 ++ (f5[(G3 l (grI l f5 n).2.2 f5 (grI l f5 n).2.1 0).1.toNat]).2 = (grI l f5 (n + 1)).2.2 := by
 rw [a2i h]
 show _ = (grI l f5 n).2.2 ++ (f5.getD (G3 l (grI l f5 n).2.2 f5 (grI l f5 n).2.1 0).1.toNat (0, [])).2
 rw [List.getD, List.getElem?_eq_getElem hk, Option.getD_some]
def sgI (l : List MT5) (f5 : List AT2) (r i : Nat) : Prop := gNx l f5 (grI l f5 r) = G3 l (grI l f5 r).2.2 (f5.drop i) ((grI l f5 r).2.1.drop i) i
theorem b7Z : sgI l f5 r 0 := rfl
theorem b3Y (hi : i < f5.length) : H9 ((grI l f5 r).1.map fun x => x.1) i = (grI l f5 r).2.1[i]'(by rw [a4h]; exact hi) := by
 rw [b4n, ← b3V.1 i, List.getD, List.getElem?_eq_getElem (by rw [a4h]; exact hi), Option.getD_some]
theorem b4j (h : sgI l f5 r i) (hi : i < f5.length) (hm : ¬ 0 ≤ F1 l f5[i] (grV l f5 r)) : sgI l f5 r (i + 1) := by
 unfold sgI at *
 rw [h]
 exact a6r hi (by rw [a4h]; exact hi) (by rw [b5y] at hm; simp [hm])
theorem b3Z (h : sgI l f5 r i) (hi : i < f5.length) (hm : H9 ((grI l f5 r).1.map fun x => x.1) i = true) : sgI l f5 r (i + 1) := by
 unfold sgI at *
 rw [h]
 exact a6r hi (by rw [a4h]; exact hi) (by rw [b3Y hi] at hm; simp [hm])
theorem b4Z (h : sgI l f5 r i) (hi : i < f5.length) (hm : 0 ≤ F1 l f5[i] (grV l f5 r)) (hu : H9 ((grI l f5 r).1.map fun x => x.1) i = false) : gNx l f5 (grI l f5 r) = ((i : Int), F1 l f5[i] (grV l f5 r), true) := by
 unfold sgI at h
 rw [b3Y hi] at hu
 rw [b5y] at hm ⊢
 rw [h, a6t hi (by rw [a4h]; exact hi) (by simp [hu, hm])]
theorem sg1 (h : sgI l f5 r i) (hi : i < f5.length) (hm : 0 ≤ F1 l f5[i] (grV l f5 r)) (hu : H9 ((grI l f5 r).1.map fun x => x.1) i = false) : (grI l f5 r).1 ++ [((i : Int), F1 l f5[i] (grV l f5 r))] = (grI l f5 (r + 1)).1 := by
 have h1 := b4Z h hi hm hu
 rw [a2i (by rw [h1]), h1]
theorem sg2 (h : sgI l f5 r i) (hi : i < f5.length) (hm : 0 ≤ F1 l f5[i] (grV l f5 r)) (hu : H9 ((grI l f5 r).1.map fun x => x.1) i = false) : a1Y (grV l f5 r) f5[i] = grV l f5 (r + 1) := by
 have h1 := b4Z h hi hm hu
 rw [grV, h1, cond_true, List.getD, Int.toNat_natCast, List.getElem?_eq_getElem hi, Option.getD_some]
theorem sg3 (h : sgI l f5 r i) (hi : i < f5.length) (hm : 0 ≤ F1 l f5[i] (grV l f5 r)) (hu : H9 ((grI l f5 r).1.map fun x => x.1) i = false) : ((grI l f5 r).1.map fun x => x.1) ++ [(i : Int)] = (grI l f5 (r + 1)).1.map fun x => x.1 := by
 rw [← sg1 h hi hm hu, List.map_append]; rfl
theorem b5d (h : sgI l f5 r i) (hi : ¬ i < f5.length) : (gNx l f5 (grI l f5 r)).2.2 = false := by
 unfold sgI at h
 rw [h, a6m hi]
theorem se1 (h : sgI l f5 r i) (hi : ¬ i < f5.length) : grI l f5 r = grI l f5 (r + 1) := (a3h (b5d h hi)).symm
theorem se2 (h : sgI l f5 r i) (hi : ¬ i < f5.length) : grV l f5 r = grV l f5 (r + 1) := by rw [grV, b5d h hi]; rfl
theorem b5G {b t : List Int} {k : Nat} (hk : k < t.length) (h : inR t[k] 10 17 = true) : M4 (((t.take k).filter fun t => inR t 10 17).foldl M4 b) t[k] = ((t.take (k + 1)).filter fun t => inR t 10 17).foldl M4 b := by
 rw [List.take_succ_eq_append_getElem hk, List.filter_append, List.foldl_append, List.filter_cons_of_pos (p := fun t => inR t 10 17) h]; rfl
theorem b5H {b t : List Int} {k : Nat} (hk : k < t.length) (h : inR t[k] 10 17 = false) : ((t.take k).filter fun t => inR t 10 17).foldl M4 b = ((t.take (k + 1)).filter fun t => inR t 10 17).foldl M4 b := by
 rw [List.take_succ_eq_append_getElem hk, List.filter_append, List.foldl_append, List.filter_cons_of_neg (p := fun t => inR t 10 17) (by rw [h]; decide)]; rfl
theorem a8w {a : AT2} {b : List Int} : F1 l a b ≤ l.length ∧ -1 ≤ F1 l a b := a0O
end
def b8T (s : List Int) (l : List MT5) (q : List Int × List AT2) : Bool := (G9 s l && I4 s q) && I4 s (q.1, b6W l q.2)
def c1K (s : List Int) (l : List MT5) (q : List Int × List AT2) : List Int := cond (b8T s l q) q.1 []
def c1F (s : List Int) (l : List MT5) (q : List Int × List AT2) : List AT2 := cond (b8T s l q) (b6W l q.2) []
section
variable {s : List Int} {l : List MT5} {q : List Int × List AT2}
end
abbrev GQ := (List Int × List AT2) × List AT2
def a3P (g : GQ) : List Int := B5 (fun t => inR t 10 17) g.1.2
def P1 (s : List Int) (l : List MT5) (g : GQ) : Bool :=
 G9 s l && (R2 s g && (!decide (((grF (exF l) g.1.2).1.length : Int) < g.1.2.length) && !g.2.any fun a => decide (F1 (exF l) a (a3P g) < 0)))
def G8 (s : List Int) (l : List MT5) (g : GQ) : List (Int × Int) := cond (P1 s l g) (grF (exF l) g.1.2).1 []
def w6 (s : List Int) (l : List MT5) (g : GQ) : List Int := cond (P1 s l g) (g.2.map fun a => F1 (exF l) a (a3P g)) []
section
variable {s : List Int} {l : List MT5} {g : GQ} {i : Nat}
theorem a4f (h : R2 s g = true) : I4 s g.1 = true ∧ g.2.length ≤ 4 := by
 simp only [R2, Bool.and_eq_true, decide_eq_true_eq] at h
 exact ⟨h.1, by omega⟩
theorem u6 (h : P1 s l g = false) : [] = G8 s l g ∧ [] = w6 s l g ∧ false = P1 s l g := by rw [G8, w6, h]; exact ⟨rfl, rfl, rfl⟩
theorem L5 (h : G9 s l = false) : P1 s l g = false := by rw [P1, h]; rfl
theorem L6 (h : R2 s g = false) : P1 s l g = false := by rw [P1, h]; simp
theorem L7 (h : ((grF (exF l) g.1.2).1.length : Int) < g.1.2.length) : P1 s l g = false := by rw [P1, decide_eq_true h]; simp
theorem L8 (hi : i < g.2.length) (h : F1 (exF l) g.2[i] (a3P g) < 0) : P1 s l g = false := by
 have h1 : (g.2.any fun a => decide (F1 (exF l) a (a3P g) < 0)) = true := List.any_eq_true.2 ⟨_, List.getElem_mem hi, decide_eq_true h⟩
 rw [P1, h1]; simp
theorem M0 (h1 : G9 s l = true) (h2 : R2 s g = true) (h3 : ¬ ((grF (exF l) g.1.2).1.length : Int) < g.1.2.length) (hp : ∀ a ∈ g.2.take i, decide (F1 (exF l) a (a3P g) < 0) = false) (hi : ¬ i < g.2.length) :
  (grF (exF l) g.1.2).1 = G8 s l g ∧ (g.2.take i).map (fun a => F1 (exF l) a (a3P g)) = w6 s l g ∧ true = P1 s l g := by
 rw [List.take_of_length_le (by omega)] at hp ⊢
 have h4 : (g.2.any fun a => decide (F1 (exF l) a (a3P g) < 0)) = false := List.any_eq_false.2 fun a ha => by rw [hp a ha]; decide
 have h : P1 s l g = true := by rw [P1, h1, h2, decide_eq_false h3, h4]; rfl
 rw [G8, w6, h]; exact ⟨rfl, rfl, rfl⟩
end
end Go.Proofs.YtdopeopehgdccaaGreat
