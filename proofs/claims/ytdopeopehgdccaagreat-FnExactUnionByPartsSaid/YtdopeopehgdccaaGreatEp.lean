import Derived.Test.YtdopeopehgdccaaGreatBd
namespace Go.Proofs.YtdopeopehgdccaaGreat
set_option linter.unusedVariables false
set_option linter.unusedSimpArgs false
abbrev MT5 := Int × List Int × Int × Int × Int
abbrev AT2 := Int × List Int
abbrev GS := List (Int × Int) × List Bool × List Int
def a1d (a : AT2) (b : List Int) (i : Int) : Bool := !inR i 0 ((a.2.length : Int) - 1) || (inR (at0 a.2 i) 10 17 && !G0 b (at0 a.2 i))
def K6 (m : MT5) (a : AT2) (b : List Int) : Bool := decide (m.1 = a.1) && !m.2.1.any (a1d a b)
def H6 (l : List MT5) (a : AT2) (b : List Int) : Int := J0 (fun m => K6 m a b) l
def E5 (l : List MT5) (b : List Int) : List AT2 → List Bool → Nat → Int × Int × Bool
 | a :: al, d :: ds, i => if !d && decide (0 ≤ H6 l a b) then ((i : Int), H6 l a b, true) else E5 l b al ds (i + 1)
 | _, _, _ => (0, 0, false)
def gNx (l : List MT5) (d8 : List AT2) (σ : GS) : Int × Int × Bool := E5 l σ.2.2 d8 σ.2.1 0
def grS (l : List MT5) (d8 : List AT2) (σ : GS) : GS := cond (gNx l d8 σ).2.2
 (σ.1 ++ [((gNx l d8 σ).1, (gNx l d8 σ).2.1)], σ.2.1.set (gNx l d8 σ).1.toNat true, σ.2.2 ++ (d8.getD (gNx l d8 σ).1.toNat (0, [])).2) σ
def grI (l : List MT5) (d8 : List AT2) : Nat → GS
 | 0 => ([], List.replicate d8.length false, [])
 | n + 1 => grS l d8 (grI l d8 n)
def grF (l : List MT5) (d8 : List AT2) : GS := grI l d8 d8.length
section
variable {l : List MT5} {d8 al : List AT2} {ds : List Bool} {b b' : List Int} {i n g : Nat} {σ : GS}
theorem a4R {a : AT2} {d : Bool} (h : ¬ (!d && decide (0 ≤ H6 l a b)) = true) : E5 l b (a :: al) (d :: ds) i = E5 l b al ds (i + 1) := by rw [E5, if_neg h]
theorem a5z {a : AT2} {d : Bool} (h : (!d && decide (0 ≤ H6 l a b)) = true) : E5 l b (a :: al) (d :: ds) i = ((i : Int), H6 l a b, true) := by rw [E5, if_pos h]
theorem a6i (h1 : g < al.length) (h2 : g < ds.length) (h : ¬ (!ds[g] && decide (0 ≤ H6 l al[g] b)) = true) : E5 l b (al.drop g) (ds.drop g) g = E5 l b (al.drop (g + 1)) (ds.drop (g + 1)) (g + 1) := by
 rw [List.drop_eq_getElem_cons h1, List.drop_eq_getElem_cons h2, a4R h]
theorem a6s (h1 : g < al.length) (h2 : g < ds.length) (h : (!ds[g] && decide (0 ≤ H6 l al[g] b)) = true) : E5 l b (al.drop g) (ds.drop g) g = ((g : Int), H6 l al[g] b, true) := by
 rw [List.drop_eq_getElem_cons h1, List.drop_eq_getElem_cons h2, a5z h]
theorem a5Z (h1 : ¬ g < al.length) : E5 l b (al.drop g) (ds.drop g) g = (0, 0, false) := by
 rw [List.drop_eq_nil_of_le (by omega)]; cases ds.drop g <;> rfl
theorem a3t : ∀ {al : List AT2} {ds : List Bool} {i : Nat}, (E5 l b al ds i).2.2 = true → ∃ k, (E5 l b al ds i).1 = ((i + k : Nat) : Int) ∧ k < al.length ∧ ds[k]? = some false ∧ ∃ a, al[k]? = some a ∧ (E5 l b al ds i).2.1 = H6 l a b ∧ 0 ≤ H6 l a b
 | [], _, _, h => by simp [E5] at h
 | _ :: _, [], _, h => by simp [E5] at h
 | a :: al, d :: ds, i, h => by
  by_cases hc : (!d && decide (0 ≤ H6 l a b)) = true
  ·rw [a5z hc] at h ⊢
   simp only [Bool.and_eq_true, Bool.not_eq_true', decide_eq_true_eq] at hc
   exact ⟨0, rfl, by simp, by simp [hc.1], a, rfl, rfl, hc.2⟩
  ·rw [a4R hc] at h ⊢
   obtain ⟨k, h1, h2, h3, a', h4, h5, h6⟩ := a3t h
   exact ⟨k + 1, by rw [h1]; congr 1; omega, by simp; omega, by simpa using h3, a', by simpa using h4, h5, h6⟩
theorem a2k : (grI l d8 n).2.1.length = d8.length := by
 induction n with
 | zero => simp [grI]
 | succ n ih =>
  simp only [grI, grS]
  cases (gNx l d8 (grI l d8 n)).2.2
  ·exact ih
  ·simp only [cond_true, List.length_set]; exact ih
theorem a5a : ∀ {ds : List Bool} {k : Nat}, ds[k]? = some false → (ds.set k true).count false + 1 = ds.count false
 | [], _, h => by simp at h
 | d :: ds, 0, h => by simp at h; subst h; simp
 | d :: ds, k + 1, h => by
  have := a5a (ds := ds) (k := k) (by simpa using h)
  simp only [List.set_cons_succ, List.count_cons]; omega
theorem a8P : (grI l d8 n).2.1.count false + (grI l d8 n).1.length = d8.length := by
 induction n with
 | zero => simp [grI]
 | succ n ih =>
  simp only [grI, grS]
  cases h : (gNx l d8 (grI l d8 n)).2.2
  ·exact ih
  ·obtain ⟨k, h1, h2, h3, _⟩ := a3t (show (E5 l (grI l d8 n).2.2 d8 (grI l d8 n).2.1 0).2.2 = true from h)
   have h4 : (gNx l d8 (grI l d8 n)).1.toNat = k := by unfold gNx; rw [h1]; simp
   simp only [cond_true, h4, List.length_append, List.length_cons, List.length_nil]
   have := a5a h3
   omega
theorem b2I : (grI l d8 n).1.length ≤ d8.length := by have := a8P (l := l) (d8 := d8) (n := n); omega
theorem c0X (h : (gNx l d8 (grI l d8 n)).2.2 = true) : (grI l d8 n).1.length < d8.length := by
 obtain ⟨k, h1, h2, h3, _⟩ := a3t (show (E5 l (grI l d8 n).2.2 d8 (grI l d8 n).2.1 0).2.2 = true from h)
 have h4 := a8P (l := l) (d8 := d8) (n := n)
 have : 0 < (grI l d8 n).2.1.count false := List.count_pos_iff.2 (List.mem_of_getElem? h3)
 omega
def grP (l : List MT5) (d8 : List AT2) (n : Nat) : Prop := (grI l d8 n).1.length = n
theorem b4U : grP l d8 0 := rfl
theorem b4Y (h : grP l d8 n) (hx : (gNx l d8 (grI l d8 n)).2.2 = true) : grP l d8 (n + 1) := by
 unfold grP at *
 simp only [grI, grS, hx, cond_true, List.length_append, List.length_cons, List.length_nil, h]
theorem c0P (h : grP l d8 n) : n ≤ d8.length := by have := b2I (l := l) (d8 := d8) (n := n); unfold grP at h; omega
theorem b8A (h : grP l d8 n) (hx : (gNx l d8 (grI l d8 n)).2.2 = true) : n < d8.length := by have := c0X hx; unfold grP at h; omega
theorem a0k (hx : (gNx l d8 (grI l d8 n)).2.2 = false) : grI l d8 (n + 1) = grI l d8 n := by simp [grI, grS, hx]
theorem b1y (hx : (gNx l d8 (grI l d8 n)).2.2 = false) : ∀ k, grI l d8 (n + k) = grI l d8 n
 | 0 => rfl
 | k + 1 => by
  have ih := b1y hx k
  rw [← Nat.add_assoc, ← ih]
  exact a0k (by rw [ih]; exact hx)
theorem c0l (h : grP l d8 n) (hx : (gNx l d8 (grI l d8 n)).2.2 = false) : grI l d8 n = grF l d8 := by
 have h1 := c0P h
 have h2 := b1y hx (d8.length - n)
 rw [show n + (d8.length - n) = d8.length from by omega] at h2
 exact h2.symm
theorem W0 (hx : (gNx l d8 (grI l d8 n)).2.2 = true) : grI l d8 (n + 1) = ((grI l d8 n).1 ++ [((gNx l d8 (grI l d8 n)).1, (gNx l d8 (grI l d8 n)).2.1)], (grI l d8 n).2.1.set (gNx l d8 (grI l d8 n)).1.toNat true, (grI l d8 n).2.2 ++ (d8.getD (gNx l d8 (grI l d8 n)).1.toNat (0, [])).2) := by
 simp [grI, grS, hx]
theorem a8c : (∀ k, (grI l d8 n).2.1.getD k false = (grI l d8 n).1.any fun x => decide (x.1 = (k : Int))) ∧ ((grI l d8 n).1.map fun x => x.1).Nodup ∧ ∀ x ∈ (grI l d8 n).1, 0 ≤ x.1 ∧ x.1.toNat < d8.length ∧ 0 ≤ x.2 ∧ x.2 < (l.length : Int) := by
 induction n with
 | zero =>
  refine ⟨fun k => ?_, by simp [grI], by simp [grI]⟩
  simp only [grI, List.any_nil, List.getD]
  cases h : (List.replicate d8.length false)[k]? with
  | none => rfl
  | some v => rw [List.getElem?_replicate] at h; split at h <;> simp at h; rw [← h]; rfl
 | succ n ih =>
  obtain ⟨i1, i2, i3⟩ := ih
  cases h : (gNx l d8 (grI l d8 n)).2.2
  ·rw [a0k h]; exact ⟨i1, i2, i3⟩
  ·rw [W0 h]
   obtain ⟨k, h1, h2, h3, a, h4, h5, h6⟩ := a3t (show (E5 l (grI l d8 n).2.2 d8 (grI l d8 n).2.1 0).2.2 = true from h)
   have e1 : (gNx l d8 (grI l d8 n)).1 = (k : Int) := by unfold gNx; rw [h1]; simp
   have e2 : (gNx l d8 (grI l d8 n)).1.toNat = k := by rw [e1]; simp
   have e3 : (gNx l d8 (grI l d8 n)).2.1 = H6 l a (grI l d8 n).2.2 := h5
   have hk : k < (grI l d8 n).2.1.length := (List.getElem?_eq_some_iff.1 h3).1
   have i1k := i1 k
   simp only [List.getD, h3, Option.getD_some] at i1k
   refine ⟨fun j => ?_, ?_, ?_⟩
   ·simp only [e2, e1, List.any_append, List.any_cons, List.any_nil, Bool.or_false, ← i1 j]
    by_cases hj : j = k
    ·subst hj; simp [List.getD, hk]
    ·have : ¬ ((k : Int) = (j : Int)) := by omega
     simp only [this, decide_false, Bool.or_false, List.getD, Int.toNat_natCast, List.getElem?_set_ne (Ne.symm hj)]
   ·rw [List.map_append, List.nodup_append]
    refine ⟨i2, by simp, fun u hu v hv e => ?_⟩
    simp only [List.map_cons, List.map_nil, List.mem_singleton] at hv
    subst e; rw [hv, e1] at hu
    obtain ⟨y, hy, hy2⟩ := List.mem_map.1 hu
    have := List.any_eq_false.1 i1k.symm y hy
    simp [hy2] at this
   ·intro x hx
    rcases List.mem_append.1 hx with hx | hx
    ·exact i3 x hx
    ·simp only [List.mem_singleton] at hx; subst hx
     refine ⟨by rw [e1]; omega, by rw [e2]; exact h2, by rw [e3]; exact h6, ?_⟩
     show (gNx l d8 (grI l d8 n)).2.1 < _
     rw [e3]
     unfold H6 at h6 ⊢
     have := (a7d (p := fun m => K6 m a (grI l d8 n).2.2) (s := l) (by omega)).2
     omega
theorem b5k {s : List (Int × Int)} {k : Int} : G0 (s.map fun x => x.1) k = s.any fun x => decide (x.1 = k) := by
 unfold G0; rw [List.any_map]; rfl
end
def a1F (b : List Int) (a : AT2) : List Int := (a.2.filter fun t => inR t 10 17).foldl J8 b
def grV (l : List MT5) (d8 : List AT2) : Nat → List Int
 | 0 => []
 | n + 1 => cond (gNx l d8 (grI l d8 n)).2.2 (a1F (grV l d8 n) (d8.getD (gNx l d8 (grI l d8 n)).1.toNat (0, []))) (grV l d8 n)
section
variable {l : List MT5} {d8 al : List AT2} {ds : List Bool} {b b' : List Int} {i n g : Nat} {m : MT5} {a : AT2}
theorem b9O (h : ∀ v, inR v 10 17 = true → G0 b v = G0 b' v) : a1d a b = a1d a b' := by
 funext i; unfold a1d
 cases hv : inR (at0 a.2 i) 10 17
 ·rfl
 ·rw [h _ hv]
theorem b6i (h : ∀ v, inR v 10 17 = true → G0 b v = G0 b' v) : K6 m a b = K6 m a b' := by unfold K6; rw [b9O h]
theorem b8Y (h : ∀ v, inR v 10 17 = true → G0 b v = G0 b' v) : H6 l a b = H6 l a b' := by
 unfold H6; congr 1; funext m; exact b6i h
theorem b2g {α : Type} {p : α → Bool} {f : α} : ∀ {l : List α}, l.any p = true → ∀ y, y ∈ L9 p f l ↔ y ∈ l ∨ y = f
 | [], h, _ => by simp at h
 | x :: l, h, y => by
  by_cases hp : p x = true
  ·simp only [L9, hp, if_true, List.mem_cons]
   constructor
   ·rintro (h | h | h)
    ·exact .inr h
    ·exact .inl (.inl h)
    ·exact .inl (.inr h)
   ·rintro ((h | h) | h)
    ·exact .inr (.inl h)
    ·exact .inr (.inr h)
    ·exact .inl h
  ·have h1 : l.any p = true := by simpa [hp] using h
   simp only [L9, hp, if_false, List.mem_cons, b2g h1 y, Bool.false_eq_true]
   exact or_assoc.symm
theorem b8j {x y : Int} : y ∈ J8 b x ↔ y ∈ b ∨ y = x := by
 unfold J8 W4
 split
 ·rename_i h
  rw [a1z] at h
  exact ⟨.inl, fun h' => h'.elim id fun e => e ▸ h⟩
 ·split
  ·rename_i h; exact b2g h y
  ·simp
theorem b9s {x v : Int} : G0 (J8 b x) v = (G0 b v || decide (x = v)) := by
 rw [Bool.eq_iff_iff, a1z, b8j, Bool.or_eq_true, a1z, decide_eq_true_eq]
 exact ⟨fun h => h.imp id Eq.symm, fun h => h.imp id Eq.symm⟩
theorem b5c (a : AT2) {v : Int} (hv : inR v 10 17 = true) : G0 (a1F b a) v = (G0 b v || G0 a.2 v) := by
 unfold a1F
 generalize a.2 = t
 induction t generalizing b with
 | nil => simp [G0]
 | cons x t ih =>
  by_cases hx : inR x 10 17 = true
  ·rw [List.filter_cons_of_pos (p := fun t => inR t 10 17) hx, List.foldl_cons, ih, b9s]
   simp only [G0, List.any_cons, Bool.or_assoc]
  ·rw [List.filter_cons_of_neg (p := fun t => inR t 10 17) hx, ih]
   have : decide (x = v) = false := decide_eq_false fun e => hx (e ▸ hv)
   simp only [G0, List.any_cons, this, Bool.false_or]
theorem b8K {v : Int} (hv : inR v 10 17 = true) : G0 (grV l d8 n) v = G0 (grI l d8 n).2.2 v := by
 induction n with
 | zero => rfl
 | succ n ih =>
  cases h : (gNx l d8 (grI l d8 n)).2.2
  ·rw [a0k h, grV, h]; exact ih
  ·rw [W0 h, grV, h, cond_true, b5c _ hv, ih]
   simp only [G0, List.any_append]
theorem a4G {t : List Int} : (t.foldl J8 b).length ≤ b.length + t.length := by
 induction t generalizing b with
 | nil => simp
 | cons x t ih =>
  have h1 := ih (b := J8 b x)
  have h2 := a6r (h := G0 b x) (p := fun y => decide (x < y)) (f := x) (l := b)
  simp only [List.foldl_cons, List.length_cons]; unfold J8 at *; omega
theorem b9w : (a1F b a).length ≤ b.length + a.2.length := by
 unfold a1F
 have h1 := a4G (b := b) (t := a.2.filter fun t => inR t 10 17)
 have h2 := List.length_filter_le (fun t => inR t 10 17) a.2
 omega
theorem b2X (h : ∀ a ∈ d8, a.2.length ≤ 3) (k : Nat) : (d8.getD k (0, [])).2.length ≤ 3 := by
 rw [List.getD]
 cases hk : d8[k]? with
 | none => simp
 | some a => exact h a (List.mem_of_getElem? hk)
theorem b8M (h : ∀ a ∈ d8, a.2.length ≤ 3) : (grV l d8 n).length ≤ 3 * n := by
 induction n with
 | zero => simp [grV]
 | succ n ih =>
  rw [grV]
  cases (gNx l d8 (grI l d8 n)).2.2
  ·simp only [cond_false]; omega
  ·simp only [cond_true]
   have h1 := b9w (b := grV l d8 n) (a := d8.getD (gNx l d8 (grI l d8 n)).1.toNat (0, []))
   have h2 := b2X h (gNx l d8 (grI l d8 n)).1.toNat
   omega
theorem b9c (h : ∀ a ∈ d8, a.2.length ≤ 3) : (grI l d8 n).2.2.length ≤ 3 * n := by
 induction n with
 | zero => simp [grI]
 | succ n ih =>
  cases hx : (gNx l d8 (grI l d8 n)).2.2
  ·rw [a0k hx]; omega
  ·rw [W0 hx]
   have h2 := b2X h (gNx l d8 (grI l d8 n)).1.toNat
   simp only [List.length_append]; omega
theorem b6V : H6 l a (grV l d8 n) = H6 l a (grI l d8 n).2.2 := b8Y fun v hv => b8K hv
end
def exM (m : MT5) : MT5 := cond (decide (m.2.2.1 ≠ 0)) (-1, m.2) m
def exF (l : List MT5) : List MT5 := l.map exM
def I6 (al : List AT2) (ds : List Bool) : List AT2 := ((al.zip ds).filter fun x => x.2).map fun x => x.1
def G3 (l : List MT5) (d8 : List AT2) : List AT2 := I6 d8 (grF (exF l) d8).2.1
section
variable {al : List AT2} {ds : List Bool} {g : Nat} {l : List MT5} {d8 : List AT2}
theorem a6o (h1 : g < al.length) (h2 : g < ds.length) : I6 (al.take (g + 1)) (ds.take (g + 1)) = I6 (al.take g) (ds.take g) ++ cond ds[g] [al[g]] [] := by
 unfold I6
 rw [List.take_succ_eq_append_getElem h1, List.take_succ_eq_append_getElem h2, List.zip_append (by simp; omega), List.filter_append, List.map_append]
 congr 1
 cases ds[g] <;> rfl
theorem a0W (h1 : ¬ g < al.length) (h : ds.length = al.length) : I6 (al.take g) (ds.take g) = I6 al ds := by
 rw [List.take_of_length_le (by omega), List.take_of_length_le (by omega)]
theorem a7a : (I6 al ds).length ≤ al.length := by
 unfold I6
 rw [List.length_map]
 refine Nat.le_trans (List.length_filter_le _ _) ?_
 rw [List.length_zip]; omega
theorem b6e {a : AT2} (h : a ∈ I6 al ds) : a ∈ al := by
 obtain ⟨x, hx, rfl⟩ := List.mem_map.1 h
 exact (List.of_mem_zip (List.mem_filter.1 hx).1).1
theorem b7G {s : List (Int × Int)} {k : Int} {a : AT2} (h : (s.map fun x => x.1).Nodup) : (s.filter fun x => decide (x.1 = k)).map (fun _ => a) = cond (s.any fun x => decide (x.1 = k)) [a] [] := by
 induction s with
 | nil => rfl
 | cons x s ih =>
  rw [List.map_cons, List.nodup_cons] at h
  by_cases hx : x.1 = k
  ·have h0 : (s.filter fun x => decide (x.1 = k)) = [] := List.filter_eq_nil_iff.2 fun y hy => by
    simp only [decide_eq_true_eq]
    intro e
    exact h.1 (List.mem_map.2 ⟨y, hy, by rw [e, hx]⟩)
   rw [List.filter_cons_of_pos (by simp [hx]), h0, List.any_cons, decide_eq_true hx]; rfl
  ·rw [List.filter_cons_of_neg (by simp [hx]), ih h.2, List.any_cons, decide_eq_false hx, Bool.false_or]
theorem b7P {k : Nat} : (grF l d8).2.1.getD k false = (grF l d8).1.any fun x => decide (x.1 = (k : Int)) := a8c.1 k
theorem b9x {k : Nat} {a : AT2} (hk : k < (grF l d8).2.1.length) : ((grF l d8).1.filter fun x => decide (x.1 = (k : Int))).map (fun _ => a) = cond ((grF l d8).2.1[k]) [a] [] := by
 have h0 := (a8c (l := l) (d8 := d8) (n := d8.length)).2.1
 change (((grF l d8).1).map fun x => x.1).Nodup at h0
 rw [b7G h0]
 have := b7P (l := l) (d8 := d8) (k := k)
 rw [List.getD, List.getElem?_eq_getElem hk, Option.getD_some] at this
 rw [this]
end
section
variable {l : List MT5} {d8 : List AT2} {g n r i : Nat} {q : List Int × List AT2} {s : List Int}
theorem c1N (h : (E5 l (grI l d8 n).2.2 d8 (grI l d8 n).2.1 0).2.2 = true) : 0 ≤ (E5 l (grI l d8 n).2.2 d8 (grI l d8 n).2.1 0).1 ∧ (E5 l (grI l d8 n).2.2 d8 (grI l d8 n).2.1 0).1.toNat < d8.length ∧ 0 ≤ (E5 l (grI l d8 n).2.2 d8 (grI l d8 n).2.1 0).2.1 ∧ (E5 l (grI l d8 n).2.2 d8 (grI l d8 n).2.1 0).2.1 < l.length := by
 obtain ⟨k, h1, h2, h3, a, h4, h5, h6⟩ := a3t h
 refine ⟨by rw [h1]; omega, by rw [h1]; omega, by rw [h5]; exact h6, ?_⟩
 rw [h5]; unfold H6 at h6 ⊢
 have := (a7d (p := fun m => K6 m a (grI l d8 n).2.2) (s := l) (by omega)).2
 omega
theorem b2L (h : (E5 l (grI l d8 n).2.2 d8 (grI l d8 n).2.1 0).2.2 = true) : (grI l d8 n).1 ++ [((E5 l (grI l d8 n).2.2 d8 (grI l d8 n).2.1 0).1, (E5 l (grI l d8 n).2.2 d8 (grI l d8 n).2.1 0).2.1)] = (grI l d8 (n + 1)).1 := by rw [W0 h]; rfl
theorem c1c (h : (E5 l (grI l d8 n).2.2 d8 (grI l d8 n).2.1 0).2.2 = true) : (grI l d8 n).2.1.set (E5 l (grI l d8 n).2.2 d8 (grI l d8 n).2.1 0).1.toNat true = (grI l d8 (n + 1)).2.1 := by rw [W0 h]; rfl
theorem c0U (h : (E5 l (grI l d8 n).2.2 d8 (grI l d8 n).2.1 0).2.2 = true) (hk : (E5 l (grI l d8 n).2.2 d8 (grI l d8 n).2.1 0).1.toNat < d8.length) : (grI l d8 n).2.2 ++ (d8[(E5 l (grI l d8 n).2.2 d8 (grI l d8 n).2.1 0).1.toNat]).2 = (grI l d8 (n + 1)).2.2 := by
 rw [W0 h]
 show _ = (grI l d8 n).2.2 ++ (d8.getD (E5 l (grI l d8 n).2.2 d8 (grI l d8 n).2.1 0).1.toNat (0, [])).2
 rw [List.getD, List.getElem?_eq_getElem hk, Option.getD_some]
def sgI (l : List MT5) (d8 : List AT2) (r i : Nat) : Prop := gNx l d8 (grI l d8 r) = E5 l (grI l d8 r).2.2 (d8.drop i) ((grI l d8 r).2.1.drop i) i
theorem b9f : sgI l d8 r 0 := rfl
theorem b5l (hi : i < d8.length) : G0 ((grI l d8 r).1.map fun x => x.1) i = (grI l d8 r).2.1[i]'(by rw [a2k]; exact hi) := by
 rw [b5k, ← a8c.1 i, List.getD, List.getElem?_eq_getElem (by rw [a2k]; exact hi), Option.getD_some]
theorem b4K (h : sgI l d8 r i) (hi : i < d8.length) (hm : ¬ 0 ≤ H6 l d8[i] (grV l d8 r)) : sgI l d8 r (i + 1) := by
 unfold sgI at *
 rw [h]
 exact a6i hi (by rw [a2k]; exact hi) (by rw [b6V] at hm; simp [hm])
theorem b4W (h : sgI l d8 r i) (hi : i < d8.length) (hm : G0 ((grI l d8 r).1.map fun x => x.1) i = true) : sgI l d8 r (i + 1) := by
 unfold sgI at *
 rw [h]
 exact a6i hi (by rw [a2k]; exact hi) (by rw [b5l hi] at hm; simp [hm])
theorem b6L (h : sgI l d8 r i) (hi : i < d8.length) (hm : 0 ≤ H6 l d8[i] (grV l d8 r)) (hu : G0 ((grI l d8 r).1.map fun x => x.1) i = false) : gNx l d8 (grI l d8 r) = ((i : Int), H6 l d8[i] (grV l d8 r), true) := by
 unfold sgI at h
 rw [b5l hi] at hu
 rw [b6V] at hm ⊢
 rw [h, a6s hi (by rw [a2k]; exact hi) (by simp [hu, hm])]
theorem sg1 (h : sgI l d8 r i) (hi : i < d8.length) (hm : 0 ≤ H6 l d8[i] (grV l d8 r)) (hu : G0 ((grI l d8 r).1.map fun x => x.1) i = false) : (grI l d8 r).1 ++ [((i : Int), H6 l d8[i] (grV l d8 r))] = (grI l d8 (r + 1)).1 := by
 have h1 := b6L h hi hm hu
 rw [W0 (by rw [h1]), h1]
theorem sg2 (h : sgI l d8 r i) (hi : i < d8.length) (hm : 0 ≤ H6 l d8[i] (grV l d8 r)) (hu : G0 ((grI l d8 r).1.map fun x => x.1) i = false) : a1F (grV l d8 r) d8[i] = grV l d8 (r + 1) := by
 have h1 := b6L h hi hm hu
 rw [grV, h1, cond_true, List.getD, Int.toNat_natCast, List.getElem?_eq_getElem hi, Option.getD_some]
theorem sg3 (h : sgI l d8 r i) (hi : i < d8.length) (hm : 0 ≤ H6 l d8[i] (grV l d8 r)) (hu : G0 ((grI l d8 r).1.map fun x => x.1) i = false) : ((grI l d8 r).1.map fun x => x.1) ++ [(i : Int)] = (grI l d8 (r + 1)).1.map fun x => x.1 := by
 rw [← sg1 h hi hm hu, List.map_append]; rfl
theorem b6g (h : sgI l d8 r i) (hi : ¬ i < d8.length) : (gNx l d8 (grI l d8 r)).2.2 = false := by
 unfold sgI at h
 rw [h, a5Z hi]
theorem se1 (h : sgI l d8 r i) (hi : ¬ i < d8.length) : grI l d8 r = grI l d8 (r + 1) := (a0k (b6g h hi)).symm
theorem se2 (h : sgI l d8 r i) (hi : ¬ i < d8.length) : grV l d8 r = grV l d8 (r + 1) := by rw [grV, b6g h hi]; rfl
theorem b6p {b t : List Int} {k : Nat} (hk : k < t.length) (h : inR t[k] 10 17 = true) : J8 (((t.take k).filter fun t => inR t 10 17).foldl J8 b) t[k] = ((t.take (k + 1)).filter fun t => inR t 10 17).foldl J8 b := by
 rw [List.take_succ_eq_append_getElem hk, List.filter_append, List.foldl_append, List.filter_cons_of_pos (p := fun t => inR t 10 17) h]; rfl
theorem b6R {b t : List Int} {k : Nat} (hk : k < t.length) (h : inR t[k] 10 17 = false) : ((t.take k).filter fun t => inR t 10 17).foldl J8 b = ((t.take (k + 1)).filter fun t => inR t 10 17).foldl J8 b := by
 rw [List.take_succ_eq_append_getElem hk, List.filter_append, List.foldl_append, List.filter_cons_of_neg (p := fun t => inR t 10 17) (by rw [h]; decide)]; rfl
theorem b3F {al : List AT2} {ds : List Bool} (h1 : g < al.length) (h2 : g < ds.length) (h : ds[g] = true) : I6 (al.take g) (ds.take g) ++ [al[g]] = I6 (al.take (g + 1)) (ds.take (g + 1)) := by rw [a6o h1 h2, h]; rfl
theorem b3K {al : List AT2} {ds : List Bool} (h1 : g < al.length) (h2 : g < ds.length) (h : ds[g] = false) : I6 (al.take g) (ds.take g) = I6 (al.take (g + 1)) (ds.take (g + 1)) := by rw [a6o h1 h2, h]; exact (List.append_nil _).symm
theorem b0L : ∀ {al : List AT2}, (∀ a ∈ al, a.2.length ≤ 3) → B9 (fun x => x.2.length) al ≤ 4 * al.length
 | [], _ => by simp [B9, u5]
 | a :: al, h => by
  have h1 := b0L (al := al) fun b hb => h b (List.mem_cons_of_mem _ hb)
  have h2 := h a (List.mem_cons_self ..)
  simp only [B9, u5, List.length_cons, List.map_cons, List.sum_cons] at *; omega
theorem b3r {al : List AT2} {ds : List Bool} (h : ∀ a ∈ al, a.2.length ≤ 3) (hl : al.length ≤ 4) : B9 (fun x => x.2.length) (I6 (al.take g) ds) ≤ 1048576 := by
 have h1 := b0L (al := I6 (al.take g) ds) fun a ha => h a (List.mem_of_mem_take (b6e ha))
 have h2 := a7a (al := al.take g) (ds := ds)
 have h3 : (al.take g).length ≤ al.length := by rw [List.length_take]; omega
 omega
theorem b8h {a : AT2} {b : List Int} : H6 l a b ≤ l.length ∧ -1 ≤ H6 l a b := a3c
theorem a9Y {X : List (Int × Int)} {k : Nat} {c : Int} {a : AT2} (hk : k < X.length) : ((X.take (k + 1)).filter fun x => decide (x.1 = c)).map (fun _ => a) = ((X.take k).filter fun x => decide (x.1 = c)).map (fun _ => a) ++ cond (decide (X[k].1 = c)) [a] [] := by
 rw [List.take_succ_eq_append_getElem hk, List.filter_append, List.map_append]
 congr 1
 cases h : decide (X[k].1 = c) <;> simp_all
theorem b4d {P : List AT2} {X : List (Int × Int)} {k : Nat} {c : Int} {a : AT2} (hk : k < X.length) (h : X[k].1 = c) : P ++ ((X.take k).filter fun x => decide (x.1 = c)).map (fun _ => a) ++ [a] = P ++ ((X.take (k + 1)).filter fun x => decide (x.1 = c)).map fun _ => a := by
 rw [a9Y hk, decide_eq_true h, List.append_assoc]; rfl
theorem b3B {P : List AT2} {X : List (Int × Int)} {k : Nat} {c : Int} {a : AT2} (hk : k < X.length) (h : ¬ X[k].1 = c) : P ++ ((X.take k).filter fun x => decide (x.1 = c)).map (fun _ => a) = P ++ ((X.take (k + 1)).filter fun x => decide (x.1 = c)).map fun _ => a := by
 rw [a9Y hk, decide_eq_false h]; simp
theorem b5B {X : List (Int × Int)} {k : Nat} {c : Int} : ((X.take k).filter fun x => decide (x.1 = c)).length ≤ X.length :=
 Nat.le_trans (List.length_filter_le _ _) (by rw [List.length_take]; omega)
theorem b6E {X : List (Int × Int)} {k : Nat} {c : Int} {a : AT2} : (((X.take k).filter fun x => decide (x.1 = c)).map fun _ => a).length ≤ X.length := by
 rw [List.length_map]
 exact Nat.le_trans (List.length_filter_le _ _) (by rw [List.length_take]; omega)
theorem b1v : (grF l d8).2.1.length = d8.length := a2k
theorem b7p {X : List (Int × Int)} {k : Nat} (hX : X = (grF l d8).1) (hk : ¬ k < X.length) (hg : g < d8.length) : I6 (d8.take g) ((grF l d8).2.1.take g) ++ ((X.take k).filter fun x => decide (x.1 = (g : Int))).map (fun _ => d8[g]) = I6 (d8.take (g + 1)) ((grF l d8).2.1.take (g + 1)) := by
 subst hX
 have hd : g < (grF l d8).2.1.length := by rw [b1v]; exact hg
 rw [show (grF l d8).1.take k = (grF l d8).1 from List.take_of_length_le (by omega), b9x hd, a6o hg hd]
end
def S8 (s : List Int) (l : List MT5) (q : List Int × List AT2) : Bool := (E2 s l && D2 s q) && D2 s (q.1, G3 l q.2)
def H9 (s : List Int) (l : List MT5) (q : List Int × List AT2) : List Int := cond (S8 s l q) q.1 []
def H7 (s : List Int) (l : List MT5) (q : List Int × List AT2) : List AT2 := cond (S8 s l q) (G3 l q.2) []
section
variable {s : List Int} {l : List MT5} {q : List Int × List AT2}
theorem J7 (h : S8 s l q = false) : [] = H9 s l q ∧ [] = H7 s l q ∧ false = S8 s l q := by rw [H9, H7, h]; exact ⟨rfl, rfl, rfl⟩
theorem U8 (h : (E2 s l && D2 s q) = false) : S8 s l q = false := by rw [S8, h]; rfl
theorem U7 (h : D2 s (q.1, G3 l q.2) = false) : S8 s l q = false := by rw [S8, h, Bool.and_false]
theorem Q0 (h1 : (E2 s l && D2 s q) = true) (h2 : D2 s (q.1, G3 l q.2) = true) : q.1 = H9 s l q ∧ G3 l q.2 = H7 s l q ∧ true = S8 s l q := by
 have h : S8 s l q = true := by rw [S8, h1, h2]; rfl
 rw [H9, H7, h]; exact ⟨rfl, rfl, rfl⟩
end
abbrev GQ := (List Int × List AT2) × List AT2
def c0f (g : GQ) : List Int := f0 (fun t => inR t 10 17) g.1.2
def b9W (s : List Int) (l : List MT5) (g : GQ) : Bool :=
 E2 s l && (b8I s g && (!decide (((grF (exF l) g.1.2).1.length : Int) < g.1.2.length) && !g.2.any fun a => decide (H6 (exF l) a (c0f g) < 0)))
def c2G (s : List Int) (l : List MT5) (g : GQ) : List (Int × Int) := cond (b9W s l g) (grF (exF l) g.1.2).1 []
def c2N (s : List Int) (l : List MT5) (g : GQ) : List Int := cond (b9W s l g) (g.2.map fun a => H6 (exF l) a (c0f g)) []
section
variable {s : List Int} {l : List MT5} {g : GQ} {i : Nat}
theorem c0e {q : List Int × List AT2} (h : S8 s l q = true) : D2 s (H9 s l q, H7 s l q) = true ∧ D2 s q = true := by
 rw [H9, H7, h]
 simp only [S8, Bool.and_eq_true] at h
 exact ⟨h.2, h.1.2⟩
end
end Go.Proofs.YtdopeopehgdccaaGreat
