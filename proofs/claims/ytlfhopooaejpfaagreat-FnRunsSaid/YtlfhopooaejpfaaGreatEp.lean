import Derived.Test.YtlfhopooaejpfaaGreatBd
namespace Go.Proofs.YtlfhopooaejpfaaGreat
set_option linter.unusedVariables false
set_option linter.unusedSimpArgs false
abbrev MT5 := Int × List Int × Int × Int × Int
abbrev AT2 := Int × List Int
abbrev GS := List (Int × Int) × List Bool × List Int
def Y1 (a : AT2) (b : List Int) (i : Int) : Bool := !inR i 0 ((a.2.length : Int) - 1) || (inR (at0 a.2 i) 10 17 && !G7 b (at0 a.2 i))
def P6 (m : MT5) (a : AT2) (b : List Int) : Bool := decide (m.1 = a.1) && !m.2.1.any (Y1 a b)
def P0 (l : List MT5) (a : AT2) (b : List Int) : Int := H3 (fun m => P6 m a b) l
def a0m (l : List MT5) (b : List Int) : List AT2 → List Bool → Nat → Int × Int × Bool
 | a :: al, d :: ds, i => if !d && decide (0 ≤ P0 l a b) then ((i : Int), P0 l a b, true) else a0m l b al ds (i + 1)
 | _, _, _ => (0, 0, false)
def gNx (l : List MT5) (d8 : List AT2) (σ : GS) : Int × Int × Bool := a0m l σ.2.2 d8 σ.2.1 0
def grS (l : List MT5) (d8 : List AT2) (σ : GS) : GS := cond (gNx l d8 σ).2.2
 (σ.1 ++ [((gNx l d8 σ).1, (gNx l d8 σ).2.1)], σ.2.1.set (gNx l d8 σ).1.toNat true, σ.2.2 ++ (d8.getD (gNx l d8 σ).1.toNat (0, [])).2) σ
def grI (l : List MT5) (d8 : List AT2) : Nat → GS
 | 0 => ([], List.replicate d8.length false, [])
 | n + 1 => grS l d8 (grI l d8 n)
def grF (l : List MT5) (d8 : List AT2) : GS := grI l d8 d8.length
section
variable {l : List MT5} {d8 al : List AT2} {ds : List Bool} {b b' : List Int} {i n g : Nat} {σ : GS}
theorem a9D {a : AT2} {d : Bool} (h : ¬ (!d && decide (0 ≤ P0 l a b)) = true) : a0m l b (a :: al) (d :: ds) i = a0m l b al ds (i + 1) := by rw [a0m, if_neg h]
theorem b1q {a : AT2} {d : Bool} (h : (!d && decide (0 ≤ P0 l a b)) = true) : a0m l b (a :: al) (d :: ds) i = ((i : Int), P0 l a b, true) := by rw [a0m, if_pos h]
theorem b0n (h1 : g < al.length) (h2 : g < ds.length) (h : ¬ (!ds[g] && decide (0 ≤ P0 l al[g] b)) = true) : a0m l b (al.drop g) (ds.drop g) g = a0m l b (al.drop (g + 1)) (ds.drop (g + 1)) (g + 1) := by
 rw [List.drop_eq_getElem_cons h1, List.drop_eq_getElem_cons h2, a9D h]
theorem b4j (h1 : g < al.length) (h2 : g < ds.length) (h : (!ds[g] && decide (0 ≤ P0 l al[g] b)) = true) : a0m l b (al.drop g) (ds.drop g) g = ((g : Int), P0 l al[g] b, true) := by
 rw [List.drop_eq_getElem_cons h1, List.drop_eq_getElem_cons h2, b1q h]
theorem b4h (h1 : ¬ g < al.length) : a0m l b (al.drop g) (ds.drop g) g = (0, 0, false) := by
 rw [List.drop_eq_nil_of_le (by omega)]; cases ds.drop g <;> rfl
theorem a9x : ∀ {al : List AT2} {ds : List Bool} {i : Nat}, (a0m l b al ds i).2.2 = true → ∃ k, (a0m l b al ds i).1 = ((i + k : Nat) : Int) ∧ k < al.length ∧ ds[k]? = some false ∧ ∃ a, al[k]? = some a ∧ (a0m l b al ds i).2.1 = P0 l a b ∧ 0 ≤ P0 l a b
 | [], _, _, h => by simp [a0m] at h
 | _ :: _, [], _, h => by simp [a0m] at h
 | a :: al, d :: ds, i, h => by
  by_cases hc : (!d && decide (0 ≤ P0 l a b)) = true
  ·rw [b1q hc] at h ⊢
   simp only [Bool.and_eq_true, Bool.not_eq_true', decide_eq_true_eq] at hc
   exact ⟨0, rfl, by simp, by simp [hc.1], a, rfl, rfl, hc.2⟩
  ·rw [a9D hc] at h ⊢
   obtain ⟨k, h1, h2, h3, a', h4, h5, h6⟩ := a9x h
   exact ⟨k + 1, by rw [h1]; congr 1; omega, by simp; omega, by simpa using h3, a', by simpa using h4, h5, h6⟩
theorem a4U : (grI l d8 n).2.1.length = d8.length := by
 induction n with
 | zero => simp [grI]
 | succ n ih =>
  simp only [grI, grS]
  cases (gNx l d8 (grI l d8 n)).2.2
  ·exact ih
  ·simp only [cond_true, List.length_set]; exact ih
theorem a2Q : ∀ {ds : List Bool} {k : Nat}, ds[k]? = some false → (ds.set k true).count false + 1 = ds.count false
 | [], _, h => by simp at h
 | d :: ds, 0, h => by simp at h; subst h; simp
 | d :: ds, k + 1, h => by
  have := a2Q (ds := ds) (k := k) (by simpa using h)
  simp only [List.set_cons_succ, List.count_cons]; omega
theorem b4p : (grI l d8 n).2.1.count false + (grI l d8 n).1.length = d8.length := by
 induction n with
 | zero => simp [grI]
 | succ n ih =>
  simp only [grI, grS]
  cases h : (gNx l d8 (grI l d8 n)).2.2
  ·exact ih
  ·obtain ⟨k, h1, h2, h3, _⟩ := a9x (show (a0m l (grI l d8 n).2.2 d8 (grI l d8 n).2.1 0).2.2 = true from h)
   have h4 : (gNx l d8 (grI l d8 n)).1.toNat = k := by unfold gNx; rw [h1]; simp
   simp only [cond_true, h4, List.length_append, List.length_cons, List.length_nil]
   have := a2Q h3
   omega
theorem b4R : (grI l d8 n).1.length ≤ d8.length := by have := b4p (l := l) (d8 := d8) (n := n); omega
def grP (l : List MT5) (d8 : List AT2) (n : Nat) : Prop := (grI l d8 n).1.length = n
theorem a7x (hx : (gNx l d8 (grI l d8 n)).2.2 = false) : grI l d8 (n + 1) = grI l d8 n := by simp [grI, grS, hx]
theorem a7C (hx : (gNx l d8 (grI l d8 n)).2.2 = true) : grI l d8 (n + 1) = ((grI l d8 n).1 ++ [((gNx l d8 (grI l d8 n)).1, (gNx l d8 (grI l d8 n)).2.1)], (grI l d8 n).2.1.set (gNx l d8 (grI l d8 n)).1.toNat true, (grI l d8 n).2.2 ++ (d8.getD (gNx l d8 (grI l d8 n)).1.toNat (0, [])).2) := by
 simp [grI, grS, hx]
theorem b5s : (∀ k, (grI l d8 n).2.1.getD k false = (grI l d8 n).1.any fun x => decide (x.1 = (k : Int))) ∧ ((grI l d8 n).1.map fun x => x.1).Nodup ∧ ∀ x ∈ (grI l d8 n).1, 0 ≤ x.1 ∧ x.1.toNat < d8.length ∧ 0 ≤ x.2 ∧ x.2 < (l.length : Int) := by
 induction n with
 | zero =>
  refine ⟨fun k => ?_, by simp [grI], by simp [grI]⟩
  simp only [grI, List.any_nil, List.getD]
  cases h : (List.replicate d8.length false)[k]? with
  | none => rfl
  | some v => rw [List.getElem?_replicate] at h; split at h <;> simp at h; rw [← h]; rfl
 | succ n ih =>
  obtain ⟨i1, i2, i3⟩ := ih
  cases h : (gNx l d8 (grI l d8 n)).2.2
  ·rw [a7x h]; exact ⟨i1, i2, i3⟩
  ·rw [a7C h]
   obtain ⟨k, h1, h2, h3, a, h4, h5, h6⟩ := a9x (show (a0m l (grI l d8 n).2.2 d8 (grI l d8 n).2.1 0).2.2 = true from h)
   have e1 : (gNx l d8 (grI l d8 n)).1 = (k : Int) := by unfold gNx; rw [h1]; simp
   have e2 : (gNx l d8 (grI l d8 n)).1.toNat = k := by rw [e1]; simp
   have e3 : (gNx l d8 (grI l d8 n)).2.1 = P0 l a (grI l d8 n).2.2 := h5
   have hk : k < (grI l d8 n).2.1.length := (List.getElem?_eq_some_iff.1 h3).1
   have i1k := i1 k
   simp only [List.getD, h3, Option.getD_some] at i1k
   refine ⟨fun j => ?_, ?_, ?_⟩
   ·simp only [e2, e1, List.any_append, List.any_cons, List.any_nil, Bool.or_false, ← i1 j]
    by_cases hj : j = k
    ·subst hj; simp [List.getD, hk]
    ·have : ¬ ((k : Int) = (j : Int)) := by omega
     simp only [this, decide_false, Bool.or_false, List.getD, Int.toNat_natCast, List.getElem?_set_ne (Ne.symm hj)]
   ·rw [List.map_append, List.nodup_append]
    refine ⟨i2, by simp, fun u hu v hv e => ?_⟩
    simp only [List.map_cons, List.map_nil, List.mem_singleton] at hv
    subst e; rw [hv, e1] at hu
    obtain ⟨y, hy, hy2⟩ := List.mem_map.1 hu
    have := List.any_eq_false.1 i1k.symm y hy
    simp [hy2] at this
   ·intro x hx
    rcases List.mem_append.1 hx with hx | hx
    ·exact i3 x hx
    ·simp only [List.mem_singleton] at hx; subst hx
     refine ⟨by rw [e1]; omega, by rw [e2]; exact h2, by rw [e3]; exact h6, ?_⟩
     show (gNx l d8 (grI l d8 n)).2.1 < _
     rw [e3]
     unfold P0 at h6 ⊢
     have := (a6I (p := fun m => P6 m a (grI l d8 n).2.2) (s := l) (by omega)).2
     omega
theorem b1r {s : List (Int × Int)} {k : Int} : G7 (s.map fun x => x.1) k = s.any fun x => decide (x.1 = k) := by
 unfold G7; rw [List.any_map]; rfl
end
def a0l (b : List Int) (a : AT2) : List Int := (a.2.filter fun t => inR t 10 17).foldl I7 b
def grV (l : List MT5) (d8 : List AT2) : Nat → List Int
 | 0 => []
 | n + 1 => cond (gNx l d8 (grI l d8 n)).2.2 (a0l (grV l d8 n) (d8.getD (gNx l d8 (grI l d8 n)).1.toNat (0, []))) (grV l d8 n)
section
variable {l : List MT5} {d8 al : List AT2} {ds : List Bool} {b b' : List Int} {i n g : Nat} {m : MT5} {a : AT2}
theorem b6D (h : ∀ v, inR v 10 17 = true → G7 b v = G7 b' v) : Y1 a b = Y1 a b' := by
 funext i; unfold Y1
 cases hv : inR (at0 a.2 i) 10 17
 ·rfl
 ·rw [h _ hv]
theorem b3b (h : ∀ v, inR v 10 17 = true → G7 b v = G7 b' v) : P6 m a b = P6 m a b' := by unfold P6; rw [b6D h]
theorem b5k (h : ∀ v, inR v 10 17 = true → G7 b v = G7 b' v) : P0 l a b = P0 l a b' := by
 unfold P0; congr 1; funext m; exact b3b h
theorem a8y {α : Type} {p : α → Bool} {f : α} : ∀ {l : List α}, l.any p = true → ∀ y, y ∈ J4 p f l ↔ y ∈ l ∨ y = f
 | [], h, _ => by simp at h
 | x :: l, h, y => by
  by_cases hp : p x = true
  ·simp only [J4, hp, if_true, List.mem_cons]
   constructor
   ·rintro (h | h | h)
    ·exact .inr h
    ·exact .inl (.inl h)
    ·exact .inl (.inr h)
   ·rintro ((h | h) | h)
    ·exact .inr (.inl h)
    ·exact .inr (.inr h)
    ·exact .inl h
  ·have h1 : l.any p = true := by simpa [hp] using h
   simp only [J4, hp, if_false, List.mem_cons, a8y h1 y, Bool.false_eq_true]
   exact or_assoc.symm
theorem b4o {x y : Int} : y ∈ I7 b x ↔ y ∈ b ∨ y = x := by
 unfold I7 P4
 split
 ·rename_i h
  rw [Y2] at h
  exact ⟨.inl, fun h' => h'.elim id fun e => e ▸ h⟩
 ·split
  ·rename_i h; exact a8y h y
  ·simp
theorem b5x {x v : Int} : G7 (I7 b x) v = (G7 b v || decide (x = v)) := by
 rw [Bool.eq_iff_iff, Y2, b4o, Bool.or_eq_true, Y2, decide_eq_true_eq]
 exact ⟨fun h => h.imp id Eq.symm, fun h => h.imp id Eq.symm⟩
theorem b1j (a : AT2) {v : Int} (hv : inR v 10 17 = true) : G7 (a0l b a) v = (G7 b v || G7 a.2 v) := by
 unfold a0l
 generalize a.2 = t
 induction t generalizing b with
 | nil => simp [G7]
 | cons x t ih =>
  by_cases hx : inR x 10 17 = true
  ·rw [List.filter_cons_of_pos (p := fun t => inR t 10 17) hx, List.foldl_cons, ih, b5x]
   simp only [G7, List.any_cons, Bool.or_assoc]
  ·rw [List.filter_cons_of_neg (p := fun t => inR t 10 17) hx, ih]
   have : decide (x = v) = false := decide_eq_false fun e => hx (e ▸ hv)
   simp only [G7, List.any_cons, this, Bool.false_or]
theorem b5n {v : Int} (hv : inR v 10 17 = true) : G7 (grV l d8 n) v = G7 (grI l d8 n).2.2 v := by
 induction n with
 | zero => rfl
 | succ n ih =>
  cases h : (gNx l d8 (grI l d8 n)).2.2
  ·rw [a7x h, grV, h]; exact ih
  ·rw [a7C h, grV, h, cond_true, b1j _ hv, ih]
   simp only [G7, List.any_append]
theorem a2v {t : List Int} : (t.foldl I7 b).length ≤ b.length + t.length := by
 induction t generalizing b with
 | nil => simp
 | cons x t ih =>
  have h1 := ih (b := I7 b x)
  have h2 := a2E (h := G7 b x) (p := fun y => decide (x < y)) (f := x) (l := b)
  simp only [List.foldl_cons, List.length_cons]; unfold I7 at *; omega
theorem b5C : (a0l b a).length ≤ b.length + a.2.length := by
 unfold a0l
 have h1 := a2v (b := b) (t := a.2.filter fun t => inR t 10 17)
 have h2 := List.length_filter_le (fun t => inR t 10 17) a.2
 omega
theorem b4r (h : ∀ a ∈ d8, a.2.length ≤ 3) (k : Nat) : (d8.getD k (0, [])).2.length ≤ 3 := by
 rw [List.getD]
 cases hk : d8[k]? with
 | none => simp
 | some a => exact h a (List.mem_of_getElem? hk)
theorem b5B (h : ∀ a ∈ d8, a.2.length ≤ 3) : (grV l d8 n).length ≤ 3 * n := by
 induction n with
 | zero => simp [grV]
 | succ n ih =>
  rw [grV]
  cases (gNx l d8 (grI l d8 n)).2.2
  ·simp only [cond_false]; omega
  ·simp only [cond_true]
   have h1 := b5C (b := grV l d8 n) (a := d8.getD (gNx l d8 (grI l d8 n)).1.toNat (0, []))
   have h2 := b4r h (gNx l d8 (grI l d8 n)).1.toNat
   omega
theorem b3p : P0 l a (grV l d8 n) = P0 l a (grI l d8 n).2.2 := b5k fun v hv => b5n hv
end
def exM (m : MT5) : MT5 := cond (decide (m.2.2.1 ≠ 0)) (-1, m.2) m
def exF (l : List MT5) : List MT5 := l.map exM
def b7q (al : List AT2) (ds : List Bool) : List AT2 := ((al.zip ds).filter fun x => x.2).map fun x => x.1
def b4I (l : List MT5) (d8 : List AT2) : List AT2 := b7q d8 (grF (exF l) d8).2.1
section
variable {al : List AT2} {ds : List Bool} {g : Nat} {l : List MT5} {d8 : List AT2}
end
section
variable {l : List MT5} {d8 : List AT2} {g n r i : Nat} {q : List Int × List AT2} {s : List Int}
def sgI (l : List MT5) (d8 : List AT2) (r i : Nat) : Prop := gNx l d8 (grI l d8 r) = a0m l (grI l d8 r).2.2 (d8.drop i) ((grI l d8 r).2.1.drop i) i
theorem b5a : sgI l d8 r 0 := rfl
theorem b1a (hi : i < d8.length) : G7 ((grI l d8 r).1.map fun x => x.1) i = (grI l d8 r).2.1[i]'(by rw [a4U]; exact hi) := by
 rw [b1r, ← b5s.1 i, List.getD, List.getElem?_eq_getElem (by rw [a4U]; exact hi), Option.getD_some]
theorem b1e (h : sgI l d8 r i) (hi : i < d8.length) (hm : ¬ 0 ≤ P0 l d8[i] (grV l d8 r)) : sgI l d8 r (i + 1) := by
 unfold sgI at *
 rw [h]
 exact b0n hi (by rw [a4U]; exact hi) (by rw [b3p] at hm; simp [hm])
theorem b1x (h : sgI l d8 r i) (hi : i < d8.length) (hm : G7 ((grI l d8 r).1.map fun x => x.1) i = true) : sgI l d8 r (i + 1) := by
 unfold sgI at *
 rw [h]
 exact b0n hi (by rw [a4U]; exact hi) (by rw [b1a hi] at hm; simp [hm])
theorem b2R (h : sgI l d8 r i) (hi : i < d8.length) (hm : 0 ≤ P0 l d8[i] (grV l d8 r)) (hu : G7 ((grI l d8 r).1.map fun x => x.1) i = false) : gNx l d8 (grI l d8 r) = ((i : Int), P0 l d8[i] (grV l d8 r), true) := by
 unfold sgI at h
 rw [b1a hi] at hu
 rw [b3p] at hm ⊢
 rw [h, b4j hi (by rw [a4U]; exact hi) (by simp [hu, hm])]
theorem sg1 (h : sgI l d8 r i) (hi : i < d8.length) (hm : 0 ≤ P0 l d8[i] (grV l d8 r)) (hu : G7 ((grI l d8 r).1.map fun x => x.1) i = false) : (grI l d8 r).1 ++ [((i : Int), P0 l d8[i] (grV l d8 r))] = (grI l d8 (r + 1)).1 := by
 have h1 := b2R h hi hm hu
 rw [a7C (by rw [h1]), h1]
theorem sg2 (h : sgI l d8 r i) (hi : i < d8.length) (hm : 0 ≤ P0 l d8[i] (grV l d8 r)) (hu : G7 ((grI l d8 r).1.map fun x => x.1) i = false) : a0l (grV l d8 r) d8[i] = grV l d8 (r + 1) := by
 have h1 := b2R h hi hm hu
 rw [grV, h1, cond_true, List.getD, Int.toNat_natCast, List.getElem?_eq_getElem hi, Option.getD_some]
theorem sg3 (h : sgI l d8 r i) (hi : i < d8.length) (hm : 0 ≤ P0 l d8[i] (grV l d8 r)) (hu : G7 ((grI l d8 r).1.map fun x => x.1) i = false) : ((grI l d8 r).1.map fun x => x.1) ++ [(i : Int)] = (grI l d8 (r + 1)).1.map fun x => x.1 := by
 rw [← sg1 h hi hm hu, List.map_append]; rfl
theorem b2E (h : sgI l d8 r i) (hi : ¬ i < d8.length) : (gNx l d8 (grI l d8 r)).2.2 = false := by
 unfold sgI at h
 rw [h, b4h hi]
theorem se1 (h : sgI l d8 r i) (hi : ¬ i < d8.length) : grI l d8 r = grI l d8 (r + 1) := (a7x (b2E h hi)).symm
theorem se2 (h : sgI l d8 r i) (hi : ¬ i < d8.length) : grV l d8 r = grV l d8 (r + 1) := by rw [grV, b2E h hi]; rfl
theorem b2M {b t : List Int} {k : Nat} (hk : k < t.length) (h : inR t[k] 10 17 = true) : I7 (((t.take k).filter fun t => inR t 10 17).foldl I7 b) t[k] = ((t.take (k + 1)).filter fun t => inR t 10 17).foldl I7 b := by
 rw [List.take_succ_eq_append_getElem hk, List.filter_append, List.foldl_append, List.filter_cons_of_pos (p := fun t => inR t 10 17) h]; rfl
theorem b2O {b t : List Int} {k : Nat} (hk : k < t.length) (h : inR t[k] 10 17 = false) : ((t.take k).filter fun t => inR t 10 17).foldl I7 b = ((t.take (k + 1)).filter fun t => inR t 10 17).foldl I7 b := by
 rw [List.take_succ_eq_append_getElem hk, List.filter_append, List.foldl_append, List.filter_cons_of_neg (p := fun t => inR t 10 17) (by rw [h]; decide)]; rfl
theorem b3T {a : AT2} {b : List Int} : P0 l a b ≤ l.length ∧ -1 ≤ P0 l a b := a1U
end
def b6k (s : List Int) (l : List MT5) (q : List Int × List AT2) : Bool := (G5 s l && z8 s q) && z8 s (q.1, b4I l q.2)
def b9W (s : List Int) (l : List MT5) (q : List Int × List AT2) : List Int := cond (b6k s l q) q.1 []
def b9Z (s : List Int) (l : List MT5) (q : List Int × List AT2) : List AT2 := cond (b6k s l q) (b4I l q.2) []
section
variable {s : List Int} {l : List MT5} {q : List Int × List AT2}
end
abbrev GQ := (List Int × List AT2) × List AT2
def b6u (g : GQ) : List Int := B7 (fun t => inR t 10 17) g.1.2
def b6t (s : List Int) (l : List MT5) (g : GQ) : Bool :=
 G5 s l && (b5M s g && (!decide (((grF (exF l) g.1.2).1.length : Int) < g.1.2.length) && !g.2.any fun a => decide (P0 (exF l) a (b6u g) < 0)))
def b9V (s : List Int) (l : List MT5) (g : GQ) : List (Int × Int) := cond (b6t s l g) (grF (exF l) g.1.2).1 []
def b9Y (s : List Int) (l : List MT5) (g : GQ) : List Int := cond (b6t s l g) (g.2.map fun a => P0 (exF l) a (b6u g)) []
section
variable {s : List Int} {l : List MT5} {g : GQ} {i : Nat}
end
end Go.Proofs.YtlfhopooaejpfaaGreat
