import Derived.Test.YthapcdhdfaibkaaGreatDoorBd
namespace Go.Proofs.YthapcdhdfaibkaaGreatDoor
set_option linter.all false
abbrev MT5 := Int × List Int × Int × Int × Int
abbrev AT2 := IL
abbrev GS := List (Int × Int) × List Bool × List Int
def a0V (a : AT2) (b : List Int) (i : Int) : Bool := !inR i 0 ((a.2.length : Int) - 1) || (inR (at0 a.2 i) 10 17 && !I8 b (at0 a.2 i))
def O4 (m : MT5) (a : AT2) (b : List Int) : Bool := decide (m.1 = a.1) && !m.2.1.any (a0V a b)
def G5 (l : List MT5) (a : AT2) (b : List Int) : Int := J0 (fun m => O4 m a b) l
def I7 (l : List MT5) (b : List Int) : List AT2 → List Bool → Nat → Int × Int × Bool
 | a :: al, d :: ds, i => if !d && decide (0 ≤ G5 l a b) then ((i : Int), G5 l a b, true) else I7 l b al ds (i + 1)
 | _, _, _ => (0, 0, false)
def gNx (l : List MT5) (d9 : List AT2) (σ : GS) : Int × Int × Bool := I7 l σ.2.2 d9 σ.2.1 0
def grS (l : List MT5) (d9 : List AT2) (σ : GS) : GS := cond (gNx l d9 σ).2.2
 (σ.1 ++ [((gNx l d9 σ).1, (gNx l d9 σ).2.1)], σ.2.1.set (gNx l d9 σ).1.toNat true, σ.2.2 ++ (d9.getD (gNx l d9 σ).1.toNat (0, [])).2) σ
def grI (l : List MT5) (d9 : List AT2) : Nat → GS
 | 0 => ([], List.replicate d9.length false, [])
 | n + 1 => grS l d9 (grI l d9 n)
def grF (l : List MT5) (d9 : List AT2) : GS := grI l d9 d9.length
section
variable {l : List MT5} {d9 al : List AT2} {ds : List Bool} {b b' : List Int} {i n g : Nat} {σ : GS}
theorem b2f {a : AT2} {d : Bool} (h : ¬ (!d && decide (0 ≤ G5 l a b)) = true) : I7 l b (a :: al) (d :: ds) i = I7 l b al ds (i + 1) := by rw [I7, if_neg h]
theorem b3D {a : AT2} {d : Bool} (h : (!d && decide (0 ≤ G5 l a b)) = true) : I7 l b (a :: al) (d :: ds) i = ((i : Int), G5 l a b, true) := by rw [I7, if_pos h]
theorem a6v (h1 : g < al.length) (h2 : g < ds.length) (h : ¬ (!ds[g] && decide (0 ≤ G5 l al[g] b)) = true) : I7 l b (al.drop g) (ds.drop g) g = I7 l b (al.drop (g + 1)) (ds.drop (g + 1)) (g + 1) := by
 rw [List.drop_eq_getElem_cons h1, List.drop_eq_getElem_cons h2, b2f h]
theorem a5Z (h1 : g < al.length) (h2 : g < ds.length) (h : (!ds[g] && decide (0 ≤ G5 l al[g] b)) = true) : I7 l b (al.drop g) (ds.drop g) g = ((g : Int), G5 l al[g] b, true) := by
 rw [List.drop_eq_getElem_cons h1, List.drop_eq_getElem_cons h2, b3D h]
theorem a6a (h1 : ¬ g < al.length) : I7 l b (al.drop g) (ds.drop g) g = (0, 0, false) := by
 rw [List.drop_eq_nil_of_le (by omega)]; cases ds.drop g <;> rfl
theorem a4u : ∀ {al : List AT2} {ds : List Bool} {i : Nat}, (I7 l b al ds i).2.2 = true → ∃ k, (I7 l b al ds i).1 = ((i + k : Nat) : Int) ∧ k < al.length ∧ ds[k]? = some false ∧ ∃ a, al[k]? = some a ∧ (I7 l b al ds i).2.1 = G5 l a b ∧ 0 ≤ G5 l a b
 | [], _, _, h => by simp [I7] at h
 | _ :: _, [], _, h => by simp [I7] at h
 | a :: al, d :: ds, i, h => by
  by_cases hc : (!d && decide (0 ≤ G5 l a b)) = true
  ·rw [b3D hc] at h ⊢
   simp only [Bool.and_eq_true, Bool.not_eq_true', decide_eq_true_eq] at hc
   exact ⟨0, rfl, by simp, by simp [hc.1], a, rfl, rfl, hc.2⟩
  ·rw [b2f hc] at h ⊢
   obtain ⟨k, h1, h2, h3, a', h4, h5, h6⟩ := a4u h
   exact ⟨k + 1, by rw [h1]; congr 1; omega, by simp; omega, by simpa using h3, a', by simpa using h4, h5, h6⟩
theorem a3P : (grI l d9 n).2.1.length = d9.length := by
 induction n with
 | zero => simp [grI]
 | succ n ih =>
  simp only [grI, grS]
  cases (gNx l d9 (grI l d9 n)).2.2
  ·exact ih
  ·simp only [cond_true, List.length_set]; exact ih
theorem a4R : ∀ {ds : List Bool} {k : Nat}, ds[k]? = some false → (ds.set k true).count false + 1 = ds.count false
 | [], _, h => by simp at h
 | d :: ds, 0, h => by simp at h; subst h; simp
 | d :: ds, k + 1, h => by
  have := a4R (ds := ds) (k := k) (by simpa using h)
  simp only [List.set_cons_succ, List.count_cons]; omega
theorem b2t : (grI l d9 n).2.1.count false + (grI l d9 n).1.length = d9.length := by
 induction n with
 | zero => simp [grI]
 | succ n ih =>
  simp only [grI, grS]
  cases h : (gNx l d9 (grI l d9 n)).2.2
  ·exact ih
  ·obtain ⟨k, h1, h2, h3, _⟩ := a4u (show (I7 l (grI l d9 n).2.2 d9 (grI l d9 n).2.1 0).2.2 = true from h)
   have h4 : (gNx l d9 (grI l d9 n)).1.toNat = k := by unfold gNx; rw [h1]; simp
   simp only [cond_true, h4, List.length_append, List.length_cons, List.length_nil]
   have := a4R h3
   omega
theorem b1R : (grI l d9 n).1.length ≤ d9.length := by have := b2t (l := l) (d9 := d9) (n := n); omega
theorem c0K (h : (gNx l d9 (grI l d9 n)).2.2 = true) : (grI l d9 n).1.length < d9.length := by
 obtain ⟨k, h1, h2, h3, _⟩ := a4u (show (I7 l (grI l d9 n).2.2 d9 (grI l d9 n).2.1 0).2.2 = true from h)
 have h4 := b2t (l := l) (d9 := d9) (n := n)
 have : 0 < (grI l d9 n).2.1.count false := List.count_pos_iff.2 (List.mem_of_getElem? h3)
 omega
def grP (l : List MT5) (d9 : List AT2) (n : Nat) : Prop := (grI l d9 n).1.length = n
theorem b8O : grP l d9 0 := rfl
theorem b8x (h : grP l d9 n) (hx : (gNx l d9 (grI l d9 n)).2.2 = true) : grP l d9 (n + 1) := by
 unfold grP at *
 simp only [grI, grS, hx, cond_true, List.length_append, List.length_cons, List.length_nil, h]
theorem c0R (h : grP l d9 n) : n ≤ d9.length := by have := b1R (l := l) (d9 := d9) (n := n); unfold grP at h; omega
theorem c0G (h : grP l d9 n) (hx : (gNx l d9 (grI l d9 n)).2.2 = true) : n < d9.length := by have := c0K hx; unfold grP at h; omega
theorem a2W (hx : (gNx l d9 (grI l d9 n)).2.2 = false) : grI l d9 (n + 1) = grI l d9 n := by simp [grI, grS, hx]
theorem b3J (hx : (gNx l d9 (grI l d9 n)).2.2 = false) : ∀ k, grI l d9 (n + k) = grI l d9 n
 | 0 => rfl
 | k + 1 => by
  have ih := b3J hx k
  rw [← Nat.add_assoc, ← ih]
  exact a2W (by rw [ih]; exact hx)
theorem b9D (h : grP l d9 n) (hx : (gNx l d9 (grI l d9 n)).2.2 = false) : grI l d9 n = grF l d9 := by
 have h1 := c0R h
 have h2 := b3J hx (d9.length - n)
 rw [show n + (d9.length - n) = d9.length from by omega] at h2
 exact h2.symm
theorem a1J (hx : (gNx l d9 (grI l d9 n)).2.2 = true) : grI l d9 (n + 1) = ((grI l d9 n).1 ++ [((gNx l d9 (grI l d9 n)).1, (gNx l d9 (grI l d9 n)).2.1)], (grI l d9 n).2.1.set (gNx l d9 (grI l d9 n)).1.toNat true, (grI l d9 n).2.2 ++ (d9.getD (gNx l d9 (grI l d9 n)).1.toNat (0, [])).2) := by
 simp [grI, grS, hx]
theorem b3Z : (∀ k, (grI l d9 n).2.1.getD k false = (grI l d9 n).1.any fun x => decide (x.1 = (k : Int))) ∧ ((grI l d9 n).1.map fun x => x.1).Nodup ∧ ∀ x ∈ (grI l d9 n).1, 0 ≤ x.1 ∧ x.1.toNat < d9.length ∧ 0 ≤ x.2 ∧ x.2 < (l.length : Int) := by
 induction n with
 | zero =>
  refine ⟨fun k => ?_, by simp [grI], by simp [grI]⟩
  simp only [grI, List.any_nil, List.getD]
  cases h : (List.replicate d9.length false)[k]? with
  | none => rfl
  | some v => rw [List.getElem?_replicate] at h; split at h <;> simp at h; rw [← h]; rfl
 | succ n ih =>
  obtain ⟨i1, i2, i3⟩ := ih
  cases h : (gNx l d9 (grI l d9 n)).2.2
  ·rw [a2W h]; exact ⟨i1, i2, i3⟩
  ·rw [a1J h]
   obtain ⟨k, h1, h2, h3, a, h4, h5, h6⟩ := a4u (show (I7 l (grI l d9 n).2.2 d9 (grI l d9 n).2.1 0).2.2 = true from h)
   have e1 : (gNx l d9 (grI l d9 n)).1 = (k : Int) := by unfold gNx; rw [h1]; simp
   have e2 : (gNx l d9 (grI l d9 n)).1.toNat = k := by rw [e1]; simp
   have e3 : (gNx l d9 (grI l d9 n)).2.1 = G5 l a (grI l d9 n).2.2 := h5
   have hk : k < (grI l d9 n).2.1.length := (List.getElem?_eq_some_iff.1 h3).1
   have i1k := i1 k
   simp only [List.getD, h3, Option.getD_some] at i1k
   refine ⟨fun j => ?_, ?_, ?_⟩
   ·simp only [e2, e1, List.any_append, List.any_cons, List.any_nil, Bool.or_false, ← i1 j]
    by_cases hj : j = k
    ·subst hj; simp [List.getD, hk]
    ·have : ¬ ((k : Int) = (j : Int)) := by omega
     simp only [this, decide_false, Bool.or_false, List.getD, Int.toNat_natCast, List.getElem?_set_ne (Ne.symm hj)]
   ·rw [List.map_append, List.nodup_append]
    refine ⟨i2, by simp, fun u hu v hv e => ?_⟩
    simp only [List.map_cons, List.map_nil, List.mem_singleton] at hv
    subst e; rw [hv, e1] at hu
    obtain ⟨y, hy, hy2⟩ := List.mem_map.1 hu
    have := List.any_eq_false.1 i1k.symm y hy
    simp [hy2] at this
   ·intro x hx
    rcases List.mem_append.1 hx with hx | hx
    ·exact i3 x hx
    ·simp only [List.mem_singleton] at hx; subst hx
     refine ⟨by rw [e1]; omega, by rw [e2]; exact h2, by rw [e3]; exact h6, ?_⟩
     show (gNx l d9 (grI l d9 n)).2.1 < _
     rw [e3]
     unfold G5 at h6 ⊢
     have := (a7H (p := fun m => O4 m a (grI l d9 n).2.2) (s := l) (by omega)).2
     omega
theorem b3F {s : List (Int × Int)} {k : Int} : I8 (s.map fun x => x.1) k = s.any fun x => decide (x.1 = k) := by
 unfold I8; rw [List.any_map]; rfl
end
def a2M (b : List Int) (a : AT2) : List Int := (a.2.filter fun t => inR t 10 17).foldl R5 b
def grV (l : List MT5) (d9 : List AT2) : Nat → List Int
 | 0 => []
 | n + 1 => cond (gNx l d9 (grI l d9 n)).2.2 (a2M (grV l d9 n) (d9.getD (gNx l d9 (grI l d9 n)).1.toNat (0, []))) (grV l d9 n)
section
variable {l : List MT5} {d9 al : List AT2} {ds : List Bool} {b b' : List Int} {i n g : Nat} {m : MT5} {a : AT2}
theorem c0c (h : ∀ v, inR v 10 17 = true → I8 b v = I8 b' v) : a0V a b = a0V a b' := by
 funext i; unfold a0V
 cases hv : inR (at0 a.2 i) 10 17
 ·rfl
 ·rw [h _ hv]
theorem b5p (h : ∀ v, inR v 10 17 = true → I8 b v = I8 b' v) : O4 m a b = O4 m a b' := by unfold O4; rw [c0c h]
theorem b7Z (h : ∀ v, inR v 10 17 = true → I8 b v = I8 b' v) : G5 l a b = G5 l a b' := by
 unfold G5; congr 1; funext m; exact b5p h
theorem b0K {α : Type} {p : α → Bool} {f : α} : ∀ {l : List α}, l.any p = true → ∀ y, y ∈ R9 p f l ↔ y ∈ l ∨ y = f
 | [], h, _ => by simp at h
 | x :: l, h, y => by
  by_cases hp : p x = true
  ·simp only [R9, hp, if_true, List.mem_cons]
   constructor
   ·rintro (h | h | h)
    ·exact .inr h
    ·exact .inl (.inl h)
    ·exact .inl (.inr h)
   ·rintro ((h | h) | h)
    ·exact .inr (.inl h)
    ·exact .inr (.inr h)
    ·exact .inl h
  ·have h1 : l.any p = true := by simpa [hp] using h
   simp only [R9, hp, if_false, List.mem_cons, b0K h1 y, Bool.false_eq_true]
   exact or_assoc.symm
theorem b6B {x y : Int} : y ∈ R5 b x ↔ y ∈ b ∨ y = x := by
 unfold R5 X4
 split
 ·rename_i h
  rw [a2a] at h
  exact ⟨.inl, fun h' => h'.elim id fun e => e ▸ h⟩
 ·split
  ·rename_i h; exact b0K h y
  ·simp
theorem b8n {x v : Int} : I8 (R5 b x) v = (I8 b v || decide (x = v)) := by
 rw [Bool.eq_iff_iff, a2a, b6B, Bool.or_eq_true, a2a, decide_eq_true_eq]
 exact ⟨fun h => h.imp id Eq.symm, fun h => h.imp id Eq.symm⟩
theorem b3O (a : AT2) {v : Int} (hv : inR v 10 17 = true) : I8 (a2M b a) v = (I8 b v || I8 a.2 v) := by
 unfold a2M
 generalize a.2 = t
 induction t generalizing b with
 | nil => simp [I8]
 | cons x t ih =>
  by_cases hx : inR x 10 17 = true
  ·rw [List.filter_cons_of_pos (p := fun t => inR t 10 17) hx, List.foldl_cons, ih, b8n]
   simp only [I8, List.any_cons, Bool.or_assoc]
  ·rw [List.filter_cons_of_neg (p := fun t => inR t 10 17) hx, ih]
   have : decide (x = v) = false := decide_eq_false fun e => hx (e ▸ hv)
   simp only [I8, List.any_cons, this, Bool.false_or]
theorem b8D {v : Int} (hv : inR v 10 17 = true) : I8 (grV l d9 n) v = I8 (grI l d9 n).2.2 v := by
 induction n with
 | zero => rfl
 | succ n ih =>
  cases h : (gNx l d9 (grI l d9 n)).2.2
  ·rw [a2W h, grV, h]; exact ih
  ·rw [a1J h, grV, h, cond_true, b3O _ hv, ih]
   simp only [I8, List.any_append]
theorem a4o {t : List Int} : (t.foldl R5 b).length ≤ b.length + t.length := by
 induction t generalizing b with
 | nil => simp
 | cons x t ih =>
  have h1 := ih (b := R5 b x)
  have h2 := a4p (h := I8 b x) (p := fun y => decide (x < y)) (f := x) (l := b)
  simp only [List.foldl_cons, List.length_cons]; unfold R5 at *; omega
theorem b8T : (a2M b a).length ≤ b.length + a.2.length := by
 unfold a2M
 have h1 := a4o (b := b) (t := a.2.filter fun t => inR t 10 17)
 have h2 := List.length_filter_le (fun t => inR t 10 17) a.2
 omega
theorem b2J (h : ∀ a ∈ d9, a.2.length ≤ 3) (k : Nat) : (d9.getD k (0, [])).2.length ≤ 3 := by
 rw [List.getD]
 cases hk : d9[k]? with
 | none => simp
 | some a => exact h a (List.mem_of_getElem? hk)
theorem b8p (h : ∀ a ∈ d9, a.2.length ≤ 3) : (grV l d9 n).length ≤ 3 * n := by
 induction n with
 | zero => simp [grV]
 | succ n ih =>
  rw [grV]
  cases (gNx l d9 (grI l d9 n)).2.2
  ·simp only [cond_false]; omega
  ·simp only [cond_true]
   have h1 := b8T (b := grV l d9 n) (a := d9.getD (gNx l d9 (grI l d9 n)).1.toNat (0, []))
   have h2 := b2J h (gNx l d9 (grI l d9 n)).1.toNat
   omega
theorem b8t (h : ∀ a ∈ d9, a.2.length ≤ 3) : (grI l d9 n).2.2.length ≤ 3 * n := by
 induction n with
 | zero => simp [grI]
 | succ n ih =>
  cases hx : (gNx l d9 (grI l d9 n)).2.2
  ·rw [a2W hx]; omega
  ·rw [a1J hx]
   have h2 := b2J h (gNx l d9 (grI l d9 n)).1.toNat
   simp only [List.length_append]; omega
theorem b5K : G5 l a (grV l d9 n) = G5 l a (grI l d9 n).2.2 := b7Z fun v hv => b8D hv
end
def exM (m : MT5) : MT5 := cond (decide (m.2.2.1 ≠ 0)) (-1, m.2) m
def exF (l : List MT5) : List MT5 := l.map exM
def c0T (al : List AT2) (ds : List Bool) : List AT2 := ((al.zip ds).filter fun x => x.2).map fun x => x.1
def b7F (l : List MT5) (d9 : List AT2) : List AT2 := c0T d9 (grF (exF l) d9).2.1
section
variable {al : List AT2} {ds : List Bool} {g : Nat} {l : List MT5} {d9 : List AT2}
end
section
variable {l : List MT5} {d9 : List AT2} {g n r i : Nat} {q : List Int × List AT2} {s : List Int}
theorem c1V (h : (I7 l (grI l d9 n).2.2 d9 (grI l d9 n).2.1 0).2.2 = true) : 0 ≤ (I7 l (grI l d9 n).2.2 d9 (grI l d9 n).2.1 0).1 ∧ (I7 l (grI l d9 n).2.2 d9 (grI l d9 n).2.1 0).1.toNat < d9.length ∧ 0 ≤ (I7 l (grI l d9 n).2.2 d9 (grI l d9 n).2.1 0).2.1 ∧ (I7 l (grI l d9 n).2.2 d9 (grI l d9 n).2.1 0).2.1 < l.length := by
 obtain ⟨k, h1, h2, h3, a, h4, h5, h6⟩ := a4u h
 refine ⟨by rw [h1]; omega, by rw [h1]; omega, by rw [h5]; exact h6, ?_⟩
 rw [h5]; unfold G5 at h6 ⊢
 have := (a7H (p := fun m => O4 m a (grI l d9 n).2.2) (s := l) (by omega)).2
 omega
theorem b1Q (h : (I7 l (grI l d9 n).2.2 d9 (grI l d9 n).2.1 0).2.2 = true) : (grI l d9 n).1 ++ [((I7 l (grI l d9 n).2.2 d9 (grI l d9 n).2.1 0).1, (I7 l (grI l d9 n).2.2 d9 (grI l d9 n).2.1 0).2.1)] = (grI l d9 (n + 1)).1 := by rw [a1J h]; rfl
theorem c1a (h : (I7 l (grI l d9 n).2.2 d9 (grI l d9 n).2.1 0).2.2 = true) : (grI l d9 n).2.1.set (I7 l (grI l d9 n).2.2 d9 (grI l d9 n).2.1 0).1.toNat true = (grI l d9 (n + 1)).2.1 := by rw [a1J h]; rfl
theorem c0P (h : (I7 l (grI l d9 n).2.2 d9 (grI l d9 n).2.1 0).2.2 = true) (hk : (I7 l (grI l d9 n).2.2 d9 (grI l d9 n).2.1 0).1.toNat < d9.length) : (grI l d9 n).2.2 ++ (d9[(I7 l (grI l d9 n).2.2 d9 (grI l d9 n).2.1 0).1.toNat]).2 = (grI l d9 (n + 1)).2.2 := by
 rw [a1J h]
 show _ = (grI l d9 n).2.2 ++ (d9.getD (I7 l (grI l d9 n).2.2 d9 (grI l d9 n).2.1 0).1.toNat (0, [])).2
 rw [List.getD, List.getElem?_eq_getElem hk, Option.getD_some]
def sgI (l : List MT5) (d9 : List AT2) (r i : Nat) : Prop := gNx l d9 (grI l d9 r) = I7 l (grI l d9 r).2.2 (d9.drop i) ((grI l d9 r).2.1.drop i) i
theorem b8B : sgI l d9 r 0 := rfl
theorem b3U (hi : i < d9.length) : I8 ((grI l d9 r).1.map fun x => x.1) i = (grI l d9 r).2.1[i]'(by rw [a3P]; exact hi) := by
 rw [b3F, ← b3Z.1 i, List.getD, List.getElem?_eq_getElem (by rw [a3P]; exact hi), Option.getD_some]
theorem b4k (h : sgI l d9 r i) (hi : i < d9.length) (hm : ¬ 0 ≤ G5 l d9[i] (grV l d9 r)) : sgI l d9 r (i + 1) := by
 unfold sgI at *
 rw [h]
 exact a6v hi (by rw [a3P]; exact hi) (by rw [b5K] at hm; simp [hm])
theorem b4f (h : sgI l d9 r i) (hi : i < d9.length) (hm : I8 ((grI l d9 r).1.map fun x => x.1) i = true) : sgI l d9 r (i + 1) := by
 unfold sgI at *
 rw [h]
 exact a6v hi (by rw [a3P]; exact hi) (by rw [b3U hi] at hm; simp [hm])
theorem b6i (h : sgI l d9 r i) (hi : i < d9.length) (hm : 0 ≤ G5 l d9[i] (grV l d9 r)) (hu : I8 ((grI l d9 r).1.map fun x => x.1) i = false) : gNx l d9 (grI l d9 r) = ((i : Int), G5 l d9[i] (grV l d9 r), true) := by
 unfold sgI at h
 rw [b3U hi] at hu
 rw [b5K] at hm ⊢
 rw [h, a5Z hi (by rw [a3P]; exact hi) (by simp [hu, hm])]
theorem sg1 (h : sgI l d9 r i) (hi : i < d9.length) (hm : 0 ≤ G5 l d9[i] (grV l d9 r)) (hu : I8 ((grI l d9 r).1.map fun x => x.1) i = false) : (grI l d9 r).1 ++ [((i : Int), G5 l d9[i] (grV l d9 r))] = (grI l d9 (r + 1)).1 := by
 have h1 := b6i h hi hm hu
 rw [a1J (by rw [h1]), h1]
theorem sg2 (h : sgI l d9 r i) (hi : i < d9.length) (hm : 0 ≤ G5 l d9[i] (grV l d9 r)) (hu : I8 ((grI l d9 r).1.map fun x => x.1) i = false) : a2M (grV l d9 r) d9[i] = grV l d9 (r + 1) := by
 have h1 := b6i h hi hm hu
 rw [grV, h1, cond_true, List.getD, Int.toNat_natCast, List.getElem?_eq_getElem hi, Option.getD_some]
theorem sg3 (h : sgI l d9 r i) (hi : i < d9.length) (hm : 0 ≤ G5 l d9[i] (grV l d9 r)) (hu : I8 ((grI l d9 r).1.map fun x => x.1) i = false) : ((grI l d9 r).1.map fun x => x.1) ++ [(i : Int)] = (grI l d9 (r + 1)).1.map fun x => x.1 := by
 rw [← sg1 h hi hm hu, List.map_append]; rfl
theorem b5l (h : sgI l d9 r i) (hi : ¬ i < d9.length) : (gNx l d9 (grI l d9 r)).2.2 = false := by
 unfold sgI at h
 rw [h, a6a hi]
theorem se1 (h : sgI l d9 r i) (hi : ¬ i < d9.length) : grI l d9 r = grI l d9 (r + 1) := (a2W (b5l h hi)).symm
theorem se2 (h : sgI l d9 r i) (hi : ¬ i < d9.length) : grV l d9 r = grV l d9 (r + 1) := by rw [grV, b5l h hi]; rfl
theorem b6g {b t : List Int} {k : Nat} (hk : k < t.length) (h : inR t[k] 10 17 = true) : R5 (((t.take k).filter fun t => inR t 10 17).foldl R5 b) t[k] = ((t.take (k + 1)).filter fun t => inR t 10 17).foldl R5 b := by
 rw [List.take_succ_eq_append_getElem hk, List.filter_append, List.foldl_append, List.filter_cons_of_pos (p := fun t => inR t 10 17) h]; rfl
theorem b5L {b t : List Int} {k : Nat} (hk : k < t.length) (h : inR t[k] 10 17 = false) : ((t.take k).filter fun t => inR t 10 17).foldl R5 b = ((t.take (k + 1)).filter fun t => inR t 10 17).foldl R5 b := by
 rw [List.take_succ_eq_append_getElem hk, List.filter_append, List.foldl_append, List.filter_cons_of_neg (p := fun t => inR t 10 17) (by rw [h]; decide)]; rfl
theorem a9e {a : AT2} {b : List Int} : G5 l a b ≤ l.length ∧ -1 ≤ G5 l a b := a0G
end
def b9t (s : List Int) (l : List MT5) (q : List Int × List AT2) : Bool := (J3 s l && I3 s q) && I3 s (q.1, b7F l q.2)
def c3j (s : List Int) (l : List MT5) (q : List Int × List AT2) : List Int := cond (b9t s l q) q.1 []
def c3a (s : List Int) (l : List MT5) (q : List Int × List AT2) : List AT2 := cond (b9t s l q) (b7F l q.2) []
section
variable {s : List Int} {l : List MT5} {q : List Int × List AT2}
end
abbrev GQ := (List Int × List AT2) × List AT2
def a2z (g : GQ) : List Int := u7 (fun t => inR t 10 17) g.1.2
def Q9 (s : List Int) (l : List MT5) (g : GQ) : Bool :=
 J3 s l && (P9 s g && (!decide (((grF (exF l) g.1.2).1.length : Int) < g.1.2.length) && !g.2.any fun a => decide (G5 (exF l) a (a2z g) < 0)))
def I9 (s : List Int) (l : List MT5) (g : GQ) : List (Int × Int) := cond (Q9 s l g) (grF (exF l) g.1.2).1 []
def B2 (s : List Int) (l : List MT5) (g : GQ) : List Int := cond (Q9 s l g) (g.2.map fun a => G5 (exF l) a (a2z g)) []
section
variable {s : List Int} {l : List MT5} {g : GQ} {i : Nat}
theorem a3L (h : P9 s g = true) : I3 s g.1 = true ∧ g.2.length ≤ 4 := by
 simp only [P9, Bool.and_eq_true, decide_eq_true_eq] at h
 exact ⟨h.1, by omega⟩
theorem u5 (h : Q9 s l g = false) : [] = I9 s l g ∧ [] = B2 s l g ∧ false = Q9 s l g := by rw [I9, B2, h]; exact ⟨rfl, rfl, rfl⟩
theorem N4 (h : J3 s l = false) : Q9 s l g = false := by rw [Q9, h]; rfl
theorem N7 (h : P9 s g = false) : Q9 s l g = false := by rw [Q9, h]; simp
theorem N0 (h : ((grF (exF l) g.1.2).1.length : Int) < g.1.2.length) : Q9 s l g = false := by rw [Q9, decide_eq_true h]; simp
theorem N5 (hi : i < g.2.length) (h : G5 (exF l) g.2[i] (a2z g) < 0) : Q9 s l g = false := by
 have h1 : (g.2.any fun a => decide (G5 (exF l) a (a2z g) < 0)) = true := List.any_eq_true.2 ⟨_, List.getElem_mem hi, decide_eq_true h⟩
 rw [Q9, h1]; simp
theorem N3 (h1 : J3 s l = true) (h2 : P9 s g = true) (h3 : ¬ ((grF (exF l) g.1.2).1.length : Int) < g.1.2.length) (hp : ∀ a ∈ g.2.take i, decide (G5 (exF l) a (a2z g) < 0) = false) (hi : ¬ i < g.2.length) :
  (grF (exF l) g.1.2).1 = I9 s l g ∧ (g.2.take i).map (fun a => G5 (exF l) a (a2z g)) = B2 s l g ∧ true = Q9 s l g := by
 rw [List.take_of_length_le (by omega)] at hp ⊢
 have h4 : (g.2.any fun a => decide (G5 (exF l) a (a2z g) < 0)) = false := List.any_eq_false.2 fun a ha => by rw [hp a ha]; decide
 have h : Q9 s l g = true := by rw [Q9, h1, h2, decide_eq_false h3, h4]; rfl
 rw [I9, B2, h]; exact ⟨rfl, rfl, rfl⟩
end
end Go.Proofs.YthapcdhdfaibkaaGreatDoor
