import Derived.Test.YtdopeopehgdccaaGreatBd
namespace Go.Proofs.YtdopeopehgdccaaGreat
set_option linter.unusedVariables false
set_option linter.unusedSimpArgs false
abbrev MT5 := Int × List Int × Int × Int × Int
abbrev AT2 := Int × List Int
abbrev GS := List (Int × Int) × List Bool × List Int
/-- an input that a call does not know -/
def X3 (a : AT2) (b : List Int) (i : Int) : Bool := !inR i 0 ((a.2.length : Int) - 1) || (inR (at0 a.2 i) 10 17 && !B9 b (at0 a.2 i))
def F7 (m : MT5) (a : AT2) (b : List Int) : Bool := decide (m.1 = a.1) && !m.2.1.any (X3 a b)
def D5 (l : List MT5) (a : AT2) (b : List Int) : Int := E8 (fun m => F7 m a b) l
def B0 (l : List MT5) (b : List Int) : List AT2 → List Bool → Nat → Int × Int × Bool
  | a :: al, d :: ds, i => if !d && decide (0 ≤ D5 l a b) then ((i : Int), D5 l a b, true) else B0 l b al ds (i + 1)
  | _, _, _ => (0, 0, false)
def gNx (l : List MT5) (d7 : List AT2) (σ : GS) : Int × Int × Bool := B0 l σ.2.2 d7 σ.2.1 0
def grS (l : List MT5) (d7 : List AT2) (σ : GS) : GS := cond (gNx l d7 σ).2.2
  (σ.1 ++ [((gNx l d7 σ).1, (gNx l d7 σ).2.1)], σ.2.1.set (gNx l d7 σ).1.toNat true, σ.2.2 ++ (d7.getD (gNx l d7 σ).1.toNat (0, [])).2) σ
def grI (l : List MT5) (d7 : List AT2) : Nat → GS
  | 0 => ([], List.replicate d7.length false, [])
  | n + 1 => grS l d7 (grI l d7 n)
def grF (l : List MT5) (d7 : List AT2) : GS := grI l d7 d7.length
section
variable {l : List MT5} {d7 al : List AT2} {ds : List Bool} {b b' : List Int} {i n g : Nat} {σ : GS}
theorem a2N {a : AT2} {d : Bool} (h : ¬ (!d && decide (0 ≤ D5 l a b)) = true) : B0 l b (a :: al) (d :: ds) i = B0 l b al ds (i + 1) := by rw [B0, if_neg h]
theorem a3n {a : AT2} {d : Bool} (h : (!d && decide (0 ≤ D5 l a b)) = true) : B0 l b (a :: al) (d :: ds) i = ((i : Int), D5 l a b, true) := by rw [B0, if_pos h]
theorem a3J (h1 : g < al.length) (h2 : g < ds.length) (h : ¬ (!ds[g] && decide (0 ≤ D5 l al[g] b)) = true) : B0 l b (al.drop g) (ds.drop g) g = B0 l b (al.drop (g + 1)) (ds.drop (g + 1)) (g + 1) := by
  rw [List.drop_eq_getElem_cons h1, List.drop_eq_getElem_cons h2, a2N h]
theorem a3O (h1 : g < al.length) (h2 : g < ds.length) (h : (!ds[g] && decide (0 ≤ D5 l al[g] b)) = true) : B0 l b (al.drop g) (ds.drop g) g = ((g : Int), D5 l al[g] b, true) := by
  rw [List.drop_eq_getElem_cons h1, List.drop_eq_getElem_cons h2, a3n h]
theorem a3K (h1 : ¬ g < al.length) : B0 l b (al.drop g) (ds.drop g) g = (0, 0, false) := by
  rw [List.drop_eq_nil_of_le (by omega)]; cases ds.drop g <;> rfl
theorem a1J : ∀ {al : List AT2} {ds : List Bool} {i : Nat}, (B0 l b al ds i).2.2 = true → ∃ k, (B0 l b al ds i).1 = ((i + k : Nat) : Int) ∧ k < al.length ∧ ds[k]? = some false ∧ ∃ a, al[k]? = some a ∧ (B0 l b al ds i).2.1 = D5 l a b ∧ 0 ≤ D5 l a b
  | [], _, _, h => by simp [B0] at h
  | _ :: _, [], _, h => by simp [B0] at h
  | a :: al, d :: ds, i, h => by
    by_cases hc : (!d && decide (0 ≤ D5 l a b)) = true
    · rw [a3n hc] at h ⊢
      simp only [Bool.and_eq_true, Bool.not_eq_true', decide_eq_true_eq] at hc
      exact ⟨0, rfl, by simp, by simp [hc.1], a, rfl, rfl, hc.2⟩
    · rw [a2N hc] at h ⊢
      obtain ⟨k, h1, h2, h3, a', h4, h5, h6⟩ := a1J h
      exact ⟨k + 1, by rw [h1]; congr 1; omega, by simp; omega, by simpa using h3, a', by simpa using h4, h5, h6⟩
theorem a0s : (grI l d7 n).2.1.length = d7.length := by
  induction n with
  | zero => simp [grI]
  | succ n ih =>
    simp only [grI, grS]
    cases (gNx l d7 (grI l d7 n)).2.2
    · exact ih
    · simp only [cond_true, List.length_set]; exact ih
theorem a2X : ∀ {ds : List Bool} {k : Nat}, ds[k]? = some false → (ds.set k true).count false + 1 = ds.count false
  | [], _, h => by simp at h
  | d :: ds, 0, h => by simp at h; subst h; simp
  | d :: ds, k + 1, h => by
    have := a2X (ds := ds) (k := k) (by simpa using h)
    simp only [List.set_cons_succ, List.count_cons]; omega
theorem a6A : (grI l d7 n).2.1.count false + (grI l d7 n).1.length = d7.length := by
  induction n with
  | zero => simp [grI]
  | succ n ih =>
    simp only [grI, grS]
    cases h : (gNx l d7 (grI l d7 n)).2.2
    · exact ih
    · obtain ⟨k, h1, h2, h3, _⟩ := a1J (show (B0 l (grI l d7 n).2.2 d7 (grI l d7 n).2.1 0).2.2 = true from h)
      have h4 : (gNx l d7 (grI l d7 n)).1.toNat = k := by unfold gNx; rw [h1]; simp
      simp only [cond_true, h4, List.length_append, List.length_cons, List.length_nil]
      have := a2X h3
      omega
theorem a9w : (grI l d7 n).1.length ≤ d7.length := by have := a6A (l := l) (d7 := d7) (n := n); omega
theorem b5Y (h : (gNx l d7 (grI l d7 n)).2.2 = true) : (grI l d7 n).1.length < d7.length := by
  obtain ⟨k, h1, h2, h3, _⟩ := a1J (show (B0 l (grI l d7 n).2.2 d7 (grI l d7 n).2.1 0).2.2 = true from h)
  have h4 := a6A (l := l) (d7 := d7) (n := n)
  have : 0 < (grI l d7 n).2.1.count false := List.count_pos_iff.2 (List.mem_of_getElem? h3)
  omega
/-- all n rounds have found something -/
def grP (l : List MT5) (d7 : List AT2) (n : Nat) : Prop := (grI l d7 n).1.length = n
theorem b1r : grP l d7 0 := rfl
theorem b1t (h : grP l d7 n) (hx : (gNx l d7 (grI l d7 n)).2.2 = true) : grP l d7 (n + 1) := by
  unfold grP at *
  simp only [grI, grS, hx, cond_true, List.length_append, List.length_cons, List.length_nil, h]
theorem b5R (h : grP l d7 n) : n ≤ d7.length := by have := a9w (l := l) (d7 := d7) (n := n); unfold grP at h; omega
theorem b3T (h : grP l d7 n) (hx : (gNx l d7 (grI l d7 n)).2.2 = true) : n < d7.length := by have := b5Y hx; unfold grP at h; omega
theorem S9 (hx : (gNx l d7 (grI l d7 n)).2.2 = false) : grI l d7 (n + 1) = grI l d7 n := by simp [grI, grS, hx]
theorem a8c (hx : (gNx l d7 (grI l d7 n)).2.2 = false) : ∀ k, grI l d7 (n + k) = grI l d7 n
  | 0 => rfl
  | k + 1 => by
    have ih := a8c hx k
    rw [← Nat.add_assoc, ← ih]
    exact S9 (by rw [ih]; exact hx)
theorem b5H (h : grP l d7 n) (hx : (gNx l d7 (grI l d7 n)).2.2 = false) : grI l d7 n = grF l d7 := by
  have h1 := b5R h
  have h2 := a8c hx (d7.length - n)
  rw [show n + (d7.length - n) = d7.length from by omega] at h2
  exact h2.symm
theorem O1 (hx : (gNx l d7 (grI l d7 n)).2.2 = true) : grI l d7 (n + 1) = ((grI l d7 n).1 ++ [((gNx l d7 (grI l d7 n)).1, (gNx l d7 (grI l d7 n)).2.1)], (grI l d7 n).2.1.set (gNx l d7 (grI l d7 n)).1.toNat true, (grI l d7 n).2.2 ++ (d7.getD (gNx l d7 (grI l d7 n)).1.toNat (0, [])).2) := by
  simp [grI, grS, hx]
/-- what has been done stands among the steps, once -/
theorem a5r : (∀ k, (grI l d7 n).2.1.getD k false = (grI l d7 n).1.any fun x => decide (x.1 = (k : Int))) ∧ ((grI l d7 n).1.map fun x => x.1).Nodup ∧ ∀ x ∈ (grI l d7 n).1, 0 ≤ x.1 ∧ x.1.toNat < d7.length ∧ 0 ≤ x.2 ∧ x.2 < (l.length : Int) := by
  induction n with
  | zero =>
    refine ⟨fun k => ?_, by simp [grI], by simp [grI]⟩
    simp only [grI, List.any_nil, List.getD]
    cases h : (List.replicate d7.length false)[k]? with
    | none => rfl
    | some v => rw [List.getElem?_replicate] at h; split at h <;> simp at h; rw [← h]; rfl
  | succ n ih =>
    obtain ⟨i1, i2, i3⟩ := ih
    cases h : (gNx l d7 (grI l d7 n)).2.2
    · rw [S9 h]; exact ⟨i1, i2, i3⟩
    · rw [O1 h]
      obtain ⟨k, h1, h2, h3, a, h4, h5, h6⟩ := a1J (show (B0 l (grI l d7 n).2.2 d7 (grI l d7 n).2.1 0).2.2 = true from h)
      have e1 : (gNx l d7 (grI l d7 n)).1 = (k : Int) := by unfold gNx; rw [h1]; simp
      have e2 : (gNx l d7 (grI l d7 n)).1.toNat = k := by rw [e1]; simp
      have e3 : (gNx l d7 (grI l d7 n)).2.1 = D5 l a (grI l d7 n).2.2 := h5
      have hk : k < (grI l d7 n).2.1.length := (List.getElem?_eq_some_iff.1 h3).1
      have i1k := i1 k
      simp only [List.getD, h3, Option.getD_some] at i1k
      refine ⟨fun j => ?_, ?_, ?_⟩
      · simp only [e2, e1, List.any_append, List.any_cons, List.any_nil, Bool.or_false, ← i1 j]
        by_cases hj : j = k
        · subst hj; simp [List.getD, hk]
        · have : ¬ ((k : Int) = (j : Int)) := by omega
          simp only [this, decide_false, Bool.or_false, List.getD, Int.toNat_natCast, List.getElem?_set_ne (Ne.symm hj)]
      · rw [List.map_append, List.nodup_append]
        refine ⟨i2, by simp, fun u hu v hv e => ?_⟩
        simp only [List.map_cons, List.map_nil, List.mem_singleton] at hv
        subst e; rw [hv, e1] at hu
        obtain ⟨y, hy, hy2⟩ := List.mem_map.1 hu
        have := List.any_eq_false.1 i1k.symm y hy
        simp [hy2] at this
      · intro x hx
        rcases List.mem_append.1 hx with hx | hx
        · exact i3 x hx
        · simp only [List.mem_singleton] at hx; subst hx
          refine ⟨by rw [e1]; omega, by rw [e2]; exact h2, by rw [e3]; exact h6, ?_⟩
          show (gNx l d7 (grI l d7 n)).2.1 < _
          rw [e3]
          unfold D5 at h6 ⊢
          have := (a4Q (p := fun m => F7 m a (grI l d7 n).2.2) (s := l) (by omega)).2
          omega
theorem b1p {s : List (Int × Int)} {k : Int} : B9 (s.map fun x => x.1) k = s.any fun x => decide (x.1 = k) := by
  unfold B9; rw [List.any_map]; rfl
end
/-! ### the reference's: only the variables are kept -/
def a0e (b : List Int) (a : AT2) : List Int := (a.2.filter fun t => inR t 10 17).foldl F2 b
def grV (l : List MT5) (d7 : List AT2) : Nat → List Int
  | 0 => []
  | n + 1 => cond (gNx l d7 (grI l d7 n)).2.2 (a0e (grV l d7 n) (d7.getD (gNx l d7 (grI l d7 n)).1.toNat (0, []))) (grV l d7 n)
section
variable {l : List MT5} {d7 al : List AT2} {ds : List Bool} {b b' : List Int} {i n g : Nat} {m : MT5} {a : AT2}
theorem b5q (h : ∀ v, inR v 10 17 = true → B9 b v = B9 b' v) : X3 a b = X3 a b' := by
  funext i; unfold X3
  cases hv : inR (at0 a.2 i) 10 17
  · rfl
  · rw [h _ hv]
theorem b2I (h : ∀ v, inR v 10 17 = true → B9 b v = B9 b' v) : F7 m a b = F7 m a b' := by unfold F7; rw [b5q h]
theorem b4t (h : ∀ v, inR v 10 17 = true → B9 b v = B9 b' v) : D5 l a b = D5 l a b' := by
  unfold D5; congr 1; funext m; exact b2I h
theorem a8x {α : Type} {p : α → Bool} {f : α} : ∀ {l : List α}, l.any p = true → ∀ y, y ∈ G4 p f l ↔ y ∈ l ∨ y = f
  | [], h, _ => by simp at h
  | x :: l, h, y => by
    by_cases hp : p x = true
    · simp only [G4, hp, if_true, List.mem_cons]
      constructor
      · rintro (h | h | h)
        · exact .inr h
        · exact .inl (.inl h)
        · exact .inl (.inr h)
      · rintro ((h | h) | h)
        · exact .inr (.inl h)
        · exact .inr (.inr h)
        · exact .inl h
    · have h1 : l.any p = true := by simpa [hp] using h
      simp only [G4, hp, if_false, List.mem_cons, a8x h1 y, Bool.false_eq_true]
      exact or_assoc.symm
theorem b3e {x y : Int} : y ∈ F2 b x ↔ y ∈ b ∨ y = x := by
  unfold F2 O9
  split
  · rename_i h
    rw [a0d] at h
    exact ⟨.inl, fun h' => h'.elim id fun e => e ▸ h⟩
  · split
    · rename_i h; exact a8x h y
    · simp
theorem b4g {x v : Int} : B9 (F2 b x) v = (B9 b v || decide (x = v)) := by
  rw [Bool.eq_iff_iff, a0d, b3e, Bool.or_eq_true, a0d, decide_eq_true_eq]
  exact ⟨fun h => h.imp id Eq.symm, fun h => h.imp id Eq.symm⟩
theorem b1f (a : AT2) {v : Int} (hv : inR v 10 17 = true) : B9 (a0e b a) v = (B9 b v || B9 a.2 v) := by
  unfold a0e
  generalize a.2 = t
  induction t generalizing b with
  | nil => simp [B9]
  | cons x t ih =>
    by_cases hx : inR x 10 17 = true
    · rw [List.filter_cons_of_pos (p := fun t => inR t 10 17) hx, List.foldl_cons, ih, b4g]
      simp only [B9, List.any_cons, Bool.or_assoc]
    · rw [List.filter_cons_of_neg (p := fun t => inR t 10 17) hx, ih]
      have : decide (x = v) = false := decide_eq_false fun e => hx (e ▸ hv)
      simp only [B9, List.any_cons, this, Bool.false_or]
theorem b4Q {v : Int} (hv : inR v 10 17 = true) : B9 (grV l d7 n) v = B9 (grI l d7 n).2.2 v := by
  induction n with
  | zero => rfl
  | succ n ih =>
    cases h : (gNx l d7 (grI l d7 n)).2.2
    · rw [S9 h, grV, h]; exact ih
    · rw [O1 h, grV, h, cond_true, b1f _ hv, ih]
      simp only [B9, List.any_append]
theorem a2P {t : List Int} : (t.foldl F2 b).length ≤ b.length + t.length := by
  induction t generalizing b with
  | nil => simp
  | cons x t ih =>
    have h1 := ih (b := F2 b x)
    have h2 := a3X (h := B9 b x) (p := fun y => decide (x < y)) (f := x) (l := b)
    simp only [List.foldl_cons, List.length_cons]; unfold F2 at *; omega
theorem b4F : (a0e b a).length ≤ b.length + a.2.length := by
  unfold a0e
  have h1 := a2P (b := b) (t := a.2.filter fun t => inR t 10 17)
  have h2 := List.length_filter_le (fun t => inR t 10 17) a.2
  omega
theorem b0A (h : ∀ a ∈ d7, a.2.length ≤ 3) (k : Nat) : (d7.getD k (0, [])).2.length ≤ 3 := by
  rw [List.getD]
  cases hk : d7[k]? with
  | none => simp
  | some a => exact h a (List.mem_of_getElem? hk)
theorem b4C (h : ∀ a ∈ d7, a.2.length ≤ 3) : (grV l d7 n).length ≤ 3 * n := by
  induction n with
  | zero => simp [grV]
  | succ n ih =>
    rw [grV]
    cases (gNx l d7 (grI l d7 n)).2.2
    · simp only [cond_false]; omega
    · simp only [cond_true]
      have h1 := b4F (b := grV l d7 n) (a := d7.getD (gNx l d7 (grI l d7 n)).1.toNat (0, []))
      have h2 := b0A h (gNx l d7 (grI l d7 n)).1.toNat
      omega
theorem b4K (h : ∀ a ∈ d7, a.2.length ≤ 3) : (grI l d7 n).2.2.length ≤ 3 * n := by
  induction n with
  | zero => simp [grI]
  | succ n ih =>
    cases hx : (gNx l d7 (grI l d7 n)).2.2
    · rw [S9 hx]; omega
    · rw [O1 hx]
      have h2 := b0A h (gNx l d7 (grI l d7 n)).1.toNat
      simp only [List.length_append]; omega
theorem b2C : D5 l a (grV l d7 n) = D5 l a (grI l d7 n).2.2 := b4t fun v hv => b4Q hv
end
/-! ### the methods without a limit -/
def exM (m : MT5) : MT5 := cond (decide (m.2.2.1 ≠ 0)) (-1, m.2) m
def exF (l : List MT5) : List MT5 := l.map exM
/-- the atoms that get a step -/
def E4 (al : List AT2) (ds : List Bool) : List AT2 := ((al.zip ds).filter fun x => x.2).map fun x => x.1
def J0 (l : List MT5) (d7 : List AT2) : List AT2 := E4 d7 (grF (exF l) d7).2.1
section
variable {al : List AT2} {ds : List Bool} {g : Nat} {l : List MT5} {d7 : List AT2}
theorem a4e (h1 : g < al.length) (h2 : g < ds.length) : E4 (al.take (g + 1)) (ds.take (g + 1)) = E4 (al.take g) (ds.take g) ++ cond ds[g] [al[g]] [] := by
  unfold E4
  rw [List.take_succ_eq_append_getElem h1, List.take_succ_eq_append_getElem h2, List.zip_append (by simp; omega), List.filter_append, List.map_append]
  congr 1
  cases ds[g] <;> rfl
theorem X2 (h1 : ¬ g < al.length) (h : ds.length = al.length) : E4 (al.take g) (ds.take g) = E4 al ds := by
  rw [List.take_of_length_le (by omega), List.take_of_length_le (by omega)]
theorem a5d : (E4 al ds).length ≤ al.length := by
  unfold E4
  rw [List.length_map]
  refine Nat.le_trans (List.length_filter_le _ _) ?_
  rw [List.length_zip]; omega
theorem b2P {a : AT2} (h : a ∈ E4 al ds) : a ∈ al := by
  obtain ⟨x, hx, rfl⟩ := List.mem_map.1 h
  exact (List.of_mem_zip (List.mem_filter.1 hx).1).1
theorem b3M {s : List (Int × Int)} {k : Int} {a : AT2} (h : (s.map fun x => x.1).Nodup) : (s.filter fun x => decide (x.1 = k)).map (fun _ => a) = cond (s.any fun x => decide (x.1 = k)) [a] [] := by
  induction s with
  | nil => rfl
  | cons x s ih =>
    rw [List.map_cons, List.nodup_cons] at h
    by_cases hx : x.1 = k
    · have h0 : (s.filter fun x => decide (x.1 = k)) = [] := List.filter_eq_nil_iff.2 fun y hy => by
        simp only [decide_eq_true_eq]
        intro e
        exact h.1 (List.mem_map.2 ⟨y, hy, by rw [e, hx]⟩)
      rw [List.filter_cons_of_pos (by simp [hx]), h0, List.any_cons, decide_eq_true hx]; rfl
    · rw [List.filter_cons_of_neg (by simp [hx]), ih h.2, List.any_cons, decide_eq_false hx, Bool.false_or]
theorem b3n {k : Nat} : (grF l d7).2.1.getD k false = (grF l d7).1.any fun x => decide (x.1 = (k : Int)) := a5r.1 k
theorem b4U {k : Nat} {a : AT2} (hk : k < (grF l d7).2.1.length) : ((grF l d7).1.filter fun x => decide (x.1 = (k : Int))).map (fun _ => a) = cond ((grF l d7).2.1[k]) [a] [] := by
  have h0 := (a5r (l := l) (d7 := d7) (n := d7.length)).2.1
  change (((grF l d7).1).map fun x => x.1).Nodup at h0
  rw [b3M h0]
  have := b3n (l := l) (d7 := d7) (k := k)
  rw [List.getD, List.getElem?_eq_getElem hk, Option.getD_some] at this
  rw [this]
end
section
variable {l : List MT5} {d7 : List AT2} {g n r i : Nat} {q : List Int × List AT2} {s : List Int}
theorem b6u (h : (B0 l (grI l d7 n).2.2 d7 (grI l d7 n).2.1 0).2.2 = true) : 0 ≤ (B0 l (grI l d7 n).2.2 d7 (grI l d7 n).2.1 0).1 ∧ (B0 l (grI l d7 n).2.2 d7 (grI l d7 n).2.1 0).1.toNat < d7.length ∧ 0 ≤ (B0 l (grI l d7 n).2.2 d7 (grI l d7 n).2.1 0).2.1 ∧ (B0 l (grI l d7 n).2.2 d7 (grI l d7 n).2.1 0).2.1 < l.length := by
  obtain ⟨k, h1, h2, h3, a, h4, h5, h6⟩ := a1J h
  refine ⟨by rw [h1]; omega, by rw [h1]; omega, by rw [h5]; exact h6, ?_⟩
  rw [h5]; unfold D5 at h6 ⊢
  have := (a4Q (p := fun m => F7 m a (grI l d7 n).2.2) (s := l) (by omega)).2
  omega
theorem a9y (h : (B0 l (grI l d7 n).2.2 d7 (grI l d7 n).2.1 0).2.2 = true) : (grI l d7 n).1 ++ [((B0 l (grI l d7 n).2.2 d7 (grI l d7 n).2.1 0).1, (B0 l (grI l d7 n).2.2 d7 (grI l d7 n).2.1 0).2.1)] = (grI l d7 (n + 1)).1 := by rw [O1 h]; rfl
theorem b6h (h : (B0 l (grI l d7 n).2.2 d7 (grI l d7 n).2.1 0).2.2 = true) : (grI l d7 n).2.1.set (B0 l (grI l d7 n).2.2 d7 (grI l d7 n).2.1 0).1.toNat true = (grI l d7 (n + 1)).2.1 := by rw [O1 h]; rfl
theorem b6g (h : (B0 l (grI l d7 n).2.2 d7 (grI l d7 n).2.1 0).2.2 = true) (hk : (B0 l (grI l d7 n).2.2 d7 (grI l d7 n).2.1 0).1.toNat < d7.length) : (grI l d7 n).2.2 ++ (d7[(B0 l (grI l d7 n).2.2 d7 (grI l d7 n).2.1 0).1.toNat]).2 = (grI l d7 (n + 1)).2.2 := by
  rw [O1 h]
  show _ = (grI l d7 n).2.2 ++ (d7.getD (B0 l (grI l d7 n).2.2 d7 (grI l d7 n).2.1 0).1.toNat (0, [])).2
  rw [List.getD, List.getElem?_eq_getElem hk, Option.getD_some]
/-- the reference's inner rounds -/
def sgI (l : List MT5) (d7 : List AT2) (r i : Nat) : Prop := gNx l d7 (grI l d7 r) = B0 l (grI l d7 r).2.2 (d7.drop i) ((grI l d7 r).2.1.drop i) i
theorem b4f : sgI l d7 r 0 := rfl
theorem b1s (hi : i < d7.length) : B9 ((grI l d7 r).1.map fun x => x.1) i = (grI l d7 r).2.1[i]'(by rw [a0s]; exact hi) := by
  rw [b1p, ← a5r.1 i, List.getD, List.getElem?_eq_getElem (by rw [a0s]; exact hi), Option.getD_some]
theorem b1m (h : sgI l d7 r i) (hi : i < d7.length) (hm : ¬ 0 ≤ D5 l d7[i] (grV l d7 r)) : sgI l d7 r (i + 1) := by
  unfold sgI at *
  rw [h]
  exact a3J hi (by rw [a0s]; exact hi) (by rw [b2C] at hm; simp [hm])
theorem b1n (h : sgI l d7 r i) (hi : i < d7.length) (hm : B9 ((grI l d7 r).1.map fun x => x.1) i = true) : sgI l d7 r (i + 1) := by
  unfold sgI at *
  rw [h]
  exact a3J hi (by rw [a0s]; exact hi) (by rw [b1s hi] at hm; simp [hm])
theorem b2o (h : sgI l d7 r i) (hi : i < d7.length) (hm : 0 ≤ D5 l d7[i] (grV l d7 r)) (hu : B9 ((grI l d7 r).1.map fun x => x.1) i = false) : gNx l d7 (grI l d7 r) = ((i : Int), D5 l d7[i] (grV l d7 r), true) := by
  unfold sgI at h
  rw [b1s hi] at hu
  rw [b2C] at hm ⊢
  rw [h, a3O hi (by rw [a0s]; exact hi) (by simp [hu, hm])]
theorem sg1 (h : sgI l d7 r i) (hi : i < d7.length) (hm : 0 ≤ D5 l d7[i] (grV l d7 r)) (hu : B9 ((grI l d7 r).1.map fun x => x.1) i = false) : (grI l d7 r).1 ++ [((i : Int), D5 l d7[i] (grV l d7 r))] = (grI l d7 (r + 1)).1 := by
  have h1 := b2o h hi hm hu
  rw [O1 (by rw [h1]), h1]
theorem sg2 (h : sgI l d7 r i) (hi : i < d7.length) (hm : 0 ≤ D5 l d7[i] (grV l d7 r)) (hu : B9 ((grI l d7 r).1.map fun x => x.1) i = false) : a0e (grV l d7 r) d7[i] = grV l d7 (r + 1) := by
  have h1 := b2o h hi hm hu
  rw [grV, h1, cond_true, List.getD, Int.toNat_natCast, List.getElem?_eq_getElem hi, Option.getD_some]
theorem sg3 (h : sgI l d7 r i) (hi : i < d7.length) (hm : 0 ≤ D5 l d7[i] (grV l d7 r)) (hu : B9 ((grI l d7 r).1.map fun x => x.1) i = false) : ((grI l d7 r).1.map fun x => x.1) ++ [(i : Int)] = (grI l d7 (r + 1)).1.map fun x => x.1 := by
  rw [← sg1 h hi hm hu, List.map_append]; rfl
theorem b2q (h : sgI l d7 r i) (hi : ¬ i < d7.length) : (gNx l d7 (grI l d7 r)).2.2 = false := by
  unfold sgI at h
  rw [h, a3K hi]
theorem se1 (h : sgI l d7 r i) (hi : ¬ i < d7.length) : grI l d7 r = grI l d7 (r + 1) := (S9 (b2q h hi)).symm
theorem se2 (h : sgI l d7 r i) (hi : ¬ i < d7.length) : grV l d7 r = grV l d7 (r + 1) := by rw [grV, b2q h hi]; rfl
theorem b2F {b t : List Int} {k : Nat} (hk : k < t.length) (h : inR t[k] 10 17 = true) : F2 (((t.take k).filter fun t => inR t 10 17).foldl F2 b) t[k] = ((t.take (k + 1)).filter fun t => inR t 10 17).foldl F2 b := by
  rw [List.take_succ_eq_append_getElem hk, List.filter_append, List.foldl_append, List.filter_cons_of_pos (p := fun t => inR t 10 17) h]; rfl
theorem b2D {b t : List Int} {k : Nat} (hk : k < t.length) (h : inR t[k] 10 17 = false) : ((t.take k).filter fun t => inR t 10 17).foldl F2 b = ((t.take (k + 1)).filter fun t => inR t 10 17).foldl F2 b := by
  rw [List.take_succ_eq_append_getElem hk, List.filter_append, List.foldl_append, List.filter_cons_of_neg (p := fun t => inR t 10 17) (by rw [h]; decide)]; rfl
theorem a9V {al : List AT2} {ds : List Bool} (h1 : g < al.length) (h2 : g < ds.length) (h : ds[g] = true) : E4 (al.take g) (ds.take g) ++ [al[g]] = E4 (al.take (g + 1)) (ds.take (g + 1)) := by rw [a4e h1 h2, h]; rfl
theorem b0u {al : List AT2} {ds : List Bool} (h1 : g < al.length) (h2 : g < ds.length) (h : ds[g] = false) : E4 (al.take g) (ds.take g) = E4 (al.take (g + 1)) (ds.take (g + 1)) := by rw [a4e h1 h2, h]; exact (List.append_nil _).symm
theorem a5v : ∀ {al : List AT2}, (∀ a ∈ al, a.2.length ≤ 3) → C8 (fun x => x.2.length) al ≤ 4 * al.length
  | [], _ => by simp [C8, o5]
  | a :: al, h => by
    have h1 := a5v (al := al) fun b hb => h b (List.mem_cons_of_mem _ hb)
    have h2 := h a (List.mem_cons_self ..)
    simp only [C8, o5, List.length_cons, List.map_cons, List.sum_cons] at *; omega
theorem a9R {al : List AT2} {ds : List Bool} (h : ∀ a ∈ al, a.2.length ≤ 3) (hl : al.length ≤ 4) : C8 (fun x => x.2.length) (E4 (al.take g) ds) ≤ 1048576 := by
  have h1 := a5v (al := E4 (al.take g) ds) fun a ha => h a (List.mem_of_mem_take (b2P ha))
  have h2 := a5d (al := al.take g) (ds := ds)
  have h3 : (al.take g).length ≤ al.length := by rw [List.length_take]; omega
  omega
theorem b3B {a : AT2} {b : List Int} : D5 l a b ≤ l.length ∧ -1 ≤ D5 l a b := a1l
theorem a7a {X : List (Int × Int)} {k : Nat} {c : Int} {a : AT2} (hk : k < X.length) : ((X.take (k + 1)).filter fun x => decide (x.1 = c)).map (fun _ => a) = ((X.take k).filter fun x => decide (x.1 = c)).map (fun _ => a) ++ cond (decide (X[k].1 = c)) [a] [] := by
  rw [List.take_succ_eq_append_getElem hk, List.filter_append, List.map_append]
  congr 1
  cases h : decide (X[k].1 = c) <;> simp_all
theorem b0f {P : List AT2} {X : List (Int × Int)} {k : Nat} {c : Int} {a : AT2} (hk : k < X.length) (h : X[k].1 = c) : P ++ ((X.take k).filter fun x => decide (x.1 = c)).map (fun _ => a) ++ [a] = P ++ ((X.take (k + 1)).filter fun x => decide (x.1 = c)).map fun _ => a := by
  rw [a7a hk, decide_eq_true h, List.append_assoc]; rfl
theorem b0K {P : List AT2} {X : List (Int × Int)} {k : Nat} {c : Int} {a : AT2} (hk : k < X.length) (h : ¬ X[k].1 = c) : P ++ ((X.take k).filter fun x => decide (x.1 = c)).map (fun _ => a) = P ++ ((X.take (k + 1)).filter fun x => decide (x.1 = c)).map fun _ => a := by
  rw [a7a hk, decide_eq_false h]; simp
theorem b1O {X : List (Int × Int)} {k : Nat} {c : Int} : ((X.take k).filter fun x => decide (x.1 = c)).length ≤ X.length :=
  Nat.le_trans (List.length_filter_le _ _) (by rw [List.length_take]; omega)
theorem b2e {X : List (Int × Int)} {k : Nat} {c : Int} {a : AT2} : (((X.take k).filter fun x => decide (x.1 = c)).map fun _ => a).length ≤ X.length := by
  rw [List.length_map]
  exact Nat.le_trans (List.length_filter_le _ _) (by rw [List.length_take]; omega)
theorem a8a : (grF l d7).2.1.length = d7.length := a0s
theorem b3E {X : List (Int × Int)} {k : Nat} (hX : X = (grF l d7).1) (hk : ¬ k < X.length) (hg : g < d7.length) : E4 (d7.take g) ((grF l d7).2.1.take g) ++ ((X.take k).filter fun x => decide (x.1 = (g : Int))).map (fun _ => d7[g]) = E4 (d7.take (g + 1)) ((grF l d7).2.1.take (g + 1)) := by
  subst hX
  have hd : g < (grF l d7).2.1.length := by rw [a8a]; exact hg
  rw [show (grF l d7).1.take k = (grF l d7).1 from List.take_of_length_le (by omega), b4U hd, a4e hg hd]
end
def L4 (s : List Int) (l : List MT5) (q : List Int × List AT2) : Bool := (B3 s l && y8 s q) && y8 s (q.1, J0 l q.2)
def G2 (s : List Int) (l : List MT5) (q : List Int × List AT2) : List Int := cond (L4 s l q) q.1 []
def F5 (s : List Int) (l : List MT5) (q : List Int × List AT2) : List AT2 := cond (L4 s l q) (J0 l q.2) []
section
variable {s : List Int} {l : List MT5} {q : List Int × List AT2}
theorem w5 (h : L4 s l q = false) : [] = G2 s l q ∧ [] = F5 s l q ∧ false = L4 s l q := by rw [G2, F5, h]; exact ⟨rfl, rfl, rfl⟩
theorem D8 (h : (B3 s l && y8 s q) = false) : L4 s l q = false := by rw [L4, h]; rfl
theorem D7 (h : y8 s (q.1, J0 l q.2) = false) : L4 s l q = false := by rw [L4, h, Bool.and_false]
theorem C4 (h1 : (B3 s l && y8 s q) = true) (h2 : y8 s (q.1, J0 l q.2) = true) : q.1 = G2 s l q ∧ J0 l q.2 = F5 s l q ∧ true = L4 s l q := by
  have h : L4 s l q = true := by rw [L4, h1, h2]; rfl
  rw [G2, F5, h]; exact ⟨rfl, rfl, rfl⟩
end
/-! ### queries with negated atoms -/
abbrev GQ := (List Int × List AT2) × List AT2
def b5r (g : GQ) : List Int := f5 (fun t => inR t 10 17) g.1.2
def b5s (s : List Int) (l : List MT5) (g : GQ) : Bool :=
  B3 s l && (a7S s g && (!decide (((grF (exF l) g.1.2).1.length : Int) < g.1.2.length) && !g.2.any fun a => decide (D5 (exF l) a (b5r g) < 0)))
def b7o (s : List Int) (l : List MT5) (g : GQ) : List (Int × Int) := cond (b5s s l g) (grF (exF l) g.1.2).1 []
def b7s (s : List Int) (l : List MT5) (g : GQ) : List Int := cond (b5s s l g) (g.2.map fun a => D5 (exF l) a (b5r g)) []
section
variable {s : List Int} {l : List MT5} {g : GQ} {i : Nat}
theorem a7u {q : List Int × List AT2} (h : L4 s l q = true) : y8 s (G2 s l q, F5 s l q) = true ∧ y8 s q = true := by
  rw [G2, F5, h]
  simp only [L4, Bool.and_eq_true] at h
  exact ⟨h.2, h.1.2⟩
end
end Go.Proofs.YtdopeopehgdccaaGreat
