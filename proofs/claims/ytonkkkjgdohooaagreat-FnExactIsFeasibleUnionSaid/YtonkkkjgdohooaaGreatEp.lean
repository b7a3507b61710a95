import Derived.Test.YtonkkkjgdohooaaGreatBd
namespace Go.Proofs.YtonkkkjgdohooaaGreat
set_option linter.unusedVariables false
set_option linter.unusedSimpArgs false
abbrev MT5 := Int × List Int × Int × Int × Int
abbrev AT2 := Int × List Int
abbrev GS := List (Int × Int) × List Bool × List Int
/-- an input that a call does not know -/
def badI (a : AT2) (b : List Int) (i : Int) : Bool := !inR i 0 ((a.2.length : Int) - 1) || (inR (at0 a.2 i) 10 17 && !hasI b (at0 a.2 i))
def canC (m : MT5) (a : AT2) (b : List Int) : Bool := decide (m.1 = a.1) && !m.2.1.any (badI a b)
def mfst (l : List MT5) (a : AT2) (b : List Int) : Int := idxP (fun m => canC m a b) l
def nxtF (l : List MT5) (b : List Int) : List AT2 → List Bool → Nat → Int × Int × Bool
  | a :: al, d :: ds, i => if !d && decide (0 ≤ mfst l a b) then ((i : Int), mfst l a b, true) else nxtF l b al ds (i + 1)
  | _, _, _ => (0, 0, false)
def gNx (l : List MT5) (atoms : List AT2) (σ : GS) : Int × Int × Bool := nxtF l σ.2.2 atoms σ.2.1 0
def grS (l : List MT5) (atoms : List AT2) (σ : GS) : GS := cond (gNx l atoms σ).2.2
  (σ.1 ++ [((gNx l atoms σ).1, (gNx l atoms σ).2.1)], σ.2.1.set (gNx l atoms σ).1.toNat true, σ.2.2 ++ (atoms.getD (gNx l atoms σ).1.toNat (0, [])).2) σ
def grI (l : List MT5) (atoms : List AT2) : Nat → GS
  | 0 => ([], List.replicate atoms.length false, [])
  | n + 1 => grS l atoms (grI l atoms n)
def grF (l : List MT5) (atoms : List AT2) : GS := grI l atoms atoms.length
section
variable {l : List MT5} {atoms al : List AT2} {ds : List Bool} {b b' : List Int} {i n g : Nat} {σ : GS}
theorem gNx_step {a : AT2} {d : Bool} (h : ¬ (!d && decide (0 ≤ mfst l a b)) = true) : nxtF l b (a :: al) (d :: ds) i = nxtF l b al ds (i + 1) := by rw [nxtF, if_neg h]
theorem gNx_hit {a : AT2} {d : Bool} (h : (!d && decide (0 ≤ mfst l a b)) = true) : nxtF l b (a :: al) (d :: ds) i = ((i : Int), mfst l a b, true) := by rw [nxtF, if_pos h]
theorem gNx_drop (h1 : g < al.length) (h2 : g < ds.length) (h : ¬ (!ds[g] && decide (0 ≤ mfst l al[g] b)) = true) : nxtF l b (al.drop g) (ds.drop g) g = nxtF l b (al.drop (g + 1)) (ds.drop (g + 1)) (g + 1) := by
  rw [List.drop_eq_getElem_cons h1, List.drop_eq_getElem_cons h2, gNx_step h]
theorem gNx_dhit (h1 : g < al.length) (h2 : g < ds.length) (h : (!ds[g] && decide (0 ≤ mfst l al[g] b)) = true) : nxtF l b (al.drop g) (ds.drop g) g = ((g : Int), mfst l al[g] b, true) := by
  rw [List.drop_eq_getElem_cons h1, List.drop_eq_getElem_cons h2, gNx_hit h]
theorem gNx_dend (h1 : ¬ g < al.length) : nxtF l b (al.drop g) (ds.drop g) g = (0, 0, false) := by
  rw [List.drop_eq_nil_of_le (by omega)]; cases ds.drop g <;> rfl
theorem gNx_is : ∀ {al : List AT2} {ds : List Bool} {i : Nat}, (nxtF l b al ds i).2.2 = true → ∃ k, (nxtF l b al ds i).1 = ((i + k : Nat) : Int) ∧ k < al.length ∧ ds[k]? = some false ∧ ∃ a, al[k]? = some a ∧ (nxtF l b al ds i).2.1 = mfst l a b ∧ 0 ≤ mfst l a b
  | [], _, _, h => by simp [nxtF] at h
  | _ :: _, [], _, h => by simp [nxtF] at h
  | a :: al, d :: ds, i, h => by
    by_cases hc : (!d && decide (0 ≤ mfst l a b)) = true
    · rw [gNx_hit hc] at h ⊢
      simp only [Bool.and_eq_true, Bool.not_eq_true', decide_eq_true_eq] at hc
      exact ⟨0, rfl, by simp, by simp [hc.1], a, rfl, rfl, hc.2⟩
    · rw [gNx_step hc] at h ⊢
      obtain ⟨k, h1, h2, h3, a', h4, h5, h6⟩ := gNx_is h
      exact ⟨k + 1, by rw [h1]; congr 1; omega, by simp; omega, by simpa using h3, a', by simpa using h4, h5, h6⟩
theorem gi_len : (grI l atoms n).2.1.length = atoms.length := by
  induction n with
  | zero => simp [grI]
  | succ n ih =>
    simp only [grI, grS]
    cases (gNx l atoms (grI l atoms n)).2.2
    · exact ih
    · simp only [cond_true, List.length_set]; exact ih
theorem count_set_false : ∀ {ds : List Bool} {k : Nat}, ds[k]? = some false → (ds.set k true).count false + 1 = ds.count false
  | [], _, h => by simp at h
  | d :: ds, 0, h => by simp at h; subst h; simp
  | d :: ds, k + 1, h => by
    have := count_set_false (ds := ds) (k := k) (by simpa using h)
    simp only [List.set_cons_succ, List.count_cons]; omega
theorem gi_count : (grI l atoms n).2.1.count false + (grI l atoms n).1.length = atoms.length := by
  induction n with
  | zero => simp [grI]
  | succ n ih =>
    simp only [grI, grS]
    cases h : (gNx l atoms (grI l atoms n)).2.2
    · exact ih
    · obtain ⟨k, h1, h2, h3, _⟩ := gNx_is (show (nxtF l (grI l atoms n).2.2 atoms (grI l atoms n).2.1 0).2.2 = true from h)
      have h4 : (gNx l atoms (grI l atoms n)).1.toNat = k := by unfold gNx; rw [h1]; simp
      simp only [cond_true, h4, List.length_append, List.length_cons, List.length_nil]
      have := count_set_false h3
      omega
theorem gi_le : (grI l atoms n).1.length ≤ atoms.length := by have := gi_count (l := l) (atoms := atoms) (n := n); omega
theorem gi_ok (h : (gNx l atoms (grI l atoms n)).2.2 = true) : (grI l atoms n).1.length < atoms.length := by
  obtain ⟨k, h1, h2, h3, _⟩ := gNx_is (show (nxtF l (grI l atoms n).2.2 atoms (grI l atoms n).2.1 0).2.2 = true from h)
  have h4 := gi_count (l := l) (atoms := atoms) (n := n)
  have : 0 < (grI l atoms n).2.1.count false := List.count_pos_iff.2 (List.mem_of_getElem? h3)
  omega
/-- all n rounds have found something -/
def grP (l : List MT5) (atoms : List AT2) (n : Nat) : Prop := (grI l atoms n).1.length = n
theorem gp_zero : grP l atoms 0 := rfl
theorem gp_step (h : grP l atoms n) (hx : (gNx l atoms (grI l atoms n)).2.2 = true) : grP l atoms (n + 1) := by
  unfold grP at *
  simp only [grI, grS, hx, cond_true, List.length_append, List.length_cons, List.length_nil, h]
theorem gp_le (h : grP l atoms n) : n ≤ atoms.length := by have := gi_le (l := l) (atoms := atoms) (n := n); unfold grP at h; omega
theorem gp_lt (h : grP l atoms n) (hx : (gNx l atoms (grI l atoms n)).2.2 = true) : n < atoms.length := by have := gi_ok hx; unfold grP at h; omega
theorem gi_stay (hx : (gNx l atoms (grI l atoms n)).2.2 = false) : grI l atoms (n + 1) = grI l atoms n := by simp [grI, grS, hx]
theorem gi_stop (hx : (gNx l atoms (grI l atoms n)).2.2 = false) : ∀ k, grI l atoms (n + k) = grI l atoms n
  | 0 => rfl
  | k + 1 => by
    have ih := gi_stop hx k
    rw [← Nat.add_assoc, ← ih]
    exact gi_stay (by rw [ih]; exact hx)
theorem gp_end (h : grP l atoms n) (hx : (gNx l atoms (grI l atoms n)).2.2 = false) : grI l atoms n = grF l atoms := by
  have h1 := gp_le h
  have h2 := gi_stop hx (atoms.length - n)
  rw [show n + (atoms.length - n) = atoms.length from by omega] at h2
  exact h2.symm
theorem gr_step (hx : (gNx l atoms (grI l atoms n)).2.2 = true) : grI l atoms (n + 1) = ((grI l atoms n).1 ++ [((gNx l atoms (grI l atoms n)).1, (gNx l atoms (grI l atoms n)).2.1)], (grI l atoms n).2.1.set (gNx l atoms (grI l atoms n)).1.toNat true, (grI l atoms n).2.2 ++ (atoms.getD (gNx l atoms (grI l atoms n)).1.toNat (0, [])).2) := by
  simp [grI, grS, hx]
/-- what has been done stands among the steps, once -/
theorem gi_done : (∀ k, (grI l atoms n).2.1.getD k false = (grI l atoms n).1.any fun x => decide (x.1 = (k : Int))) ∧ ((grI l atoms n).1.map fun x => x.1).Nodup ∧ ∀ x ∈ (grI l atoms n).1, 0 ≤ x.1 ∧ x.1.toNat < atoms.length ∧ 0 ≤ x.2 ∧ x.2 < (l.length : Int) := by
  induction n with
  | zero =>
    refine ⟨fun k => ?_, by simp [grI], by simp [grI]⟩
    simp only [grI, List.any_nil, List.getD]
    cases h : (List.replicate atoms.length false)[k]? with
    | none => rfl
    | some v => rw [List.getElem?_replicate] at h; split at h <;> simp at h; rw [← h]; rfl
  | succ n ih =>
    obtain ⟨i1, i2, i3⟩ := ih
    cases h : (gNx l atoms (grI l atoms n)).2.2
    · rw [gi_stay h]; exact ⟨i1, i2, i3⟩
    · rw [gr_step h]
      obtain ⟨k, h1, h2, h3, a, h4, h5, h6⟩ := gNx_is (show (nxtF l (grI l atoms n).2.2 atoms (grI l atoms n).2.1 0).2.2 = true from h)
      have e1 : (gNx l atoms (grI l atoms n)).1 = (k : Int) := by unfold gNx; rw [h1]; simp
      have e2 : (gNx l atoms (grI l atoms n)).1.toNat = k := by rw [e1]; simp
      have e3 : (gNx l atoms (grI l atoms n)).2.1 = mfst l a (grI l atoms n).2.2 := h5
      have hk : k < (grI l atoms n).2.1.length := (List.getElem?_eq_some_iff.1 h3).1
      have i1k := i1 k
      simp only [List.getD, h3, Option.getD_some] at i1k
      refine ⟨fun j => ?_, ?_, ?_⟩
      · simp only [e2, e1, List.any_append, List.any_cons, List.any_nil, Bool.or_false, ← i1 j]
        by_cases hj : j = k
        · subst hj; simp [List.getD, hk]
        · have : ¬ ((k : Int) = (j : Int)) := by omega
          simp only [this, decide_false, Bool.or_false, List.getD, Int.toNat_natCast, List.getElem?_set_ne (Ne.symm hj)]
      · rw [List.map_append, List.nodup_append]
        refine ⟨i2, by simp, fun u hu v hv e => ?_⟩
        simp only [List.map_cons, List.map_nil, List.mem_singleton] at hv
        subst e; rw [hv, e1] at hu
        obtain ⟨y, hy, hy2⟩ := List.mem_map.1 hu
        have := List.any_eq_false.1 i1k.symm y hy
        simp [hy2] at this
      · intro x hx
        rcases List.mem_append.1 hx with hx | hx
        · exact i3 x hx
        · simp only [List.mem_singleton] at hx; subst hx
          refine ⟨by rw [e1]; omega, by rw [e2]; exact h2, by rw [e3]; exact h6, ?_⟩
          show (gNx l atoms (grI l atoms n)).2.1 < _
          rw [e3]
          unfold mfst at h6 ⊢
          have := (idx_lt (p := fun m => canC m a (grI l atoms n).2.2) (s := l) (by omega)).2
          omega
theorem has_any {s : List (Int × Int)} {k : Int} : hasI (s.map fun x => x.1) k = s.any fun x => decide (x.1 = k) := by
  unfold hasI; rw [List.any_map]; rfl
end
/-! ### the reference's: only the variables are kept -/
def bndV (b : List Int) (a : AT2) : List Int := (a.2.filter fun t => inR t 10 17).foldl putI b
def grV (l : List MT5) (atoms : List AT2) : Nat → List Int
  | 0 => []
  | n + 1 => cond (gNx l atoms (grI l atoms n)).2.2 (bndV (grV l atoms n) (atoms.getD (gNx l atoms (grI l atoms n)).1.toNat (0, []))) (grV l atoms n)
section
variable {l : List MT5} {atoms al : List AT2} {ds : List Bool} {b b' : List Int} {i n g : Nat} {m : MT5} {a : AT2}
theorem bad_eq (h : ∀ v, inR v 10 17 = true → hasI b v = hasI b' v) : badI a b = badI a b' := by
  funext i; unfold badI
  cases hv : inR (at0 a.2 i) 10 17
  · rfl
  · rw [h _ hv]
theorem can_eq (h : ∀ v, inR v 10 17 = true → hasI b v = hasI b' v) : canC m a b = canC m a b' := by unfold canC; rw [bad_eq h]
theorem mfst_eq (h : ∀ v, inR v 10 17 = true → hasI b v = hasI b' v) : mfst l a b = mfst l a b' := by
  unfold mfst; congr 1; funext m; exact can_eq h
theorem insQ_memI {α : Type} {p : α → Bool} {f : α} : ∀ {l : List α}, l.any p = true → ∀ y, y ∈ insQ p f l ↔ y ∈ l ∨ y = f
  | [], h, _ => by simp at h
  | x :: l, h, y => by
    by_cases hp : p x = true
    · simp only [insQ, hp, if_true, List.mem_cons]
      constructor
      · rintro (h | h | h)
        · exact .inr h
        · exact .inl (.inl h)
        · exact .inl (.inr h)
      · rintro ((h | h) | h)
        · exact .inr (.inl h)
        · exact .inr (.inr h)
        · exact .inl h
    · have h1 : l.any p = true := by simpa [hp] using h
      simp only [insQ, hp, if_false, List.mem_cons, insQ_memI h1 y, Bool.false_eq_true]
      exact or_assoc.symm
theorem putI_mem {x y : Int} : y ∈ putI b x ↔ y ∈ b ∨ y = x := by
  unfold putI addP
  split
  · rename_i h
    rw [hasI_mem] at h
    exact ⟨.inl, fun h' => h'.elim id fun e => e ▸ h⟩
  · split
    · rename_i h; exact insQ_memI h y
    · simp
theorem has_put {x v : Int} : hasI (putI b x) v = (hasI b v || decide (x = v)) := by
  rw [Bool.eq_iff_iff, hasI_mem, putI_mem, Bool.or_eq_true, hasI_mem, decide_eq_true_eq]
  exact ⟨fun h => h.imp id Eq.symm, fun h => h.imp id Eq.symm⟩
theorem has_bnd (a : AT2) {v : Int} (hv : inR v 10 17 = true) : hasI (bndV b a) v = (hasI b v || hasI a.2 v) := by
  unfold bndV
  generalize a.2 = t
  induction t generalizing b with
  | nil => simp [hasI]
  | cons x t ih =>
    by_cases hx : inR x 10 17 = true
    · rw [List.filter_cons_of_pos (p := fun t => inR t 10 17) hx, List.foldl_cons, ih, has_put]
      simp only [hasI, List.any_cons, Bool.or_assoc]
    · rw [List.filter_cons_of_neg (p := fun t => inR t 10 17) hx, ih]
      have : decide (x = v) = false := decide_eq_false fun e => hx (e ▸ hv)
      simp only [hasI, List.any_cons, this, Bool.false_or]
theorem grV_has {v : Int} (hv : inR v 10 17 = true) : hasI (grV l atoms n) v = hasI (grI l atoms n).2.2 v := by
  induction n with
  | zero => rfl
  | succ n ih =>
    cases h : (gNx l atoms (grI l atoms n)).2.2
    · rw [gi_stay h, grV, h]; exact ih
    · rw [gr_step h, grV, h, cond_true, has_bnd _ hv, ih]
      simp only [hasI, List.any_append]
theorem fold_put_len {t : List Int} : (t.foldl putI b).length ≤ b.length + t.length := by
  induction t generalizing b with
  | nil => simp
  | cons x t ih =>
    have h1 := ih (b := putI b x)
    have h2 := addP_len (h := hasI b x) (p := fun y => decide (x < y)) (f := x) (l := b)
    simp only [List.foldl_cons, List.length_cons]; unfold putI at *; omega
theorem bnd_len : (bndV b a).length ≤ b.length + a.2.length := by
  unfold bndV
  have h1 := fold_put_len (b := b) (t := a.2.filter fun t => inR t 10 17)
  have h2 := List.length_filter_le (fun t => inR t 10 17) a.2
  omega
theorem getD_len (h : ∀ a ∈ atoms, a.2.length ≤ 3) (k : Nat) : (atoms.getD k (0, [])).2.length ≤ 3 := by
  rw [List.getD]
  cases hk : atoms[k]? with
  | none => simp
  | some a => exact h a (List.mem_of_getElem? hk)
theorem grV_len (h : ∀ a ∈ atoms, a.2.length ≤ 3) : (grV l atoms n).length ≤ 3 * n := by
  induction n with
  | zero => simp [grV]
  | succ n ih =>
    rw [grV]
    cases (gNx l atoms (grI l atoms n)).2.2
    · simp only [cond_false]; omega
    · simp only [cond_true]
      have h1 := bnd_len (b := grV l atoms n) (a := atoms.getD (gNx l atoms (grI l atoms n)).1.toNat (0, []))
      have h2 := getD_len h (gNx l atoms (grI l atoms n)).1.toNat
      omega
theorem grB_len (h : ∀ a ∈ atoms, a.2.length ≤ 3) : (grI l atoms n).2.2.length ≤ 3 * n := by
  induction n with
  | zero => simp [grI]
  | succ n ih =>
    cases hx : (gNx l atoms (grI l atoms n)).2.2
    · rw [gi_stay hx]; omega
    · rw [gr_step hx]
      have h2 := getD_len h (gNx l atoms (grI l atoms n)).1.toNat
      simp only [List.length_append]; omega
theorem mfst_V : mfst l a (grV l atoms n) = mfst l a (grI l atoms n).2.2 := mfst_eq fun v hv => grV_has hv
end
/-! ### the methods without a limit -/
def exM (m : MT5) : MT5 := cond (decide (m.2.2.1 ≠ 0)) (-1, m.2) m
def exF (l : List MT5) : List MT5 := l.map exM
/-- the atoms that get a step -/
def partL (al : List AT2) (ds : List Bool) : List AT2 := ((al.zip ds).filter fun x => x.2).map fun x => x.1
def partF (l : List MT5) (atoms : List AT2) : List AT2 := partL atoms (grF (exF l) atoms).2.1
section
variable {al : List AT2} {ds : List Bool} {g : Nat} {l : List MT5} {atoms : List AT2}
theorem partL_step (h1 : g < al.length) (h2 : g < ds.length) : partL (al.take (g + 1)) (ds.take (g + 1)) = partL (al.take g) (ds.take g) ++ cond ds[g] [al[g]] [] := by
  unfold partL
  rw [List.take_succ_eq_append_getElem h1, List.take_succ_eq_append_getElem h2, List.zip_append (by simp; omega), List.filter_append, List.map_append]
  congr 1
  cases ds[g] <;> rfl
theorem partL_all (h1 : ¬ g < al.length) (h : ds.length = al.length) : partL (al.take g) (ds.take g) = partL al ds := by
  rw [List.take_of_length_le (by omega), List.take_of_length_le (by omega)]
theorem partL_len : (partL al ds).length ≤ al.length := by
  unfold partL
  rw [List.length_map]
  refine Nat.le_trans (List.length_filter_le _ _) ?_
  rw [List.length_zip]; omega
theorem partL_mem {a : AT2} (h : a ∈ partL al ds) : a ∈ al := by
  obtain ⟨x, hx, rfl⟩ := List.mem_map.1 h
  exact (List.of_mem_zip (List.mem_filter.1 hx).1).1
theorem pick_one {s : List (Int × Int)} {k : Int} {a : AT2} (h : (s.map fun x => x.1).Nodup) : (s.filter fun x => decide (x.1 = k)).map (fun _ => a) = cond (s.any fun x => decide (x.1 = k)) [a] [] := by
  induction s with
  | nil => rfl
  | cons x s ih =>
    rw [List.map_cons, List.nodup_cons] at h
    by_cases hx : x.1 = k
    · have h0 : (s.filter fun x => decide (x.1 = k)) = [] := List.filter_eq_nil_iff.2 fun y hy => by
        simp only [decide_eq_true_eq]
        intro e
        exact h.1 (List.mem_map.2 ⟨y, hy, by rw [e, hx]⟩)
      rw [List.filter_cons_of_pos (by simp [hx]), h0, List.any_cons, decide_eq_true hx]; rfl
    · rw [List.filter_cons_of_neg (by simp [hx]), ih h.2, List.any_cons, decide_eq_false hx, Bool.false_or]
theorem grF_done {k : Nat} : (grF l atoms).2.1.getD k false = (grF l atoms).1.any fun x => decide (x.1 = (k : Int)) := gi_done.1 k
theorem grF_one {k : Nat} {a : AT2} (hk : k < (grF l atoms).2.1.length) : ((grF l atoms).1.filter fun x => decide (x.1 = (k : Int))).map (fun _ => a) = cond ((grF l atoms).2.1[k]) [a] [] := by
  have h0 := (gi_done (l := l) (atoms := atoms) (n := atoms.length)).2.1
  change (((grF l atoms).1).map fun x => x.1).Nodup at h0
  rw [pick_one h0]
  have := grF_done (l := l) (atoms := atoms) (k := k)
  rw [List.getD, List.getElem?_eq_getElem hk, Option.getD_some] at this
  rw [this]
end
section
variable {l : List MT5} {atoms : List AT2} {g n r i : Nat} {q : List Int × List AT2} {s : List Int}
theorem gx_b (h : (nxtF l (grI l atoms n).2.2 atoms (grI l atoms n).2.1 0).2.2 = true) : 0 ≤ (nxtF l (grI l atoms n).2.2 atoms (grI l atoms n).2.1 0).1 ∧ (nxtF l (grI l atoms n).2.2 atoms (grI l atoms n).2.1 0).1.toNat < atoms.length ∧ 0 ≤ (nxtF l (grI l atoms n).2.2 atoms (grI l atoms n).2.1 0).2.1 ∧ (nxtF l (grI l atoms n).2.2 atoms (grI l atoms n).2.1 0).2.1 < l.length := by
  obtain ⟨k, h1, h2, h3, a, h4, h5, h6⟩ := gNx_is h
  refine ⟨by rw [h1]; omega, by rw [h1]; omega, by rw [h5]; exact h6, ?_⟩
  rw [h5]; unfold mfst at h6 ⊢
  have := (idx_lt (p := fun m => canC m a (grI l atoms n).2.2) (s := l) (by omega)).2
  omega
theorem gr_s1 (h : (nxtF l (grI l atoms n).2.2 atoms (grI l atoms n).2.1 0).2.2 = true) : (grI l atoms n).1 ++ [((nxtF l (grI l atoms n).2.2 atoms (grI l atoms n).2.1 0).1, (nxtF l (grI l atoms n).2.2 atoms (grI l atoms n).2.1 0).2.1)] = (grI l atoms (n + 1)).1 := by rw [gr_step h]; rfl
theorem gr_s2 (h : (nxtF l (grI l atoms n).2.2 atoms (grI l atoms n).2.1 0).2.2 = true) : (grI l atoms n).2.1.set (nxtF l (grI l atoms n).2.2 atoms (grI l atoms n).2.1 0).1.toNat true = (grI l atoms (n + 1)).2.1 := by rw [gr_step h]; rfl
theorem gr_s3 (h : (nxtF l (grI l atoms n).2.2 atoms (grI l atoms n).2.1 0).2.2 = true) (hk : (nxtF l (grI l atoms n).2.2 atoms (grI l atoms n).2.1 0).1.toNat < atoms.length) : (grI l atoms n).2.2 ++ (atoms[(nxtF l (grI l atoms n).2.2 atoms (grI l atoms n).2.1 0).1.toNat]).2 = (grI l atoms (n + 1)).2.2 := by
  rw [gr_step h]
  show _ = (grI l atoms n).2.2 ++ (atoms.getD (nxtF l (grI l atoms n).2.2 atoms (grI l atoms n).2.1 0).1.toNat (0, [])).2
  rw [List.getD, List.getElem?_eq_getElem hk, Option.getD_some]
/-- the reference's inner rounds -/
def sgI (l : List MT5) (atoms : List AT2) (r i : Nat) : Prop := gNx l atoms (grI l atoms r) = nxtF l (grI l atoms r).2.2 (atoms.drop i) ((grI l atoms r).2.1.drop i) i
theorem sg_zero : sgI l atoms r 0 := rfl
theorem sg_used (hi : i < atoms.length) : hasI ((grI l atoms r).1.map fun x => x.1) i = (grI l atoms r).2.1[i]'(by rw [gi_len]; exact hi) := by
  rw [has_any, ← gi_done.1 i, List.getD, List.getElem?_eq_getElem (by rw [gi_len]; exact hi), Option.getD_some]
theorem sg_mis1 (h : sgI l atoms r i) (hi : i < atoms.length) (hm : ¬ 0 ≤ mfst l atoms[i] (grV l atoms r)) : sgI l atoms r (i + 1) := by
  unfold sgI at *
  rw [h]
  exact gNx_drop hi (by rw [gi_len]; exact hi) (by rw [mfst_V] at hm; simp [hm])
theorem sg_mis2 (h : sgI l atoms r i) (hi : i < atoms.length) (hm : hasI ((grI l atoms r).1.map fun x => x.1) i = true) : sgI l atoms r (i + 1) := by
  unfold sgI at *
  rw [h]
  exact gNx_drop hi (by rw [gi_len]; exact hi) (by rw [sg_used hi] at hm; simp [hm])
theorem sg_hit (h : sgI l atoms r i) (hi : i < atoms.length) (hm : 0 ≤ mfst l atoms[i] (grV l atoms r)) (hu : hasI ((grI l atoms r).1.map fun x => x.1) i = false) : gNx l atoms (grI l atoms r) = ((i : Int), mfst l atoms[i] (grV l atoms r), true) := by
  unfold sgI at h
  rw [sg_used hi] at hu
  rw [mfst_V] at hm ⊢
  rw [h, gNx_dhit hi (by rw [gi_len]; exact hi) (by simp [hu, hm])]
theorem sg1 (h : sgI l atoms r i) (hi : i < atoms.length) (hm : 0 ≤ mfst l atoms[i] (grV l atoms r)) (hu : hasI ((grI l atoms r).1.map fun x => x.1) i = false) : (grI l atoms r).1 ++ [((i : Int), mfst l atoms[i] (grV l atoms r))] = (grI l atoms (r + 1)).1 := by
  have h1 := sg_hit h hi hm hu
  rw [gr_step (by rw [h1]), h1]
theorem sg2 (h : sgI l atoms r i) (hi : i < atoms.length) (hm : 0 ≤ mfst l atoms[i] (grV l atoms r)) (hu : hasI ((grI l atoms r).1.map fun x => x.1) i = false) : bndV (grV l atoms r) atoms[i] = grV l atoms (r + 1) := by
  have h1 := sg_hit h hi hm hu
  rw [grV, h1, cond_true, List.getD, Int.toNat_natCast, List.getElem?_eq_getElem hi, Option.getD_some]
theorem sg3 (h : sgI l atoms r i) (hi : i < atoms.length) (hm : 0 ≤ mfst l atoms[i] (grV l atoms r)) (hu : hasI ((grI l atoms r).1.map fun x => x.1) i = false) : ((grI l atoms r).1.map fun x => x.1) ++ [(i : Int)] = (grI l atoms (r + 1)).1.map fun x => x.1 := by
  rw [← sg1 h hi hm hu, List.map_append]; rfl
theorem sg_end (h : sgI l atoms r i) (hi : ¬ i < atoms.length) : (gNx l atoms (grI l atoms r)).2.2 = false := by
  unfold sgI at h
  rw [h, gNx_dend hi]
theorem se1 (h : sgI l atoms r i) (hi : ¬ i < atoms.length) : grI l atoms r = grI l atoms (r + 1) := (gi_stay (sg_end h hi)).symm
theorem se2 (h : sgI l atoms r i) (hi : ¬ i < atoms.length) : grV l atoms r = grV l atoms (r + 1) := by rw [grV, sg_end h hi]; rfl
theorem bnd_s1 {b t : List Int} {k : Nat} (hk : k < t.length) (h : inR t[k] 10 17 = true) : putI (((t.take k).filter fun t => inR t 10 17).foldl putI b) t[k] = ((t.take (k + 1)).filter fun t => inR t 10 17).foldl putI b := by
  rw [List.take_succ_eq_append_getElem hk, List.filter_append, List.foldl_append, List.filter_cons_of_pos (p := fun t => inR t 10 17) h]; rfl
theorem bnd_s0 {b t : List Int} {k : Nat} (hk : k < t.length) (h : inR t[k] 10 17 = false) : ((t.take k).filter fun t => inR t 10 17).foldl putI b = ((t.take (k + 1)).filter fun t => inR t 10 17).foldl putI b := by
  rw [List.take_succ_eq_append_getElem hk, List.filter_append, List.foldl_append, List.filter_cons_of_neg (p := fun t => inR t 10 17) (by rw [h]; decide)]; rfl
theorem partL_s1 {al : List AT2} {ds : List Bool} (h1 : g < al.length) (h2 : g < ds.length) (h : ds[g] = true) : partL (al.take g) (ds.take g) ++ [al[g]] = partL (al.take (g + 1)) (ds.take (g + 1)) := by rw [partL_step h1 h2, h]; rfl
theorem partL_s0 {al : List AT2} {ds : List Bool} (h1 : g < al.length) (h2 : g < ds.length) (h : ds[g] = false) : partL (al.take g) (ds.take g) = partL (al.take (g + 1)) (ds.take (g + 1)) := by rw [partL_step h1 h2, h]; exact (List.append_nil _).symm
theorem tot_few : ∀ {al : List AT2}, (∀ a ∈ al, a.2.length ≤ 3) → totL (fun x => x.2.length) al ≤ 4 * al.length
  | [], _ => by simp [totL, totS]
  | a :: al, h => by
    have h1 := tot_few (al := al) fun b hb => h b (List.mem_cons_of_mem _ hb)
    have h2 := h a (List.mem_cons_self ..)
    simp only [totL, totS, List.length_cons, List.map_cons, List.sum_cons] at *; omega
theorem tot_part {al : List AT2} {ds : List Bool} (h : ∀ a ∈ al, a.2.length ≤ 3) (hl : al.length ≤ 4) : totL (fun x => x.2.length) (partL (al.take g) ds) ≤ 1048576 := by
  have h1 := tot_few (al := partL (al.take g) ds) fun a ha => h a (List.mem_of_mem_take (partL_mem ha))
  have h2 := partL_len (al := al.take g) (ds := ds)
  have h3 : (al.take g).length ≤ al.length := by rw [List.length_take]; omega
  omega
theorem mfst_rng {a : AT2} {b : List Int} : mfst l a b ≤ l.length ∧ -1 ≤ mfst l a b := idx_range
theorem pickA_step {X : List (Int × Int)} {k : Nat} {c : Int} {a : AT2} (hk : k < X.length) : ((X.take (k + 1)).filter fun x => decide (x.1 = c)).map (fun _ => a) = ((X.take k).filter fun x => decide (x.1 = c)).map (fun _ => a) ++ cond (decide (X[k].1 = c)) [a] [] := by
  rw [List.take_succ_eq_append_getElem hk, List.filter_append, List.map_append]
  congr 1
  cases h : decide (X[k].1 = c) <;> simp_all
theorem pickA_s1 {P : List AT2} {X : List (Int × Int)} {k : Nat} {c : Int} {a : AT2} (hk : k < X.length) (h : X[k].1 = c) : P ++ ((X.take k).filter fun x => decide (x.1 = c)).map (fun _ => a) ++ [a] = P ++ ((X.take (k + 1)).filter fun x => decide (x.1 = c)).map fun _ => a := by
  rw [pickA_step hk, decide_eq_true h, List.append_assoc]; rfl
theorem pickA_s0 {P : List AT2} {X : List (Int × Int)} {k : Nat} {c : Int} {a : AT2} (hk : k < X.length) (h : ¬ X[k].1 = c) : P ++ ((X.take k).filter fun x => decide (x.1 = c)).map (fun _ => a) = P ++ ((X.take (k + 1)).filter fun x => decide (x.1 = c)).map fun _ => a := by
  rw [pickA_step hk, decide_eq_false h]; simp
theorem pickA_len2 {X : List (Int × Int)} {k : Nat} {c : Int} : ((X.take k).filter fun x => decide (x.1 = c)).length ≤ X.length :=
  Nat.le_trans (List.length_filter_le _ _) (by rw [List.length_take]; omega)
theorem pickA_len {X : List (Int × Int)} {k : Nat} {c : Int} {a : AT2} : (((X.take k).filter fun x => decide (x.1 = c)).map fun _ => a).length ≤ X.length := by
  rw [List.length_map]
  exact Nat.le_trans (List.length_filter_le _ _) (by rw [List.length_take]; omega)
theorem grF_len : (grF l atoms).2.1.length = atoms.length := gi_len
theorem part_one {X : List (Int × Int)} {k : Nat} (hX : X = (grF l atoms).1) (hk : ¬ k < X.length) (hg : g < atoms.length) : partL (atoms.take g) ((grF l atoms).2.1.take g) ++ ((X.take k).filter fun x => decide (x.1 = (g : Int))).map (fun _ => atoms[g]) = partL (atoms.take (g + 1)) ((grF l atoms).2.1.take (g + 1)) := by
  subst hX
  have hd : g < (grF l atoms).2.1.length := by rw [grF_len]; exact hg
  rw [show (grF l atoms).1.take k = (grF l atoms).1 from List.take_of_length_le (by omega), grF_one hd, partL_step hg hd]
end
def prtB (s : List Int) (l : List MT5) (q : List Int × List AT2) : Bool := (okMeths s l && okQuery s q) && okQuery s (q.1, partF l q.2)
def prtH (s : List Int) (l : List MT5) (q : List Int × List AT2) : List Int := cond (prtB s l q) q.1 []
def prtA (s : List Int) (l : List MT5) (q : List Int × List AT2) : List AT2 := cond (prtB s l q) (partF l q.2) []
section
variable {s : List Int} {l : List MT5} {q : List Int × List AT2}
theorem prt_no (h : prtB s l q = false) : [] = prtH s l q ∧ [] = prtA s l q ∧ false = prtB s l q := by rw [prtH, prtA, h]; exact ⟨rfl, rfl, rfl⟩
theorem prt_no1 (h : (okMeths s l && okQuery s q) = false) : prtB s l q = false := by rw [prtB, h]; rfl
theorem prt_no2 (h : okQuery s (q.1, partF l q.2) = false) : prtB s l q = false := by rw [prtB, h, Bool.and_false]
theorem prt_yes (h1 : (okMeths s l && okQuery s q) = true) (h2 : okQuery s (q.1, partF l q.2) = true) : q.1 = prtH s l q ∧ partF l q.2 = prtA s l q ∧ true = prtB s l q := by
  have h : prtB s l q = true := by rw [prtB, h1, h2]; rfl
  rw [prtH, prtA, h]; exact ⟨rfl, rfl, rfl⟩
end
/-! ### queries with negated atoms -/
abbrev GQ := (List Int × List AT2) × List AT2
def vrsF (g : GQ) : List Int := termsF (fun t => inR t 10 17) g.1.2
def fgoB (s : List Int) (l : List MT5) (g : GQ) : Bool :=
  okMeths s l && (okGuard s g && (!decide (((grF (exF l) g.1.2).1.length : Int) < g.1.2.length) && !g.2.any fun a => decide (mfst (exF l) a (vrsF g) < 0)))
def fgoS (s : List Int) (l : List MT5) (g : GQ) : List (Int × Int) := cond (fgoB s l g) (grF (exF l) g.1.2).1 []
def fgoM (s : List Int) (l : List MT5) (g : GQ) : List Int := cond (fgoB s l g) (g.2.map fun a => mfst (exF l) a (vrsF g)) []
section
variable {s : List Int} {l : List MT5} {g : GQ} {i : Nat}
theorem prt_ok {q : List Int × List AT2} (h : prtB s l q = true) : okQuery s (prtH s l q, prtA s l q) = true ∧ okQuery s q = true := by
  rw [prtH, prtA, h]
  simp only [prtB, Bool.and_eq_true] at h
  exact ⟨h.2, h.1.2⟩
end
end Go.Proofs.YtonkkkjgdohooaaGreat
