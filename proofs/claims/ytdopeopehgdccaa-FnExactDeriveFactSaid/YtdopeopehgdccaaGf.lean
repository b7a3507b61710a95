import Derived.Test.YtdopeopehgdccaaDy
namespace Go.Proofs.Ytdopeopehgdccaa
set_option linter.unusedVariables false
set_option linter.unusedSimpArgs false
abbrev Way := Fct × List Int
def V1 (r : Rul) (f : Fct) : Fct := (r.2.1, f7 r.2.2 f.2)
def a1y (X : List Way) (f : Fct) : Bool := v5 (X.map fun y => y.1) f
def wyC (r : Rul) (x : Way) (X : List Way) : Bool := decide (x.1.1 = r.1) && !a1y X (V1 r x.1)
def wy1 (a7 : List Rul) (x : Way) (X : List Way) (k : Nat) : List Way :=
  cond (wyC (a7.getD k (0, 0, [])) x X) (X ++ [(V1 (a7.getD k (0, 0, [])) x.1, x.2 ++ [(k : Int)])]) X
def wyK (a7 : List Rul) (x : Way) (X : List Way) : Nat → List Way
  | 0 => X
  | k + 1 => wy1 a7 x (wyK a7 x X k) k
def wyI (a7 : List Rul) (f0 : Fct) : Nat → List Way
  | 0 => [(f0, [])]
  | i + 1 => match (wyI a7 f0 i)[i]? with
    | some x => wyK a7 x (wyI a7 f0 i) a7.length
    | none => wyI a7 f0 i
def wyP (to : Fct) (y : Way) : Bool := decide (r6 y.1 to = 0)
def wyW (a7 : List Rul) (f0 : Fct) : List Way := wyI a7 f0 6000
def wyB (a7 : List Rul) (f0 to : Fct) : Bool := (wyW a7 f0).any (wyP to)
def wyR (a7 : List Rul) (f0 to : Fct) : List Int := (((wyW a7 f0).find? (wyP to)).map fun y => y.2).getD []
/-- the ways are valid, without repetition, and short -/
structure WInv (s : List Int) (X : List Way) : Prop where
  ok : ∀ y ∈ X, j5 s y.1 = true
  nod : (X.map fun y => y.1).Nodup
  le : ∀ (j : Nat) (y : Way), X[j]? = some y → y.2.length ≤ j ∧ ∀ v ∈ y.2, 0 ≤ v ∧ v ≤ 4
section
variable {s : List Int} {a7 : List Rul} {f0 to f : Fct} {x y : Way} {X : List Way} {i k n : Nat} {a8 : List Fct}
theorem WInv.len (h : WInv s X) : X.length ≤ 5324 := by
  have := a1g h.nod fun f hf => by obtain ⟨y, hy, rfl⟩ := List.mem_map.1 hf; exact h.ok y hy
  rwa [List.length_map] at this
theorem a2p (h : j5 s f0 = true) : WInv s (wyI a7 f0 0) where
  ok := fun y hy => by simp only [wyI, List.mem_singleton] at hy; subst hy; exact h
  nod := by simp [wyI]
  le := fun j y hy => by
    cases j with
    | zero => simp only [wyI, List.getElem?_cons_zero, Option.some.injEq] at hy; subst hy; simp
    | succ j => simp [wyI] at hy
theorem a2o (hr : g0 s a7 = true) (h : WInv s X) (hx : X[i]? = some x) (hk : k < a7.length) : WInv s (wy1 a7 x X k) := by
  have hi := (List.getElem?_eq_some_iff.1 hx).1
  have hm := List.mem_of_getElem? hx
  obtain ⟨r1, r2, r3⟩ := B6 hr
  unfold wy1
  rw [u8 hk]
  cases hc : wyC a7[k] x X with
  | false => exact h
  | true =>
    simp only [wyC, Bool.and_eq_true, decide_eq_true_eq, Bool.not_eq_true'] at hc
    have ho := a0P (r3 _ (List.getElem_mem hk)) (h.ok x hm) hc.1
    refine ⟨fun y hy => ?_, ?_, fun j y hy => ?_⟩
    · rcases List.mem_append.1 hy with hy | hy
      · exact h.ok y hy
      · simp only [List.mem_singleton] at hy; subst hy; exact ho
    · show ((X ++ [_]).map fun (y : Way) => y.1).Nodup
      rw [List.map_append, List.nodup_append]
      refine ⟨h.nod, by simp, fun u hu v hv e => ?_⟩
      simp only [List.map_cons, List.map_nil, List.mem_singleton] at hv
      rw [hv] at e; subst e
      have := a1N.2 hu
      have h9 : v5 (X.map fun (y : Way) => y.1) (V1 a7[k] x.1) = false := hc.2
      rw [h9] at this; cases this
    · rcases Nat.lt_or_ge j X.length with hj | hj
      · have : X[j]? = some y := by rw [← hy]; exact (List.getElem?_append_left hj).symm
        exact h.le j y this
      · have e : (X ++ [(V1 a7[k] x.1, x.2 ++ [(k : Int)])])[j]? = some y := hy
        rw [List.getElem?_append_right hj] at e
        cases hz : j - X.length with
        | zero =>
          rw [hz] at e
          simp only [List.getElem?_cons_zero, Option.some.injEq] at e
          subst e
          obtain ⟨a1, a2⟩ := h.le i x hx
          refine ⟨by simp only [List.length_append, List.length_singleton]; omega, fun v hv => ?_⟩
          rcases List.mem_append.1 hv with hv | hv
          · exact a2 v hv
          · simp only [List.mem_singleton] at hv; subst hv; omega
        | succ z => rw [hz] at e; simp at e
theorem a2s : ∃ Z, wy1 a7 x X k = X ++ Z := by
  unfold wy1
  cases wyC (a7.getD k (0, 0, [])) x X
  · exact ⟨[], (List.append_nil _).symm⟩
  · exact ⟨_, rfl⟩
theorem U5 : ∀ {k : Nat}, ∃ Z, wyK a7 x X k = X ++ Z
  | 0 => ⟨[], (List.append_nil _).symm⟩
  | k + 1 => by
    obtain ⟨Z, h⟩ := U5 (k := k)
    obtain ⟨Y, h2⟩ := a2s (a7 := a7) (x := x) (X := wyK a7 x X k) (k := k)
    exact ⟨Z ++ Y, by rw [wyK, h2, h, List.append_assoc]⟩
theorem J4 (hx : X[i]? = some x) : (wyK a7 x X k)[i]? = some x := by
  obtain ⟨Z, h⟩ := U5 (a7 := a7) (x := x) (X := X) (k := k)
  rw [h, List.getElem?_append_left (List.getElem?_eq_some_iff.1 hx).1, hx]
theorem O5 (hr : g0 s a7 = true) (h : WInv s X) (hx : X[i]? = some x) : ∀ {k : Nat}, k ≤ a7.length → WInv s (wyK a7 x X k)
  | 0, _ => h
  | k + 1, hk => a2o hr (O5 hr h hx (k := k) (by omega)) (J4 hx) (by omega)
theorem P7 (hx : (wyI a7 f0 i)[i]? = some x) : wyI a7 f0 (i + 1) = wyK a7 x (wyI a7 f0 i) a7.length := by rw [wyI, hx]
theorem O4 (hr : g0 s a7 = true) (h : j5 s f0 = true) : ∀ {i : Nat}, WInv s (wyI a7 f0 i)
  | 0 => a2p h
  | i + 1 => by
    have ih := O4 hr h (i := i)
    cases hx : (wyI a7 f0 i)[i]? with
    | none => rw [wyI, hx]; exact ih
    | some x => rw [P7 hx]; exact O5 hr ih hx (Nat.le_refl _)
theorem U1 : ∀ {m : Nat}, ∃ Z, wyI a7 f0 (n + m) = wyI a7 f0 n ++ Z
  | 0 => ⟨[], (List.append_nil _).symm⟩
  | m + 1 => by
    obtain ⟨Z, h⟩ := U1 (m := m)
    rw [← Nat.add_assoc]
    cases hx : (wyI a7 f0 (n + m))[n + m]? with
    | none => rw [wyI, hx]; exact ⟨Z, h⟩
    | some x =>
      obtain ⟨Y, h2⟩ := U5 (a7 := a7) (x := x) (X := wyI a7 f0 (n + m)) (k := a7.length)
      rw [P7 hx, h2, h]; exact ⟨Z ++ Y, List.append_assoc ..⟩
theorem a0o (h : ¬ n < (wyI a7 f0 n).length) : ∀ {m : Nat}, wyI a7 f0 (n + m) = wyI a7 f0 n
  | 0 => rfl
  | m + 1 => by
    have ih := a0o h (m := m)
    rw [← Nat.add_assoc, wyI, ih, List.getElem?_eq_none (by omega)]
theorem s3 (hn : i < 6000) (hi : i < (wyI a7 f0 i).length) (hp : ∀ y ∈ (wyI a7 f0 i).take i, wyP to y = false) (h : wyP to (wyI a7 f0 i)[i] = true) : (wyI a7 f0 i)[i].2 = wyR a7 f0 to ∧ true = wyB a7 f0 to := by
  obtain ⟨Z, hz⟩ := U1 (a7 := a7) (f0 := f0) (n := i) (m := 6000 - i)
  rw [show i + (6000 - i) = 6000 from by omega] at hz
  have e : wyW a7 f0 = (wyI a7 f0 i).take i ++ (wyI a7 f0 i)[i] :: ((wyI a7 f0 i).drop (i + 1) ++ Z) := by
    rw [wyW, hz, ← List.cons_append, ← List.drop_eq_getElem_cons hi, ← List.append_assoc, List.take_append_drop]
  have e0 : (List.take i (wyI a7 f0 i)).find? (wyP to) = none := List.find?_eq_none.2 fun y hy => by rw [hp y hy]; decide
  refine ⟨?_, ?_⟩
  · rw [wyR, e, List.find?_append, e0, Option.none_or, List.find?_cons_of_pos h]; rfl
  · rw [wyB, e, List.any_append, List.any_cons, h, Bool.true_or, Bool.or_true]
theorem s5 (hn : i ≤ 6000) (hi : ¬ i < (wyI a7 f0 i).length) (hp : ∀ y ∈ (wyI a7 f0 i).take i, wyP to y = false) : [] = wyR a7 f0 to ∧ false = wyB a7 f0 to := by
  have e : wyW a7 f0 = wyI a7 f0 i := by
    have := a0o hi (m := 6000 - i)
    rwa [show i + (6000 - i) = 6000 from by omega] at this
  rw [List.take_of_length_le (by omega)] at hp
  refine ⟨?_, ?_⟩
  · rw [wyR, e, List.find?_eq_none.2 fun y hy => by rw [hp y hy]; decide]; rfl
  · rw [wyB, e]; exact (List.any_eq_false.2 fun y hy => by rw [hp y hy]; decide).symm
theorem a0B (hi : i < (wyI a7 f0 i).length) (hp : ∀ y ∈ (wyI a7 f0 i).take i, wyP to y = false) (h : wyP to (wyI a7 f0 i)[i] = false) : ∀ y ∈ (wyI a7 f0 (i + 1)).take (i + 1), wyP to y = false := by
  obtain ⟨Z, hz⟩ := U1 (a7 := a7) (f0 := f0) (n := i) (m := 1)
  rw [hz, List.take_append_of_le_length (by omega)]
  exact v7 hi hp h
theorem a1K (hi : i < (wyI a7 f0 i).length) : wyK a7 (wyI a7 f0 i)[i] (wyI a7 f0 i) a7.length = wyI a7 f0 (i + 1) := (P7 (List.getElem?_eq_getElem hi)).symm
theorem a0n (hr : g0 s a7 = true) (h : j5 s f0 = true) : (wyR a7 f0 to).length ≤ 5324 ∧ ∀ v ∈ wyR a7 f0 to, 0 ≤ v ∧ v ≤ 4 := by
  unfold wyR
  have hw := O4 hr h (i := 6000)
  cases e : (wyW a7 f0).find? (wyP to) with
  | none => simp
  | some y =>
    have hm := List.mem_of_find?_eq_some e
    obtain ⟨j, hj⟩ := List.getElem?_of_mem hm
    have h1 := hw.le j y hj
    have h2 := hw.len
    have h3 := (List.getElem?_eq_some_iff.1 hj).1
    exact ⟨by show y.2.length ≤ _; have : (wyW a7 f0).length = (wyI a7 f0 6000).length := rfl; omega, h1.2⟩
theorem mp1 (h : i < X.length) : (X.map fun y => y.1)[i]? = some X[i].1 := by simp [h]
theorem mp2 (h : i < X.length) : (X.map fun y => y.2)[i]? = some X[i].2 := by simp [h]
theorem a1Y (h : i < X.length) : ((wyK a7 X[i] X k).map fun y => y.1)[i]? = some X[i].1 := by rw [List.getElem?_map, J4 (List.getElem?_eq_getElem h)]; rfl
theorem a2H (h : i < X.length) : ((wyK a7 X[i] X k).map fun y => y.2)[i]? = some X[i].2 := by rw [List.getElem?_map, J4 (List.getElem?_eq_getElem h)]; rfl
theorem H5 (hk : k < a7.length) (h : a7[k].1 ≠ x.1.1) : wyK a7 x X k = wyK a7 x X (k + 1) := by
  rw [wyK, wy1, u8 hk, wyC, decide_eq_false (fun e => h e.symm)]; rfl
theorem G5 (hk : k < a7.length) (h : v5 ((wyK a7 x X k).map fun y => y.1) (a7[k].2.1, f7 a7[k].2.2 x.1.2) = true) : wyK a7 x X k = wyK a7 x X (k + 1) := by
  rw [wyK, wy1, u8 hk, wyC, a1y, V1, h, Bool.not_true, Bool.and_false]; rfl
theorem a0V (hk : k < a7.length) (h : a7[k].1 = x.1.1) (h2 : v5 ((wyK a7 x X k).map fun y => y.1) (a7[k].2.1, f7 a7[k].2.2 x.1.2) = false) : wyK a7 x X k ++ [((a7[k].2.1, f7 a7[k].2.2 x.1.2), x.2 ++ [(k : Int)])] = wyK a7 x X (k + 1) := by
  rw [wyK, wy1, u8 hk, wyC, a1y, V1, h2, decide_eq_true h.symm]; rfl
theorem J3 (hk : k < a7.length) (h : ¬ a7[k].1 ≠ x.1.1) (h2 : v5 ((wyK a7 x X k).map fun y => y.1) (a7[k].2.1, f7 a7[k].2.2 x.1.2) = false) : ((wyK a7 x X k).map fun y => y.1) ++ [(a7[k].2.1, f7 a7[k].2.2 x.1.2)] = (wyK a7 x X (k + 1)).map fun y => y.1 := by
  rw [← a0V hk (Decidable.not_not.1 h) h2, List.map_append]; rfl
theorem J5 (hk : k < a7.length) (h : ¬ a7[k].1 ≠ x.1.1) (h2 : v5 ((wyK a7 x X k).map fun y => y.1) (a7[k].2.1, f7 a7[k].2.2 x.1.2) = false) : ((wyK a7 x X k).map fun y => y.2) ++ [x.2 ++ [(k : Int)]] = (wyK a7 x X (k + 1)).map fun y => y.2 := by
  rw [← a0V hk (Decidable.not_not.1 h) h2, List.map_append]; rfl
theorem U7 (hi : i < (wyI a7 f0 i).length) (hk : ¬ k < a7.length) (hk2 : k ≤ a7.length) : wyK a7 (wyI a7 f0 i)[i] (wyI a7 f0 i) k = wyI a7 f0 (i + 1) := by
  rw [show k = a7.length from by omega]; exact a1K hi
theorem K3 : [f0] = (wyI a7 f0 0).map (fun y => y.1) ∧ [[]] = (wyI a7 f0 0).map fun y => y.2 := ⟨rfl, rfl⟩
theorem a1d : X.map (fun y => y.1) = (wyK a7 x X 0).map fun y => y.1 := rfl
theorem a1n : X.map (fun y => y.2) = (wyK a7 x X 0).map fun y => y.2 := rfl
theorem a3q : [(f0, [])] = wyI a7 f0 0 := rfl
theorem a2F : X = wyK a7 x X 0 := rfl
theorem Y4 {f : Fct} : (X.any fun y => decide (r6 y.1 f = 0)) = v5 (X.map fun y => y.1) f := by unfold v5; rw [List.any_map]; rfl
theorem a0d (hk : k < a7.length) (h : decide (x.1.1 = a7[k].1) = true) (h2 : ((wyK a7 x X k).any fun y => decide (r6 (y.1.1, y.1.2) (cond (decide (x.1.1 = a7[k].1)) a7[k].2.1 0, cond (decide (x.1.1 = a7[k].1)) (f7 a7[k].2.2 x.1.2) []) = 0)) = false) : wyK a7 x X k ++ [((cond (decide (x.1.1 = a7[k].1)) a7[k].2.1 0, cond (decide (x.1.1 = a7[k].1)) (f7 a7[k].2.2 x.1.2) []), x.2 ++ [(k : Int)])] = wyK a7 x X (k + 1) := by
  rw [h] at h2 ⊢
  exact a0V hk (of_decide_eq_true h).symm (Y4.symm.trans h2)
theorem U6 (hk : k < a7.length) (h : decide (x.1.1 = a7[k].1) = false) : wyK a7 x X k = wyK a7 x X (k + 1) := H5 hk fun e => of_decide_eq_false h e.symm
theorem U3 (hk : k < a7.length) (h : decide (x.1.1 = a7[k].1) = true) (h2 : ((wyK a7 x X k).any fun y => decide (r6 (y.1.1, y.1.2) (cond (decide (x.1.1 = a7[k].1)) a7[k].2.1 0, cond (decide (x.1.1 = a7[k].1)) (f7 a7[k].2.2 x.1.2) []) = 0)) = true) : wyK a7 x X k = wyK a7 x X (k + 1) := by
  rw [h] at h2
  exact G5 hk (Y4.symm.trans h2)
theorem WInv.le2 (h : WInv s X) (hi : i < X.length) : X[i].2.length ≤ i ∧ ∀ v ∈ X[i].2, 0 ≤ v ∧ v ≤ 4 := h.le i _ (List.getElem?_eq_getElem hi)
theorem D9 {α : Type} {l : List α} {i : Nat} {x : α} (h : l[i]? = some x) : l.set i x = l := by
  obtain ⟨h1, h2⟩ := List.getElem?_eq_some_iff.1 h
  rw [← h2, List.set_getElem_self]
/-! ### the shortest one from some fact -/
def dvC (a7 : List Rul) (to f0 : Fct) (best : List Int) : Bool := wyB a7 f0 to && (decide (best.length = 0) || decide ((wyR a7 f0 to).length + 1 < best.length))
def dv1 (a7 : List Rul) (a8 : List Fct) (to : Fct) (best : List Int) (i : Nat) : List Int := cond (dvC a7 to (a8.getD i (0, [])) best) ((i : Int) :: wyR a7 (a8.getD i (0, [])) to) best
def dvI (a7 : List Rul) (a8 : List Fct) (to : Fct) : Nat → List Int
  | 0 => []
  | i + 1 => dv1 a7 a8 to (dvI a7 a8 to i) i
def dvF (s : List Int) (a7 : List Rul) (a8 : List Fct) (to : Fct) : List Int := cond (g0 s a7 && j0 s a8) (dvI a7 a8 to a8.length) []
theorem a2P (hi : i < a8.length) (h : dvC a7 to a8[i] (dvI a7 a8 to i) = true) : (i : Int) :: wyR a7 a8[i] to = dvI a7 a8 to (i + 1) := by rw [dvI, dv1, u8 hi, h]; rfl
theorem a2J (hi : i < a8.length) (h : dvC a7 to a8[i] (dvI a7 a8 to i) = false) : dvI a7 a8 to i = dvI a7 a8 to (i + 1) := by rw [dvI, dv1, u8 hi, h]; rfl
theorem r9 (hi : i < a8.length) (h : wyB a7 a8[i] to = true) (h2 : (dvI a7 a8 to i).length = 0) : (i : Int) :: wyR a7 a8[i] to = dvI a7 a8 to (i + 1) := a2P hi (by rw [dvC, h, decide_eq_true h2]; rfl)
theorem r8 (hi : i < a8.length) (h : wyB a7 a8[i] to = true) (h2 : (((wyR a7 a8[i] to).length : Nat) : Int) + 1 < ((dvI a7 a8 to i).length : Nat)) : (i : Int) :: wyR a7 a8[i] to = dvI a7 a8 to (i + 1) := a2P hi (by rw [dvC, h, decide_eq_true (show (wyR a7 a8[i] to).length + 1 < (dvI a7 a8 to i).length by omega), Bool.or_true]; rfl)
theorem s0 (hi : i < a8.length) (h : wyB a7 a8[i] to = false) : dvI a7 a8 to i = dvI a7 a8 to (i + 1) := a2J hi (by rw [dvC, h]; rfl)
theorem r7 (hi : i < a8.length) (h2 : ¬ (dvI a7 a8 to i).length = 0) (h3 : ¬ (((wyR a7 a8[i] to).length : Nat) : Int) + 1 < ((dvI a7 a8 to i).length : Nat)) : dvI a7 a8 to i = dvI a7 a8 to (i + 1) := a2J hi (by rw [dvC, decide_eq_false h2, decide_eq_false (show ¬ (wyR a7 a8[i] to).length + 1 < (dvI a7 a8 to i).length by omega)]; simp)
theorem a0R : [] = dvI a7 a8 to 0 := rfl
theorem a2d : false = decide (0 < (dvI a7 a8 to 0).length) := rfl
theorem s4 {b : List Int} {v : Int} (e : v :: b = dvI a7 a8 to i) : true = decide (0 < (dvI a7 a8 to i).length) := by rw [← e]; simp
theorem o0 (h : decide (0 < (dvI a7 a8 to i).length) = false) : (dvI a7 a8 to i).length = 0 := by have := of_decide_eq_false h; omega
theorem o3 (h : decide (0 < (dvI a7 a8 to i).length) = true) : ¬ (dvI a7 a8 to i).length = 0 := by have := of_decide_eq_true h; omega
theorem a1R {b : Bool} {x : Int} {R D : List Int} (h1 : R.length ≤ 5324) (h2 : D.length ≤ 5325) : (cond b (x :: R) D).length ≤ 5325 := by
  cases b
  · exact h2
  · simp only [cond_true, List.length_cons]; omega
theorem a0s (hr : g0 s a7 = true) (hf : j0 s a8 = true) (hi : i ≤ a8.length) : (dvI a7 a8 to i).length ≤ 5325 := by
  induction i with
  | zero => exact Nat.zero_le _
  | succ i ih =>
    have h1 := (a0n (to := to) hr ((I6 hf).2 _ (List.getElem_mem (show i < a8.length by omega)))).1
    rw [dvI, dv1, u8 (by omega)]
    exact a1R h1 (ih (by omega))
theorem F0 (h : (g0 s a7 && j0 s a8) = false) : [] = dvF s a7 a8 to ∧ false = decide (0 < (dvF s a7 a8 to).length) := by rw [dvF, h]; exact ⟨rfl, rfl⟩
theorem N5 (hr : g0 s a7 = true) (hf : j0 s a8 = true) (hi : ¬ i < a8.length) (hi2 : i ≤ a8.length) : dvI a7 a8 to i = dvF s a7 a8 to := by
  rw [dvF, hr, hf, show i = a8.length from by omega]; rfl
theorem E8 (hp : i = 0 ∨ (g0 s a7 && j0 s a8) = true) (hi : ¬ i < a8.length) (hi2 : i ≤ a8.length) : dvI a7 a8 to i = dvF s a7 a8 to ∧ decide (0 < (dvI a7 a8 to i).length) = decide (0 < (dvF s a7 a8 to).length) := by
  have e : dvI a7 a8 to i = dvF s a7 a8 to := by
    cases h : g0 s a7 && j0 s a8 with
    | true => obtain ⟨h1, h2⟩ := Bool.and_eq_true_iff.1 h; exact N5 h1 h2 hi hi2
    | false =>
      rcases hp with rfl | hp
      · rw [dvF, h]; rfl
      · rw [hp] at h; cases h
  exact ⟨e, by rw [e]⟩
theorem o2 (hp : i = 0 ∨ (g0 s a7 && j0 s a8) = true) (h : (g0 s a7 && j0 s a8) = false) : dvI a7 a8 to i = dvF s a7 a8 to ∧ decide (0 < (dvI a7 a8 to i).length) = decide (0 < (dvF s a7 a8 to).length) := by
  rcases hp with rfl | hp
  · rw [dvF, h]; exact ⟨rfl, rfl⟩
  · rw [hp] at h; cases h
theorem a2z : (dvF s a7 a8 to).length ≤ 5325 := by
  unfold dvF
  cases h : g0 s a7 && j0 s a8
  · simp
  · obtain ⟨h1, h2⟩ := Bool.and_eq_true_iff.1 h
    exact a0s h1 h2 (Nat.le_refl _)
end
end Go.Proofs.Ytdopeopehgdccaa
