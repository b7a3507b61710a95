import Derived.Test.YtfnbilpemdgkkaaGreatDoorDy
namespace Go.Proofs.YtfnbilpemdgkkaaGreatDoor
set_option linter.unusedVariables false
set_option linter.unusedSimpArgs false
abbrev Way := Fct × List Int
def a0z (r : Rul) (f : Fct) : Fct := (r.2.1, u9 r.2.2 f.2)
def a1i (X : List Way) (f : Fct) : Bool := w5 (X.map fun y => y.1) f
def wyC (r : Rul) (x : Way) (X : List Way) : Bool := decide (x.1.1 = r.1) && !a1i X (a0z r x.1)
def wy1 (c6 : List Rul) (x : Way) (X : List Way) (k : Nat) : List Way :=
 cond (wyC (c6.getD k (0, 0, [])) x X) (X ++ [(a0z (c6.getD k (0, 0, [])) x.1, x.2 ++ [(k : Int)])]) X
def wyK (c6 : List Rul) (x : Way) (X : List Way) : Nat → List Way
 | 0 => X
 | k + 1 => wy1 c6 x (wyK c6 x X k) k
def wyI (c6 : List Rul) (f0 : Fct) : Nat → List Way
 | 0 => [(f0, [])]
 | i + 1 => match (wyI c6 f0 i)[i]? with
  | some x => wyK c6 x (wyI c6 f0 i) c6.length
  | none => wyI c6 f0 i
def wyP (to : Fct) (y : Way) : Bool := decide (C0 y.1 to = 0)
def wyW (c6 : List Rul) (f0 : Fct) : List Way := wyI c6 f0 6000
def wyB (c6 : List Rul) (f0 to : Fct) : Bool := (wyW c6 f0).any (wyP to)
def wyR (c6 : List Rul) (f0 to : Fct) : List Int := (((wyW c6 f0).find? (wyP to)).map fun y => y.2).getD []
structure WInv (s : List Int) (X : List Way) : Prop where
 ok : ∀ y ∈ X, u6 s y.1 = true
 nod : (X.map fun y => y.1).Nodup
 le : ∀ (j : Nat) (y : Way), X[j]? = some y → y.2.length ≤ j ∧ ∀ v ∈ y.2, 0 ≤ v ∧ v ≤ 4
section
variable {s : List Int} {c6 : List Rul} {f0 to f : Fct} {x y : Way} {X : List Way} {i k n : Nat} {a6 : List Fct}
theorem WInv.len (h : WInv s X) : X.length ≤ 5324 := by
 have := a0T h.nod fun f hf => by obtain ⟨y, hy, rfl⟩ := List.mem_map.1 hf; exact h.ok y hy
 rwa [List.length_map] at this
theorem b2Q (h : u6 s f0 = true) : WInv s (wyI c6 f0 0) where
 ok := fun y hy => by simp only [wyI, List.mem_singleton] at hy; subst hy; exact h
 nod := by simp [wyI]
 le := fun j y hy => by
  cases j with
  | zero => simp only [wyI, List.getElem?_cons_zero, Option.some.injEq] at hy; subst hy; simp
  | succ j => simp [wyI] at hy
theorem b2w (hr : o4 s c6 = true) (h : WInv s X) (hx : X[i]? = some x) (hk : k < c6.length) : WInv s (wy1 c6 x X k) := by
 have hi := (List.getElem?_eq_some_iff.1 hx).1
 have hm := List.mem_of_getElem? hx
 obtain ⟨r1, r2, r3⟩ := F2 hr
 unfold wy1
 rw [E3 hk]
 cases hc : wyC c6[k] x X with
 | false => exact h
 | true =>
  simp only [wyC, Bool.and_eq_true, decide_eq_true_eq, Bool.not_eq_true'] at hc
  have ho := a4i (r3 _ (List.getElem_mem hk)) (h.ok x hm) hc.1
  refine ⟨fun y hy => ?_, ?_, fun j y hy => ?_⟩
  ·rcases List.mem_append.1 hy with hy | hy
   ·exact h.ok y hy
   ·simp only [List.mem_singleton] at hy; subst hy; exact ho
  ·show ((X ++ [_]).map fun (y : Way) => y.1).Nodup
   rw [List.map_append, List.nodup_append]
   refine ⟨h.nod, by simp, fun u hu v hv e => ?_⟩
   simp only [List.map_cons, List.map_nil, List.mem_singleton] at hv
   rw [hv] at e; subst e
   have := I2.2 hu
   have h9 : w5 (X.map fun (y : Way) => y.1) (a0z c6[k] x.1) = false := hc.2
   rw [h9] at this; cases this
  ·rcases Nat.lt_or_ge j X.length with hj | hj
   ·have : X[j]? = some y := by rw [← hy]; exact (List.getElem?_append_left hj).symm
    exact h.le j y this
   ·have e : (X ++ [(a0z c6[k] x.1, x.2 ++ [(k : Int)])])[j]? = some y := hy
    rw [List.getElem?_append_right hj] at e
    cases hz : j - X.length with
    | zero =>
     rw [hz] at e
     simp only [List.getElem?_cons_zero, Option.some.injEq] at e
     subst e
     obtain ⟨a1, a2⟩ := h.le i x hx
     refine ⟨by simp only [List.length_append, List.length_singleton]; omega, fun v hv => ?_⟩
     rcases List.mem_append.1 hv with hv | hv
     ·exact a2 v hv
     ·simp only [List.mem_singleton] at hv; subst hv; omega
    | succ z => rw [hz] at e; simp at e
theorem a7G : ∃ Z, wy1 c6 x X k = X ++ Z := by
 unfold wy1
 cases wyC (c6.getD k (0, 0, [])) x X
 ·exact ⟨[], (List.append_nil _).symm⟩
 ·exact ⟨_, rfl⟩
theorem a4E : ∀ {k : Nat}, ∃ Z, wyK c6 x X k = X ++ Z
 | 0 => ⟨[], (List.append_nil _).symm⟩
 | k + 1 => by
  obtain ⟨Z, h⟩ := a4E (k := k)
  obtain ⟨Y, h2⟩ := a7G (c6 := c6) (x := x) (X := wyK c6 x X k) (k := k)
  exact ⟨Z ++ Y, by rw [wyK, h2, h, List.append_assoc]⟩
theorem a0q (hx : X[i]? = some x) : (wyK c6 x X k)[i]? = some x := by
 obtain ⟨Z, h⟩ := a4E (c6 := c6) (x := x) (X := X) (k := k)
 rw [h, List.getElem?_append_left (List.getElem?_eq_some_iff.1 hx).1, hx]
theorem a1v (hr : o4 s c6 = true) (h : WInv s X) (hx : X[i]? = some x) : ∀ {k : Nat}, k ≤ c6.length → WInv s (wyK c6 x X k)
 | 0, _ => h
 | k + 1, hk => b2w hr (a1v hr h hx (k := k) (by omega)) (a0q hx) (by omega)
theorem a0E (hx : (wyI c6 f0 i)[i]? = some x) : wyI c6 f0 (i + 1) = wyK c6 x (wyI c6 f0 i) c6.length := by rw [wyI, hx]
theorem a0p (hr : o4 s c6 = true) (h : u6 s f0 = true) : ∀ {i : Nat}, WInv s (wyI c6 f0 i)
 | 0 => b2Q h
 | i + 1 => by
  have ih := a0p hr h (i := i)
  cases hx : (wyI c6 f0 i)[i]? with
  | none => rw [wyI, hx]; exact ih
  | some x => rw [a0E hx]; exact a1v hr ih hx (Nat.le_refl _)
theorem a0t : ∀ {m : Nat}, ∃ Z, wyI c6 f0 (n + m) = wyI c6 f0 n ++ Z
 | 0 => ⟨[], (List.append_nil _).symm⟩
 | m + 1 => by
  obtain ⟨Z, h⟩ := a0t (m := m)
  rw [← Nat.add_assoc]
  cases hx : (wyI c6 f0 (n + m))[n + m]? with
  | none => rw [wyI, hx]; exact ⟨Z, h⟩
  | some x =>
   obtain ⟨Y, h2⟩ := a4E (c6 := c6) (x := x) (X := wyI c6 f0 (n + m)) (k := c6.length)
   rw [a0E hx, h2, h]; exact ⟨Z ++ Y, List.append_assoc ..⟩
theorem a3x (h : ¬ n < (wyI c6 f0 n).length) : ∀ {m : Nat}, wyI c6 f0 (n + m) = wyI c6 f0 n
 | 0 => rfl
 | m + 1 => by
  have ih := a3x h (m := m)
  rw [← Nat.add_assoc, wyI, ih, List.getElem?_eq_none (by omega)]
theorem I5 (hn : i < 6000) (hi : i < (wyI c6 f0 i).length) (hp : ∀ y ∈ (wyI c6 f0 i).take i, wyP to y = false) (h : wyP to (wyI c6 f0 i)[i] = true) : (wyI c6 f0 i)[i].2 = wyR c6 f0 to ∧ true = wyB c6 f0 to := by
 obtain ⟨Z, hz⟩ := a0t (c6 := c6) (f0 := f0) (n := i) (m := 6000 - i)
 rw [show i + (6000 - i) = 6000 from by omega] at hz
 have e : wyW c6 f0 = (wyI c6 f0 i).take i ++ (wyI c6 f0 i)[i] :: ((wyI c6 f0 i).drop (i + 1) ++ Z) := by
  rw [wyW, hz, ← List.cons_append, ← List.drop_eq_getElem_cons hi, ← List.append_assoc, List.take_append_drop]
 have e0 : (List.take i (wyI c6 f0 i)).find? (wyP to) = none := List.find?_eq_none.2 fun y hy => by rw [hp y hy]; decide
 refine ⟨?_, ?_⟩
 ·rw [wyR, e, List.find?_append, e0, Option.none_or, List.find?_cons_of_pos h]; rfl
 ·rw [wyB, e, List.any_append, List.any_cons, h, Bool.true_or, Bool.or_true]
theorem I3 (hn : i ≤ 6000) (hi : ¬ i < (wyI c6 f0 i).length) (hp : ∀ y ∈ (wyI c6 f0 i).take i, wyP to y = false) : [] = wyR c6 f0 to ∧ false = wyB c6 f0 to := by
 have e : wyW c6 f0 = wyI c6 f0 i := by
  have := a3x hi (m := 6000 - i)
  rwa [show i + (6000 - i) = 6000 from by omega] at this
 rw [List.take_of_length_le (by omega)] at hp
 refine ⟨?_, ?_⟩
 ·rw [wyR, e, List.find?_eq_none.2 fun y hy => by rw [hp y hy]; decide]; rfl
 ·rw [wyB, e]; exact (List.any_eq_false.2 fun y hy => by rw [hp y hy]; decide).symm
theorem a7y (hi : i < (wyI c6 f0 i).length) (hp : ∀ y ∈ (wyI c6 f0 i).take i, wyP to y = false) (h : wyP to (wyI c6 f0 i)[i] = false) : ∀ y ∈ (wyI c6 f0 (i + 1)).take (i + 1), wyP to y = false := by
 obtain ⟨Z, hz⟩ := a0t (c6 := c6) (f0 := f0) (n := i) (m := 1)
 rw [hz, List.take_append_of_le_length (by omega)]
 exact K8 hi hp h
theorem b0T (hi : i < (wyI c6 f0 i).length) : wyK c6 (wyI c6 f0 i)[i] (wyI c6 f0 i) c6.length = wyI c6 f0 (i + 1) := (a0E (List.getElem?_eq_getElem hi)).symm
theorem a6h (hr : o4 s c6 = true) (h : u6 s f0 = true) : (wyR c6 f0 to).length ≤ 5324 ∧ ∀ v ∈ wyR c6 f0 to, 0 ≤ v ∧ v ≤ 4 := by
 unfold wyR
 have hw := a0p hr h (i := 6000)
 cases e : (wyW c6 f0).find? (wyP to) with
 | none => simp
 | some y =>
  have hm := List.mem_of_find?_eq_some e
  obtain ⟨j, hj⟩ := List.getElem?_of_mem hm
  have h1 := hw.le j y hj
  have h2 := hw.len
  have h3 := (List.getElem?_eq_some_iff.1 hj).1
  exact ⟨by show y.2.length ≤ _; have : (wyW c6 f0).length = (wyI c6 f0 6000).length := rfl; omega, h1.2⟩
theorem mp1 (h : i < X.length) : (X.map fun y => y.1)[i]? = some X[i].1 := by simp [h]
theorem mp2 (h : i < X.length) : (X.map fun y => y.2)[i]? = some X[i].2 := by simp [h]
theorem b1g (h : i < X.length) : ((wyK c6 X[i] X k).map fun y => y.1)[i]? = some X[i].1 := by rw [List.getElem?_map, a0q (List.getElem?_eq_getElem h)]; rfl
theorem b3i (h : i < X.length) : ((wyK c6 X[i] X k).map fun y => y.2)[i]? = some X[i].2 := by rw [List.getElem?_map, a0q (List.getElem?_eq_getElem h)]; rfl
theorem a0N (hk : k < c6.length) (h : c6[k].1 ≠ x.1.1) : wyK c6 x X k = wyK c6 x X (k + 1) := by
 rw [wyK, wy1, E3 hk, wyC, decide_eq_false (fun e => h e.symm)]; rfl
theorem a0I (hk : k < c6.length) (h : w5 ((wyK c6 x X k).map fun y => y.1) (c6[k].2.1, u9 c6[k].2.2 x.1.2) = true) : wyK c6 x X k = wyK c6 x X (k + 1) := by
 rw [wyK, wy1, E3 hk, wyC, a1i, a0z, h, Bool.not_true, Bool.and_false]; rfl
theorem a8A (hk : k < c6.length) (h : c6[k].1 = x.1.1) (h2 : w5 ((wyK c6 x X k).map fun y => y.1) (c6[k].2.1, u9 c6[k].2.2 x.1.2) = false) : wyK c6 x X k ++ [((c6[k].2.1, u9 c6[k].2.2 x.1.2), x.2 ++ [(k : Int)])] = wyK c6 x X (k + 1) := by
 rw [wyK, wy1, E3 hk, wyC, a1i, a0z, h2, decide_eq_true h.symm]; rfl
theorem a1y (hk : k < c6.length) (h : ¬ c6[k].1 ≠ x.1.1) (h2 : w5 ((wyK c6 x X k).map fun y => y.1) (c6[k].2.1, u9 c6[k].2.2 x.1.2) = false) : ((wyK c6 x X k).map fun y => y.1) ++ [(c6[k].2.1, u9 c6[k].2.2 x.1.2)] = (wyK c6 x X (k + 1)).map fun y => y.1 := by
 rw [← a8A hk (Decidable.not_not.1 h) h2, List.map_append]; rfl
theorem a1B (hk : k < c6.length) (h : ¬ c6[k].1 ≠ x.1.1) (h2 : w5 ((wyK c6 x X k).map fun y => y.1) (c6[k].2.1, u9 c6[k].2.2 x.1.2) = false) : ((wyK c6 x X k).map fun y => y.2) ++ [x.2 ++ [(k : Int)]] = (wyK c6 x X (k + 1)).map fun y => y.2 := by
 rw [← a8A hk (Decidable.not_not.1 h) h2, List.map_append]; rfl
theorem a4q (hi : i < (wyI c6 f0 i).length) (hk : ¬ k < c6.length) (hk2 : k ≤ c6.length) : wyK c6 (wyI c6 f0 i)[i] (wyI c6 f0 i) k = wyI c6 f0 (i + 1) := by
 rw [show k = c6.length from by omega]; exact b0T hi
theorem a1Q : [f0] = (wyI c6 f0 0).map (fun y => y.1) ∧ [[]] = (wyI c6 f0 0).map fun y => y.2 := ⟨rfl, rfl⟩
theorem a9D : X.map (fun y => y.1) = (wyK c6 x X 0).map fun y => y.1 := rfl
theorem a8Z : X.map (fun y => y.2) = (wyK c6 x X 0).map fun y => y.2 := rfl
theorem b4v : [(f0, [])] = wyI c6 f0 0 := rfl
theorem b3p : X = wyK c6 x X 0 := rfl
theorem a6G {f : Fct} : (X.any fun y => decide (C0 y.1 f = 0)) = w5 (X.map fun y => y.1) f := by unfold w5; rw [List.any_map]; rfl
theorem a7e (hk : k < c6.length) (h : decide (x.1.1 = c6[k].1) = true) (h2 : ((wyK c6 x X k).any fun y => decide (C0 (y.1.1, y.1.2) (cond (decide (x.1.1 = c6[k].1)) c6[k].2.1 0, cond (decide (x.1.1 = c6[k].1)) (u9 c6[k].2.2 x.1.2) []) = 0)) = false) : wyK c6 x X k ++ [((cond (decide (x.1.1 = c6[k].1)) c6[k].2.1 0, cond (decide (x.1.1 = c6[k].1)) (u9 c6[k].2.2 x.1.2) []), x.2 ++ [(k : Int)])] = wyK c6 x X (k + 1) := by
 rw [h] at h2 ⊢
 exact a8A hk (of_decide_eq_true h).symm (a6G.symm.trans h2)
theorem a4B (hk : k < c6.length) (h : decide (x.1.1 = c6[k].1) = false) : wyK c6 x X k = wyK c6 x X (k + 1) := a0N hk fun e => of_decide_eq_false h e.symm
theorem a4F (hk : k < c6.length) (h : decide (x.1.1 = c6[k].1) = true) (h2 : ((wyK c6 x X k).any fun y => decide (C0 (y.1.1, y.1.2) (cond (decide (x.1.1 = c6[k].1)) c6[k].2.1 0, cond (decide (x.1.1 = c6[k].1)) (u9 c6[k].2.2 x.1.2) []) = 0)) = true) : wyK c6 x X k = wyK c6 x X (k + 1) := by
 rw [h] at h2
 exact a0I hk (a6G.symm.trans h2)
theorem WInv.le2 (h : WInv s X) (hi : i < X.length) : X[i].2.length ≤ i ∧ ∀ v ∈ X[i].2, 0 ≤ v ∧ v ≤ 4 := h.le i _ (List.getElem?_eq_getElem hi)
theorem V8 {α : Type} {l : List α} {i : Nat} {x : α} (h : l[i]? = some x) : l.set i x = l := by
 obtain ⟨h1, h2⟩ := List.getElem?_eq_some_iff.1 h
 rw [← h2, List.set_getElem_self]
def dvC (c6 : List Rul) (to f0 : Fct) (best : List Int) : Bool := wyB c6 f0 to && (decide (best.length = 0) || decide ((wyR c6 f0 to).length + 1 < best.length))
def dv1 (c6 : List Rul) (a6 : List Fct) (to : Fct) (best : List Int) (i : Nat) : List Int := cond (dvC c6 to (a6.getD i (0, [])) best) ((i : Int) :: wyR c6 (a6.getD i (0, [])) to) best
def dvI (c6 : List Rul) (a6 : List Fct) (to : Fct) : Nat → List Int
 | 0 => []
 | i + 1 => dv1 c6 a6 to (dvI c6 a6 to i) i
def dvF (s : List Int) (c6 : List Rul) (a6 : List Fct) (to : Fct) : List Int := cond (o4 s c6 && r7 s a6) (dvI c6 a6 to a6.length) []
theorem b3E (hi : i < a6.length) (h : dvC c6 to a6[i] (dvI c6 a6 to i) = true) : (i : Int) :: wyR c6 a6[i] to = dvI c6 a6 to (i + 1) := by rw [dvI, dv1, E3 hi, h]; rfl
theorem b3e (hi : i < a6.length) (h : dvC c6 to a6[i] (dvI c6 a6 to i) = false) : dvI c6 a6 to i = dvI c6 a6 to (i + 1) := by rw [dvI, dv1, E3 hi, h]; rfl
theorem I1 (hi : i < a6.length) (h : wyB c6 a6[i] to = true) (h2 : (dvI c6 a6 to i).length = 0) : (i : Int) :: wyR c6 a6[i] to = dvI c6 a6 to (i + 1) := b3E hi (by rw [dvC, h, decide_eq_true h2]; rfl)
theorem I0 (hi : i < a6.length) (h : wyB c6 a6[i] to = true) (h2 : (((wyR c6 a6[i] to).length : Nat) : Int) + 1 < ((dvI c6 a6 to i).length : Nat)) : (i : Int) :: wyR c6 a6[i] to = dvI c6 a6 to (i + 1) := b3E hi (by rw [dvC, h, decide_eq_true (show (wyR c6 a6[i] to).length + 1 < (dvI c6 a6 to i).length by omega), Bool.or_true]; rfl)
theorem H7 (hi : i < a6.length) (h : wyB c6 a6[i] to = false) : dvI c6 a6 to i = dvI c6 a6 to (i + 1) := b3e hi (by rw [dvC, h]; rfl)
theorem H9 (hi : i < a6.length) (h2 : ¬ (dvI c6 a6 to i).length = 0) (h3 : ¬ (((wyR c6 a6[i] to).length : Nat) : Int) + 1 < ((dvI c6 a6 to i).length : Nat)) : dvI c6 a6 to i = dvI c6 a6 to (i + 1) := b3e hi (by rw [dvC, decide_eq_false h2, decide_eq_false (show ¬ (wyR c6 a6[i] to).length + 1 < (dvI c6 a6 to i).length by omega)]; simp)
theorem a8t : [] = dvI c6 a6 to 0 := rfl
theorem b1T : false = decide (0 < (dvI c6 a6 to 0).length) := rfl
theorem I6 {b : List Int} {v : Int} (e : v :: b = dvI c6 a6 to i) : true = decide (0 < (dvI c6 a6 to i).length) := by rw [← e]; simp
theorem F9 (h : decide (0 < (dvI c6 a6 to i).length) = false) : (dvI c6 a6 to i).length = 0 := by have := of_decide_eq_false h; omega
theorem F7 (h : decide (0 < (dvI c6 a6 to i).length) = true) : ¬ (dvI c6 a6 to i).length = 0 := by have := of_decide_eq_true h; omega
theorem b1b {b : Bool} {x : Int} {R D : List Int} (h1 : R.length ≤ 5324) (h2 : D.length ≤ 5325) : (cond b (x :: R) D).length ≤ 5325 := by
 cases b
 ·exact h2
 ·simp only [cond_true, List.length_cons]; omega
theorem a6U (hr : o4 s c6 = true) (hf : r7 s a6 = true) (hi : i ≤ a6.length) : (dvI c6 a6 to i).length ≤ 5325 := by
 induction i with
 | zero => exact Nat.zero_le _
 | succ i ih =>
  have h1 := (a6h (to := to) hr ((G9 hf).2 _ (List.getElem_mem (show i < a6.length by omega)))).1
  rw [dvI, dv1, E3 (by omega)]
  exact b1b h1 (ih (by omega))
theorem Y0 (h : (o4 s c6 && r7 s a6) = false) : [] = dvF s c6 a6 to ∧ false = decide (0 < (dvF s c6 a6 to).length) := by rw [dvF, h]; exact ⟨rfl, rfl⟩
theorem a2n (hr : o4 s c6 = true) (hf : r7 s a6 = true) (hi : ¬ i < a6.length) (hi2 : i ≤ a6.length) : dvI c6 a6 to i = dvF s c6 a6 to := by
 rw [dvF, hr, hf, show i = a6.length from by omega]; rfl
theorem Y2 (hp : i = 0 ∨ (o4 s c6 && r7 s a6) = true) (hi : ¬ i < a6.length) (hi2 : i ≤ a6.length) : dvI c6 a6 to i = dvF s c6 a6 to ∧ decide (0 < (dvI c6 a6 to i).length) = decide (0 < (dvF s c6 a6 to).length) := by
 have e : dvI c6 a6 to i = dvF s c6 a6 to := by
  cases h : o4 s c6 && r7 s a6 with
  | true => obtain ⟨h1, h2⟩ := Bool.and_eq_true_iff.1 h; exact a2n h1 h2 hi hi2
  | false =>
   rcases hp with rfl | hp
   ·rw [dvF, h]; rfl
   ·rw [hp] at h; cases h
 exact ⟨e, by rw [e]⟩
theorem F8 (hp : i = 0 ∨ (o4 s c6 && r7 s a6) = true) (h : (o4 s c6 && r7 s a6) = false) : dvI c6 a6 to i = dvF s c6 a6 to ∧ decide (0 < (dvI c6 a6 to i).length) = decide (0 < (dvF s c6 a6 to).length) := by
 rcases hp with rfl | hp
 ·rw [dvF, h]; exact ⟨rfl, rfl⟩
 ·rw [hp] at h; cases h
theorem b3u : (dvF s c6 a6 to).length ≤ 5325 := by
 unfold dvF
 cases h : o4 s c6 && r7 s a6
 ·simp
 ·obtain ⟨h1, h2⟩ := Bool.and_eq_true_iff.1 h
  exact a6U h1 h2 (Nat.le_refl _)
end
end Go.Proofs.YtfnbilpemdgkkaaGreatDoor
