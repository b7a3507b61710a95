import Derived.Test.YtfnbilpemdgkkaaGreatDoorDy
section
namespace Go.Proofs.YtfnbilpemdgkkaaGreatDoor
def E9 {α : Type} (l : List α) (i : Int) : List α := if inR i 0 ((l.length : Int) - 1) then l.take i.toNat ++ l.drop (i + 1).toNat else l
theorem a3O {α : Type} {l : List α} {i : Int} : (E9 l i).length ≤ l.length := by
 unfold E9
 split
 ·simp; omega
 ·exact Nat.le_refl _
theorem a3x {α : Type} {l : List α} {i : Int} {x : α} (h : x ∈ E9 l i) : x ∈ l := by
 unfold E9 at h
 split at h
 ·rw [List.mem_append] at h
  rcases h with h | h
  ·exact List.mem_of_mem_take h
  ·exact List.mem_of_mem_drop h
 ·exact h
theorem a3K {α : Type} {t : α → Nat} {l : List α} {i : Int} : x2 t (E9 l i) ≤ x2 t l := by
 unfold E9 inR
 split
 ·rename_i h
  rw [decide_eq_true_eq] at h
  have e : x2 t l = x2 t (l.take i.toNat) + x2 t (l.drop i.toNat) := by
   rw [x2, x2, x2, ← List.sum_append, ← List.map_append, List.take_append_drop]
  have e2 : x2 t (l.drop i.toNat) = t (l[i.toNat]'(by omega)) + x2 t (l.drop (i.toNat + 1)) := by
   rw [List.drop_eq_getElem_cons (show i.toNat < l.length by omega)]; simp only [x2, List.map_cons, List.sum_cons]
  have e3 : x2 t (l.take i.toNat ++ l.drop (i + 1).toNat) = x2 t (l.take i.toNat) + x2 t (l.drop (i + 1).toNat) := by
   rw [x2, x2, x2, List.map_append, List.sum_append]
  rw [show (i + 1).toNat = i.toNat + 1 by omega] at *
  omega
 ·exact Nat.le_refl _
end Go.Proofs.YtfnbilpemdgkkaaGreatDoor
end
section
namespace Go.Proofs.YtfnbilpemdgkkaaGreatDoor
def b0s (s : List Int) (u : List (List Int × List (Int × List Int))) (q : List Int × List (Int × List Int)) : Bool := u.any (N4 s q)
def b0E (s : List Int) (u : List (List Int × List (Int × List Int))) (q : List Int × List (Int × List Int)) : Bool := !b0s s u q
def a9z (s : List Int) (a b : List (List Int × List (Int × List Int))) : Bool := !a.any (b0E s b)
def b2T (s : List Int) (a b : List (List Int × List (Int × List Int))) : Bool := a3a s a && (a3a s b && (a9z s a b && a9z s b a))
end Go.Proofs.YtfnbilpemdgkkaaGreatDoor
end
section
namespace Go.Proofs.YtfnbilpemdgkkaaGreatDoor
set_option linter.unusedVariables false
def a0n (s h : List Int) (a : List (Int × List Int) × Nat) : List (Int × List Int) × Nat :=
 if a.2 < a.1.length then (if N4 s (h, E9 a.1 a.2) (h, a.1) then (E9 a.1 a.2, a.2) else (a.1, a.2 + 1)) else a
def x5 (s h : List Int) (l : List (Int × List Int)) : Nat → List (Int × List Int) × Nat
 | 0 => (l, 0)
 | n + 1 => a0n s h (x5 s h l n)
theorem a6h {α : Type} {l : List α} {i : Nat} (h : i < l.length) : (E9 l i).length + 1 = l.length := by
 unfold E9 inR
 rw [if_pos (by rw [decide_eq_true_eq]; omega)]
 simp; omega
theorem a6L {s h : List Int} {l : List (Int × List Int)} {n : Nat} (h1 : (x5 s h l n).2 < (x5 s h l n).1.length) (h2 : N4 s (h, E9 (x5 s h l n).1 (x5 s h l n).2) (h, (x5 s h l n).1) = true) : x5 s h l (n + 1) = (E9 (x5 s h l n).1 (x5 s h l n).2, (x5 s h l n).2) := by
 rw [x5, a0n, if_pos h1, if_pos h2]
theorem a7J {s h : List Int} {l : List (Int × List Int)} {n : Nat} (h1 : (x5 s h l n).2 < (x5 s h l n).1.length) (h2 : N4 s (h, E9 (x5 s h l n).1 (x5 s h l n).2) (h, (x5 s h l n).1) = false) : x5 s h l (n + 1) = ((x5 s h l n).1, (x5 s h l n).2 + 1) := by
 rw [x5, a0n, if_pos h1, if_neg (by simp [h2])]
theorem a2J {s h : List Int} {l : List (Int × List Int)} {n : Nat} (h1 : ¬ (x5 s h l n).2 < (x5 s h l n).1.length) : ∀ k, x5 s h l (n + k) = x5 s h l n
 | 0 => rfl
 | k + 1 => by
  show a0n s h (x5 s h l (n + k)) = _
  rw [a2J h1 k, a0n, if_neg h1]
def a0j (s h : List Int) (l : List (Int × List Int)) (n : Nat) : Prop := (x5 s h l n).2 ≤ (x5 s h l n).1.length ∧ (x5 s h l n).1.length - (x5 s h l n).2 + n = l.length ∧ ∀ a ∈ (x5 s h l n).1, a ∈ l
theorem a6B {s h : List Int} {l : List (Int × List Int)} : a0j s h l 0 := ⟨Nat.zero_le _, by simp [x5], fun a ha => ha⟩
theorem a6S {s h : List Int} {l : List (Int × List Int)} {n : Nat} (hi : a0j s h l n) (h1 : (x5 s h l n).2 < (x5 s h l n).1.length) (h2 : N4 s (h, E9 (x5 s h l n).1 (x5 s h l n).2) (h, (x5 s h l n).1) = true) : a0j s h l (n + 1) := by
 obtain ⟨a, b, c⟩ := hi
 have h3 := a6h h1
 unfold a0j
 rw [a6L h1 h2]
 exact ⟨by show _ ≤ (E9 _ _).length; omega, by show (E9 _ _).length - _ + _ = _; omega, fun x hx => c x (a3x hx)⟩
theorem a8n {s h : List Int} {l : List (Int × List Int)} {n : Nat} (hi : a0j s h l n) (h1 : (x5 s h l n).2 < (x5 s h l n).1.length) (h2 : N4 s (h, E9 (x5 s h l n).1 (x5 s h l n).2) (h, (x5 s h l n).1) = false) : a0j s h l (n + 1) := by
 obtain ⟨a, b, c⟩ := hi
 unfold a0j
 rw [a7J h1 h2]
 exact ⟨h1, by show (x5 s h l n).1.length - ((x5 s h l n).2 + 1) + (n + 1) = _; omega, c⟩
def I9 (s : List Int) (h : List Int) (l : List (Int × List Int)) : List (Int × List Int) := if x3 s (h, l) then (x5 s h l l.length).1 else l
theorem a2Q {l : List (Int × List Int)} {i : Int} : I3 (fun x => x.2.length) (E9 l i) ≤ I3 (fun x => x.2.length) l := by
 have h1 := a3K (t := fun x : Int × List Int => x.2.length) (l := l) (i := i)
 have h2 := a3O (l := l) (i := i)
 unfold I3; omega
theorem a3u {s h : List Int} {l : List (Int × List Int)} : ∀ {n : Nat}, I3 (fun x => x.2.length) (x5 s h l n).1 ≤ I3 (fun x => x.2.length) l ∧ x2 L7 (x5 s h l n).1 ≤ x2 L7 l
 | 0 => ⟨Nat.le_refl _, Nat.le_refl _⟩
 | n + 1 => by
  have ih := a3u (s := s) (h := h) (l := l) (n := n)
  have h1 := a2Q (l := (x5 s h l n).1) (i := (x5 s h l n).2)
  have h2 := a3K (t := L7) (l := (x5 s h l n).1) (i := (x5 s h l n).2)
  rw [x5, a0n]
  split
  ·split
   ·exact ⟨Nat.le_trans h1 ih.1, Nat.le_trans h2 ih.2⟩
   ·exact ih
  ·exact ih
end Go.Proofs.YtfnbilpemdgkkaaGreatDoor
end
