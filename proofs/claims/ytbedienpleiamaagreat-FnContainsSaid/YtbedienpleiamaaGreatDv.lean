import Derived.Test.YtbedienpleiamaaGreatDs
section
namespace Go.Proofs.YtbedienpleiamaaGreat
def B8 {α : Type} (l : List α) (i : Int) : List α := if inR i 0 ((l.length : Int) - 1) then l.take i.toNat ++ l.drop (i + 1).toNat else l
theorem a1B {α : Type} {i : Int} : B8 ([] : List α) i = [] := by
 unfold B8; split <;> simp
theorem a0S {α : Type} {l : List α} {i : Int} {g : Nat} (h : g < l.length) : B8 (l.take (g + 1)) i = if (g : Int) = i then B8 (l.take g) i else B8 (l.take g) i ++ [l[g]] := by
 have e := List.take_succ_eq_append_getElem h
 have l1 : (l.take (g + 1)).length = g + 1 := by simp; omega
 have l2 : (l.take g).length = g := by simp; omega
 unfold B8 inR
 rw [l1, l2]
 by_cases h1 : (g : Int) = i
 ·subst h1
  rw [if_pos (by simp), if_pos rfl, if_neg (by simp; omega)]
  rw [show ((g : Int)).toNat = g from rfl, show ((g : Int) + 1).toNat = g + 1 by omega, List.take_take, Nat.min_eq_left (by omega), List.drop_eq_nil_of_le (by omega), List.append_nil]
 ·rw [if_neg h1]
  by_cases h2 : 0 ≤ i ∧ i < (g : Int)
  ·rw [if_pos (by simp; omega), if_pos (by simp; omega), e, List.take_append_of_le_length (by omega), List.drop_append_of_le_length (by omega), List.append_assoc]
  ·rw [if_neg (by simp; omega), if_neg (by simp; omega), e]
theorem a1v {α : Type} {l : List α} {i : Int} {g : Nat} (h : l.length ≤ g) : B8 (l.take g) i = B8 l i := by rw [List.take_of_length_le h]
theorem a3r {α : Type} {l : List α} {i : Int} : (B8 l i).length ≤ l.length := by
 unfold B8
 split
 ·simp; omega
 ·exact Nat.le_refl _
theorem a5v {α : Type} {l : List α} {i : Int} {x : α} (h : x ∈ B8 l i) : x ∈ l := by
 unfold B8 at h
 split at h
 ·rw [List.mem_append] at h
  rcases h with h | h
  ·exact List.mem_of_mem_take h
  ·exact List.mem_of_mem_drop h
 ·exact h
theorem a5B {α : Type} {t : α → Nat} {l : List α} {i : Int} : B6 t (B8 l i) ≤ B6 t l := by
 unfold B8 inR
 split
 ·rename_i h
  rw [decide_eq_true_eq] at h
  have e : B6 t l = B6 t (l.take i.toNat) + B6 t (l.drop i.toNat) := by
   rw [B6, B6, B6, ← List.sum_append, ← List.map_append, List.take_append_drop]
  have e2 : B6 t (l.drop i.toNat) = t (l[i.toNat]'(by omega)) + B6 t (l.drop (i.toNat + 1)) := by
   rw [List.drop_eq_getElem_cons (show i.toNat < l.length by omega)]; simp only [B6, List.map_cons, List.sum_cons]
  have e3 : B6 t (l.take i.toNat ++ l.drop (i + 1).toNat) = B6 t (l.take i.toNat) + B6 t (l.drop (i + 1).toNat) := by
   rw [B6, B6, B6, List.map_append, List.sum_append]
  rw [show (i + 1).toNat = i.toNat + 1 by omega] at *
  omega
 ·exact Nat.le_refl _
end Go.Proofs.YtbedienpleiamaaGreat
end
section
namespace Go.Proofs.YtbedienpleiamaaGreat
def b1G (s : List Int) (u : List (List Int × List (Int × List Int))) (q : List Int × List (Int × List Int)) : Bool := u.any (J5 s q)
def b1N (s : List Int) (u : List (List Int × List (Int × List Int))) (q : List Int × List (Int × List Int)) : Bool := !b1G s u q
def b1b (s : List Int) (a b : List (List Int × List (Int × List Int))) : Bool := !a.any (b1N s b)
def b3G (s : List Int) (a b : List (List Int × List (Int × List Int))) : Bool := a4Y s a && (a4Y s b && (b1b s a b && b1b s b a))
end Go.Proofs.YtbedienpleiamaaGreat
end
section
namespace Go.Proofs.YtbedienpleiamaaGreat
set_option linter.unusedVariables false
def a1y (s h : List Int) (a : List (Int × List Int) × Nat) : List (Int × List Int) × Nat :=
 if a.2 < a.1.length then (if J5 s (h, B8 a.1 a.2) (h, a.1) then (B8 a.1 a.2, a.2) else (a.1, a.2 + 1)) else a
def w5 (s h : List Int) (l : List (Int × List Int)) : Nat → List (Int × List Int) × Nat
 | 0 => (l, 0)
 | n + 1 => a1y s h (w5 s h l n)
theorem a8a {α : Type} {l : List α} {i : Nat} (h : i < l.length) : (B8 l i).length + 1 = l.length := by
 unfold B8 inR
 rw [if_pos (by rw [decide_eq_true_eq]; omega)]
 simp; omega
theorem a3q {s h : List Int} {l : List (Int × List Int)} {n : Nat} (h1 : (w5 s h l n).2 < (w5 s h l n).1.length) (h2 : J5 s (h, B8 (w5 s h l n).1 (w5 s h l n).2) (h, (w5 s h l n).1) = true) : w5 s h l (n + 1) = (B8 (w5 s h l n).1 (w5 s h l n).2, (w5 s h l n).2) := by
 rw [w5, a1y, if_pos h1, if_pos h2]
theorem a2C {s h : List Int} {l : List (Int × List Int)} {n : Nat} (h1 : (w5 s h l n).2 < (w5 s h l n).1.length) (h2 : J5 s (h, B8 (w5 s h l n).1 (w5 s h l n).2) (h, (w5 s h l n).1) = false) : w5 s h l (n + 1) = ((w5 s h l n).1, (w5 s h l n).2 + 1) := by
 rw [w5, a1y, if_pos h1, if_neg (by simp [h2])]
theorem a2F {s h : List Int} {l : List (Int × List Int)} {n : Nat} (h1 : ¬ (w5 s h l n).2 < (w5 s h l n).1.length) : ∀ k, w5 s h l (n + k) = w5 s h l n
 | 0 => rfl
 | k + 1 => by
  show a1y s h (w5 s h l (n + k)) = _
  rw [a2F h1 k, a1y, if_neg h1]
def S3 (s h : List Int) (l : List (Int × List Int)) (n : Nat) : Prop := (w5 s h l n).2 ≤ (w5 s h l n).1.length ∧ (w5 s h l n).1.length - (w5 s h l n).2 + n = l.length ∧ ∀ a ∈ (w5 s h l n).1, a ∈ l
theorem a2B {s h : List Int} {l : List (Int × List Int)} : S3 s h l 0 := ⟨Nat.zero_le _, by simp [w5], fun a ha => ha⟩
theorem a3j {s h : List Int} {l : List (Int × List Int)} {n : Nat} (hi : S3 s h l n) (h1 : (w5 s h l n).2 < (w5 s h l n).1.length) (h2 : J5 s (h, B8 (w5 s h l n).1 (w5 s h l n).2) (h, (w5 s h l n).1) = true) : S3 s h l (n + 1) := by
 obtain ⟨a, b, c⟩ := hi
 have h3 := a8a h1
 unfold S3
 rw [a3q h1 h2]
 exact ⟨by show _ ≤ (B8 _ _).length; omega, by show (B8 _ _).length - _ + _ = _; omega, fun x hx => c x (a5v hx)⟩
theorem a2q {s h : List Int} {l : List (Int × List Int)} {n : Nat} (hi : S3 s h l n) (h1 : (w5 s h l n).2 < (w5 s h l n).1.length) (h2 : J5 s (h, B8 (w5 s h l n).1 (w5 s h l n).2) (h, (w5 s h l n).1) = false) : S3 s h l (n + 1) := by
 obtain ⟨a, b, c⟩ := hi
 unfold S3
 rw [a2C h1 h2]
 exact ⟨h1, by show (w5 s h l n).1.length - ((w5 s h l n).2 + 1) + (n + 1) = _; omega, c⟩
def D9 (s : List Int) (h : List Int) (l : List (Int × List Int)) : List (Int × List Int) := if w3 s (h, l) then (w5 s h l l.length).1 else l
theorem a5z {s h : List Int} {l : List (Int × List Int)} {n : Nat} (hi : S3 s h l n) (h1 : ¬ (w5 s h l n).2 < (w5 s h l n).1.length) (hq : w3 s (h, l) = true) : (w5 s h l n).1 = D9 s h l := by
 obtain ⟨a, b, c⟩ := hi
 have := a2F h1 (l.length - n)
 rw [show n + (l.length - n) = l.length by omega] at this
 rw [D9, if_pos hq, this]
theorem a4c {s h : List Int} {l : List (Int × List Int)} (hq : w3 s (h, l) = false) : D9 s h l = l := by simp [D9, hq]
theorem a0i {l : List (Int × List Int)} {i : Int} : E7 (fun x => x.2.length) (B8 l i) ≤ E7 (fun x => x.2.length) l := by
 have h1 := a5B (t := fun x : Int × List Int => x.2.length) (l := l) (i := i)
 have h2 := a3r (l := l) (i := i)
 unfold E7; omega
theorem a1G {s h : List Int} {l : List (Int × List Int)} : ∀ {n : Nat}, E7 (fun x => x.2.length) (w5 s h l n).1 ≤ E7 (fun x => x.2.length) l ∧ B6 R5 (w5 s h l n).1 ≤ B6 R5 l
 | 0 => ⟨Nat.le_refl _, Nat.le_refl _⟩
 | n + 1 => by
  have ih := a1G (s := s) (h := h) (l := l) (n := n)
  have h1 := a0i (l := (w5 s h l n).1) (i := (w5 s h l n).2)
  have h2 := a5B (t := R5) (l := (w5 s h l n).1) (i := (w5 s h l n).2)
  rw [w5, a1y]
  split
  ·split
   ·exact ⟨Nat.le_trans h1 ih.1, Nat.le_trans h2 ih.2⟩
   ·exact ih
  ·exact ih
end Go.Proofs.YtbedienpleiamaaGreat
end
