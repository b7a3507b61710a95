import Derived.Test.YtfnbilpemdgkkaaGreatDoorBb
namespace Go.Proofs.YtfnbilpemdgkkaaGreatDoor
set_option linter.unusedVariables false
def inR (n lo hi : Int) : Bool := decide (lo ≤ n ∧ n ≤ hi)
def D5 {α : Type} (p : α → Bool) (s : List α) : Int := if s.any p then (s.findIdx p : Int) else -1
theorem Q0 {α : Type} {p : α → Bool} {s : List α} {k : Nat} (hk : k < s.length) (h : ∀ x ∈ s.take k, p x = false) (hp : p s[k] = true) : (k : Int) = D5 p s := by
 have h1 : s.any p = true := List.any_eq_true.2 ⟨_, List.getElem_mem hk, hp⟩
 have h2 : s.findIdx p = k := by
  rw [List.findIdx_eq hk]
  refine ⟨hp, fun j hj => h _ ?_⟩
  rw [List.mem_take_iff_getElem]
  exact ⟨j, by omega, rfl⟩
 rw [D5, if_pos h1, h2]
theorem O4 {α : Type} {p : α → Bool} {s : List α} {k : Nat} (hk : ¬ k < s.length) (h : ∀ x ∈ s.take k, p x = false) : (-1 : Int) = D5 p s := by
 rw [List.take_of_length_le (by omega)] at h
 have : ¬ s.any p = true := fun h' => by
  obtain ⟨x, hx, hp⟩ := List.any_eq_true.1 h'
  rw [h x hx] at hp; cases hp
 rw [D5, if_neg this]
theorem V9 {α : Type} {p : α → Bool} {s : List α} : decide (0 ≤ D5 p s) = s.any p := by
 unfold D5; split <;> simp_all
theorem P9 {α : Type} {p : α → Bool} {s : List α} {k : Nat} (hk : k < s.length) (h : ∀ x ∈ s.take k, p x = false) (hp : p s[k] = false) : ∀ x ∈ s.take (k + 1), p x = false := by
 intro x hx
 rw [List.take_succ_eq_append_getElem hk] at hx
 rcases List.mem_append.1 hx with hx | hx
 ·exact h x hx
 ·simp at hx; subst hx; exact hp
theorem a3f {α : Type} {p : α → Bool} {s : List α} {k : Nat} (hk : k < s.length) (hp : p s[k] = true) : s.any p = true := List.any_eq_true.2 ⟨_, List.getElem_mem hk, hp⟩
theorem a2f {α : Type} {p : α → Bool} {s : List α} {k : Nat} (hk : ¬ k < s.length) (h : ∀ x ∈ s.take k, p x = false) : s.any p = false := by
 rw [List.take_of_length_le (by omega)] at h
 rw [← Bool.not_eq_true]
 intro h'
 obtain ⟨x, hx, hp⟩ := List.any_eq_true.1 h'
 rw [h x hx] at hp; cases hp
def E5 (s : List Int) : Bool := inR (s.length : Int) 1 3 && !s.any fun n => !inR n 1 3
def F1 (s : List Int) (rel : Int) : Bool := E5 s && inR rel 0 ((s.length : Int) - 1)
def a6C (l : List Int) (arity : Int) : Bool := !l.any fun i => !inR i 0 (arity - 1)
def at0 (s : List Int) (i : Int) : Int := s.getD i.toNat 0
def a6N (s : List Int) (r : Int × Int × List Int) : Bool := F1 s r.1 && (F1 s r.2.1 && (decide ((r.2.2.length : Int) = at0 s r.2.1) && a6C r.2.2 (at0 s r.1)))
theorem a4I {α : Type} {s : List α} {i : Nat} {d : α} (h : i < s.length) : s.getD i d = s[i] := by simp [List.getD, h]
theorem S3 {s : List Int} {i : Int} (h : F1 s i = true) : 0 ≤ i ∧ i < s.length ∧ 1 ≤ s.getD i.toNat 0 ∧ s.getD i.toNat 0 ≤ 3 := by
 simp only [F1, E5, inR, Bool.and_eq_true, decide_eq_true_eq, Bool.not_eq_true', List.any_eq_false] at h
 obtain ⟨⟨_, h1⟩, h2, h3⟩ := h
 have h5 : i.toNat < s.length := by omega
 have h4 := h1 s[i.toNat] (List.getElem_mem h5)
 rw [a4I h5]
 simp at h4
 omega
theorem I8 {s : List Int} {i : Int} (h : i.toNat < s.length) : at0 s i = s[i.toNat] := by simp [at0, h]
def szR (t : Nat) (left : Int) : Int := if (t : Int) ≤ left then left - t else -1
theorem a7Y {s : List Int} {r : Int} (h : inR r 0 ((s.length : Int) - 1) = false) : F1 s r = false := by simp [F1, h]
theorem a7m {s : List Int} {r : Int} (h : E5 s = false) : F1 s r = false := by simp [F1, h]
theorem frI {a b : Int} (h : a = b) : some (Value.int .i64 a) = some (Value.int .i64 b) := by rw [h]
def x2 {α : Type} (t : α → Nat) (l : List α) : Nat := (l.map t).sum
theorem a6H {α : Type} {t : α → Nat} {l : List α} {g : Nat} (h : g < l.length) : x2 t (l.take (g + 1)) = x2 t (l.take g) + t l[g] := by
 unfold x2; rw [List.take_succ_eq_append_getElem h, List.map_append, List.sum_append]; rfl
theorem a5V {α : Type} {t : α → Nat} {l : List α} {g : Nat} : x2 t (l.take g) ≤ x2 t l := by
 have : x2 t l = x2 t (l.take g) + x2 t (l.drop g) := by
  rw [x2, x2, x2, ← List.sum_append, ← List.map_append, List.take_append_drop]
 omega
def I3 {α : Type} (t : α → Nat) (l : List α) : Nat := l.length + x2 t l
def a0w (s : List Int) (l : List (Int × Int × List Int)) : Bool := E5 s && (decide ((l.length : Int) ≤ 4) && !l.any fun r => !a6N s r)
end Go.Proofs.YtfnbilpemdgkkaaGreatDoor

namespace Go.Proofs.YtfnbilpemdgkkaaGreatDoor
set_option linter.unusedVariables false
def b3n (b : Bool) : Int := if b then 1 else 0
def b1B (log : List (Int × List Int)) (m : Int) : Int := ((log.countP fun a => decide (a.1 = m) : Nat) : Int)
def quo (l : List (Int × List Int × Int × Int × Int)) (m : Int) : Int := (l.getD m.toNat (0, [], 0, 0, 0)).2.2.2.2
def a7I (l : List (Int × List Int × Int × Int × Int)) (log : List (Int × List Int)) (m : Int) : Bool := !inR m 0 ((l.length : Int) - 1) || decide (quo l m < b1B log m)
def b2b (l : List (Int × List Int × Int × Int × Int)) (log : List (Int × List Int)) : Bool := !log.any fun a => a7I l log a.1
end Go.Proofs.YtfnbilpemdgkkaaGreatDoor

namespace Go.Proofs.YtfnbilpemdgkkaaGreatDoor
set_option linter.unusedVariables false
set_option linter.unusedSimpArgs false
def mkL {α : Type} (c : α → Nat) (m : α → Int → α) : List α → Int → List α
 | [], _ => []
 | x :: xs, k => m x k :: mkL c m xs (k + (c x : Nat))
section
variable {α : Type} {c : α → Nat} {m : α → Int → α}
end
def D9 (_ : Int) : Nat := 1
def U8 (_ : Int) (k : Int) : Int := k
def b2V (x : List Int) : Nat := x2 D9 x
def b2R (x : List Int) (k : Int) : List Int := mkL D9 U8 x k
def J0 (x : Int × List Int) : Nat := 1 + x2 D9 x.2
def a1y (x : Int × List Int) (k : Int) : Int × List Int := ((k), mkL D9 U8 x.2 (k + 1))
def b1r (x : List (Int × List Int)) : Nat := x2 J0 x
def b1C (x : List (Int × List Int)) (k : Int) : List (Int × List Int) := mkL J0 a1y x k
def L7 (x : Int × List Int) : Nat := 1 + x2 D9 x.2
def a1D (x : Int × List Int) (k : Int) : Int × List Int := ((k), mkL D9 U8 x.2 (k + 1))
def b1t (x : List (Int × List Int)) : Nat := x2 L7 x
def b1E (x : List (Int × List Int)) (k : Int) : List (Int × List Int) := mkL L7 a1D x k
def W6 (x : Int × List Int) : Nat := 1 + x2 D9 x.2
def a3A (x : Int × List Int) (k : Int) : Int × List Int := ((k), mkL D9 U8 x.2 (k + 1))
def b0C (x : List (Int × List Int)) : Nat := x2 W6 x
def b0K (x : List (Int × List Int)) (k : Int) : List (Int × List Int) := mkL W6 a3A x k
def a5F (x : Int × Int) : Nat := 1 + 1
def a9e (x : Int × Int) (k : Int) : Int × Int := ((k), (k + 1))
def b1Q (x : List (Int × Int)) : Nat := x2 a5F x
def b1p (x : List (Int × Int)) (k : Int) : List (Int × Int) := mkL a5F a9e x k
def a4S (x : List Int × List (Int × List Int)) : Nat := x2 D9 x.1 + x2 L7 x.2
def a7P (x : List Int × List (Int × List Int)) (k : Int) : List Int × List (Int × List Int) := (mkL D9 U8 x.1 (k), mkL L7 a1D x.2 (k + (x2 D9 x.1 : Nat)))
def b1d (x : List (List Int × List (Int × List Int))) : Nat := x2 a4S x
def b1a (x : List (List Int × List (Int × List Int))) (k : Int) : List (List Int × List (Int × List Int)) := mkL a4S a7P x k
def a2G (x : List Int × List Int) : Nat := x2 D9 x.1 + x2 D9 x.2
def a6q (x : List Int × List Int) (k : Int) : List Int × List Int := (mkL D9 U8 x.1 (k), mkL D9 U8 x.2 (k + (x2 D9 x.1 : Nat)))
def b0g (x : List (List Int × List Int)) : Nat := x2 a2G x
def b0c (x : List (List Int × List Int)) (k : Int) : List (List Int × List Int) := mkL a2G a6q x k
def a3T (x : Int × List Int × Int × Int × Int) : Nat := 1 + x2 D9 x.2.1 + 1 + 1 + 1
def a6Z (x : Int × List Int × Int × Int × Int) (k : Int) : Int × List Int × Int × Int × Int := ((k), mkL D9 U8 x.2.1 (k + 1), (k + 1 + (x2 D9 x.2.1 : Nat)), (k + 1 + (x2 D9 x.2.1 : Nat) + 1), (k + 1 + (x2 D9 x.2.1 : Nat) + 1 + 1))
def b0u (x : List (Int × List Int × Int × Int × Int)) : Nat := x2 a3T x
def b0m (x : List (Int × List Int × Int × Int × Int)) (k : Int) : List (Int × List Int × Int × Int × Int) := mkL a3T a6Z x k
def a5S (x : Int × Int × List Int) : Nat := 1 + 1 + x2 D9 x.2.2
def a8Y (x : Int × Int × List Int) (k : Int) : Int × Int × List Int := ((k), (k + 1), mkL D9 U8 x.2.2 (k + 1 + 1))
def b1D (x : List (Int × Int × List Int)) : Nat := x2 a5S x
def b1I (x : List (Int × Int × List Int)) (k : Int) : List (Int × Int × List Int) := mkL a5S a8Y x k
def a2y (x : (List Int × List (Int × List Int)) × List (Int × List Int)) : Nat := x2 D9 x.1.1 + x2 L7 x.1.2 + x2 L7 x.2
def a6j (x : (List Int × List (Int × List Int)) × List (Int × List Int)) (k : Int) : (List Int × List (Int × List Int)) × List (Int × List Int) := ((mkL D9 U8 x.1.1 (k), mkL L7 a1D x.1.2 (k + (x2 D9 x.1.1 : Nat))), mkL L7 a1D x.2 (k + (x2 D9 x.1.1 : Nat) + (x2 L7 x.1.2 : Nat)))
def b0b (x : List ((List Int × List (Int × List Int)) × List (Int × List Int))) : Nat := x2 a2y x
def b0f (x : List ((List Int × List (Int × List Int)) × List (Int × List Int))) (k : Int) : List ((List Int × List (Int × List Int)) × List (Int × List Int)) := mkL a2y a6j x k
def a1I (x : Int × (Int × List Int) × Int × List Int) : Nat := 1 + 1 + x2 D9 x.2.1.2 + 1 + x2 D9 x.2.2.2
def a5L (x : Int × (Int × List Int) × Int × List Int) (k : Int) : Int × (Int × List Int) × Int × List Int := ((k), ((k + 1), mkL D9 U8 x.2.1.2 (k + 1 + 1)), ((k + 1 + 1 + (x2 D9 x.2.1.2 : Nat)), mkL D9 U8 x.2.2.2 (k + 1 + 1 + (x2 D9 x.2.1.2 : Nat) + 1)))
def b1N (x : List (Int × (Int × List Int) × Int × List Int)) : Nat := x2 a1I x
def b1R (x : List (Int × (Int × List Int) × Int × List Int)) (k : Int) : List (Int × (Int × List Int) × Int × List Int) := mkL a1I a5L x k
def a5p (x : List (Int × (Int × List Int) × Int × List Int)) : Nat := x2 a1I x
def a8l (x : List (Int × (Int × List Int) × Int × List Int)) (k : Int) : List (Int × (Int × List Int) × Int × List Int) := (mkL a1I a5L x (k))
def b1f (x : List (List (Int × (Int × List Int) × Int × List Int))) : Nat := x2 a5p x
def b0Z (x : List (List (Int × (Int × List Int) × Int × List Int))) (k : Int) : List (List (Int × (Int × List Int) × Int × List Int)) := mkL a5p a8l x k
def a2N (x : (List (Int × List Int)) × List Int × (List (Int × List Int)) × Int) : Nat := x2 J0 x.1 + x2 D9 x.2.1 + x2 W6 x.2.2.1 + 1
def a6f (x : (List (Int × List Int)) × List Int × (List (Int × List Int)) × Int) (k : Int) : (List (Int × List Int)) × List Int × (List (Int × List Int)) × Int := (mkL J0 a1y x.1 (k), mkL D9 U8 x.2.1 (k + (x2 J0 x.1 : Nat)), mkL W6 a3A x.2.2.1 (k + (x2 J0 x.1 : Nat) + (x2 D9 x.2.1 : Nat)), (k + (x2 J0 x.1 : Nat) + (x2 D9 x.2.1 : Nat) + (x2 W6 x.2.2.1 : Nat)))
def b0d (x : List ((List (Int × List Int)) × List Int × (List (Int × List Int)) × Int)) : Nat := x2 a2N x
def b0e (x : List ((List (Int × List Int)) × List Int × (List (Int × List Int)) × Int)) (k : Int) : List ((List (Int × List Int)) × List Int × (List (Int × List Int)) × Int) := mkL a2N a6f x k
def a0B (x : (List (Int × List Int)) × (List (Int × List Int)) × List Int) : Nat := x2 J0 x.1 + x2 J0 x.2.1 + x2 D9 x.2.2
def a3j (x : (List (Int × List Int)) × (List (Int × List Int)) × List Int) (k : Int) : (List (Int × List Int)) × (List (Int × List Int)) × List Int := (mkL J0 a1y x.1 (k), mkL J0 a1y x.2.1 (k + (x2 J0 x.1 : Nat)), mkL D9 U8 x.2.2 (k + (x2 J0 x.1 : Nat) + (x2 J0 x.2.1 : Nat)))
def a8y (x : List ((List (Int × List Int)) × (List (Int × List Int)) × List Int)) : Nat := x2 a0B x
def a8x (x : List ((List (Int × List Int)) × (List (Int × List Int)) × List Int)) (k : Int) : List ((List (Int × List Int)) × (List (Int × List Int)) × List Int) := mkL a0B a3j x k
end Go.Proofs.YtfnbilpemdgkkaaGreatDoor

namespace Go.Proofs.YtfnbilpemdgkkaaGreatDoor
set_option linter.unusedVariables false
def P2 (l : List Int) : Bool := !l.any fun n => !inR n 0 9
def D4 (s : List Int) (f : Int × List Int) : Bool := F1 s f.1 && (decide ((f.2.length : Int) = at0 s f.1) && P2 f.2)
theorem a0W {s : List Int} {f : Int × List Int} (h : F1 s f.1 = false) : false = D4 s f := by simp [D4, h]
theorem a2u {s : List Int} {f : Int × List Int} {k : Int} (e : at0 s f.1 = k) (h : (f.2.length : Int) ≠ k) : false = D4 s f := by simp [D4, e, h]
theorem a6i {s : List Int} {f : Int × List Int} (h : P2 f.2 = false) : false = D4 s f := by simp [D4, h]
theorem a3Q {s : List Int} {f : Int × List Int} {k : Int} (h : F1 s f.1 = true) (e : at0 s f.1 = k) (h2 : (f.2.length : Int) = k) : P2 f.2 = D4 s f := by simp [D4, h, e, h2]
def a7S (s : List Int) (r : Int × Int × List Int) (f : Int × List Int) : Bool := a6N s r && (D4 s f && decide (f.1 = r.1))
def S4 (m : List Int) (v : List Int) : List Int := m.map (at0 v)
def b1A (s : List Int) (r : Int × Int × List Int) (f : Int × List Int) : Int := cond (a7S s r f) r.2.1 0
def b1F (s : List Int) (r : Int × Int × List Int) (f : Int × List Int) : List Int := cond (a7S s r f) (S4 r.2.2 f.2) []
end Go.Proofs.YtfnbilpemdgkkaaGreatDoor

namespace Go.Proofs.YtfnbilpemdgkkaaGreatDoor
set_option linter.unusedVariables false
def s4 (b : List Int × List Int) (t : Int) : Int :=
 if inR t 10 17 then (let i := D5 (fun x => decide (x = t)) (b.1.take (min b.1.length b.2.length)); if i < 0 then -1 else at0 b.2 i) else t
theorem L8 {b : List Int × List Int} {t : Int} (h : inR t 10 17 = false) : t = s4 b t := by simp [s4, h]
theorem a4O {b : List Int × List Int} {t : Int} (h : inR t 10 17 = true) (h2 : D5 (fun x => decide (x = t)) (b.1.take (min b.1.length b.2.length)) < 0) : -1 = s4 b t := by simp only [s4, h, if_true, if_pos h2]
theorem a9O {α : Type} {p : α → Bool} {s : List α} (h : ¬ D5 p s < 0) : 0 ≤ D5 p s ∧ (D5 p s).toNat < s.length := by
 unfold D5 at *
 by_cases q : s.any p = true
 ·rw [if_pos q] at h ⊢
  have := List.findIdx_lt_length.2 (List.any_eq_true.1 q)
  omega
 ·rw [if_neg q] at h; omega
theorem a7V {b : List Int × List Int} {t : Int} (h : inR t 10 17 = true) (h2 : ¬ D5 (fun x => decide (x = t)) (b.1.take (min b.1.length b.2.length)) < 0) (h3 : (D5 (fun x => decide (x = t)) (b.1.take (min b.1.length b.2.length))).toNat < b.2.length) :
  b.2[(D5 (fun x => decide (x = t)) (b.1.take (min b.1.length b.2.length))).toNat] = s4 b t := by
 simp only [s4, h, if_true, if_neg h2, I8 h3]
theorem Y4 {b : List Int × List Int} {t : Int} {g : Nat} (h : inR t 10 17 = true) (h1 : g < b.1.length) (h2 : g < b.2.length) (e : b.1[g] = t) (pa : ∀ x ∈ b.1.take g, decide (x = t) = false) : b.2[g] = s4 b t := by
 have h3 : g < (b.1.take (min b.1.length b.2.length)).length := by simp; omega
 have hi := Q0 (p := fun x => decide (x = t)) h3 (by rw [List.take_take, Nat.min_eq_left (by omega)]; exact pa) (by simp [e])
 have h4 : ¬ ((g : Nat) : Int) < 0 := by omega
 simp only [s4, h, if_true, ← hi, if_neg h4, I8 (i := (g : Int)) (s := b.2) (by simpa using h2)]
 rfl
theorem a3C {b : List Int × List Int} {t : Int} {g : Nat} (h : inR t 10 17 = true) (h1 : ¬ (g < b.1.length ∧ g < b.2.length)) (pa : ∀ x ∈ b.1.take g, decide (x = t) = false) : -1 = s4 b t := by
 refine a4O h ?_
 rw [← O4 (p := fun x => decide (x = t)) (s := b.1.take (min b.1.length b.2.length)) (k := min b.1.length b.2.length) (by simp) ?_]
 ·omega
 ·intro x hx
  rw [List.take_take, Nat.min_self] at hx
  refine pa x ?_
  rw [List.mem_take_iff_getElem] at hx ⊢
  obtain ⟨i, hi, rfl⟩ := hx
  exact ⟨i, by omega, rfl⟩
theorem a2n {b : List Int × List Int} {t : Int} (h : I64 t) (hb : ∀ x ∈ b.2, I64 x) : I64 (s4 b t) := by
 simp only [s4]
 split
 ·split
  ·exact ⟨by decide, by decide⟩
  ·unfold at0
   rcases Nat.lt_or_ge (D5 (fun x => decide (x = t)) (b.1.take (min b.1.length b.2.length))).toNat b.2.length with h1 | h1
   ·rw [a4I h1]; exact hb _ (List.getElem_mem h1)
   ·have : b.2.getD (D5 (fun x => decide (x = t)) (b.1.take (min b.1.length b.2.length))).toNat 0 = 0 := by simp [List.getD, List.getElem?_eq_none h1]
    rw [this]; exact ⟨by decide, by decide⟩
 ·exact h
theorem a3M {b : List Int × List Int} {l : List Int} (h : ∀ x ∈ l, I64 x) (h1 : ∀ x ∈ b.1, I64 x) (h2 : ∀ x ∈ b.2, I64 x) : ∀ x ∈ l, I64 (s4 b x) := fun x hx => a2n (h x hx) h2
end Go.Proofs.YtfnbilpemdgkkaaGreatDoor

namespace Go.Proofs.YtfnbilpemdgkkaaGreatDoor
set_option linter.unusedVariables false
def pick {α : Type} (p : Nat → Bool) : List α → Nat → List α
 | [], _ => []
 | x :: xs, i => if p i then x :: pick p xs (i + 1) else pick p xs (i + 1)
def b0p (mask : Int) (i : Nat) : Bool := decide (0 < mask) && decide (K5 (mask / 2 ^ i) 1 = 1)
def b2C (l : List (Int × Int × List Int)) (mask : Int) : List (Int × Int × List Int) := pick (b0p mask) (l.take 20) 0
theorem E0 {P : Program} {Q : Exit → Act → World → Prop} {n : Nat} {w0 : World} {L0 : List Nat} {fr : Fr} {H : List HP} {d : Nat} {ty : TypeId} {pos : String} {af : Array Edge} {g : Option (Nat × Bool)} {α : Type} {E : Enc α} {T e e2 : TypeId} {agg : Bool} {k m2 : Nat} {z : List Value} {by' : Nat} {x y : Operand} {ad a2 : Option Addr} {c2 : Nat} {ys : List α} (hE : Plain E) (hT : P.underlying T = some (.slice e)) (ht : TyOk P e agg k z by') (hk : k = E.k)
  (hx : ev fr x = some (.slice ad 0 0)) (hy : ev fr y = some (.slice a2 m2 c2)) (hr : Ro w0 L0 (Enc.sl e2 E) [.slice a2 m2 c2] ys) (h63 : m2 ≤ 9223372036854775807) (hbytes : m2 * by' ≤ 140737488355328) (hd : d < n) :
  Nop P Q n w0 L0 fr H ⟨some d, .call ⟨.builtin .append, #[x, y], #[T, T]⟩, ty, pos, af, g⟩ true (κ := Option Addr × Nat) (fun p => (d, .slice p.1 m2 p.2) :: fr) (fun p => ow (Enc.sl e E) [.slice p.1 m2 p.2] ys :: H) (fun _ => True) := fun K hK a w ha hw => by
 subst hk
 obtain ⟨ccs, ⟨Lc, h1⟩, h2, h3⟩ := hr.src
 have hsrc : (m2 = 0 ∧ ccs = []) ∨ ∃ b o, a2 = some ⟨b, o, none⟩ ∧ C6 w b o ccs := by
  rcases h3 H with h | ⟨b, o, k1, k2⟩
  ·exact .inl h
  ·exact .inr ⟨b, o, k1, k2 w hw⟩
 have hy1 : w3 E w ccs ys [] true := (hE.elems h1).stable (by simp)
 have hm2 := hr.slen.1
 obtain ⟨a', c', w', L1', r1, r2, r3, r4, -⟩ := R4 (P := P) (ty := ty) (c2 := c2) hT ht E.pos (show (row e E.k ad 0 0 []).holds w [] from ⟨by simp, .inl ⟨rfl, rfl, rfl⟩⟩) hsrc (by rw [hy1.len, hm2]) hy1.one (by rw [Nat.zero_add]; exact h63) (by rw [Nat.zero_add]; exact hbytes)
 obtain ⟨L, hs, hn, hst⟩ := id hw
 obtain ⟨d1, d2, d3⟩ := a3v (xs := ([] : List α)) (m := 0) rfl hm2 (by rw [Nat.zero_add]; exact h63) ⟨rfl, rfl⟩ hy1 (by simp) r2 r3 r4
 obtain ⟨k1, k2, k3⟩ := Step.call (Lp := []) (Lr := L) (by simpa using hst) (by simpa using hn) hs.inh (by simpa using d3) d2
 have hrun : (execOp a.eval ⟨some d, .call ⟨.builtin .append, #[x, y], #[T, T]⟩, ty, pos, af, g⟩).run P w = .ok (.value (.slice a' (0 + m2) c')) w' := by
  simp only [execOp, resolve, ha.ev hx, ha.ev hy, List.map_toArray, List.map_cons, List.map_nil, Sem.run_bind, Sem.run_pure, Result.andThen_ok, invoke, builtin, r1]
 simp only [Nat.zero_add, List.nil_append] at d1 hrun
 rw [Oper.wp, hrun]
 exact hK (a', c') trivial w _ _ (ha.put hd _) ⟨_, ⟨_, L, rfl, d1, hs.stable k3⟩, k2, k1⟩ (fun _ => r4.below)
end Go.Proofs.YtfnbilpemdgkkaaGreatDoor
