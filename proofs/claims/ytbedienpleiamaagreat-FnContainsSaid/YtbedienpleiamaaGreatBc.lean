import Derived.Test.YtbedienpleiamaaGreatBb
namespace Go.Proofs.YtbedienpleiamaaGreat
set_option linter.unusedVariables false
def inR (n lo hi : Int) : Bool := decide (lo ≤ n ∧ n ≤ hi)
def H3 {α : Type} (p : α → Bool) (s : List α) : Int := if s.any p then (s.findIdx p : Int) else -1
theorem W6 {α : Type} {p : α → Bool} {s : List α} {k : Nat} (hk : k < s.length) (h : ∀ x ∈ s.take k, p x = false) (hp : p s[k] = true) : (k : Int) = H3 p s := by
 have h1 : s.any p = true := List.any_eq_true.2 ⟨_, List.getElem_mem hk, hp⟩
 have h2 : s.findIdx p = k := by
  rw [List.findIdx_eq hk]
  refine ⟨hp, fun j hj => h _ ?_⟩
  rw [List.mem_take_iff_getElem]
  exact ⟨j, by omega, rfl⟩
 rw [H3, if_pos h1, h2]
theorem U3 {α : Type} {p : α → Bool} {s : List α} {k : Nat} (hk : ¬ k < s.length) (h : ∀ x ∈ s.take k, p x = false) : (-1 : Int) = H3 p s := by
 rw [List.take_of_length_le (by omega)] at h
 have : ¬ s.any p = true := fun h' => by
  obtain ⟨x, hx, hp⟩ := List.any_eq_true.1 h'
  rw [h x hx] at hp; cases hp
 rw [H3, if_neg this]
theorem a0C {α : Type} {p : α → Bool} {s : List α} : decide (0 ≤ H3 p s) = s.any p := by
 unfold H3; split <;> simp_all
theorem W0 {α : Type} {p : α → Bool} {s : List α} {k : Nat} (hk : k < s.length) (h : ∀ x ∈ s.take k, p x = false) (hp : p s[k] = false) : ∀ x ∈ s.take (k + 1), p x = false := by
 intro x hx
 rw [List.take_succ_eq_append_getElem hk] at hx
 rcases List.mem_append.1 hx with hx | hx
 ·exact h x hx
 ·simp at hx; subst hx; exact hp
theorem a5g {α : Type} {p : α → Bool} {s : List α} {k : Nat} (hk : k < s.length) (hp : p s[k] = true) : s.any p = true := List.any_eq_true.2 ⟨_, List.getElem_mem hk, hp⟩
theorem a4h {α : Type} {p : α → Bool} {s : List α} {k : Nat} (hk : ¬ k < s.length) (h : ∀ x ∈ s.take k, p x = false) : s.any p = false := by
 rw [List.take_of_length_le (by omega)] at h
 rw [← Bool.not_eq_true]
 intro h'
 obtain ⟨x, hx, hp⟩ := List.any_eq_true.1 h'
 rw [h x hx] at hp; cases hp
def I1 (s : List Int) : Bool := inR (s.length : Int) 1 3 && !s.any fun n => !inR n 1 3
def J8 (s : List Int) (rel : Int) : Bool := I1 s && inR rel 0 ((s.length : Int) - 1)
def a9V (l : List Int) (arity : Int) : Bool := !l.any fun i => !inR i 0 (arity - 1)
def at0 (s : List Int) (i : Int) : Int := s.getD i.toNat 0
def a8s (s : List Int) (r : Int × Int × List Int) : Bool := J8 s r.1 && (J8 s r.2.1 && (decide ((r.2.2.length : Int) = at0 s r.2.1) && a9V r.2.2 (at0 s r.1)))
theorem a6K {α : Type} {s : List α} {i : Nat} {d : α} (h : i < s.length) : s.getD i d = s[i] := by simp [List.getD, h]
theorem Y0 {s : List Int} {i : Int} (h : J8 s i = true) : 0 ≤ i ∧ i < s.length ∧ 1 ≤ s.getD i.toNat 0 ∧ s.getD i.toNat 0 ≤ 3 := by
 simp only [J8, I1, inR, Bool.and_eq_true, decide_eq_true_eq, Bool.not_eq_true', List.any_eq_false] at h
 obtain ⟨⟨_, h1⟩, h2, h3⟩ := h
 have h5 : i.toNat < s.length := by omega
 have h4 := h1 s[i.toNat] (List.getElem_mem h5)
 rw [a6K h5]
 simp at h4
 omega
theorem R2 {s : List Int} {i : Int} (h : i.toNat < s.length) : at0 s i = s[i.toNat] := by simp [at0, h]
def szR (t : Nat) (left : Int) : Int := if (t : Int) ≤ left then left - t else -1
theorem a9C {s : List Int} {r : Int} (h : inR r 0 ((s.length : Int) - 1) = false) : J8 s r = false := by simp [J8, h]
theorem a8E {s : List Int} {r : Int} (h : I1 s = false) : J8 s r = false := by simp [J8, h]
theorem frI {a b : Int} (h : a = b) : some (Value.int .i64 a) = some (Value.int .i64 b) := by rw [h]
def B6 {α : Type} (t : α → Nat) (l : List α) : Nat := (l.map t).sum
theorem a5K {α : Type} {t : α → Nat} {l : List α} {g : Nat} (h : g < l.length) : B6 t (l.take (g + 1)) = B6 t (l.take g) + t l[g] := by
 unfold B6; rw [List.take_succ_eq_append_getElem h, List.map_append, List.sum_append]; rfl
theorem a5c {α : Type} {t : α → Nat} {l : List α} {g : Nat} : B6 t (l.take g) ≤ B6 t l := by
 have : B6 t l = B6 t (l.take g) + B6 t (l.drop g) := by
  rw [B6, B6, B6, ← List.sum_append, ← List.map_append, List.take_append_drop]
 omega
def E7 {α : Type} (t : α → Nat) (l : List α) : Nat := l.length + B6 t l
theorem a9n {α : Type} {t : α → Nat} {l : List α} {g : Nat} (h : g < l.length) : t l[g] ≤ E7 t l := by
 have h1 := a5c (t := t) (l := l) (g := g + 1)
 rw [a5K h] at h1
 unfold E7; omega
def a2k (s : List Int) (l : List (Int × Int × List Int)) : Bool := I1 s && (decide ((l.length : Int) ≤ 4) && !l.any fun r => !a8s s r)
end Go.Proofs.YtbedienpleiamaaGreat

namespace Go.Proofs.YtbedienpleiamaaGreat
set_option linter.unusedVariables false
def b4c (b : Bool) : Int := if b then 1 else 0
def b2I (log : List (Int × List Int)) (m : Int) : Int := ((log.countP fun a => decide (a.1 = m) : Nat) : Int)
def quo (l : List (Int × List Int × Int × Int × Int)) (m : Int) : Int := (l.getD m.toNat (0, [], 0, 0, 0)).2.2.2.2
def a9k (l : List (Int × List Int × Int × Int × Int)) (log : List (Int × List Int)) (m : Int) : Bool := !inR m 0 ((l.length : Int) - 1) || decide (quo l m < b2I log m)
def b3i (l : List (Int × List Int × Int × Int × Int)) (log : List (Int × List Int)) : Bool := !log.any fun a => a9k l log a.1
end Go.Proofs.YtbedienpleiamaaGreat

namespace Go.Proofs.YtbedienpleiamaaGreat
set_option linter.unusedVariables false
set_option linter.unusedSimpArgs false
def mkL {α : Type} (c : α → Nat) (m : α → Int → α) : List α → Int → List α
 | [], _ => []
 | x :: xs, k => m x k :: mkL c m xs (k + (c x : Nat))
section
variable {α : Type} {c : α → Nat} {m : α → Int → α}
end
def I3 (_ : Int) : Nat := 1
def a0f (_ : Int) (k : Int) : Int := k
def b3F (x : List Int) : Nat := B6 I3 x
def b3J (x : List Int) (k : Int) : List Int := mkL I3 a0f x k
def O9 (x : Int × List Int) : Nat := 1 + B6 I3 x.2
def a3x (x : Int × List Int) (k : Int) : Int × List Int := ((k), mkL I3 a0f x.2 (k + 1))
def b2T (x : List (Int × List Int)) : Nat := B6 O9 x
def b2P (x : List (Int × List Int)) (k : Int) : List (Int × List Int) := mkL O9 a3x x k
def R5 (x : Int × List Int) : Nat := 1 + B6 I3 x.2
def a3z (x : Int × List Int) (k : Int) : Int × List Int := ((k), mkL I3 a0f x.2 (k + 1))
def b2z (x : List (Int × List Int)) : Nat := B6 R5 x
def b2O (x : List (Int × List Int)) (k : Int) : List (Int × List Int) := mkL R5 a3z x k
def a0K (x : Int × List Int) : Nat := 1 + B6 I3 x.2
def a5J (x : Int × List Int) (k : Int) : Int × List Int := ((k), mkL I3 a0f x.2 (k + 1))
def b1V (x : List (Int × List Int)) : Nat := B6 a0K x
def b1H (x : List (Int × List Int)) (k : Int) : List (Int × List Int) := mkL a0K a5J x k
def a7x (x : Int × Int) : Nat := 1 + 1
def b0n (x : Int × Int) (k : Int) : Int × Int := ((k), (k + 1))
def b2M (x : List (Int × Int)) : Nat := B6 a7x x
def b2K (x : List (Int × Int)) (k : Int) : List (Int × Int) := mkL a7x b0n x k
def a6A (x : List Int × List (Int × List Int)) : Nat := B6 I3 x.1 + B6 R5 x.2
def a9f (x : List Int × List (Int × List Int)) (k : Int) : List Int × List (Int × List Int) := (mkL I3 a0f x.1 (k), mkL R5 a3z x.2 (k + (B6 I3 x.1 : Nat)))
def b2o (x : List (List Int × List (Int × List Int))) : Nat := B6 a6A x
def b2n (x : List (List Int × List (Int × List Int))) (k : Int) : List (List Int × List (Int × List Int)) := mkL a6A a9f x k
def a4u (x : List Int × List Int) : Nat := B6 I3 x.1 + B6 I3 x.2
def a7X (x : List Int × List Int) (k : Int) : List Int × List Int := (mkL I3 a0f x.1 (k), mkL I3 a0f x.2 (k + (B6 I3 x.1 : Nat)))
def b1x (x : List (List Int × List Int)) : Nat := B6 a4u x
def b1t (x : List (List Int × List Int)) (k : Int) : List (List Int × List Int) := mkL a4u a7X x k
def a5E (x : Int × List Int × Int × Int × Int) : Nat := 1 + B6 I3 x.2.1 + 1 + 1 + 1
def a8H (x : Int × List Int × Int × Int × Int) (k : Int) : Int × List Int × Int × Int × Int := ((k), mkL I3 a0f x.2.1 (k + 1), (k + 1 + (B6 I3 x.2.1 : Nat)), (k + 1 + (B6 I3 x.2.1 : Nat) + 1), (k + 1 + (B6 I3 x.2.1 : Nat) + 1 + 1))
def b1Q (x : List (Int × List Int × Int × Int × Int)) : Nat := B6 a5E x
def b1D (x : List (Int × List Int × Int × Int × Int)) (k : Int) : List (Int × List Int × Int × Int × Int) := mkL a5E a8H x k
def a7o (x : Int × Int × List Int) : Nat := 1 + 1 + B6 I3 x.2.2
def b0u (x : Int × Int × List Int) (k : Int) : Int × Int × List Int := ((k), (k + 1), mkL I3 a0f x.2.2 (k + 1 + 1))
def b2x (x : List (Int × Int × List Int)) : Nat := B6 a7o x
def b2C (x : List (Int × Int × List Int)) (k : Int) : List (Int × Int × List Int) := mkL a7o b0u x k
def a4v (x : (List Int × List (Int × List Int)) × List (Int × List Int)) : Nat := B6 I3 x.1.1 + B6 R5 x.1.2 + B6 R5 x.2
def a7U (x : (List Int × List (Int × List Int)) × List (Int × List Int)) (k : Int) : (List Int × List (Int × List Int)) × List (Int × List Int) := ((mkL I3 a0f x.1.1 (k), mkL R5 a3z x.1.2 (k + (B6 I3 x.1.1 : Nat))), mkL R5 a3z x.2 (k + (B6 I3 x.1.1 : Nat) + (B6 R5 x.1.2 : Nat)))
def b1y (x : List ((List Int × List (Int × List Int)) × List (Int × List Int))) : Nat := B6 a4v x
def b1u (x : List ((List Int × List (Int × List Int)) × List (Int × List Int))) (k : Int) : List ((List Int × List (Int × List Int)) × List (Int × List Int)) := mkL a4v a7U x k
def a3C (x : Int × (Int × List Int) × Int × List Int) : Nat := 1 + 1 + B6 I3 x.2.1.2 + 1 + B6 I3 x.2.2.2
def a7n (x : Int × (Int × List Int) × Int × List Int) (k : Int) : Int × (Int × List Int) × Int × List Int := ((k), ((k + 1), mkL I3 a0f x.2.1.2 (k + 1 + 1)), ((k + 1 + 1 + (B6 I3 x.2.1.2 : Nat)), mkL I3 a0f x.2.2.2 (k + 1 + 1 + (B6 I3 x.2.1.2 : Nat) + 1)))
def b2U (x : List (Int × (Int × List Int) × Int × List Int)) : Nat := B6 a3C x
def b2F (x : List (Int × (Int × List Int) × Int × List Int)) (k : Int) : List (Int × (Int × List Int) × Int × List Int) := mkL a3C a7n x k
def a6Y (x : List (Int × (Int × List Int) × Int × List Int)) : Nat := B6 a3C x
def a9D (x : List (Int × (Int × List Int) × Int × List Int)) (k : Int) : List (Int × (Int × List Int) × Int × List Int) := (mkL a3C a7n x (k))
def b2l (x : List (List (Int × (Int × List Int) × Int × List Int))) : Nat := B6 a6Y x
def b2p (x : List (List (Int × (Int × List Int) × Int × List Int))) (k : Int) : List (List (Int × (Int × List Int) × Int × List Int)) := mkL a6Y a9D x k
def a4I (x : (List (Int × List Int)) × List Int × (List (Int × List Int)) × Int) : Nat := B6 O9 x.1 + B6 I3 x.2.1 + B6 a0K x.2.2.1 + 1
def a7S (x : (List (Int × List Int)) × List Int × (List (Int × List Int)) × Int) (k : Int) : (List (Int × List Int)) × List Int × (List (Int × List Int)) × Int := (mkL O9 a3x x.1 (k), mkL I3 a0f x.2.1 (k + (B6 O9 x.1 : Nat)), mkL a0K a5J x.2.2.1 (k + (B6 O9 x.1 : Nat) + (B6 I3 x.2.1 : Nat)), (k + (B6 O9 x.1 : Nat) + (B6 I3 x.2.1 : Nat) + (B6 a0K x.2.2.1 : Nat)))
def b1w (x : List ((List (Int × List Int)) × List Int × (List (Int × List Int)) × Int)) : Nat := B6 a4I x
def b1v (x : List ((List (Int × List Int)) × List Int × (List (Int × List Int)) × Int)) (k : Int) : List ((List (Int × List Int)) × List Int × (List (Int × List Int)) × Int) := mkL a4I a7S x k
def a2h (x : (List (Int × List Int)) × (List (Int × List Int)) × List Int) : Nat := B6 O9 x.1 + B6 O9 x.2.1 + B6 I3 x.2.2
def a4Z (x : (List (Int × List Int)) × (List (Int × List Int)) × List Int) (k : Int) : (List (Int × List Int)) × (List (Int × List Int)) × List Int := (mkL O9 a3x x.1 (k), mkL O9 a3x x.2.1 (k + (B6 O9 x.1 : Nat)), mkL I3 a0f x.2.2 (k + (B6 O9 x.1 : Nat) + (B6 O9 x.2.1 : Nat)))
def a9R (x : List ((List (Int × List Int)) × (List (Int × List Int)) × List Int)) : Nat := B6 a2h x
def a9T (x : List ((List (Int × List Int)) × (List (Int × List Int)) × List Int)) (k : Int) : List ((List (Int × List Int)) × (List (Int × List Int)) × List Int) := mkL a2h a4Z x k
end Go.Proofs.YtbedienpleiamaaGreat

namespace Go.Proofs.YtbedienpleiamaaGreat
set_option linter.unusedVariables false
def a0d (l : List Int) : Bool := !l.any fun n => !inR n 0 9
def H4 (s : List Int) (f : Int × List Int) : Bool := J8 s f.1 && (decide ((f.2.length : Int) = at0 s f.1) && a0d f.2)
theorem a4z {s : List Int} {f : Int × List Int} (h : J8 s f.1 = false) : false = H4 s f := by simp [H4, h]
theorem a7W {s : List Int} {f : Int × List Int} {k : Int} (e : at0 s f.1 = k) (h : (f.2.length : Int) ≠ k) : false = H4 s f := by simp [H4, e, h]
theorem a8f {s : List Int} {f : Int × List Int} (h : a0d f.2 = false) : false = H4 s f := by simp [H4, h]
theorem a8G {s : List Int} {f : Int × List Int} {k : Int} (h : J8 s f.1 = true) (e : at0 s f.1 = k) (h2 : (f.2.length : Int) = k) : a0d f.2 = H4 s f := by simp [H4, h, e, h2]
def a9c (s : List Int) (r : Int × Int × List Int) (f : Int × List Int) : Bool := a8s s r && (H4 s f && decide (f.1 = r.1))
def Y1 (m : List Int) (v : List Int) : List Int := m.map (at0 v)
def b2G (s : List Int) (r : Int × Int × List Int) (f : Int × List Int) : Int := cond (a9c s r f) r.2.1 0
def b2Q (s : List Int) (r : Int × Int × List Int) (f : Int × List Int) : List Int := cond (a9c s r f) (Y1 r.2.2 f.2) []
end Go.Proofs.YtbedienpleiamaaGreat

namespace Go.Proofs.YtbedienpleiamaaGreat
set_option linter.unusedVariables false
def u6 (b : List Int × List Int) (t : Int) : Int :=
 if inR t 10 17 then (let i := H3 (fun x => decide (x = t)) (b.1.take (min b.1.length b.2.length)); if i < 0 then -1 else at0 b.2 i) else t
theorem R4 {b : List Int × List Int} {t : Int} (h : inR t 10 17 = false) : t = u6 b t := by simp [u6, h]
theorem a6l {b : List Int × List Int} {t : Int} (h : inR t 10 17 = true) (h2 : H3 (fun x => decide (x = t)) (b.1.take (min b.1.length b.2.length)) < 0) : -1 = u6 b t := by simp only [u6, h, if_true, if_pos h2]
theorem b1j {α : Type} {p : α → Bool} {s : List α} (h : ¬ H3 p s < 0) : 0 ≤ H3 p s ∧ (H3 p s).toNat < s.length := by
 unfold H3 at *
 by_cases q : s.any p = true
 ·rw [if_pos q] at h ⊢
  have := List.findIdx_lt_length.2 (List.any_eq_true.1 q)
  omega
 ·rw [if_neg q] at h; omega
theorem a9z {b : List Int × List Int} {t : Int} (h : inR t 10 17 = true) (h2 : ¬ H3 (fun x => decide (x = t)) (b.1.take (min b.1.length b.2.length)) < 0) (h3 : (H3 (fun x => decide (x = t)) (b.1.take (min b.1.length b.2.length))).toNat < b.2.length) :
  b.2[(H3 (fun x => decide (x = t)) (b.1.take (min b.1.length b.2.length))).toNat] = u6 b t := by
 simp only [u6, h, if_true, if_neg h2, R2 h3]
theorem a1o {b : List Int × List Int} {t : Int} {g : Nat} (h : inR t 10 17 = true) (h1 : g < b.1.length) (h2 : g < b.2.length) (e : b.1[g] = t) (pa : ∀ x ∈ b.1.take g, decide (x = t) = false) : b.2[g] = u6 b t := by
 have h3 : g < (b.1.take (min b.1.length b.2.length)).length := by simp; omega
 have hi := W6 (p := fun x => decide (x = t)) h3 (by rw [List.take_take, Nat.min_eq_left (by omega)]; exact pa) (by simp [e])
 have h4 : ¬ ((g : Nat) : Int) < 0 := by omega
 simp only [u6, h, if_true, ← hi, if_neg h4, R2 (i := (g : Int)) (s := b.2) (by simpa using h2)]
 rfl
theorem a5y {b : List Int × List Int} {t : Int} {g : Nat} (h : inR t 10 17 = true) (h1 : ¬ (g < b.1.length ∧ g < b.2.length)) (pa : ∀ x ∈ b.1.take g, decide (x = t) = false) : -1 = u6 b t := by
 refine a6l h ?_
 rw [← U3 (p := fun x => decide (x = t)) (s := b.1.take (min b.1.length b.2.length)) (k := min b.1.length b.2.length) (by simp) ?_]
 ·omega
 ·intro x hx
  rw [List.take_take, Nat.min_self] at hx
  refine pa x ?_
  rw [List.mem_take_iff_getElem] at hx ⊢
  obtain ⟨i, hi, rfl⟩ := hx
  exact ⟨i, by omega, rfl⟩
theorem a2E {b : List Int × List Int} {t : Int} (h : I64 t) (hb : ∀ x ∈ b.2, I64 x) : I64 (u6 b t) := by
 simp only [u6]
 split
 ·split
  ·exact ⟨by decide, by decide⟩
  ·unfold at0
   rcases Nat.lt_or_ge (H3 (fun x => decide (x = t)) (b.1.take (min b.1.length b.2.length))).toNat b.2.length with h1 | h1
   ·rw [a6K h1]; exact hb _ (List.getElem_mem h1)
   ·have : b.2.getD (H3 (fun x => decide (x = t)) (b.1.take (min b.1.length b.2.length))).toNat 0 = 0 := by simp [List.getD, List.getElem?_eq_none h1]
    rw [this]; exact ⟨by decide, by decide⟩
 ·exact h
theorem a3m {b : List Int × List Int} {l : List Int} (h : ∀ x ∈ l, I64 x) (h1 : ∀ x ∈ b.1, I64 x) (h2 : ∀ x ∈ b.2, I64 x) : ∀ x ∈ l, I64 (u6 b x) := fun x hx => a2E (h x hx) h2
end Go.Proofs.YtbedienpleiamaaGreat

namespace Go.Proofs.YtbedienpleiamaaGreat
set_option linter.unusedVariables false
def pick {α : Type} (p : Nat → Bool) : List α → Nat → List α
 | [], _ => []
 | x :: xs, i => if p i then x :: pick p xs (i + 1) else pick p xs (i + 1)
def b1Z (mask : Int) (i : Nat) : Bool := decide (0 < mask) && decide (Q7 (mask / 2 ^ i) 1 = 1)
def b3w (l : List (Int × Int × List Int)) (mask : Int) : List (Int × Int × List Int) := pick (b1Z mask) (l.take 20) 0
theorem G9 {P : Program} {Q : Exit → Act → World → Prop} {n : Nat} {w0 : World} {L0 : List Nat} {fr : Fr} {H : List HP} {d : Nat} {ty : TypeId} {pos : String} {af : Array Edge} {g : Option (Nat × Bool)} {α : Type} {E : Enc α} {T e e2 : TypeId} {agg : Bool} {k m2 : Nat} {z : List Value} {by' : Nat} {x y : Operand} {ad a2 : Option Addr} {c2 : Nat} {ys : List α} (hE : Plain E) (hT : P.underlying T = some (.slice e)) (ht : TyOk P e agg k z by') (hk : k = E.k)
  (hx : ev fr x = some (.slice ad 0 0)) (hy : ev fr y = some (.slice a2 m2 c2)) (hr : Ro w0 L0 (Enc.sl e2 E) [.slice a2 m2 c2] ys) (h63 : m2 ≤ 9223372036854775807) (hbytes : m2 * by' ≤ 140737488355328) (hd : d < n) :
  Nop P Q n w0 L0 fr H ⟨some d, .call ⟨.builtin .append, #[x, y], #[T, T]⟩, ty, pos, af, g⟩ true (κ := Option Addr × Nat) (fun p => (d, .slice p.1 m2 p.2) :: fr) (fun p => ow (Enc.sl e E) [.slice p.1 m2 p.2] ys :: H) (fun _ => True) := fun K hK a w ha hw => by
 subst hk
 obtain ⟨ccs, ⟨Lc, h1⟩, h2, h3⟩ := hr.src
 have hsrc : (m2 = 0 ∧ ccs = []) ∨ ∃ b o, a2 = some ⟨b, o, none⟩ ∧ F1 w b o ccs := by
  rcases h3 H with h | ⟨b, o, k1, k2⟩
  ·exact .inl h
  ·exact .inr ⟨b, o, k1, k2 w hw⟩
 have hy1 : B4 E w ccs ys [] true := (hE.elems h1).stable (by simp)
 have hm2 := hr.slen.1
 obtain ⟨a', c', w', L1', r1, r2, r3, r4, -⟩ := a0w (P := P) (ty := ty) (c2 := c2) hT ht E.pos (show (row e E.k ad 0 0 []).holds w [] from ⟨by simp, .inl ⟨rfl, rfl, rfl⟩⟩) hsrc (by rw [hy1.len, hm2]) hy1.one (by rw [Nat.zero_add]; exact h63) (by rw [Nat.zero_add]; exact hbytes)
 obtain ⟨L, hs, hn, hst⟩ := id hw
 obtain ⟨d1, d2, d3⟩ := a5u (xs := ([] : List α)) (m := 0) rfl hm2 (by rw [Nat.zero_add]; exact h63) ⟨rfl, rfl⟩ hy1 (by simp) r2 r3 r4
 obtain ⟨k1, k2, k3⟩ := Step.call (Lp := []) (Lr := L) (by simpa using hst) (by simpa using hn) hs.inh (by simpa using d3) d2
 have hrun : (execOp a.eval ⟨some d, .call ⟨.builtin .append, #[x, y], #[T, T]⟩, ty, pos, af, g⟩).run P w = .ok (.value (.slice a' (0 + m2) c')) w' := by
  simp only [execOp, resolve, ha.ev hx, ha.ev hy, List.map_toArray, List.map_cons, List.map_nil, Sem.run_bind, Sem.run_pure, Result.andThen_ok, invoke, builtin, r1]
 simp only [Nat.zero_add, List.nil_append] at d1 hrun
 rw [Oper.wp, hrun]
 exact hK (a', c') trivial w _ _ (ha.put hd _) ⟨_, ⟨_, L, rfl, d1, hs.stable k3⟩, k2, k1⟩ (fun _ => r4.below)
end Go.Proofs.YtbedienpleiamaaGreat
