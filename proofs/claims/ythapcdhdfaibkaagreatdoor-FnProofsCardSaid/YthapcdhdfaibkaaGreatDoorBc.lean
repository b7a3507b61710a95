import Derived.Test.YthapcdhdfaibkaaGreatDoorBb
namespace Go.Proofs.YthapcdhdfaibkaaGreatDoor
set_option linter.unusedVariables false
def inR (n lo hi : Int) : Bool := decide (lo ≤ n ∧ n ≤ hi)
def M6 {α : Type} (p : α → Bool) (s : List α) : Int := if s.any p then (s.findIdx p : Int) else -1
theorem V9 {α : Type} {p : α → Bool} {s : List α} {k : Nat} (hk : k < s.length) (h : ∀ x ∈ s.take k, p x = false) (hp : p s[k] = true) : (k : Int) = M6 p s := by
 have h1 : s.any p = true := List.any_eq_true.2 ⟨_, List.getElem_mem hk, hp⟩
 have h2 : s.findIdx p = k := by
  rw [List.findIdx_eq hk]
  refine ⟨hp, fun j hj => h _ ?_⟩
  rw [List.mem_take_iff_getElem]
  exact ⟨j, by omega, rfl⟩
 rw [M6, if_pos h1, h2]
theorem S9 {α : Type} {p : α → Bool} {s : List α} {k : Nat} (hk : ¬ k < s.length) (h : ∀ x ∈ s.take k, p x = false) : (-1 : Int) = M6 p s := by
 rw [List.take_of_length_le (by omega)] at h
 have : ¬ s.any p = true := fun h' => by
  obtain ⟨x, hx, hp⟩ := List.any_eq_true.1 h'
  rw [h x hx] at hp; cases hp
 rw [M6, if_neg this]
theorem a0Z {α : Type} {p : α → Bool} {s : List α} : decide (0 ≤ M6 p s) = s.any p := by
 unfold M6; split <;> simp_all
theorem W2 {α : Type} {p : α → Bool} {s : List α} {k : Nat} (hk : k < s.length) (h : ∀ x ∈ s.take k, p x = false) (hp : p s[k] = false) : ∀ x ∈ s.take (k + 1), p x = false := by
 intro x hx
 rw [List.take_succ_eq_append_getElem hk] at hx
 rcases List.mem_append.1 hx with hx | hx
 ·exact h x hx
 ·simp at hx; subst hx; exact hp
theorem a5y {α : Type} {p : α → Bool} {s : List α} {k : Nat} (hk : k < s.length) (hp : p s[k] = true) : s.any p = true := List.any_eq_true.2 ⟨_, List.getElem_mem hk, hp⟩
theorem a4j {α : Type} {p : α → Bool} {s : List α} {k : Nat} (hk : ¬ k < s.length) (h : ∀ x ∈ s.take k, p x = false) : s.any p = false := by
 rw [List.take_of_length_le (by omega)] at h
 rw [← Bool.not_eq_true]
 intro h'
 obtain ⟨x, hx, hp⟩ := List.any_eq_true.1 h'
 rw [h x hx] at hp; cases hp
def Q6 (s : List Int) : Bool := inR (s.length : Int) 1 3 && !s.any fun n => !inR n 1 3
def N6 (s : List Int) (rel : Int) : Bool := Q6 s && inR rel 0 ((s.length : Int) - 1)
def S0 (l : List Int) (arity : Int) : Bool := !l.any fun i => !inR i 0 (arity - 1)
def at0 (s : List Int) (i : Int) : Int := s.getD i.toNat 0
def G3 (s : List Int) (r : Int × Int × List Int) : Bool := N6 s r.1 && (N6 s r.2.1 && (decide ((r.2.2.length : Int) = at0 s r.2.1) && S0 r.2.2 (at0 s r.1)))
theorem a4k {α : Type} {s : List α} {i : Nat} {d : α} (h : i < s.length) : s.getD i d = s[i] := by simp [List.getD, h]
theorem a0n {s : List Int} {i : Int} (h : N6 s i = true) : 0 ≤ i ∧ i < s.length ∧ 1 ≤ s.getD i.toNat 0 ∧ s.getD i.toNat 0 ≤ 3 := by
 simp only [N6, Q6, inR, Bool.and_eq_true, decide_eq_true_eq, Bool.not_eq_true', List.any_eq_false] at h
 obtain ⟨⟨_, h1⟩, h2, h3⟩ := h
 have h5 : i.toNat < s.length := by omega
 have h4 := h1 s[i.toNat] (List.getElem_mem h5)
 rw [a4k h5]
 simp at h4
 omega
theorem G1 {s : List Int} {i : Int} (h : i.toNat < s.length) : at0 s i = s[i.toNat] := by simp [at0, h]
def szR (t : Nat) (left : Int) : Int := if (t : Int) ≤ left then left - t else -1
theorem a8W {s : List Int} {r : Int × Int × List Int} (h : N6 s r.1 = false) : false = G3 s r := by simp [G3, h]
theorem b2Y {s : List Int} {r : Int × Int × List Int} (h : N6 s r.2.1 = false) : false = G3 s r := by simp [G3, h]
theorem b3y {s : List Int} {r : Int × Int × List Int} {k : Int} (e : at0 s r.2.1 = k) (h : (r.2.2.length : Int) ≠ k) : false = G3 s r := by simp [G3, e, h]
theorem b2V {s : List Int} {r : Int × Int × List Int} {k : Int} (e : at0 s r.1 = k) (h : S0 r.2.2 k = false) : false = G3 s r := by simp [G3, e, h]
theorem b2R {s : List Int} {r : Int × Int × List Int} {k l : Int} (h1 : N6 s r.1 = true) (h2 : N6 s r.2.1 = true) (e : at0 s r.1 = k) (e2 : at0 s r.2.1 = l) (h : (r.2.2.length : Int) = l) (h4 : S0 r.2.2 k = true) : true = G3 s r := by simp [G3, h1, h2, e, e2, h, h4]
theorem a7M {s : List Int} {r : Int} (h : inR r 0 ((s.length : Int) - 1) = false) : N6 s r = false := by simp [N6, h]
theorem b0b {s : List Int} {r : Int} (h : Q6 s = false) : N6 s r = false := by simp [N6, h]
theorem frI {a b : Int} (h : a = b) : some (Value.int .i64 a) = some (Value.int .i64 b) := by rw [h]
def D4 {α : Type} (t : α → Nat) (l : List α) : Nat := (l.map t).sum
theorem a6F {α : Type} {t : α → Nat} {l : List α} {g : Nat} (h : g < l.length) : D4 t (l.take (g + 1)) = D4 t (l.take g) + t l[g] := by
 unfold D4; rw [List.take_succ_eq_append_getElem h, List.map_append, List.sum_append]; rfl
theorem a9g {α : Type} {t : α → Nat} {l : List α} {g : Nat} : D4 t (l.take g) ≤ D4 t l := by
 have : D4 t l = D4 t (l.take g) + D4 t (l.drop g) := by
  rw [D4, D4, D4, ← List.sum_append, ← List.map_append, List.take_append_drop]
 omega
def a0m {α : Type} (t : α → Nat) (l : List α) : Nat := l.length + D4 t l
theorem b5y {α : Type} {t : α → Nat} {l : List α} {g : Nat} (h : g < l.length) : t l[g] ≤ a0m t l := by
 have h1 := a9g (t := t) (l := l) (g := g + 1)
 rw [a6F h] at h1
 unfold a0m; omega
def B7 (s : List Int) (l : List (Int × Int × List Int)) : Bool := Q6 s && (decide ((l.length : Int) ≤ 4) && !l.any fun r => !G3 s r)
end Go.Proofs.YthapcdhdfaibkaaGreatDoor

namespace Go.Proofs.YthapcdhdfaibkaaGreatDoor
set_option linter.unusedVariables false
def c0N (b : Bool) : Int := if b then 1 else 0
def b7C (log : List (Int × List Int)) (m : Int) : Int := ((log.countP fun a => decide (a.1 = m) : Nat) : Int)
def quo (l : List (Int × List Int × Int × Int × Int)) (m : Int) : Int := (l.getD m.toNat (0, [], 0, 0, 0)).2.2.2.2
def b5u (l : List (Int × List Int × Int × Int × Int)) (log : List (Int × List Int)) (m : Int) : Bool := !inR m 0 ((l.length : Int) - 1) || decide (quo l m < b7C log m)
def b9U (l : List (Int × List Int × Int × Int × Int)) (log : List (Int × List Int)) : Bool := !log.any fun a => b5u l log a.1
end Go.Proofs.YthapcdhdfaibkaaGreatDoor

namespace Go.Proofs.YthapcdhdfaibkaaGreatDoor
set_option linter.unusedVariables false
set_option linter.unusedSimpArgs false
def mkL {α : Type} (c : α → Nat) (m : α → Int → α) : List α → Int → List α
 | [], _ => []
 | x :: xs, k => m x k :: mkL c m xs (k + (c x : Nat))
section
variable {α : Type} {c : α → Nat} {m : α → Int → α}
end
def Q4 (_ : Int) : Nat := 1
def a2R (_ : Int) (k : Int) : Int := k
def a8D (x : List Int) : Nat := D4 Q4 x
def b8I (x : List Int) (k : Int) : List Int := mkL Q4 a2R x k
def W7 (x : Int × List Int) : Nat := 1 + D4 Q4 x.2
def a5z (x : Int × List Int) (k : Int) : Int × List Int := ((k), mkL Q4 a2R x.2 (k + 1))
def b9z (x : List (Int × List Int)) : Nat := D4 W7 x
def b9F (x : List (Int × List Int)) (k : Int) : List (Int × List Int) := mkL W7 a5z x k
def a2g (x : Int × List Int) : Nat := 1 + D4 Q4 x.2
def a7j (x : Int × List Int) (k : Int) : Int × List Int := ((k), mkL Q4 a2R x.2 (k + 1))
def b9M (x : List (Int × List Int)) : Nat := D4 a2g x
def b9L (x : List (Int × List Int)) (k : Int) : List (Int × List Int) := mkL a2g a7j x k
def a0O (x : Int × List Int) : Nat := 1 + D4 Q4 x.2
def a6T (x : Int × List Int) (k : Int) : Int × List Int := ((k), mkL Q4 a2R x.2 (k + 1))
def b8r (x : List (Int × List Int)) : Nat := D4 a0O x
def b8C (x : List (Int × List Int)) (k : Int) : List (Int × List Int) := mkL a0O a6T x k
def b2t (x : Int × Int) : Nat := 1 + 1
def b6E (x : Int × Int) (k : Int) : Int × Int := ((k), (k + 1))
def b9o (x : List (Int × Int)) : Nat := D4 b2t x
def b9K (x : List (Int × Int)) (k : Int) : List (Int × Int) := mkL b2t b6E x k
def b1b (x : List Int × List (Int × List Int)) : Nat := D4 Q4 x.1 + D4 a2g x.2
def b5L (x : List Int × List (Int × List Int)) (k : Int) : List Int × List (Int × List Int) := (mkL Q4 a2R x.1 (k), mkL a2g a7j x.2 (k + (D4 Q4 x.1 : Nat)))
def b8X (x : List (List Int × List (Int × List Int))) : Nat := D4 b1b x
def b8Z (x : List (List Int × List (Int × List Int))) (k : Int) : List (List Int × List (Int × List Int)) := mkL b1b b5L x k
def a8A (x : List Int × List Int) : Nat := D4 Q4 x.1 + D4 Q4 x.2
def b3p (x : List Int × List Int) (k : Int) : List Int × List Int := (mkL Q4 a2R x.1 (k), mkL Q4 a2R x.2 (k + (D4 Q4 x.1 : Nat)))
def b8g (x : List (List Int × List Int)) : Nat := D4 a8A x
def b8l (x : List (List Int × List Int)) (k : Int) : List (List Int × List Int) := mkL a8A b3p x k
def a9P (x : Int × List Int × Int × Int × Int) : Nat := 1 + D4 Q4 x.2.1 + 1 + 1 + 1
def b4G (x : Int × List Int × Int × Int × Int) (k : Int) : Int × List Int × Int × Int × Int := ((k), mkL Q4 a2R x.2.1 (k + 1), (k + 1 + (D4 Q4 x.2.1 : Nat)), (k + 1 + (D4 Q4 x.2.1 : Nat) + 1), (k + 1 + (D4 Q4 x.2.1 : Nat) + 1 + 1))
def b8F (x : List (Int × List Int × Int × Int × Int)) : Nat := D4 a9P x
def b8v (x : List (Int × List Int × Int × Int × Int)) (k : Int) : List (Int × List Int × Int × Int × Int) := mkL a9P b4G x k
def b2D (x : Int × Int × List Int) : Nat := 1 + 1 + D4 Q4 x.2.2
def b6X (x : Int × Int × List Int) (k : Int) : Int × Int × List Int := ((k), (k + 1), mkL Q4 a2R x.2.2 (k + 1 + 1))
def b9n (x : List (Int × Int × List Int)) : Nat := D4 b2D x
def b9A (x : List (Int × Int × List Int)) (k : Int) : List (Int × Int × List Int) := mkL b2D b6X x k
def a8H (x : (List Int × List (Int × List Int)) × List (Int × List Int)) : Nat := D4 Q4 x.1.1 + D4 a2g x.1.2 + D4 a2g x.2
def b2X (x : (List Int × List (Int × List Int)) × List (Int × List Int)) (k : Int) : (List Int × List (Int × List Int)) × List (Int × List Int) := ((mkL Q4 a2R x.1.1 (k), mkL a2g a7j x.1.2 (k + (D4 Q4 x.1.1 : Nat))), mkL a2g a7j x.2 (k + (D4 Q4 x.1.1 : Nat) + (D4 a2g x.1.2 : Nat)))
def b8k (x : List ((List Int × List (Int × List Int)) × List (Int × List Int))) : Nat := D4 a8H x
def b8h (x : List ((List Int × List (Int × List Int)) × List (Int × List Int))) (k : Int) : List ((List Int × List (Int × List Int)) × List (Int × List Int)) := mkL a8H b2X x k
def a7n (x : Int × (Int × List Int) × Int × List Int) : Nat := 1 + 1 + D4 Q4 x.2.1.2 + 1 + D4 Q4 x.2.2.2
def b2u (x : Int × (Int × List Int) × Int × List Int) (k : Int) : Int × (Int × List Int) × Int × List Int := ((k), ((k + 1), mkL Q4 a2R x.2.1.2 (k + 1 + 1)), ((k + 1 + 1 + (D4 Q4 x.2.1.2 : Nat)), mkL Q4 a2R x.2.2.2 (k + 1 + 1 + (D4 Q4 x.2.1.2 : Nat) + 1)))
def b9J (x : List (Int × (Int × List Int) × Int × List Int)) : Nat := D4 a7n x
def b9q (x : List (Int × (Int × List Int) × Int × List Int)) (k : Int) : List (Int × (Int × List Int) × Int × List Int) := mkL a7n b2u x k
def b0U (x : List (Int × (Int × List Int) × Int × List Int)) : Nat := D4 a7n x
def b5I (x : List (Int × (Int × List Int) × Int × List Int)) (k : Int) : List (Int × (Int × List Int) × Int × List Int) := (mkL a7n b2u x (k))
def b9c (x : List (List (Int × (Int × List Int) × Int × List Int))) : Nat := D4 b0U x
def b9d (x : List (List (Int × (Int × List Int) × Int × List Int))) (k : Int) : List (List (Int × (Int × List Int) × Int × List Int)) := mkL b0U b5I x k
def a8J (x : (List (Int × List Int)) × List Int × (List (Int × List Int)) × Int) : Nat := D4 W7 x.1 + D4 Q4 x.2.1 + D4 a0O x.2.2.1 + 1
def b3l (x : (List (Int × List Int)) × List Int × (List (Int × List Int)) × Int) (k : Int) : (List (Int × List Int)) × List Int × (List (Int × List Int)) × Int := (mkL W7 a5z x.1 (k), mkL Q4 a2R x.2.1 (k + (D4 W7 x.1 : Nat)), mkL a0O a6T x.2.2.1 (k + (D4 W7 x.1 : Nat) + (D4 Q4 x.2.1 : Nat)), (k + (D4 W7 x.1 : Nat) + (D4 Q4 x.2.1 : Nat) + (D4 a0O x.2.2.1 : Nat)))
def b8i (x : List ((List (Int × List Int)) × List Int × (List (Int × List Int)) × Int)) : Nat := D4 a8J x
def b8j (x : List ((List (Int × List Int)) × List Int × (List (Int × List Int)) × Int)) (k : Int) : List ((List (Int × List Int)) × List Int × (List (Int × List Int)) × Int) := mkL a8J b3l x k
def a5q (x : (List (Int × List Int)) × (List (Int × List Int)) × List Int) : Nat := D4 W7 x.1 + D4 W7 x.2.1 + D4 Q4 x.2.2
def a9q (x : (List (Int × List Int)) × (List (Int × List Int)) × List Int) (k : Int) : (List (Int × List Int)) × (List (Int × List Int)) × List Int := (mkL W7 a5z x.1 (k), mkL W7 a5z x.2.1 (k + (D4 W7 x.1 : Nat)), mkL Q4 a2R x.2.2 (k + (D4 W7 x.1 : Nat) + (D4 W7 x.2.1 : Nat)))
def b6f (x : List ((List (Int × List Int)) × (List (Int × List Int)) × List Int)) : Nat := D4 a5q x
def b6g (x : List ((List (Int × List Int)) × (List (Int × List Int)) × List Int)) (k : Int) : List ((List (Int × List Int)) × (List (Int × List Int)) × List Int) := mkL a5q a9q x k
end Go.Proofs.YthapcdhdfaibkaaGreatDoor

namespace Go.Proofs.YthapcdhdfaibkaaGreatDoor
set_option linter.unusedVariables false
def G4 (l : List Int) : Bool := !l.any fun n => !inR n 0 9
def B9 (s : List Int) (f : Int × List Int) : Bool := N6 s f.1 && (decide ((f.2.length : Int) = at0 s f.1) && G4 f.2)
theorem a5M {s : List Int} {f : Int × List Int} (h : N6 s f.1 = false) : false = B9 s f := by simp [B9, h]
theorem a8F {s : List Int} {f : Int × List Int} {k : Int} (e : at0 s f.1 = k) (h : (f.2.length : Int) ≠ k) : false = B9 s f := by simp [B9, e, h]
theorem b3z {s : List Int} {f : Int × List Int} (h : G4 f.2 = false) : false = B9 s f := by simp [B9, h]
theorem a9R {s : List Int} {f : Int × List Int} {k : Int} (h : N6 s f.1 = true) (e : at0 s f.1 = k) (h2 : (f.2.length : Int) = k) : G4 f.2 = B9 s f := by simp [B9, h, e, h2]
theorem a4L {s : List Int} {r : Int × Int × List Int} {f : Int × List Int} (h1 : G3 s r = true) (h2 : B9 s f = true) (e : f.1 = r.1) : ∀ x ∈ r.2.2, 0 ≤ x ∧ x < f.2.length := by
 simp only [G3, B9, S0, Bool.and_eq_true, decide_eq_true_eq, Bool.not_eq_true', List.any_eq_false] at h1 h2
 intro x hx
 have h3 := h1.2.2.2 x hx
 have h4 := h2.2.1
 rw [e] at h4
 simp [inR] at h3
 omega
def a1V (s : List Int) (r : Int × Int × List Int) (f : Int × List Int) : Bool := G3 s r && (B9 s f && decide (f.1 = r.1))
theorem a7L {s : List Int} {r : Int × Int × List Int} {f : Int × List Int} (h : G3 s r = false) : a1V s r f = false := by simp [a1V, h]
theorem a7S {s : List Int} {r : Int × Int × List Int} {f : Int × List Int} (h : B9 s f = false) : a1V s r f = false := by simp [a1V, h]
theorem b1r {s : List Int} {r : Int × Int × List Int} {f : Int × List Int} (h1 : G3 s r = true) (h2 : B9 s f = true) (h : f.1 = r.1) : a1V s r f = true := by simp [a1V, h, h1, h2]
theorem a5j {s : List Int} {r : Int × Int × List Int} {f : Int × List Int} (h1 : G3 s r = true) (h2 : B9 s f = true) : a1V s r f = decide (f.1 = r.1) := by simp [a1V, h1, h2]
def vals (m : List Int) (v : List Int) : List Int := m.map (at0 v)
theorem b0j {m v : List Int} {g : Nat} (h : g < m.length) (h2 : m[g].toNat < v.length) : vals (m.take g) v ++ [v[m[g].toNat]] = vals (m.take (g + 1)) v := by
 rw [List.take_succ_eq_append_getElem h, vals, vals, List.map_append]
 simp [G1 h2]
theorem b1l {m v : List Int} : (vals m v).length = m.length := by simp [vals]
theorem a5X {m v : List Int} {g : Nat} (h : m.length ≤ g) : vals (m.take g) v = vals m v := by rw [List.take_of_length_le h]
def a0L (s : List Int) (r : Int × Int × List Int) (f : Int × List Int) : Int := cond (a1V s r f) r.2.1 0
def a1a (s : List Int) (r : Int × Int × List Int) (f : Int × List Int) : List Int := cond (a1V s r f) (vals r.2.2 f.2) []
theorem b5w {s : List Int} {r : Int × Int × List Int} {f : Int × List Int} (h : I64 r.2.1) : I64 (a0L s r f) := by
 rw [a0L]; cases a1V s r f
 ·show I64 0; exact ⟨by decide, by decide⟩
 ·exact h
theorem a7U {s : List Int} {r : Int × Int × List Int} (h : G3 s r = true) : r.2.2.length ≤ 3 := by
 simp only [G3, Bool.and_eq_true, decide_eq_true_eq] at h
 have := a0n h.2.1
 simp only [at0] at h; omega
end Go.Proofs.YthapcdhdfaibkaaGreatDoor

namespace Go.Proofs.YthapcdhdfaibkaaGreatDoor
set_option linter.unusedVariables false
def a4T (b : List Int × List Int) (t : Int) : Int :=
 if inR t 10 17 then (let i := M6 (fun x => decide (x = t)) (b.1.take (min b.1.length b.2.length)); if i < 0 then -1 else at0 b.2 i) else t
theorem b7K {α : Type} {p : α → Bool} {s : List α} (h : ¬ M6 p s < 0) : 0 ≤ M6 p s ∧ (M6 p s).toNat < s.length := by
 unfold M6 at *
 by_cases q : s.any p = true
 ·rw [if_pos q] at h ⊢
  have := List.findIdx_lt_length.2 (List.any_eq_true.1 q)
  omega
 ·rw [if_neg q] at h; omega
end Go.Proofs.YthapcdhdfaibkaaGreatDoor

namespace Go.Proofs.YthapcdhdfaibkaaGreatDoor
set_option linter.unusedVariables false
def pick {α : Type} (p : Nat → Bool) : List α → Nat → List α
 | [], _ => []
 | x :: xs, i => if p i then x :: pick p xs (i + 1) else pick p xs (i + 1)
def b8q (mask : Int) (i : Nat) : Bool := decide (0 < mask) && decide (a0I (mask / 2 ^ i) 1 = 1)
def c0c (l : List (Int × Int × List Int)) (mask : Int) : List (Int × Int × List Int) := pick (b8q mask) (l.take 20) 0
theorem W1 {P : Program} {Q : Exit → Act → World → Prop} {n : Nat} {w0 : World} {L0 : List Nat} {fr : Fr} {H : List HP} {d : Nat} {ty : TypeId} {pos : String} {af : Array Edge} {g : Option (Nat × Bool)} {α : Type} {E : Enc α} {T e e2 : TypeId} {agg : Bool} {k m2 : Nat} {z : List Value} {by' : Nat} {x y : Operand} {ad a2 : Option Addr} {c2 : Nat} {ys : List α} (hE : Plain E) (hT : P.underlying T = some (.slice e)) (ht : TyOk P e agg k z by') (hk : k = E.k)
  (hx : ev fr x = some (.slice ad 0 0)) (hy : ev fr y = some (.slice a2 m2 c2)) (hr : Ro w0 L0 (Enc.sl e2 E) [.slice a2 m2 c2] ys) (h63 : m2 ≤ 9223372036854775807) (hbytes : m2 * by' ≤ 140737488355328) (hd : d < n) :
  Nop P Q n w0 L0 fr H ⟨some d, .call ⟨.builtin .append, #[x, y], #[T, T]⟩, ty, pos, af, g⟩ true (κ := Option Addr × Nat) (fun p => (d, .slice p.1 m2 p.2) :: fr) (fun p => ow (Enc.sl e E) [.slice p.1 m2 p.2] ys :: H) (fun _ => True) := fun K hK a w ha hw => by
 subst hk
 obtain ⟨ccs, ⟨Lc, h1⟩, h2, h3⟩ := hr.src
 have hsrc : (m2 = 0 ∧ ccs = []) ∨ ∃ b o, a2 = some ⟨b, o, none⟩ ∧ K0 w b o ccs := by
  rcases h3 H with h | ⟨b, o, k1, k2⟩
  ·exact .inl h
  ·exact .inr ⟨b, o, k1, k2 w hw⟩
 have hy1 : C0 E w ccs ys [] true := (hE.elems h1).stable (by simp)
 have hm2 := hr.slen.1
 obtain ⟨a', c', w', L1', r1, r2, r3, r4, -⟩ := a2h (P := P) (ty := ty) (c2 := c2) hT ht E.pos (show (row e E.k ad 0 0 []).holds w [] from ⟨by simp, .inl ⟨rfl, rfl, rfl⟩⟩) hsrc (by rw [hy1.len, hm2]) hy1.one (by rw [Nat.zero_add]; exact h63) (by rw [Nat.zero_add]; exact hbytes)
 obtain ⟨L, hs, hn, hst⟩ := id hw
 obtain ⟨d1, d2, d3⟩ := a9Q (xs := ([] : List α)) (m := 0) rfl hm2 (by rw [Nat.zero_add]; exact h63) ⟨rfl, rfl⟩ hy1 (by simp) r2 r3 r4
 obtain ⟨k1, k2, k3⟩ := Step.call (Lp := []) (Lr := L) (by simpa using hst) (by simpa using hn) hs.inh (by simpa using d3) d2
 have hrun : (execOp a.eval ⟨some d, .call ⟨.builtin .append, #[x, y], #[T, T]⟩, ty, pos, af, g⟩).run P w = .ok (.value (.slice a' (0 + m2) c')) w' := by
  simp only [execOp, resolve, ha.ev hx, ha.ev hy, List.map_toArray, List.map_cons, List.map_nil, Sem.run_bind, Sem.run_pure, Result.andThen_ok, invoke, builtin, r1]
 simp only [Nat.zero_add, List.nil_append] at d1 hrun
 rw [Oper.wp, hrun]
 exact hK (a', c') trivial w _ _ (ha.put hd _) ⟨_, ⟨_, L, rfl, d1, hs.stable k3⟩, k2, k1⟩ (fun _ => r4.below)
end Go.Proofs.YthapcdhdfaibkaaGreatDoor
