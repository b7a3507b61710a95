import Derived.Test.YtlfhopooaejpfaaGreatBb
namespace Go.Proofs.YtlfhopooaejpfaaGreat
set_option linter.unusedVariables false
def inR (n lo hi : Int) : Bool := decide (lo ≤ n ∧ n ≤ hi)
def J8 {α : Type} (p : α → Bool) (s : List α) : Int := if s.any p then (s.findIdx p : Int) else -1
theorem V4 {α : Type} {p : α → Bool} {s : List α} {k : Nat} (hk : k < s.length) (h : ∀ x ∈ s.take k, p x = false) (hp : p s[k] = true) : (k : Int) = J8 p s := by
 have h1 : s.any p = true := List.any_eq_true.2 ⟨_, List.getElem_mem hk, hp⟩
 have h2 : s.findIdx p = k := by
  rw [List.findIdx_eq hk]
  refine ⟨hp, fun j hj => h _ ?_⟩
  rw [List.mem_take_iff_getElem]
  exact ⟨j, by omega, rfl⟩
 rw [J8, if_pos h1, h2]
theorem S7 {α : Type} {p : α → Bool} {s : List α} {k : Nat} (hk : ¬ k < s.length) (h : ∀ x ∈ s.take k, p x = false) : (-1 : Int) = J8 p s := by
 rw [List.take_of_length_le (by omega)] at h
 have : ¬ s.any p = true := fun h' => by
  obtain ⟨x, hx, hp⟩ := List.any_eq_true.1 h'
  rw [h x hx] at hp; cases hp
 rw [J8, if_neg this]
theorem a0X {α : Type} {p : α → Bool} {s : List α} : decide (0 ≤ J8 p s) = s.any p := by
 unfold J8; split <;> simp_all
theorem X4 {α : Type} {p : α → Bool} {s : List α} {k : Nat} (hk : k < s.length) (h : ∀ x ∈ s.take k, p x = false) (hp : p s[k] = false) : ∀ x ∈ s.take (k + 1), p x = false := by
 intro x hx
 rw [List.take_succ_eq_append_getElem hk] at hx
 rcases List.mem_append.1 hx with hx | hx
 ·exact h x hx
 ·simp at hx; subst hx; exact hp
theorem a7Z {α : Type} {p : α → Bool} {s : List α} {k : Nat} (hk : k < s.length) (hp : p s[k] = true) : s.any p = true := List.any_eq_true.2 ⟨_, List.getElem_mem hk, hp⟩
theorem a6A {α : Type} {p : α → Bool} {s : List α} {k : Nat} (hk : ¬ k < s.length) (h : ∀ x ∈ s.take k, p x = false) : s.any p = false := by
 rw [List.take_of_length_le (by omega)] at h
 rw [← Bool.not_eq_true]
 intro h'
 obtain ⟨x, hx, hp⟩ := List.any_eq_true.1 h'
 rw [h x hx] at hp; cases hp
def P4 (s : List Int) : Bool := inR (s.length : Int) 1 3 && !s.any fun n => !inR n 1 3
def L8 (s : List Int) (rel : Int) : Bool := P4 s && inR rel 0 ((s.length : Int) - 1)
def S5 (l : List Int) (arity : Int) : Bool := !l.any fun i => !inR i 0 (arity - 1)
def at0 (s : List Int) (i : Int) : Int := s.getD i.toNat 0
def J5 (s : List Int) (r : Int × Int × List Int) : Bool := L8 s r.1 && (L8 s r.2.1 && (decide ((r.2.2.length : Int) = at0 s r.2.1) && S5 r.2.2 (at0 s r.1)))
theorem R7 {α : Type} {s : List α} {i : Nat} {d : α} (h : i < s.length) : s.getD i d = s[i] := by simp [List.getD, h]
theorem Y0 {s : List Int} {i : Int} (h : L8 s i = true) : 0 ≤ i ∧ i < s.length ∧ 1 ≤ s.getD i.toNat 0 ∧ s.getD i.toNat 0 ≤ 3 := by
 simp only [L8, P4, inR, Bool.and_eq_true, decide_eq_true_eq, Bool.not_eq_true', List.any_eq_false] at h
 obtain ⟨⟨_, h1⟩, h2, h3⟩ := h
 have h5 : i.toNat < s.length := by omega
 have h4 := h1 s[i.toNat] (List.getElem_mem h5)
 rw [R7 h5]
 simp at h4
 omega
theorem G3 {s : List Int} {i : Int} (h : i.toNat < s.length) : at0 s i = s[i.toNat] := by simp [at0, h]
def szR (t : Nat) (left : Int) : Int := if (t : Int) ≤ left then left - t else -1
theorem a9s {s : List Int} {r : Int × Int × List Int} (h : L8 s r.1 = false) : false = J5 s r := by simp [J5, h]
theorem b5i {s : List Int} {r : Int × Int × List Int} (h : L8 s r.2.1 = false) : false = J5 s r := by simp [J5, h]
theorem b5x {s : List Int} {r : Int × Int × List Int} {k : Int} (e : at0 s r.2.1 = k) (h : (r.2.2.length : Int) ≠ k) : false = J5 s r := by simp [J5, e, h]
theorem b5D {s : List Int} {r : Int × Int × List Int} {k : Int} (e : at0 s r.1 = k) (h : S5 r.2.2 k = false) : false = J5 s r := by simp [J5, e, h]
theorem b5n {s : List Int} {r : Int × Int × List Int} {k l : Int} (h1 : L8 s r.1 = true) (h2 : L8 s r.2.1 = true) (e : at0 s r.1 = k) (e2 : at0 s r.2.1 = l) (h : (r.2.2.length : Int) = l) (h4 : S5 r.2.2 k = true) : true = J5 s r := by simp [J5, h1, h2, e, e2, h, h4]
theorem b2M {s : List Int} {r : Int} (h : inR r 0 ((s.length : Int) - 1) = false) : L8 s r = false := by simp [L8, h]
theorem b5W {s : List Int} {r : Int} (h : P4 s = false) : L8 s r = false := by simp [L8, h]
theorem frI {a b : Int} (h : a = b) : some (Value.int .i64 a) = some (Value.int .i64 b) := by rw [h]
def E1 {α : Type} (t : α → Nat) (l : List α) : Nat := (l.map t).sum
theorem b1a {α : Type} {t : α → Nat} {l : List α} {g : Nat} (h : g < l.length) : E1 t (l.take (g + 1)) = E1 t (l.take g) + t l[g] := by
 unfold E1; rw [List.take_succ_eq_append_getElem h, List.map_append, List.sum_append]; rfl
theorem b0j {α : Type} {t : α → Nat} {l : List α} {g : Nat} : E1 t (l.take g) ≤ E1 t l := by
 have : E1 t l = E1 t (l.take g) + E1 t (l.drop g) := by
  rw [E1, E1, E1, ← List.sum_append, ← List.map_append, List.take_append_drop]
 omega
def K2 {α : Type} (t : α → Nat) (l : List α) : Nat := l.length + E1 t l
theorem a8G {α : Type} {t : α → Nat} {l : List α} {g : Nat} (h : g < l.length) : t l[g] ≤ K2 t l := by
 have h1 := b0j (t := t) (l := l) (g := g + 1)
 rw [b1a h] at h1
 unfold K2; omega
def C4 (s : List Int) (l : List (Int × Int × List Int)) : Bool := P4 s && (decide ((l.length : Int) ≤ 4) && !l.any fun r => !J5 s r)
end Go.Proofs.YtlfhopooaejpfaaGreat

namespace Go.Proofs.YtlfhopooaejpfaaGreat
set_option linter.unusedVariables false
def c4a (b : Bool) : Int := if b then 1 else 0
def b7y (log : List (Int × List Int)) (m : Int) : Int := ((log.countP fun a => decide (a.1 = m) : Nat) : Int)
def quo (l : List (Int × List Int × Int × Int × Int)) (m : Int) : Int := (l.getD m.toNat (0, [], 0, 0, 0)).2.2.2.2
def b7S (l : List (Int × List Int × Int × Int × Int)) (log : List (Int × List Int)) (m : Int) : Bool := !inR m 0 ((l.length : Int) - 1) || decide (quo l m < b7y log m)
def c2U (l : List (Int × List Int × Int × Int × Int)) (log : List (Int × List Int)) : Bool := !log.any fun a => b7S l log a.1
end Go.Proofs.YtlfhopooaejpfaaGreat

namespace Go.Proofs.YtlfhopooaejpfaaGreat
set_option linter.unusedVariables false
set_option linter.unusedSimpArgs false
def mkL {α : Type} (c : α → Nat) (m : α → Int → α) : List α → Int → List α
 | [], _ => []
 | x :: xs, k => m x k :: mkL c m xs (k + (c x : Nat))
section
variable {α : Type} {c : α → Nat} {m : α → Int → α}
end
def Q6 (_ : Int) : Nat := 1
def a3h (_ : Int) (k : Int) : Int := k
def a9q (x : List Int) : Nat := E1 Q6 x
def c0U (x : List Int) (k : Int) : List Int := mkL Q6 a3h x k
def V6 (x : Int × List Int) : Nat := 1 + E1 Q6 x.2
def a5P (x : Int × List Int) (k : Int) : Int × List Int := ((k), mkL Q6 a3h x.2 (k + 1))
def c2y (x : List (Int × List Int)) : Nat := E1 V6 x
def c2m (x : List (Int × List Int)) (k : Int) : List (Int × List Int) := mkL V6 a5P x k
def a0J (x : Int × List Int) : Nat := 1 + E1 Q6 x.2
def a8c (x : Int × List Int) (k : Int) : Int × List Int := ((k), mkL Q6 a3h x.2 (k + 1))
def c2q (x : List (Int × List Int)) : Nat := E1 a0J x
def c2E (x : List (Int × List Int)) (k : Int) : List (Int × List Int) := mkL a0J a8c x k
def a0P (x : Int × List Int) : Nat := 1 + E1 Q6 x.2
def a7N (x : Int × List Int) (k : Int) : Int × List Int := ((k), mkL Q6 a3h x.2 (k + 1))
def c1f (x : List (Int × List Int)) : Nat := E1 a0P x
def c1n (x : List (Int × List Int)) (k : Int) : List (Int × List Int) := mkL a0P a7N x k
def b4G (x : Int × Int) : Nat := 1 + 1
def b9h (x : Int × Int) (k : Int) : Int × Int := ((k), (k + 1))
def c2u (x : List (Int × Int)) : Nat := E1 b4G x
def c2i (x : List (Int × Int)) (k : Int) : List (Int × Int) := mkL b4G b9h x k
def b2B (x : List Int × List (Int × List Int)) : Nat := E1 Q6 x.1 + E1 a0J x.2
def b7V (x : List Int × List (Int × List Int)) (k : Int) : List Int × List (Int × List Int) := (mkL Q6 a3h x.1 (k), mkL a0J a8c x.2 (k + (E1 Q6 x.1 : Nat)))
def c1I (x : List (List Int × List (Int × List Int))) : Nat := E1 b2B x
def c1P (x : List (List Int × List (Int × List Int))) (k : Int) : List (List Int × List (Int × List Int)) := mkL b2B b7V x k
def a9n (x : List Int × List Int) : Nat := E1 Q6 x.1 + E1 Q6 x.2
def b5G (x : List Int × List Int) (k : Int) : List Int × List Int := (mkL Q6 a3h x.1 (k), mkL Q6 a3h x.2 (k + (E1 Q6 x.1 : Nat)))
def c0K (x : List (List Int × List Int)) : Nat := E1 a9n x
def c0M (x : List (List Int × List Int)) (k : Int) : List (List Int × List Int) := mkL a9n b5G x k
def b1A (x : Int × List Int × Int × Int × Int) : Nat := 1 + E1 Q6 x.2.1 + 1 + 1 + 1
def b5L (x : Int × List Int × Int × Int × Int) (k : Int) : Int × List Int × Int × Int × Int := ((k), mkL Q6 a3h x.2.1 (k + 1), (k + 1 + (E1 Q6 x.2.1 : Nat)), (k + 1 + (E1 Q6 x.2.1 : Nat) + 1), (k + 1 + (E1 Q6 x.2.1 : Nat) + 1 + 1))
def c0W (x : List (Int × List Int × Int × Int × Int)) : Nat := E1 b1A x
def c0V (x : List (Int × List Int × Int × Int × Int)) (k : Int) : List (Int × List Int × Int × Int × Int) := mkL b1A b5L x k
def b4j (x : Int × Int × List Int) : Nat := 1 + 1 + E1 Q6 x.2.2
def b9s (x : Int × Int × List Int) (k : Int) : Int × Int × List Int := ((k), (k + 1), mkL Q6 a3h x.2.2 (k + 1 + 1))
def c2A (x : List (Int × Int × List Int)) : Nat := E1 b4j x
def c2v (x : List (Int × Int × List Int)) (k : Int) : List (Int × Int × List Int) := mkL b4j b9s x k
def a9P (x : (List Int × List (Int × List Int)) × List (Int × List Int)) : Nat := E1 Q6 x.1.1 + E1 a0J x.1.2 + E1 a0J x.2
def b4Z (x : (List Int × List (Int × List Int)) × List (Int × List Int)) (k : Int) : (List Int × List (Int × List Int)) × List (Int × List Int) := ((mkL Q6 a3h x.1.1 (k), mkL a0J a8c x.1.2 (k + (E1 Q6 x.1.1 : Nat))), mkL a0J a8c x.2 (k + (E1 Q6 x.1.1 : Nat) + (E1 a0J x.1.2 : Nat)))
def c0P (x : List ((List Int × List (Int × List Int)) × List (Int × List Int))) : Nat := E1 a9P x
def c0N (x : List ((List Int × List (Int × List Int)) × List (Int × List Int))) (k : Int) : List ((List Int × List (Int × List Int)) × List (Int × List Int)) := mkL a9P b4Z x k
def a8e (x : Int × (Int × List Int) × Int × List Int) : Nat := 1 + 1 + E1 Q6 x.2.1.2 + 1 + E1 Q6 x.2.2.2
def b4g (x : Int × (Int × List Int) × Int × List Int) (k : Int) : Int × (Int × List Int) × Int × List Int := ((k), ((k + 1), mkL Q6 a3h x.2.1.2 (k + 1 + 1)), ((k + 1 + 1 + (E1 Q6 x.2.1.2 : Nat)), mkL Q6 a3h x.2.2.2 (k + 1 + 1 + (E1 Q6 x.2.1.2 : Nat) + 1)))
def c2x (x : List (Int × (Int × List Int) × Int × List Int)) : Nat := E1 a8e x
def c2w (x : List (Int × (Int × List Int) × Int × List Int)) (k : Int) : List (Int × (Int × List Int) × Int × List Int) := mkL a8e b4g x k
def b3l (x : List (Int × (Int × List Int) × Int × List Int)) : Nat := E1 a8e x
def b7X (x : List (Int × (Int × List Int) × Int × List Int)) (k : Int) : List (Int × (Int × List Int) × Int × List Int) := (mkL a8e b4g x (k))
def c1M (x : List (List (Int × (Int × List Int) × Int × List Int))) : Nat := E1 b3l x
def c1F (x : List (List (Int × (Int × List Int) × Int × List Int))) (k : Int) : List (List (Int × (Int × List Int) × Int × List Int)) := mkL b3l b7X x k
def a9y (x : (List (Int × List Int)) × List Int × (List (Int × List Int)) × Int) : Nat := E1 V6 x.1 + E1 Q6 x.2.1 + E1 a0P x.2.2.1 + 1
def b5f (x : (List (Int × List Int)) × List Int × (List (Int × List Int)) × Int) (k : Int) : (List (Int × List Int)) × List Int × (List (Int × List Int)) × Int := (mkL V6 a5P x.1 (k), mkL Q6 a3h x.2.1 (k + (E1 V6 x.1 : Nat)), mkL a0P a7N x.2.2.1 (k + (E1 V6 x.1 : Nat) + (E1 Q6 x.2.1 : Nat)), (k + (E1 V6 x.1 : Nat) + (E1 Q6 x.2.1 : Nat) + (E1 a0P x.2.2.1 : Nat)))
def c0Q (x : List ((List (Int × List Int)) × List Int × (List (Int × List Int)) × Int)) : Nat := E1 a9y x
def c0O (x : List ((List (Int × List Int)) × List Int × (List (Int × List Int)) × Int)) (k : Int) : List ((List (Int × List Int)) × List Int × (List (Int × List Int)) × Int) := mkL a9y b5f x k
def a5Z (x : (List (Int × List Int)) × (List (Int × List Int)) × List Int) : Nat := E1 V6 x.1 + E1 V6 x.2.1 + E1 Q6 x.2.2
def b0L (x : (List (Int × List Int)) × (List (Int × List Int)) × List Int) (k : Int) : (List (Int × List Int)) × (List (Int × List Int)) × List Int := (mkL V6 a5P x.1 (k), mkL V6 a5P x.2.1 (k + (E1 V6 x.1 : Nat)), mkL Q6 a3h x.2.2 (k + (E1 V6 x.1 : Nat) + (E1 V6 x.2.1 : Nat)))
def b8k (x : List ((List (Int × List Int)) × (List (Int × List Int)) × List Int)) : Nat := E1 a5Z x
def b8t (x : List ((List (Int × List Int)) × (List (Int × List Int)) × List Int)) (k : Int) : List ((List (Int × List Int)) × (List (Int × List Int)) × List Int) := mkL a5Z b0L x k
end Go.Proofs.YtlfhopooaejpfaaGreat

namespace Go.Proofs.YtlfhopooaejpfaaGreat
set_option linter.unusedVariables false
def a1W (l : List Int) : Bool := !l.any fun n => !inR n 0 9
def H8 (s : List Int) (f : Int × List Int) : Bool := L8 s f.1 && (decide ((f.2.length : Int) = at0 s f.1) && a1W f.2)
theorem b1g {s : List Int} {r : Int × Int × List Int} {f : Int × List Int} (h1 : J5 s r = true) (h2 : H8 s f = true) (e : f.1 = r.1) : ∀ x ∈ r.2.2, 0 ≤ x ∧ x < f.2.length := by
 simp only [J5, H8, S5, Bool.and_eq_true, decide_eq_true_eq, Bool.not_eq_true', List.any_eq_false] at h1 h2
 intro x hx
 have h3 := h1.2.2.2 x hx
 have h4 := h2.2.1
 rw [e] at h4
 simp [inR] at h3
 omega
def b7j (s : List Int) (r : Int × Int × List Int) (f : Int × List Int) : Bool := J5 s r && (H8 s f && decide (f.1 = r.1))
def vals (m : List Int) (v : List Int) : List Int := m.map (at0 v)
theorem b1v {m v : List Int} {g : Nat} (h : g < m.length) (h2 : m[g].toNat < v.length) : vals (m.take g) v ++ [v[m[g].toNat]] = vals (m.take (g + 1)) v := by
 rw [List.take_succ_eq_append_getElem h, vals, vals, List.map_append]
 simp [G3 h2]
theorem b3e {m v : List Int} : (vals m v).length = m.length := by simp [vals]
theorem a6u {m v : List Int} {g : Nat} (h : m.length ≤ g) : vals (m.take g) v = vals m v := by rw [List.take_of_length_le h]
def c2B (s : List Int) (r : Int × Int × List Int) (f : Int × List Int) : Int := cond (b7j s r f) r.2.1 0
def c2r (s : List Int) (r : Int × Int × List Int) (f : Int × List Int) : List Int := cond (b7j s r f) (vals r.2.2 f.2) []
theorem b2u {s : List Int} {r : Int × Int × List Int} (h : J5 s r = true) : r.2.2.length ≤ 3 := by
 simp only [J5, Bool.and_eq_true, decide_eq_true_eq] at h
 have := Y0 h.2.1
 simp only [at0] at h; omega
end Go.Proofs.YtlfhopooaejpfaaGreat

namespace Go.Proofs.YtlfhopooaejpfaaGreat
set_option linter.unusedVariables false
def C1 (b : List Int × List Int) (t : Int) : Int :=
 if inR t 10 17 then (let i := J8 (fun x => decide (x = t)) (b.1.take (min b.1.length b.2.length)); if i < 0 then -1 else at0 b.2 i) else t
theorem V0 {b : List Int × List Int} {t : Int} (h : inR t 10 17 = false) : t = C1 b t := by simp [C1, h]
theorem b2o {b : List Int × List Int} {t : Int} (h : inR t 10 17 = true) (h2 : J8 (fun x => decide (x = t)) (b.1.take (min b.1.length b.2.length)) < 0) : -1 = C1 b t := by simp only [C1, h, if_true, if_pos h2]
theorem b3C {α : Type} {p : α → Bool} {s : List α} (h : ¬ J8 p s < 0) : 0 ≤ J8 p s ∧ (J8 p s).toNat < s.length := by
 unfold J8 at *
 by_cases q : s.any p = true
 ·rw [if_pos q] at h ⊢
  have := List.findIdx_lt_length.2 (List.any_eq_true.1 q)
  omega
 ·rw [if_neg q] at h; omega
theorem b7h {b : List Int × List Int} {t : Int} (h : inR t 10 17 = true) (h2 : ¬ J8 (fun x => decide (x = t)) (b.1.take (min b.1.length b.2.length)) < 0) (h3 : (J8 (fun x => decide (x = t)) (b.1.take (min b.1.length b.2.length))).toNat < b.2.length) :
  b.2[(J8 (fun x => decide (x = t)) (b.1.take (min b.1.length b.2.length))).toNat] = C1 b t := by
 simp only [C1, h, if_true, if_neg h2, G3 h3]
theorem a4P {b : List Int × List Int} {t : Int} {g : Nat} (h : inR t 10 17 = true) (h1 : g < b.1.length) (h2 : g < b.2.length) (e : b.1[g] = t) (pa : ∀ x ∈ b.1.take g, decide (x = t) = false) : b.2[g] = C1 b t := by
 have h3 : g < (b.1.take (min b.1.length b.2.length)).length := by simp; omega
 have hi := V4 (p := fun x => decide (x = t)) h3 (by rw [List.take_take, Nat.min_eq_left (by omega)]; exact pa) (by simp [e])
 have h4 : ¬ ((g : Nat) : Int) < 0 := by omega
 simp only [C1, h, if_true, ← hi, if_neg h4, G3 (i := (g : Int)) (s := b.2) (by simpa using h2)]
 rfl
theorem b0Y {b : List Int × List Int} {t : Int} {g : Nat} (h : inR t 10 17 = true) (h1 : ¬ (g < b.1.length ∧ g < b.2.length)) (pa : ∀ x ∈ b.1.take g, decide (x = t) = false) : -1 = C1 b t := by
 refine b2o h ?_
 rw [← S7 (p := fun x => decide (x = t)) (s := b.1.take (min b.1.length b.2.length)) (k := min b.1.length b.2.length) (by simp) ?_]
 ·omega
 ·intro x hx
  rw [List.take_take, Nat.min_self] at hx
  refine pa x ?_
  rw [List.mem_take_iff_getElem] at hx ⊢
  obtain ⟨i, hi, rfl⟩ := hx
  exact ⟨i, by omega, rfl⟩
theorem b2l {b : List Int × List Int} {t : Int} (h : I64 t) (hb : ∀ x ∈ b.2, I64 x) : I64 (C1 b t) := by
 simp only [C1]
 split
 ·split
  ·exact ⟨by decide, by decide⟩
  ·unfold at0
   rcases Nat.lt_or_ge (J8 (fun x => decide (x = t)) (b.1.take (min b.1.length b.2.length))).toNat b.2.length with h1 | h1
   ·rw [R7 h1]; exact hb _ (List.getElem_mem h1)
   ·have : b.2.getD (J8 (fun x => decide (x = t)) (b.1.take (min b.1.length b.2.length))).toNat 0 = 0 := by simp [List.getD, List.getElem?_eq_none h1]
    rw [this]; exact ⟨by decide, by decide⟩
 ·exact h
theorem a7P {b : List Int × List Int} {l : List Int} (h : ∀ x ∈ l, I64 x) (h1 : ∀ x ∈ b.1, I64 x) (h2 : ∀ x ∈ b.2, I64 x) : ∀ x ∈ l, I64 (C1 b x) := fun x hx => b2l (h x hx) h2
end Go.Proofs.YtlfhopooaejpfaaGreat

namespace Go.Proofs.YtlfhopooaejpfaaGreat
set_option linter.unusedVariables false
def pick {α : Type} (p : Nat → Bool) : List α → Nat → List α
 | [], _ => []
 | x :: xs, i => if p i then x :: pick p xs (i + 1) else pick p xs (i + 1)
theorem a8Q {α : Type} {p : Nat → Bool} : ∀ {xs ys : List α} {i : Nat}, pick p (xs ++ ys) i = pick p xs i ++ pick p ys (i + xs.length)
 | [], ys, i => by simp [pick]
 | x :: xs, ys, i => by
  simp only [List.cons_append, pick, a8Q (xs := xs), List.length_cons, show i + 1 + xs.length = i + (xs.length + 1) by omega]
  split <;> rfl
theorem a7t {α : Type} {p : Nat → Bool} {l : List α} {g : Nat} (h : g < l.length) (hp : p g = true) : pick p (l.take g) 0 ++ [l[g]] = pick p (l.take (g + 1)) 0 := by
 rw [List.take_succ_eq_append_getElem h, a8Q]
 simp [pick, hp, Nat.min_eq_left (Nat.le_of_lt h)]
theorem a5o {α : Type} {p : Nat → Bool} {l : List α} {g : Nat} (h : g < l.length) (hp : p g = false) : pick p (l.take g) 0 = pick p (l.take (g + 1)) 0 := by
 rw [List.take_succ_eq_append_getElem h, a8Q]
 simp [pick, hp, Nat.min_eq_left (Nat.le_of_lt h)]
theorem b0t {α : Type} {p : Nat → Bool} : ∀ {l : List α} {i : Nat}, (pick p l i).length ≤ l.length
 | [], _ => by simp [pick]
 | x :: xs, i => by
  have := b0t (p := p) (l := xs) (i := i + 1)
  simp only [pick]; split <;> simp <;> omega
theorem b0m {α : Type} {p : Nat → Bool} : ∀ {l : List α} {i : Nat}, (∀ j, p j = false) → pick p l i = []
 | [], _, _ => rfl
 | x :: xs, i, h => by simp [pick, h, b0m h]
def W1 (mask : Int) (i : Nat) : Bool := decide (0 < mask) && decide (X8 (mask / 2 ^ i) 1 = 1)
theorem a2d {mask : Int} {i : Nat} (h : 0 ≤ mask) : W1 mask i = decide (X8 (mask / 2 ^ i) 1 = 1) := by
 unfold W1
 rcases Int.lt_or_eq_of_le h with h | h
 ·simp [h]
 ·subst h; simp [X8]; decide
theorem a7J {mask : Int} {i : Nat} (h : ¬ 0 < mask) : W1 mask i = false := by simp [W1, h]
def a0q (l : List (Int × Int × List Int)) (mask : Int) : List (Int × Int × List Int) := pick (W1 mask) (l.take 20) 0
theorem a8w {l : List (Int × Int × List Int)} {mask : Int} {g : Nat} (h : l.length ≤ g ∨ 20 ≤ g) (h2 : g ≤ 20) (h3 : g ≤ l.length) : pick (W1 mask) (l.take g) 0 = a0q l mask := by
 unfold a0q
 rcases h with h | h
 ·rw [List.take_of_length_le h, List.take_of_length_le (by omega)]
 ·rw [show g = 20 by omega]
theorem b3U {l : List (Int × Int × List Int)} {mask : Int} (h : ¬ 0 < mask) {g : Nat} : pick (W1 mask) (l.take g) 0 = a0q l mask := by
 rw [a0q, b0m fun j => a7J h, b0m fun j => a7J h]
theorem P8 {P : Program} {Q : Exit → Act → World → Prop} {n : Nat} {w0 : World} {L0 : List Nat} {fr : Fr} {H : List HP} {d : Nat} {ty : TypeId} {pos : String} {af : Array Edge} {g : Option (Nat × Bool)} {α : Type} {E : Enc α} {T e e2 : TypeId} {agg : Bool} {k m2 : Nat} {z : List Value} {by' : Nat} {x y : Operand} {ad a2 : Option Addr} {c2 : Nat} {ys : List α} (hE : Plain E) (hT : P.underlying T = some (.slice e)) (ht : TyOk P e agg k z by') (hk : k = E.k)
  (hx : ev fr x = some (.slice ad 0 0)) (hy : ev fr y = some (.slice a2 m2 c2)) (hr : Ro w0 L0 (Enc.sl e2 E) [.slice a2 m2 c2] ys) (h63 : m2 ≤ 9223372036854775807) (hbytes : m2 * by' ≤ 140737488355328) (hd : d < n) :
  Nop P Q n w0 L0 fr H ⟨some d, .call ⟨.builtin .append, #[x, y], #[T, T]⟩, ty, pos, af, g⟩ true (κ := Option Addr × Nat) (fun p => (d, .slice p.1 m2 p.2) :: fr) (fun p => ow (Enc.sl e E) [.slice p.1 m2 p.2] ys :: H) (fun _ => True) := fun K hK a w ha hw => by
 subst hk
 obtain ⟨ccs, ⟨Lc, h1⟩, h2, h3⟩ := hr.src
 have hsrc : (m2 = 0 ∧ ccs = []) ∨ ∃ b o, a2 = some ⟨b, o, none⟩ ∧ K5 w b o ccs := by
  rcases h3 H with h | ⟨b, o, k1, k2⟩
  ·exact .inl h
  ·exact .inr ⟨b, o, k1, k2 w hw⟩
 have hy1 : D6 E w ccs ys [] true := (hE.elems h1).stable (by simp)
 have hm2 := hr.slen.1
 obtain ⟨a', c', w', L1', r1, r2, r3, r4, -⟩ := a2m (P := P) (ty := ty) (c2 := c2) hT ht E.pos (show (row e E.k ad 0 0 []).holds w [] from ⟨by simp, .inl ⟨rfl, rfl, rfl⟩⟩) hsrc (by rw [hy1.len, hm2]) hy1.one (by rw [Nat.zero_add]; exact h63) (by rw [Nat.zero_add]; exact hbytes)
 obtain ⟨L, hs, hn, hst⟩ := id hw
 obtain ⟨d1, d2, d3⟩ := b1l (xs := ([] : List α)) (m := 0) rfl hm2 (by rw [Nat.zero_add]; exact h63) ⟨rfl, rfl⟩ hy1 (by simp) r2 r3 r4
 obtain ⟨k1, k2, k3⟩ := Step.call (Lp := []) (Lr := L) (by simpa using hst) (by simpa using hn) hs.inh (by simpa using d3) d2
 have hrun : (execOp a.eval ⟨some d, .call ⟨.builtin .append, #[x, y], #[T, T]⟩, ty, pos, af, g⟩).run P w = .ok (.value (.slice a' (0 + m2) c')) w' := by
  simp only [execOp, resolve, ha.ev hx, ha.ev hy, List.map_toArray, List.map_cons, List.map_nil, Sem.run_bind, Sem.run_pure, Result.andThen_ok, invoke, builtin, r1]
 simp only [Nat.zero_add, List.nil_append] at d1 hrun
 rw [Oper.wp, hrun]
 exact hK (a', c') trivial w _ _ (ha.put hd _) ⟨_, ⟨_, L, rfl, d1, hs.stable k3⟩, k2, k1⟩ (fun _ => r4.below)
theorem a9X {P : Program} {n : Nat} {fr : Fr} {x y : Operand} {T U : TypeId} {a : Int} {b : Nat} (hx : ev fr x = some (.int .i64 a)) (hy : ev fr y = some (.int .i64 (b : Int))) (h1 : b ≤ 64) : Yp P n fr (.binOp .shr T x y U) (.int .i64 (a / 2 ^ b)) := by
 have := Y.shr (P := P) (n := n) (T := T) (U := U) hx hy (by omega) (by omega)
 simpa using this
theorem b5A {l : List (Int × Int × List Int)} {mask : Int} {g : Nat} (h : (l.take (min 20 l.length)).length ≤ g) : pick (W1 mask) ((l.take (min 20 l.length)).take g) 0 = a0q l mask := by
 rw [List.take_of_length_le h, a0q]
 rcases Nat.le_total 20 l.length with h1 | h1
 ·rw [Nat.min_eq_left h1]
 ·rw [Nat.min_eq_right h1, List.take_of_length_le (Nat.le_refl _), List.take_of_length_le h1]
end Go.Proofs.YtlfhopooaejpfaaGreat
